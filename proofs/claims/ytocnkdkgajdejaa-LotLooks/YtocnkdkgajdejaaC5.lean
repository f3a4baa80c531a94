import Derived.Test.YtocnkdkgajdejaaC4
/- layer 3: who can get which plot, who can change places, and the least draw are the documents -/
/- Contracts of the document's functions: who can get which plot, who can change places, which draw breaks the fewest rules. -/
set_option linter.unusedSimpArgs false
set_option linter.unusedVariables false
set_option maxRecDepth 20000
namespace Go.Proofs.Ytocnkdkgajdejaa.G
open Go.V Go.Lot
section
variable {W : World} {K : VK} {E : List PanicEntry → Hp → Prop} {s : Hp} {L : Lts}
theorem f_often {x : Option Addr} {l c m p : Nat} (ha : AllAt s x l (allD L)) (hn : L.n ≤ 8) (hp : p < L.n) (h : K (.int .i64 ((ofN L m p : Nat) : Int)) s) : CALL Pg W F_ref03_often [.slice x l c, .int .i64 m, .int .i64 p] K E s := by
  have hlen := ha.len
  have hcl := cntAny_len (L := L) hn
  have hcu : cntAll L anyC = cnt L anyC (full L.n) 8 := rfl
  have hle := cnt_le L anyC hn (full L.n) 8
  refine does_ref03_often W x l c m p _ s ?_
  unfold T_ref03_often
  refine L_ref03_often_0_rule W _ x l c m p (fun n6 n7 t => t = s ∧ ∃ k : Nat, k ≤ (allD L).length ∧ n7 = k ∧ n6 = ((((allD L).take k).filter fun d => d.getD p 0 == m).length : Nat)) (fun _ n7 _ => ((allD L).length - n7).toNat) 0 0 s ⟨rfl, 0, by omega, rfl, by simp⟩ ?_
  rintro n6 n7 t ⟨rfl, k, hk, rfl, rfl⟩
  unfold B_ref03_often_0
  refine BR_dec (fun h1 => ?_) (fun h1 => ?_)
  · have hkl : k < (allD L).length := by omega
    obtain ⟨a, y, cy, g1, g2, g3⟩ := ha.row k hkl
    have tk : ((k : Int)).toNat = k := by omega
    have tp : ((p : Int)).toNat = p := by omega
    refine ⟨a, g1, ⟨by omega, by omega⟩, _, _, _, by rw [tk]; exact g2, ?_⟩
    have hpm := ((mem_allD hn).1 (List.getElem_mem hkl)).1.len
    obtain ⟨b, hb, g4⟩ := row_at g3 (show p < (allD L)[k].length by omega)
    refine ⟨b, hb, ⟨by omega, by omega⟩, _, by rw [tp]; exact g4, ?_⟩
    have hw : IntKind.i64.wrap ((k : Int) + 1) = ((k + 1 : Nat) : Int) := by rw [wrap_i64 (by omega) (by omega)]; rfl
    have hms : (((allD L).length : Int) - IntKind.i64.wrap ((k : Int) + 1)).toNat < (((allD L).length : Int) - k).toNat := by rw [hw]; omega
    have hfl : (((allD L).take k).filter fun d => d.getD p 0 == m).length ≤ (allD L).length := Nat.le_trans (List.length_filter_le _ _) (by rw [List.length_take]; omega)
    have htk : (allD L).take (k + 1) = (allD L).take k ++ [(allD L)[k]] := by rw [List.take_add_one, List.getElem?_eq_getElem hkl]; rfl
    refine BR_eq (fun h2 => ?_) (fun h2 => ?_)
    · have h2' : (allD L)[k].getD p 0 = m := by omega
      refine ⟨rfl, _, _, rfl, ⟨rfl, k + 1, by omega, hw, ?_⟩, hms⟩
      rw [htk, List.filter_append, List.length_append, wrap_i64 (by omega) (by omega)]
      have : ([(allD L)[k]].filter fun d => d.getD p 0 == m) = [(allD L)[k]] := by rw [List.filter_cons, if_pos (beq_iff_eq.2 h2')]; rfl
      rw [this]; simp
    · have h2' : ¬ (allD L)[k].getD p 0 = m := fun e => h2 (by rw [e])
      refine ⟨rfl, _, _, rfl, ⟨rfl, k + 1, by omega, hw, ?_⟩, hms⟩
      rw [htk, List.filter_append, List.length_append]
      have : ([(allD L)[k]].filter fun d => d.getD p 0 == m) = [] := by rw [List.filter_cons, if_neg (fun hh => h2' (beq_iff_eq.1 hh))]; rfl
      rw [this]; simp
  · have hkl : k = (allD L).length := by omega
    subst hkl
    rw [List.take_length, ← ofN_eq hn hp]
    exact h
theorem f_Can {x : Option Addr} {c : Nat} {man : Int} (hm : MenAt s x L.men) (hn : L.n ≤ 100000) (h : ∀ s', Ext s s' → K (.tuple #[.int .i64 (canP L man).1, .int .i64 (canP L man).2]) s') :
    CALL Pg W F_ref03_Can [.agg #[.slice x L.n c, .int .i64 L.worst], .int .i64 man] K E s := by
  refine does_ref03_Can W x L.n c L.worst man _ s ?_
  unfold T_ref03_Can
  refine NEW_rule fun s1 e1 z1 n1 _ => ?_
  have c0 := (n1 0 _ rfl).cell
  have c1 := (n1 1 _ rfl).cell
  refine ⟨_, _, _, c0, _, c1, ?_⟩
  refine f_Lots (hm.ext e1) hn fun s2 e2 => ?_
  try simp only [TUP_mk, AGG_mk, HD_mk, NL_mk, TYI_mk, TYB_mk, TYP_mk, TYL_mk, TYS_mk, TYM_mk, SO_mk, NX_mk, endK_mk, endK_mk', add_0]
  refine BR_not (fun hv => ?_) (fun hv => ?_)
  · have hc : canP L man = (0, 1) := by unfold canP; rw [hv]; rfl
    rw [hc] at h
    exact h s2 (e1.trans e2)
  have hn8 := (vd_iff.1 hv).hi
  have e02 := e1.trans e2
  refine ⟨_, _, _, e2.cell c0, _, e2.cell c1, ?_⟩
  refine f_Man hn fun s3 e3 => ?_
  try simp only [TUP_mk, AGG_mk, HD_mk, NL_mk, TYI_mk, TYB_mk, TYP_mk, TYL_mk, TYS_mk, TYM_mk, SO_mk, NX_mk, endK_mk, endK_mk', add_0]
  have e03 := e02.trans e3
  have e13 := e2.trans e3
  refine BR_not (fun hb => ?_) (fun hb => ?_)
  · have hb' := of_decide_eq_false hb
    have hc : canP L man = (0, 2) := by unfold canP; rw [hv, if_pos rfl, if_neg (by omega)]
    rw [hc] at h
    exact h s3 e03
  have hb' := of_decide_eq_true hb
  obtain ⟨m, rfl⟩ := Int.eq_ofNat_of_zero_le hb'.1
  refine ⟨_, _, _, e13.cell c0, _, e13.cell c1, ?_⟩
  refine f_All (hm.ext e03) hv fun s4 y l' c' e4 ha => ?_
  try simp only [TUP_mk, AGG_mk, HD_mk, NL_mk, TYI_mk, TYB_mk, TYP_mk, TYL_mk, TYS_mk, TYM_mk, SO_mk, NX_mk, endK_mk, endK_mk', add_0]
  have e14 := e13.trans e4
  have hc : canP L (m : Int) = (((canSet L m L.n : Nat) : Int), 0) := by unfold canP; rw [hv, if_pos rfl, if_pos (by omega)]; rfl
  rw [hc] at h
  refine L_ref03_Can_0_rule W _ m ⟨s.size, 0, none⟩ y l' c' (fun n i t => Ext s4 t ∧ ∃ k : Nat, k ≤ L.n ∧ i = k ∧ n = (canSet L m k : Nat)) (fun _ i _ => (L.n - i).toNat) 0 0 s4 ⟨Ext.refl _, 0, by omega, rfl, rfl⟩ ?_
  rintro n i t ⟨et, k, hk, rfl, rfl⟩
  have e1t := e14.trans et
  unfold B_ref03_Can_0
  refine ⟨_, _, _, e1t.cell c0, ?_⟩
  refine BR_dec (fun h1 => ?_) (fun h1 => ?_)
  · have hkl : k < L.n := by omega
    have hw : IntKind.i64.wrap ((k : Int) + 1) = ((k + 1 : Nat) : Int) := by rw [wrap_i64 (by omega) (by omega)]; rfl
    have hms : ((L.n : Int) - IntKind.i64.wrap ((k : Int) + 1)).toNat < ((L.n : Int) - k).toNat := by rw [hw]; omega
    have hsucc : canSet L m (k + 1) = if 0 < ofN L m k then canSet L m k ||| 2 ^ k else canSet L m k := rfl
    refine f_often (ha.ext et) hn8 hkl ?_
    try simp only [TUP_mk, AGG_mk, HD_mk, NL_mk, TYI_mk, TYB_mk, TYP_mk, TYL_mk, TYS_mk, TYM_mk, SO_mk, NX_mk, endK_mk, endK_mk', add_0]
    refine BR_dec (fun h2 => ?_) (fun h2 => ?_)
    · refine f_power (by omega) ?_
      try simp only [TUP_mk, AGG_mk, HD_mk, NL_mk, TYI_mk, TYB_mk, TYP_mk, TYL_mk, TYS_mk, TYM_mk, SO_mk, NX_mk, endK_mk, endK_mk', add_0]
      unfold J_ref03_Can_0
      refine ⟨rfl, _, _, rfl, ⟨et, k + 1, by omega, hw, ?_⟩, hms⟩
      rw [if_pos (by omega)] at hsucc
      have hlt := canSet_lt L m k
      have h256 : canSet L m k < 256 := Nat.lt_of_lt_of_le hlt (show 2 ^ k ≤ 2 ^ 8 from Nat.pow_le_pow_right (by omega) (by omega))
      have hbit : (canSet L m k).testBit k = false := by rw [canSet_bit L m k k]; simp
      have hadd := add_or _ h256 k (by omega) hbit
      have hp : 2 ^ k ≤ 2 ^ 8 := Nat.pow_le_pow_right (by omega) (by omega)
      have hp' : 2 ^ k ≤ 256 := hp
      rw [hsucc, ← hadd]
      generalize 2 ^ k = P at hp' ⊢
      rw [wrap_i64 (by omega) (by omega)]; rfl
    · unfold J_ref03_Can_0
      refine ⟨rfl, _, _, rfl, ⟨et, k + 1, by omega, hw, ?_⟩, hms⟩
      rw [if_neg (by omega)] at hsucc
      rw [hsucc]
  · have hkl : k = L.n := by omega
    subst hkl
    exact h t (e1.trans e1t)
theorem f_Often {x : Option Addr} {c : Nat} {man plot : Int} (hm : MenAt s x L.men) (hn : L.n ≤ 100000) (h : ∀ s', Ext s s' → K (.tuple #[.int .i64 (oftenP L man plot).1, .int .i64 (oftenP L man plot).2]) s') :
    CALL Pg W F_ref03_Often [.agg #[.slice x L.n c, .int .i64 L.worst], .int .i64 man, .int .i64 plot] K E s := by
  refine does_ref03_Often W x L.n c L.worst man plot _ s ?_
  unfold T_ref03_Often
  refine NEW_rule fun s1 e1 z1 n1 _ => ?_
  have c0 := (n1 0 _ rfl).cell
  have c1 := (n1 1 _ rfl).cell
  refine ⟨_, _, _, c0, _, c1, ?_⟩
  refine f_Lots (hm.ext e1) hn fun s2 e2 => ?_
  try simp only [TUP_mk, AGG_mk, HD_mk, NL_mk, TYI_mk, TYB_mk, TYP_mk, TYL_mk, TYS_mk, TYM_mk, SO_mk, NX_mk, endK_mk, endK_mk', add_0]
  refine BR_not (fun hv => ?_) (fun hv => ?_)
  · have hc : oftenP L man plot = (0, 1) := by unfold oftenP; rw [hv]; rfl
    rw [hc] at h
    exact h s2 (e1.trans e2)
  have hn8 := (vd_iff.1 hv).hi
  have e02 := e1.trans e2
  have bad : ¬ ((0 ≤ man ∧ man < L.n) ∧ 0 ≤ plot ∧ plot < L.n) → ∀ t, Ext s1 t → J_ref03_Often_0 W (endK K E) true s.size man plot t := by
    intro hno t et
    have hc : oftenP L man plot = (0, 2) := by unfold oftenP; rw [hv, if_pos rfl, if_neg hno]
    rw [hc] at h
    unfold J_ref03_Often_0
    exact BR_bool (fun _ => h t (e1.trans et)) (fun hh => by cases hh)
  refine ⟨_, _, _, e2.cell c0, _, e2.cell c1, ?_⟩
  refine f_Man hn fun s3 e3 => ?_
  try simp only [TUP_mk, AGG_mk, HD_mk, NL_mk, TYI_mk, TYB_mk, TYP_mk, TYL_mk, TYS_mk, TYM_mk, SO_mk, NX_mk, endK_mk, endK_mk', add_0]
  have e03 := e02.trans e3
  have e13 := e2.trans e3
  refine BR_not (fun hb => ?_) (fun hb => ?_)
  · have hb' := of_decide_eq_false hb
    exact bad (by omega) s3 e13
  have hb' := of_decide_eq_true hb
  refine ⟨_, _, _, e13.cell c0, _, e13.cell c1, ?_⟩
  refine f_Man hn fun s4 e4 => ?_
  try simp only [TUP_mk, AGG_mk, HD_mk, NL_mk, TYI_mk, TYB_mk, TYP_mk, TYL_mk, TYS_mk, TYM_mk, SO_mk, NX_mk, endK_mk, endK_mk', add_0]
  have e04 := e03.trans e4
  have e14 := e13.trans e4
  by_cases hp : 0 ≤ plot ∧ plot ≤ (L.n : Int) - 1
  · rw [decide_eq_true hp]
    obtain ⟨m, rfl⟩ := Int.eq_ofNat_of_zero_le hb'.1
    obtain ⟨q, rfl⟩ := Int.eq_ofNat_of_zero_le hp.1
    unfold J_ref03_Often_0
    refine BR_bool (fun hh => by cases hh) (fun _ => ?_)
    refine ⟨_, _, _, e14.cell c0, _, e14.cell c1, ?_⟩
    refine f_All (hm.ext e04) hv fun s5 y l' c' e5 ha => ?_
    try simp only [TUP_mk, AGG_mk, HD_mk, NL_mk, TYI_mk, TYB_mk, TYP_mk, TYL_mk, TYS_mk, TYM_mk, SO_mk, NX_mk, endK_mk, endK_mk', add_0]
    refine f_often (m := m) (p := q) ha hn8 (by omega) ?_
    try simp only [TUP_mk, AGG_mk, HD_mk, NL_mk, TYI_mk, TYB_mk, TYP_mk, TYL_mk, TYS_mk, TYM_mk, SO_mk, NX_mk, endK_mk, endK_mk', add_0]
    have hc : oftenP L m q = (((ofN L m q : Nat) : Int), 0) := by unfold oftenP; rw [hv, if_pos rfl, if_pos (by omega)]; rfl
    rw [hc] at h
    exact h s5 (e04.trans e5)
  · rw [decide_eq_false hp]
    exact bad (by omega) s4 e14
theorem f_Lawful {x y : Option Addr} {c c' l : Nat} {d : List Nat} (hm : MenAt s x L.men) (hv : valid L = true) (pd : Perm0 L.n d) (hy : RowAt s y (vals d)) (hl : l = d.length) (h : ∀ s', Ext s s' → K (.bool (wrong L d).isNone) s') :
    CALL Pg W F_ref03_Lawful [.agg #[.slice x L.n c, .int .i64 L.worst], .slice y l c'] K E s := by
  subst hl
  have hn8 := (vd_iff.1 hv).hi
  refine does_ref03_Lawful W x L.n c L.worst y _ c' _ s ?_
  unfold T_ref03_Lawful
  refine NEW_rule fun s1 e1 z1 n1 _ => ?_
  have c0 := (n1 0 _ rfl).cell
  have c1 := (n1 1 _ rfl).cell
  refine ⟨_, _, _, c0, _, c1, ?_⟩
  refine f_FullN pd (hy.ext e1) rfl hn8 fun s2 e2 => ?_
  try simp only [TUP_mk, AGG_mk, HD_mk, NL_mk, TYI_mk, TYB_mk, TYP_mk, TYL_mk, TYS_mk, TYM_mk, SO_mk, NX_mk, endK_mk, endK_mk', add_0]
  refine BR_bool (fun _ => ?_) (fun hh => by cases hh)
  refine ⟨_, _, _, e2.cell c0, _, e2.cell c1, ?_⟩
  have e02 := e1.trans e2
  refine f_broken (hm.ext e02) (hy.ext e02) hv pd.lt (by rw [pd.len]; exact Nat.le_refl _) fun s3 e3 => ?_
  try simp only [TUP_mk, AGG_mk, HD_mk, NL_mk, TYI_mk, TYB_mk, TYP_mk, TYL_mk, TYS_mk, TYM_mk, SO_mk, NX_mk, endK_mk, endK_mk', add_0]
  have := h s3 (e02.trans e3)
  have hz := cost_zero (L := L) (d := d)
  have e : ((((brokenK L d d.length : Nat) : Int)) == 0) = (wrong L d).isNone := by
    by_cases h0 : wrong L d = none
    · rw [hz.2 h0, h0]; rfl
    · have h1 : brokenK L d d.length ≠ 0 := fun hh => h0 (hz.1 hh)
      have h2 : (((brokenK L d d.length : Nat) : Int) == 0) = false := by rw [beq_eq_false_iff_ne]; omega
      rw [h2]
      cases hw : wrong L d with
      | none => exact absurd hw h0
      | some _ => rfl
  rw [← e] at this
  exact this
theorem f_Swapped {x : Option Addr} {c l a b : Nat} {d : List Nat} (hx : RowAt s x (vals d)) (hl : l = d.length) (ha : a < d.length) (hb : b < d.length) (h8 : d.length ≤ 100) (h : ∀ s' y c, Ext s s' → RowAt s' y (vals (swp d a b)) → K (.slice y d.length c) s') :
    CALL Pg W F_ref03_Swapped [.slice x l c, .int .i64 a, .int .i64 b] K E s := by
  refine does_ref03_Swapped W x l c a b _ s ?_
  unfold T_ref03_Swapped
  exact copy_swap hx hl ha hb h8 fun s' y c e hr => h s' y c e hr
/-- A list of pairs of one's own, and new. -/
structure Ps (lo : Nat) (s : Hp) (x : Option Addr) (l c : Nat) (ps : List (Nat × Nat)) : Prop where
  fr : Fr lo s x l c 2 (pvals ps)
  lt : ∀ b, x = some b → b.block < s.size
theorem Ps.ext {lo : Nat} {s s' : Hp} {x : Option Addr} {l c : Nat} {d : List (Nat × Nat)} (e : Ext s s') (h : Ps lo s x l c d) : Ps lo s' x l c d := ⟨h.fr.ext e, fun b hb => Nat.lt_of_lt_of_le (h.lt b hb) e.1⟩
theorem Ps.len {lo : Nat} {s : Hp} {x : Option Addr} {l c : Nat} {d : List (Nat × Nat)} (h : Ps lo s x l c d) : l = d.length := by have := h.fr.len; rw [pvals_len] at this; omega
theorem ps_add {lo l c n m y : Nat} {x : Option Addr} {d : List (Nat × Nat)} {KK : Option Addr → Nat → Nat → Hp → Prop} (hx : Ps lo s x l c d) (hlo : lo ≤ s.size) (hy : RowAt s (some ⟨y, 0, none⟩) (pvals [(n, m)])) (h8 : d.length ≤ 1000)
    (h : ∀ s' x' c', Kp (fun b => ∃ a, x = some a ∧ a.block = b) s s' → Ps lo s' x' (l + 1) c' (d ++ [(n, m)]) → KK x' (l + 1) c' s') :
    APP Pg 57 2 x l c (some ⟨y, 0, none⟩) 1 KK s := by
  have hl := hx.len
  refine APP_fr (ws := pvals [(n, m)]) hx.fr hlo hy rfl zc_57 rfl (by omega) (pvals_one _) (by omega) ?_
  intro s' x' c' k g f
  rw [← pvals_app] at f
  refine h s' x' c' k ⟨f, fun b hb => ?_⟩
  subst hb
  have hpos : 0 < (pvals (d ++ [(n, m)])).length := by rw [pvals_len]; simp
  exact (f.buf.at hpos).lt
theorem f_Swaps {x y : Option Addr} {c c' : Nat} {ds : List Int} (hm : MenAt s x L.men) (hy : RowAt s y (ints ds)) (hn : L.n ≤ 100000) (hlen : ds.length ≤ 100000)
    (h1 : ∀ s' v, Ext s s' → valid L = true → okDraw L ds → wrong L (ds.map Int.toNat) = none → OutP s' (swapsP L (ds.map Int.toNat)) v → K (.tuple #[v, .int .i64 0]) s')
    (h2 : ∀ s', Ext s s' → errP L ds ≠ 0 → K (.tuple #[.slice none 0 0, .int .i64 (errP L ds)]) s') :
    CALL Pg W F_ref03_Swaps [.agg #[.slice x L.n c, .int .i64 L.worst], .slice y ds.length c'] K E s := by
  refine does_ref03_Swaps W x L.n c L.worst y ds.length c' _ s ?_
  unfold T_ref03_Swaps
  refine NEW_rule fun s1 e1 z1 n1 _ => ?_
  have c0 := (n1 0 _ rfl).cell
  have c1 := (n1 1 _ rfl).cell
  refine ⟨_, _, _, c0, _, c1, ?_⟩
  refine f_Check (hm.ext e1) (hy.ext e1) hn hlen fun s2 e2 => ?_
  try simp only [TUP_mk, AGG_mk, HD_mk, NL_mk, TYI_mk, TYB_mk, TYP_mk, TYL_mk, TYS_mk, TYM_mk, SO_mk, NX_mk, endK_mk, endK_mk', add_0]
  have e02 := e1.trans e2
  cases hv : valid L with
  | false =>
    have hc : checkP L ds = (0, 0, 1) := by unfold checkP; rw [hv]; rfl
    have he : errP L ds = 1 := by unfold errP; rw [hv]; rfl
    rw [hc]
    refine BR_eq (fun hh => absurd hh (by decide)) (fun _ => ?_)
    refine BR_ne (fun _ => ?_) (fun hh => absurd hh (by decide))
    have := h2 s2 e02 (by rw [he]; decide)
    rw [he] at this
    exact this
  | true =>
  rcases Classical.em (¬ okDraw L ds) with hok | hok
  · have hc : checkP L ds = (0, 0, 2) := by unfold checkP; rw [hv, if_pos rfl, if_neg hok]
    have he : errP L ds = 2 := by unfold errP; rw [hv, if_pos rfl, if_neg hok]
    rw [hc]
    refine BR_eq (fun hh => absurd hh (by decide)) (fun _ => ?_)
    refine BR_ne (fun _ => ?_) (fun hh => absurd hh (by decide))
    have := h2 s2 e02 (by rw [he]; decide)
    rw [he] at this
    exact this
  have hok := Classical.not_not.1 hok
  obtain ⟨d, rfl, pd⟩ := ok_nat hok
  cases hw : wrong L d with
  | some p =>
    obtain ⟨i, r⟩ := p
    have hc : checkP L (d.map fun (n : Nat) => (n : Int)) = (((i : Nat) : Int), ((r : Nat) : Int), 0) := by unfold checkP; rw [hv, if_pos rfl, if_pos hok, map_back, hw]
    have he : errP L (d.map fun (n : Nat) => (n : Int)) = 4 := by unfold errP; rw [hv, if_pos rfl, if_pos hok, map_back, hw]
    rw [hc]
    refine BR_eq (fun _ => ?_) (fun hh => absurd rfl hh)
    have := h2 s2 e02 (by rw [he]; decide)
    rw [he] at this
    exact this
  | none =>
  have hc : checkP L (d.map fun (n : Nat) => (n : Int)) = (0, 0, 4) := by unfold checkP; rw [hv, if_pos rfl, if_pos hok, map_back, hw]
  rw [hc]
  refine BR_eq (fun hh => absurd hh (by decide)) (fun _ => ?_)
  refine BR_ne (fun hh => absurd rfl hh) (fun _ => ?_)
  have hn8 := (vd_iff.1 hv).hi
  have hdl := pd.len
  rw [map_back, swapsP_eq] at h1
  rw [ints_vals] at hy
  have hll : (d.map fun (n : Nat) => (n : Int)).length = d.length := by rw [List.length_map]
  rw [hll]
  have hbound := fun k => swD_len L d d.length k
  refine L_ref03_Swaps_0_rule W _ y d.length c' ⟨s.size, 0, none⟩ (fun xs ls cs n t => Ext s2 t ∧ ∃ k : Nat, k ≤ d.length ∧ n = k ∧ Ps s2.size t xs ls cs (swD L d d.length k)) (fun _ _ _ n _ => (d.length - n).toNat) none 0 0 0 s2 ⟨Ext.refl _, 0, by omega, rfl, ⟨Fr.nil _ _ _, fun b hb => by cases hb⟩⟩ ?_
  rintro xs ls cs n t ⟨et, a, hal, rfl, hps⟩
  unfold B_ref03_Swaps_0
  refine BR_dec (fun h3 => ?_) (fun h3 => ?_)
  · have had : a < d.length := by omega
    have hwa : IntKind.i64.wrap ((a : Int) + 1) = ((a + 1 : Nat) : Int) := by rw [wrap_i64 (by omega) (by omega)]; rfl
    have hmsa : ((d.length : Int) - IntKind.i64.wrap ((a : Int) + 1)).toNat < ((d.length : Int) - a).toNat := by rw [hwa]; omega
    refine L_ref03_Swaps_1_rule W _ _ y d.length c' ⟨s.size, 0, none⟩ a (fun xs ls cs n t' => Ext s2 t' ∧ ∃ k : Nat, a < k ∧ k ≤ d.length ∧ n = k ∧ Ps s2.size t' xs ls cs (swD L d d.length a ++ swR L d a k)) (fun _ _ _ n _ => (d.length - n).toNat) xs ls cs _ t ⟨et, a + 1, by omega, by omega, hwa, by rw [swR_low L d a (a + 1) (Nat.le_refl _), List.append_nil]; exact hps⟩ ?_
    rintro xs1 ls1 cs1 n1' t' ⟨et', b, hab, hbl, rfl, hps1⟩
    have hwb : IntKind.i64.wrap ((b : Int) + 1) = ((b + 1 : Nat) : Int) := by rw [wrap_i64 (by omega) (by omega)]; rfl
    unfold B_ref03_Swaps_1
    refine BR_dec (fun h4 => ?_) (fun h4 => ?_)
    · have hbd : b < d.length := by omega
      have hmsb : ((d.length : Int) - IntKind.i64.wrap ((b : Int) + 1)).toNat < ((d.length : Int) - b).toNat := by rw [hwb]; omega
      have e1t := e2.trans et'
      have e0t := e1.trans e1t
      refine ⟨_, _, _, e1t.cell c0, _, e1t.cell c1, ?_⟩
      refine f_Swapped (hy.ext e0t) rfl had hbd (by omega) fun t2 z cz f2 hz => ?_
      try simp only [TUP_mk, AGG_mk, HD_mk, NL_mk, TYI_mk, TYB_mk, TYP_mk, TYL_mk, TYS_mk, TYM_mk, SO_mk, NX_mk, endK_mk, endK_mk', add_0]
      have e1t2 := e1t.trans f2
      refine ⟨⟨_, _, _, e1t2.cell c0, _, e1t2.cell c1, rfl⟩, ?_⟩
      have pd2 : Perm0 L.n (swp d a b) := pd.swp (by omega) (by omega)
      refine f_Lawful (hm.ext (e1.trans e1t2)) hv pd2 hz (swp_len d a b).symm fun t3 f3 => ?_
      try simp only [TUP_mk, AGG_mk, HD_mk, NL_mk, TYI_mk, TYB_mk, TYP_mk, TYL_mk, TYS_mk, TYM_mk, SO_mk, NX_mk, endK_mk, endK_mk', add_0]
      have hsucc := swR_succ L d a b
      have hps3 := (hps1.ext f2).ext f3
      have e23 := et'.trans (f2.trans f3)
      have hokd : okSw L d a b = (wrong L (swp d a b)).isNone := rfl
      refine BR_bool (fun h5 => ?_) (fun h5 => ?_)
      · rw [if_pos ⟨hab, by rw [hokd]; exact h5⟩] at hsucc
        refine NEW_rule fun t4 e4 z4 n4 _ => ?_
        have hb1 := hbound a
        have hb2 := swR_len L d a b
        have hmul : a * d.length ≤ 8 * 8 := Nat.mul_le_mul (by omega) (by omega)
        refine ps_add (hps3.ext e4) (Nat.le_trans e23.1 e4.1) (row_new n4) (by rw [List.length_append]; omega) fun t5 x5 c5 k5 hps5 => ?_
        unfold J_ref03_Swaps_0
        have e24 := e23.trans e4
        refine ⟨rfl, _, _, _, _, rfl, ⟨⟨Nat.le_trans e24.1 k5.1, fun q hq => ?_⟩, b + 1, by omega, by omega, hwb, ?_⟩, hmsb⟩
        · rw [k5.2 q (Nat.lt_of_lt_of_le hq e24.1) (fun ⟨a', ha', hab'⟩ => by have := hps1.fr.fr a' ha'; omega)]
          exact e24.2 q hq
        · rw [hsucc, ← List.append_assoc]; exact hps5
      · rw [if_neg (fun hh => by rw [hokd, h5] at hh; cases hh.2), List.append_nil] at hsucc
        unfold J_ref03_Swaps_0
        refine ⟨rfl, _, _, _, _, rfl, ⟨e23, b + 1, by omega, by omega, hwb, by rw [hsucc]; exact hps3⟩, hmsb⟩
    · have hbd : b = d.length := by omega
      subst hbd
      refine ⟨rfl, _, _, _, _, rfl, ⟨et', a + 1, by omega, hwa, by rw [swD_succ]; exact hps1⟩, hmsa⟩
  · have had : a = d.length := by omega
    subst had
    refine h1 t _ (e02.trans et) hv hok hw ⟨xs, cs, by rw [hps.len], hps.fr.row⟩
theorem f_Least {x : Option Addr} {c : Nat} (hm : MenAt s x L.men) (hn : L.n ≤ 100000)
    (h1 : ∀ s' v, Ext s s' → valid L = true → Out s' (leastD L L.n (full L.n) 8) v → K (.tuple #[.int .i64 ((few L (full L.n) 8).1 : Nat), v, .int .i64 0]) s')
    (h3 : ∀ s', Ext s s' → valid L = false → K (.tuple #[.int .i64 0, .slice none 0 0, .int .i64 1]) s') :
    CALL Pg W F_ref03_Least [.agg #[.slice x L.n c, .int .i64 L.worst]] K E s := by
  refine does_ref03_Least W x L.n c L.worst _ s ?_
  unfold T_ref03_Least
  refine NEW_rule fun s1 e1 z1 n1 _ => ?_
  have c0 := (n1 0 _ rfl).cell
  have c1 := (n1 1 _ rfl).cell
  refine ⟨_, _, _, c0, _, c1, ?_⟩
  refine f_Lots (hm.ext e1) hn fun s2 e2 => ?_
  try simp only [TUP_mk, AGG_mk, HD_mk, NL_mk, TYI_mk, TYB_mk, TYP_mk, TYL_mk, TYS_mk, TYM_mk, SO_mk, NX_mk, endK_mk, endK_mk', add_0]
  refine BR_not (fun hv => h3 s2 (e1.trans e2) hv) (fun hv => ?_)
  have hn8 := (vd_iff.1 hv).hi
  have hfew : fewA L ≤ 27 := few_le L (full L.n) 8
  have hleast := fun most => goOn_least (L := L) hn8 (most := most)
  refine L_ref03_Least_0_rule W _ ⟨s.size, 0, none⟩ (fun _ _ _ _ _ n t => Ext s2 t ∧ ∃ k : Nat, k ≤ fewA L ∧ n = k) (fun _ _ _ _ _ n _ => (fewA L - n).toNat) 0 none 0 0 0 0 s2 ⟨Ext.refl _, 0, by omega, rfl⟩ ?_
  rintro n13 x14 l15 c16 n17 n18 t ⟨et, k, hk, rfl⟩
  have e1t := e2.trans et
  have e0t := e1.trans e1t
  unfold B_ref03_Least_0
  refine ⟨_, _, _, e1t.cell c0, _, e1t.cell c1, ?_⟩
  refine f_goOnN (most := k) (d := []) (xb := none) hv (by omega) (by simp) (by simp) (by simp) (hm.ext e0t) (fun i hi => by simp [vals] at hi) rfl (by simp) fun t2 y l' c' f2 ha => ?_
  try simp only [TUP_mk, AGG_mk, HD_mk, NL_mk, TYI_mk, TYB_mk, TYP_mk, TYL_mk, TYS_mk, TYM_mk, SO_mk, NX_mk, endK_mk, endK_mk', add_0]
  have hll := ha.len
  refine BR_dec (fun h4 => ?_) (fun h4 => ?_)
  · have hkf : k = fewA L := by
      rcases Nat.lt_or_ge k (fewA L) with h5 | h5
      · have := (hleast k).1 h5
        have h6 : goOnF L.n (cost L) k (L.n - ([] : List Nat).length) [] = [] := this
        rw [h6] at hll
        simp at hll
        omega
      · omega
    have hpos : 0 < (goOnF L.n (cost L) k (L.n - ([] : List Nat).length) []).length := by omega
    have hg := (hleast k).2 hkf
    have hg' : (goOnF L.n (cost L) k (L.n - ([] : List Nat).length) [])[0]? = some (leastA L) := hg
    rw [List.getElem?_eq_getElem hpos] at hg'
    obtain ⟨a, z, cz, g1, g2, g3⟩ := ha.row 0 hpos
    injection hg' with hg'
    rw [hg'] at g2 g3
    refine ⟨a, g1, ⟨by omega, by omega⟩, _, _, _, g2, ?_⟩
    refine ⟨⟨_, _, _, g2, rfl⟩, ?_⟩
    subst hkf
    exact h1 t2 _ (e0t.trans f2) hv ⟨z, cz, rfl, g3⟩
  · have hkf : k ≠ fewA L := fun h5 => by
      have hg := (hleast k).2 h5
      have hg' : (goOnF L.n (cost L) k (L.n - ([] : List Nat).length) [])[0]? = some (leastA L) := hg
      have h0 : (goOnF L.n (cost L) k (L.n - ([] : List Nat).length) []).length = 0 := by omega
      rw [List.eq_nil_of_length_eq_zero h0] at hg'
      cases hg'
    have hw : IntKind.i64.wrap ((k : Int) + 1) = ((k + 1 : Nat) : Int) := by rw [wrap_i64 (by omega) (by omega)]; rfl
    refine ⟨_, _, _, _, _, _, rfl, ⟨et.trans f2, k + 1, by omega, hw⟩, ?_⟩
    show ((fewA L : Int) - IntKind.i64.wrap ((k : Int) + 1)).toNat < ((fewA L : Int) - k).toNat
    rw [hw]; omega
end
end Go.Proofs.Ytocnkdkgajdejaa.G

/- More of the functions' shallow texts, by gen.py. -/
set_option linter.unusedVariables false
set_option maxRecDepth 100000
namespace Go.Proofs.Ytocnkdkgajdejaa.G
open Go.V
def an_3 : Nat → Ann := fun b => match b with
  | _ => {}
abbrev rv_3 : List ResultVar := [.tmp 8]
abbrev rs_3 : List Nat := [151, 8]
def J_law03_LotReads_0 (W : World) (R : Ending → Hp → Prop) (b175 : Bool) (x144 : Option Addr) (l145 : Nat) (c146 : Nat) (x159 : Option Addr) (l160 : Nat) (c161 : Nat) (n149 : Int) (n164 : Int) : Hp → Prop :=
  BR b175
    (CALL Pg W F_ref03_Ints [(.slice x144 l145 c146), (.slice x159 l160 c161)]
      (fun v176 => TYB v176 fun b178 =>
        BR b178
          (BR (n149 == n164)
            (CALL Pg W F_law03_awake []
              (fun v179 => TYB v179 fun b181 =>
                R (.returned (.bool b181)))
                (fun e180 => R (.panicked e180)))
            (R (.returned (.bool false))))
          (R (.returned (.bool false))))
        (fun e177 => R (.panicked e177)))
    (R (.returned (.bool false)))
def J_law03_LotReads_1 (W : World) (R : Ending → Hp → Prop) (b174 : Bool) (n121 : Int) (n134 : Int) (x144 : Option Addr) (l145 : Nat) (c146 : Nat) (x159 : Option Addr) (l160 : Nat) (c161 : Nat) (n149 : Int) (n164 : Int) : Hp → Prop :=
  BR b174
    (J_law03_LotReads_0 W R (n121 == n134) x144 l145 c146 x159 l160 c161 n149 n164)
    (J_law03_LotReads_0 W R false x144 l145 c146 x159 l160 c161 n149 n164)
def J_law03_LotReads_2 (W : World) (R : Ending → Hp → Prop) (b173 : Bool) (n118 : Int) (n131 : Int) (n121 : Int) (n134 : Int) (x144 : Option Addr) (l145 : Nat) (c146 : Nat) (x159 : Option Addr) (l160 : Nat) (c161 : Nat) (n149 : Int) (n164 : Int) : Hp → Prop :=
  BR b173
    (J_law03_LotReads_1 W R (n118 == n131) n121 n134 x144 l145 c146 x159 l160 c161 n149 n164)
    (J_law03_LotReads_1 W R false n121 n134 x144 l145 c146 x159 l160 c161 n149 n164)
def J_law03_LotReads_3 (W : World) (R : Ending → Hp → Prop) (b172 : Bool) (n93 : Int) (n108 : Int) (n118 : Int) (n131 : Int) (n121 : Int) (n134 : Int) (x144 : Option Addr) (l145 : Nat) (c146 : Nat) (x159 : Option Addr) (l160 : Nat) (c161 : Nat) (n149 : Int) (n164 : Int) : Hp → Prop :=
  BR b172
    (J_law03_LotReads_2 W R (n93 == n108) n118 n131 n121 n134 x144 l145 c146 x159 l160 c161 n149 n164)
    (J_law03_LotReads_2 W R false n118 n131 n121 n134 x144 l145 c146 x159 l160 c161 n149 n164)
def J_law03_LotReads_4 (W : World) (R : Ending → Hp → Prop) (b168 : Bool) (x88 : Option Addr) (l89 : Nat) (c90 : Nat) (x103 : Option Addr) (l104 : Nat) (c105 : Nat) (n93 : Int) (n108 : Int) (n118 : Int) (n131 : Int) (n121 : Int) (n134 : Int) (x144 : Option Addr) (l145 : Nat) (c146 : Nat) (x159 : Option Addr) (l160 : Nat) (c161 : Nat) (n149 : Int) (n164 : Int) : Hp → Prop :=
  BR b168
    (CALL Pg W F_ref03_Ints [(.slice x88 l89 c90), (.slice x103 l104 c105)]
      (fun v169 => TYB v169 fun b171 =>
        J_law03_LotReads_3 W R b171 n93 n108 n118 n131 n121 n134 x144 l145 c146 x159 l160 c161 n149 n164)
        (fun e170 => R (.panicked e170)))
    (J_law03_LotReads_3 W R false n93 n108 n118 n131 n121 n134 x144 l145 c146 x159 l160 c161 n149 n164)
def J_law03_LotReads_5 (W : World) (R : Ending → Hp → Prop) (b167 : Bool) (n65 : Int) (n78 : Int) (x88 : Option Addr) (l89 : Nat) (c90 : Nat) (x103 : Option Addr) (l104 : Nat) (c105 : Nat) (n93 : Int) (n108 : Int) (n118 : Int) (n131 : Int) (n121 : Int) (n134 : Int) (x144 : Option Addr) (l145 : Nat) (c146 : Nat) (x159 : Option Addr) (l160 : Nat) (c161 : Nat) (n149 : Int) (n164 : Int) : Hp → Prop :=
  BR b167
    (J_law03_LotReads_4 W R (n65 == n78) x88 l89 c90 x103 l104 c105 n93 n108 n118 n131 n121 n134 x144 l145 c146 x159 l160 c161 n149 n164)
    (J_law03_LotReads_4 W R false x88 l89 c90 x103 l104 c105 n93 n108 n118 n131 n121 n134 x144 l145 c146 x159 l160 c161 n149 n164)
def J_law03_LotReads_6 (W : World) (R : Ending → Hp → Prop) (b166 : Bool) (n62 : Int) (n75 : Int) (n65 : Int) (n78 : Int) (x88 : Option Addr) (l89 : Nat) (c90 : Nat) (x103 : Option Addr) (l104 : Nat) (c105 : Nat) (n93 : Int) (n108 : Int) (n118 : Int) (n131 : Int) (n121 : Int) (n134 : Int) (x144 : Option Addr) (l145 : Nat) (c146 : Nat) (x159 : Option Addr) (l160 : Nat) (c161 : Nat) (n149 : Int) (n164 : Int) : Hp → Prop :=
  BR b166
    (J_law03_LotReads_5 W R (n62 == n75) n65 n78 x88 l89 c90 x103 l104 c105 n93 n108 n118 n131 n121 n134 x144 l145 c146 x159 l160 c161 n149 n164)
    (J_law03_LotReads_5 W R false n65 n78 x88 l89 c90 x103 l104 c105 n93 n108 n118 n131 n121 n134 x144 l145 c146 x159 l160 c161 n149 n164)
def J_law03_LotReads_7 (W : World) (R : Ending → Hp → Prop) (b165 : Bool) (n36 : Int) (n52 : Int) (n62 : Int) (n75 : Int) (n65 : Int) (n78 : Int) (x88 : Option Addr) (l89 : Nat) (c90 : Nat) (x103 : Option Addr) (l104 : Nat) (c105 : Nat) (n93 : Int) (n108 : Int) (n118 : Int) (n131 : Int) (n121 : Int) (n134 : Int) (x144 : Option Addr) (l145 : Nat) (c146 : Nat) (x159 : Option Addr) (l160 : Nat) (c161 : Nat) (n149 : Int) (n164 : Int) : Hp → Prop :=
  BR b165
    (J_law03_LotReads_6 W R (n36 == n52) n62 n75 n65 n78 x88 l89 c90 x103 l104 c105 n93 n108 n118 n131 n121 n134 x144 l145 c146 x159 l160 c161 n149 n164)
    (J_law03_LotReads_6 W R false n62 n75 n65 n78 x88 l89 c90 x103 l104 c105 n93 n108 n118 n131 n121 n134 x144 l145 c146 x159 l160 c161 n149 n164)
def T_law03_LotReads (W : World) (x1 : Option Addr) (l2 : Nat) (c3 : Nat) (n4 : Int) (x5 : Option Addr) (l6 : Nat) (c7 : Nat) (n8 : Int) (n9 : Int) (R : Ending → Hp → Prop) : Hp → Prop :=
  NEW 24 [(.slice x1 l2 c3), (.int .i64 n4)] fun B10 =>
    RDL (Addr.add ⟨B10, 0, none⟩ 0) fun x11 l12 c13 =>
      RDI .i64 (Addr.add ⟨B10, 0, none⟩ 1) fun n14 =>
        CALL Pg W F_law03_far [(.agg #[(.slice x11 l12 c13), (.int .i64 n14)]), (.slice x5 l6 c7), (.int .i64 6)]
          (fun v15 => TYB v15 fun b17 =>
            BR b17
              (CALL Pg W F_law03_awake []
                (fun v18 => TYB v18 fun b20 =>
                  R (.returned (.bool b20)))
                  (fun e19 => R (.panicked e19)))
              (RDL (Addr.add ⟨B10, 0, none⟩ 0) fun x21 l22 c23 =>
                RDI .i64 (Addr.add ⟨B10, 0, none⟩ 1) fun n24 =>
                  CALL Pg W F_lot_Check [(.agg #[(.slice x21 l22 c23), (.int .i64 n24)]), (.slice x5 l6 c7)]
                    (fun v25 => TUP v25 fun q27 => HD q27 fun v28 r29 => TYI .i64 v28 fun n30 =>
                      HD r29 fun v31 r32 => TYI .i64 v31 fun n33 =>
                        HD r32 fun v34 r35 => TYI .i64 v34 fun n36 =>
                          NL r35 <|
                            RDL (Addr.add ⟨B10, 0, none⟩ 0) fun x37 l38 c39 =>
                              RDI .i64 (Addr.add ⟨B10, 0, none⟩ 1) fun n40 =>
                                CALL Pg W F_ref03_Check [(.agg #[(.slice x37 l38 c39), (.int .i64 n40)]), (.slice x5 l6 c7)]
                                  (fun v41 => TUP v41 fun q43 => HD q43 fun v44 r45 => TYI .i64 v44 fun n46 =>
                                    HD r45 fun v47 r48 => TYI .i64 v47 fun n49 =>
                                      HD r48 fun v50 r51 => TYI .i64 v50 fun n52 =>
                                        NL r51 <|
                                          RDL (Addr.add ⟨B10, 0, none⟩ 0) fun x53 l54 c55 =>
                                            RDI .i64 (Addr.add ⟨B10, 0, none⟩ 1) fun n56 =>
                                              CALL Pg W F_lot_Count [(.agg #[(.slice x53 l54 c55), (.int .i64 n56)])]
                                                (fun v57 => TUP v57 fun q59 => HD q59 fun v60 r61 => TYI .i64 v60 fun n62 =>
                                                  HD r61 fun v63 r64 => TYI .i64 v63 fun n65 =>
                                                    NL r64 <|
                                                      RDL (Addr.add ⟨B10, 0, none⟩ 0) fun x66 l67 c68 =>
                                                        RDI .i64 (Addr.add ⟨B10, 0, none⟩ 1) fun n69 =>
                                                          CALL Pg W F_ref03_Count [(.agg #[(.slice x66 l67 c68), (.int .i64 n69)])]
                                                            (fun v70 => TUP v70 fun q72 => HD q72 fun v73 r74 => TYI .i64 v73 fun n75 =>
                                                              HD r74 fun v76 r77 => TYI .i64 v76 fun n78 =>
                                                                NL r77 <|
                                                                  RDL (Addr.add ⟨B10, 0, none⟩ 0) fun x79 l80 c81 =>
                                                                    RDI .i64 (Addr.add ⟨B10, 0, none⟩ 1) fun n82 =>
                                                                      CALL Pg W F_lot_Nth [(.agg #[(.slice x79 l80 c81), (.int .i64 n82)]), (.int .i64 n8)]
                                                                        (fun v83 => TUP v83 fun q85 => HD q85 fun v86 r87 => TYL v86 fun x88 l89 c90 =>
                                                                          HD r87 fun v91 r92 => TYI .i64 v91 fun n93 =>
                                                                            NL r92 <|
                                                                              RDL (Addr.add ⟨B10, 0, none⟩ 0) fun x94 l95 c96 =>
                                                                                RDI .i64 (Addr.add ⟨B10, 0, none⟩ 1) fun n97 =>
                                                                                  CALL Pg W F_ref03_Nth [(.agg #[(.slice x94 l95 c96), (.int .i64 n97)]), (.int .i64 n8)]
                                                                                    (fun v98 => TUP v98 fun q100 => HD q100 fun v101 r102 => TYL v101 fun x103 l104 c105 =>
                                                                                      HD r102 fun v106 r107 => TYI .i64 v106 fun n108 =>
                                                                                        NL r107 <|
                                                                                          RDL (Addr.add ⟨B10, 0, none⟩ 0) fun x109 l110 c111 =>
                                                                                            RDI .i64 (Addr.add ⟨B10, 0, none⟩ 1) fun n112 =>
                                                                                              CALL Pg W F_lot_Place [(.agg #[(.slice x109 l110 c111), (.int .i64 n112)]), (.slice x5 l6 c7)]
                                                                                                (fun v113 => TUP v113 fun q115 => HD q115 fun v116 r117 => TYI .i64 v116 fun n118 =>
                                                                                                  HD r117 fun v119 r120 => TYI .i64 v119 fun n121 =>
                                                                                                    NL r120 <|
                                                                                                      RDL (Addr.add ⟨B10, 0, none⟩ 0) fun x122 l123 c124 =>
                                                                                                        RDI .i64 (Addr.add ⟨B10, 0, none⟩ 1) fun n125 =>
                                                                                                          CALL Pg W F_ref03_Place [(.agg #[(.slice x122 l123 c124), (.int .i64 n125)]), (.slice x5 l6 c7)]
                                                                                                            (fun v126 => TUP v126 fun q128 => HD q128 fun v129 r130 => TYI .i64 v129 fun n131 =>
                                                                                                              HD r130 fun v132 r133 => TYI .i64 v132 fun n134 =>
                                                                                                                NL r133 <|
                                                                                                                  RDL (Addr.add ⟨B10, 0, none⟩ 0) fun x135 l136 c137 =>
                                                                                                                    RDI .i64 (Addr.add ⟨B10, 0, none⟩ 1) fun n138 =>
                                                                                                                      CALL Pg W F_lot_Draw [(.agg #[(.slice x135 l136 c137), (.int .i64 n138)]), (.int .i64 n9)]
                                                                                                                        (fun v139 => TUP v139 fun q141 => HD q141 fun v142 r143 => TYL v142 fun x144 l145 c146 =>
                                                                                                                          HD r143 fun v147 r148 => TYI .i64 v147 fun n149 =>
                                                                                                                            NL r148 <|
                                                                                                                              RDL (Addr.add ⟨B10, 0, none⟩ 0) fun x150 l151 c152 =>
                                                                                                                                RDI .i64 (Addr.add ⟨B10, 0, none⟩ 1) fun n153 =>
                                                                                                                                  CALL Pg W F_ref03_Draw [(.agg #[(.slice x150 l151 c152), (.int .i64 n153)]), (.int .i64 n9)]
                                                                                                                                    (fun v154 => TUP v154 fun q156 => HD q156 fun v157 r158 => TYL v157 fun x159 l160 c161 =>
                                                                                                                                      HD r158 fun v162 r163 => TYI .i64 v162 fun n164 =>
                                                                                                                                        NL r163 <|
                                                                                                                                          BR (n30 == n46)
                                                                                                                                            (J_law03_LotReads_7 W R (n33 == n49) n36 n52 n62 n75 n65 n78 x88 l89 c90 x103 l104 c105 n93 n108 n118 n131 n121 n134 x144 l145 c146 x159 l160 c161 n149 n164)
                                                                                                                                            (J_law03_LotReads_7 W R false n36 n52 n62 n75 n65 n78 x88 l89 c90 x103 l104 c105 n93 n108 n118 n131 n121 n134 x144 l145 c146 x159 l160 c161 n149 n164))
                                                                                                                                      (fun e155 => R (.panicked e155)))
                                                                                                                          (fun e140 => R (.panicked e140)))
                                                                                                              (fun e127 => R (.panicked e127)))
                                                                                                  (fun e114 => R (.panicked e114)))
                                                                                      (fun e99 => R (.panicked e99)))
                                                                          (fun e84 => R (.panicked e84)))
                                                              (fun e71 => R (.panicked e71)))
                                                  (fun e58 => R (.panicked e58)))
                                    (fun e42 => R (.panicked e42)))
                      (fun e26 => R (.panicked e26))))
            (fun e16 => R (.panicked e16))
theorem T_law03_LotReads_eq (W : World) (x1 : Option Addr) (l2 : Nat) (c3 : Nat) (n4 : Int) (x5 : Option Addr) (l6 : Nat) (c7 : Nat) (n8 : Int) (n9 : Int) (R : Ending → Hp → Prop) : vfun Pg W an_3 Try.f3 [(.agg #[(.slice x1 l2 c3), (.int .i64 n4)]), (.slice x5 l6 c7), (.int .i64 n8), (.int .i64 n9)] R = T_law03_LotReads W x1 l2 c3 n4 x5 l6 c7 n8 n9 R := by kernel_rfl
theorem does_law03_LotReads (W : World) (x1 : Option Addr) (l2 : Nat) (c3 : Nat) (n4 : Int) (x5 : Option Addr) (l6 : Nat) (c7 : Nat) (n8 : Int) (n9 : Int) (R : Ending → Hp → Prop) (s : Hp) (h : T_law03_LotReads W x1 l2 c3 n4 x5 l6 c7 n8 n9 R s) : Does Pg W F_law03_LotReads #[(.agg #[(.slice x1 l2 c3), (.int .i64 n4)]), (.slice x5 l6 c7), (.int .i64 n8), (.int .i64 n9)] s R :=
  does_of_vfun Pg W an_3 Try.func3 rfl (by kernel_rfl) (by rw [T_law03_LotReads_eq]; exact h)
end Go.Proofs.Ytocnkdkgajdejaa.G

/- More of the functions' shallow texts, by gen.py. -/
set_option linter.unusedVariables false
set_option maxRecDepth 100000
namespace Go.Proofs.Ytocnkdkgajdejaa.G
open Go.V
def an_4 : Nat → Ann := fun b => match b with
  | _ => {}
abbrev rv_4 : List ResultVar := [.tmp 8]
abbrev rs_4 : List Nat := [127, 8]
def J_law03_LotLooks_0 (W : World) (R : Ending → Hp → Prop) (b147 : Bool) (x115 : Option Addr) (l116 : Nat) (c117 : Nat) (x133 : Option Addr) (l134 : Nat) (c135 : Nat) (n120 : Int) (n138 : Int) : Hp → Prop :=
  BR b147
    (CALL Pg W F_ref03_Ints [(.slice x115 l116 c117), (.slice x133 l134 c135)]
      (fun v148 => TYB v148 fun b150 =>
        BR b150
          (BR (n120 == n138)
            (CALL Pg W F_law03_awake []
              (fun v151 => TYB v151 fun b153 =>
                R (.returned (.bool b153)))
                (fun e152 => R (.panicked e152)))
            (R (.returned (.bool false))))
          (R (.returned (.bool false))))
        (fun e149 => R (.panicked e149)))
    (R (.returned (.bool false)))
def J_law03_LotLooks_1 (W : World) (R : Ending → Hp → Prop) (b146 : Bool) (n112 : Int) (n130 : Int) (x115 : Option Addr) (l116 : Nat) (c117 : Nat) (x133 : Option Addr) (l134 : Nat) (c135 : Nat) (n120 : Int) (n138 : Int) : Hp → Prop :=
  BR b146
    (J_law03_LotLooks_0 W R (n112 == n130) x115 l116 c117 x133 l134 c135 n120 n138)
    (J_law03_LotLooks_0 W R false x115 l116 c117 x133 l134 c135 n120 n138)
def J_law03_LotLooks_2 (W : World) (R : Ending → Hp → Prop) (b145 : Bool) (n87 : Int) (n102 : Int) (n112 : Int) (n130 : Int) (x115 : Option Addr) (l116 : Nat) (c117 : Nat) (x133 : Option Addr) (l134 : Nat) (c135 : Nat) (n120 : Int) (n138 : Int) : Hp → Prop :=
  BR b145
    (J_law03_LotLooks_1 W R (n87 == n102) n112 n130 x115 l116 c117 x133 l134 c135 n120 n138)
    (J_law03_LotLooks_1 W R false n112 n130 x115 l116 c117 x133 l134 c135 n120 n138)
def J_law03_LotLooks_3 (W : World) (R : Ending → Hp → Prop) (b141 : Bool) (x82 : Option Addr) (l83 : Nat) (c84 : Nat) (x97 : Option Addr) (l98 : Nat) (c99 : Nat) (n87 : Int) (n102 : Int) (n112 : Int) (n130 : Int) (x115 : Option Addr) (l116 : Nat) (c117 : Nat) (x133 : Option Addr) (l134 : Nat) (c135 : Nat) (n120 : Int) (n138 : Int) : Hp → Prop :=
  BR b141
    (CALL Pg W F_ref03_Pairs [(.slice x82 l83 c84), (.slice x97 l98 c99)]
      (fun v142 => TYB v142 fun b144 =>
        J_law03_LotLooks_2 W R b144 n87 n102 n112 n130 x115 l116 c117 x133 l134 c135 n120 n138)
        (fun e143 => R (.panicked e143)))
    (J_law03_LotLooks_2 W R false n87 n102 n112 n130 x115 l116 c117 x133 l134 c135 n120 n138)
def J_law03_LotLooks_4 (W : World) (R : Ending → Hp → Prop) (b140 : Bool) (n59 : Int) (n72 : Int) (x82 : Option Addr) (l83 : Nat) (c84 : Nat) (x97 : Option Addr) (l98 : Nat) (c99 : Nat) (n87 : Int) (n102 : Int) (n112 : Int) (n130 : Int) (x115 : Option Addr) (l116 : Nat) (c117 : Nat) (x133 : Option Addr) (l134 : Nat) (c135 : Nat) (n120 : Int) (n138 : Int) : Hp → Prop :=
  BR b140
    (J_law03_LotLooks_3 W R (n59 == n72) x82 l83 c84 x97 l98 c99 n87 n102 n112 n130 x115 l116 c117 x133 l134 c135 n120 n138)
    (J_law03_LotLooks_3 W R false x82 l83 c84 x97 l98 c99 n87 n102 n112 n130 x115 l116 c117 x133 l134 c135 n120 n138)
def J_law03_LotLooks_5 (W : World) (R : Ending → Hp → Prop) (b139 : Bool) (n56 : Int) (n69 : Int) (n59 : Int) (n72 : Int) (x82 : Option Addr) (l83 : Nat) (c84 : Nat) (x97 : Option Addr) (l98 : Nat) (c99 : Nat) (n87 : Int) (n102 : Int) (n112 : Int) (n130 : Int) (x115 : Option Addr) (l116 : Nat) (c117 : Nat) (x133 : Option Addr) (l134 : Nat) (c135 : Nat) (n120 : Int) (n138 : Int) : Hp → Prop :=
  BR b139
    (J_law03_LotLooks_4 W R (n56 == n69) n59 n72 x82 l83 c84 x97 l98 c99 n87 n102 n112 n130 x115 l116 c117 x133 l134 c135 n120 n138)
    (J_law03_LotLooks_4 W R false n59 n72 x82 l83 c84 x97 l98 c99 n87 n102 n112 n130 x115 l116 c117 x133 l134 c135 n120 n138)
def T_law03_LotLooks (W : World) (x1 : Option Addr) (l2 : Nat) (c3 : Nat) (n4 : Int) (x5 : Option Addr) (l6 : Nat) (c7 : Nat) (n8 : Int) (n9 : Int) (R : Ending → Hp → Prop) : Hp → Prop :=
  NEW 24 [(.slice x1 l2 c3), (.int .i64 n4)] fun B10 =>
    RDL (Addr.add ⟨B10, 0, none⟩ 0) fun x11 l12 c13 =>
      RDI .i64 (Addr.add ⟨B10, 0, none⟩ 1) fun n14 =>
        CALL Pg W F_law03_far [(.agg #[(.slice x11 l12 c13), (.int .i64 n14)]), (.slice x5 l6 c7), (.int .i64 6)]
          (fun v15 => TYB v15 fun b17 =>
            BR b17
              (CALL Pg W F_law03_awake []
                (fun v18 => TYB v18 fun b20 =>
                  R (.returned (.bool b20)))
                  (fun e19 => R (.panicked e19)))
              (RDL (Addr.add ⟨B10, 0, none⟩ 0) fun x21 l22 c23 =>
                RDI .i64 (Addr.add ⟨B10, 0, none⟩ 1) fun n24 =>
                  CALL Pg W F_lot_Can [(.agg #[(.slice x21 l22 c23), (.int .i64 n24)]), (.int .i64 n8)]
                    (fun v25 => TUP v25 fun q27 => HD q27 fun v28 r29 => TYI .i64 v28 fun n30 =>
                      HD r29 fun v31 r32 => TYI .i64 v31 fun n33 =>
                        NL r32 <|
                          RDL (Addr.add ⟨B10, 0, none⟩ 0) fun x34 l35 c36 =>
                            RDI .i64 (Addr.add ⟨B10, 0, none⟩ 1) fun n37 =>
                              CALL Pg W F_ref03_Can [(.agg #[(.slice x34 l35 c36), (.int .i64 n37)]), (.int .i64 n8)]
                                (fun v38 => TUP v38 fun q40 => HD q40 fun v41 r42 => TYI .i64 v41 fun n43 =>
                                  HD r42 fun v44 r45 => TYI .i64 v44 fun n46 =>
                                    NL r45 <|
                                      RDL (Addr.add ⟨B10, 0, none⟩ 0) fun x47 l48 c49 =>
                                        RDI .i64 (Addr.add ⟨B10, 0, none⟩ 1) fun n50 =>
                                          CALL Pg W F_lot_Often [(.agg #[(.slice x47 l48 c49), (.int .i64 n50)]), (.int .i64 n8), (.int .i64 n9)]
                                            (fun v51 => TUP v51 fun q53 => HD q53 fun v54 r55 => TYI .i64 v54 fun n56 =>
                                              HD r55 fun v57 r58 => TYI .i64 v57 fun n59 =>
                                                NL r58 <|
                                                  RDL (Addr.add ⟨B10, 0, none⟩ 0) fun x60 l61 c62 =>
                                                    RDI .i64 (Addr.add ⟨B10, 0, none⟩ 1) fun n63 =>
                                                      CALL Pg W F_ref03_Often [(.agg #[(.slice x60 l61 c62), (.int .i64 n63)]), (.int .i64 n8), (.int .i64 n9)]
                                                        (fun v64 => TUP v64 fun q66 => HD q66 fun v67 r68 => TYI .i64 v67 fun n69 =>
                                                          HD r68 fun v70 r71 => TYI .i64 v70 fun n72 =>
                                                            NL r71 <|
                                                              RDL (Addr.add ⟨B10, 0, none⟩ 0) fun x73 l74 c75 =>
                                                                RDI .i64 (Addr.add ⟨B10, 0, none⟩ 1) fun n76 =>
                                                                  CALL Pg W F_lot_Swaps [(.agg #[(.slice x73 l74 c75), (.int .i64 n76)]), (.slice x5 l6 c7)]
                                                                    (fun v77 => TUP v77 fun q79 => HD q79 fun v80 r81 => TYL v80 fun x82 l83 c84 =>
                                                                      HD r81 fun v85 r86 => TYI .i64 v85 fun n87 =>
                                                                        NL r86 <|
                                                                          RDL (Addr.add ⟨B10, 0, none⟩ 0) fun x88 l89 c90 =>
                                                                            RDI .i64 (Addr.add ⟨B10, 0, none⟩ 1) fun n91 =>
                                                                              CALL Pg W F_ref03_Swaps [(.agg #[(.slice x88 l89 c90), (.int .i64 n91)]), (.slice x5 l6 c7)]
                                                                                (fun v92 => TUP v92 fun q94 => HD q94 fun v95 r96 => TYL v95 fun x97 l98 c99 =>
                                                                                  HD r96 fun v100 r101 => TYI .i64 v100 fun n102 =>
                                                                                    NL r101 <|
                                                                                      RDL (Addr.add ⟨B10, 0, none⟩ 0) fun x103 l104 c105 =>
                                                                                        RDI .i64 (Addr.add ⟨B10, 0, none⟩ 1) fun n106 =>
                                                                                          CALL Pg W F_lot_Least [(.agg #[(.slice x103 l104 c105), (.int .i64 n106)])]
                                                                                            (fun v107 => TUP v107 fun q109 => HD q109 fun v110 r111 => TYI .i64 v110 fun n112 =>
                                                                                              HD r111 fun v113 r114 => TYL v113 fun x115 l116 c117 =>
                                                                                                HD r114 fun v118 r119 => TYI .i64 v118 fun n120 =>
                                                                                                  NL r119 <|
                                                                                                    RDL (Addr.add ⟨B10, 0, none⟩ 0) fun x121 l122 c123 =>
                                                                                                      RDI .i64 (Addr.add ⟨B10, 0, none⟩ 1) fun n124 =>
                                                                                                        CALL Pg W F_ref03_Least [(.agg #[(.slice x121 l122 c123), (.int .i64 n124)])]
                                                                                                          (fun v125 => TUP v125 fun q127 => HD q127 fun v128 r129 => TYI .i64 v128 fun n130 =>
                                                                                                            HD r129 fun v131 r132 => TYL v131 fun x133 l134 c135 =>
                                                                                                              HD r132 fun v136 r137 => TYI .i64 v136 fun n138 =>
                                                                                                                NL r137 <|
                                                                                                                  BR (n30 == n43)
                                                                                                                    (J_law03_LotLooks_5 W R (n33 == n46) n56 n69 n59 n72 x82 l83 c84 x97 l98 c99 n87 n102 n112 n130 x115 l116 c117 x133 l134 c135 n120 n138)
                                                                                                                    (J_law03_LotLooks_5 W R false n56 n69 n59 n72 x82 l83 c84 x97 l98 c99 n87 n102 n112 n130 x115 l116 c117 x133 l134 c135 n120 n138))
                                                                                                            (fun e126 => R (.panicked e126)))
                                                                                              (fun e108 => R (.panicked e108)))
                                                                                  (fun e93 => R (.panicked e93)))
                                                                      (fun e78 => R (.panicked e78)))
                                                          (fun e65 => R (.panicked e65)))
                                              (fun e52 => R (.panicked e52)))
                                  (fun e39 => R (.panicked e39)))
                      (fun e26 => R (.panicked e26))))
            (fun e16 => R (.panicked e16))
theorem T_law03_LotLooks_eq (W : World) (x1 : Option Addr) (l2 : Nat) (c3 : Nat) (n4 : Int) (x5 : Option Addr) (l6 : Nat) (c7 : Nat) (n8 : Int) (n9 : Int) (R : Ending → Hp → Prop) : vfun Pg W an_4 Try.f4 [(.agg #[(.slice x1 l2 c3), (.int .i64 n4)]), (.slice x5 l6 c7), (.int .i64 n8), (.int .i64 n9)] R = T_law03_LotLooks W x1 l2 c3 n4 x5 l6 c7 n8 n9 R := by kernel_rfl
theorem does_law03_LotLooks (W : World) (x1 : Option Addr) (l2 : Nat) (c3 : Nat) (n4 : Int) (x5 : Option Addr) (l6 : Nat) (c7 : Nat) (n8 : Int) (n9 : Int) (R : Ending → Hp → Prop) (s : Hp) (h : T_law03_LotLooks W x1 l2 c3 n4 x5 l6 c7 n8 n9 R s) : Does Pg W F_law03_LotLooks #[(.agg #[(.slice x1 l2 c3), (.int .i64 n4)]), (.slice x5 l6 c7), (.int .i64 n8), (.int .i64 n9)] s R :=
  does_of_vfun Pg W an_4 Try.func4 rfl (by kernel_rfl) (by rw [T_law03_LotLooks_eq]; exact h)
end Go.Proofs.Ytocnkdkgajdejaa.G

/- The statements LotReads and LotLooks. -/
set_option linter.unusedSimpArgs false
set_option linter.unusedVariables false
set_option maxRecDepth 20000
namespace Go.Proofs.Ytocnkdkgajdejaa.G
open Go.V Go.Lot
section
variable {W : World} {K : VK} {E : List PanicEntry → Hp → Prop} {s : Hp} {L : Lts}
/-- A list, or why it is not known. -/
def nthR (L : Lts) (n : Int) : List Nat × Int := if valid L then (match nthP L n with | some d => (d, 0) | none => ([], 4)) else ([], 1)
def drawR (L : Lts) (n : Int) : List Nat × Int := if valid L then (if 0 ≤ n ∧ n ≤ 65536 then (match drawP L n with | some d => (d, 0) | none => ([], 4)) else ([], 2)) else ([], 1)
def swapsR (L : Lts) (ds : List Int) : List (Nat × Nat) × Int := if errP L ds = 0 then (swapsP L (ds.map Int.toNat), 0) else ([], errP L ds)
def leastR (L : Lts) : Nat × List Nat × Int := if valid L then ((few L (full L.n) 8).1, leastD L L.n (full L.n) 8, 0) else (0, [], 1)
theorem row_none : RowAt s none (vals []) := fun i hi => by simp [vals] at hi
theorem prow_none : RowAt s none (pvals []) := fun i hi => by simp [pvals] at hi
def GotL (K : VK) (s : Hp) (r : List Nat × Int) : Prop := ∀ s' y c, Ext s s' → RowAt s' y (vals r.1) → K (.tuple #[.slice y r.1.length c, .int .i64 r.2]) s'
theorem c_NthR {x : Option Addr} {c : Nat} {n : Int} (hm : MenAt s x L.men) (h : GotL K s (nthR L n)) : CALL Pg W F_lot_Nth [.agg #[.slice x L.n c, .int .i64 L.worst], .int .i64 n] K E s := by
  refine c_Nth hm (fun s' d v e hv hd ho => ?_) (fun s' e hv hd => ?_) (fun s' e hv => ?_)
  · obtain ⟨y, c', rfl, hr⟩ := ho
    have hc : nthR L n = (d, 0) := by unfold nthR; rw [hv, if_pos rfl, hd]
    rw [hc] at h
    exact h s' y c' e hr
  · have hc : nthR L n = ([], 4) := by unfold nthR; rw [hv, if_pos rfl, hd]
    rw [hc] at h
    exact h s' none 0 e row_none
  · have hc : nthR L n = ([], 1) := by unfold nthR; rw [hv]; rfl
    rw [hc] at h
    exact h s' none 0 e row_none
theorem f_NthR {x : Option Addr} {c : Nat} {n : Int} (hm : MenAt s x L.men) (hn : L.n ≤ 100000) (h : GotL K s (nthR L n)) : CALL Pg W F_ref03_Nth [.agg #[.slice x L.n c, .int .i64 L.worst], .int .i64 n] K E s := by
  refine f_Nth hm hn (fun s' d v e hv hd ho => ?_) (fun s' e hv hd => ?_) (fun s' e hv => ?_)
  · obtain ⟨y, c', rfl, hr⟩ := ho
    have hc : nthR L n = (d, 0) := by unfold nthR; rw [hv, if_pos rfl, hd]
    rw [hc] at h
    exact h s' y c' e hr
  · have hc : nthR L n = ([], 4) := by unfold nthR; rw [hv, if_pos rfl, hd]
    rw [hc] at h
    exact h s' none 0 e row_none
  · have hc : nthR L n = ([], 1) := by unfold nthR; rw [hv]; rfl
    rw [hc] at h
    exact h s' none 0 e row_none
theorem c_DrawR {x : Option Addr} {c : Nat} {n : Int} (hm : MenAt s x L.men) (h : GotL K s (drawR L n)) : CALL Pg W F_lot_Draw [.agg #[.slice x L.n c, .int .i64 L.worst], .int .i64 n] K E s := by
  refine c_Draw hm (fun s' d v e hv hb hd ho => ?_) (fun s' e hv hb hd => ?_) (fun s' e hv hb => ?_) (fun s' e hv => ?_)
  · obtain ⟨y, c', rfl, hr⟩ := ho
    have hc : drawR L n = (d, 0) := by unfold drawR; rw [hv, if_pos rfl, if_pos hb, hd]
    rw [hc] at h
    exact h s' y c' e hr
  · have hc : drawR L n = ([], 4) := by unfold drawR; rw [hv, if_pos rfl, if_pos hb, hd]
    rw [hc] at h
    exact h s' none 0 e row_none
  · have hc : drawR L n = ([], 2) := by unfold drawR; rw [hv, if_pos rfl, if_neg hb]
    rw [hc] at h
    exact h s' none 0 e row_none
  · have hc : drawR L n = ([], 1) := by unfold drawR; rw [hv]; rfl
    rw [hc] at h
    exact h s' none 0 e row_none
theorem f_DrawR {x : Option Addr} {c : Nat} {n : Int} (hm : MenAt s x L.men) (hn : L.n ≤ 100000) (h : GotL K s (drawR L n)) : CALL Pg W F_ref03_Draw [.agg #[.slice x L.n c, .int .i64 L.worst], .int .i64 n] K E s := by
  refine f_Draw hm hn (fun s' d v e hv hb hd ho => ?_) (fun s' e hv hb hd => ?_) (fun s' e hv hb => ?_) (fun s' e hv => ?_)
  · obtain ⟨y, c', rfl, hr⟩ := ho
    have hc : drawR L n = (d, 0) := by unfold drawR; rw [hv, if_pos rfl, if_pos hb, hd]
    rw [hc] at h
    exact h s' y c' e hr
  · have hc : drawR L n = ([], 4) := by unfold drawR; rw [hv, if_pos rfl, if_pos hb, hd]
    rw [hc] at h
    exact h s' none 0 e row_none
  · have hc : drawR L n = ([], 2) := by unfold drawR; rw [hv, if_pos rfl, if_neg hb]
    rw [hc] at h
    exact h s' none 0 e row_none
  · have hc : drawR L n = ([], 1) := by unfold drawR; rw [hv]; rfl
    rw [hc] at h
    exact h s' none 0 e row_none
def GotP (K : VK) (s : Hp) (r : List (Nat × Nat) × Int) : Prop := ∀ s' y c, Ext s s' → RowAt s' y (pvals r.1) → K (.tuple #[.slice y r.1.length c, .int .i64 r.2]) s'
theorem swapsR_ok {ds : List Int} (hv : valid L = true) (hok : okDraw L ds) (hw : wrong L (ds.map Int.toNat) = none) : swapsR L ds = (swapsP L (ds.map Int.toNat), 0) := by
  unfold swapsR errP
  rw [hv, if_pos rfl, if_pos hok, hw, if_pos rfl]
theorem c_SwapsR {x y : Option Addr} {c c' : Nat} {ds : List Int} (hm : MenAt s x L.men) (hy : RowAt s y (ints ds)) (hlen : ds.length ≤ 100000) (h : GotP K s (swapsR L ds)) : CALL Pg W F_lot_Swaps [.agg #[.slice x L.n c, .int .i64 L.worst], .slice y ds.length c'] K E s := by
  refine c_Swaps hm hy hlen (fun s' v e hv hok hw ho => ?_) (fun s' e he => ?_)
  · obtain ⟨z, cz, rfl, hr⟩ := ho
    rw [swapsR_ok hv hok hw] at h
    exact h s' z cz e hr
  · have hc : swapsR L ds = ([], errP L ds) := by unfold swapsR; rw [if_neg he]
    rw [hc] at h
    exact h s' none 0 e prow_none
theorem f_SwapsR {x y : Option Addr} {c c' : Nat} {ds : List Int} (hm : MenAt s x L.men) (hy : RowAt s y (ints ds)) (hn : L.n ≤ 100000) (hlen : ds.length ≤ 100000) (h : GotP K s (swapsR L ds)) : CALL Pg W F_ref03_Swaps [.agg #[.slice x L.n c, .int .i64 L.worst], .slice y ds.length c'] K E s := by
  refine f_Swaps hm hy hn hlen (fun s' v e hv hok hw ho => ?_) (fun s' e he => ?_)
  · obtain ⟨z, cz, rfl, hr⟩ := ho
    rw [swapsR_ok hv hok hw] at h
    exact h s' z cz e hr
  · have hc : swapsR L ds = ([], errP L ds) := by unfold swapsR; rw [if_neg he]
    rw [hc] at h
    exact h s' none 0 e prow_none
def GotB (K : VK) (s : Hp) (r : Nat × List Nat × Int) : Prop := ∀ s' y c, Ext s s' → RowAt s' y (vals r.2.1) → K (.tuple #[.int .i64 (r.1 : Nat), .slice y r.2.1.length c, .int .i64 r.2.2]) s'
theorem c_LeastR {x : Option Addr} {c : Nat} (hm : MenAt s x L.men) (h : GotB K s (leastR L)) : CALL Pg W F_lot_Least [.agg #[.slice x L.n c, .int .i64 L.worst]] K E s := by
  refine c_Least hm (fun s' v e hv ho => ?_) (fun s' e hv => ?_)
  · obtain ⟨y, c', rfl, hr⟩ := ho
    have hc : leastR L = ((few L (full L.n) 8).1, leastD L L.n (full L.n) 8, 0) := by unfold leastR; rw [hv]; rfl
    rw [hc] at h
    exact h s' y c' e hr
  · have hc : leastR L = (0, [], 1) := by unfold leastR; rw [hv]; rfl
    rw [hc] at h
    exact h s' none 0 e row_none
theorem f_LeastR {x : Option Addr} {c : Nat} (hm : MenAt s x L.men) (hn : L.n ≤ 100000) (h : GotB K s (leastR L)) : CALL Pg W F_ref03_Least [.agg #[.slice x L.n c, .int .i64 L.worst]] K E s := by
  refine f_Least hm hn (fun s' v e hv ho => ?_) (fun s' e hv => ?_)
  · obtain ⟨y, c', rfl, hr⟩ := ho
    have hc : leastR L = ((few L (full L.n) 8).1, leastD L L.n (full L.n) 8, 0) := by unfold leastR; rw [hv]; rfl
    rw [hc] at h
    exact h s' y c' e hr
  · have hc : leastR L = (0, [], 1) := by unfold leastR; rw [hv]; rfl
    rw [hc] at h
    exact h s' none 0 e row_none
theorem menOf_run (L : Lts) (nxt : Nat → Nat → Nat → Nat × Nat) : ∀ (f x left b : Nat), (runC nxt f x left b).length ≤ f
  | 0, _, _, _ => Nat.le_refl _
  | f + 1, x, left, b => by
    show (if left = 0 then [] else _ :: runC nxt f _ _ _).length ≤ _
    split
    · simp
    · have := menOf_run L nxt f (nxt x left b).2 (left - 2 ^ (nxt x left b).1) (nxt x left b).1
      simp only [List.length_cons]; omega
theorem nthR_len (n : Int) : (nthR L n).1.length ≤ L.n := by
  unfold nthR
  split
  · cases h : nthP L n with
    | none => simp
    | some d =>
      unfold nthP at h
      split at h
      · cases h; exact menOf_run L _ _ _ _ _
      · cases h
  · simp
theorem drawR_len (n : Int) : (drawR L n).1.length ≤ L.n := by
  unfold drawR
  split
  · split
    · cases h : drawP L n with
      | none => simp
      | some d =>
        unfold drawP at h
        split at h
        · cases h; exact menOf_run L _ _ _ _ _
        · cases h
    · simp
  · simp
theorem leastD_len (L : Lts) : ∀ (f left b : Nat), (leastD L f left b).length ≤ f
  | 0, _, _ => by unfold leastD; simp
  | f + 1, left, b => by
    unfold leastD
    split
    · simp
    · have := leastD_len L f (left - 2 ^ (few L left b).2) (few L left b).2
      simp only [List.length_cons]; omega
theorem leastR_len : (leastR L).2.1.length ≤ L.n := by
  unfold leastR
  split
  · exact leastD_len L _ _ _
  · simp
theorem swapsR_len (ds : List Int) (h : ds.length ≤ 30) : (swapsR L ds).1.length ≤ 900 := by
  unfold swapsR
  split
  · show (swapsP L (ds.map Int.toNat)).length ≤ 900
    rw [swapsP_eq]
    have h1 := swD_len L (ds.map Int.toNat) (ds.map Int.toNat).length (ds.map Int.toNat).length
    have h2 : (ds.map Int.toNat).length ≤ 30 := by rw [List.length_map]; exact h
    have h3 : (ds.map Int.toNat).length * (ds.map Int.toNat).length ≤ 30 * 30 := Nat.mul_le_mul h2 h2
    omega
  · simp
theorem w_LotReads {x y : Option Addr} {c c' : Nat} {ds : List Int} {n seed : Int} (hm : MenAt s x L.men) (hy : RowAt s y (ints ds)) (h : ∀ s', Ext s s' → K (.bool true) s') :
    CALL Pg W F_law03_LotReads [.agg #[.slice x L.n c, .int .i64 L.worst], .slice y ds.length c', .int .i64 n, .int .i64 seed] K E s := by
  refine does_law03_LotReads W x L.n c L.worst y ds.length c' n seed _ s ?_
  unfold T_law03_LotReads
  refine NEW_rule fun s1 e1 z1 n1 _ => ?_
  have c0 := (n1 0 _ rfl).cell
  have c1 := (n1 1 _ rfl).cell
  refine ⟨_, _, _, c0, _, c1, ?_⟩
  refine c_far (n := 6) (hm.ext e1) fun s2 b e2 hb1 hb2 => ?_
  try simp only [TUP_mk, AGG_mk, HD_mk, NL_mk, TYI_mk, TYB_mk, TYP_mk, TYL_mk, TYS_mk, TYM_mk, SO_mk, NX_mk, endK_mk, endK_mk', add_0]
  refine BR_bool (fun hb => c_awake' e2 fun t et => h t (e1.trans et)) (fun hb => ?_)
  obtain ⟨hn30, hl30, _⟩ := hb2 hb
  refine ⟨_, _, _, e2.cell c0, _, e2.cell c1, ?_⟩
  refine c_Check (hm.ext (e1.trans e2)) (hy.ext (e1.trans e2)) (by omega) fun s3 e3 => ?_
  try simp only [TUP_mk, AGG_mk, HD_mk, NL_mk, TYI_mk, TYB_mk, TYP_mk, TYL_mk, TYS_mk, TYM_mk, SO_mk, NX_mk, endK_mk, endK_mk', add_0]
  have e13 := e2.trans e3
  refine ⟨_, _, _, e13.cell c0, _, e13.cell c1, ?_⟩
  refine f_Check (hm.ext (e1.trans e13)) (hy.ext (e1.trans e13)) (by omega) (by omega) fun s4 e4 => ?_
  try simp only [TUP_mk, AGG_mk, HD_mk, NL_mk, TYI_mk, TYB_mk, TYP_mk, TYL_mk, TYS_mk, TYM_mk, SO_mk, NX_mk, endK_mk, endK_mk', add_0]
  have e14 := e13.trans e4
  refine ⟨_, _, _, e14.cell c0, _, e14.cell c1, ?_⟩
  refine c_Count (hm.ext (e1.trans e14)) fun s5 e5 => ?_
  try simp only [TUP_mk, AGG_mk, HD_mk, NL_mk, TYI_mk, TYB_mk, TYP_mk, TYL_mk, TYS_mk, TYM_mk, SO_mk, NX_mk, endK_mk, endK_mk', add_0]
  have e15 := e14.trans e5
  refine ⟨_, _, _, e15.cell c0, _, e15.cell c1, ?_⟩
  refine f_Count (hm.ext (e1.trans e15)) (by omega) fun s6 e6 => ?_
  try simp only [TUP_mk, AGG_mk, HD_mk, NL_mk, TYI_mk, TYB_mk, TYP_mk, TYL_mk, TYS_mk, TYM_mk, SO_mk, NX_mk, endK_mk, endK_mk', add_0]
  have e16 := e15.trans e6
  refine ⟨_, _, _, e16.cell c0, _, e16.cell c1, ?_⟩
  refine c_NthR (hm.ext (e1.trans e16)) fun s7 z1 d1 e7 r1 => ?_
  try simp only [TUP_mk, AGG_mk, HD_mk, NL_mk, TYI_mk, TYB_mk, TYP_mk, TYL_mk, TYS_mk, TYM_mk, SO_mk, NX_mk, endK_mk, endK_mk', add_0]
  have e17 := e16.trans e7
  refine ⟨_, _, _, e17.cell c0, _, e17.cell c1, ?_⟩
  refine f_NthR (hm.ext (e1.trans e17)) (by omega) fun s8 z2 d2 e8 r2 => ?_
  try simp only [TUP_mk, AGG_mk, HD_mk, NL_mk, TYI_mk, TYB_mk, TYP_mk, TYL_mk, TYS_mk, TYM_mk, SO_mk, NX_mk, endK_mk, endK_mk', add_0]
  have e18 := e17.trans e8
  refine ⟨_, _, _, e18.cell c0, _, e18.cell c1, ?_⟩
  refine c_Place (hm.ext (e1.trans e18)) (hy.ext (e1.trans e18)) (by omega) fun s9 e9 => ?_
  try simp only [TUP_mk, AGG_mk, HD_mk, NL_mk, TYI_mk, TYB_mk, TYP_mk, TYL_mk, TYS_mk, TYM_mk, SO_mk, NX_mk, endK_mk, endK_mk', add_0]
  have e19 := e18.trans e9
  refine ⟨_, _, _, e19.cell c0, _, e19.cell c1, ?_⟩
  refine f_Place (hm.ext (e1.trans e19)) (hy.ext (e1.trans e19)) (by omega) (by omega) fun sa ea => ?_
  try simp only [TUP_mk, AGG_mk, HD_mk, NL_mk, TYI_mk, TYB_mk, TYP_mk, TYL_mk, TYS_mk, TYM_mk, SO_mk, NX_mk, endK_mk, endK_mk', add_0]
  have e1a := e19.trans ea
  refine ⟨_, _, _, e1a.cell c0, _, e1a.cell c1, ?_⟩
  refine c_DrawR (hm.ext (e1.trans e1a)) fun sb z3 d3 eb r3 => ?_
  try simp only [TUP_mk, AGG_mk, HD_mk, NL_mk, TYI_mk, TYB_mk, TYP_mk, TYL_mk, TYS_mk, TYM_mk, SO_mk, NX_mk, endK_mk, endK_mk', add_0]
  have e1b := e1a.trans eb
  refine ⟨_, _, _, e1b.cell c0, _, e1b.cell c1, ?_⟩
  refine f_DrawR (hm.ext (e1.trans e1b)) (by omega) fun sc z4 d4 ec r4 => ?_
  try simp only [TUP_mk, AGG_mk, HD_mk, NL_mk, TYI_mk, TYB_mk, TYP_mk, TYL_mk, TYS_mk, TYM_mk, SO_mk, NX_mk, endK_mk, endK_mk', add_0]
  have e1c := e1b.trans ec
  have hl1 := nthR_len (L := L) n
  have hl2 := drawR_len (L := L) seed
  refine BR_eq (fun _ => ?_) (fun hh => absurd rfl hh)
  unfold J_law03_LotReads_7
  refine BR_eq (fun _ => ?_) (fun hh => absurd rfl hh)
  unfold J_law03_LotReads_6
  refine BR_eq (fun _ => ?_) (fun hh => absurd rfl hh)
  unfold J_law03_LotReads_5
  refine BR_eq (fun _ => ?_) (fun hh => absurd rfl hh)
  unfold J_law03_LotReads_4
  refine BR_eq (fun _ => ?_) (fun hh => absurd rfl hh)
  refine f_IntsV (a := (nthR L n).1) (b := (nthR L n).1) (r1.ext (e8.trans (e9.trans (ea.trans (eb.trans ec))))) (r2.ext (e9.trans (ea.trans (eb.trans ec)))) (by omega) rfl rfl ?_
  try simp only [TUP_mk, AGG_mk, HD_mk, NL_mk, TYI_mk, TYB_mk, TYP_mk, TYL_mk, TYS_mk, TYM_mk, SO_mk, NX_mk, endK_mk, endK_mk', add_0]
  unfold J_law03_LotReads_3
  refine BR_bool (fun _ => ?_) (fun hh => absurd hh (by decide))
  unfold J_law03_LotReads_2
  refine BR_eq (fun _ => ?_) (fun hh => absurd rfl hh)
  unfold J_law03_LotReads_1
  refine BR_eq (fun _ => ?_) (fun hh => absurd rfl hh)
  unfold J_law03_LotReads_0
  refine BR_eq (fun _ => ?_) (fun hh => absurd rfl hh)
  refine f_IntsV (a := (drawR L seed).1) (b := (drawR L seed).1) (r3.ext ec) r4 (by omega) rfl rfl ?_
  try simp only [TUP_mk, AGG_mk, HD_mk, NL_mk, TYI_mk, TYB_mk, TYP_mk, TYL_mk, TYS_mk, TYM_mk, SO_mk, NX_mk, endK_mk, endK_mk', add_0]
  refine BR_bool (fun _ => ?_) (fun hh => absurd hh (by decide))
  refine BR_eq (fun _ => ?_) (fun hh => absurd rfl hh)
  exact c_awake' e1c fun t et => h t (e1.trans et)
theorem w_LotLooks {x y : Option Addr} {c c' : Nat} {ds : List Int} {man plot : Int} (hm : MenAt s x L.men) (hy : RowAt s y (ints ds)) (h : ∀ s', Ext s s' → K (.bool true) s') :
    CALL Pg W F_law03_LotLooks [.agg #[.slice x L.n c, .int .i64 L.worst], .slice y ds.length c', .int .i64 man, .int .i64 plot] K E s := by
  refine does_law03_LotLooks W x L.n c L.worst y ds.length c' man plot _ s ?_
  unfold T_law03_LotLooks
  refine NEW_rule fun s1 e1 z1 n1 _ => ?_
  have c0 := (n1 0 _ rfl).cell
  have c1 := (n1 1 _ rfl).cell
  refine ⟨_, _, _, c0, _, c1, ?_⟩
  refine c_far (n := 6) (hm.ext e1) fun s2 b e2 hb1 hb2 => ?_
  try simp only [TUP_mk, AGG_mk, HD_mk, NL_mk, TYI_mk, TYB_mk, TYP_mk, TYL_mk, TYS_mk, TYM_mk, SO_mk, NX_mk, endK_mk, endK_mk', add_0]
  refine BR_bool (fun hb => c_awake' e2 fun t et => h t (e1.trans et)) (fun hb => ?_)
  obtain ⟨hn30, hl30, _⟩ := hb2 hb
  refine ⟨_, _, _, e2.cell c0, _, e2.cell c1, ?_⟩
  refine c_Can (hm.ext (e1.trans e2)) fun s3 e3 => ?_
  try simp only [TUP_mk, AGG_mk, HD_mk, NL_mk, TYI_mk, TYB_mk, TYP_mk, TYL_mk, TYS_mk, TYM_mk, SO_mk, NX_mk, endK_mk, endK_mk', add_0]
  have e13 := e2.trans e3
  refine ⟨_, _, _, e13.cell c0, _, e13.cell c1, ?_⟩
  refine f_Can (hm.ext (e1.trans e13)) (by omega) fun s4 e4 => ?_
  try simp only [TUP_mk, AGG_mk, HD_mk, NL_mk, TYI_mk, TYB_mk, TYP_mk, TYL_mk, TYS_mk, TYM_mk, SO_mk, NX_mk, endK_mk, endK_mk', add_0]
  have e14 := e13.trans e4
  refine ⟨_, _, _, e14.cell c0, _, e14.cell c1, ?_⟩
  refine c_Often (hm.ext (e1.trans e14)) fun s5 e5 => ?_
  try simp only [TUP_mk, AGG_mk, HD_mk, NL_mk, TYI_mk, TYB_mk, TYP_mk, TYL_mk, TYS_mk, TYM_mk, SO_mk, NX_mk, endK_mk, endK_mk', add_0]
  have e15 := e14.trans e5
  refine ⟨_, _, _, e15.cell c0, _, e15.cell c1, ?_⟩
  refine f_Often (hm.ext (e1.trans e15)) (by omega) fun s6 e6 => ?_
  try simp only [TUP_mk, AGG_mk, HD_mk, NL_mk, TYI_mk, TYB_mk, TYP_mk, TYL_mk, TYS_mk, TYM_mk, SO_mk, NX_mk, endK_mk, endK_mk', add_0]
  have e16 := e15.trans e6
  refine ⟨_, _, _, e16.cell c0, _, e16.cell c1, ?_⟩
  refine c_SwapsR (hm.ext (e1.trans e16)) (hy.ext (e1.trans e16)) (by omega) fun s7 z1 d1 e7 r1 => ?_
  try simp only [TUP_mk, AGG_mk, HD_mk, NL_mk, TYI_mk, TYB_mk, TYP_mk, TYL_mk, TYS_mk, TYM_mk, SO_mk, NX_mk, endK_mk, endK_mk', add_0]
  have e17 := e16.trans e7
  refine ⟨_, _, _, e17.cell c0, _, e17.cell c1, ?_⟩
  refine f_SwapsR (hm.ext (e1.trans e17)) (hy.ext (e1.trans e17)) (by omega) (by omega) fun s8 z2 d2 e8 r2 => ?_
  try simp only [TUP_mk, AGG_mk, HD_mk, NL_mk, TYI_mk, TYB_mk, TYP_mk, TYL_mk, TYS_mk, TYM_mk, SO_mk, NX_mk, endK_mk, endK_mk', add_0]
  have e18 := e17.trans e8
  refine ⟨_, _, _, e18.cell c0, _, e18.cell c1, ?_⟩
  refine c_LeastR (hm.ext (e1.trans e18)) fun s9 z3 d3 e9 r3 => ?_
  try simp only [TUP_mk, AGG_mk, HD_mk, NL_mk, TYI_mk, TYB_mk, TYP_mk, TYL_mk, TYS_mk, TYM_mk, SO_mk, NX_mk, endK_mk, endK_mk', add_0]
  have e19 := e18.trans e9
  refine ⟨_, _, _, e19.cell c0, _, e19.cell c1, ?_⟩
  refine f_LeastR (hm.ext (e1.trans e19)) (by omega) fun sa z4 d4 ea r4 => ?_
  try simp only [TUP_mk, AGG_mk, HD_mk, NL_mk, TYI_mk, TYB_mk, TYP_mk, TYL_mk, TYS_mk, TYM_mk, SO_mk, NX_mk, endK_mk, endK_mk', add_0]
  have e1a := e19.trans ea
  have hl1 := swapsR_len (L := L) ds hl30
  have hl2 := leastR_len (L := L)
  refine BR_eq (fun _ => ?_) (fun hh => absurd rfl hh)
  unfold J_law03_LotLooks_5
  refine BR_eq (fun _ => ?_) (fun hh => absurd rfl hh)
  unfold J_law03_LotLooks_4
  refine BR_eq (fun _ => ?_) (fun hh => absurd rfl hh)
  unfold J_law03_LotLooks_3
  refine BR_eq (fun _ => ?_) (fun hh => absurd rfl hh)
  refine f_Pairs (a := (swapsR L ds).1) (b := (swapsR L ds).1) (r1.ext (e8.trans (e9.trans ea))) (r2.ext (e9.trans ea)) (by omega) rfl rfl ?_
  try simp only [TUP_mk, AGG_mk, HD_mk, NL_mk, TYI_mk, TYB_mk, TYP_mk, TYL_mk, TYS_mk, TYM_mk, SO_mk, NX_mk, endK_mk, endK_mk', add_0]
  unfold J_law03_LotLooks_2
  refine BR_bool (fun _ => ?_) (fun hh => absurd hh (by decide))
  unfold J_law03_LotLooks_1
  refine BR_eq (fun _ => ?_) (fun hh => absurd rfl hh)
  unfold J_law03_LotLooks_0
  refine BR_eq (fun _ => ?_) (fun hh => absurd rfl hh)
  refine f_IntsV (a := (leastR L).2.1) (b := (leastR L).2.1) (r3.ext ea) r4 (by omega) rfl rfl ?_
  try simp only [TUP_mk, AGG_mk, HD_mk, NL_mk, TYI_mk, TYB_mk, TYP_mk, TYL_mk, TYS_mk, TYM_mk, SO_mk, NX_mk, endK_mk, endK_mk', add_0]
  refine BR_bool (fun _ => ?_) (fun hh => absurd hh (by decide))
  refine BR_eq (fun _ => ?_) (fun hh => absurd rfl hh)
  exact c_awake' e1a fun t et => h t (e1.trans et)
end
end Go.Proofs.Ytocnkdkgajdejaa.G

/- LotReads and LotLooks, from any arguments. -/
namespace Go.Proofs.Ytocnkdkgajdejaa.G
open Go.V Go.Lot
theorem v_LotReads {W : World} {s : Hp} {v0 v1 v2 v3 : Value} (k0 : RdV Pg s 24 v0) (k1 : RdV Pg s 25 v1) (k2 : RdV Pg s 3 v2) (k3 : RdV Pg s 3 v3) : CALL Pg W F_law03_LotReads [v0, v1, v2, v3] (fun v s' => v = .bool true ∧ Ext s s') (fun _ _ => False) s := by
  obtain ⟨x, c, L, rfl, hm, _⟩ := lots_rd k0
  obtain ⟨y, ds, c', rfl, hy⟩ := ints_rd k1
  obtain ⟨n, rfl, _⟩ := int_rd k2
  obtain ⟨m, rfl, _⟩ := int_rd k3
  exact w_LotReads hm hy fun s' e => ⟨rfl, e⟩
theorem v_LotLooks {W : World} {s : Hp} {v0 v1 v2 v3 : Value} (k0 : RdV Pg s 24 v0) (k1 : RdV Pg s 25 v1) (k2 : RdV Pg s 3 v2) (k3 : RdV Pg s 3 v3) : CALL Pg W F_law03_LotLooks [v0, v1, v2, v3] (fun v s' => v = .bool true ∧ Ext s s') (fun _ _ => False) s := by
  obtain ⟨x, c, L, rfl, hm, _⟩ := lots_rd k0
  obtain ⟨y, ds, c', rfl, hy⟩ := ints_rd k1
  obtain ⟨n, rfl, _⟩ := int_rd k2
  obtain ⟨m, rfl, _⟩ := int_rd k3
  exact w_LotLooks hm hy fun s' e => ⟨rfl, e⟩
end Go.Proofs.Ytocnkdkgajdejaa.G

/- The row of the statement LotLooks. -/
namespace Go.Proofs.Ytocnkdkgajdejaa.lotLooks
open Go.ChangeShapes Go.WideShapes Go.ChangeAt Go.RowKit Go.V
set_option linter.unusedVariables false
theorem own : ownKnob Try.prog.godebug = none := by kernel_rfl
theorem laidOut : laidOutB Try.prog = true := by kernel_rfl
set_option maxRecDepth 100000 in
theorem lifted (os : Os) (started : os.Started) (H : Type) (enc : TypeId × Value → H) :
    ReturnsInHanded {} Try.checked os 4 .any (Rows.lotLooksSpec.pre6 enc Try.prog Try.f4 Rows.lotLooksRow.domain false) (Rows.lotLooksSpec.post enc Try.prog Try.f4 false true false false) := by
  refine returnsInHanded_of_change_sized (C := Try.checked) own started (by kernel_rfl) Try.func4
    (ChangeSpec.witness6 (enc := enc) (C := Try.checked) false ⟨#[], #[(.agg #[(.slice none 0 0), (.int .i64 0)]), (.slice none 0 0), (.int .i64 0), (.int .i64 0)], []⟩ 8 (by kernel_rfl) (by kernel_rfl) (by kernel_rfl) (by kernel_rfl)) ?_
  intro W base args ds gs before hval0 hW hcnd hsz0 _
  have hsz : (DataW.weightsEach Try.prog (Try.f4.params.toList ++ Rows.lotLooksSpec.plain.varTypes Try.prog) (ds ++ gs)).all (· ≤ reachBytes) = true := hsz0
  have hval : ∀ (j : Nat) t v, Try.f4.params[j]? = some t → args[j]? = some v → Value.okWide Try.prog W .any base t v := hval0
  have hW' := hW
  obtain ⟨p, q, hA0, hV, rfl, hfz, hnd⟩ := hW
  have hA : DataW.TrodAll enc Try.prog W 0 (fun _ => true) true Try.f4.params.toList args.toList ds p := hA0
  rw [Try.params4] at hA hval hsz
  obtain ⟨v0, vs0, d0, ds0, p0, q0, hargs, rfl, rfl, h0, r0⟩ := trodAll_cons hA
  obtain ⟨v1, vs1, d1, ds1, p1, q1, rfl, rfl, rfl, h1, r1⟩ := trodAll_cons r0
  obtain ⟨v2, vs2, d2, ds2, p2, q2, rfl, rfl, rfl, h2, r2⟩ := trodAll_cons r1
  obtain ⟨v3, vs3, d3, ds3, p3, q3, rfl, rfl, rfl, h3, r3⟩ := trodAll_cons r2
  obtain ⟨rfl, rfl, rfl⟩ := trodAll_nil r3
  obtain rfl : args = #[v0, v1, v2, v3] := by cases args; simp_all
  obtain ⟨rfl, rfl⟩ := trodVars_none hV
  have k0 := trod_rdV (hval 0 24 v0 rfl rfl) h0
  have lt0 : ∀ x ∈ p0, x.block < W.heap.size := by obtain ⟨m, hm⟩ := h0; exact DataW.trod_lt m _ _ _ hm
  have k1 := trod_rdV (hval 1 25 v1 rfl rfl) h1
  have lt1 : ∀ x ∈ p1, x.block < W.heap.size := by obtain ⟨m, hm⟩ := h1; exact DataW.trod_lt m _ _ _ hm
  have k2 := trod_rdV (hval 2 3 v2 rfl rfl) h2
  have lt2 : ∀ x ∈ p2, x.block < W.heap.size := by obtain ⟨m, hm⟩ := h2; exact DataW.trod_lt m _ _ _ hm
  have k3 := trod_rdV (hval 3 3 v3 rfl rfl) h3
  have lt3 : ∀ x ∈ p3, x.block < W.heap.size := by obtain ⟨m, hm⟩ := h3; exact DataW.trod_lt m _ _ _ hm
  refine (calls_of_does (does_of_call (G.v_LotLooks (W := W) (s := W.heap) k0 k1 k2 k3))).mono fun e W' ⟨he, bel⟩ => ?_
  subst he
  exact ⟨_, rfl, _, _, _, [], _, [], hW', trodAll_mk1 (shut_bool Try.underlying4 _), (trodAll_cons_mk (Below.trod laidOut (by kernel_rfl) (of_decide_eq_true (by kernel_rfl)) h0 bel lt0) (trodAll_cons_mk (Below.trod laidOut (by kernel_rfl) (of_decide_eq_true (by kernel_rfl)) h1 bel lt1) (trodAll_cons_mk (Below.trod laidOut (by kernel_rfl) (of_decide_eq_true (by kernel_rfl)) h2 bel lt2) (trodAll_cons_mk (Below.trod laidOut (by kernel_rfl) (of_decide_eq_true (by kernel_rfl)) h3 bel lt3) trodAll_mk0)))), rfl, bel.frame _, fun h => by cases h⟩
theorem over : Rows.lotLooksRow.holds Try.pinned (OpenSpec.ofChange Rows.lotLooksSpec) :=
  OpenClaim.holds_of_wide 4 Try.f4 rfl rfl rfl rfl rfl rfl rfl ⟨rfl, rfl, rfl, rfl, rfl⟩ rfl rfl rfl rfl rfl (by kernel_rfl) Try.func4 (by kernel_rfl)
    (of_decide_eq_true (by kernel_rfl)) (by unfold Func.isWrapper; first | (rw [if_pos (by decide +kernel)]; kernel_rfl) | (rw [if_neg (by decide +kernel)]; exact ⟨rfl, rfl⟩))
    (fun os started H enc _ => lifted os started H enc)
theorem proved : Rows.LotLooksSaid := over
end Go.Proofs.Ytocnkdkgajdejaa.lotLooks
namespace Go.Proofs.Ytocnkdkgajdejaa
/-- The row, under a short name. -/
theorem lotLooks_holds : Rows.LotLooksSaid := lotLooks.proved
end Go.Proofs.Ytocnkdkgajdejaa
