import Derived.Test.YtkgcbfbbcaajpaaC4
/- Which scores could prove that any one is before another one, how many points are enough for any place, and the order, are those of the document, or why they are not known: the statement RankLooks holds for every input, with no condition. -/
/- The document's functions of layer 10: what somebody has. -/
set_option linter.unusedSimpArgs false
set_option linter.unusedVariables false
set_option maxRecDepth 20000
namespace Go.Proofs.Ytkgcbfbbcaajpaa.G
open Go.V
section
variable {W : World} {K : VK} {E : List PanicEntry → Hp → Prop} {s : Hp} {T : Tb}
theorem f_ahead {x y : Option Addr} {c c' l l' : Nat} {a b : List Int} (ha : RowAt s x (ints a)) (hb : RowAt s y (ints b)) (hl : l = a.length) (hl' : l' = b.length) (hab : a.length = b.length) (h8 : a.length ≤ 1000) (h : K (.bool (aheadL a b)) s) : CALL Pg W F_ref10_ahead [.slice x l c, .slice y l' c'] K E s := by
  subst hl
  subst hl'
  refine does_ref10_ahead W x _ c y _ c' _ s ?_
  unfold T_ref10_ahead
  refine L_ref10_ahead_0_rule W _ x a.length c y b.length c' (fun _ n t => t = s ∧ ∃ k : Nat, k ≤ a.length ∧ n = k ∧ ∀ j, j < k → a.getD j 0 = b.getD j 0) (fun _ n _ => (a.length - n).toNat) false 0 s ⟨rfl, 0, by omega, rfl, fun j hj => by omega⟩ ?_
  rintro b7 n8 t ⟨rfl, k, hk, rfl, heq⟩
  unfold B_ref10_ahead_0
  refine BR_dec (fun h1 => ?_) (fun h1 => ?_)
  · have hka : k < a.length := by omega
    obtain ⟨p, hp, g⟩ := row_int ha hka
    obtain ⟨q, hq, g'⟩ := row_int hb (show k < b.length by omega)
    have tk : ((k : Int)).toNat = k := by omega
    refine ⟨p, hp, ⟨by omega, by omega⟩, _, by rw [tk]; exact g, q, hq, ⟨by omega, by omega⟩, _, by rw [tk]; exact g', ?_⟩
    refine BR_ne (fun hne => ?_) (fun he => ?_)
    · refine ⟨p, hp, ⟨by omega, by omega⟩, _, by rw [tk]; exact g, q, hq, ⟨by omega, by omega⟩, _, by rw [tk]; exact g', ?_⟩
      rw [ahead_drop a b k heq hka (by omega) hne] at h
      exact h
    · have hw : IntKind.i64.wrap ((k : Int) + 1) = ((k + 1 : Nat) : Int) := by rw [wrap_i64 (by omega) (by omega)]; rfl
      refine ⟨rfl, _, _, rfl, ⟨rfl, k + 1, by omega, hw, fun j hj => ?_⟩, ?_⟩
      · by_cases e : j = k
        · subst e; exact he
        · exact heq j (by omega)
      · show ((a.length : Int) - IntKind.i64.wrap ((k : Int) + 1)).toNat < ((a.length : Int) - k).toNat
        rw [hw]; omega
  · have hz : aheadL a b = false := by
      have : a = b := by
        apply List.ext_getElem hab
        intro j h2 h3
        have := heq j (by omega)
        simpa [List.getD, h2, h3] using this
      rw [this]; exact ahead_same b
    rw [hz] at h
    exact h
theorem f_row {x y z : Option Addr} {c c' cz l : Nat} {d : List Int} {i : Nat} (hx : RowAt s x (ints T.off)) (hy : ScAt s y T.sc) (hz : RowAt s z (ints d)) (hl : l = d.length) (hi : i < T.off.length) (ho : 0 ≤ T.off.getD i 0 ∧ T.off.getD i 0 ≤ 100) (hd : ∀ n ∈ d, 0 ≤ n ∧ n ≤ 40) (h8 : d.length ≤ 1000)
    (h : ∀ s' w cw, Ext s s' → RowAt s' w (ints ((d.sum - T.off.getD i 0) :: d)) → K (.slice w (1 + d.length) cw) s') :
    CALL Pg W F_ref10_row [.agg #[.int .i64 T.men, .int .i64 T.sheets, .slice x T.off.length c, .slice y T.sc.length c'], .int .i64 i, .slice z l cz] K E s := by
  subst hl
  refine does_ref10_row W T.men T.sheets x T.off.length c y T.sc.length c' i z _ cz _ s ?_
  unfold T_ref10_row
  refine NEW_rule fun s1 e1 z1 n1 _ => ?_
  obtain ⟨a, ha, g⟩ := row_int (hx.ext e1) hi
  have ti : ((i : Int)).toNat = i := by omega
  refine ⟨_, _, _, (n1 2 _ rfl).cell, a, ha, ⟨by omega, by omega⟩, _, by rw [ti]; exact g, ?_⟩
  have hw0 : IntKind.wrap .i64 (0 - T.off.getD i 0) = - T.off.getD i 0 := by rw [wrap_i64 (by omega) (by omega)]; omega
  dsimp only
  rw [hw0]
  have hsum : ∀ k, k ≤ d.length → 0 ≤ (d.take k).sum ∧ (d.take k).sum ≤ 40 * k := by
    intro k hk
    have := sum_lim (l := d.take k) (fun n hn => hd n (List.mem_of_mem_take hn))
    rw [List.length_take, Nat.min_eq_left hk] at this
    exact this
  refine L_ref10_row_0_rule W _ z d.length cz (fun v n t => t = s1 ∧ ∃ k : Nat, k ≤ d.length ∧ n = k ∧ v = (d.take k).sum - T.off.getD i 0) (fun _ n _ => (d.length - n).toNat) _ 0 s1 ⟨rfl, 0, by omega, rfl, by simp⟩ ?_
  rintro n19 n20 t ⟨rfl, k, hk, rfl, rfl⟩
  unfold B_ref10_row_0
  refine BR_dec (fun h1 => ?_) (fun h1 => ?_)
  · have hkl : k < d.length := by omega
    obtain ⟨b, hb, g'⟩ := row_int (hz.ext e1) hkl
    have tk : ((k : Int)).toNat = k := by omega
    refine ⟨b, hb, ⟨by omega, by omega⟩, _, by rw [tk]; exact g', ?_⟩
    have hw : IntKind.i64.wrap ((k : Int) + 1) = ((k + 1 : Nat) : Int) := by rw [wrap_i64 (by omega) (by omega)]; rfl
    have hs := hsum (k + 1) (by omega)
    have e : (d.take (k + 1)).sum = (d.take k).sum + d.getD k 0 := by
      have hg : d.getD k 0 = d[k] := by simp [List.getD, hkl]
      rw [hg, List.take_add_one, List.getElem?_eq_getElem hkl, List.sum_append]
      show (d.take k).sum + ([d[k]] : List Int).sum = _
      rw [List.sum_cons, List.sum_nil, Int.add_zero]
    rw [e] at hs
    refine ⟨rfl, _, _, rfl, ⟨rfl, k + 1, by omega, hw, ?_⟩, ?_⟩
    · rw [e, wrap_i64 (by omega) (by omega)]; omega
    · show ((d.length : Int) - IntKind.i64.wrap ((k : Int) + 1)).toNat < ((d.length : Int) - k).toNat
      rw [hw]; omega
  · have hkl : k = d.length := by omega
    subst hkl
    rw [List.take_length]
    refine NEW_rule fun s2 e2 z2 n2 _ => ?_
    have hfr : Fr t.size s2 (some ⟨t.size, 0, none⟩) 1 1 1 (ints [d.sum - T.off.getD i 0]) := ⟨⟨by simp [ints], fun j hj => ⟨_, rfl, by
      have hj0 : j = 0 := by omega
      subst hj0
      exact ⟨_, n2 0 _ rfl, fun _ => rfl⟩⟩⟩, by simp [ints], (fun b hb => by cases hb; exact Nat.le_refl _), by omega⟩
    refine APP_fr (ws := ints d) hfr e2.1 ((hz.ext e1).ext e2) (by rw [ints_len]; omega) zc_3 rfl (by omega) (ints_one _) (by omega) fun s3 x3 c3 k3 g3 f3 => ?_
    have e13 : Ext t s3 := ⟨Nat.le_trans e2.1 k3.1, fun q hq => by
      rw [k3.2 q (Nat.lt_of_lt_of_le hq e2.1) (fun ⟨b, hb, hbq⟩ => by cases hb; have : t.size = q := hbq; omega)]
      exact e2.2 q hq⟩
    rw [← ints_app] at f3
    exact h s3 x3 c3 (e1.trans e13) f3.row
theorem f_least {x y : Option Addr} {c c' : Nat} {i : Nat} (hok : okT T = true) (hi : i < T.n) (hx : RowAt s x (ints T.off)) (hy : ScAt s y T.sc)
    (h : ∀ s' w cw, Ext s s' → RowAt s' w (ints (rowL (pts (prs T)) false T.m (offT T i) i)) → K (.slice w (1 + T.m) cw) s') :
    CALL Pg W F_ref10_least [.agg #[.int .i64 T.men, .int .i64 T.sheets, .slice x T.off.length c, .slice y T.sc.length c'], .int .i64 i] K E s := by
  have vd := okT_vd hok
  have hm5 := vd.m5
  obtain ⟨_, hsh, _, _, h30, _⟩ := okT_iff.1 hok
  have hm : ((T.m : Nat) : Int) = T.sheets := by unfold Tb.m; omega
  refine does_ref10_least W T.men T.sheets x T.off.length c y T.sc.length c' i _ s ?_
  unfold T_ref10_least
  refine NEW_rule fun s1 e1 z1 n1 _ => ?_
  have ta := tbA_new e1 hx hy n1
  refine L_ref10_least_0_rule W _ i ⟨s.size, 0, none⟩ (fun xx ll cc n t => Ext s1 t ∧ ∃ k : Nat, k ≤ T.m ∧ n = k ∧ Li s1.size t xx ll cc (rowS (pts (prs T)) false k i)) (fun _ _ _ n _ => (T.m - n).toNat) none 0 0 0 s1 ⟨Ext.refl _, 0, by omega, rfl, ⟨Fr.nil _ _ _, fun b hb => by cases hb⟩⟩ ?_
  rintro xx ll c2 n14 t ⟨et, k, hk, rfl, li⟩
  have tat := ta.ext et
  obtain ⟨x1, c1, g1, g2⟩ := tat.off
  obtain ⟨y1, cy, q1, q2⟩ := tat.sc
  have e0t := e1.trans et
  unfold B_ref10_least_0
  refine ⟨_, tat.sheets, ?_⟩
  have hsucc : rowS (pts (prs T)) false (k + 1) i = rowS (pts (prs T)) false k i ++ [sel false (pts (prs T) ((i : Int), (k : Int)))] := by unfold rowS; rw [List.range_succ, List.map_append]; rfl
  refine BR_dec (fun h1 => ?_) (fun h1 => ?_)
  · have hkm : k < T.m := by omega
    refine ⟨_, tat.men, _, tat.sheets, _, _, _, g1, _, _, _, q1, ?_⟩
    refine f_Points g2 q2 (by omega) fun t2 f2 => ?_
    unfold spanV
    try simp only [TUP_mk, AGG_mk, HD_mk, NL_mk, TYI_mk, TYB_mk, TYP_mk, TYL_mk, TYS_mk, TYM_mk, SO_mk, NX_mk, endK_mk, endK_mk', add_0]
    refine NEW_rule fun t3 f3 y3 m3 _ => ?_
    have f23 := f2.trans f3
    have hlen := rowS_len (pts (prs T)) false k i
    refine li_add (li.ext f23) (Nat.le_trans et.1 f23.1) (m3 0 _ rfl).cell (by omega) fun t4 x4 c4 k4 li4 g4 => ?_
    have hw : IntKind.i64.wrap ((k : Int) + 1) = ((k + 1 : Nat) : Int) := by rw [wrap_i64 (by omega) (by omega)]; rfl
    refine ⟨_, _, _, _, rfl, ⟨?_, k + 1, by omega, hw, by rw [hsucc]; exact li4⟩, ?_⟩
    · have e13 := et.trans f23
      exact ⟨Nat.le_trans e13.1 k4.1, fun q hq => by
        rw [k4.2 q (Nat.lt_of_lt_of_le hq e13.1) (fun ⟨a, ha, hab⟩ => by have := li.fr.fr a ha; omega)]
        exact e13.2 q hq⟩
    · show ((T.m : Int) - IntKind.i64.wrap ((k : Int) + 1)).toNat < ((T.m : Int) - k).toNat
      rw [hw]; omega
  · have hkm : k = T.m := by omega
    subst hkm
    refine ⟨_, tat.men, _, tat.sheets, _, _, _, g1, _, _, _, q1, ?_⟩
    have hlen := rowS_len (pts (prs T)) false T.m i
    have hil : i < T.off.length := by rw [vd.len]; exact hi
    refine f_row (d := rowS (pts (prs T)) false T.m i) g2 q2 li.fr.row li.len hil (vd.off _ (by rw [show T.off.getD i 0 = T.off[i] by simp [List.getD, hil]]; exact List.getElem_mem _)) (fun n hn => ?_) (by omega) fun t2 w cw f2 hw => ?_
    · unfold rowS at hn
      obtain ⟨q, _, rfl⟩ := List.mem_map.1 hn
      have := pts_in vd ((i : Int), (q : Int))
      show 0 ≤ (pts (prs T) ((i : Int), (q : Int))).1 ∧ (pts (prs T) ((i : Int), (q : Int))).1 ≤ 40
      omega
    · try simp only [TUP_mk, AGG_mk, HD_mk, NL_mk, TYI_mk, TYB_mk, TYP_mk, TYL_mk, TYS_mk, TYM_mk, SO_mk, NX_mk, endK_mk, endK_mk', add_0]
      rw [hlen]
      exact h t2 w cw (e0t.trans f2) hw
theorem f_most {x y : Option Addr} {c c' : Nat} {i : Nat} (hok : okT T = true) (hi : i < T.n) (hx : RowAt s x (ints T.off)) (hy : ScAt s y T.sc)
    (h : ∀ s' w cw, Ext s s' → RowAt s' w (ints (rowL (pts (prs T)) true T.m (offT T i) i)) → K (.slice w (1 + T.m) cw) s') :
    CALL Pg W F_ref10_most [.agg #[.int .i64 T.men, .int .i64 T.sheets, .slice x T.off.length c, .slice y T.sc.length c'], .int .i64 i] K E s := by
  have vd := okT_vd hok
  have hm5 := vd.m5
  obtain ⟨_, hsh, _, _, h30, _⟩ := okT_iff.1 hok
  have hm : ((T.m : Nat) : Int) = T.sheets := by unfold Tb.m; omega
  refine does_ref10_most W T.men T.sheets x T.off.length c y T.sc.length c' i _ s ?_
  unfold T_ref10_most
  refine NEW_rule fun s1 e1 z1 n1 _ => ?_
  have ta := tbA_new e1 hx hy n1
  refine L_ref10_most_0_rule W _ i ⟨s.size, 0, none⟩ (fun xx ll cc n t => Ext s1 t ∧ ∃ k : Nat, k ≤ T.m ∧ n = k ∧ Li s1.size t xx ll cc (rowS (pts (prs T)) true k i)) (fun _ _ _ n _ => (T.m - n).toNat) none 0 0 0 s1 ⟨Ext.refl _, 0, by omega, rfl, ⟨Fr.nil _ _ _, fun b hb => by cases hb⟩⟩ ?_
  rintro xx ll c2 n14 t ⟨et, k, hk, rfl, li⟩
  have tat := ta.ext et
  obtain ⟨x1, c1, g1, g2⟩ := tat.off
  obtain ⟨y1, cy, q1, q2⟩ := tat.sc
  have e0t := e1.trans et
  unfold B_ref10_most_0
  refine ⟨_, tat.sheets, ?_⟩
  have hsucc : rowS (pts (prs T)) true (k + 1) i = rowS (pts (prs T)) true k i ++ [sel true (pts (prs T) ((i : Int), (k : Int)))] := by unfold rowS; rw [List.range_succ, List.map_append]; rfl
  refine BR_dec (fun h1 => ?_) (fun h1 => ?_)
  · have hkm : k < T.m := by omega
    refine ⟨_, tat.men, _, tat.sheets, _, _, _, g1, _, _, _, q1, ?_⟩
    refine f_Points g2 q2 (by omega) fun t2 f2 => ?_
    unfold spanV
    try simp only [TUP_mk, AGG_mk, HD_mk, NL_mk, TYI_mk, TYB_mk, TYP_mk, TYL_mk, TYS_mk, TYM_mk, SO_mk, NX_mk, endK_mk, endK_mk', add_0]
    refine NEW_rule fun t3 f3 y3 m3 _ => ?_
    have f23 := f2.trans f3
    have hlen := rowS_len (pts (prs T)) true k i
    refine li_add (li.ext f23) (Nat.le_trans et.1 f23.1) (m3 0 _ rfl).cell (by omega) fun t4 x4 c4 k4 li4 g4 => ?_
    have hw : IntKind.i64.wrap ((k : Int) + 1) = ((k + 1 : Nat) : Int) := by rw [wrap_i64 (by omega) (by omega)]; rfl
    refine ⟨_, _, _, _, rfl, ⟨?_, k + 1, by omega, hw, by rw [hsucc]; exact li4⟩, ?_⟩
    · have e13 := et.trans f23
      exact ⟨Nat.le_trans e13.1 k4.1, fun q hq => by
        rw [k4.2 q (Nat.lt_of_lt_of_le hq e13.1) (fun ⟨a, ha, hab⟩ => by have := li.fr.fr a ha; omega)]
        exact e13.2 q hq⟩
    · show ((T.m : Int) - IntKind.i64.wrap ((k : Int) + 1)).toNat < ((T.m : Int) - k).toNat
      rw [hw]; omega
  · have hkm : k = T.m := by omega
    subst hkm
    refine ⟨_, tat.men, _, tat.sheets, _, _, _, g1, _, _, _, q1, ?_⟩
    have hlen := rowS_len (pts (prs T)) true T.m i
    have hil : i < T.off.length := by rw [vd.len]; exact hi
    refine f_row (d := rowS (pts (prs T)) true T.m i) g2 q2 li.fr.row li.len hil (vd.off _ (by rw [show T.off.getD i 0 = T.off[i] by simp [List.getD, hil]]; exact List.getElem_mem _)) (fun n hn => ?_) (by omega) fun t2 w cw f2 hw => ?_
    · unfold rowS at hn
      obtain ⟨q, _, rfl⟩ := List.mem_map.1 hn
      have := pts_in vd ((i : Int), (q : Int))
      show 0 ≤ (pts (prs T) ((i : Int), (q : Int))).2 ∧ (pts (prs T) ((i : Int), (q : Int))).2 ≤ 40
      omega
    · try simp only [TUP_mk, AGG_mk, HD_mk, NL_mk, TYI_mk, TYB_mk, TYP_mk, TYL_mk, TYS_mk, TYM_mk, SO_mk, NX_mk, endK_mk, endK_mk', add_0]
      rw [hlen]
      exact h t2 w cw (e0t.trans f2) hw
end
end Go.Proofs.Ytkgcbfbbcaajpaa.G

/- The document's functions of layer 10: Sum, Before. -/
set_option linter.unusedSimpArgs false
set_option linter.unusedVariables false
set_option maxRecDepth 20000
namespace Go.Proofs.Ytkgcbfbbcaajpaa.G
open Go.V
section
variable {W : World} {K : VK} {E : List PanicEntry → Hp → Prop} {s : Hp} {T : Tb}
theorem f_check {x y : Option Addr} {c c' : Nat} {b : Bool} (hx : RowAt s x (ints T.off)) (hy : ScAt s y T.sc) (hlo : T.off.length ≤ 100000)
    (h : ∀ s', Ext s s' → K (.int .i64 (if okT T then (if b then 0 else 2) else 1)) s') :
    CALL Pg W F_ref10_check [.agg #[.int .i64 T.men, .int .i64 T.sheets, .slice x T.off.length c, .slice y T.sc.length c'], .bool b] K E s := by
  refine does_ref10_check W T.men T.sheets x T.off.length c y T.sc.length c' b _ s ?_
  unfold T_ref10_check
  refine NEW_rule fun s1 e1 z1 n1 _ => ?_
  refine ⟨_, (n1 0 _ rfl).cell, _, (n1 1 _ rfl).cell, _, _, _, (n1 2 _ rfl).cell, _, _, _, (n1 3 _ rfl).cell, ?_⟩
  refine f_Table (hx.ext e1) (hy.ext e1) hlo fun s2 e2 => ?_
  try simp only [TUP_mk, AGG_mk, HD_mk, NL_mk, TYI_mk, TYB_mk, TYP_mk, TYL_mk, TYS_mk, TYM_mk, SO_mk, NX_mk, endK_mk, endK_mk', add_0]
  have h' := h s2 (e1.trans e2)
  refine BR_not (fun hv => ?_) (fun hv => ?_)
  · rw [hv] at h'; exact h'
  · rw [hv] at h'
    refine BR_not (fun hb => ?_) (fun hb => ?_)
    · rw [hb] at h'; exact h'
    · rw [hb] at h'; exact h'
theorem f_Man {x y : Option Addr} {c c' : Nat} {i : Int} (h : ∀ s' b, Ext s s' → (okT T = true → b = decide (isM T i)) → K (.bool b) s') :
    CALL Pg W F_ref10_Man [.agg #[.int .i64 T.men, .int .i64 T.sheets, .slice x T.off.length c, .slice y T.sc.length c'], .int .i64 i] K E s := by
  refine does_ref10_Man W T.men T.sheets x T.off.length c y T.sc.length c' i _ s ?_
  unfold T_ref10_Man
  refine NEW_rule fun s1 e1 z1 n1 _ => ?_
  refine ⟨_, (n1 0 _ rfl).cell, ?_⟩
  refine f_in ?_
  try simp only [TUP_mk, AGG_mk, HD_mk, NL_mk, TYI_mk, TYB_mk, TYP_mk, TYL_mk, TYS_mk, TYM_mk, SO_mk, NX_mk, endK_mk, endK_mk', add_0]
  refine h s1 _ e1 fun hok => ?_
  obtain ⟨hm, _⟩ := okT_iff.1 hok
  rw [wrap_i64 (by omega) (by omega)]
  rfl
theorem f_surely {x y : Option Addr} {c c' : Nat} {a b : Nat} (hok : okT T = true) (ha : a < T.n) (hb : b < T.n) (hx : RowAt s x (ints T.off)) (hy : ScAt s y T.sc)
    (h : ∀ s', Ext s s' → K (.bool (befP (pts (prs T)) false T.m T.off a b)) s') :
    CALL Pg W F_ref10_surely [.agg #[.int .i64 T.men, .int .i64 T.sheets, .slice x T.off.length c, .slice y T.sc.length c'], .int .i64 a, .int .i64 b] K E s := by
  have vd := okT_vd hok
  have hm5 := vd.m5
  refine does_ref10_surely W T.men T.sheets x T.off.length c y T.sc.length c' a b _ s ?_
  unfold T_ref10_surely
  refine NEW_rule fun s1 e1 z1 n1 _ => ?_
  have c0 := (n1 0 _ rfl).cell
  have c1 := (n1 1 _ rfl).cell
  have c2 := (n1 2 _ rfl).cell
  have c3 := (n1 3 _ rfl).cell
  refine BR_ne (fun hne => ?_) (fun he => ?_)
  · have hab : a ≠ b := fun e => hne (by rw [e])
    refine ⟨_, c0, _, c1, _, _, _, c2, _, _, _, c3, _, c0, _, c1, _, _, _, c2, _, _, _, c3, ?_⟩
    refine f_least hok ha (hx.ext e1) (hy.ext e1) fun s2 w cw e2 r1 => ?_
    try simp only [TUP_mk, AGG_mk, HD_mk, NL_mk, TYI_mk, TYB_mk, TYP_mk, TYL_mk, TYS_mk, TYM_mk, SO_mk, NX_mk, endK_mk, endK_mk', add_0]
    have e02 := e1.trans e2
    refine ⟨⟨_, e2.cell c0, _, e2.cell c1, _, _, _, e2.cell c2, _, _, _, e2.cell c3, rfl⟩, ?_⟩
    refine f_most hok hb (hx.ext e02) (hy.ext e02) fun s3 w' cw' e3 r2 => ?_
    try simp only [TUP_mk, AGG_mk, HD_mk, NL_mk, TYI_mk, TYB_mk, TYP_mk, TYL_mk, TYS_mk, TYM_mk, SO_mk, NX_mk, endK_mk, endK_mk', add_0]
    refine f_ahead (r1.ext e3) r2 (by rw [rowL_len]; omega) (by rw [rowL_len]; omega) (by rw [rowL_len, rowL_len]) (by rw [rowL_len]; omega) ?_
    try simp only [TUP_mk, AGG_mk, HD_mk, NL_mk, TYI_mk, TYB_mk, TYP_mk, TYL_mk, TYS_mk, TYM_mk, SO_mk, NX_mk, endK_mk, endK_mk', add_0]
    have := h s3 (e02.trans e3)
    unfold befP at this
    rw [decide_eq_true hab, Bool.true_and] at this
    exact this
  · have hab : a = b := by omega
    have := h s1 e1
    unfold befP at this
    rw [decide_eq_false (fun hn => hn hab), Bool.false_and] at this
    exact this
theorem f_can {x y : Option Addr} {c c' : Nat} {a b : Nat} (hok : okT T = true) (ha : a < T.n) (hb : b < T.n) (hx : RowAt s x (ints T.off)) (hy : ScAt s y T.sc)
    (h : ∀ s', Ext s s' → K (.bool (befP (pts (prs T)) true T.m T.off a b)) s') :
    CALL Pg W F_ref10_can [.agg #[.int .i64 T.men, .int .i64 T.sheets, .slice x T.off.length c, .slice y T.sc.length c'], .int .i64 a, .int .i64 b] K E s := by
  have vd := okT_vd hok
  have hm5 := vd.m5
  refine does_ref10_can W T.men T.sheets x T.off.length c y T.sc.length c' a b _ s ?_
  unfold T_ref10_can
  refine NEW_rule fun s1 e1 z1 n1 _ => ?_
  have c0 := (n1 0 _ rfl).cell
  have c1 := (n1 1 _ rfl).cell
  have c2 := (n1 2 _ rfl).cell
  have c3 := (n1 3 _ rfl).cell
  refine BR_ne (fun hne => ?_) (fun he => ?_)
  · have hab : a ≠ b := fun e => hne (by rw [e])
    refine ⟨_, c0, _, c1, _, _, _, c2, _, _, _, c3, _, c0, _, c1, _, _, _, c2, _, _, _, c3, ?_⟩
    refine f_most hok ha (hx.ext e1) (hy.ext e1) fun s2 w cw e2 r1 => ?_
    try simp only [TUP_mk, AGG_mk, HD_mk, NL_mk, TYI_mk, TYB_mk, TYP_mk, TYL_mk, TYS_mk, TYM_mk, SO_mk, NX_mk, endK_mk, endK_mk', add_0]
    have e02 := e1.trans e2
    refine ⟨⟨_, e2.cell c0, _, e2.cell c1, _, _, _, e2.cell c2, _, _, _, e2.cell c3, rfl⟩, ?_⟩
    refine f_least hok hb (hx.ext e02) (hy.ext e02) fun s3 w' cw' e3 r2 => ?_
    try simp only [TUP_mk, AGG_mk, HD_mk, NL_mk, TYI_mk, TYB_mk, TYP_mk, TYL_mk, TYS_mk, TYM_mk, SO_mk, NX_mk, endK_mk, endK_mk', add_0]
    refine f_ahead (r1.ext e3) r2 (by rw [rowL_len]; omega) (by rw [rowL_len]; omega) (by rw [rowL_len, rowL_len]) (by rw [rowL_len]; omega) ?_
    try simp only [TUP_mk, AGG_mk, HD_mk, NL_mk, TYI_mk, TYB_mk, TYP_mk, TYL_mk, TYS_mk, TYM_mk, SO_mk, NX_mk, endK_mk, endK_mk', add_0]
    have := h s3 (e02.trans e3)
    unfold befP at this
    rw [decide_eq_true hab, Bool.true_and] at this
    exact this
  · have hab : a = b := by omega
    have := h s1 e1
    unfold befP at this
    rw [decide_eq_false (fun hn => hn hab), Bool.false_and] at this
    exact this
theorem f_Sum {x y : Option Addr} {c c' : Nat} {i : Int} (hx : RowAt s x (ints T.off)) (hy : ScAt s y T.sc) (hlo : T.off.length ≤ 100000) (h : ∀ s', Ext s s' → K (.tuple #[spanV (sumP T i).1, .int .i64 (sumP T i).2]) s') :
    CALL Pg W F_ref10_Sum [.agg #[.int .i64 T.men, .int .i64 T.sheets, .slice x T.off.length c, .slice y T.sc.length c'], .int .i64 i] K E s := by
  refine does_ref10_Sum W T.men T.sheets x T.off.length c y T.sc.length c' i _ s ?_
  unfold T_ref10_Sum
  refine NEW_rule fun s1 e1 z1 n1 _ => ?_
  refine NEWZ_rule zc_29 fun s2 e2 z2 n2 => ?_
  have e02 := e1.trans e2
  have c0 := e2.cell (n1 0 _ rfl).cell
  have c1 := e2.cell (n1 1 _ rfl).cell
  have c2 := e2.cell (n1 2 _ rfl).cell
  have c3 := e2.cell (n1 3 _ rfl).cell
  have b0 := n2 0 _ rfl
  have b1 := n2 1 _ rfl
  have hs1 := e1.1
  refine ⟨_, c0, _, c1, _, _, _, c2, _, _, _, c3, _, c0, _, c1, _, _, _, c2, _, _, _, c3, ?_⟩
  refine f_Man fun s3 b e3 hb => ?_
  try simp only [TUP_mk, AGG_mk, HD_mk, NL_mk, TYI_mk, TYB_mk, TYP_mk, TYL_mk, TYS_mk, TYM_mk, SO_mk, NX_mk, endK_mk, endK_mk', add_0]
  refine ⟨⟨_, e3.cell c0, _, e3.cell c1, _, _, _, e3.cell c2, _, _, _, e3.cell c3, rfl⟩, ?_⟩
  have e03 := e02.trans e3
  refine f_check (hx.ext e03) (hy.ext e03) hlo fun s4 e4 => ?_
  try simp only [TUP_mk, AGG_mk, HD_mk, NL_mk, TYI_mk, TYB_mk, TYP_mk, TYL_mk, TYS_mk, TYM_mk, SO_mk, NX_mk, endK_mk, endK_mk', add_0]
  have e24 := e3.trans e4
  have e04 := e02.trans e24
  have fin : ∀ (t : Hp) (v : Int × Int) (e : Int), Ext s2 t → sumP T i = (v, e) → (WR (Addr.add ⟨s1.size, 0, none⟩ 0) (.int .i64 v.1) <| WR (Addr.add ⟨s1.size, 0, none⟩ 1) (.int .i64 v.2) <| RDI .i64 (Addr.add ⟨s1.size, 0, none⟩ 0) fun n42 => RDI .i64 (Addr.add ⟨s1.size, 0, none⟩ 1) fun n43 => K (.tuple #[(.agg #[(.int .i64 n42), (.int .i64 n43)]), (.int .i64 e)])) t := by
    intro t v e et hv
    rw [hv] at h
    refine wr2 rfl rfl (new2' (et.own b0) (et.own b1)) fun t2 k2 z2 o0 o1 => ?_
    exact ⟨_, o0.cell, _, o1.cell, h t2 (kp_new (e02.trans et) (by omega) k2)⟩
  by_cases hok : okT T = true
  · by_cases hm : isM T i
    · have hbt : b = true := by rw [hb hok]; exact decide_eq_true hm
      have hc : (if okT T = true then (if b = true then (0 : Int) else 2) else 1) = 0 := by rw [if_pos hok, if_pos hbt]
      rw [hc]
      refine BR_ne (fun hh => absurd rfl hh) (fun _ => ?_)
      refine ⟨_, e24.cell c0, _, e24.cell c1, _, _, _, e24.cell c2, _, _, _, e24.cell c3, _, e24.cell c0, _, e24.cell c1, _, _, _, e24.cell c2, _, _, _, e24.cell c3, ?_⟩
      obtain ⟨j, rfl⟩ := Int.eq_ofNat_of_zero_le hm.1
      have hjn : j < T.n := by have h2 := hm.2; obtain ⟨h3, _⟩ := okT_iff.1 hok; unfold Tb.n; omega
      refine f_least hok hjn (hx.ext e04) (hy.ext e04) fun s5 w cw e5 r1 => ?_
      try simp only [TUP_mk, AGG_mk, HD_mk, NL_mk, TYI_mk, TYB_mk, TYP_mk, TYL_mk, TYS_mk, TYM_mk, SO_mk, NX_mk, endK_mk, endK_mk', add_0]
      have e25 := e24.trans e5
      refine ⟨⟨_, e25.cell c0, _, e25.cell c1, _, _, _, e25.cell c2, _, _, _, e25.cell c3, rfl⟩, ?_⟩
      obtain ⟨a1, ha1, g1⟩ := row_int r1 (show 0 < _ by rw [rowL_len]; omega)
      refine ⟨a1, ha1, ⟨by omega, by omega⟩, _, g1, ?_⟩
      have e05 := e02.trans e25
      refine f_most hok hjn (hx.ext e05) (hy.ext e05) fun s6 w' cw' e6 r2 => ?_
      try simp only [TUP_mk, AGG_mk, HD_mk, NL_mk, TYI_mk, TYB_mk, TYP_mk, TYL_mk, TYS_mk, TYM_mk, SO_mk, NX_mk, endK_mk, endK_mk', add_0]
      refine ⟨⟨_, e6.cell g1, rfl⟩, ?_⟩
      obtain ⟨a2, ha2, g2⟩ := row_int r2 (show 0 < _ by rw [rowL_len]; omega)
      refine ⟨a2, ha2, ⟨by omega, by omega⟩, _, g2, ?_⟩
      refine fin s6 (_, _) 0 (e25.trans e6) ?_
      unfold sumP
      rw [hok, if_pos rfl, if_pos hm]; rfl
    · have hbf : b = false := by rw [hb hok]; exact decide_eq_false hm
      have hc : (if okT T = true then (if b = true then (0 : Int) else 2) else 1) = 2 := by rw [if_pos hok, hbf]; rfl
      rw [hc]
      refine BR_ne (fun _ => ?_) (fun hh => absurd hh (by decide))
      refine fin s4 (0, 0) 2 e24 ?_
      unfold sumP
      rw [hok, if_pos rfl, if_neg hm]
  · have hc : (if okT T = true then (if b = true then (0 : Int) else 2) else 1) = 1 := by rw [if_neg hok]
    rw [hc]
    refine BR_ne (fun _ => ?_) (fun hh => absurd hh (by decide))
    refine fin s4 (0, 0) 1 e24 ?_
    unfold sumP
    rw [if_neg hok]
theorem f_Before {x y : Option Addr} {c c' : Nat} {a b : Int} (hx : RowAt s x (ints T.off)) (hy : ScAt s y T.sc) (hlo : T.off.length ≤ 100000) (h : ∀ s', Ext s s' → K (.tuple #[.int .i64 (befR T a b).1, .int .i64 (befR T a b).2]) s') :
    CALL Pg W F_ref10_Before [.agg #[.int .i64 T.men, .int .i64 T.sheets, .slice x T.off.length c, .slice y T.sc.length c'], .int .i64 a, .int .i64 b] K E s := by
  refine does_ref10_Before W T.men T.sheets x T.off.length c y T.sc.length c' a b _ s ?_
  unfold T_ref10_Before
  refine NEW_rule fun s1 e1 z1 n1 _ => ?_
  have c0 := (n1 0 _ rfl).cell
  have c1 := (n1 1 _ rfl).cell
  have c2 := (n1 2 _ rfl).cell
  have c3 := (n1 3 _ rfl).cell
  refine ⟨_, c0, _, c1, _, _, _, c2, _, _, _, c3, _, c0, _, c1, _, _, _, c2, _, _, _, c3, ?_⟩
  have j0 : ∀ (t : Hp) (q : Bool), Ext s1 t → (okT T = true → q = decide (isM T a ∧ isM T b)) → J_ref10_Before_0 W (endK K E) T.men T.sheets x T.off.length c y T.sc.length c' q s.size a b t := by
    intro t q et hq
    have e0t := e1.trans et
    unfold J_ref10_Before_0
    refine f_check (hx.ext e0t) (hy.ext e0t) hlo fun t2 f2 => ?_
    try simp only [TUP_mk, AGG_mk, HD_mk, NL_mk, TYI_mk, TYB_mk, TYP_mk, TYL_mk, TYS_mk, TYM_mk, SO_mk, NX_mk, endK_mk, endK_mk', add_0]
    have et2 := et.trans f2
    have e0t2 := e1.trans et2
    by_cases hok : okT T = true
    · by_cases hm : isM T a ∧ isM T b
      · have hbt : q = true := by rw [hq hok]; exact decide_eq_true hm
        have hc : (if okT T = true then (if q = true then (0 : Int) else 2) else 1) = 0 := by rw [if_pos hok, if_pos hbt]
        rw [hc]
        refine BR_ne (fun hh => absurd rfl hh) (fun _ => ?_)
        obtain ⟨i, rfl⟩ := Int.eq_ofNat_of_zero_le hm.1.1
        obtain ⟨j, rfl⟩ := Int.eq_ofNat_of_zero_le hm.2.1
        have hr : befR T i j = (befN T i j, 0) := by unfold befR; rw [hok, if_pos rfl, if_pos hm]; rfl
        rw [hr] at h
        have hin : i < T.n := by have h2 := hm.1.2; obtain ⟨h3, _⟩ := okT_iff.1 hok; unfold Tb.n; omega
        have hjn : j < T.n := by have h2 := hm.2.2; obtain ⟨h3, _⟩ := okT_iff.1 hok; unfold Tb.n; omega
        refine ⟨_, et2.cell c0, _, et2.cell c1, _, _, _, et2.cell c2, _, _, _, et2.cell c3, ?_⟩
        refine f_surely hok hin hjn (hx.ext e0t2) (hy.ext e0t2) fun t3 f3 => ?_
        try simp only [TUP_mk, AGG_mk, HD_mk, NL_mk, TYI_mk, TYB_mk, TYP_mk, TYL_mk, TYS_mk, TYM_mk, SO_mk, NX_mk, endK_mk, endK_mk', add_0]
        have et3 := et2.trans f3
        refine BR_bool (fun h1 => ?_) (fun h1 => ?_)
        · have hN : befN T i j = 2 := by unfold befN; rw [h1, if_pos rfl]
          rw [hN] at h
          exact h t3 (e1.trans et3)
        · refine ⟨_, et3.cell c0, _, et3.cell c1, _, _, _, et3.cell c2, _, _, _, et3.cell c3, ?_⟩
          refine f_can hok hin hjn (hx.ext (e1.trans et3)) (hy.ext (e1.trans et3)) fun t4 f4 => ?_
          try simp only [TUP_mk, AGG_mk, HD_mk, NL_mk, TYI_mk, TYB_mk, TYP_mk, TYL_mk, TYS_mk, TYM_mk, SO_mk, NX_mk, endK_mk, endK_mk', add_0]
          have e04 := e1.trans (et3.trans f4)
          refine BR_bool (fun h2 => ?_) (fun h2 => ?_)
          · have hN : befN T i j = 1 := by unfold befN; rw [h1, h2]; rfl
            rw [hN] at h
            exact h t4 e04
          · have hN : befN T i j = 0 := by unfold befN; rw [h1, h2]; rfl
            rw [hN] at h
            exact h t4 e04
      · have hbf : q = false := by rw [hq hok]; exact decide_eq_false hm
        have hc : (if okT T = true then (if q = true then (0 : Int) else 2) else 1) = 2 := by rw [if_pos hok, hbf]; rfl
        rw [hc]
        refine BR_ne (fun _ => ?_) (fun hh => absurd hh (by decide))
        have hr : befR T a b = (0, 2) := by unfold befR; rw [hok, if_pos rfl, if_neg hm]
        rw [hr] at h
        exact h t2 e0t2
    · have hc : (if okT T = true then (if q = true then (0 : Int) else 2) else 1) = 1 := by rw [if_neg hok]
      rw [hc]
      refine BR_ne (fun _ => ?_) (fun hh => absurd hh (by decide))
      have hr : befR T a b = (0, 1) := by unfold befR; rw [if_neg hok]
      rw [hr] at h
      exact h t2 e0t2
  refine f_Man fun s3 q1 e3 hb => ?_
  try simp only [TUP_mk, AGG_mk, HD_mk, NL_mk, TYI_mk, TYB_mk, TYP_mk, TYL_mk, TYS_mk, TYM_mk, SO_mk, NX_mk, endK_mk, endK_mk', add_0]
  refine ⟨⟨_, e3.cell c0, _, e3.cell c1, _, _, _, e3.cell c2, _, _, _, e3.cell c3, rfl⟩, ?_⟩
  refine BR_bool (fun hq => ?_) (fun hq => ?_)
  · refine ⟨_, e3.cell c0, _, e3.cell c1, _, _, _, e3.cell c2, _, _, _, e3.cell c3, ?_⟩
    refine f_Man fun s4 q2 e4 hb2 => ?_
    try simp only [TUP_mk, AGG_mk, HD_mk, NL_mk, TYI_mk, TYB_mk, TYP_mk, TYL_mk, TYS_mk, TYM_mk, SO_mk, NX_mk, endK_mk, endK_mk', add_0]
    have e34 := e3.trans e4
    refine ⟨⟨_, e34.cell c0, _, e34.cell c1, _, _, _, e34.cell c2, _, _, _, e34.cell c3, rfl⟩, ?_⟩
    refine j0 s4 q2 e34 fun hok => ?_
    have h1 : isM T a := of_decide_eq_true ((hb hok) ▸ hq)
    rw [hb2 hok]
    congr 1
    apply propext
    exact ⟨fun h2 => ⟨h1, h2⟩, fun h2 => h2.2⟩
  · refine j0 s3 false e3 fun hok => ?_
    have h1 : ¬ isM T a := of_decide_eq_false ((hb hok) ▸ hq)
    exact (decide_eq_false (fun h2 => h1 h2.1)).symm
end
end Go.Proofs.Ytkgcbfbbcaajpaa.G

/- The document's functions of layer 10: power, place. -/
set_option linter.unusedSimpArgs false
set_option linter.unusedVariables false
set_option maxRecDepth 20000
namespace Go.Proofs.Ytkgcbfbbcaajpaa.G
open Go.V
section
variable {W : World} {K : VK} {E : List PanicEntry → Hp → Prop} {s : Hp} {T : Tb}
theorem f_power {n : Nat} (hn : n ≤ 40) (h : K (.int .i64 ((2 ^ n : Nat) : Int)) s) : CALL Pg W F_ref10_power [.int .i64 n] K E s := by
  refine does_ref10_power W n _ s ?_
  refine L_ref10_power_0_rule W _ n (fun n2 n3 t => t = s ∧ ∃ k : Nat, k ≤ n ∧ n3 = k ∧ n2 = ((2 ^ k : Nat) : Int)) (fun _ n3 _ => (n - n3).toNat) 1 0 s ⟨rfl, 0, by omega, rfl, rfl⟩ ?_
  rintro n2 n3 t ⟨rfl, k, hk, rfl, rfl⟩
  unfold B_ref10_power_0
  refine BR_dec (fun h1 => ?_) (fun h1 => ?_)
  · have hp : 2 ^ k ≤ 2 ^ 40 := Nat.pow_le_pow_right (by omega) (by omega)
    have hs : 2 ^ (k + 1) = 2 * 2 ^ k := by rw [Nat.pow_succ, Nat.mul_comm]
    refine ⟨rfl, _, _, rfl, ⟨rfl, k + 1, by omega, ?_, ?_⟩, ?_⟩
    · rw [wrap_i64 (by omega) (by omega)]; rfl
    · rw [hs]
      generalize 2 ^ k = P at *
      rw [wrap_i64 (by omega) (by omega)]; omega
    · show ((n : Int) - IntKind.i64.wrap ((k : Int) + 1)).toNat < ((n : Int) - k).toNat
      rw [wrap_i64 (by omega) (by omega)]; omega
  · have : k = n := by omega
    subst this
    exact h
theorem f_place {x y : Option Addr} {c c' : Nat} {i : Nat} (hok : okT T = true) (hi : i < T.n) (hx : RowAt s x (ints T.off)) (hy : ScAt s y T.sc)
    (h : ∀ s', Ext s s' → K (spanV (plcP (pts (prs T)) T.m T.n T.off i)) s') :
    CALL Pg W F_ref10_place [.agg #[.int .i64 T.men, .int .i64 T.sheets, .slice x T.off.length c, .slice y T.sc.length c'], .int .i64 i] K E s := by
  have vd := okT_vd hok
  have hm5 := vd.m5
  have hn6 := vd.n6
  obtain ⟨hmen, _⟩ := okT_iff.1 hok
  have hn : ((T.n : Nat) : Int) = T.men := by unfold Tb.n; omega
  refine does_ref10_place W T.men T.sheets x T.off.length c y T.sc.length c' i _ s ?_
  unfold T_ref10_place
  refine NEW_rule fun s1 e1 z1 n1 _ => ?_
  refine NEWZ_rule zc_29 fun s2 e2 z2 n2 => ?_
  refine NEWZ_rule zc_29 fun s3 e3 z3 n3 => ?_
  refine wr2 rfl rfl (new2 n3) fun s4 k4 z4 o0 o1 => ?_
  have e24 : Ext s2 s4 := ext_own e3 (Nat.le_refl _) k4
  have e14 := e2.trans e24
  have e04 := e1.trans e14
  have c0 := e14.cell (n1 0 _ rfl).cell
  have c1 := e14.cell (n1 1 _ rfl).cell
  have c2 := e14.cell (n1 2 _ rfl).cell
  have c3 := e14.cell (n1 3 _ rfl).cell
  have b0 := e24.own (n2 0 _ rfl)
  have b1 := e24.own (n2 1 _ rfl)
  have hz1 : s1.size = s.size + 1 := z1
  have hz2 : s2.size = s1.size + 1 := z2
  have hx4 := hx.ext e04
  have hy4 := hy.ext e04
  refine L_ref10_place_0_rule W _ i ⟨s.size, 0, none⟩ ⟨s1.size, 0, none⟩ ⟨s2.size, 0, none⟩ (fun n t => Kp (· = s2.size) s4 t ∧ ∃ k : Nat, k ≤ T.n ∧ n = k ∧ Own t (Addr.add ⟨s2.size, 0, none⟩ 0) (.int .i64 (1 + (cntB (fun o => befP (pts (prs T)) false T.m T.off o i) k : Nat))) ∧ Own t (Addr.add ⟨s2.size, 0, none⟩ 1) (.int .i64 (1 + (cntB (fun o => befP (pts (prs T)) true T.m T.off o i) k : Nat)))) (fun n _ => (T.n - n).toNat) 0 s4
    ⟨Kp.refl _, 0, by omega, rfl, o0, o1⟩ ?_
  rintro n13 t ⟨kt, k, hk, rfl, w0, w1⟩
  have et : Ext s t := kp_new e04 (by omega) kt
  have d0 := kt.cell (a := ⟨s.size, 0, none⟩) (by show ¬ s.size = s2.size; omega) c0
  have d1 := kt.cell (a := ⟨s.size, 1, none⟩) (by show ¬ s.size = s2.size; omega) c1
  have d2 := kt.cell (a := ⟨s.size, 2, none⟩) (by show ¬ s.size = s2.size; omega) c2
  have d3 := kt.cell (a := ⟨s.size, 3, none⟩) (by show ¬ s.size = s2.size; omega) c3
  have hl1 := cntB_le (fun o => befP (pts (prs T)) false T.m T.off o i) k
  have hl2 := cntB_le (fun o => befP (pts (prs T)) true T.m T.off o i) k
  unfold B_ref10_place_0
  refine ⟨_, d0, ?_⟩
  refine BR_dec (fun h1 => ?_) (fun h1 => ?_)
  · have hkn : k < T.n := by omega
    have hw : IntKind.i64.wrap ((k : Int) + 1) = ((k + 1 : Nat) : Int) := by rw [wrap_i64 (by omega) (by omega)]; rfl
    have hms : ((T.n : Int) - IntKind.i64.wrap ((k : Int) + 1)).toNat < ((T.n : Int) - k).toNat := by rw [hw]; omega
    have hs1 := cntB_succ (fun o => befP (pts (prs T)) false T.m T.off o i) k
    have hs2 := cntB_succ (fun o => befP (pts (prs T)) true T.m T.off o i) k
    refine BR_eq (fun hki => ?_) (fun hki => ?_)
    · have hki' : k = i := by omega
      have hb : ∀ e, befP (pts (prs T)) e T.m T.off k i = false := fun e => by unfold befP; rw [decide_eq_false (fun hne => hne hki'), Bool.false_and]
      rw [hb, if_neg (by simp), Nat.add_zero] at hs1 hs2
      unfold J_ref10_place_0
      exact ⟨rfl, _, rfl, ⟨kt, k + 1, by omega, hw, by rw [hs1]; exact w0, by rw [hs2]; exact w1⟩, hms⟩
    · have hki' : k ≠ i := by omega
      have hbe : ∀ e, befP (pts (prs T)) e T.m T.off k i = aheadL (rowL (pts (prs T)) e T.m (offT T k) k) (rowL (pts (prs T)) (!e) T.m (offT T i) i) := fun e => by unfold befP; rw [decide_eq_true hki', Bool.true_and]; rfl
      refine ⟨_, d0, _, d1, _, _, _, d2, _, _, _, d3, _, d0, _, d1, _, _, _, d2, _, _, _, d3, ?_⟩
      refine f_least hok hkn (hx.ext et) (hy.ext et) fun t1 u1 cu1 f1 r1 => ?_
      try simp only [TUP_mk, AGG_mk, HD_mk, NL_mk, TYI_mk, TYB_mk, TYP_mk, TYL_mk, TYS_mk, TYM_mk, SO_mk, NX_mk, endK_mk, endK_mk', add_0]
      refine ⟨⟨_, f1.cell d0, _, f1.cell d1, _, _, _, f1.cell d2, _, _, _, f1.cell d3, rfl⟩, ?_⟩
      have et1 := et.trans f1
      refine f_most hok hi (hx.ext et1) (hy.ext et1) fun t2 u2 cu2 f2 r2 => ?_
      try simp only [TUP_mk, AGG_mk, HD_mk, NL_mk, TYI_mk, TYB_mk, TYP_mk, TYL_mk, TYS_mk, TYM_mk, SO_mk, NX_mk, endK_mk, endK_mk', add_0]
      have f12 := f1.trans f2
      refine f_ahead (r1.ext f2) r2 (by rw [rowL_len]; omega) (by rw [rowL_len]; omega) (by rw [rowL_len, rowL_len]) (by rw [rowL_len]; omega) ?_
      try simp only [TUP_mk, AGG_mk, HD_mk, NL_mk, TYI_mk, TYB_mk, TYP_mk, TYL_mk, TYS_mk, TYM_mk, SO_mk, NX_mk, endK_mk, endK_mk', add_0]
      -- the second comparison
      have j1 : ∀ (t3 : Hp), Kp (· = s2.size) s4 t3 → Own t3 (Addr.add ⟨s2.size, 0, none⟩ 0) (.int .i64 (1 + (cntB (fun o => befP (pts (prs T)) false T.m T.off o i) (k + 1) : Nat))) → Own t3 (Addr.add ⟨s2.size, 0, none⟩ 1) (.int .i64 (1 + (cntB (fun o => befP (pts (prs T)) true T.m T.off o i) k : Nat))) → J_ref10_place_1 W (endK K E) ⟨s.size, 0, none⟩ k i ⟨s2.size, 0, none⟩ ⟨s1.size, 0, none⟩ (fun vs => N_ref10_place_0 (fun n t => Kp (· = s2.size) s4 t ∧ ∃ k : Nat, k ≤ T.n ∧ n = k ∧ Own t (Addr.add ⟨s2.size, 0, none⟩ 0) (.int .i64 (1 + (cntB (fun o => befP (pts (prs T)) false T.m T.off o i) k : Nat))) ∧ Own t (Addr.add ⟨s2.size, 0, none⟩ 1) (.int .i64 (1 + (cntB (fun o => befP (pts (prs T)) true T.m T.off o i) k : Nat)))) (fun n _ => (T.n - n).toNat) k t vs) t3 := by
        intro t3 k3 v0 v1
        have e3t : Ext s t3 := kp_new e04 (by omega) k3
        have g0 := k3.cell (a := ⟨s.size, 0, none⟩) (by show ¬ s.size = s2.size; omega) c0
        have g1 := k3.cell (a := ⟨s.size, 1, none⟩) (by show ¬ s.size = s2.size; omega) c1
        have g2 := k3.cell (a := ⟨s.size, 2, none⟩) (by show ¬ s.size = s2.size; omega) c2
        have g3 := k3.cell (a := ⟨s.size, 3, none⟩) (by show ¬ s.size = s2.size; omega) c3
        unfold J_ref10_place_1
        refine ⟨_, g0, _, g1, _, _, _, g2, _, _, _, g3, _, g0, _, g1, _, _, _, g2, _, _, _, g3, ?_⟩
        refine f_most hok hkn (hx.ext e3t) (hy.ext e3t) fun t4 u4 cu4 f4 r4 => ?_
        try simp only [TUP_mk, AGG_mk, HD_mk, NL_mk, TYI_mk, TYB_mk, TYP_mk, TYL_mk, TYS_mk, TYM_mk, SO_mk, NX_mk, endK_mk, endK_mk', add_0]
        refine ⟨⟨_, f4.cell g0, _, f4.cell g1, _, _, _, f4.cell g2, _, _, _, f4.cell g3, rfl⟩, ?_⟩
        have et4 := e3t.trans f4
        refine f_least hok hi (hx.ext et4) (hy.ext et4) fun t5 u5 cu5 f5 r5 => ?_
        try simp only [TUP_mk, AGG_mk, HD_mk, NL_mk, TYI_mk, TYB_mk, TYP_mk, TYL_mk, TYS_mk, TYM_mk, SO_mk, NX_mk, endK_mk, endK_mk', add_0]
        have f45 := f4.trans f5
        refine f_ahead (r4.ext f5) r5 (by rw [rowL_len]; omega) (by rw [rowL_len]; omega) (by rw [rowL_len, rowL_len]) (by rw [rowL_len]; omega) ?_
        try simp only [TUP_mk, AGG_mk, HD_mk, NL_mk, TYI_mk, TYB_mk, TYP_mk, TYL_mk, TYS_mk, TYM_mk, SO_mk, NX_mk, endK_mk, endK_mk', add_0]
        have hb := hbe true
        refine BR_bool (fun hh => ?_) (fun hh => ?_)
        · have hb' : befP (pts (prs T)) true T.m T.off k i = true := by rw [hb]; exact hh
          rw [hb', if_pos rfl] at hs2
          have p1 := f45.own v1
          refine ⟨_, p1.cell, WR_own (a := Addr.add ⟨s2.size, 0, none⟩ 1) p1 rfl ?_⟩
          unfold J_ref10_place_0
          refine ⟨rfl, _, rfl, ⟨Kp.setC (k3.ext f45) (.inl rfl), k + 1, by omega, hw, own_set_ne (.inr (by show (0 : Nat) ≠ 1; decide)) (f45.own v0), ?_⟩, hms⟩
          have hv : IntKind.wrap .i64 (1 + ((cntB (fun o => befP (pts (prs T)) true T.m T.off o i) k : Nat) : Int) + 1) = 1 + ((cntB (fun o => befP (pts (prs T)) true T.m T.off o i) (k + 1) : Nat) : Int) := by rw [hs2, wrap_i64 (by omega) (by omega)]; omega
          rw [hv]
          exact own_set p1
        · have hb' : befP (pts (prs T)) true T.m T.off k i = false := by rw [hb]; exact hh
          rw [hb', if_neg (by simp), Nat.add_zero] at hs2
          unfold J_ref10_place_0
          exact ⟨rfl, _, rfl, ⟨k3.ext f45, k + 1, by omega, hw, f45.own v0, by rw [hs2]; exact f45.own v1⟩, hms⟩
      have hb := hbe false
      refine BR_bool (fun hh => ?_) (fun hh => ?_)
      · have hb' : befP (pts (prs T)) false T.m T.off k i = true := by rw [hb]; exact hh
        rw [hb', if_pos rfl] at hs1
        have p0 := f12.own w0
        refine ⟨_, p0.cell, WR_own (a := Addr.add ⟨s2.size, 0, none⟩ 0) p0 rfl ?_⟩
        refine j1 _ (Kp.setC (kt.ext f12) (.inl rfl)) ?_ (own_set_ne (.inr (by show (1 : Nat) ≠ 0; decide)) (f12.own w1))
        have hv : IntKind.wrap .i64 (1 + ((cntB (fun o => befP (pts (prs T)) false T.m T.off o i) k : Nat) : Int) + 1) = 1 + ((cntB (fun o => befP (pts (prs T)) false T.m T.off o i) (k + 1) : Nat) : Int) := by rw [hs1, wrap_i64 (by omega) (by omega)]; omega
        rw [hv]
        exact own_set p0
      · have hb' : befP (pts (prs T)) false T.m T.off k i = false := by rw [hb]; exact hh
        rw [hb', if_neg (by simp), Nat.add_zero] at hs1
        exact j1 _ (kt.ext f12) (by rw [hs1]; exact f12.own w0) (f12.own w1)
  · have hkn : k = T.n := by omega
    subst hkn
    have p0 := kt.own (a := ⟨s1.size, 0, none⟩) (by show ¬ s1.size = s2.size; omega) b0
    have p1 := kt.own (a := ⟨s1.size, 1, none⟩) (by show ¬ s1.size = s2.size; omega) b1
    refine ⟨_, w0.cell, _, w1.cell, ?_⟩
    exact fin_span p0 p1 fun s' k' => h s' (kp_new et (by omega) k')
end
end Go.Proofs.Ytkgcbfbbcaajpaa.G

/- The document's functions of layer 10: Has, read, Could. -/
set_option linter.unusedSimpArgs false
set_option linter.unusedVariables false
set_option maxRecDepth 20000
namespace Go.Proofs.Ytkgcbfbbcaajpaa.G
open Go.V
theorem all_pop : ∀ M : Nat, M ≤ 10 → ∀ k : Nat, k < 2 ^ M → popN k = popN (2 ^ M - 1) → k = 2 ^ M - 1 := by
  have h : ((List.range 11).all fun M => (List.range (2 ^ M)).all fun k => !decide (popN k = popN (2 ^ M - 1)) || decide (k = 2 ^ M - 1)) = true := by decide +kernel
  intro M hM k hk hp
  have h1 := List.all_eq_true.1 h M (List.mem_range.2 (by omega))
  have h2 := List.all_eq_true.1 h1 k (List.mem_range.2 hk)
  rw [decide_eq_true hp] at h2
  simpa using h2
section
variable {W : World} {K : VK} {E : List PanicEntry → Hp → Prop} {s : Hp} {T : Tb}
theorem f_Has {w n : Nat} (hn : n ≤ 40) (hw : w ≤ 100000) (h : K (.bool (w.testBit n)) s) : CALL Pg W F_ref10_Has [.int .i64 (w : Nat), .int .i64 (n : Nat)] K E s := by
  refine does_ref10_Has W w n _ s ?_
  unfold T_ref10_Has
  refine f_power hn ?_
  try simp only [TUP_mk, AGG_mk, HD_mk, NL_mk, TYI_mk, TYB_mk, TYP_mk, TYL_mk, TYS_mk, TYM_mk, SO_mk, NX_mk, endK_mk, endK_mk', add_0]
  have hp : 0 < 2 ^ n := Nat.pow_pos (by omega)
  refine NZI_pos (by omega) ?_
  have e1 : Int.tdiv (w : Int) ((2 ^ n : Nat) : Int) = ((w / 2 ^ n : Nat) : Int) := rfl
  have hd : w / 2 ^ n ≤ w := Nat.div_le_self _ _
  have e4 : IntKind.wrap .i64 ((w / 2 ^ n : Nat) : Int) = ((w / 2 ^ n : Nat) : Int) := by
    generalize w / 2 ^ n = q at *
    exact wrap_i64 (by omega) (by omega)
  rw [e1, e4]
  have e2 : Int.tmod ((w / 2 ^ n : Nat) : Int) 2 = ((w / 2 ^ n % 2 : Nat) : Int) := rfl
  rw [e2]
  have e3 : ((((w / 2 ^ n % 2 : Nat) : Int)) == 1) = w.testBit n := by
    rw [Nat.testBit_eq_decide_div_mod_eq, Bool.beq_eq_decide_eq]
    congr 1
    exact propext ⟨fun h => by omega, fun h => by omega⟩
  rw [e3]; exact h
theorem f_readR {x y : Option Addr} {c c' a b w : Nat} (hok : okT T = true) (ha : a < T.n) (hb : b < T.n) (hw : w < 1024) (hx : RowAt s x (ints T.off)) (hy : ScAt s y T.sc)
    (h : ∀ s' x y c c', Ext s s' → RowAt s' x (ints (readL T a b w T.m).off) → ScAt s' y (readL T a b w T.m).sc → K (.agg #[.int .i64 (readL T a b w T.m).men, .int .i64 (readL T a b w T.m).sheets, .slice x (readL T a b w T.m).off.length c, .slice y (readL T a b w T.m).sc.length c']) s') :
    CALL Pg W F_ref10_read [.agg #[.int .i64 T.men, .int .i64 T.sheets, .slice x T.off.length c, .slice y T.sc.length c'], .int .i64 a, .int .i64 b, .int .i64 w] K E s := by
  have hn := men_n hok
  have hm := sheets_m hok
  obtain ⟨_, n6, _, m5⟩ := n_lim hok
  refine does_ref10_read W T.men T.sheets x T.off.length c y T.sc.length c' a b w _ s ?_
  unfold T_ref10_read
  refine NEW_rule fun s1 e1 z1 n1 _ => ?_
  have ta := tbA_new e1 hx hy n1
  refine nz4 zc_25 fun s2 e2 z2 r0 r1 r2 r3 => ?_
  obtain ⟨x0, c0, y0, c0', g1, g2, g3, g4, hx1, hy1⟩ := ta.all
  refine ⟨_, e2.cell g1, _, e2.cell g2, _, _, _, e2.cell g3, _, _, _, e2.cell g4, ?_⟩
  refine tbV_new e2 hx1 (hy1.ext e2) fun s3 B e3 z3 hB c3 v3 => ?_
  generalize hC : s1.size = C at *
  have hk3 : ∀ p ∈ z4 C, Own s3 p.1 p.2 := fun p hp => e3.own (z4_own r0 r1 r2 r3 p hp)
  have hCB : C ≠ B := by omega
  have hsc0 : ScN s3 B T C := fun y5 c5 hc5 i hi a' ha' => by
    rw [c3] at hc5
    injection hc5 with hc5
    injection hc5 with e1' e2' e3'
    subst e1'
    obtain ⟨ad, had, d0, _⟩ := hy1 i hi
    rw [ha'] at had
    cases had
    have hlt := cell_lt d0
    rw [add_blk, add_blk] at hlt
    omega
  refine L_ref10_read_0_rule W _ a b w ⟨s.size, 0, none⟩ ⟨C, 0, none⟩ ⟨B, 0, none⟩ (fun n u => ∃ j : Nat, j ≤ T.m ∧ n = j ∧ TbV s1 u B (readL T a b w j) (x0, c0) ∧ (∀ p ∈ z4 C, Own u p.1 p.2) ∧ ScN u B (readL T a b w j) C) (fun n _ => (T.m - n).toNat) 0 s3 ⟨0, by omega, rfl, v3, hk3, hsc0⟩ ?_
  rintro n24 u ⟨j, hj, rfl, vu, hku, hsu⟩
  obtain ⟨l1, l2, l3⟩ := readL_same (T := T) (a := a) (b := b) (w := w) j
  unfold B_ref10_read_0
  refine ⟨_, (ta.ext vu.ext).sheets, ?_⟩
  refine BR_dec (fun h1 => ?_) (fun h1 => ?_)
  · have hjm : j < T.m := by omega
    have okL := readL_ok (w := w) hok ha hb hj
    have okH := readH_ok (w := w) hok ha hb hjm
    obtain ⟨q1, q2, q3⟩ := readH_same (T := T) (a := a) (b := b) (w := w) j
    refine f_Has (by omega) (by omega) ?_
    try simp only [TUP_mk, AGG_mk, HD_mk, NL_mk, TYI_mk, TYB_mk, TYP_mk, TYL_mk, TYS_mk, TYM_mk, SO_mk, NX_mk, endK_mk, endK_mk', add_0]
    have hkC : ∀ {u'}, (∀ p ∈ z4 C, Own u' p.1 p.2) → C < u'.size := fun hk => (hk (⟨C, 0, none⟩, .int .i64 0) (by simp [z4])).lt
    have j0 : ∀ u', TbV s1 u' B (readL T a b w (j + 1)) (x0, c0) → (∀ p ∈ z4 C, Own u' p.1 p.2) → ScN u' B (readL T a b w (j + 1)) C → J_ref10_read_0 W (endK K E) a b w ⟨s.size, 0, none⟩ ⟨C, 0, none⟩ ⟨B, 0, none⟩ (fun vs => N_ref10_read_0 (fun n u => ∃ j : Nat, j ≤ T.m ∧ n = j ∧ TbV s1 u B (readL T a b w j) (x0, c0) ∧ (∀ p ∈ z4 C, Own u p.1 p.2) ∧ ScN u B (readL T a b w j) C) (fun n _ => (T.m - n).toNat) j u vs) j u' := by
      intro u' v' hk' hs'
      unfold J_ref10_read_0
      exact ⟨rfl, _, rfl, ⟨j + 1, by omega, wrap_succ (by omega), v', hk', hs'⟩, ms_succ hjm (by omega)⟩
    have j1 : ∀ u', TbV s1 u' B (readH T a b w j) (x0, c0) → (∀ p ∈ z4 C, Own u' p.1 p.2) → ScN u' B (readH T a b w j) C → J_ref10_read_1 W (endK K E) ⟨s.size, 0, none⟩ w j ⟨B, 0, none⟩ b a ⟨C, 0, none⟩ (fun vs => N_ref10_read_0 (fun n u => ∃ j : Nat, j ≤ T.m ∧ n = j ∧ TbV s1 u B (readL T a b w j) (x0, c0) ∧ (∀ p ∈ z4 C, Own u p.1 p.2) ∧ ScN u B (readL T a b w j) C) (fun n _ => (T.m - n).toNat) j u vs) u' := by
      intro u' v' hk' hs'
      unfold J_ref10_read_1
      refine ⟨_, (ta.ext v'.ext).sheets, ?_⟩
      have hwj : IntKind.wrap .i64 (T.sheets + (j : Int)) = ((T.m + j : Nat) : Int) := by rw [wrap_i64 (by omega) (by omega)]; omega
      dsimp only
      rw [hwj]
      refine f_Has (by omega) (by omega) ?_
      try simp only [TUP_mk, AGG_mk, HD_mk, NL_mk, TYI_mk, TYB_mk, TYP_mk, TYL_mk, TYS_mk, TYM_mk, SO_mk, NX_mk, endK_mk, endK_mk', add_0]
      refine BR_bool (fun hb1 => ?_) (fun hb1 => ?_)
      · refine read_step (R := endK K E) (e := false) (X := readH T a b w j) hok okH (by rw [same_n q1]; exact hb) (by rw [same_m q2]; exact hjm) ta v' (hkC hk') hCB hk' fun u2 v2 hk2 hs2 _ => ?_
        have he : readL T a b w (j + 1) = withT (readH T a b w j) b j (loP T b j) := by rw [readL_succ, bitO_t hb1]; rfl
        exact j0 u2 (by rw [he]; exact v2) hk2 (by rw [he]; exact hs2)
      · have he : readL T a b w (j + 1) = readH T a b w j := by rw [readL_succ, bitO_f hb1]; rfl
        exact j0 u' (by rw [he]; exact v') hk' (by rw [he]; exact hs')
    refine BR_bool (fun hb1 => ?_) (fun hb1 => ?_)
    · refine read_step (R := endK K E) (e := true) (X := readL T a b w j) hok okL (by rw [same_n l1]; exact ha) (by rw [same_m l2]; exact hjm) ta vu (hkC hku) hCB hku fun u2 v2 hk2 hs2 _ => ?_
      have he : readH T a b w j = withT (readL T a b w j) a j (hiP T a j) := by unfold readH; rw [bitO_t hb1]; rfl
      exact j1 u2 (by rw [he]; exact v2) hk2 (by rw [he]; exact hs2)
    · have he : readH T a b w j = readL T a b w j := by unfold readH; rw [bitO_f hb1]; rfl
      exact j1 u (by rw [he]; exact vu) hku (by rw [he]; exact hsu)
  · have hjm : j = T.m := by omega
    subst hjm
    refine vu.ret (Nat.le_of_eq hC) hku hsu fun s' y c' e hy => ?_
    exact h s' x0 y c0 c' (e1.trans e) (vu.off.2.ext e) hy
theorem f_Sheet {x y : Option Addr} {c c' : Nat} {i : Int} (h : ∀ s' b, Ext s s' → (okT T = true → b = decide (isS T i)) → K (.bool b) s') :
    CALL Pg W F_ref10_Sheet [.agg #[.int .i64 T.men, .int .i64 T.sheets, .slice x T.off.length c, .slice y T.sc.length c'], .int .i64 i] K E s := by
  refine does_ref10_Sheet W T.men T.sheets x T.off.length c y T.sc.length c' i _ s ?_
  unfold T_ref10_Sheet
  refine NEW_rule fun s1 e1 z1 n1 _ => ?_
  refine ⟨_, (n1 1 _ rfl).cell, ?_⟩
  refine f_in ?_
  try simp only [TUP_mk, AGG_mk, HD_mk, NL_mk, TYI_mk, TYB_mk, TYP_mk, TYL_mk, TYS_mk, TYM_mk, SO_mk, NX_mk, endK_mk, endK_mk', add_0]
  refine h s1 _ e1 fun hok => ?_
  obtain ⟨_, hm, _⟩ := okT_iff.1 hok
  rw [wrap_i64 (by omega) (by omega)]
  rfl
theorem f_Could {x y : Option Addr} {c c' : Nat} {a b : Int} (hx : RowAt s x (ints T.off)) (hy : ScAt s y T.sc) (hlo : T.off.length ≤ 100000) (h : ∀ s', Ext s s' → K (.tuple #[.int .i64 (couldR T a b).1, .int .i64 (couldR T a b).2]) s') :
    CALL Pg W F_ref10_Could [.agg #[.int .i64 T.men, .int .i64 T.sheets, .slice x T.off.length c, .slice y T.sc.length c'], .int .i64 a, .int .i64 b] K E s := by
  refine does_ref10_Could W T.men T.sheets x T.off.length c y T.sc.length c' a b _ s ?_
  unfold T_ref10_Could
  refine NEW_rule fun s1 e1 z1 n1 _ => ?_
  have ta := tbA_new e1 hx hy n1
  have c0 := (n1 0 _ rfl).cell
  have c1 := (n1 1 _ rfl).cell
  have c2 := (n1 2 _ rfl).cell
  have c3 := (n1 3 _ rfl).cell
  refine ⟨_, c0, _, c1, _, _, _, c2, _, _, _, c3, _, c0, _, c1, _, _, _, c2, _, _, _, c3, ?_⟩
  have j0 : ∀ (t : Hp) (q : Bool), Ext s1 t → (okT T = true → q = decide (isM T a ∧ isM T b)) → J_ref10_Could_0 W (endK K E) T.men T.sheets x T.off.length c y T.sc.length c' q s.size a b t := by
    intro t q et hq
    have e0t := e1.trans et
    unfold J_ref10_Could_0
    refine f_check (hx.ext e0t) (hy.ext e0t) hlo fun t2 f2 => ?_
    try simp only [TUP_mk, AGG_mk, HD_mk, NL_mk, TYI_mk, TYB_mk, TYP_mk, TYL_mk, TYS_mk, TYM_mk, SO_mk, NX_mk, endK_mk, endK_mk', add_0]
    have et2 := et.trans f2
    have e0t2 := e1.trans et2
    by_cases hok : okT T = true
    · have hn := men_n hok
      have hm := sheets_m hok
      obtain ⟨np, n6, mp, m5⟩ := n_lim hok
      by_cases hmm : isM T a ∧ isM T b
      · have hbt : q = true := by rw [hq hok]; exact decide_eq_true hmm
        have hc : (if okT T = true then (if q = true then (0 : Int) else 2) else 1) = 0 := by rw [if_pos hok, if_pos hbt]
        rw [hc]
        refine BR_ff rfl ?_
        obtain ⟨i, rfl⟩ := Int.eq_ofNat_of_zero_le hmm.1.1
        obtain ⟨j, rfl⟩ := Int.eq_ofNat_of_zero_le hmm.2.1
        have hin : i < T.n := by have h2 := hmm.1.2; omega
        have hjn : j < T.n := by have h2 := hmm.2.2; omega
        refine rdT (ta.ext et2) fun x c y c' hx hy => ?_
        refine f_can hok hin hjn hx hy fun t3 f3 => ?_
        try simp only [TUP_mk, AGG_mk, HD_mk, NL_mk, TYI_mk, TYB_mk, TYP_mk, TYL_mk, TYS_mk, TYM_mk, SO_mk, NX_mk, endK_mk, endK_mk', add_0]
        have et3 := et2.trans f3
        have hcan : befP (pts (prs T)) true T.m T.off i j = canT T i j := rfl
        rw [hcan]
        have h2p : 2 ^ (2 * T.m) ≤ 2 ^ 10 := Nat.pow_le_pow_right (by omega) (by omega)
        have h1p : 0 < 2 ^ (2 * T.m) := Nat.pow_pos (by omega)
        refine BR_not (fun hf => ?_) (fun ht => ?_)
        · have hr : couldR T i j = (0, 4) := by
            unfold couldR
            rw [if_pos hok, if_pos hmm]
            show (if canT T i j then (match couldN T i j with | some w => (((w : Nat) : Int), (0 : Int)) | none => (0, 4)) else (0, 4)) = _
            rw [hf, if_neg (by simp)]
          rw [hr] at h
          exact h t3 (e1.trans et3)
        · obtain ⟨wc, d1, d2, d3, d4, d5⟩ := could_some hok ht
          have hr : couldR T i j = (((wc : Nat) : Int), 0) := by
            unfold couldR
            rw [if_pos hok, if_pos hmm]
            show (if canT T i j then (match couldN T i j with | some w => (((w : Nat) : Int), (0 : Int)) | none => (0, 4)) else (0, 4)) = _
            rw [ht, if_pos rfl, d1]
          rw [hr] at h
          refine ⟨_, (ta.ext et3).sheets, ?_⟩
          have hw2 : IntKind.wrap .i64 (2 * T.sheets) = ((2 * T.m : Nat) : Int) := by rw [wrap_i64 (by omega) (by omega)]; omega
          dsimp only
          rw [hw2]
          refine f_power (by omega) ?_
          try simp only [TUP_mk, AGG_mk, HD_mk, NL_mk, TYI_mk, TYB_mk, TYP_mk, TYL_mk, TYS_mk, TYM_mk, SO_mk, NX_mk, endK_mk, endK_mk', add_0]
          have hw3 : IntKind.wrap .i64 (((2 ^ (2 * T.m) : Nat) : Int) - 1) = ((2 ^ (2 * T.m) - 1 : Nat) : Int) := by rw [wrap_i64 (by omega) (by omega)]; omega
          rw [hw3]
          refine L_ref10_Could_0_rule W _ i j ⟨s.size, 0, none⟩ ((2 ^ (2 * T.m) - 1 : Nat) : Int) (fun bst n u => Ext s1 u ∧ ∃ b k : Nat, k ≤ 2 ^ (2 * T.m) ∧ n = k ∧ bst = b ∧ b < 2 ^ (2 * T.m) ∧ (b < k ∨ b = 2 ^ (2 * T.m) - 1) ∧ provesB T i j b = true ∧ ∀ z, z < k → provesB T i j z = true → ¬ setLt z b) (fun _ n _ => (((2 ^ (2 * T.m) : Nat) : Int) - n).toNat) _ 0 t3 ⟨et3, 2 ^ (2 * T.m) - 1, 0, by omega, rfl, rfl, by omega, .inr rfl, proves_all hok ht, fun z hz => by omega⟩ ?_
          rintro n102 n103 u ⟨eu, b, k, hk, rfl, rfl, hbl, hbk, hpb, hmin⟩
          unfold B_ref10_Could_0
          refine BR_dec (fun h1 => ?_) (fun h1 => ?_)
          · have hkl : k < 2 ^ (2 * T.m) := by omega
            have hij : i ≠ j := (canT_iff.1 ht).1
            have hms : (((2 ^ (2 * T.m) : Nat) : Int) - IntKind.wrap .i64 ((k : Int) + 1)).toNat < (((2 ^ (2 * T.m) : Nat) : Int) - (k : Int)).toNat := by rw [wrap_succ (by omega)]; omega
            refine f_Size (by omega) ?_
            try simp only [TUP_mk, AGG_mk, HD_mk, NL_mk, TYI_mk, TYB_mk, TYP_mk, TYL_mk, TYS_mk, TYM_mk, SO_mk, NX_mk, endK_mk, endK_mk', add_0]
            refine f_Size (by omega) ?_
            try simp only [TUP_mk, AGG_mk, HD_mk, NL_mk, TYI_mk, TYB_mk, TYP_mk, TYL_mk, TYS_mk, TYM_mk, SO_mk, NX_mk, endK_mk, endK_mk', add_0]
            have keep : ∀ u', Ext s1 u' → (provesB T i j k = true → popN b ≤ popN k) → J_ref10_Could_2 W (endK K E) false i j ⟨s.size, 0, none⟩ ((2 ^ (2 * T.m) - 1 : Nat) : Int) (fun vs => N_ref10_Could_0 (fun bst n u => Ext s1 u ∧ ∃ b k : Nat, k ≤ 2 ^ (2 * T.m) ∧ n = k ∧ bst = b ∧ b < 2 ^ (2 * T.m) ∧ (b < k ∨ b = 2 ^ (2 * T.m) - 1) ∧ provesB T i j b = true ∧ ∀ z, z < k → provesB T i j z = true → ¬ setLt z b) (fun _ n _ => (((2 ^ (2 * T.m) : Nat) : Int) - n).toNat) b k u vs) k b u' := by
              intro u' eu' hle
              unfold J_ref10_Could_2
              rw [BR_f]
              unfold J_ref10_Could_1
              refine ⟨rfl, _, _, rfl, ⟨eu', b, k + 1, by omega, wrap_succ (by omega), rfl, hbl, by omega, hpb, fun z hz hpz => ?_⟩, hms⟩
              by_cases e : z = k
              · subst e
                have := hle hpz
                rintro (hlt | ⟨heq, hlt⟩)
                · omega
                · rcases hbk with h5 | h5
                  · omega
                  · subst h5
                    have := all_pop (2 * T.m) (by omega) z hkl heq
                    omega
              · exact hmin z (by omega) hpz
            refine BR_dec (fun h2 => ?_) (fun h2 => keep u eu fun _ => by omega)
            refine rdT (ta.ext eu) fun x c y c' hx hy => ?_
            refine f_readR hok hin hjn (by omega) hx hy fun u1 x1 y1 c1 c1' m1 hx1 hy1 => ?_
            try simp only [TUP_mk, AGG_mk, HD_mk, NL_mk, TYI_mk, TYB_mk, TYP_mk, TYL_mk, TYS_mk, TYM_mk, SO_mk, NX_mk, endK_mk, endK_mk', add_0]
            have okR := readL_ok (w := k) hok hin hjn (Nat.le_refl T.m)
            obtain ⟨r1, r2, r3⟩ := readL_same (T := T) (a := i) (b := j) (w := k) T.m
            refine f_surely okR (by rw [same_n r1]; exact hin) (by rw [same_n r1]; exact hjn) hx1 hy1 fun u2 m2 => ?_
            try simp only [TUP_mk, AGG_mk, HD_mk, NL_mk, TYI_mk, TYB_mk, TYP_mk, TYL_mk, TYS_mk, TYM_mk, SO_mk, NX_mk, endK_mk, endK_mk', add_0]
            have eu2 := eu.trans (m1.trans m2)
            have hps : befP (pts (prs (readL T i j k T.m))) false (readL T i j k T.m).m (readL T i j k T.m).off i j = provesB T i j k := proves_sur hok hin hjn hij
            rw [hps]
            cases hpk : provesB T i j k with
            | false => exact keep u2 eu2 fun hh => by rw [hpk] at hh; cases hh
            | true =>
              unfold J_ref10_Could_2
              rw [BR_t]
              unfold J_ref10_Could_1
              refine ⟨rfl, _, _, rfl, ⟨eu2, k, k + 1, by omega, wrap_succ (by omega), rfl, hkl, .inl (by omega), hpk, fun z hz hpz => ?_⟩, hms⟩
              have h2' : popN k < popN b := by omega
              by_cases e : z = k
              · subst e; rintro (hlt | ⟨_, hlt⟩) <;> omega
              · have := hmin z (by omega) hpz
                rintro (hlt | ⟨heq, hlt⟩)
                · exact this (.inl (by omega))
                · exact this (.inl (by omega))
          · have hkl : k = 2 ^ (2 * T.m) := by omega
            subst hkl
            have h1 := hmin wc d2 d3
            have h2 := d4 b hbl hpb
            have : b = wc := by
              unfold setLt at h1 h2
              omega
            subst this
            exact h u (e1.trans eu)
      · have hbf : q = false := by rw [hq hok]; exact decide_eq_false hmm
        have hc : (if okT T = true then (if q = true then (0 : Int) else 2) else 1) = 2 := by rw [if_pos hok, hbf]; rfl
        rw [hc]
        refine BR_tt rfl ?_
        have hr : couldR T a b = (0, 2) := by unfold couldR; rw [if_pos hok, if_neg hmm]
        rw [hr] at h
        exact h t2 e0t2
    · have hc : (if okT T = true then (if q = true then (0 : Int) else 2) else 1) = 1 := by rw [if_neg hok]
      rw [hc]
      refine BR_tt rfl ?_
      have hr : couldR T a b = (0, 1) := by unfold couldR; rw [if_neg hok]
      rw [hr] at h
      exact h t2 e0t2
  refine f_Man fun s3 q1 e3 hb => ?_
  try simp only [TUP_mk, AGG_mk, HD_mk, NL_mk, TYI_mk, TYB_mk, TYP_mk, TYL_mk, TYS_mk, TYM_mk, SO_mk, NX_mk, endK_mk, endK_mk', add_0]
  refine ⟨⟨_, e3.cell c0, _, e3.cell c1, _, _, _, e3.cell c2, _, _, _, e3.cell c3, rfl⟩, ?_⟩
  refine BR_bool (fun hq => ?_) (fun hq => ?_)
  · refine ⟨_, e3.cell c0, _, e3.cell c1, _, _, _, e3.cell c2, _, _, _, e3.cell c3, ?_⟩
    refine f_Man fun s4 q2 e4 hb2 => ?_
    try simp only [TUP_mk, AGG_mk, HD_mk, NL_mk, TYI_mk, TYB_mk, TYP_mk, TYL_mk, TYS_mk, TYM_mk, SO_mk, NX_mk, endK_mk, endK_mk', add_0]
    have e34 := e3.trans e4
    refine ⟨⟨_, e34.cell c0, _, e34.cell c1, _, _, _, e34.cell c2, _, _, _, e34.cell c3, rfl⟩, ?_⟩
    refine j0 s4 q2 e34 fun hok => ?_
    have h1 : isM T a := of_decide_eq_true ((hb hok) ▸ hq)
    rw [hb2 hok]
    congr 1
    apply propext
    exact ⟨fun h2 => ⟨h1, h2⟩, fun h2 => h2.2⟩
  · refine j0 s3 false e3 fun hok => ?_
    have h1 : ¬ isM T a := of_decide_eq_false ((hb hok) ▸ hq)
    exact (decide_eq_false (fun h2 => h1 h2.1)).symm
end
end Go.Proofs.Ytkgcbfbbcaajpaa.G

/- The document's functions of layer 10: Need, Order. -/
set_option linter.unusedSimpArgs false
set_option linter.unusedVariables false
set_option maxRecDepth 20000
namespace Go.Proofs.Ytkgcbfbbcaajpaa.G
open Go.V
theorem sub_bit : ∀ w : Nat, w < 64 → ∀ j : Nat, j < 6 → w.testBit j = true → 2 ^ j ≤ w ∧ ∀ b : Nat, b < 8 → (w - 2 ^ j).testBit b = (!decide (b = j) && w.testBit b) := by
  have h : ((List.range 64).all fun w => (List.range 6).all fun j => !w.testBit j || (decide (2 ^ j ≤ w) && (List.range 8).all fun b => decide ((w - 2 ^ j).testBit b = (!decide (b = j) && w.testBit b)))) = true := by decide +kernel
  intro w hw j hj hb
  have h1 := List.all_eq_true.1 h w (List.mem_range.2 hw)
  have h2 := List.all_eq_true.1 h1 j (List.mem_range.2 hj)
  rw [hb] at h2
  simp only [Bool.not_true, Bool.false_or, Bool.and_eq_true, decide_eq_true_eq, List.all_eq_true, List.mem_range] at h2
  exact h2
theorem bits_zero : ∀ w : Nat, w < 64 → (∀ b : Nat, b < 8 → w.testBit b = false) → w = 0 := by
  have h : ((List.range 64).all fun w => decide (w = 0) || (List.range 8).any fun b => w.testBit b) = true := by decide +kernel
  intro w hw hb
  have h1 := List.all_eq_true.1 h w (List.mem_range.2 hw)
  have h2 : ((List.range 8).any fun b => w.testBit b) = false := List.any_eq_false.2 fun b hb' => by rw [hb b (List.mem_range.1 hb')]; simp
  rw [h2] at h1
  simpa using h1
section
variable {W : World} {K : VK} {E : List PanicEntry → Hp → Prop} {s : Hp} {T : Tb}
theorem f_Need {x y : Option Addr} {c c' : Nat} {a b pl : Int} (hx : RowAt s x (ints T.off)) (hy : ScAt s y T.sc) (hlo : T.off.length ≤ 100000) (h : ∀ s', Ext s s' → K (.tuple #[.int .i64 (needR T a b pl).1, .int .i64 (needR T a b pl).2]) s') :
    CALL Pg W F_ref10_Need [.agg #[.int .i64 T.men, .int .i64 T.sheets, .slice x T.off.length c, .slice y T.sc.length c'], .int .i64 a, .int .i64 b, .int .i64 pl] K E s := by
  refine does_ref10_Need W T.men T.sheets x T.off.length c y T.sc.length c' a b pl _ s ?_
  unfold T_ref10_Need
  refine NEW_rule fun s1 e1 z1 n1 _ => ?_
  have ta := tbA_new e1 hx hy n1
  have c0 := (n1 0 _ rfl).cell
  have c1 := (n1 1 _ rfl).cell
  have c2 := (n1 2 _ rfl).cell
  have c3 := (n1 3 _ rfl).cell
  refine ⟨_, c0, _, c1, _, _, _, c2, _, _, _, c3, _, c0, _, c1, _, _, _, c2, _, _, _, c3, ?_⟩
  have j0 : ∀ (t : Hp) (q : Bool), Ext s1 t → (okT T = true → q = decide (isM T a ∧ isS T b ∧ 1 ≤ pl ∧ pl ≤ T.men)) → J_ref10_Need_0 W (endK K E) T.men T.sheets x T.off.length c y T.sc.length c' q s.size a b pl t := by
    intro t q et hq
    have e0t := e1.trans et
    unfold J_ref10_Need_0
    refine f_check (hx.ext e0t) (hy.ext e0t) hlo fun t2 f2 => ?_
    try simp only [TUP_mk, AGG_mk, HD_mk, NL_mk, TYI_mk, TYB_mk, TYP_mk, TYL_mk, TYS_mk, TYM_mk, SO_mk, NX_mk, endK_mk, endK_mk', add_0]
    have et2 := et.trans f2
    have e0t2 := e1.trans et2
    by_cases hok : okT T = true
    · have hn := men_n hok
      have hm := sheets_m hok
      obtain ⟨np, n6, mp, m5⟩ := n_lim hok
      obtain ⟨_, _, _, _, h30, _⟩ := okT_iff.1 hok
      by_cases hmm : isM T a ∧ isS T b ∧ 1 ≤ pl ∧ pl ≤ T.men
      · have hbt : q = true := by rw [hq hok]; exact decide_eq_true hmm
        have hc : (if okT T = true then (if q = true then (0 : Int) else 2) else 1) = 0 := by rw [if_pos hok, if_pos hbt]
        rw [hc]
        refine BR_ff rfl ?_
        obtain ⟨i, rfl⟩ := Int.eq_ofNat_of_zero_le hmm.1.1
        obtain ⟨k, rfl⟩ := Int.eq_ofNat_of_zero_le hmm.2.1.1
        have hin : i < T.n := by have h2 := hmm.1.2; omega
        have hkm : k < T.m := by have h2 := hmm.2.1.2; omega
        have hr : needR T i k pl = match needN T i k pl with | some q => (q, 0) | none => (0, 4) := by
          unfold needR
          rw [if_pos hok, if_pos hmm]; rfl
        refine rdT (ta.ext et2) fun x c y c' hx hy => ?_
        refine f_Points hx hy (by omega) fun t3 f3 => ?_
        unfold spanV
        try simp only [TUP_mk, AGG_mk, HD_mk, NL_mk, TYI_mk, TYB_mk, TYP_mk, TYL_mk, TYS_mk, TYM_mk, SO_mk, NX_mk, endK_mk, endK_mk', add_0]
        refine nw2 zc_29 rfl rfl fun t4 f4 z4 p0 p1 => ?_
        have hlh := lo_hi hok i k
        have hL : (pts (prs T) ((i : Int), (k : Int))).1 = loP T i k := rfl
        have hH : (pts (prs T) ((i : Int), (k : Int))).2 = hiP T i k := rfl
        rw [hL] at p0
        rw [hH] at p1
        have et4 := et2.trans (f3.trans f4)
        have hnN : needN T i k pl = needG (enough T i k pl) (hiP T i k - loP T i k + 1).toNat (loP T i k) := rfl
        refine ⟨_, p0.cell, ?_⟩
        refine L_ref10_Need_0_rule W _ i k pl ⟨s.size, 0, none⟩ ⟨t3.size, 0, none⟩ (fun _ _ q u => Ext t4 u ∧ loP T i k ≤ q ∧ q ≤ hiP T i k + 1 ∧ needN T i k pl = needG (enough T i k pl) (hiP T i k - q + 1).toNat q) (fun _ _ q _ => (hiP T i k + 1 - q).toNat) 0 0 (loP T i k) t4 ⟨Ext.refl _, Int.le_refl _, by omega, hnN⟩ ?_
        rintro n148 n149 q u ⟨eu, q1, q2, hg⟩
        have e1u := et4.trans eu
        unfold B_ref10_Need_0
        refine ⟨_, eu.cell p1.cell, ?_⟩
        refine BR_dec (fun h1 => ?_) (fun h1 => ?_)
        · have hsz : (hiP T i k - q + 1).toNat = (hiP T i k - (q + 1) + 1).toNat + 1 := by omega
          rw [hsz] at hg
          unfold needG at hg
          refine rdT (ta.ext e1u) fun x c y c' hx hy => ?_
          refine f_WithN hok hin hkm (by omega) (by omega) hx hy fun u1 y1 c1' m1 hok1 hx1 hy1 _ => ?_
          try simp only [TUP_mk, AGG_mk, HD_mk, NL_mk, TYI_mk, TYB_mk, TYP_mk, TYL_mk, TYS_mk, TYM_mk, SO_mk, NX_mk, endK_mk, endK_mk', add_0]
          refine f_place hok1 hin hx1 hy1 fun u2 m2 => ?_
          unfold spanV
          try simp only [TUP_mk, AGG_mk, HD_mk, NL_mk, TYI_mk, TYB_mk, TYP_mk, TYL_mk, TYS_mk, TYM_mk, SO_mk, NX_mk, endK_mk, endK_mk', add_0]
          have hpe : (plcP (pts (prs (withT T i k q))) (withT T i k q).m (withT T i k q).n (withT T i k q).off i).2 = (plcT (withT T i k q) i).2 := rfl
          rw [hpe]
          rw [enough_eq hok] at hg
          refine BR_dec (fun h2 => ?_) (fun h2 => ?_)
          · rw [decide_eq_true h2, if_pos rfl] at hg
            rw [hr, hg] at h
            exact h u2 (e1.trans (e1u.trans (m1.trans m2)))
          · rw [decide_eq_false h2, if_neg (by simp)] at hg
            have hw : IntKind.wrap .i64 (q + 1) = q + 1 := wrap_i64 (by omega) (by omega)
            refine ⟨_, _, _, rfl, ⟨eu.trans (m1.trans m2), by rw [hw]; omega, by rw [hw]; omega, by rw [hw]; exact hg⟩, ?_⟩
            show (hiP T i k + 1 - IntKind.wrap .i64 (q + 1)).toNat < (hiP T i k + 1 - q).toNat
            rw [hw]; omega
        · have hqe : (hiP T i k - q + 1).toNat = 0 := by omega
          rw [hqe] at hg
          unfold needG at hg
          rw [hr, hg] at h
          exact h u (e1.trans e1u)
      · have hbf : q = false := by rw [hq hok]; exact decide_eq_false hmm
        have hc : (if okT T = true then (if q = true then (0 : Int) else 2) else 1) = 2 := by rw [if_pos hok, hbf]; rfl
        rw [hc]
        refine BR_tt rfl ?_
        have hr : needR T a b pl = (0, 2) := by unfold needR; rw [if_pos hok, if_neg hmm]
        rw [hr] at h
        exact h t2 e0t2
    · have hc : (if okT T = true then (if q = true then (0 : Int) else 2) else 1) = 1 := by rw [if_neg hok]
      rw [hc]
      refine BR_tt rfl ?_
      have hr : needR T a b pl = (0, 1) := by unfold needR; rw [if_neg hok]
      rw [hr] at h
      exact h t2 e0t2
  have j1 : ∀ (t : Hp) (q : Bool), Ext s1 t → (okT T = true → q = decide (isM T a ∧ isS T b)) → J_ref10_Need_1 W (endK K E) q s.size pl T.men T.sheets x T.off.length c y T.sc.length c' a b t := by
    intro t q et hq
    unfold J_ref10_Need_1
    refine BR_bool (fun h1 => ?_) (fun h1 => j0 t false et fun hok => ?_)
    · refine ⟨_, et.cell c0, ?_⟩
      refine f_in ?_
      try simp only [TUP_mk, AGG_mk, HD_mk, NL_mk, TYI_mk, TYB_mk, TYP_mk, TYL_mk, TYS_mk, TYM_mk, SO_mk, NX_mk, endK_mk, endK_mk', add_0]
      refine ⟨⟨_, et.cell c0, _, et.cell c1, _, _, _, et.cell c2, _, _, _, et.cell c3, rfl⟩, ?_⟩
      refine j0 t _ et fun hok => ?_
      have h2 : isM T a ∧ isS T b := of_decide_eq_true ((hq hok) ▸ h1)
      congr 1
      exact propext ⟨fun h3 => ⟨h2.1, h2.2, h3⟩, fun h3 => h3.2.2⟩
    · have h2 : ¬ (isM T a ∧ isS T b) := of_decide_eq_false ((hq hok) ▸ h1)
      exact (decide_eq_false fun h3 => h2 ⟨h3.1, h3.2.1⟩).symm
  refine f_Man fun s3 q1 e3 hb => ?_
  try simp only [TUP_mk, AGG_mk, HD_mk, NL_mk, TYI_mk, TYB_mk, TYP_mk, TYL_mk, TYS_mk, TYM_mk, SO_mk, NX_mk, endK_mk, endK_mk', add_0]
  refine ⟨⟨_, e3.cell c0, _, e3.cell c1, _, _, _, e3.cell c2, _, _, _, e3.cell c3, rfl⟩, ?_⟩
  refine BR_bool (fun hq => ?_) (fun hq => ?_)
  · refine ⟨_, e3.cell c0, _, e3.cell c1, _, _, _, e3.cell c2, _, _, _, e3.cell c3, ?_⟩
    refine f_Sheet fun s4 q2 e4 hb2 => ?_
    try simp only [TUP_mk, AGG_mk, HD_mk, NL_mk, TYI_mk, TYB_mk, TYP_mk, TYL_mk, TYS_mk, TYM_mk, SO_mk, NX_mk, endK_mk, endK_mk', add_0]
    have e34 := e3.trans e4
    refine ⟨⟨_, e34.cell c0, _, e34.cell c1, _, _, _, e34.cell c2, _, _, _, e34.cell c3, rfl⟩, ?_⟩
    refine j1 s4 q2 e34 fun hok => ?_
    have h1 : isM T a := of_decide_eq_true ((hb hok) ▸ hq)
    rw [hb2 hok]
    congr 1
    apply propext
    exact ⟨fun h2 => ⟨h1, h2⟩, fun h2 => h2.2⟩
  · refine j1 s3 false e3 fun hok => ?_
    have h1 : ¬ isM T a := of_decide_eq_false ((hb hok) ▸ hq)
    exact (decide_eq_false (fun h2 => h1 h2.1)).symm
/-- Is nobody of those who are left surely before? The first ones alone. -/
def firstK (T : Tb) (left : List Nat) (i k : Nat) : Bool := decide (i ∈ left) && !((List.range k).any fun o => decide (o ∈ left) && surT T o i)
theorem firstK_succ (T : Tb) (left : List Nat) (i k : Nat) : firstK T left i (k + 1) = (firstK T left i k && !(decide (k ∈ left) && surT T k i)) := by
  unfold firstK
  rw [List.range_succ, List.any_append]
  simp only [List.any_cons, List.any_nil, Bool.or_false, Bool.not_or, Bool.and_assoc]
theorem firstK_all {left : List Nat} (hlt : ∀ o ∈ left, o < T.n) (i : Nat) : firstK T left i T.n = isFirst T left i := by
  unfold firstK isFirst held
  congr 2
  rw [Bool.eq_iff_iff, List.any_eq_true, List.any_eq_true]
  constructor
  · rintro ⟨o, ho, h⟩
    simp only [Bool.and_eq_true, decide_eq_true_eq] at h
    exact ⟨o, h.1, h.2⟩
  · rintro ⟨o, ho, h⟩
    exact ⟨o, List.mem_range.2 (hlt o ho), by simp [ho, h]⟩
theorem f_Order {x y : Option Addr} {c c' : Nat} (hx : RowAt s x (ints T.off)) (hy : ScAt s y T.sc) (hlo : T.off.length ≤ 100000) (h : ∀ s' z cz, Ext s s' → RowAt s' z (ints (natI (orderR T).1)) → K (.tuple #[.slice z (orderR T).1.length cz, .int .i64 (orderR T).2]) s') :
    CALL Pg W F_ref10_Order [.agg #[.int .i64 T.men, .int .i64 T.sheets, .slice x T.off.length c, .slice y T.sc.length c']] K E s := by
  refine does_ref10_Order W T.men T.sheets x T.off.length c y T.sc.length c' _ s ?_
  unfold T_ref10_Order
  refine NEW_rule fun s1 e1 z1 n1 _ => ?_
  have ta := tbA_new e1 hx hy n1
  refine rdT ta fun x c y c' hx hy => ?_
  refine f_Table hx hy hlo fun s2 e2 => ?_
  try simp only [TUP_mk, AGG_mk, HD_mk, NL_mk, TYI_mk, TYB_mk, TYP_mk, TYL_mk, TYS_mk, TYM_mk, SO_mk, NX_mk, endK_mk, endK_mk', add_0]
  refine BR_not (fun hf => ?_) (fun hok => ?_)
  · have hr : orderR T = ([], 1) := by unfold orderR; rw [hf]; rfl
    rw [hr] at h
    exact h s2 none 0 (e1.trans e2) (fun i hi => by simp [ints, natI] at hi)
  have hn := men_n hok
  obtain ⟨np, n6, mp, m5⟩ := n_lim hok
  have hr : orderR T = (orderP T, 0) := by unfold orderR; rw [if_pos hok]
  rw [hr] at h
  have cm : ∀ {t}, Ext s1 t → cellAt t (Addr.add ⟨s.size, 0, none⟩ 0) = some (.int .i64 (T.n : Nat)) := fun e => by rw [hn]; exact (ta.ext e).men
  refine ⟨_, cm e2, ?_⟩
  refine f_power (by omega) ?_
  try simp only [TUP_mk, AGG_mk, HD_mk, NL_mk, TYI_mk, TYB_mk, TYP_mk, TYL_mk, TYS_mk, TYM_mk, SO_mk, NX_mk, endK_mk, endK_mk', add_0]
  have hp6 : 2 ^ T.n ≤ 2 ^ 6 := Nat.pow_le_pow_right (by omega) n6
  have hp0 : 0 < 2 ^ T.n := Nat.pow_pos (by omega)
  have hw0 : IntKind.wrap .i64 (((2 ^ T.n : Nat) : Int) - 1) = ((2 ^ T.n - 1 : Nat) : Int) := by rw [wrap_i64 (by omega) (by omega)]; omega
  rw [hw0]
  refine L_ref10_Order_0_rule W _ ⟨s.size, 0, none⟩ (fun xx ll cc n u => Ext s1 u ∧ ∃ (out left : List Nat) (w : Nat), n = w ∧ w < 64 ∧ (∀ b, b < 8 → w.testBit b = decide (b ∈ left)) ∧ left.Nodup ∧ Li s1.size u xx ll cc (natI out) ∧ (∀ o ∈ left, o < T.n) ∧ out.length + left.length = T.n ∧ orderP T = out ++ ordG T left.length left) (fun _ ll _ _ _ => T.n - ll) none 0 0 _ s2
    ⟨e2, [], List.range T.n, 2 ^ T.n - 1, rfl, by omega, (fun b _ => by rw [Nat.testBit_two_pow_sub_one]; simp), List.nodup_range, ⟨Fr.nil _ _ _, (fun b hb => by cases hb)⟩, (fun o ho => List.mem_range.1 ho), by simp, by unfold orderP; simp⟩ ?_
  rintro xx ll cc n u ⟨eu, out, left, w, rfl, hw, hbits, hnd, li, hlt, hsum, hord⟩
  have hll := li.len
  have hlo' : (natI out).length = out.length := by unfold natI; simp
  unfold B_ref10_Order_0
  refine BR_dec (fun h1 => ?_) (fun h1 => ?_)
  · have hne : left ≠ [] := fun e => by
      subst e
      have := bits_zero w hw fun b hb => by rw [hbits b hb]; simp
      omega
    obtain ⟨i0, hf, hi0⟩ := first_ex hok hne hlt
    have hi0n := hlt i0 hi0
    generalize hnx0 : (fun vs => N_ref10_Order_0 (fun xx ll cc n u => Ext s1 u ∧ ∃ (out left : List Nat) (w : Nat), n = w ∧ w < 64 ∧ (∀ b, b < 8 → w.testBit b = decide (b ∈ left)) ∧ left.Nodup ∧ Li s1.size u xx ll cc (natI out) ∧ (∀ o ∈ left, o < T.n) ∧ out.length + left.length = T.n ∧ orderP T = out ++ ordG T left.length left) (fun _ ll _ _ _ => T.n - ll) xx ll cc w u vs) = nx0
    refine L_ref10_Order_1_rule W _ nx0 ⟨s.size, 0, none⟩ xx ll cc w (fun nxt i v => Ext u v ∧ ∃ k : Nat, k ≤ T.n ∧ i = k ∧ ((nxt = -1 ∧ ∀ j, j < k → isFirst T left j = false) ∨ (nxt = i0 ∧ k = i0 + 1))) (fun nxt i _ => (T.n - i).toNat) (-1) 0 u ⟨Ext.refl _, 0, by omega, rfl, .inl ⟨rfl, fun j hj => by omega⟩⟩ ?_
    rintro nxt i v ⟨ev, k, hk, rfl, hst⟩
    have e1v := eu.trans ev
    unfold B_ref10_Order_1
    refine ⟨_, cm e1v, ?_⟩
    -- it was found
    have found : nxt = i0 → J_ref10_Order_0 W (endK K E) false w k nx0 (fun vs => N_ref10_Order_1 (fun nxt i v => Ext u v ∧ ∃ k : Nat, k ≤ T.n ∧ i = k ∧ ((nxt = -1 ∧ ∀ j, j < k → isFirst T left j = false) ∨ (nxt = i0 ∧ k = i0 + 1))) (fun nxt i _ => (T.n - i).toNat) nxt k v vs) ⟨s.size, 0, none⟩ xx ll cc nxt v := by
      rintro rfl
      unfold J_ref10_Order_0
      rw [BR_f]
      refine ne1 fun v1 m1 _ o1 => ?_
      have hl8 : (natI out).length ≤ 1000 := by omega
      refine li_add (li.ext (ev.trans m1)) (Nat.le_trans e1v.1 m1.1) o1.cell hl8 fun v2 x2 c2 k2 li2 g2 => ?_
      have e12 : Ext s1 v2 := kp_nil (e1v.trans m1) (fun b ⟨a, ha, hb⟩ => by rw [← hb]; exact li.fr.fr a ha) k2
      refine f_power (by omega) ?_
      try simp only [TUP_mk, AGG_mk, HD_mk, NL_mk, TYI_mk, TYB_mk, TYP_mk, TYL_mk, TYS_mk, TYM_mk, SO_mk, NX_mk, endK_mk, endK_mk', add_0]
      have hbi : w.testBit i0 = true := by rw [hbits i0 (by omega)]; exact decide_eq_true hi0
      obtain ⟨hle, hsb⟩ := sub_bit w hw i0 (by omega) hbi
      have hws : IntKind.wrap .i64 ((w : Int) - ((2 ^ i0 : Nat) : Int)) = ((w - 2 ^ i0 : Nat) : Int) := by
        generalize 2 ^ i0 = P at *
        rw [wrap_i64 (by omega) (by omega)]; omega
      have hw64 : w - 2 ^ i0 < 64 := Nat.lt_of_le_of_lt (Nat.sub_le _ _) hw
      rw [← hnx0, hws]
      have hlen1 : (left.erase i0).length = left.length - 1 := List.length_erase_of_mem hi0
      have hlpos : 0 < left.length := List.length_pos_iff.2 hne
      refine ⟨_, _, _, _, rfl, ⟨e12, out ++ [i0], left.erase i0, w - 2 ^ i0, rfl, hw64, fun b hb => ?_, hnd.erase i0, ?_, fun o ho => hlt o (List.mem_of_mem_erase ho), ?_, ?_⟩, ?_⟩
      · have hme : b ∈ left.erase i0 ↔ b ≠ i0 ∧ b ∈ left := hnd.mem_erase_iff
        rw [hsb b hb, hbits b hb, Bool.eq_iff_iff]
        simp [hme]
      · have : natI (out ++ [i0]) = natI out ++ [(i0 : Int)] := by unfold natI; rw [List.map_append]; rfl
        rw [this]; exact li2
      · rw [List.length_append, hlen1, List.length_singleton]; omega
      · rw [hord, hlen1]
        have : left.length = (left.length - 1) + 1 := by omega
        rw [this]
        show out ++ (match firstP T left with | some i => i :: ordG T (left.length - 1) (left.erase i) | none => []) = _
        rw [hf]; simp
      · show T.n - (ll + 1) < T.n - ll
        omega
    have hfi : isFirst T left i0 = true := List.find?_some hf
    refine BR_dec (fun h2 => ?_) (fun h2 => ?_)
    · have hkn : k < T.n := by omega
      rcases hst with ⟨rfl, hno⟩ | ⟨rfl, hke⟩
      · unfold J_ref10_Order_0
        refine BR_tt rfl ?_
        refine f_Has (by omega) (by omega) ?_
        try simp only [TUP_mk, AGG_mk, HD_mk, NL_mk, TYI_mk, TYB_mk, TYP_mk, TYL_mk, TYS_mk, TYM_mk, SO_mk, NX_mk, endK_mk, endK_mk', add_0]
        generalize hnx1 : (fun vs => N_ref10_Order_1 (fun nxt i v => Ext u v ∧ ∃ k : Nat, k ≤ T.n ∧ i = k ∧ ((nxt = -1 ∧ ∀ j, j < k → isFirst T left j = false) ∨ (nxt = i0 ∧ k = i0 + 1))) (fun nxt i _ => (T.n - i).toNat) (-1) k v vs) = nx1
        refine L_ref10_Order_2_rule W _ nx0 nx1 ⟨s.size, 0, none⟩ xx ll cc w (-1) k (fun b j v' => Ext v v' ∧ ∃ q : Nat, q ≤ T.n ∧ j = q ∧ b = firstK T left k q) (fun _ j _ => (T.n - j).toNat) _ 0 v ⟨Ext.refl _, 0, by omega, rfl, by rw [hbits k (by omega)]; unfold firstK; simp⟩ ?_
        rintro b43 n44 v' ⟨ev', q, hq, rfl, rfl⟩
        have e1v' := e1v.trans ev'
        unfold B_ref10_Order_2
        refine ⟨_, cm e1v', ?_⟩
        refine BR_dec (fun h3 => ?_) (fun h3 => ?_)
        · have hqn : q < T.n := by omega
          have j1 : ∀ (v2 : Hp) (b : Bool), Ext v v2 → b = firstK T left k (q + 1) → J_ref10_Order_1 W (endK K E) ⟨s.size, 0, none⟩ xx ll cc w (-1) k (fun vs => N_ref10_Order_2 (fun b j v' => Ext v v' ∧ ∃ q : Nat, q ≤ T.n ∧ j = q ∧ b = firstK T left k q) (fun _ j _ => (T.n - j).toNat) (firstK T left k q) q v' vs) b q v2 := by
            rintro v2 b e2' rfl
            unfold J_ref10_Order_1
            exact ⟨rfl, _, _, rfl, ⟨e2', q + 1, by omega, wrap_succ (by omega), rfl⟩, ms_succ hqn (by omega)⟩
          refine BR_bool (fun hb => ?_) (fun hb => ?_)
          · refine f_Has (by omega) (by omega) ?_
            try simp only [TUP_mk, AGG_mk, HD_mk, NL_mk, TYI_mk, TYB_mk, TYP_mk, TYL_mk, TYS_mk, TYM_mk, SO_mk, NX_mk, endK_mk, endK_mk', add_0]
            rw [hbits q (by omega)]
            refine BR_dec (fun h4 => ?_) (fun h4 => ?_)
            · refine rdT (ta.ext e1v') fun x c y c' hx hy => ?_
              refine f_surely hok hqn hkn hx hy fun v2 m2 => ?_
              try simp only [TUP_mk, AGG_mk, HD_mk, NL_mk, TYI_mk, TYB_mk, TYP_mk, TYL_mk, TYS_mk, TYM_mk, SO_mk, NX_mk, endK_mk, endK_mk', add_0]
              refine j1 v2 _ (ev'.trans m2) ?_
              rw [firstK_succ, hb, decide_eq_true h4, Bool.true_and, Bool.true_and]; rfl
            · refine j1 v' _ ev' ?_
              rw [firstK_succ, hb, decide_eq_false h4, Bool.false_and]; rfl
          · refine j1 v' _ ev' ?_
            rw [firstK_succ, hb, Bool.false_and]
        · have hqn : q = T.n := by omega
          subst hqn
          rw [firstK_all hlt]
          refine BR_bool (fun hb => ?_) (fun hb => ?_)
          · have hki : k = i0 := by
              rcases Nat.lt_trichotomy k i0 with h5 | h5 | h5
              · obtain ⟨h6, l1, l2, h7, h8⟩ := List.find?_eq_some_iff_append.1 hf
                have hm : k ∈ List.range T.n := List.mem_range.2 hkn
                have hs : (List.range T.n).Pairwise (· < ·) := List.pairwise_lt_range
                rw [h7] at hm hs
                rcases List.mem_append.1 hm with h9 | h9
                · have := h8 k h9; rw [hb] at this; cases this
                · rcases List.mem_cons.1 h9 with h9 | h9
                  · exact h9
                  · have := List.rel_of_pairwise_cons (List.pairwise_append.1 hs).2.1 h9; omega
              · exact h5
              · have := hno i0 h5; rw [hfi] at this; cases this
            subst hki
            rw [← hnx1]
            exact ⟨rfl, _, _, rfl, ⟨ev.trans ev', k + 1, by omega, wrap_succ (by omega), .inr ⟨rfl, rfl⟩⟩, ms_succ hkn (by omega)⟩
          · rw [← hnx1]
            refine ⟨rfl, _, _, rfl, ⟨ev.trans ev', k + 1, by omega, wrap_succ (by omega), .inl ⟨rfl, fun j hj => ?_⟩⟩, ms_succ hkn (by omega)⟩
            by_cases e : j = k
            · subst e; exact hb
            · exact hno j (by omega)
      · have : decide (((i0 : Nat) : Int) < 0) = false := decide_eq_false (by omega)
        rw [this]; exact found rfl
    · have hkn : k = T.n := by omega
      rcases hst with ⟨rfl, hno⟩ | ⟨rfl, hke⟩
      · have := hno i0 (by omega)
        rw [hfi] at this; cases this
      · exact found rfl
  · have hle : left = [] := by
      cases left with
      | nil => rfl
      | cons b r =>
        have hb := hbits b (by have := hlt b (by simp); omega)
        rw [decide_eq_true (by simp)] at hb
        have hw0' : w = 0 := by omega
        subst hw0'
        simp at hb
    subst hle
    have ho : orderP T = out := by rw [hord]; show out ++ [] = out; simp
    rw [ho] at h
    have hlo2 : ll = out.length := by omega
    subst hlo2
    exact h u _ _ (e1.trans eu) li.fr.row
end
end Go.Proofs.Ytkgcbfbbcaajpaa.G

/- Rank, in plain Lean: the order that is told; ploughmen who are numbered otherwise. -/
set_option linter.unusedSimpArgs false
set_option linter.unusedVariables false
set_option maxRecDepth 20000
namespace Go.Proofs.Ytkgcbfbbcaajpaa.G
open Go.V
/-! ### The order -/
/-- 'l' is an order of those who are left. -/
def Good (T : Tb) : List Nat → List Nat → Prop
  | left, [] => left = []
  | left, a :: r => a ∈ left ∧ held T left a = false ∧ (∀ b, b < a → b ∈ left → held T left b = true) ∧ Good T (left.erase a) r
theorem good_ord {T : Tb} (hok : okT T = true) : ∀ (left : List Nat), (∀ o ∈ left, o < T.n) → Good T left (ordG T left.length left)
  | [], _ => rfl
  | x :: l, hlt => by
    obtain ⟨i, hf, hi⟩ := first_ex hok (left := x :: l) (by simp) hlt
    have hlen : ((x :: l).erase i).length = l.length := by rw [List.length_erase_of_mem hi]; simp
    show Good T (x :: l) (ordG T (l.length + 1) (x :: l))
    have he : ordG T (l.length + 1) (x :: l) = i :: ordG T l.length ((x :: l).erase i) := by
      show (match firstP T (x :: l) with | some i => i :: ordG T l.length ((x :: l).erase i) | none => []) = _
      rw [hf]
    rw [he]
    have hF := List.find?_some hf
    unfold isFirst at hF
    simp only [Bool.and_eq_true, decide_eq_true_eq, Bool.not_eq_true'] at hF
    refine ⟨hi, hF.2, fun b hb hbl => ?_, ?_⟩
    · obtain ⟨h1, l1, l2, h2, h3⟩ := List.find?_eq_some_iff_append.1 hf
      have hbm : b ∈ l1 := by
        have hb' : b ∈ List.range T.n := List.mem_range.2 (hlt b hbl)
        rw [h2] at hb'
        have hs : (List.range T.n).Pairwise (· < ·) := List.pairwise_lt_range
        rw [h2] at hs
        rcases List.mem_append.1 hb' with h | h
        · exact h
        · rcases List.mem_cons.1 h with rfl | h
          · omega
          · have := List.rel_of_pairwise_cons (List.pairwise_append.1 hs).2.1 h; omega
      have := h3 b hbm
      unfold isFirst at this
      rw [decide_eq_true hbl] at this
      simpa using this
    · have := good_ord hok ((x :: l).erase i) (fun o ho => hlt o (List.mem_of_mem_erase ho))
      rw [hlen] at this; exact this
  termination_by left => left.length
  decreasing_by rw [hlen]; simp
theorem good_mem {T : Tb} : ∀ (l left : List Nat), left.Nodup → Good T left l → ∀ b, b ∈ l ↔ b ∈ left
  | [], left, _, h, b => by rw [show left = [] from h]
  | a :: r, left, hn, h, b => by
    obtain ⟨h1, _, _, h4⟩ := h
    have ih := good_mem r (left.erase a) (hn.erase a) h4 b
    rw [List.mem_cons, ih]
    by_cases e : b = a
    · subst e; simp [h1]
    · rw [List.mem_erase_of_ne e]; simp [e]
theorem good_nodup {T : Tb} : ∀ (l left : List Nat), left.Nodup → Good T left l → l.Nodup
  | [], _, _, _ => List.nodup_nil
  | a :: r, left, hn, h => by
    obtain ⟨h1, _, _, h4⟩ := h
    rw [List.nodup_cons]
    exact ⟨fun hm => (List.Nodup.not_mem_erase hn) ((good_mem r (left.erase a) (hn.erase a) h4 a).1 hm), good_nodup r _ (hn.erase a) h4⟩
theorem good_at {T : Tb} : ∀ (l left : List Nat), left.Nodup → Good T left l → ∀ i (hi : i < l.length), (∀ b ∈ l.drop (i + 1), surT T b l[i] = false) ∧ ∀ b, b < l[i] → b ∈ l.drop i → ∃ c ∈ l.drop i, surT T c b = true
  | [], _, _, _, i, hi => by simp at hi
  | a :: r, left, hn, h, 0, _ => by
    obtain ⟨h1, h2, h3, h4⟩ := h
    have hm := good_mem (a :: r) left hn ⟨h1, h2, h3, h4⟩
    refine ⟨fun b hb => ?_, fun b hb hbl => ?_⟩
    · have hb' : b ∈ left := (hm b).1 (by simp at hb; simp [hb])
      unfold held at h2
      have := List.any_eq_false.1 h2 b hb'
      simpa using this
    · have hh := h3 b hb ((hm b).1 (by simpa using hbl))
      unfold held at hh
      obtain ⟨c, hc, hs⟩ := List.any_eq_true.1 hh
      exact ⟨c, by simpa using (hm c).2 hc, hs⟩
  | a :: r, left, hn, h, i + 1, hi => by
    obtain ⟨h1, h2, h3, h4⟩ := h
    exact good_at r (left.erase a) (hn.erase a) h4 i (by simpa using hi)
theorem good_len {T : Tb} : ∀ (l left : List Nat), Good T left l → l.length = left.length
  | [], left, h => by rw [show left = [] from h]
  | a :: r, left, h => by
    obtain ⟨h1, _, _, h4⟩ := h
    have := good_len r _ h4
    have hp : 0 < left.length := List.length_pos_of_mem h1
    rw [List.length_cons, this, List.length_erase_of_mem h1]; omega
theorem order_good {T : Tb} (hok : okT T = true) : Good T (List.range T.n) (orderP T) := by
  have := good_ord hok (List.range T.n) (fun o ho => List.mem_range.1 ho)
  rw [List.length_range] at this; exact this
theorem order_len {T : Tb} (hok : okT T = true) : (orderP T).length = T.n := by rw [good_len _ _ (order_good hok), List.length_range]
theorem order_mem {T : Tb} (hok : okT T = true) (b : Nat) : b ∈ orderP T ↔ b < T.n := by rw [good_mem _ _ List.nodup_range (order_good hok), List.mem_range]
theorem order_nodup {T : Tb} (hok : okT T = true) : (orderP T).Nodup := good_nodup _ _ List.nodup_range (order_good hok)
/-! ### Other numbers -/
def num (n u m : Nat) : Nat := (m + u) % n
def inu (n u j : Nat) : Nat := (j + (n - u % n)) % n
theorem num_lt {n u m : Nat} (hn : 0 < n) : num n u m < n := Nat.mod_lt _ hn
theorem inu_lt {n u m : Nat} (hn : 0 < n) : inu n u m < n := Nat.mod_lt _ hn
theorem inu_num {n u m : Nat} (hm : m < n) : inu n u (num n u m) = m := by
  have hu := Nat.mod_lt u (show 0 < n by omega)
  have h1 : num n u m = (m + u % n) % n := by unfold num; rw [Nat.add_mod, Nat.mod_eq_of_lt hm]
  unfold inu
  rw [h1]
  generalize u % n = r at *
  by_cases h : m + r < n
  · rw [Nat.mod_eq_of_lt h, show m + r + (n - r) = m + n by omega, Nat.add_mod_right, Nat.mod_eq_of_lt hm]
  · have : (m + r) % n = m + r - n := by rw [Nat.mod_eq_sub_mod (by omega), Nat.mod_eq_of_lt (by omega)]
    rw [this, show m + r - n + (n - r) = m by omega, Nat.mod_eq_of_lt hm]
theorem num_inu {n u j : Nat} (hj : j < n) : num n u (inu n u j) = j := by
  have hu := Nat.mod_lt u (show 0 < n by omega)
  unfold num inu
  have e : u = n * (u / n) + u % n := (Nat.div_add_mod u n).symm
  generalize hr : u % n = r at *
  have : ((j + (n - r)) % n + u) % n = (j + (n - r) + r) % n := by
    rw [Nat.add_mod, Nat.mod_mod, ← Nat.add_mod]
    rw [e, ← Nat.add_assoc, Nat.add_right_comm, Nat.add_mul_mod_self_left]
  rw [this, show j + (n - r) + r = j + n by omega, Nat.add_mod_right, Nat.mod_eq_of_lt hj]
theorem num_inj {n u a b : Nat} (ha : a < n) (hb : b < n) (h : num n u a = num n u b) : a = b := by rw [← inu_num ha, ← inu_num hb, h]
theorem num_perm {n u : Nat} (hn : 0 < n) : ((List.range n).map (num n u)).Perm (List.range n) := by
  have hu := Nat.mod_lt u hn
  have e1 : (List.range n).map (num n u) = ((List.range (n - u % n)).map (u % n + ·)) ++ List.range (u % n) := by
    have : List.range n = List.range (n - u % n) ++ (List.range (u % n)).map (n - u % n + ·) := by rw [← List.range_add]; congr 1; omega
    rw [this, List.map_append, List.map_map]
    congr 1
    · refine List.map_congr_left fun j hj => ?_
      have hj := List.mem_range.1 hj
      unfold num
      rw [Nat.add_mod, Nat.mod_eq_of_lt (show j < n by omega), Nat.mod_eq_of_lt (show j + u % n < n by omega), Nat.add_comm]
    · refine Eq.trans (List.map_congr_left fun j hj => ?_) (List.map_id _)
      have hj := List.mem_range.1 hj
      show num n u (n - u % n + j) = j
      unfold num
      rw [Nat.add_mod, Nat.mod_eq_of_lt (show n - u % n + j < n by omega), show n - u % n + j + u % n = j + n by omega, Nat.add_mod_right, Nat.mod_eq_of_lt (by omega)]
  rw [e1]
  have e2 : List.range n = List.range (u % n) ++ (List.range (n - u % n)).map (u % n + ·) := by rw [← List.range_add]; congr 1; omega
  rw [e2]
  exact List.perm_append_comm
theorem cntB_num {n u : Nat} (hn : 0 < n) (f : Nat → Bool) : cntB (fun o => f (num n u o)) n = cntB f n := by
  unfold cntB
  rw [← List.countP_eq_length_filter, ← List.countP_eq_length_filter]
  have h1 := (num_perm (u := u) hn).countP_eq f
  rw [List.countP_map] at h1
  exact h1
def renS (n u : Nat) (c : Sc) : Sc := ⟨(num n u c.man.toNat : Nat), c.sheet, c.lo, c.hi⟩
def renT (T : Tb) (u : Nat) : Tb := ⟨T.men, T.sheets, (List.range T.n).map fun j => offT T (inu T.n u j), T.sc.reverse.map (renS T.n u)⟩
theorem renT_get {T : Tb} {u i : Nat} (h : i < (renT T u).off.length) : (renT T u).off[i] = offT T (inu T.n u i) := by simp [renT]
section
variable {T : Tb} {u : Nat} (hok : okT T = true)
include hok
theorem renT_keys : ((renT T u).sc.map Sc.key).Nodup := by
  obtain ⟨_, _, _, _, _, g6, g7⟩ := okT_iff2.1 hok
  have hn := men_n hok
  show ((T.sc.reverse.map (renS T.n u)).map Sc.key).Nodup
  have h1 : (T.sc.reverse.map Sc.key).Nodup := by rw [List.map_reverse]; exact (List.reverse_perm _).nodup_iff.2 g7
  have e : (T.sc.reverse.map (renS T.n u)).map Sc.key = (T.sc.reverse.map Sc.key).map fun k => (((num T.n u k.1.toNat : Nat) : Int), k.2) := by
    rw [List.map_map, List.map_map]; rfl
  rw [e, List.nodup_iff_pairwise_ne, List.pairwise_map]
  rw [List.nodup_iff_pairwise_ne] at h1
  refine List.Pairwise.imp_of_mem ?_ h1
  intro k k' hk hk' hne he
  obtain ⟨c, hc, rfl⟩ := List.mem_map.1 hk
  obtain ⟨d, hd, rfl⟩ := List.mem_map.1 hk'
  have hc' := (g6 c (by simpa using hc)).1
  have hd' := (g6 d (by simpa using hd)).1
  injection he with h3 h4
  have h5 : num T.n u c.key.1.toNat = num T.n u d.key.1.toNat := by omega
  have h6 := num_inj (by show c.man.toNat < _; omega) (by show d.man.toNat < _; omega) h5
  have h7 : c.man = d.man := by have : c.man.toNat = d.man.toNat := h6; omega
  exact hne (by unfold Sc.key; rw [h7, show c.sheet = d.sheet from h4])
theorem renT_ok : okT (renT T u) = true := by
  obtain ⟨g1, g2, g3, g4, g5, g6, g7⟩ := okT_iff2.1 hok
  have hn := men_n hok
  obtain ⟨np, _⟩ := n_lim hok
  have vd := okT_vd hok
  refine okT_iff2.2 ⟨g1, g2, ?_, List.any_eq_false.2 fun x hx => ?_, ?_, fun x hx => ?_, renT_keys hok⟩
  · show (((List.range T.n).map _).length : Int) = T.men
    rw [List.length_map, List.length_range]; exact hn
  · obtain ⟨j, hj, rfl⟩ := List.mem_map.1 hx
    have hi := inu_lt (u := u) (m := j) np
    have hl : inu T.n u j < T.off.length := by rw [vd.len]; exact hi
    have := vd.off _ (show T.off.getD (inu T.n u j) 0 ∈ T.off by rw [show T.off.getD (inu T.n u j) 0 = T.off[inu T.n u j] by simp [List.getD, hl]]; exact List.getElem_mem _)
    have hb : badO (T.off.getD (inu T.n u j) 0) = false := by unfold badO; rw [decide_eq_true this]; rfl
    show ¬ badO (T.off.getD (inu T.n u j) 0) = true
    rw [hb]; simp
  · show (T.sc.reverse.map _).length ≤ 30
    rw [List.length_map, List.length_reverse]; exact g5
  · obtain ⟨c, hc, rfl⟩ := List.mem_map.1 hx
    obtain ⟨h1, h2, h3⟩ := g6 c (by simpa using hc)
    refine ⟨?_, h2, h3⟩
    have := num_lt (u := u) (m := c.man.toNat) np
    show 0 ≤ ((num T.n u c.man.toNat : Nat) : Int) ∧ ((num T.n u c.man.toNat : Nat) : Int) ≤ T.men - 1
    omega
theorem renT_pts {i : Nat} (hi : i < T.n) (k : Nat) : pts (prs (renT T u)) (((num T.n u i : Nat) : Int), (k : Int)) = pts (prs T) ((i : Int), (k : Int)) := by
  obtain ⟨_, _, _, _, _, g6, g7⟩ := okT_iff2.1 hok
  have hn := men_n hok
  by_cases h : ∃ c ∈ T.sc, c.key = ((i : Int), (k : Int))
  · obtain ⟨c, hc, he⟩ := h
    have h1 : pts (prs T) c.key = (c.lo, c.hi) := pts_mem g7 hc
    rw [he] at h1
    rw [h1]
    have h2 : pts (prs (renT T u)) (renS T.n u c).key = (c.lo, c.hi) := pts_mem (l := (renT T u).sc) (renT_keys hok) (x := renS T.n u c) (List.mem_map.2 ⟨c, by simpa using hc, rfl⟩)
    unfold Sc.key at he
    injection he with e1 e2
    have h3 : (renS T.n u c).key = (((num T.n u i : Nat) : Int), (k : Int)) := by
      unfold Sc.key renS
      simp only
      rw [e1, e2, Int.toNat_natCast]
    rw [h3] at h2; exact h2
  · have h1 : pts (prs T) ((i : Int), (k : Int)) = (0, 40) := pts_not fun c hc he => h ⟨c, hc, he⟩
    rw [h1]
    refine pts_not (l := (renT T u).sc) fun x hx he => ?_
    obtain ⟨c, hc, rfl⟩ := List.mem_map.1 hx
    have hc' : c ∈ T.sc := by simpa using hc
    obtain ⟨h2, _⟩ := g6 c hc'
    unfold Sc.key renS at he
    injection he with e1 e2
    have e3 : num T.n u c.man.toNat = num T.n u i := by simp only at e1; omega
    have e4 := num_inj (by omega) hi e3
    exact h ⟨c, hc', by unfold Sc.key; rw [show c.sheet = (k : Int) from e2, show c.man = (i : Int) by omega]⟩
theorem renT_off {i : Nat} (hi : i < T.n) : offT (renT T u) (num T.n u i) = offT T i := by
  obtain ⟨np, _⟩ := n_lim hok
  have h := num_lt (u := u) (m := i) np
  show ((List.range T.n).map fun j => offT T (inu T.n u j)).getD (num T.n u i) 0 = _
  simp [List.getD, h, inu_num hi]
theorem renT_rows {i : Nat} (hi : i < T.n) : lowR (renT T u) (num T.n u i) = lowR T i ∧ topR (renT T u) (num T.n u i) = topR T i := by
  rw [lowR_loP, lowR_loP, topR_hiP, topR_hiP, renT_off hok hi]
  have hm : (renT T u).m = T.m := rfl
  rw [hm]
  exact ⟨rowG_congr fun k _ => by unfold loP; rw [renT_pts hok hi], rowG_congr fun k _ => by unfold hiP; rw [renT_pts hok hi]⟩
theorem renT_sur {a b : Nat} (ha : a < T.n) (hb : b < T.n) : surT (renT T u) (num T.n u a) (num T.n u b) = surT T a b ∧ canT (renT T u) (num T.n u a) (num T.n u b) = canT T a b := by
  have hd : decide (num T.n u a ≠ num T.n u b) = decide (a ≠ b) := by
    congr 1
    exact propext ⟨fun h e => h (by rw [e]), fun h e => h (num_inj ha hb e)⟩
  rw [surT_eq, surT_eq, canT_eq, canT_eq, (renT_rows hok ha).1, (renT_rows hok ha).2, (renT_rows hok hb).1, (renT_rows hok hb).2, hd]
  exact ⟨rfl, rfl⟩
theorem renT_bef {a b : Nat} (ha : a < T.n) (hb : b < T.n) : befN (renT T u) (num T.n u a) (num T.n u b) = befN T a b := by
  rw [befN_eq, befN_eq, (renT_sur hok ha hb).1, (renT_sur hok ha hb).2]
theorem renT_plc {a : Nat} (ha : a < T.n) : plcT (renT T u) (num T.n u a) = plcT T a := by
  obtain ⟨np, _⟩ := n_lim hok
  have hn : (renT T u).n = T.n := rfl
  rw [plcT_eq, plcT_eq, hn]
  rw [← cntB_num (u := u) np (fun o => surT (renT T u) o (num T.n u a)), ← cntB_num (u := u) np (fun o => canT (renT T u) o (num T.n u a))]
  rw [cntB_ext (f := fun o => surT (renT T u) (num T.n u o) (num T.n u a)) (g := fun o => surT T o a) fun o ho => (renT_sur hok ho ha).1, cntB_ext (f := fun o => canT (renT T u) (num T.n u o) (num T.n u a)) (g := fun o => canT T o a) fun o ho => (renT_sur hok ho ha).2]
theorem renT_win {a : Nat} (ha : a < T.n) : surF (renT T u) (num T.n u a) = surF T a ∧ canF (renT T u) (num T.n u a) = canF T a := by
  have h := renT_plc (u := u) hok ha
  constructor
  · show decide ((plcT (renT T u) (num T.n u a)).2 = 1) = decide ((plcT T a).2 = 1); rw [h]
  · show decide ((plcT (renT T u) (num T.n u a)).1 = 1) = decide ((plcT T a).1 = 1); rw [h]
end
end Go.Proofs.Ytkgcbfbbcaajpaa.G

/- Rank: numbers as integers. -/
namespace Go.Proofs.Ytkgcbfbbcaajpaa.G
theorem natI_len (l : List Nat) : (natI l).length = l.length := by unfold natI; simp
end Go.Proofs.Ytkgcbfbbcaajpaa.G

/- More of the functions' shallow texts, by gen.py. -/
set_option linter.unusedVariables false
set_option maxRecDepth 100000
namespace Go.Proofs.Ytkgcbfbbcaajpaa.G
open Go.V
def an_4 : Nat → Ann := fun b => match b with
  | _ => {}
abbrev rv_4 : List ResultVar := [.tmp 10]
abbrev rs_4 : List Nat := [106, 10]
def J_law10_RankLooks_0 (W : World) (R : Ending → Hp → Prop) (b137 : Bool) (x110 : Option Addr) (l111 : Nat) (c112 : Nat) (x129 : Option Addr) (l130 : Nat) (c131 : Nat) (n115 : Int) (n134 : Int) : Hp → Prop :=
  BR b137
    (CALL Pg W F_ref10_Ints [(.slice x110 l111 c112), (.slice x129 l130 c131)]
      (fun v138 => TYB v138 fun b140 =>
        BR b140
          (BR (n115 == n134)
            (CALL Pg W F_law10_awake []
              (fun v141 => TYB v141 fun b143 =>
                R (.returned (.bool b143)))
                (fun e142 => R (.panicked e142)))
            (R (.returned (.bool false))))
          (R (.returned (.bool false))))
        (fun e139 => R (.panicked e139)))
    (R (.returned (.bool false)))
def J_law10_RankLooks_1 (W : World) (R : Ending → Hp → Prop) (b136 : Bool) (n79 : Int) (n96 : Int) (x110 : Option Addr) (l111 : Nat) (c112 : Nat) (x129 : Option Addr) (l130 : Nat) (c131 : Nat) (n115 : Int) (n134 : Int) : Hp → Prop :=
  BR b136
    (J_law10_RankLooks_0 W R (n79 == n96) x110 l111 c112 x129 l130 c131 n115 n134)
    (J_law10_RankLooks_0 W R false x110 l111 c112 x129 l130 c131 n115 n134)
def J_law10_RankLooks_2 (W : World) (R : Ending → Hp → Prop) (b135 : Bool) (n76 : Int) (n93 : Int) (n79 : Int) (n96 : Int) (x110 : Option Addr) (l111 : Nat) (c112 : Nat) (x129 : Option Addr) (l130 : Nat) (c131 : Nat) (n115 : Int) (n134 : Int) : Hp → Prop :=
  BR b135
    (J_law10_RankLooks_1 W R (n76 == n93) n79 n96 x110 l111 c112 x129 l130 c131 n115 n134)
    (J_law10_RankLooks_1 W R false n79 n96 x110 l111 c112 x129 l130 c131 n115 n134)
def J_law10_RankLooks_3 (W : World) (R : Ending → Hp → Prop) (b25 : Bool) (B13 : Nat) (n9 : Int) (n10 : Int) (n11 : Int) (n12 : Int) : Hp → Prop :=
  BR b25
    (CALL Pg W F_law10_awake []
      (fun v26 => TYB v26 fun b28 =>
        R (.returned (.bool b28)))
        (fun e27 => R (.panicked e27)))
    (RDI .i64 (Addr.add ⟨B13, 0, none⟩ 0) fun n29 =>
      RDI .i64 (Addr.add ⟨B13, 0, none⟩ 1) fun n30 =>
        RDL (Addr.add ⟨B13, 0, none⟩ 2) fun x31 l32 c33 =>
          RDL (Addr.add ⟨B13, 0, none⟩ 3) fun x34 l35 c36 =>
            CALL Pg W F_rank_Could [(.agg #[(.int .i64 n29), (.int .i64 n30), (.slice x31 l32 c33), (.slice x34 l35 c36)]), (.int .i64 n9), (.int .i64 n10)]
              (fun v37 => TUP v37 fun q39 => HD q39 fun v40 r41 => TYI .i64 v40 fun n42 =>
                HD r41 fun v43 r44 => TYI .i64 v43 fun n45 =>
                  NL r44 <|
                    RDI .i64 (Addr.add ⟨B13, 0, none⟩ 0) fun n46 =>
                      RDI .i64 (Addr.add ⟨B13, 0, none⟩ 1) fun n47 =>
                        RDL (Addr.add ⟨B13, 0, none⟩ 2) fun x48 l49 c50 =>
                          RDL (Addr.add ⟨B13, 0, none⟩ 3) fun x51 l52 c53 =>
                            CALL Pg W F_ref10_Could [(.agg #[(.int .i64 n46), (.int .i64 n47), (.slice x48 l49 c50), (.slice x51 l52 c53)]), (.int .i64 n9), (.int .i64 n10)]
                              (fun v54 => TUP v54 fun q56 => HD q56 fun v57 r58 => TYI .i64 v57 fun n59 =>
                                HD r58 fun v60 r61 => TYI .i64 v60 fun n62 =>
                                  NL r61 <|
                                    RDI .i64 (Addr.add ⟨B13, 0, none⟩ 0) fun n63 =>
                                      RDI .i64 (Addr.add ⟨B13, 0, none⟩ 1) fun n64 =>
                                        RDL (Addr.add ⟨B13, 0, none⟩ 2) fun x65 l66 c67 =>
                                          RDL (Addr.add ⟨B13, 0, none⟩ 3) fun x68 l69 c70 =>
                                            CALL Pg W F_rank_Need [(.agg #[(.int .i64 n63), (.int .i64 n64), (.slice x65 l66 c67), (.slice x68 l69 c70)]), (.int .i64 n9), (.int .i64 n11), (.int .i64 n12)]
                                              (fun v71 => TUP v71 fun q73 => HD q73 fun v74 r75 => TYI .i64 v74 fun n76 =>
                                                HD r75 fun v77 r78 => TYI .i64 v77 fun n79 =>
                                                  NL r78 <|
                                                    RDI .i64 (Addr.add ⟨B13, 0, none⟩ 0) fun n80 =>
                                                      RDI .i64 (Addr.add ⟨B13, 0, none⟩ 1) fun n81 =>
                                                        RDL (Addr.add ⟨B13, 0, none⟩ 2) fun x82 l83 c84 =>
                                                          RDL (Addr.add ⟨B13, 0, none⟩ 3) fun x85 l86 c87 =>
                                                            CALL Pg W F_ref10_Need [(.agg #[(.int .i64 n80), (.int .i64 n81), (.slice x82 l83 c84), (.slice x85 l86 c87)]), (.int .i64 n9), (.int .i64 n11), (.int .i64 n12)]
                                                              (fun v88 => TUP v88 fun q90 => HD q90 fun v91 r92 => TYI .i64 v91 fun n93 =>
                                                                HD r92 fun v94 r95 => TYI .i64 v94 fun n96 =>
                                                                  NL r95 <|
                                                                    RDI .i64 (Addr.add ⟨B13, 0, none⟩ 0) fun n97 =>
                                                                      RDI .i64 (Addr.add ⟨B13, 0, none⟩ 1) fun n98 =>
                                                                        RDL (Addr.add ⟨B13, 0, none⟩ 2) fun x99 l100 c101 =>
                                                                          RDL (Addr.add ⟨B13, 0, none⟩ 3) fun x102 l103 c104 =>
                                                                            CALL Pg W F_rank_Order [(.agg #[(.int .i64 n97), (.int .i64 n98), (.slice x99 l100 c101), (.slice x102 l103 c104)])]
                                                                              (fun v105 => TUP v105 fun q107 => HD q107 fun v108 r109 => TYL v108 fun x110 l111 c112 =>
                                                                                HD r109 fun v113 r114 => TYI .i64 v113 fun n115 =>
                                                                                  NL r114 <|
                                                                                    RDI .i64 (Addr.add ⟨B13, 0, none⟩ 0) fun n116 =>
                                                                                      RDI .i64 (Addr.add ⟨B13, 0, none⟩ 1) fun n117 =>
                                                                                        RDL (Addr.add ⟨B13, 0, none⟩ 2) fun x118 l119 c120 =>
                                                                                          RDL (Addr.add ⟨B13, 0, none⟩ 3) fun x121 l122 c123 =>
                                                                                            CALL Pg W F_ref10_Order [(.agg #[(.int .i64 n116), (.int .i64 n117), (.slice x118 l119 c120), (.slice x121 l122 c123)])]
                                                                                              (fun v124 => TUP v124 fun q126 => HD q126 fun v127 r128 => TYL v127 fun x129 l130 c131 =>
                                                                                                HD r128 fun v132 r133 => TYI .i64 v132 fun n134 =>
                                                                                                  NL r133 <|
                                                                                                    BR (n42 == n59)
                                                                                                      (J_law10_RankLooks_2 W R (n45 == n62) n76 n93 n79 n96 x110 l111 c112 x129 l130 c131 n115 n134)
                                                                                                      (J_law10_RankLooks_2 W R false n76 n93 n79 n96 x110 l111 c112 x129 l130 c131 n115 n134))
                                                                                                (fun e125 => R (.panicked e125)))
                                                                                (fun e106 => R (.panicked e106)))
                                                                (fun e89 => R (.panicked e89)))
                                                (fun e72 => R (.panicked e72)))
                                (fun e55 => R (.panicked e55)))
                (fun e38 => R (.panicked e38)))
def T_law10_RankLooks (W : World) (n1 : Int) (n2 : Int) (x3 : Option Addr) (l4 : Nat) (c5 : Nat) (x6 : Option Addr) (l7 : Nat) (c8 : Nat) (n9 : Int) (n10 : Int) (n11 : Int) (n12 : Int) (R : Ending → Hp → Prop) : Hp → Prop :=
  NEW 25 [(.int .i64 n1), (.int .i64 n2), (.slice x3 l4 c5), (.slice x6 l7 c8)] fun B13 =>
    RDI .i64 (Addr.add ⟨B13, 0, none⟩ 0) fun n14 =>
      RDI .i64 (Addr.add ⟨B13, 0, none⟩ 1) fun n15 =>
        RDL (Addr.add ⟨B13, 0, none⟩ 2) fun x16 l17 c18 =>
          RDL (Addr.add ⟨B13, 0, none⟩ 3) fun x19 l20 c21 =>
            CALL Pg W F_law10_far [(.agg #[(.int .i64 n14), (.int .i64 n15), (.slice x16 l17 c18), (.slice x19 l20 c21)])]
              (fun v22 => TYB v22 fun b24 =>
                BR b24
                  (J_law10_RankLooks_3 W R true B13 n9 n10 n11 n12)
                  (RDI .i64 (Addr.add ⟨B13, 0, none⟩ 1) fun n144 =>
                    BR (decide (n144 > 4))
                      (RDI .i64 (Addr.add ⟨B13, 0, none⟩ 0) fun n145 =>
                        RDI .i64 (Addr.add ⟨B13, 0, none⟩ 1) fun n146 =>
                          RDL (Addr.add ⟨B13, 0, none⟩ 2) fun x147 l148 c149 =>
                            RDL (Addr.add ⟨B13, 0, none⟩ 3) fun x150 l151 c152 =>
                              CALL Pg W F_ref10_Table [(.agg #[(.int .i64 n145), (.int .i64 n146), (.slice x147 l148 c149), (.slice x150 l151 c152)])]
                                (fun v153 => TYB v153 fun b155 =>
                                  J_law10_RankLooks_3 W R b155 B13 n9 n10 n11 n12)
                                  (fun e154 => R (.panicked e154)))
                      (J_law10_RankLooks_3 W R false B13 n9 n10 n11 n12)))
                (fun e23 => R (.panicked e23))
theorem T_law10_RankLooks_eq (W : World) (n1 : Int) (n2 : Int) (x3 : Option Addr) (l4 : Nat) (c5 : Nat) (x6 : Option Addr) (l7 : Nat) (c8 : Nat) (n9 : Int) (n10 : Int) (n11 : Int) (n12 : Int) (R : Ending → Hp → Prop) : vfun Pg W an_4 Try.f4 [(.agg #[(.int .i64 n1), (.int .i64 n2), (.slice x3 l4 c5), (.slice x6 l7 c8)]), (.int .i64 n9), (.int .i64 n10), (.int .i64 n11), (.int .i64 n12)] R = T_law10_RankLooks W n1 n2 x3 l4 c5 x6 l7 c8 n9 n10 n11 n12 R := by kernel_rfl
theorem does_law10_RankLooks (W : World) (n1 : Int) (n2 : Int) (x3 : Option Addr) (l4 : Nat) (c5 : Nat) (x6 : Option Addr) (l7 : Nat) (c8 : Nat) (n9 : Int) (n10 : Int) (n11 : Int) (n12 : Int) (R : Ending → Hp → Prop) (s : Hp) (h : T_law10_RankLooks W n1 n2 x3 l4 c5 x6 l7 c8 n9 n10 n11 n12 R s) : Does Pg W F_law10_RankLooks #[(.agg #[(.int .i64 n1), (.int .i64 n2), (.slice x3 l4 c5), (.slice x6 l7 c8)]), (.int .i64 n9), (.int .i64 n10), (.int .i64 n11), (.int .i64 n12)] s R :=
  does_of_vfun Pg W an_4 Try.func4 rfl (by kernel_rfl) (by rw [T_law10_RankLooks_eq]; exact h)
end Go.Proofs.Ytkgcbfbbcaajpaa.G

/- The statement RankLooks. -/
set_option linter.unusedSimpArgs false
set_option linter.unusedVariables false
set_option maxRecDepth 20000
namespace Go.Proofs.Ytkgcbfbbcaajpaa.G
open Go.V
section
variable {W : World} {K : VK} {E : List PanicEntry → Hp → Prop} {s : Hp} {T : Tb}
theorem w_RankLooks {x y : Option Addr} {c c' : Nat} {a b sh pl : Int} (hx : RowAt s x (ints T.off)) (hy : ScAt s y T.sc) (h : ∀ s', Ext s s' → K (.bool true) s') :
    CALL Pg W F_law10_RankLooks [.agg #[.int .i64 T.men, .int .i64 T.sheets, .slice x T.off.length c, .slice y T.sc.length c'], .int .i64 a, .int .i64 b, .int .i64 sh, .int .i64 pl] K E s := by
  refine does_law10_RankLooks W T.men T.sheets x T.off.length c y T.sc.length c' a b sh pl _ s ?_
  unfold T_law10_RankLooks
  refine NEW_rule fun s1 e1 z1 n1 _ => ?_
  have ta := tbA_new e1 hx hy n1
  refine rdT ta fun x c y c' hx hy => ?_
  refine c_far fun s2 q e2 hq => ?_
  try simp only [TUP_mk, AGG_mk, HD_mk, NL_mk, TYI_mk, TYB_mk, TYP_mk, TYL_mk, TYS_mk, TYM_mk, SO_mk, NX_mk, endK_mk, endK_mk', add_0]
  have aw : ∀ t, Ext s1 t → CALL Pg W F_law10_awake [] (fun v => TYB v fun b => endK K E (.returned (.bool b))) (fun e => endK K E (.panicked e)) t := fun t et => c_awake' et fun t2 e => h t2 (e1.trans e)
  have fin : ∀ t, Ext s1 t → J_law10_RankLooks_3 W (endK K E) true s.size a b sh pl t := fun t et => by
    unfold J_law10_RankLooks_3
    rw [BR_t]
    exact aw t et
  refine BR_bool (fun _ => fin s2 e2) (fun hf => ?_)
  have hlo : T.off.length ≤ 100000 := by have := hq hf; omega
  have main : ∀ t, Ext s1 t → J_law10_RankLooks_3 W (endK K E) false s.size a b sh pl t := by
    intro t et
    unfold J_law10_RankLooks_3
    rw [BR_f]
    refine rdT (ta.ext et) fun x c y c' hx hy => ?_
    refine c_Could hx hy hlo fun t1 f1 => ?_
    try simp only [TUP_mk, AGG_mk, HD_mk, NL_mk, TYI_mk, TYB_mk, TYP_mk, TYL_mk, TYS_mk, TYM_mk, SO_mk, NX_mk, endK_mk, endK_mk', add_0]
    have g1 := et.trans f1
    refine rdT (ta.ext g1) fun x c y c' hx hy => ?_
    refine f_Could hx hy hlo fun t2 f2 => ?_
    try simp only [TUP_mk, AGG_mk, HD_mk, NL_mk, TYI_mk, TYB_mk, TYP_mk, TYL_mk, TYS_mk, TYM_mk, SO_mk, NX_mk, endK_mk, endK_mk', add_0]
    have g2 := g1.trans f2
    refine rdT (ta.ext g2) fun x c y c' hx hy => ?_
    refine c_Need hx hy hlo fun t3 f3 => ?_
    try simp only [TUP_mk, AGG_mk, HD_mk, NL_mk, TYI_mk, TYB_mk, TYP_mk, TYL_mk, TYS_mk, TYM_mk, SO_mk, NX_mk, endK_mk, endK_mk', add_0]
    have g3 := g2.trans f3
    refine rdT (ta.ext g3) fun x c y c' hx hy => ?_
    refine f_Need hx hy hlo fun t4 f4 => ?_
    try simp only [TUP_mk, AGG_mk, HD_mk, NL_mk, TYI_mk, TYB_mk, TYP_mk, TYL_mk, TYS_mk, TYM_mk, SO_mk, NX_mk, endK_mk, endK_mk', add_0]
    have g4 := g3.trans f4
    refine rdT (ta.ext g4) fun x c y c' hx hy => ?_
    refine c_Order hx hy hlo fun t5 z cz f5 hz _ => ?_
    try simp only [TUP_mk, AGG_mk, HD_mk, NL_mk, TYI_mk, TYB_mk, TYP_mk, TYL_mk, TYS_mk, TYM_mk, SO_mk, NX_mk, endK_mk, endK_mk', add_0]
    have g5 := g4.trans f5
    refine rdT (ta.ext g5) fun x c y c' hx hy => ?_
    refine f_Order hx hy hlo fun t6 z' cz' f6 hz' => ?_
    try simp only [TUP_mk, AGG_mk, HD_mk, NL_mk, TYI_mk, TYB_mk, TYP_mk, TYL_mk, TYS_mk, TYM_mk, SO_mk, NX_mk, endK_mk, endK_mk', add_0]
    have g6 := g5.trans f6
    simp only [beq_self_eq_true, BR_t, J_law10_RankLooks_2, J_law10_RankLooks_1, J_law10_RankLooks_0]
    have hlen : (orderR T).1.length ≤ 100000 := by
      unfold orderR
      split
      · rename_i hok
        have := order_len hok
        obtain ⟨_, n6, _, _⟩ := n_lim hok
        show (orderP T).length ≤ _
        omega
      · exact Nat.zero_le _
    refine f_IntsN (hz.ext f6) hz' (by rw [natI_len]; exact hlen) (by rw [natI_len]) (by rw [natI_len]) ?_
    try simp only [TUP_mk, AGG_mk, HD_mk, NL_mk, TYI_mk, TYB_mk, TYP_mk, TYL_mk, TYS_mk, TYM_mk, SO_mk, NX_mk, endK_mk, endK_mk', add_0]
    refine BR_tt (by simp) ?_
    exact aw t6 g6
  refine ⟨_, (ta.ext e2).sheets, ?_⟩
  refine BR_dec (fun h1 => ?_) (fun _ => main s2 e2)
  refine rdT (ta.ext e2) fun x c y c' hx hy => ?_
  refine f_Table hx hy hlo fun s3 e3 => ?_
  try simp only [TUP_mk, AGG_mk, HD_mk, NL_mk, TYI_mk, TYB_mk, TYP_mk, TYL_mk, TYS_mk, TYM_mk, SO_mk, NX_mk, endK_mk, endK_mk', add_0]
  have e13 := e2.trans e3
  cases okT T with
  | true => exact fin s3 e13
  | false => exact main s3 e13
end
end Go.Proofs.Ytkgcbfbbcaajpaa.G

/- RankLooks, from any arguments. -/
namespace Go.Proofs.Ytkgcbfbbcaajpaa.G
open Go.V
theorem v_RankLooks {W : World} {s : Hp} {v0 v1 v2 v3 v4 : Value} (k0 : RdV Pg s 25 v0) (k1 : RdV Pg s 3 v1) (k2 : RdV Pg s 3 v2) (k3 : RdV Pg s 3 v3) (k4 : RdV Pg s 3 v4) : CALL Pg W F_law10_RankLooks [v0, v1, v2, v3, v4] (fun v s' => v = .bool true ∧ Ext s s') (fun _ _ => False) s := by
  obtain ⟨x, c, y, c', T, rfl, hx, hy⟩ := table_rd k0
  obtain ⟨a, rfl⟩ := int_rd k1
  obtain ⟨b, rfl⟩ := int_rd k2
  obtain ⟨sh, rfl⟩ := int_rd k3
  obtain ⟨pl, rfl⟩ := int_rd k4
  exact w_RankLooks hx hy fun s' e => ⟨rfl, e⟩
end Go.Proofs.Ytkgcbfbbcaajpaa.G

/- The row of the statement RankLooks. -/
namespace Go.Proofs.Ytkgcbfbbcaajpaa.rankLooks
open Go.ChangeShapes Go.WideShapes Go.ChangeAt Go.RowKit Go.V
set_option linter.unusedVariables false
theorem own : ownKnob Try.prog.godebug = none := by kernel_rfl
theorem laidOut : laidOutB Try.prog = true := by kernel_rfl
set_option maxRecDepth 100000 in
theorem lifted (os : Os) (started : os.Started) (H : Type) (enc : TypeId × Value → H) :
    ReturnsInHanded {} Try.checked os 4 .any (Rows.rankLooksSpec.pre6 enc Try.prog Try.f4 Rows.rankLooksRow.domain false) (Rows.rankLooksSpec.post enc Try.prog Try.f4 false true false false) := by
  refine returnsInHanded_of_change_sized (C := Try.checked) own started (by kernel_rfl) Try.func4
    (ChangeSpec.witness6 (enc := enc) (C := Try.checked) false ⟨#[], #[(.agg #[(.int .i64 0), (.int .i64 0), (.slice none 0 0), (.slice none 0 0)]), (.int .i64 0), (.int .i64 0), (.int .i64 0), (.int .i64 0)], []⟩ 8 (by kernel_rfl) (by kernel_rfl) (by kernel_rfl) (by kernel_rfl)) ?_
  intro W base args ds gs before hval0 hW hcnd hsz0 _
  have hsz : (DataW.weightsEach Try.prog (Try.f4.params.toList ++ Rows.rankLooksSpec.plain.varTypes Try.prog) (ds ++ gs)).all (· ≤ reachBytes) = true := hsz0
  have hval : ∀ (j : Nat) t v, Try.f4.params[j]? = some t → args[j]? = some v → Value.okWide Try.prog W .any base t v := hval0
  have hW' := hW
  obtain ⟨p, q, hA0, hV, rfl, hfz, hnd⟩ := hW
  have hA : DataW.TrodAll enc Try.prog W 0 (fun _ => true) true Try.f4.params.toList args.toList ds p := hA0
  rw [Try.params4] at hA hval hsz
  obtain ⟨v0, vs0, d0, ds0, p0, q0, hargs, rfl, rfl, h0, r0⟩ := trodAll_cons hA
  obtain ⟨v1, vs1, d1, ds1, p1, q1, rfl, rfl, rfl, h1, r1⟩ := trodAll_cons r0
  obtain ⟨v2, vs2, d2, ds2, p2, q2, rfl, rfl, rfl, h2, r2⟩ := trodAll_cons r1
  obtain ⟨v3, vs3, d3, ds3, p3, q3, rfl, rfl, rfl, h3, r3⟩ := trodAll_cons r2
  obtain ⟨v4, vs4, d4, ds4, p4, q4, rfl, rfl, rfl, h4, r4⟩ := trodAll_cons r3
  obtain ⟨rfl, rfl, rfl⟩ := trodAll_nil r4
  obtain rfl : args = #[v0, v1, v2, v3, v4] := by cases args; simp_all
  obtain ⟨rfl, rfl⟩ := trodVars_none hV
  have k0 := trod_rdV (hval 0 25 v0 rfl rfl) h0
  have lt0 : ∀ x ∈ p0, x.block < W.heap.size := by obtain ⟨m, hm⟩ := h0; exact DataW.trod_lt m _ _ _ hm
  have k1 := trod_rdV (hval 1 3 v1 rfl rfl) h1
  have lt1 : ∀ x ∈ p1, x.block < W.heap.size := by obtain ⟨m, hm⟩ := h1; exact DataW.trod_lt m _ _ _ hm
  have k2 := trod_rdV (hval 2 3 v2 rfl rfl) h2
  have lt2 : ∀ x ∈ p2, x.block < W.heap.size := by obtain ⟨m, hm⟩ := h2; exact DataW.trod_lt m _ _ _ hm
  have k3 := trod_rdV (hval 3 3 v3 rfl rfl) h3
  have lt3 : ∀ x ∈ p3, x.block < W.heap.size := by obtain ⟨m, hm⟩ := h3; exact DataW.trod_lt m _ _ _ hm
  have k4 := trod_rdV (hval 4 3 v4 rfl rfl) h4
  have lt4 : ∀ x ∈ p4, x.block < W.heap.size := by obtain ⟨m, hm⟩ := h4; exact DataW.trod_lt m _ _ _ hm
  refine (calls_of_does (does_of_call (G.v_RankLooks (W := W) (s := W.heap) k0 k1 k2 k3 k4))).mono fun e W' ⟨he, bel⟩ => ?_
  subst he
  exact ⟨_, rfl, _, _, _, [], _, [], hW', trodAll_mk1 (shut_bool Try.underlying4 _), (trodAll_cons_mk (Below.trod laidOut (by kernel_rfl) (of_decide_eq_true (by kernel_rfl)) h0 bel lt0) (trodAll_cons_mk (Below.trod laidOut (by kernel_rfl) (of_decide_eq_true (by kernel_rfl)) h1 bel lt1) (trodAll_cons_mk (Below.trod laidOut (by kernel_rfl) (of_decide_eq_true (by kernel_rfl)) h2 bel lt2) (trodAll_cons_mk (Below.trod laidOut (by kernel_rfl) (of_decide_eq_true (by kernel_rfl)) h3 bel lt3) (trodAll_cons_mk (Below.trod laidOut (by kernel_rfl) (of_decide_eq_true (by kernel_rfl)) h4 bel lt4) trodAll_mk0))))), rfl, bel.frame _, fun h => by cases h⟩
theorem over : Rows.rankLooksRow.holds Try.pinned (OpenSpec.ofChange Rows.rankLooksSpec) :=
  OpenClaim.holds_of_wide 4 Try.f4 rfl rfl rfl rfl rfl rfl rfl ⟨rfl, rfl, rfl, rfl, rfl⟩ rfl rfl rfl rfl rfl (by kernel_rfl) Try.func4 (by kernel_rfl)
    (of_decide_eq_true (by kernel_rfl)) (by unfold Func.isWrapper; first | (rw [if_pos (by decide +kernel)]; kernel_rfl) | (rw [if_neg (by decide +kernel)]; exact ⟨rfl, rfl⟩))
    (fun os started H enc _ => lifted os started H enc)
theorem proved : Rows.RankLooksSaid := over
end Go.Proofs.Ytkgcbfbbcaajpaa.rankLooks
namespace Go.Proofs.Ytkgcbfbbcaajpaa
/-- The row, under a short name. -/
theorem rankLooks_holds : Rows.RankLooksSaid := rankLooks.proved
end Go.Proofs.Ytkgcbfbbcaajpaa
