import Derived.Test.YtfaeokcbfnlgbaaC3
/- How many prizes can be given, and how, who gains if any ploughman stays away, and for which place the ploughman would get a prize, are the document's, or why they are not known. -/
/- Prize: plain: somebody at another place. -/
set_option linter.unusedSimpArgs false
set_option linter.unusedVariables false
set_option maxRecDepth 20000
namespace Go.Proofs.Ytfaeokcbfnlgbaa.G
open Go.V
def movN (old pl n : Int) : Int := if n > old ∧ n ≤ pl then n - 1 else if n < old ∧ n ≥ pl then n + 1 else n
def newP (T : PT) (m : Nat) (pl : Int) (i : Nat) : Int := if i = m then pl else movN (T.man m).place pl (T.man i).place
/-- Prizes with somebody at another place. -/
def movedP (T : PT) (m : Nat) (pl : Int) : PT := ⟨(List.range T.n).map fun i => { T.man i with place := newP T m pl i }, T.list⟩
theorem moved_n (T : PT) (m : Nat) (pl : Int) : (movedP T m pl).n = T.n := by simp [movedP, PT.n]
theorem moved_man {T : PT} {m i : Nat} {pl : Int} (h : i < T.n) : (movedP T m pl).man i = { T.man i with place := newP T m pl i } := by
  unfold PT.man movedP
  rw [getD_lt (by simpa using h), List.getElem_map, List.getElem_range]
  rfl
theorem newP_rng {T : PT} (hv : VdP T) {m i : Nat} {pl : Int} (hm : m < T.n) (hi : i < T.n) (h1 : 1 ≤ pl) (h2 : pl ≤ T.n) : 1 ≤ newP T m pl i ∧ newP T m pl i ≤ T.n := by
  have g1 := hv.pl m hm
  have g2 := hv.pl i hi
  unfold newP movN
  split
  · exact ⟨h1, h2⟩
  · split
    · omega
    · split <;> omega
theorem newP_inj {T : PT} (hv : VdP T) {m i j : Nat} {pl : Int} (hm : m < T.n) (hi : i < T.n) (hj : j < T.n) (h : newP T m pl i = newP T m pl j) : i = j := by
  have e1 := hv.inj i m hi hm
  have e2 := hv.inj j m hj hm
  have e3 := hv.inj i j hi hj
  unfold newP movN at h
  by_cases a1 : i = m
  · by_cases a2 : j = m
    · omega
    · rw [if_pos a1, if_neg a2] at h
      have : ¬ (T.man j).place = (T.man m).place := fun e => a2 (e2 e)
      split at h
      · omega
      · split at h <;> omega
  · by_cases a2 : j = m
    · rw [if_neg a1, if_pos a2] at h
      have : ¬ (T.man i).place = (T.man m).place := fun e => a1 (e1 e)
      split at h
      · omega
      · split at h <;> omega
    · rw [if_neg a1, if_neg a2] at h
      have b1 : ¬ (T.man j).place = (T.man m).place := fun e => a2 (e2 e)
      have b2 : ¬ (T.man i).place = (T.man m).place := fun e => a1 (e1 e)
      apply e3
      split at h <;> split at h <;> (try split at h) <;> (try split at h) <;> omega
theorem ok_moved {T : PT} (hok : okP T = true) {m : Nat} {pl : Int} (hm : m < T.n) (h1 : 1 ≤ pl) (h2 : pl ≤ T.n) : okP (movedP T m pl) = true := by
  have hv := okP_vd hok
  obtain ⟨g1, g2, _, g4⟩ := okP_iff.1 hok
  rw [okP_iff, moved_n]
  refine ⟨g1, g2, ?_, g4⟩
  rw [okMs_iff]
  refine ⟨fun w hw => ?_, ?_, fun _ _ x hx => by cases hx⟩
  · obtain ⟨i, hi, rfl⟩ := List.mem_map.1 hw
    have hi := List.mem_range.1 hi
    exact ⟨newP_rng hv hm hi h1 h2, hv.cl i hi⟩
  · unfold movedP
    rw [List.pairwise_map]
    refine (List.nodup_range (n := T.n)).imp_of_mem fun {a b} ha hb hab => ?_
    exact fun e => hab (newP_inj hv hm (List.mem_range.1 ha) (List.mem_range.1 hb) e)
end Go.Proofs.Ytfaeokcbfnlgbaa.G

/- Prize: plain: the order with somebody at another place. -/
set_option linter.unusedSimpArgs false
set_option linter.unusedVariables false
set_option maxRecDepth 20000
namespace Go.Proofs.Ytfaeokcbfnlgbaa.G
open Go.V
theorem ord_at {T : PT} {k : Nat} (h : k < (ordP T).length) : (ordP T)[k] = idx T ((k + 1 : Nat) : Int) := by
  have h1 := ord_get (T := T) (k := k) (by rw [← ord_len T]; exact h)
  rw [List.getElem?_eq_getElem h] at h1
  exact Option.some.inj h1
theorem ord_nd {T : PT} (hv : VdP T) : (ordP T).Nodup := by
  unfold ordP
  refine List.pairwise_map.2 ((List.nodup_range (n := T.n)).imp_of_mem fun {a b} ha hb hab e => hab ?_)
  have ha := List.mem_range.1 ha
  have hb := List.mem_range.1 hb
  have h1 := (hv.sur ((a + 1 : Nat) : Int) (by omega) (by omega)).2
  have h2 := (hv.sur ((b + 1 : Nat) : Int) (by omega) (by omega)).2
  rw [e, h2] at h1
  omega
def othL (T : PT) (m : Nat) : List Nat := ordF T fun k => !decide (k = m)
theorem oth_eq {T : PT} (hv : VdP T) {m : Nat} (hm : m < T.n) : othL T m = (ordP T).eraseIdx ((T.man m).place - 1).toNat := by
  have hp := hv.pl m hm
  have hl : ((T.man m).place - 1).toNat < (ordP T).length := by rw [ord_len]; omega
  have hat : (ordP T)[((T.man m).place - 1).toNat] = m := by
    rw [ord_at hl]
    have e : ((((T.man m).place - 1).toNat + 1 : Nat) : Int) = (T.man m).place := by omega
    rw [e]
    obtain ⟨g1, g2⟩ := hv.sur _ hp.1 hp.2
    exact hv.inj _ _ g1 hm g2
  have h1 : othL T m = (ordP T).erase m := by
    rw [(ord_nd hv).erase_eq_filter]
    unfold othL ordF
    congr 1
  rw [h1, List.erase_eq_eraseIdx_of_idxOf]
  conv => lhs; rw [← hat]
  exact (ord_nd hv).idxOf_getElem _ hl
theorem oth_len {T : PT} (hv : VdP T) {m : Nat} (hm : m < T.n) : (othL T m).length = T.n - 1 := by
  have hp := hv.pl m hm
  rw [oth_eq hv hm, List.length_eraseIdx_of_lt (by rw [ord_len]; omega), ord_len]
theorem oth_get {T : PT} (hv : VdP T) {m q : Nat} (hm : m < T.n) (hq : q < T.n - 1) : (othL T m)[q]? = some (idx T (if ((q + 1 : Nat) : Int) < (T.man m).place then ((q + 1 : Nat) : Int) else ((q + 2 : Nat) : Int))) := by
  have hp := hv.pl m hm
  rw [oth_eq hv hm, List.getElem?_eraseIdx]
  by_cases h : ((q + 1 : Nat) : Int) < (T.man m).place
  · rw [if_pos h, if_pos (by omega), ord_get (by omega)]
  · rw [if_neg h, if_neg (by omega), ord_get (by omega)]
/-- The new order: who is at each new place. -/
theorem new_order {T : PT} (hv : VdP T) {m j : Nat} {pl : Nat} (hm : m < T.n) (h1 : 1 ≤ pl) (h2 : pl ≤ T.n) (hj : j < T.n) : ∃ i, i < T.n ∧ (insL (nats (othL T m)) (pl - 1) (m : Int))[j]? = some (i : Int) ∧ newP T m pl i = ((j + 1 : Nat) : Int) := by
  have hlen := oth_len hv hm
  have hnl : (nats (othL T m)).length = T.n - 1 := by unfold nats; rw [List.length_map]; exact hlen
  have hp := hv.pl m hm
  have key : ∀ q : Nat, q < T.n - 1 → ∃ i, i < T.n ∧ (nats (othL T m))[q]? = some (i : Int) ∧ i ≠ m ∧ (T.man i).place = (if ((q + 1 : Nat) : Int) < (T.man m).place then ((q + 1 : Nat) : Int) else ((q + 2 : Nat) : Int)) := by
    intro q hq
    have hg := oth_get hv hm hq
    generalize hk : (if ((q + 1 : Nat) : Int) < (T.man m).place then ((q + 1 : Nat) : Int) else ((q + 2 : Nat) : Int)) = k at *
    have hkr : 1 ≤ k ∧ k ≤ T.n ∧ k ≠ (T.man m).place := by rw [← hk]; split <;> omega
    obtain ⟨g1, g2⟩ := hv.sur k hkr.1 hkr.2.1
    refine ⟨idx T k, g1, ?_, fun e => hkr.2.2 (by rw [← g2, e]), g2⟩
    unfold nats
    rw [List.getElem?_map, hg]; rfl
  rw [insL_at (by omega)]
  by_cases q1 : j < pl - 1
  · obtain ⟨i, g1, g2, g3, g4⟩ := key j (by omega)
    refine ⟨i, g1, by rw [if_pos q1]; exact g2, ?_⟩
    unfold newP movN
    rw [if_neg g3, g4]
    split <;> (try split) <;> (try split) <;> omega
  · by_cases q2 : j = pl - 1
    · refine ⟨m, hm, by rw [if_neg q1, if_pos q2], ?_⟩
      unfold newP
      rw [if_pos rfl]; omega
    · obtain ⟨i, g1, g2, g3, g4⟩ := key (j - 1) (by omega)
      refine ⟨i, g1, by rw [if_neg q1, if_neg q2]; exact g2, ?_⟩
      unfold newP movN
      rw [if_neg g3, g4]
      split <;> (try split) <;> (try split) <;> omega
end Go.Proofs.Ytfaeokcbfnlgbaa.G

/- Prize: For. -/
set_option linter.unusedSimpArgs false
set_option linter.unusedVariables false
set_option maxRecDepth 20000
namespace Go.Proofs.Ytfaeokcbfnlgbaa.G
open Go.V
def getsP (T : PT) (m pl : Nat) : Bool := decide ((m : Int) ∈ manL (dueP (movedP T m (pl : Int))))
def forL (T : PT) (m : Nat) : Nat → Int × Int
  | 0 => (0, 4)
  | k + 1 => if getsP T m (k + 1) then (((k + 1 : Nat) : Int), 0) else forL T m k
def forR (T : PT) (m : Int) : Int × Int := if okP T then (if isM T m then forL T m.toNat T.n else (0, 2)) else (0, 1)
def partL (T : PT) (m : Nat) (pl : Int) (k : Nat) : List Mn := (List.range T.n).map fun i => if newP T m pl i ≤ k then { T.man i with place := newP T m pl i } else T.man i
theorem partL_len (T : PT) (m : Nat) (pl : Int) (k : Nat) : (partL T m pl k).length = T.n := by simp [partL]
theorem partL_get (T : PT) (m : Nat) (pl : Int) (k i : Nat) (h : i < (partL T m pl k).length) : (partL T m pl k)[i] = if newP T m pl i ≤ k then { T.man i with place := newP T m pl i } else T.man i := by simp [partL]
theorem partL_0 {T : PT} (hv : VdP T) {m : Nat} {pl : Int} (hm : m < T.n) (h1 : 1 ≤ pl) (h2 : pl ≤ T.n) : partL T m pl 0 = T.men := by
  refine List.ext_getElem (partL_len T m pl 0) fun i g1 g2 => ?_
  have hr := newP_rng hv hm (i := i) g2 h1 h2
  rw [partL_get, if_neg (by omega)]
  exact getD_lt g2
theorem partL_n {T : PT} (hv : VdP T) {m : Nat} {pl : Int} (hm : m < T.n) (h1 : 1 ≤ pl) (h2 : pl ≤ T.n) : partL T m pl T.n = (movedP T m pl).men := by
  unfold partL movedP
  refine List.map_congr_left fun i hi => ?_
  rw [if_pos (newP_rng hv hm (List.mem_range.1 hi) h1 h2).2]
theorem partL_succ {T : PT} (hv : VdP T) {m i k : Nat} {pl : Int} (hm : m < T.n) (hi : i < T.n) (he : newP T m pl i = ((k + 1 : Nat) : Int)) (hl : i < (partL T m pl k).length) : partL T m pl (k + 1) = (partL T m pl k).set i { (partL T m pl k)[i] with place := ((k + 1 : Nat) : Int) } := by
  refine List.ext_getElem (by rw [List.length_set, partL_len, partL_len]) fun j g1 g2 => ?_
  have hj : j < T.n := by rw [partL_len] at g1; exact g1
  rw [List.getElem_set]
  by_cases e : i = j
  · subst e
    rw [if_pos rfl]
    rw [partL_get, partL_get, he, if_pos (Int.le_refl _), if_neg (by omega)]
  · rw [if_neg e]
    have hne : newP T m pl j ≠ ((k + 1 : Nat) : Int) := fun h => e (newP_inj hv hm hi hj (he.trans h.symm))
    rw [partL_get, partL_get]
    by_cases q : newP T m pl j ≤ k
    · rw [if_pos (by omega), if_pos q]
    · rw [if_neg (by omega), if_neg q]
theorem NEW_mk {t : TypeId} {cs : List Value} {K : Nat → Hp → Prop} {s : Hp} (h : K s.size (s.push (.cells cs.toArray t (0, 0)))) : NEW t cs K s := h
section
variable {W : World} {K : VK} {E : List PanicEntry → Hp → Prop} {s : Hp} {T : PT}
theorem isOther {b : Addr} {m n : Nat} : IsFn W (.func (.func 72) #[] #[.pointer (some b)]) n (fun s => cellAt s b = some (.int .i64 (m : Nat))) (fun k => !decide (k = m)) where
  one := rfl
  blind := fun s l o hl ho h => cell_blind hl h
  ext := fun s s' h e => e.cell h
  call := fun s k hk hR K E h => by
    refine CALLV_func ?_
    refine does_prize_For_c1 W k b _ s ?_
    unfold T_prize_For_c1
    refine ⟨_, hR, ?_⟩
    have := h s (Ext.refl s)
    have e : ((k : Int) != (m : Int)) = !decide (k = m) := by
      by_cases hkm : k = m
      · subst hkm; simp
      · have : ((k : Nat) : Int) ≠ (m : Int) := by omega
        simp [hkm, this]
    show K (.bool ((k : Int) != (m : Int))) s
    rw [e]
    exact this
theorem c_For {x y : Option Addr} {c c' : Nat} {m : Int} (hx : MnAt s x T.men) (hy : PzAt s y T.list) (h : ∀ s', Ext s s' → K (.tuple #[.int .i64 (forR T m).1, .int .i64 (forR T m).2]) s') :
    CALL Pg W F_prize_For [.agg #[.slice x T.n c, .slice y T.z c'], .int .i64 m] K E s := by
  refine does_prize_For W x T.n c y T.z c' m _ s ?_
  unfold T_prize_For
  refine ne2 fun s1 e1 z1 o1 o2 => ?_
  refine ne1 fun s2 e2 z2 om => ?_
  refine nz1 zc_29 fun s3 e3 z3 o3 => ?_
  have e23 := e2.trans e3
  have e03 := e1.trans e23
  refine ⟨_, _, _, e23.cell o1.cell, _, _, _, e23.cell o2.cell, ?_⟩
  have hs1 : s.size ≤ s1.size := e1.1
  refine c_open (hx.ext e03) (hy.ext e03) (fun hok s4 p e4 hp => ?_) (fun hok s4 e4 => ?_)
  · try simp only [TUP_mk, AGG_mk, HD_mk, NL_mk, TYI_mk, TYB_mk, TYP_mk, TYL_mk, TYS_mk, TYM_mk, SO_mk, NX_mk, endK_mk, endK_mk', add_0]
    have e04 := e03.trans e4
    have hv := okP_vd hok
    have h8 := hv.n8
    have h6 := hv.z6
    have hn1 := hv.n1
    refine ⟨_, (e3.trans e4).cell om.cell, ?_⟩
    refine c_isMan hp ?_
    try simp only [TUP_mk, AGG_mk, HD_mk, NL_mk, TYI_mk, TYB_mk, TYP_mk, TYL_mk, TYS_mk, TYM_mk, SO_mk, NX_mk, endK_mk, endK_mk', add_0]
    refine c_must (fun hm => ?_) (fun hm => ?_)
    · try simp only [TUP_mk, AGG_mk, HD_mk, NL_mk, TYI_mk, TYB_mk, TYP_mk, TYL_mk, TYS_mk, TYM_mk, SO_mk, NX_mk, endK_mk, endK_mk', add_0]
      have hM : isM T m = true := hm
      have hm' := of_decide_eq_true hm
      obtain ⟨j, rfl⟩ := Int.eq_ofNat_of_zero_le hm'.1
      have hj : j < T.n := by omega
      have hR : forR T (j : Int) = forL T j T.n := by unfold forR; rw [if_pos hok, if_pos hM, toNat_nat]
      rw [hR] at h
      refine c_order (W := W) (p := p) rfl fun s5 a b e5 ha hb ca cb => ?_
      try simp only [TUP_mk, AGG_mk, HD_mk, NL_mk, TYI_mk, TYB_mk, TYP_mk, TYL_mk, TYS_mk, TYM_mk, SO_mk, NX_mk, endK_mk, endK_mk', add_0]
      refine c_Collect (hp.ext e5) (isOther (b := ⟨s1.size, 0, none⟩) (m := j)) ((e3.trans (e4.trans e5)).cell om.cell) ca cb fun s6 xo co e6 f6 => ?_
      try simp only [TUP_mk, AGG_mk, HD_mk, NL_mk, TYI_mk, TYB_mk, TYP_mk, TYL_mk, TYS_mk, TYM_mk, SO_mk, NX_mk, endK_mk, endK_mk', add_0]
      have e36 := e4.trans (e5.trans e6)
      have e26 := e3.trans e36
      have e16 := e2.trans e26
      have e06 := e1.trans e16
      refine ⟨_, _, _, e16.cell o1.cell, ?_⟩
      have hfo : ordF T (fun k => !decide (k = j)) = othL T j := rfl
      rw [hfo] at f6 ⊢
      have hol := oth_len hv hj
      have hnl : (nats (othL T j)).length = T.n - 1 := by unfold nats; rw [List.length_map]; exact hol
      have hno : (nats (othL T j)).length = (othL T j).length := by unfold nats; rw [List.length_map]
      refine L_prize_For_0_rule W _ ⟨s.size, 0, none⟩ ⟨s1.size, 0, none⟩ ⟨s2.size, 0, none⟩ xo _ co (fun n42 n43 t => n42 = 0 ∧ Ext s6 t ∧ ∃ k : Nat, k ≤ T.n ∧ n43 = k ∧ forL T j T.n = forL T j k) (fun _ n43 _ => n43.toNat) 0 T.n s6 ⟨rfl, Ext.refl _, T.n, Nat.le_refl _, rfl, rfl⟩ ?_
      rintro n42 n43 t ⟨rfl, et, k, hk, rfl, hfl⟩
      unfold B_prize_For_0
      have e1t := e16.trans et
      have e2t := e26.trans et
      have e3t := e36.trans et
      have e0t := e1.trans e1t
      refine BR_dec (fun h1 => ?_) (fun h1 => ?_)
      · obtain ⟨q, rfl⟩ : ∃ q, k = q + 1 := ⟨k - 1, by omega⟩
        have hqn : q < T.n := by omega
        refine ⟨_, _, _, e1t.cell o1.cell, _, _, _, e1t.cell o2.cell, ?_⟩
        refine nw2 zc_25 rfl rfl fun t1 f1 y1 q1 q2 => ?_
        refine ⟨_, _, _, (e1t.trans f1).cell o1.cell, ?_⟩
        generalize hnx : (fun vs => N_prize_For_0 _ _ _ _ t vs) = nx
        have hnx' : ∀ u, Ext s6 u → getsP T j (q + 1) = false → nx [.int .i64 0, .int .i64 (q : Nat)] u := fun u eu hg => by
          rw [← hnx]
          refine ⟨_, _, rfl, ⟨rfl, eu, q, by omega, rfl, ?_⟩, by show (q : Int).toNat < ((q + 1 : Nat) : Int).toNat; omega⟩
          rw [hfl]
          show (if getsP T j (q + 1) then _ else _) = _
          rw [hg]; rfl
        refine c_CloneW (l := T.men) (hx.ext (e0t.trans f1)) (by show 0 < T.n; omega) (by show T.n ≤ 1000; omega) fun t2 a2 ac f2 g2 => ?_
        try simp only [TUP_mk, AGG_mk, HD_mk, NL_mk, TYI_mk, TYB_mk, TYP_mk, TYL_mk, TYS_mk, TYM_mk, SO_mk, NX_mk, endK_mk, endK_mk', add_0]
        have q1' := f2.own q1
        have q2' := f2.own q2
        refine WR_own q1' rfl ?_
        have hda : t1.size ≤ a2.block := g2.fr a2 rfl
        have q1w := own_set (v := .slice (some a2) T.men.length ac) q1'
        have q2w : Own (setC t2 ⟨t.size, 0, none⟩ (.slice (some a2) T.men.length ac)) ⟨t.size, 1, none⟩ (.slice y T.z c') := own_set_ne (.inr (by show (1 : Nat) ≠ 0; omega)) q2'
        have ef : Ext t (setC t2 ⟨t.size, 0, none⟩ (.slice (some a2) T.men.length ac)) := Ext.setC (f1.trans f2) (Nat.le_refl _)
        have g2w : Fr t1.size (setC t2 ⟨t.size, 0, none⟩ (.slice (some a2) T.men.length ac)) (some a2) T.men.length ac 4 (mnV T.men) := g2.kp (D := (· = t.size)) (Kp.setC (Kp.refl _) (.inl rfl)) (fun b hb he => by cases hb; have : a2.block = t.size := he; omega)
        generalize hs9 : setC t2 ⟨t.size, 0, none⟩ (.slice (some a2) T.men.length ac) = t3 at *
        have hmn : T.men.length = T.n := rfl
        rw [hmn] at q1w g2w
        have hpos4 : 0 < (mnV T.men).length := by rw [mnV_len, hmn]; omega
        have ha3 : a2.block < t3.size := by
          obtain ⟨a', h', c0⟩ := g2w.row 0 hpos4
          cases h'
          have := cell_lt c0
          rw [add_blk] at this; exact this
        refine ⟨_, (e2t.trans ef).cell om.cell, ?_⟩
        have hw : IntKind.i64.wrap (((q + 1 : Nat) : Int) - 1) = (q : Nat) := by rw [wrap_i64 (by omega) (by omega)]; omega
        rw [hw]
        have fin : ∀ (u : Hp) (xi : Option Addr) (l ci : Nat), l = T.n → Ext t3 u → (∀ a, xi = some a → t3.size ≤ a.block) → RowAt u xi (ints (insL (nats (othL T j)) q j)) →
            J_prize_For_0 W (endK K E) nx ⟨s.size, 0, none⟩ ⟨s1.size, 0, none⟩ 0 ⟨s2.size, 0, none⟩ xo (othL T j).length co ((q + 1 : Nat) : Int) t.size xi l ci (l : Int) 0 u := by
          intro u xi l ci hl eu hxi hrow
          subst hl
          unfold J_prize_For_0
          refine L_prize_For_1_rule W _ nx ⟨s.size, 0, none⟩ ⟨s1.size, 0, none⟩ 0 ⟨s2.size, 0, none⟩ xo _ co _ ⟨t.size, 0, none⟩ xi T.n ci T.n
            (fun n95 v => Ext t v ∧ Own v ⟨t.size, 0, none⟩ (.slice (some a2) T.n ac) ∧ Own v ⟨t.size, 1, none⟩ (.slice y T.z c') ∧ RowAt v xi (ints (insL (nats (othL T j)) q j)) ∧ ∃ k : Nat, k ≤ T.n ∧ n95 = k ∧ Fr t1.size v (some a2) T.n ac 4 (mnV (partL T j ((q + 1 : Nat) : Int) k)))
            (fun n95 _ => ((T.n : Int) - n95).toNat) 0 u ⟨ef.trans eu, eu.own q1w, eu.own q2w, hrow, 0, by omega, rfl, ?_⟩ ?_
          · rw [partL_0 hv hj (by omega) (by omega)]
            exact g2w.ext eu
          rintro n95 v ⟨ev, p1, p2, prow, k, hk, rfl, hfr⟩
          have e0v := e0t.trans ev
          have e1v := e1t.trans ev
          have e2v := e2t.trans ev
          unfold B_prize_For_1
          refine BR_dec (fun h2 => ?_) (fun h2 => ?_)
          · have hkn : k < T.n := by omega
            obtain ⟨i, hi, hget, hnew⟩ := new_order hv hj (pl := q + 1) (by omega) (by omega) hkn
            have hget' : (insL (nats (othL T j)) q (j : Int))[k]? = some (i : Int) := hget
            obtain ⟨hil, hig⟩ := List.getElem?_eq_some_iff.1 hget'
            obtain ⟨b1, hb1, c1⟩ := row_int prow hil
            rw [getD_lt hil, hig] at c1
            refine IXS_at hb1 hkn ?_
            refine ⟨_, c1, ?_⟩
            refine ⟨_, _, _, p1.cell, ?_⟩
            refine IXS_nat hi ?_
            rw [wrap_succ (by omega)]
            have hi4 : i * 4 < (mnV (partL T j ((q + 1 : Nat) : Int) k)).length := by rw [mnV_len, partL_len]; omega
            have hip : i < (partL T j ((q + 1 : Nat) : Int) k).length := by rw [partL_len]; exact hi
            have hown := hfr.buf.at hi4
            have hset := hfr.buf.set (v := .int .i64 ((k + 1 : Nat) : Int)) hi4
            refine WR_own hown rfl ?_
            have hb6 : (a2.add (i * 4)).block = a2.block := add_blk _ _
            have hne6 : (⟨t.size, 0, none⟩ : Addr).block ≠ (a2.add (i * 4)).block := by rw [hb6]; show t.size ≠ _; omega
            refine ⟨rfl, _, rfl, ⟨Ext.setC ev (by show t.size ≤ (a2.add (i * 4)).block; rw [hb6]; omega), own_set_ne (.inl hne6) p1, own_set_ne (.inl hne6) p2, ?_, k + 1, hkn, rfl, ?_⟩, ?_⟩
            · refine prow.keep (D := (· = a2.block)) (Kp.setC (Kp.refl _) (.inl hb6)) fun a' ha' hb' => ?_
              have := hxi a' ha'
              have hb'' : a'.block = a2.block := hb'
              omega
            · have hmm : mnV (partL T j ((q + 1 : Nat) : Int) (k + 1)) = (mnV (partL T j ((q + 1 : Nat) : Int) k)).set (i * 4) (.int .i64 ((k + 1 : Nat) : Int)) := by
                rw [mnV_set _ _ _ hip, partL_succ hv hj hi hnew hip]
              rw [hmm]
              exact ⟨hset, by rw [List.length_set]; exact hfr.len, hfr.fr, hfr.cap⟩
            · show ((T.n : Int) - ((k + 1 : Nat) : Int)).toNat < ((T.n : Int) - k).toNat
              omega
          · have hkn : k = T.n := by omega
            subst hkn
            rw [partL_n hv hj (by omega) (by omega)] at hfr
            have hokM := ok_moved (pl := ((q + 1 : Nat) : Int)) hok hj (by omega) (by omega)
            have hvM := okP_vd hokM
            have hnM : (movedP T j ((q + 1 : Nat) : Int)).n = T.n := moved_n _ _ _
            have h6M := hvM.z6
            refine ⟨_, _, _, p1.cell, _, _, _, p2.cell, ?_⟩
            refine ⟨_, e2v.cell om.cell, ?_⟩
            dsimp only
            refine (fun hh => by rw [← hnM]; exact hh : CALL Pg W F_prize_open [.agg #[.slice (some a2) (movedP T j ((q + 1 : Nat) : Int)).n ac, .slice y (movedP T j ((q + 1 : Nat) : Int)).z c']] _ _ v → CALL Pg W F_prize_open [.agg #[.slice (some a2) T.n ac, .slice y T.z c']] _ _ v) ?_
            refine c_open (T := movedP T j ((q + 1 : Nat) : Int)) (row_mn hfr.row) (hy.ext e0v) (fun _ v1 p' g1 hp' => ?_) (fun hbad => by rw [hokM] at hbad; cases hbad)
            try simp only [TUP_mk, AGG_mk, HD_mk, NL_mk, TYI_mk, TYB_mk, TYP_mk, TYL_mk, TYS_mk, TYM_mk, SO_mk, NX_mk, endK_mk, endK_mk', add_0]
            refine ANDS_i ⟨_, (e2v.trans g1).cell om.cell, rfl⟩ ?_
            refine c_due hp' fun v2 dx dc g2' h2' => ?_
            try simp only [TUP_mk, AGG_mk, HD_mk, NL_mk, TYI_mk, TYB_mk, TYP_mk, TYL_mk, TYS_mk, TYM_mk, SO_mk, NX_mk, endK_mk, endK_mk', add_0]
            have gv := g1.trans g2'
            refine ANDS_i ⟨_, (e2v.trans gv).cell om.cell, rfl⟩ ?_
            have hdl : (manL (dueP (movedP T j ((q + 1 : Nat) : Int)))).length = (movedP T j ((q + 1 : Nat) : Int)).z := by unfold manL dueP; simp [dueL_len]
            refine c_Contains h2'.row hdl.symm (by omega) ?_
            try simp only [TUP_mk, AGG_mk, HD_mk, NL_mk, TYI_mk, TYB_mk, TYP_mk, TYL_mk, TYS_mk, TYM_mk, SO_mk, NX_mk, endK_mk, endK_mk', add_0]
            have oB := (e3t.trans (ev.trans gv)).own o3
            refine BR_bool (fun hg => ?_) (fun hg => ?_)
            · refine ep_ok oB fun v3 k3 => ?_
              have := h v3 (ext_kp (e0v.trans gv) (by have := e2.1; omega) k3)
              rw [hfl] at this
              have e : forL T j (q + 1) = (((q + 1 : Nat) : Int), 0) := by
                show (if getsP T j (q + 1) then _ else _) = _
                rw [if_pos (show getsP T j (q + 1) = true from hg)]
              rw [e] at this
              exact this
            · rw [hw]
              exact hnx' v2 (et.trans (ev.trans gv)) hg
        have rowm : ∀ u : Hp, Ext t3 u → cellAt u ⟨s1.size, 0, none⟩ = some (.int .i64 (j : Nat)) := fun u eu => (e2t.trans (ef.trans eu)).cell om.cell
        have rowo : ∀ u : Hp, Ext t3 u → RowAt u xo (ints (nats (othL T j))) := fun u eu => f6.row.ext (et.trans (ef.trans eu))
        refine CONJ_two ?_ ?_
        · refine c_CloneI (rowo t3 (Ext.refl _)) hno.symm (by omega) fun u xc cc eu fu => ?_
          try simp only [TUP_mk, AGG_mk, HD_mk, NL_mk, TYI_mk, TYB_mk, TYP_mk, TYL_mk, TYS_mk, TYM_mk, SO_mk, NX_mk, endK_mk, endK_mk', add_0]
          refine ANDS_i ⟨_, rowm u eu, rfl⟩ ?_
          refine NEW_mk ?_
          have ep : Ext u (u.push (.cells #[.int .i64 (j : Nat)] 3 (0, 0))) := Ext.push (Ext.refl _)
          refine c_Insert (lo := t3.size) (m := (j : Nat)) (i := q) (B := u.size) (t := 3) (fu.ext ep) (by have := eu.1; have := ep.1; omega) (by omega) (by omega) (by rw [Array.getElem?_push, if_pos rfl]) (fun a ha hl => ?_) fun u2 xi ci k2 hfx hrow => ?_
          · obtain ⟨a', h', c0⟩ := fu.row 0 (by rw [ints_len]; exact hl)
            rw [ha] at h'; cases h'
            have := cell_lt c0
            rw [add_blk] at this; omega
          · try simp only [TUP_mk, AGG_mk, HD_mk, NL_mk, TYI_mk, TYB_mk, TYP_mk, TYL_mk, TYS_mk, TYM_mk, SO_mk, NX_mk, endK_mk, endK_mk', add_0]
            exact fin u2 xi _ ci (by omega) (kp_nil (eu.trans ep) (fun b hb => hb) k2) hfx hrow
        · refine NEW_mk ?_
          have ep : Ext t3 (t3.push (.cells #[.int .i64 (j : Nat)] 3 (0, 0))) := Ext.push (Ext.refl _)
          have hB : (t3.push (.cells #[.int .i64 (j : Nat)] 3 (0, 0)))[t3.size]? = some (.cells #[.int .i64 (j : Nat)] 3 (0, 0)) := by rw [Array.getElem?_push, if_pos rfl]
          have hsz : (t3.push (.cells #[.int .i64 (j : Nat)] 3 (0, 0))).size = t3.size + 1 := by simp
          show CALL Pg W _ _ _ _ (t3.push (.cells #[.int .i64 (j : Nat)] 3 (0, 0)))
          generalize t3.push (.cells #[.int .i64 (j : Nat)] 3 (0, 0)) = t4 at ep hB hsz
          refine c_CloneI (rowo t4 ep) hno.symm (by omega) fun u xc cc eu fu => ?_
          try simp only [TUP_mk, AGG_mk, HD_mk, NL_mk, TYI_mk, TYB_mk, TYP_mk, TYL_mk, TYS_mk, TYM_mk, SO_mk, NX_mk, endK_mk, endK_mk', add_0]
          refine ANDS_i ⟨_, rowm u (ep.trans eu), rfl⟩ ?_
          refine c_Insert (lo := t4.size) (m := (j : Nat)) (i := q) (B := t3.size) (t := 3) fu eu.1 (by omega) (by omega) ((eu.2 t3.size (by omega)).trans hB) (fun a ha hl => ?_) fun u2 xi ci k2 hfx hrow => ?_
          · have := fu.fr a ha
            omega
          · try simp only [TUP_mk, AGG_mk, HD_mk, NL_mk, TYI_mk, TYB_mk, TYP_mk, TYL_mk, TYS_mk, TYM_mk, SO_mk, NX_mk, endK_mk, endK_mk', add_0]
            exact fin u2 xi _ ci (by omega) (ep.trans (kp_nil eu (fun b hb => hb) k2)) (fun a ha => by have := hfx a ha; omega) hrow
      · have hk0 : k = 0 := by omega
        subst hk0
        refine ep_ok ((e3t).own o3) fun v3 k3 => ?_
        have := h v3 (ext_kp e0t (by have := e2.1; omega) k3)
        rw [hfl] at this
        exact this
    · try simp only [TUP_mk, AGG_mk, HD_mk, NL_mk, TYI_mk, TYB_mk, TYP_mk, TYL_mk, TYS_mk, TYM_mk, SO_mk, NX_mk, endK_mk, endK_mk', add_0]
      refine ep_err (e4.own o3) fun s5 k5 => ?_
      have := h s5 (ext_kp e04 (by have := e2.1; omega) k5)
      unfold forR at this
      have hM : isM T m = false := hm
      rw [if_pos hok, hM] at this
      exact this
  · try simp only [TUP_mk, AGG_mk, HD_mk, NL_mk, TYI_mk, TYB_mk, TYP_mk, TYL_mk, TYS_mk, TYM_mk, SO_mk, NX_mk, endK_mk, endK_mk', add_0]
    refine ep_err (e4.own o3) fun s5 k5 => ?_
    have := h s5 (ext_kp (e03.trans e4) (by have := e2.1; omega) k5)
    unfold forR at this
    rw [hok] at this
    exact this
end
end Go.Proofs.Ytfaeokcbfnlgbaa.G

/- More of the functions' shallow texts, by gen.py. -/
set_option linter.unusedVariables false
set_option maxRecDepth 100000
namespace Go.Proofs.Ytfaeokcbfnlgbaa.G
open Go.V
def an_13 : Nat → Ann := fun b => match b with
  | _ => {}
abbrev rv_13 : List ResultVar := [.tmp 4]
abbrev rs_13 : List Nat := [20, 4]
def T_law13_far (W : World) (x1 : Option Addr) (l2 : Nat) (c3 : Nat) (x4 : Option Addr) (l5 : Nat) (c6 : Nat) (x7 : Option Addr) (l8 : Nat) (c9 : Nat) (R : Ending → Hp → Prop) : Hp → Prop :=
  NEW 25 [(.slice x1 l2 c3), (.slice x4 l5 c6)] fun B10 =>
    RDL (Addr.add ⟨B10, 0, none⟩ 0) fun x11 l12 c13 =>
      BR (decide ((↑l12 : Int) > 40))
        (R (.returned (.bool true)))
        (RDL (Addr.add ⟨B10, 0, none⟩ 1) fun x14 l15 c16 =>
          BR (decide ((↑l15 : Int) > 40))
            (R (.returned (.bool true)))
            (R (.returned (.bool (decide ((↑l8 : Int) > 40))))))
theorem T_law13_far_eq (W : World) (x1 : Option Addr) (l2 : Nat) (c3 : Nat) (x4 : Option Addr) (l5 : Nat) (c6 : Nat) (x7 : Option Addr) (l8 : Nat) (c9 : Nat) (R : Ending → Hp → Prop) : vfun Pg W an_13 Try.f13 [(.agg #[(.slice x1 l2 c3), (.slice x4 l5 c6)]), (.slice x7 l8 c9)] R = T_law13_far W x1 l2 c3 x4 l5 c6 x7 l8 c9 R := by kernel_rfl
theorem does_law13_far (W : World) (x1 : Option Addr) (l2 : Nat) (c3 : Nat) (x4 : Option Addr) (l5 : Nat) (c6 : Nat) (x7 : Option Addr) (l8 : Nat) (c9 : Nat) (R : Ending → Hp → Prop) (s : Hp) (h : T_law13_far W x1 l2 c3 x4 l5 c6 x7 l8 c9 R s) : Does Pg W F_law13_far #[(.agg #[(.slice x1 l2 c3), (.slice x4 l5 c6)]), (.slice x7 l8 c9)] s R :=
  does_of_vfun Pg W an_13 Try.func13 rfl (by kernel_rfl) (by rw [T_law13_far_eq]; exact h)
def an_41 : Nat → Ann := fun b => match b with
  | _ => {}
abbrev rv_41 : List ResultVar := [.cell 0 25]
abbrev rs_41 : List Nat := [14, 0]
def T_law13_sample (W : World) (R : Ending → Hp → Prop) : Hp → Prop :=
  NEWZ Pg 25 fun B1 =>
    NEW 48 [(.int .i64 2), (.int .i64 1), (.bool false), (.bool false), (.int .i64 1), (.int .i64 2), (.bool false), (.bool false), (.int .i64 3), (.int .i64 1), (.bool true), (.bool false), (.int .i64 5), (.int .i64 0), (.bool true), (.bool true), (.int .i64 4), (.int .i64 2), (.bool false), (.bool true)] fun B2 =>
      NEW 50 [(.int .i64 0), (.int .i64 100), (.int .i64 1), (.int .i64 50), (.int .i64 4), (.int .i64 80), (.int .i64 2), (.int .i64 40), (.int .i64 3), (.int .i64 20)] fun B3 =>
        WR (Addr.add ⟨B1, 0, none⟩ 0) (.slice (some ⟨B2, 0, none⟩) 5 5) <|
          WR (Addr.add ⟨B1, 0, none⟩ 1) (.slice (some ⟨B3, 0, none⟩) 5 5) <|
            RDL (Addr.add ⟨B1, 0, none⟩ 0) fun x4 l5 c6 =>
              RDL (Addr.add ⟨B1, 0, none⟩ 1) fun x7 l8 c9 =>
                R (.returned (.agg #[(.slice x4 l5 c6), (.slice x7 l8 c9)]))
theorem T_law13_sample_eq (W : World) (R : Ending → Hp → Prop) : vfun Pg W an_41 Try.f41 [] R = T_law13_sample W R := by kernel_rfl
theorem does_law13_sample (W : World) (R : Ending → Hp → Prop) (s : Hp) (h : T_law13_sample W R s) : Does Pg W F_law13_sample #[] s R :=
  does_of_vfun Pg W an_41 Try.func41 rfl (by kernel_rfl) (by rw [T_law13_sample_eq]; exact h)
end Go.Proofs.Ytfaeokcbfnlgbaa.G

/- More of the functions' shallow texts, by gen.py. -/
set_option linter.unusedVariables false
set_option maxRecDepth 100000
namespace Go.Proofs.Ytfaeokcbfnlgbaa.G
open Go.V
def an_14 : Nat → Ann := fun b => match b with
  | _ => {}
abbrev rv_14 : List ResultVar := [.tmp 0]
abbrev rs_14 : List Nat := [147, 0]
def J_law13_awake_0 (W : World) (R : Ending → Hp → Prop) (b212 : Bool) (n151 : Int) (n170 : Int) (n173 : Int) (n192 : Int) (n195 : Int) : Hp → Prop :=
  BR b212
    (BR (n151 == 0)
      (BR (n170 == 24)
        (BR (n173 == 0)
          (BR (n192 == 3)
            (R (.returned (.bool (n195 == 0))))
            (R (.returned (.bool false))))
          (R (.returned (.bool false))))
        (R (.returned (.bool false))))
      (R (.returned (.bool false))))
    (R (.returned (.bool false)))
def J_law13_awake_1 (W : World) (R : Ending → Hp → Prop) (b207 : Bool) (n143 : Int) (x146 : Option Addr) (l147 : Nat) (c148 : Nat) (n151 : Int) (n170 : Int) (n173 : Int) (n192 : Int) (n195 : Int) : Hp → Prop :=
  BR b207
    (R (.returned (.bool false)))
    (BR (n143 == 5)
      (NEW 3 [(.int .i64 0), (.int .i64 2), (.int .i64 1), (.int .i64 4), (.int .i64 3)] fun B208 =>
        CALL Pg W F_ref13_Ints [(.slice x146 l147 c148), (.slice (some ⟨B208, 0, none⟩) 5 5)]
          (fun v209 => TYB v209 fun b211 =>
            J_law13_awake_0 W R b211 n151 n170 n173 n192 n195)
            (fun e210 => R (.panicked e210)))
      (J_law13_awake_0 W R false n151 n170 n173 n192 n195))
def J_law13_awake_2 (W : World) (R : Ending → Hp → Prop) (b206 : Bool) (n143 : Int) (x146 : Option Addr) (l147 : Nat) (c148 : Nat) (n151 : Int) (n170 : Int) (n173 : Int) (n192 : Int) (n195 : Int) (n124 : Int) : Hp → Prop :=
  BR b206
    (J_law13_awake_1 W R true n143 x146 l147 c148 n151 n170 n173 n192 n195)
    (J_law13_awake_1 W R (n124 != 0) n143 x146 l147 c148 n151 n170 n173 n192 n195)
def J_law13_awake_3 (W : World) (R : Ending → Hp → Prop) (b205 : Bool) (n143 : Int) (x146 : Option Addr) (l147 : Nat) (c148 : Nat) (n151 : Int) (n170 : Int) (n173 : Int) (n192 : Int) (n195 : Int) (n124 : Int) (n121 : Int) : Hp → Prop :=
  BR b205
    (J_law13_awake_2 W R true n143 x146 l147 c148 n151 n170 n173 n192 n195 n124)
    (J_law13_awake_2 W R (n121 != 290) n143 x146 l147 c148 n151 n170 n173 n192 n195 n124)
def J_law13_awake_4 (W : World) (R : Ending → Hp → Prop) (b204 : Bool) (n143 : Int) (x146 : Option Addr) (l147 : Nat) (c148 : Nat) (n151 : Int) (n170 : Int) (n173 : Int) (n192 : Int) (n195 : Int) (n124 : Int) (n121 : Int) (x116 : Option Addr) (l117 : Nat) (c118 : Nat) : Hp → Prop :=
  BR b204
    (J_law13_awake_3 W R true n143 x146 l147 c148 n151 n170 n173 n192 n195 n124 n121)
    (NEW 3 [(.int .i64 80), (.int .i64 100), (.int .i64 50), (.int .i64 20), (.int .i64 40)] fun B213 =>
      CALL Pg W F_ref13_Ints [(.slice x116 l117 c118), (.slice (some ⟨B213, 0, none⟩) 5 5)]
        (fun v214 => TYB v214 fun b216 =>
          J_law13_awake_3 W R (!b216) n143 x146 l147 c148 n151 n170 n173 n192 n195 n124 n121)
          (fun e215 => R (.panicked e215)))
def J_law13_awake_5 (W : World) (R : Ending → Hp → Prop) (b203 : Bool) (n143 : Int) (x146 : Option Addr) (l147 : Nat) (c148 : Nat) (n151 : Int) (n170 : Int) (n173 : Int) (n192 : Int) (n195 : Int) (n124 : Int) (n121 : Int) (x116 : Option Addr) (l117 : Nat) (c118 : Nat) (n97 : Int) : Hp → Prop :=
  BR b203
    (J_law13_awake_4 W R true n143 x146 l147 c148 n151 n170 n173 n192 n195 n124 n121 x116 l117 c118)
    (J_law13_awake_4 W R (n97 != 0) n143 x146 l147 c148 n151 n170 n173 n192 n195 n124 n121 x116 l117 c118)
def J_law13_awake_6 (W : World) (R : Ending → Hp → Prop) (b202 : Bool) (n143 : Int) (x146 : Option Addr) (l147 : Nat) (c148 : Nat) (n151 : Int) (n170 : Int) (n173 : Int) (n192 : Int) (n195 : Int) (n124 : Int) (n121 : Int) (x116 : Option Addr) (l117 : Nat) (c118 : Nat) (n97 : Int) (n94 : Int) : Hp → Prop :=
  BR b202
    (J_law13_awake_5 W R true n143 x146 l147 c148 n151 n170 n173 n192 n195 n124 n121 x116 l117 c118 n97)
    (J_law13_awake_5 W R (n94 != 5) n143 x146 l147 c148 n151 n170 n173 n192 n195 n124 n121 x116 l117 c118 n97)
def J_law13_awake_7 (W : World) (R : Ending → Hp → Prop) (b201 : Bool) (n143 : Int) (x146 : Option Addr) (l147 : Nat) (c148 : Nat) (n151 : Int) (n170 : Int) (n173 : Int) (n192 : Int) (n195 : Int) (n124 : Int) (n121 : Int) (x116 : Option Addr) (l117 : Nat) (c118 : Nat) (n97 : Int) (n94 : Int) (n91 : Int) : Hp → Prop :=
  BR b201
    (J_law13_awake_6 W R true n143 x146 l147 c148 n151 n170 n173 n192 n195 n124 n121 x116 l117 c118 n97 n94)
    (J_law13_awake_6 W R (n91 != 1) n143 x146 l147 c148 n151 n170 n173 n192 n195 n124 n121 x116 l117 c118 n97 n94)
def J_law13_awake_8 (W : World) (R : Ending → Hp → Prop) (b200 : Bool) (n143 : Int) (x146 : Option Addr) (l147 : Nat) (c148 : Nat) (n151 : Int) (n170 : Int) (n173 : Int) (n192 : Int) (n195 : Int) (n124 : Int) (n121 : Int) (x116 : Option Addr) (l117 : Nat) (c118 : Nat) (n97 : Int) (n94 : Int) (n91 : Int) (n72 : Int) : Hp → Prop :=
  BR b200
    (J_law13_awake_7 W R true n143 x146 l147 c148 n151 n170 n173 n192 n195 n124 n121 x116 l117 c118 n97 n94 n91)
    (J_law13_awake_7 W R (n72 != 0) n143 x146 l147 c148 n151 n170 n173 n192 n195 n124 n121 x116 l117 c118 n97 n94 n91)
def J_law13_awake_9 (W : World) (R : Ending → Hp → Prop) (b199 : Bool) (n143 : Int) (x146 : Option Addr) (l147 : Nat) (c148 : Nat) (n151 : Int) (n170 : Int) (n173 : Int) (n192 : Int) (n195 : Int) (n124 : Int) (n121 : Int) (x116 : Option Addr) (l117 : Nat) (c118 : Nat) (n97 : Int) (n94 : Int) (n91 : Int) (n72 : Int) (n69 : Int) : Hp → Prop :=
  BR b199
    (J_law13_awake_8 W R true n143 x146 l147 c148 n151 n170 n173 n192 n195 n124 n121 x116 l117 c118 n97 n94 n91 n72)
    (J_law13_awake_8 W R (n69 != 3) n143 x146 l147 c148 n151 n170 n173 n192 n195 n124 n121 x116 l117 c118 n97 n94 n91 n72)
def J_law13_awake_10 (W : World) (R : Ending → Hp → Prop) (b198 : Bool) (n143 : Int) (x146 : Option Addr) (l147 : Nat) (c148 : Nat) (n151 : Int) (n170 : Int) (n173 : Int) (n192 : Int) (n195 : Int) (n124 : Int) (n121 : Int) (x116 : Option Addr) (l117 : Nat) (c118 : Nat) (n97 : Int) (n94 : Int) (n91 : Int) (n72 : Int) (n69 : Int) (n66 : Int) : Hp → Prop :=
  BR b198
    (J_law13_awake_9 W R true n143 x146 l147 c148 n151 n170 n173 n192 n195 n124 n121 x116 l117 c118 n97 n94 n91 n72 n69)
    (J_law13_awake_9 W R (n66 != 4) n143 x146 l147 c148 n151 n170 n173 n192 n195 n124 n121 x116 l117 c118 n97 n94 n91 n72 n69)
def J_law13_awake_11 (W : World) (R : Ending → Hp → Prop) (b197 : Bool) (n143 : Int) (x146 : Option Addr) (l147 : Nat) (c148 : Nat) (n151 : Int) (n170 : Int) (n173 : Int) (n192 : Int) (n195 : Int) (n124 : Int) (n121 : Int) (x116 : Option Addr) (l117 : Nat) (c118 : Nat) (n97 : Int) (n94 : Int) (n91 : Int) (n72 : Int) (n69 : Int) (n66 : Int) (n46 : Int) : Hp → Prop :=
  BR b197
    (J_law13_awake_10 W R true n143 x146 l147 c148 n151 n170 n173 n192 n195 n124 n121 x116 l117 c118 n97 n94 n91 n72 n69 n66)
    (J_law13_awake_10 W R (n46 != 0) n143 x146 l147 c148 n151 n170 n173 n192 n195 n124 n121 x116 l117 c118 n97 n94 n91 n72 n69 n66)
def J_law13_awake_12 (W : World) (R : Ending → Hp → Prop) (b196 : Bool) (n143 : Int) (x146 : Option Addr) (l147 : Nat) (c148 : Nat) (n151 : Int) (n170 : Int) (n173 : Int) (n192 : Int) (n195 : Int) (n124 : Int) (n121 : Int) (x116 : Option Addr) (l117 : Nat) (c118 : Nat) (n97 : Int) (n94 : Int) (n91 : Int) (n72 : Int) (n69 : Int) (n66 : Int) (n46 : Int) (x41 : Option Addr) (l42 : Nat) (c43 : Nat) : Hp → Prop :=
  BR b196
    (J_law13_awake_11 W R true n143 x146 l147 c148 n151 n170 n173 n192 n195 n124 n121 x116 l117 c118 n97 n94 n91 n72 n69 n66 n46)
    (NEW 3 [(.int .i64 1), (.int .i64 2), (.int .i64 0), (.int .i64 4), (.int .i64 3)] fun B217 =>
      CALL Pg W F_ref13_Ints [(.slice x41 l42 c43), (.slice (some ⟨B217, 0, none⟩) 5 5)]
        (fun v218 => TYB v218 fun b220 =>
          J_law13_awake_11 W R (!b220) n143 x146 l147 c148 n151 n170 n173 n192 n195 n124 n121 x116 l117 c118 n97 n94 n91 n72 n69 n66 n46)
          (fun e219 => R (.panicked e219)))
def T_law13_awake (W : World) (R : Ending → Hp → Prop) : Hp → Prop :=
  CALL Pg W F_law13_sample []
    (fun v1 => AGG v1 fun q3 => HD q3 fun v4 r5 => TYL v4 fun x6 l7 c8 =>
      HD r5 fun v9 r10 => TYL v9 fun x11 l12 c13 =>
        NL r10 <|
          CALL Pg W F_prize_Can [(.agg #[(.slice x6 l7 c8), (.slice x11 l12 c13)]), (.int .i64 3), (.int .i64 2)]
            (fun v14 => TUP v14 fun q16 => HD q16 fun v17 r18 => TYB v17 fun b19 =>
              HD r18 fun v20 r21 => TYI .i64 v20 fun n22 =>
                NL r21 <|
                  CALL Pg W F_law13_sample []
                    (fun v23 => AGG v23 fun q25 => HD q25 fun v26 r27 => TYL v26 fun x28 l29 c30 =>
                      HD r27 fun v31 r32 => TYL v31 fun x33 l34 c35 =>
                        NL r32 <|
                          CALL Pg W F_prize_Due [(.agg #[(.slice x28 l29 c30), (.slice x33 l34 c35)])]
                            (fun v36 => TUP v36 fun q38 => HD q38 fun v39 r40 => TYL v39 fun x41 l42 c43 =>
                              HD r40 fun v44 r45 => TYI .i64 v44 fun n46 =>
                                NL r45 <|
                                  CALL Pg W F_law13_sample []
                                    (fun v47 => AGG v47 fun q49 => HD q49 fun v50 r51 => TYL v50 fun x52 l53 c54 =>
                                      HD r51 fun v55 r56 => TYL v55 fun x57 l58 c59 =>
                                        NL r56 <|
                                          NEW 3 [(.int .i64 1), (.int .i64 2), (.int .i64 0), (.int .i64 4), (.int .i64 (-1))] fun B60 =>
                                            CALL Pg W F_prize_Wrong [(.agg #[(.slice x52 l53 c54), (.slice x57 l58 c59)]), (.slice (some ⟨B60, 0, none⟩) 5 5)]
                                              (fun v61 => TUP v61 fun q63 => HD q63 fun v64 r65 => TYI .i64 v64 fun n66 =>
                                                HD r65 fun v67 r68 => TYI .i64 v67 fun n69 =>
                                                  HD r68 fun v70 r71 => TYI .i64 v70 fun n72 =>
                                                    NL r71 <|
                                                      CALL Pg W F_law13_sample []
                                                        (fun v73 => AGG v73 fun q75 => HD q75 fun v76 r77 => TYL v76 fun x78 l79 c80 =>
                                                          HD r77 fun v81 r82 => TYL v81 fun x83 l84 c85 =>
                                                            NL r82 <|
                                                              CALL Pg W F_prize_Club [(.agg #[(.slice x78 l79 c80), (.slice x83 l84 c85)])]
                                                                (fun v86 => TUP v86 fun q88 => HD q88 fun v89 r90 => TYI .i64 v89 fun n91 =>
                                                                  HD r90 fun v92 r93 => TYI .i64 v92 fun n94 =>
                                                                    HD r93 fun v95 r96 => TYI .i64 v95 fun n97 =>
                                                                      NL r96 <|
                                                                        CALL Pg W F_law13_sample []
                                                                          (fun v98 => AGG v98 fun q100 => HD q100 fun v101 r102 => TYL v101 fun x103 l104 c105 =>
                                                                            HD r102 fun v106 r107 => TYL v106 fun x108 l109 c110 =>
                                                                              NL r107 <|
                                                                                CALL Pg W F_prize_Worth [(.agg #[(.slice x103 l104 c105), (.slice x108 l109 c110)]), (.slice x41 l42 c43)]
                                                                                  (fun v111 => TUP v111 fun q113 => HD q113 fun v114 r115 => TYL v114 fun x116 l117 c118 =>
                                                                                    HD r115 fun v119 r120 => TYI .i64 v119 fun n121 =>
                                                                                      HD r120 fun v122 r123 => TYI .i64 v122 fun n124 =>
                                                                                        NL r123 <|
                                                                                          CALL Pg W F_law13_sample []
                                                                                            (fun v125 => AGG v125 fun q127 => HD q127 fun v128 r129 => TYL v128 fun x130 l131 c132 =>
                                                                                              HD r129 fun v133 r134 => TYL v133 fun x135 l136 c137 =>
                                                                                                NL r134 <|
                                                                                                  CALL Pg W F_prize_Most [(.agg #[(.slice x130 l131 c132), (.slice x135 l136 c137)])]
                                                                                                    (fun v138 => TUP v138 fun q140 => HD q140 fun v141 r142 => TYI .i64 v141 fun n143 =>
                                                                                                      HD r142 fun v144 r145 => TYL v144 fun x146 l147 c148 =>
                                                                                                        HD r145 fun v149 r150 => TYI .i64 v149 fun n151 =>
                                                                                                          NL r150 <|
                                                                                                            CALL Pg W F_law13_sample []
                                                                                                              (fun v152 => AGG v152 fun q154 => HD q154 fun v155 r156 => TYL v155 fun x157 l158 c159 =>
                                                                                                                HD r156 fun v160 r161 => TYL v160 fun x162 l163 c164 =>
                                                                                                                  NL r161 <|
                                                                                                                    CALL Pg W F_prize_Stay [(.agg #[(.slice x157 l158 c159), (.slice x162 l163 c164)]), (.int .i64 0)]
                                                                                                                      (fun v165 => TUP v165 fun q167 => HD q167 fun v168 r169 => TYI .i64 v168 fun n170 =>
                                                                                                                        HD r169 fun v171 r172 => TYI .i64 v171 fun n173 =>
                                                                                                                          NL r172 <|
                                                                                                                            CALL Pg W F_law13_sample []
                                                                                                                              (fun v174 => AGG v174 fun q176 => HD q176 fun v177 r178 => TYL v177 fun x179 l180 c181 =>
                                                                                                                                HD r178 fun v182 r183 => TYL v182 fun x184 l185 c186 =>
                                                                                                                                  NL r183 <|
                                                                                                                                    CALL Pg W F_prize_For [(.agg #[(.slice x179 l180 c181), (.slice x184 l185 c186)]), (.int .i64 0)]
                                                                                                                                      (fun v187 => TUP v187 fun q189 => HD q189 fun v190 r191 => TYI .i64 v190 fun n192 =>
                                                                                                                                        HD r191 fun v193 r194 => TYI .i64 v193 fun n195 =>
                                                                                                                                          NL r194 <|
                                                                                                                                            BR b19
                                                                                                                                              (J_law13_awake_12 W R true n143 x146 l147 c148 n151 n170 n173 n192 n195 n124 n121 x116 l117 c118 n97 n94 n91 n72 n69 n66 n46 x41 l42 c43)
                                                                                                                                              (J_law13_awake_12 W R (n22 != 0) n143 x146 l147 c148 n151 n170 n173 n192 n195 n124 n121 x116 l117 c118 n97 n94 n91 n72 n69 n66 n46 x41 l42 c43))
                                                                                                                                        (fun e188 => R (.panicked e188)))
                                                                                                                                (fun e175 => R (.panicked e175)))
                                                                                                                        (fun e166 => R (.panicked e166)))
                                                                                                                (fun e153 => R (.panicked e153)))
                                                                                                      (fun e139 => R (.panicked e139)))
                                                                                              (fun e126 => R (.panicked e126)))
                                                                                    (fun e112 => R (.panicked e112)))
                                                                            (fun e99 => R (.panicked e99)))
                                                                  (fun e87 => R (.panicked e87)))
                                                          (fun e74 => R (.panicked e74)))
                                                (fun e62 => R (.panicked e62)))
                                      (fun e48 => R (.panicked e48)))
                              (fun e37 => R (.panicked e37)))
                      (fun e24 => R (.panicked e24)))
              (fun e15 => R (.panicked e15)))
      (fun e2 => R (.panicked e2))
theorem T_law13_awake_eq (W : World) (R : Ending → Hp → Prop) : vfun Pg W an_14 Try.f14 [] R = T_law13_awake W R := by kernel_rfl
theorem does_law13_awake (W : World) (R : Ending → Hp → Prop) (s : Hp) (h : T_law13_awake W R s) : Does Pg W F_law13_awake #[] s R :=
  does_of_vfun Pg W an_14 Try.func14 rfl (by kernel_rfl) (by rw [T_law13_awake_eq]; exact h)
end Go.Proofs.Ytfaeokcbfnlgbaa.G

/- Prize: what the document fixes. -/
set_option linter.unusedSimpArgs false
set_option linter.unusedVariables false
set_option maxRecDepth 20000
namespace Go.Proofs.Ytfaeokcbfnlgbaa.G
open Go.V
def pz2 (m : Pz) : List Value := [.int .i64 m.kind, .int .i64 m.worth]
def pzV (l : List Pz) : List Value := l.flatMap pz2
theorem pzV_len : ∀ l : List Pz, (pzV l).length = l.length * 2
  | [] => rfl
  | x :: l => by
    have ih := pzV_len l
    show (pz2 x ++ pzV l).length = _
    rw [List.length_append, ih, List.length_cons]
    show 2 + _ = _
    omega
theorem pzV_one (l : List Pz) : ∀ v ∈ pzV l, oneCell v = true := by
  intro v hv
  obtain ⟨m, _, h⟩ := List.mem_flatMap.1 hv
  simp [pz2] at h
  rcases h with rfl | rfl <;> rfl
theorem pzV_get : ∀ (l : List Pz) (k : Nat) (h : k < l.length), (pzV l)[k * 2]? = some (.int .i64 l[k].kind) ∧ (pzV l)[k * 2 + 1]? = some (.int .i64 l[k].worth)
  | [], k, h => by simp at h
  | x :: l, 0, h => ⟨rfl, rfl⟩
  | x :: l, k + 1, h => by
    obtain ⟨h1, h2⟩ := pzV_get l k (by simpa using h)
    have e : ∀ j : Nat, (pzV (x :: l))[2 + j]? = (pzV l)[j]? := fun j => by
      show (pz2 x ++ pzV l)[2 + j]? = _
      rw [List.getElem?_append_right (show (pz2 x).length ≤ 2 + j by show 2 ≤ _; omega)]
      congr 1
      show 2 + j - 2 = j
      omega
    refine ⟨?_, ?_⟩
    · rw [show (k + 1) * 2 = 2 + k * 2 by omega, e, h1]; rfl
    · rw [show (k + 1) * 2 + 1 = 2 + (k * 2 + 1) by omega, e, h2]; rfl
theorem row_pz {s : Hp} {x : Option Addr} {l : List Pz} (h : RowAt s x (pzV l)) : PzAt s x l := fun i hi => by
  obtain ⟨g1, g2⟩ := pzV_get l i hi
  obtain ⟨a, h0, h1⟩ := row_get h g1
  obtain ⟨b, k0, h2⟩ := row_get h g2
  rw [h0] at k0; cases k0
  exact ⟨a, h0, by rw [addr_add]; exact h1, by rw [addr_add]; exact h2⟩
theorem pz_row' {s : Hp} {x : Option Addr} {l : List Pz} (h : PzAt s x l) : RowAt s x (pzV l) := fun i hi => by
  have hi' := hi
  rw [pzV_len] at hi'
  have hk : i / 2 < l.length := by omega
  obtain ⟨a, h0, h1, h2⟩ := h (i / 2) hk
  obtain ⟨g1, g2⟩ := pzV_get l (i / 2) hk
  refine ⟨a, h0, ?_⟩
  rw [Nat.mul_one]
  rcases Nat.mod_two_eq_zero_or_one i with e | e
  · have e' : i / 2 * 2 = i := by omega
    rw [addr_add] at h1
    simp only [e', Nat.add_zero] at h1 g1
    rw [h1, ← g1, List.getElem?_eq_getElem hi]
  · have e' : i / 2 * 2 + 1 = i := by omega
    rw [addr_add] at h2
    simp only [e'] at h2 g2
    rw [h2, ← g2, List.getElem?_eq_getElem hi]
/-- The prizes of the document's examples. -/
def SP : PT := ⟨[⟨2, 1, false, false⟩, ⟨1, 2, false, false⟩, ⟨3, 1, true, false⟩, ⟨5, 0, true, true⟩, ⟨4, 2, false, true⟩], [⟨0, 100⟩, ⟨1, 50⟩, ⟨4, 80⟩, ⟨2, 40⟩, ⟨3, 20⟩]⟩
theorem sp_can : canR SP 3 2 = (false, 0) := by decide +kernel
theorem sp_due : dueR SP = ([1, 2, 0, 4, 3], 0) := by decide +kernel
theorem sp_wrong : wrongR SP [1, 2, 0, 4, -1] = (4, 3, 0) := by decide +kernel
theorem sp_club : clubR SP = (1, 5, 0) := by decide +kernel
theorem sp_worth : worthR SP [1, 2, 0, 4, 3] = ([80, 100, 50, 20, 40], 290, 0) := by decide +kernel
theorem sp_most : mostR SP = (5, [0, 2, 1, 4, 3], 0) := by decide +kernel
theorem sp_stay : stayR SP 0 = (24, 0) := by decide +kernel
theorem sp_for : forR SP 0 = (3, 0) := by decide +kernel
section
variable {W : World} {K : VK} {E : List PanicEntry → Hp → Prop} {s : Hp} {T : PT}
theorem c_far {x y q : Option Addr} {c c' l cq : Nat} (h : ∀ s' b, Ext s s' → (b = false → T.n ≤ 40 ∧ T.z ≤ 40 ∧ l ≤ 40) → K (.bool b) s') :
    CALL Pg W F_law13_far [.agg #[.slice x T.n c, .slice y T.z c'], .slice q l cq] K E s := by
  refine does_law13_far W x T.n c y T.z c' q l cq _ s ?_
  unfold T_law13_far
  refine ne2 fun s1 e1 z1 o1 o2 => ?_
  refine ⟨_, _, _, o1.cell, ?_⟩
  refine BR_dec (fun h1 => h s1 true e1 (fun hh => by cases hh)) (fun h1 => ?_)
  refine ⟨_, _, _, o2.cell, ?_⟩
  refine BR_dec (fun h2 => h s1 true e1 (fun hh => by cases hh)) (fun h2 => ?_)
  exact h s1 _ e1 (fun hh => by have := of_decide_eq_false hh; omega)
theorem wr2 {a : Addr} {v0 v1 : Value} {K : Hp → Prop} (h0 : oneCell v0 = true) (h1 : oneCell v1 = true) (ha : ∀ j, j < 2 → ∃ y, Own s (a.add j) y) (h : ∀ s', Kp (· = a.block) s s' → s'.size = s.size → Own s' (a.add 0) v0 → Own s' (a.add 1) v1 → K s') :
    (WR (a.add 0) v0 <| WR (a.add 1) v1 <| K) s := by
  show wrN [v0, v1] a 0 K s
  refine wrN_rule _ a 0 K s (fun i hi => ?_) ?_ ?_
  · rw [Nat.zero_add]; exact ha i hi
  · intro w hw
    simp at hw
    rcases hw with rfl | rfl <;> assumption
  · intro s' k z ho _
    exact h s' k z (ho 0 (by simp)) (ho 1 (by simp))
theorem c_sample (h : ∀ s' x y, Ext s s' → MnAt s' x SP.men → PzAt s' y SP.list → K (.agg #[.slice x 5 5, .slice y 5 5]) s') : CALL Pg W F_law13_sample [] K E s := by
  refine does_law13_sample W _ s ?_
  unfold T_law13_sample
  refine nz2 zc_25 fun s1 e1 z1 q1 q2 => ?_
  refine NEW_rule fun s2 e2 z2 n2 _ => ?_
  refine NEW_rule fun s3 e3 z3 n3 _ => ?_
  have e13 := e2.trans e3
  have hs12 : s.size < s1.size := by omega
  refine wr2 (a := ⟨s.size, 0, none⟩) rfl rfl (fun j hj => ?_) fun t k z o0 o1 => ?_
  · match j, hj with
    | 0, _ => exact ⟨_, e13.own q1⟩
    | 1, _ => exact ⟨_, e13.own q2⟩
  · refine ⟨_, _, _, o0.cell, _, _, _, o1.cell, ?_⟩
    refine h t _ _ (ext_kp (e1.trans e13) (Nat.le_refl _) k) (row_mn ?_) (row_pz ?_)
    · exact ((row_new (vs := mnV SP.men) n2).ext e3).keep k (fun a ha => by cases ha; show ¬ s1.size = s.size; omega)
    · exact (row_new (vs := pzV SP.list) n3).keep k (fun a ha => by cases ha; show ¬ s2.size = s.size; have := e2.1; omega)
theorem x_Can {x y : Option Addr} {c c' : Nat} (hx : MnAt s x SP.men) (hy : PzAt s y SP.list) (h : ∀ s', Ext s s' → K (.tuple #[.bool false, .int .i64 0]) s') : CALL Pg W F_prize_Can [.agg #[.slice x 5 c, .slice y 5 c'], .int .i64 3, .int .i64 2] K E s :=
  c_Can (T := SP) (m := 3) (z := 2) hx hy (by rw [sp_can]; exact h)
theorem x_Due {x y : Option Addr} {c c' : Nat} (hx : MnAt s x SP.men) (hy : PzAt s y SP.list) (h : ∀ s' q cq, Ext s s' → RowAt s' q (ints [1, 2, 0, 4, 3]) → K (.tuple #[.slice q 5 cq, .int .i64 0]) s') : CALL Pg W F_prize_Due [.agg #[.slice x 5 c, .slice y 5 c']] K E s :=
  c_Due (T := SP) hx hy (by rw [sp_due]; exact fun s' q cq e f => h s' q cq e f.row)
theorem x_Wrong {x y q : Option Addr} {c c' cq : Nat} (hx : MnAt s x SP.men) (hy : PzAt s y SP.list) (hq : RowAt s q (ints [1, 2, 0, 4, -1])) (h : ∀ s', Ext s s' → K (.tuple #[.int .i64 4, .int .i64 3, .int .i64 0]) s') : CALL Pg W F_prize_Wrong [.agg #[.slice x 5 c, .slice y 5 c'], .slice q 5 cq] K E s :=
  c_Wrong (T := SP) (ds := [1, 2, 0, 4, -1]) hx hy hq (by rw [sp_wrong]; exact h)
theorem x_Club {x y : Option Addr} {c c' : Nat} (hx : MnAt s x SP.men) (hy : PzAt s y SP.list) (h : ∀ s', Ext s s' → K (.tuple #[.int .i64 1, .int .i64 5, .int .i64 0]) s') : CALL Pg W F_prize_Club [.agg #[.slice x 5 c, .slice y 5 c']] K E s :=
  c_Club (T := SP) hx hy (by rw [sp_club]; exact h)
theorem x_Worth {x y q : Option Addr} {c c' cq : Nat} (hx : MnAt s x SP.men) (hy : PzAt s y SP.list) (hq : RowAt s q (ints [1, 2, 0, 4, 3])) (h : ∀ s' w cw, Ext s s' → RowAt s' w (ints [80, 100, 50, 20, 40]) → K (.tuple #[.slice w 5 cw, .int .i64 290, .int .i64 0]) s') : CALL Pg W F_prize_Worth [.agg #[.slice x 5 c, .slice y 5 c'], .slice q 5 cq] K E s :=
  c_Worth (T := SP) (ds := [1, 2, 0, 4, 3]) hx hy hq (by rw [sp_worth]; exact fun s' w cw e f => h s' w cw e f.row)
theorem x_Most {x y : Option Addr} {c c' : Nat} (hx : MnAt s x SP.men) (hy : PzAt s y SP.list) (h : ∀ s' q cq, Ext s s' → RowAt s' q (ints [0, 2, 1, 4, 3]) → K (.tuple #[.int .i64 5, .slice q 5 cq, .int .i64 0]) s') : CALL Pg W F_prize_Most [.agg #[.slice x 5 c, .slice y 5 c']] K E s :=
  c_Most (T := SP) hx hy (by rw [sp_most]; exact fun s' q cq e f => h s' q cq e f.row)
theorem x_Stay {x y : Option Addr} {c c' : Nat} (hx : MnAt s x SP.men) (hy : PzAt s y SP.list) (h : ∀ s', Ext s s' → K (.tuple #[.int .i64 24, .int .i64 0]) s') : CALL Pg W F_prize_Stay [.agg #[.slice x 5 c, .slice y 5 c'], .int .i64 0] K E s :=
  c_Stay (T := SP) (m := 0) hx hy (by rw [sp_stay]; exact h)
theorem x_For {x y : Option Addr} {c c' : Nat} (hx : MnAt s x SP.men) (hy : PzAt s y SP.list) (h : ∀ s', Ext s s' → K (.tuple #[.int .i64 3, .int .i64 0]) s') : CALL Pg W F_prize_For [.agg #[.slice x 5 c, .slice y 5 c'], .int .i64 0] K E s :=
  c_For (T := SP) (m := 0) hx hy (by rw [sp_for]; exact h)
theorem c_awake (h : ∀ s', Ext s s' → K (.bool true) s') : CALL Pg W F_law13_awake [] K E s := by
  refine does_law13_awake W _ s ?_
  unfold T_law13_awake
  refine c_sample fun s1 x1 y1 e1 r1 q1 => ?_
  try simp only [TUP_mk, AGG_mk, HD_mk, NL_mk, TYI_mk, TYB_mk, TYP_mk, TYL_mk, TYS_mk, TYM_mk, SO_mk, NX_mk, endK_mk, endK_mk', add_0]
  refine x_Can r1 q1 fun s2 e2 => ?_
  try simp only [TUP_mk, AGG_mk, HD_mk, NL_mk, TYI_mk, TYB_mk, TYP_mk, TYL_mk, TYS_mk, TYM_mk, SO_mk, NX_mk, endK_mk, endK_mk', add_0]
  refine c_sample fun s3 x3 y3 e3 r3 q3 => ?_
  try simp only [TUP_mk, AGG_mk, HD_mk, NL_mk, TYI_mk, TYB_mk, TYP_mk, TYL_mk, TYS_mk, TYM_mk, SO_mk, NX_mk, endK_mk, endK_mk', add_0]
  refine x_Due r3 q3 fun s4 d4 cd4 e4 w4 => ?_
  try simp only [TUP_mk, AGG_mk, HD_mk, NL_mk, TYI_mk, TYB_mk, TYP_mk, TYL_mk, TYS_mk, TYM_mk, SO_mk, NX_mk, endK_mk, endK_mk', add_0]
  refine c_sample fun s5 x5 y5 e5 r5 q5 => ?_
  try simp only [TUP_mk, AGG_mk, HD_mk, NL_mk, TYI_mk, TYB_mk, TYP_mk, TYL_mk, TYS_mk, TYM_mk, SO_mk, NX_mk, endK_mk, endK_mk', add_0]
  refine NEW_rule fun s6 e6 z6 n6 _ => ?_
  refine x_Wrong (r5.ext e6) (q5.ext e6) (row_new (vs := ints [1, 2, 0, 4, -1]) n6) fun s7 e7 => ?_
  try simp only [TUP_mk, AGG_mk, HD_mk, NL_mk, TYI_mk, TYB_mk, TYP_mk, TYL_mk, TYS_mk, TYM_mk, SO_mk, NX_mk, endK_mk, endK_mk', add_0]
  refine c_sample fun s8 x8 y8 e8 r8 q8 => ?_
  try simp only [TUP_mk, AGG_mk, HD_mk, NL_mk, TYI_mk, TYB_mk, TYP_mk, TYL_mk, TYS_mk, TYM_mk, SO_mk, NX_mk, endK_mk, endK_mk', add_0]
  refine x_Club r8 q8 fun s9 e9 => ?_
  try simp only [TUP_mk, AGG_mk, HD_mk, NL_mk, TYI_mk, TYB_mk, TYP_mk, TYL_mk, TYS_mk, TYM_mk, SO_mk, NX_mk, endK_mk, endK_mk', add_0]
  refine c_sample fun t1 x11 y11 f1 r11 q11 => ?_
  try simp only [TUP_mk, AGG_mk, HD_mk, NL_mk, TYI_mk, TYB_mk, TYP_mk, TYL_mk, TYS_mk, TYM_mk, SO_mk, NX_mk, endK_mk, endK_mk', add_0]
  have g5 := e5.trans (e6.trans (e7.trans (e8.trans (e9.trans f1))))
  refine x_Worth r11 q11 (w4.ext g5) fun t2 w2 cw2 f2 v2 => ?_
  try simp only [TUP_mk, AGG_mk, HD_mk, NL_mk, TYI_mk, TYB_mk, TYP_mk, TYL_mk, TYS_mk, TYM_mk, SO_mk, NX_mk, endK_mk, endK_mk', add_0]
  refine c_sample fun t3 x13 y13 f3 r13 q13 => ?_
  try simp only [TUP_mk, AGG_mk, HD_mk, NL_mk, TYI_mk, TYB_mk, TYP_mk, TYL_mk, TYS_mk, TYM_mk, SO_mk, NX_mk, endK_mk, endK_mk', add_0]
  refine x_Most r13 q13 fun t4 m4 cm4 f4 v4 => ?_
  try simp only [TUP_mk, AGG_mk, HD_mk, NL_mk, TYI_mk, TYB_mk, TYP_mk, TYL_mk, TYS_mk, TYM_mk, SO_mk, NX_mk, endK_mk, endK_mk', add_0]
  refine c_sample fun t5 x15 y15 f5 r15 q15 => ?_
  try simp only [TUP_mk, AGG_mk, HD_mk, NL_mk, TYI_mk, TYB_mk, TYP_mk, TYL_mk, TYS_mk, TYM_mk, SO_mk, NX_mk, endK_mk, endK_mk', add_0]
  refine x_Stay r15 q15 fun t6 f6 => ?_
  try simp only [TUP_mk, AGG_mk, HD_mk, NL_mk, TYI_mk, TYB_mk, TYP_mk, TYL_mk, TYS_mk, TYM_mk, SO_mk, NX_mk, endK_mk, endK_mk', add_0]
  refine c_sample fun t7 x17 y17 f7 r17 q17 => ?_
  try simp only [TUP_mk, AGG_mk, HD_mk, NL_mk, TYI_mk, TYB_mk, TYP_mk, TYL_mk, TYS_mk, TYM_mk, SO_mk, NX_mk, endK_mk, endK_mk', add_0]
  refine x_For r17 q17 fun t8 f8 => ?_
  try simp only [TUP_mk, AGG_mk, HD_mk, NL_mk, TYI_mk, TYB_mk, TYP_mk, TYL_mk, TYS_mk, TYM_mk, SO_mk, NX_mk, endK_mk, endK_mk', add_0]
  have g8 := f5.trans (f6.trans (f7.trans f8))
  have g28 := f3.trans (f4.trans g8)
  have e0t := e1.trans (e2.trans (e3.trans (e4.trans (g5.trans (f2.trans g28)))))
  refine BR_bool (fun hh => by cases hh) (fun _ => ?_)
  unfold J_law13_awake_12
  refine BR_ne (fun hh => absurd rfl hh) (fun _ => ?_)
  refine NEW_rule fun u1 h1 _ n1 _ => ?_
  refine f_Ints (a := [1, 2, 0, 4, 3]) (b := [1, 2, 0, 4, 3]) (w4.ext (g5.trans (f2.trans (g28.trans h1)))) (row_new (vs := ints [1, 2, 0, 4, 3]) n1) rfl rfl (by decide) ?_
  try simp only [TUP_mk, AGG_mk, HD_mk, NL_mk, TYI_mk, TYB_mk, TYP_mk, TYL_mk, TYS_mk, TYM_mk, SO_mk, NX_mk, endK_mk, endK_mk', add_0]
  unfold J_law13_awake_11
  refine BR_bool (fun hh => absurd hh (by decide)) (fun _ => ?_)
  unfold J_law13_awake_10
  refine BR_ne (fun hh => absurd rfl hh) (fun _ => ?_)
  unfold J_law13_awake_9
  refine BR_ne (fun hh => absurd rfl hh) (fun _ => ?_)
  unfold J_law13_awake_8
  refine BR_ne (fun hh => absurd rfl hh) (fun _ => ?_)
  unfold J_law13_awake_7
  refine BR_ne (fun hh => absurd rfl hh) (fun _ => ?_)
  unfold J_law13_awake_6
  refine BR_ne (fun hh => absurd rfl hh) (fun _ => ?_)
  unfold J_law13_awake_5
  refine BR_ne (fun hh => absurd rfl hh) (fun _ => ?_)
  unfold J_law13_awake_4
  refine BR_ne (fun hh => absurd rfl hh) (fun _ => ?_)
  refine NEW_rule fun u2 h2 _ n2 _ => ?_
  refine f_Ints (a := [80, 100, 50, 20, 40]) (b := [80, 100, 50, 20, 40]) (v2.ext (g28.trans (h1.trans h2))) (row_new (vs := ints [80, 100, 50, 20, 40]) n2) rfl rfl (by decide) ?_
  try simp only [TUP_mk, AGG_mk, HD_mk, NL_mk, TYI_mk, TYB_mk, TYP_mk, TYL_mk, TYS_mk, TYM_mk, SO_mk, NX_mk, endK_mk, endK_mk', add_0]
  unfold J_law13_awake_3
  refine BR_bool (fun hh => absurd hh (by decide)) (fun _ => ?_)
  unfold J_law13_awake_2
  refine BR_ne (fun hh => absurd rfl hh) (fun _ => ?_)
  unfold J_law13_awake_1
  refine BR_ne (fun hh => absurd rfl hh) (fun _ => ?_)
  refine BR_eq (fun _ => ?_) (fun hh => absurd rfl hh)
  refine NEW_rule fun u3 h3 _ n3 _ => ?_
  refine f_Ints (a := [0, 2, 1, 4, 3]) (b := [0, 2, 1, 4, 3]) (v4.ext (g8.trans (h1.trans (h2.trans h3)))) (row_new (vs := ints [0, 2, 1, 4, 3]) n3) rfl rfl (by decide) ?_
  try simp only [TUP_mk, AGG_mk, HD_mk, NL_mk, TYI_mk, TYB_mk, TYP_mk, TYL_mk, TYS_mk, TYM_mk, SO_mk, NX_mk, endK_mk, endK_mk', add_0]
  unfold J_law13_awake_0
  refine BR_bool (fun _ => ?_) (fun hh => absurd hh (by decide))
  refine BR_eq (fun _ => ?_) (fun hh => absurd rfl hh)
  refine BR_eq (fun _ => ?_) (fun hh => absurd rfl hh)
  refine BR_eq (fun _ => ?_) (fun hh => absurd rfl hh)
  refine BR_eq (fun _ => ?_) (fun hh => absurd rfl hh)
  exact h u3 (e0t.trans (h1.trans (h2.trans h3)))
theorem c_awake' {s0 : Hp} (e : Ext s0 s) (h : ∀ s', Ext s0 s' → K (.bool true) s') : CALL Pg W F_law13_awake [] K E s := c_awake fun s' e' => h s' (e.trans e')
end
end Go.Proofs.Ytfaeokcbfnlgbaa.G

/- Prize: the document's power, Without, and due without anybody. -/
set_option linter.unusedSimpArgs false
set_option linter.unusedVariables false
set_option maxRecDepth 20000
namespace Go.Proofs.Ytfaeokcbfnlgbaa.G
open Go.V
def wL (T : PT) (m k : Nat) : List Mn := ((T.men.take k).eraseIdx m).map (decP (T.man m).place)
theorem wL_full (T : PT) (m : Nat) : wL T m T.n = (withoutP T m).men := by unfold wL withoutP PT.n; rw [List.take_length]
theorem wL_succ {T : PT} {m k : Nat} (h : k < T.n) : wL T m (k + 1) = if k = m then wL T m k else wL T m k ++ [decP (T.man m).place (T.man k)] := by
  unfold wL
  have hk : T.men.take (k + 1) = T.men.take k ++ [T.man k] := by
    rw [List.take_add_one, List.getElem?_eq_getElem h]
    unfold PT.man
    rw [getD_lt h]; rfl
  have hl : (T.men.take k).length = k := by rw [List.length_take]; exact Nat.min_eq_left (Nat.le_of_lt h)
  rw [hk]
  by_cases e : k = m
  · subst e
    rw [if_pos rfl, List.eraseIdx_append_of_length_le (by omega), hl, Nat.sub_self, List.eraseIdx_of_length_le (l := T.men.take k) (by omega)]
    simp
  · rw [if_neg e]
    by_cases e2 : k < m
    · rw [List.eraseIdx_of_length_le (l := T.men.take k ++ [T.man k]) (by rw [List.length_append, hl]; show k + 1 ≤ m; omega), List.eraseIdx_of_length_le (l := T.men.take k) (by omega), List.map_append]; rfl
    · rw [List.eraseIdx_append_of_lt_length (by omega), List.map_append]; rfl
theorem mnV_app (a : List Mn) (w : Mn) : mnV (a ++ [w]) = mnV a ++ mn4 w := by unfold mnV; rw [List.flatMap_append]; simp
section
variable {W : World} {K : VK} {E : List PanicEntry → Hp → Prop} {s : Hp} {T : PT}
theorem f_power {n : Nat} (h8 : n ≤ 8) (h : K (.int .i64 ((2 ^ n : Nat) : Int)) s) : CALL Pg W F_ref13_power [.int .i64 (n : Nat)] K E s := by
  refine does_ref13_power W n _ s ?_
  unfold T_ref13_power
  refine L_ref13_power_0_rule W _ n (fun n2 n3 t => t = s ∧ ∃ k : Nat, k ≤ n ∧ n3 = k ∧ n2 = ((2 ^ k : Nat) : Int)) (fun _ n3 _ => ((n : Int) - n3).toNat) 1 0 s ⟨rfl, 0, by omega, rfl, rfl⟩ ?_
  rintro n2 n3 t ⟨rfl, k, hk, rfl, rfl⟩
  unfold B_ref13_power_0
  refine BR_dec (fun h1 => ?_) (fun h1 => ?_)
  · have hkn : k < n := by omega
    have hp : (2 : Nat) ^ (k + 1) ≤ 2 ^ 8 := Nat.pow_le_pow_right (by omega) (by omega)
    have hp2 : (2 : Nat) ^ (k + 1) = 2 * 2 ^ k := by rw [Nat.pow_succ]; omega
    refine ⟨rfl, _, _, rfl, ⟨rfl, k + 1, hkn, wrap_succ (by omega), ?_⟩, ms_succ hkn (by omega)⟩
    rw [wrap_i64 (by omega) (by omega), hp2]
    omega
  · have hkn : k = n := by omega
    subst hkn
    exact h
theorem f_Without {x y : Option Addr} {c c' m : Nat} (hv : VdP T) (hm : m < T.n) (hx : MnAt s x T.men) (hy : PzAt s y T.list) (h : ∀ s' q cq, Ext s s' → Fr s.size s' q (withoutP T m).n cq 4 (mnV (withoutP T m).men) → K (.agg #[.slice q (withoutP T m).n cq, .slice y T.z c']) s') :
    CALL Pg W F_ref13_Without [.agg #[.slice x T.n c, .slice y T.z c'], .int .i64 (m : Nat)] K E s := by
  have h8 := hv.n8
  refine does_ref13_Without W x T.n c y T.z c' m _ s ?_
  unfold T_ref13_Without
  refine ne2 fun s1 e1 z1 o1 o2 => ?_
  refine nz2 zc_25 fun s2 e2 z2 q1 q2 => ?_
  refine ⟨_, _, _, e2.cell o1.cell, _, _, _, e2.cell o2.cell, ?_⟩
  refine nw2 zc_25 rfl rfl fun s3 e3 z3 p1 p2 => ?_
  refine WR_own p1 rfl ?_
  have p1w := own_set (v := .slice none 0 0) p1
  have p2w : Own (setC s3 ⟨s2.size, 0, none⟩ (.slice none 0 0)) ⟨s2.size, 1, none⟩ (.slice y T.z c') := own_set_ne (.inr (by show (1 : Nat) ≠ 0; omega)) p2
  have e24 : Ext s2 (setC s3 ⟨s2.size, 0, none⟩ (.slice none 0 0)) := Ext.setC e3 (Nat.le_refl _)
  have hsz4 : s2.size + 1 ≤ (setC s3 ⟨s2.size, 0, none⟩ (.slice none 0 0)).size := by rw [setC_size]; omega
  refine L_ref13_Without_0_rule W _ m ⟨s.size, 0, none⟩ ⟨s1.size, 0, none⟩ ⟨s2.size, 0, none⟩
    (fun n17 t => Ext s2 t ∧ Own t ⟨s2.size, 1, none⟩ (.slice y T.z c') ∧ s2.size + 1 ≤ t.size ∧ ∃ k : Nat, k ≤ T.n ∧ n17 = k ∧ ∃ xo lo co, Own t ⟨s2.size, 0, none⟩ (.slice xo lo co) ∧ Fr (s2.size + 1) t xo lo co 4 (mnV (wL T m k)))
    (fun n17 _ => ((T.n : Int) - n17).toNat) 0 _ ⟨e24, p2w, hsz4, 0, by omega, rfl, none, 0, 0, p1w, Fr.nil _ _ _⟩ ?_
  rintro n17 t ⟨et, p2, hsz, k, hk, rfl, xo, lo, co, p1, hfr⟩
  unfold B_ref13_Without_0
  have e1t := e2.trans et
  have e0t := e1.trans e1t
  refine ⟨_, _, _, e1t.cell o1.cell, ?_⟩
  refine BR_dec (fun h1 => ?_) (fun h1 => ?_)
  · have hkn : k < T.n := by omega
    have hws := wL_succ (m := m) hkn
    have hwl : (wL T m k).length = lo := by
      have := hfr.len
      rw [mnV_len] at this; omega
    have hwk : (wL T m k).length ≤ k := by
      unfold wL
      rw [List.length_map]
      exact Nat.le_trans (List.length_eraseIdx_le _ _) (by rw [List.length_take]; omega)
    refine BR_eq (fun h2 => ?_) (fun h2 => ?_)
    · have hkm : k = m := by omega
      unfold J_ref13_Without_0
      refine ⟨rfl, _, rfl, ⟨et, p2, hsz, k + 1, hkn, wrap_succ (by omega), xo, lo, co, p1, ?_⟩, ms_succ hkn (by omega)⟩
      rw [hws, if_pos hkm]; exact hfr
    · have hkm : ¬ k = m := fun e => h2 (by rw [e])
      rw [if_neg hkm] at hws
      obtain ⟨ax, w0, w1, w2, w3, w4⟩ := man_row (hx.ext e0t) hkn
      refine ⟨_, _, _, e1t.cell o1.cell, ?_⟩
      refine IXS_at w0 hkn ?_
      refine ⟨_, w1, _, w2, _, w3, _, w4, ?_⟩
      refine nw4 zc_48 rfl rfl rfl rfl fun t2 f2 y2 r1 r2 r3 r4 => ?_
      refine ⟨_, r1.cell, ?_⟩
      refine ⟨_, _, _, (e1t.trans f2).cell o1.cell, ?_⟩
      obtain ⟨am, v0, v1, _⟩ := man_row (hx.ext (e0t.trans f2)) hm
      refine IXS_at v0 hm ?_
      refine ⟨_, v1, ?_⟩
      have J1 : ∀ (t3 : Hp) (w : Mn), w = decP (T.man m).place (T.man k) → Ext t t3 → Own t3 ⟨t.size, 0, none⟩ (.int .i64 w.place) → Own t3 ⟨t.size, 1, none⟩ (.int .i64 w.club) → Own t3 ⟨t.size, 2, none⟩ (.bool w.nov) → Own t3 ⟨t.size, 3, none⟩ (.bool w.hor) →
          J_ref13_Without_1 W (endK K E) ⟨s2.size, 0, none⟩ t.size m ⟨s.size, 0, none⟩ ⟨s1.size, 0, none⟩ (fun vs => N_ref13_Without_0 (fun n17 t => Ext s2 t ∧ Own t ⟨s2.size, 1, none⟩ (.slice y T.z c') ∧ s2.size + 1 ≤ t.size ∧ ∃ k : Nat, k ≤ T.n ∧ n17 = k ∧ ∃ xo lo co, Own t ⟨s2.size, 0, none⟩ (.slice xo lo co) ∧ Fr (s2.size + 1) t xo lo co 4 (mnV (wL T m k))) (fun n17 _ => ((T.n : Int) - n17).toNat) k t vs) k t3 := by
        intro t3 w hw f3 r1 r2 r3 r4
        unfold J_ref13_Without_1
        have p1' := f3.own p1
        refine ⟨_, _, _, p1'.cell, _, r1.cell, _, r2.cell, _, r3.cell, _, r4.cell, ?_⟩
        refine NEW_rule fun t4 f4 y4 n4 _ => ?_
        have f04 := f3.trans f4
        refine APP_fr (lo := s2.size + 1) (hfr.ext f04) (Nat.le_trans hsz f04.1) (ws := mn4 w) (row_new (vs := mn4 w) n4) rfl zc_48 rfl (by omega) (by simp [mn4, oneCell]) (by omega) fun t5 x5 c5 k5 hx5 g5 => ?_
        have f5 : Ext s2 t5 := kp_nil (et.trans f04) (fun b hb => by obtain ⟨a, ha, rfl⟩ := hb; have := hfr.fr a ha; omega) k5
        have hnb : ∀ a, xo = some a → ¬ a.block = s2.size := fun a ha hb => by have := hfr.fr a ha; omega
        have p1x : Own t5 ⟨s2.size, 0, none⟩ (.slice xo lo co) := k5.own (fun hb => by obtain ⟨a, ha, hb⟩ := hb; exact hnb a ha hb) (f4.own p1')
        have p2x : Own t5 ⟨s2.size, 1, none⟩ (.slice y T.z c') := k5.own (fun hb => by obtain ⟨a, ha, hb⟩ := hb; exact hnb a ha hb) (f04.own p2)
        refine WR_own p1x rfl ?_
        unfold J_ref13_Without_0
        have hsz5 : s2.size + 1 ≤ t5.size := Nat.le_trans hsz (Nat.le_trans f04.1 k5.1)
        refine ⟨rfl, _, rfl, ⟨Ext.setC f5 (Nat.le_refl _), own_set_ne (.inr (by show (1 : Nat) ≠ 0; omega)) p2x, by rw [setC_size]; exact hsz5, k + 1, hkn, wrap_succ (by omega), x5, lo + 1, c5, own_set p1x, ?_⟩, ms_succ hkn (by omega)⟩
        rw [hws, mnV_app, ← hw]
        exact g5.kp (D := (· = s2.size)) (Kp.setC (Kp.refl _) (.inl rfl)) fun a ha hb => by have := g5.fr a ha; have hb' : a.block = s2.size := hb; omega
      refine BR_dec (fun h3 => ?_) (fun h3 => ?_)
      · refine ⟨_, r1.cell, ?_⟩
        have hp1 := hv.pl k hkn
        have hp2 := hv.pl m hm
        refine (fun hh => by rw [wrap_i64 (by omega) (by omega)]; exact hh : WR _ (.int .i64 ((T.man k).place - 1)) _ _ → WR _ (.int .i64 (IntKind.i64.wrap ((T.man k).place - 1))) _ _) ?_
        refine WR_own r1 rfl ?_
        refine J1 _ { T.man k with place := (T.man k).place - 1 } ?_ (Ext.setC f2 (Nat.le_refl _)) (own_set r1) (own_set_ne (.inr (by show (1 : Nat) ≠ 0; omega)) r2) (own_set_ne (.inr (by show (2 : Nat) ≠ 0; omega)) r3) (own_set_ne (.inr (by show (3 : Nat) ≠ 0; omega)) r4)
        unfold decP
        rw [if_pos h3]
      · refine J1 t2 (T.man k) ?_ f2 r1 r2 r3 r4
        unfold decP
        rw [if_neg h3]
  · have hkn : k = T.n := by omega
    subst hkn
    rw [wL_full] at hfr
    have hlo : lo = (withoutP T m).n := by
      have := hfr.len
      rw [mnV_len] at this
      show lo = (withoutP T m).men.length
      omega
    subst hlo
    refine ⟨_, _, _, p1.cell, _, _, _, p2.cell, ?_⟩
    refine wr2 (a := ⟨s1.size, 0, none⟩) rfl rfl (fun j hj => ?_) fun t2 k2 z2 r0 r1 => ?_
    · match j, hj with
      | 0, _ => exact ⟨_, et.own q1⟩
      | 1, _ => exact ⟨_, et.own q2⟩
    · refine ⟨_, _, _, r0.cell, _, _, _, r1.cell, ?_⟩
      have hs := e1.1
      refine h t2 xo co (ext_kp e0t hs k2) ?_
      exact (hfr.le (by have := e2.1; omega)).kp k2 fun a ha hb => by have := hfr.fr a ha; have hb' : a.block = s1.size := hb; omega
theorem f_due_0 {x y : Option Addr} {c c' : Nat} (h0 : T.n = 0) (h6 : T.z ≤ 6) (hy : PzAt s y T.list) (h : ∀ s' q cq, Ext s s' → Fr s.size s' q T.z cq 1 (ints (List.replicate T.z (-1))) → K (.slice q T.z cq) s') : CALL Pg W F_ref13_due [.agg #[.slice x T.n c, .slice y T.z c']] K E s := by
  refine does_ref13_due W x T.n c y T.z c' _ s ?_
  unfold T_ref13_due
  refine ne2 fun s1 e1 z1 o1 o2 => ?_
  refine L_ref13_due_0_rule W _ ⟨s.size, 0, none⟩ (fun x l c n t => Ext s1 t ∧ ∃ k : Nat, k ≤ T.z ∧ n = k ∧ Fr s1.size t x l c 1 (ints (List.replicate k (-1)))) (fun _ _ _ n _ => (T.z - n).toNat) none 0 0 0 s1 ⟨Ext.refl _, 0, by omega, rfl, Fr.nil _ _ _⟩ ?_
  rintro qx ql qc n t ⟨et, k, hk, rfl, hfr⟩
  have hlen : ql = k := by have := hfr.len; rw [ints_len, List.length_replicate] at this; omega
  unfold B_ref13_due_0
  refine ⟨_, _, _, et.cell o2.cell, ?_⟩
  generalize hnx : (fun vs : List Value => _) = nx
  refine BR_dec (fun h1 => ?_) (fun h1 => ?_)
  · have hkz : k < T.z := by omega
    refine L_ref13_due_1_rule W _ nx ⟨s.size, 0, none⟩ qx ql qc k (fun w i t' => t' = t ∧ w = -1 ∧ i = 1) (fun _ _ _ => 0) (-1) 1 t ⟨rfl, rfl, rfl⟩ ?_
    rintro w i t' ⟨rfl, rfl, rfl⟩
    unfold B_ref13_due_1
    refine ⟨_, _, _, et.cell o1.cell, ?_⟩
    refine BR_dec (fun h2 => absurd h2 (by omega)) (fun h2 => ?_)
    unfold J_ref13_due_4
    refine BR_ff rfl ?_
    refine ne1 fun t3 e3' z3' q3 => ?_
    have et3 := et.trans e3'
    refine APP_fr (lo := s1.size) (hfr.ext e3') et3.1 (ws := [.int .i64 (-1)]) (fun i hi => ⟨⟨t'.size, 0, none⟩, rfl, ?_⟩) rfl zc_3 rfl (by omega) (by simp [oneCell]) (by omega) fun t4 x4 c4 k4 hx4 g4 => ?_
    · have hi0 : i = 0 := by simp at hi; omega
      subst hi0; exact q3.cell
    have e4 : Ext s1 t4 := kp_nil et3 (fun b hb => by obtain ⟨y, hy, rfl⟩ := hb; exact hfr.fr y hy) k4
    rw [← hnx]
    refine ⟨rfl, _, _, _, _, rfl, ⟨e4, k + 1, hkz, wrap_succ (by omega), ?_⟩, ms_succ hkz (by omega)⟩
    have e : List.replicate (k + 1) (-1 : Int) = List.replicate k (-1) ++ [-1] := List.replicate_succ'
    rw [e, ints_app]
    exact g4
  · have hkz : k = T.z := by omega
    subst hkz
    subst hlen
    exact h t qx qc (e1.trans et) (hfr.le e1.1)
end
end Go.Proofs.Ytfaeokcbfnlgbaa.G

/- Prize: the document's Stay. -/
set_option linter.unusedSimpArgs false
set_option linter.unusedVariables false
set_option maxRecDepth 20000
namespace Go.Proofs.Ytfaeokcbfnlgbaa.G
open Go.V
section
variable {W : World} {K : VK} {E : List PanicEntry → Hp → Prop} {s : Hp} {T : PT}
theorem f_worthsL {x y q : Option Addr} {c c' cq l : Nat} {ds : List Int} (hll : l = ds.length) (hx : MnAt s x T.men) (hy : PzAt s y T.list) (h8 : T.n ≤ 8) (h6 : T.z ≤ 6) (hl : ds.length = T.z) (hd : ∀ d ∈ ds, d = -1 ∨ (0 ≤ d ∧ d < T.n)) (hq : RowAt s q (ints ds)) (h : ∀ s' w c', Ext s s' → Fr s.size s' w T.n c' 1 (ints (worP T ds)) → K (.slice w T.n c') s') :
    CALL Pg W F_ref13_worths [.agg #[.slice x T.n c, .slice y T.z c'], .slice q l cq] K E s := by
  subst hll
  exact f_worthsG hx hy h8 h6 hl hd hq h
theorem f_Stay {x y : Option Addr} {c c' : Nat} {m : Int} (h4 : T.n ≤ 100000) (hx : MnAt s x T.men) (hy : PzAt s y T.list) (h : ∀ s', Ext s s' → K (.tuple #[.int .i64 (stayR T m).1, .int .i64 (stayR T m).2]) s') :
    CALL Pg W F_ref13_Stay [.agg #[.slice x T.n c, .slice y T.z c'], .int .i64 m] K E s := by
  refine does_ref13_Stay W x T.n c y T.z c' m _ s ?_
  unfold T_ref13_Stay
  refine ne2 fun s1 e1 z1 o1 o2 => ?_
  have rd : ∀ v, Ext s1 v → (RDL (Addr.add ⟨s.size, 0, none⟩ 0) fun x33 l34 c35 => RDL (Addr.add ⟨s.size, 0, none⟩ 1) fun x36 l37 c38 => fun _ => ((.agg #[(.slice x33 l34 c35), (.slice x36 l37 c38)]) : Value) = (.agg #[(.slice x T.n c), (.slice y T.z c')])) v := fun v ev => ⟨_, _, _, ev.cell o1.cell, _, _, _, ev.cell o2.cell, rfl⟩
  refine ⟨_, _, _, o1.cell, _, _, _, o2.cell, _, _, _, o1.cell, _, _, _, o2.cell, ?_⟩
  refine f_Man h4 fun s2 e2 => ?_
  try simp only [TUP_mk, AGG_mk, HD_mk, NL_mk, TYI_mk, TYB_mk, TYP_mk, TYL_mk, TYS_mk, TYM_mk, SO_mk, NX_mk, endK_mk, endK_mk', add_0]
  refine ANDS_i (rd s2 e2) ?_
  have e02 := e1.trans e2
  refine f_check (hx.ext e02) (hy.ext e02) fun s3 e3 => ?_
  try simp only [TUP_mk, AGG_mk, HD_mk, NL_mk, TYI_mk, TYB_mk, TYP_mk, TYL_mk, TYS_mk, TYM_mk, SO_mk, NX_mk, endK_mk, endK_mk', add_0]
  have e13 := e2.trans e3
  have e03 := e1.trans e13
  have hdec : decide (0 ≤ m ∧ m < T.n) = isM T m := rfl
  rw [hdec]
  cases hok : okP T with
  | false =>
    refine BR_ne (fun _ => ?_) (fun h3 => by cases h3)
    have := h s3 e03
    unfold stayR at this
    rw [hok] at this
    exact this
  | true =>
    cases hM : isM T m with
    | false =>
      refine BR_ne (fun _ => ?_) (fun h3 => by cases h3)
      have := h s3 e03
      unfold stayR at this
      rw [if_pos hok, hM] at this
      exact this
    | true =>
      refine BR_ne (fun h3 => absurd rfl h3) (fun _ => ?_)
      have hv := okP_vd hok
      have h8 := hv.n8
      have h6 := hv.z6
      have hm' := of_decide_eq_true hM
      obtain ⟨j, rfl⟩ := Int.eq_ofNat_of_zero_le hm'.1
      have hj : j < T.n := by omega
      have hR : stayR T (j : Int) = if T.n = 1 then (0, 0) else (((setK (gainB T j) T.n : Nat) : Int), 0) := by unfold stayR; rw [if_pos hok, if_pos hM, toNat_nat]
      rw [hR] at h
      have hWn := without_n hj
      refine ⟨_, _, _, e13.cell o1.cell, _, _, _, e13.cell o2.cell, ?_⟩
      refine f_Without hv hj (hx.ext e03) (hy.ext e03) fun s4 q cq e4 f4 => ?_
      try simp only [TUP_mk, AGG_mk, HD_mk, NL_mk, TYI_mk, TYB_mk, TYP_mk, TYL_mk, TYS_mk, TYM_mk, SO_mk, NX_mk, endK_mk, endK_mk', add_0]
      have e14 := e13.trans e4
      refine nw2 zc_25 rfl rfl fun s5 e5 z5 p1 p2 => ?_
      have e15 := e14.trans e5
      have e05 := e1.trans e15
      have rd5 : ∀ v, Ext s5 v → (RDL (Addr.add ⟨s4.size, 0, none⟩ 0) fun x33 l34 c35 => RDL (Addr.add ⟨s4.size, 0, none⟩ 1) fun x36 l37 c38 => fun _ => ((.agg #[(.slice x33 l34 c35), (.slice x36 l37 c38)]) : Value) = (.agg #[(.slice q (withoutP T j).n cq), (.slice y T.z c')])) v := fun v ev => ⟨_, _, _, ev.cell p1.cell, _, _, _, ev.cell p2.cell, rfl⟩
      refine ⟨_, _, _, e15.cell o1.cell, ?_⟩
      refine ⟨_, _, _, e15.cell o2.cell, ?_⟩
      refine ⟨_, _, _, e15.cell o1.cell, ?_⟩
      refine ⟨_, _, _, e15.cell o2.cell, ?_⟩
      refine ⟨_, _, _, p1.cell, ?_⟩
      refine ⟨_, _, _, p2.cell, ?_⟩
      refine ⟨_, _, _, p1.cell, ?_⟩
      refine ⟨_, _, _, p2.cell, ?_⟩
      refine f_due hok (hx.ext e05) (hy.ext e05) fun s6 d cd e6 f6 => ?_
      try simp only [TUP_mk, AGG_mk, HD_mk, NL_mk, TYI_mk, TYB_mk, TYP_mk, TYL_mk, TYS_mk, TYM_mk, SO_mk, NX_mk, endK_mk, endK_mk', add_0]
      refine ANDS_i (rd5 s6 e6) ?_
      refine ANDS_i (rd5 s6 e6) ?_
      refine ANDS_i (rd s6 (e15.trans e6)) ?_
      have e06 := e05.trans e6
      have hdl : (manL (dueP T)).length = T.z := by unfold manL dueP; simp [dueL_len]
      refine f_worthsL hdl.symm (hx.ext e06) (hy.ext e06) h8 h6 hdl (due_range hv T.z) f6.row fun s7 w cw e7 f7 => ?_
      try simp only [TUP_mk, AGG_mk, HD_mk, NL_mk, TYI_mk, TYB_mk, TYP_mk, TYL_mk, TYS_mk, TYM_mk, SO_mk, NX_mk, endK_mk, endK_mk', add_0]
      have e57 := e6.trans e7
      have e17 := e15.trans e57
      have e07 := e1.trans e17
      refine ANDS_i (rd5 s7 e57) ?_
      refine ANDS_i (rd5 s7 e57) ?_
      -- the last loop
      have key : ∀ (t : Hp) (w' : Option Addr) (cw' : Nat) (ws : List Int), Ext s7 t → ws.length = T.n - 1 → RowAt t w' (ints ws) → (2 ≤ T.n → ws = worP (withoutP T j) (manL (dueP (withoutP T j)))) →
          L_ref13_Stay_0 W (endK K E) j ⟨s.size, 0, none⟩ w T.n cw w' (withoutP T j).n cw' 0 0 0 t := by
        intro t w' cw' ws et hwl hrow hws
        have hwn : (worP T (manL (dueP T))).length = T.n := worP_len
        have e1t := e17.trans et
        have hBj : gainB T j j = false := by unfold gainB; simp
        refine L_ref13_Stay_0_rule W _ j ⟨s.size, 0, none⟩ w T.n cw w' (withoutP T j).n cw' (fun n133 n134 n135 u => Ext t u ∧ ∃ i : Nat, i ≤ T.n ∧ n135 = i ∧ n134 = ((if i ≤ j then i else i - 1 : Nat) : Int) ∧ n133 = (setK (gainB T j) i : Nat)) (fun _ _ n135 _ => ((T.n : Int) - n135).toNat) 0 0 0 t ⟨Ext.refl _, 0, by omega, rfl, by rw [if_pos (by omega)]; rfl, rfl⟩ ?_
        rintro n133 n134 n135 u ⟨eu, i, hi, rfl, rfl, rfl⟩
        unfold B_ref13_Stay_0
        refine ⟨_, _, _, (e1t.trans eu).cell o1.cell, ?_⟩
        refine BR_dec (fun h1 => ?_) (fun h1 => ?_)
        · have hin : i < T.n := by omega
          generalize hnx : (fun vs => N_ref13_Stay_0 _ _ _ _ _ u vs) = nx
          have hlt : setK (gainB T j) i < 2 ^ i := setK_lt _ i
          have hp : (2 : Nat) ^ i ≤ 2 ^ 8 := Nat.pow_le_pow_right (by omega) (by omega)
          refine BR_eq (fun h2 => ?_) (fun h2 => ?_)
          · have hij : i = j := by omega
            subst hij
            unfold J_ref13_Stay_0
            rw [← hnx]
            refine ⟨rfl, _, _, _, rfl, ⟨eu, i + 1, hin, wrap_succ (by omega), ?_, ?_⟩, ms_succ hin (by omega)⟩
            · rw [if_pos (Nat.le_refl _), if_neg (by omega)]; rfl
            · show _ = ((setK (gainB T i) i + (if gainB T i i then 2 ^ i else 0) : Nat) : Int)
              rw [hBj]; simp
          · have hij : ¬ i = j := fun e => h2 (by rw [e])
            have h2n : 2 ≤ T.n := by omega
            have hws' := hws h2n
            have hidx : (if i ≤ j then i else i - 1) = (if i > j then i - 1 else i) := by
              by_cases hl : i ≤ j
              · rw [if_pos hl, if_neg (by omega)]
              · rw [if_neg hl, if_pos (by omega)]
            have hkl : (if i ≤ j then i else i - 1) < ws.length := by rw [hwl]; split <;> omega
            obtain ⟨b1, hb1, g1⟩ := row_int (hrow.ext eu) hkl
            refine IXS_at hb1 (by rw [hWn]; omega) ?_
            refine ⟨_, g1, ?_⟩
            have hin' : i < (worP T (manL (dueP T))).length := by omega
            obtain ⟨b2, hb2, g2⟩ := row_int (f7.row.ext (et.trans eu)) hin'
            refine IXS_at hb2 hin ?_
            refine ⟨_, g2, ?_⟩
            have hgain : gainB T j i = decide (ws.getD (if i ≤ j then i else i - 1) 0 > (worP T (manL (dueP T))).getD i 0) := by
              rw [hws', hidx]
              unfold gainB
              rw [decide_eq_false hij]; rfl
            have hstep : ((if i + 1 ≤ j then i + 1 else i + 1 - 1 : Nat) : Int) = IntKind.i64.wrap (((if i ≤ j then i else i - 1 : Nat) : Int) + 1) := by
              by_cases hl : i ≤ j
              · rw [if_pos hl, if_pos (by omega), wrap_succ (by omega)]
              · rw [if_neg hl, if_neg (by omega), wrap_succ (by omega)]; omega
            refine BR_dec (fun h3 => ?_) (fun h3 => ?_)
            · rw [decide_eq_true h3] at hgain
              refine f_power (by omega) ?_
              try simp only [TUP_mk, AGG_mk, HD_mk, NL_mk, TYI_mk, TYB_mk, TYP_mk, TYL_mk, TYS_mk, TYM_mk, SO_mk, NX_mk, endK_mk, endK_mk', add_0]
              unfold J_ref13_Stay_1 J_ref13_Stay_0
              rw [← hnx]
              refine ⟨rfl, _, _, _, rfl, ⟨eu, i + 1, hin, wrap_succ (by omega), hstep.symm, ?_⟩, ms_succ hin (by omega)⟩
              show _ = ((setK (gainB T j) i + (if gainB T j i then 2 ^ i else 0) : Nat) : Int)
              rw [hgain, wrap_i64 (by omega) (by omega)]
              simp
            · rw [decide_eq_false h3] at hgain
              unfold J_ref13_Stay_1 J_ref13_Stay_0
              rw [← hnx]
              refine ⟨rfl, _, _, _, rfl, ⟨eu, i + 1, hin, wrap_succ (by omega), hstep.symm, ?_⟩, ms_succ hin (by omega)⟩
              show _ = ((setK (gainB T j) i + (if gainB T j i then 2 ^ i else 0) : Nat) : Int)
              rw [hgain]; simp
        · have hin : i = T.n := by omega
          subst hin
          have := h u (e07.trans (et.trans eu))
          by_cases h1n : T.n = 1
          · rw [if_pos h1n] at this
            have hz : setK (gainB T j) T.n = 0 := by
              have hj0 : j = 0 := by omega
              rw [h1n]
              show setK (gainB T j) 0 + (if gainB T j 0 then 2 ^ 0 else 0) = 0
              rw [hj0] at hBj ⊢
              rw [hBj]; rfl
            rw [hz]
            exact this
          · rw [if_neg h1n] at this
            exact this
      by_cases h2n : 2 ≤ T.n
      · have hokW := ok_without hok hj h2n
        have hvW := okP_vd hokW
        have e45 := e5.trans e57
        refine f_due (T := withoutP T j) hokW (row_mn (f4.row.ext e45)) (hy.ext e07) fun s8 d' cd' e8 f8 => ?_
        try simp only [TUP_mk, AGG_mk, HD_mk, NL_mk, TYI_mk, TYB_mk, TYP_mk, TYL_mk, TYS_mk, TYM_mk, SO_mk, NX_mk, endK_mk, endK_mk', add_0]
        refine ANDS_i (rd5 s8 (e57.trans e8)) ?_
        have hdl' : (manL (dueP (withoutP T j))).length = (withoutP T j).z := by unfold manL dueP; simp [dueL_len]
        refine f_worthsL (T := withoutP T j) hdl'.symm (row_mn (f4.row.ext (e45.trans e8))) (hy.ext (e07.trans e8)) hvW.n8 hvW.z6 hdl' (due_range hvW (withoutP T j).z) f8.row fun s9 w' cw' e9 f9 => ?_
        try simp only [TUP_mk, AGG_mk, HD_mk, NL_mk, TYI_mk, TYB_mk, TYP_mk, TYL_mk, TYS_mk, TYM_mk, SO_mk, NX_mk, endK_mk, endK_mk', add_0]
        exact key s9 w' cw' _ (e8.trans e9) (by rw [worP_len, hWn]) f9.row (fun _ => rfl)
      · have e45 := e5.trans e57
        have hWn0 : (withoutP T j).n = 0 := by omega
        refine f_due_0 (T := withoutP T j) hWn0 h6 (hy.ext e07) fun s8 d' cd' e8 f8 => ?_
        try simp only [TUP_mk, AGG_mk, HD_mk, NL_mk, TYI_mk, TYB_mk, TYP_mk, TYL_mk, TYS_mk, TYM_mk, SO_mk, NX_mk, endK_mk, endK_mk', add_0]
        refine ANDS_i (rd5 s8 (e57.trans e8)) ?_
        have hdl' : (List.replicate (withoutP T j).z (-1 : Int)).length = (withoutP T j).z := List.length_replicate
        refine f_worthsL (T := withoutP T j) hdl'.symm (row_mn (f4.row.ext (e45.trans e8))) (hy.ext (e07.trans e8)) (by omega) h6 hdl' (fun d hd => .inl (List.eq_of_mem_replicate hd)) f8.row fun s9 w' cw' e9 f9 => ?_
        try simp only [TUP_mk, AGG_mk, HD_mk, NL_mk, TYI_mk, TYB_mk, TYP_mk, TYL_mk, TYS_mk, TYM_mk, SO_mk, NX_mk, endK_mk, endK_mk', add_0]
        exact key s9 w' cw' _ (e8.trans e9) (by rw [worP_len, hWn]) f9.row (fun hh => absurd hh h2n)
end
end Go.Proofs.Ytfaeokcbfnlgbaa.G

/- Prize: the document's Moved, For. -/
set_option linter.unusedSimpArgs false
set_option linter.unusedVariables false
set_option maxRecDepth 20000
namespace Go.Proofs.Ytfaeokcbfnlgbaa.G
open Go.V
def movL (T : PT) (m : Nat) (pl : Int) (k : Nat) : List Mn := (List.range T.n).map fun i => if i < k then { T.man i with place := movN (T.man m).place pl (T.man i).place } else T.man i
theorem movL_len (T : PT) (m : Nat) (pl : Int) (k : Nat) : (movL T m pl k).length = T.n := by simp [movL]
theorem movL_get (T : PT) (m : Nat) (pl : Int) (k i : Nat) (h : i < (movL T m pl k).length) : (movL T m pl k)[i] = if i < k then { T.man i with place := movN (T.man m).place pl (T.man i).place } else T.man i := by simp [movL]
theorem movL_0 (T : PT) (m : Nat) (pl : Int) : movL T m pl 0 = T.men := by
  refine List.ext_getElem (movL_len T m pl 0) fun i g1 g2 => ?_
  rw [movL_get, if_neg (by omega)]
  exact getD_lt g2
theorem movL_succ {T : PT} {m k : Nat} {pl : Int} (hk : k < (movL T m pl k).length) : movL T m pl (k + 1) = (movL T m pl k).set k { (movL T m pl k)[k] with place := movN (T.man m).place pl (T.man k).place } := by
  refine List.ext_getElem (by rw [List.length_set, movL_len, movL_len]) fun j g1 g2 => ?_
  rw [List.getElem_set]
  by_cases e : k = j
  · subst e
    rw [if_pos rfl, movL_get, movL_get, if_pos (by omega), if_neg (by omega)]
  · rw [if_neg e, movL_get, movL_get]
    by_cases q : j < k
    · rw [if_pos (by omega), if_pos q]
    · rw [if_neg (by omega), if_neg q]
theorem movL_same {T : PT} {m k : Nat} {pl : Int} (hk : k < (movL T m pl k).length) (h : movN (T.man m).place pl (T.man k).place = (T.man k).place) : movL T m pl (k + 1) = movL T m pl k := by
  rw [movL_succ hk, h]
  have : (movL T m pl k)[k] = T.man k := by rw [movL_get, if_neg (by omega)]
  have e : ({ (movL T m pl k)[k] with place := (T.man k).place } : Mn) = (movL T m pl k)[k] := by rw [this]
  rw [e]
  exact List.set_getElem_self hk
theorem movL_full {T : PT} {m : Nat} {pl : Int} (hm : m < (movL T m pl T.n).length) : (movL T m pl T.n).set m { (movL T m pl T.n)[m] with place := pl } = (movedP T m pl).men := by
  refine List.ext_getElem (by rw [List.length_set, movL_len]; simp [movedP]) fun j g1 g2 => ?_
  have hj : j < T.n := by rw [List.length_set, movL_len] at g1; exact g1
  have h1 : (movedP T m pl).men[j] = { T.man j with place := newP T m pl j } := by simp [movedP]
  rw [h1, List.getElem_set]
  by_cases e : m = j
  · subst e
    rw [if_pos rfl, movL_get, if_pos hj]
    unfold newP
    rw [if_pos rfl]
  · rw [if_neg e, movL_get, if_pos hj]
    unfold newP
    rw [if_neg (fun e' => e e'.symm)]
section
variable {W : World} {K : VK} {E : List PanicEntry → Hp → Prop} {s : Hp} {T : PT}
theorem f_Moved {x y : Option Addr} {c c' m : Nat} {pl : Int} (hv : VdP T) (hm : m < T.n) (h1 : 1 ≤ pl) (h2 : pl ≤ T.n) (hx : MnAt s x T.men) (hy : PzAt s y T.list) (h : ∀ s' q cq, Ext s s' → Fr s.size s' q (movedP T m pl).n cq 4 (mnV (movedP T m pl).men) → K (.agg #[.slice q (movedP T m pl).n cq, .slice y T.z c']) s') :
    CALL Pg W F_ref13_Moved [.agg #[.slice x T.n c, .slice y T.z c'], .int .i64 (m : Nat), .int .i64 pl] K E s := by
  have h8 := hv.n8
  refine does_ref13_Moved W x T.n c y T.z c' m pl _ s ?_
  unfold T_ref13_Moved
  refine ne2 fun s1 e1 z1 o1 o2 => ?_
  refine nz2 zc_25 fun s2 e2 z2 q1 q2 => ?_
  refine ⟨_, _, _, e2.cell o1.cell, _, _, _, e2.cell o2.cell, ?_⟩
  refine nw2 zc_25 rfl rfl fun s3 e3 z3 p1 p2 => ?_
  refine NEW_rule fun s4 e4 z4 _ _ => ?_
  have e24 := e3.trans e4
  have e14 := e2.trans e24
  have e04 := e1.trans e14
  refine ⟨_, _, _, e14.cell o1.cell, ?_⟩
  refine APP_fr (lo := s3.size) (vs := []) ⟨⟨Nat.le_refl _, fun i hi => by omega⟩, rfl, fun a ha => by cases ha; exact Nat.le_refl _, by omega⟩ e4.1 (ws := mnV T.men) (mn_row (hx.ext e04)) (mnV_len T.men) zc_48 rfl (by omega) (mnV_one T.men) (by show 0 + T.n ≤ _; omega) fun s5 xa ca k5 hx5 g5 => ?_
  rw [List.nil_append] at g5
  have e35 : Ext s3 s5 := kp_nil e4 (fun b hb => by obtain ⟨a, ha, rfl⟩ := hb; cases ha; exact Nat.le_refl _) k5
  have p1' := e35.own p1
  have p2' := e35.own p2
  refine WR_own (a := ⟨s2.size, 0, none⟩) p1' rfl ?_
  have hzn : 0 + T.n = T.n := Nat.zero_add _
  rw [hzn] at g5 ⊢
  have p1w := own_set (v := .slice xa T.n ca) p1'
  have p2w : Own (setC s5 ⟨s2.size, 0, none⟩ (.slice xa T.n ca)) ⟨s2.size, 1, none⟩ (.slice y T.z c') := own_set_ne (.inr (by show (1 : Nat) ≠ 0; omega)) p2'
  have e2w : Ext s2 (setC s5 ⟨s2.size, 0, none⟩ (.slice xa T.n ca)) := Ext.setC (e3.trans e35) (Nat.le_refl _)
  have gw : Fr s3.size (setC s5 ⟨s2.size, 0, none⟩ (.slice xa T.n ca)) xa T.n ca 4 (mnV T.men) := g5.kp (D := (· = s2.size)) (Kp.setC (Kp.refl _) (.inl rfl)) fun a ha hb => by have := g5.fr a ha; have hb' : a.block = s2.size := hb; omega
  generalize hs6 : setC s5 ⟨s2.size, 0, none⟩ (.slice xa T.n ca) = s6 at *
  have e16 := e2.trans e2w
  have e06 := e1.trans e16
  refine ⟨_, _, _, e16.cell o1.cell, ?_⟩
  obtain ⟨am, v0, v1, _⟩ := man_row (hx.ext e06) hm
  refine IXS_at v0 hm ?_
  refine ⟨_, v1, ?_⟩
  have hpm := hv.pl m hm
  refine L_ref13_Moved_0_rule W _ m pl ⟨s1.size, 0, none⟩ ⟨s2.size, 0, none⟩ (T.man m).place
    (fun n t => Ext s2 t ∧ Own t ⟨s2.size, 0, none⟩ (.slice xa T.n ca) ∧ Own t ⟨s2.size, 1, none⟩ (.slice y T.z c') ∧ ∃ k : Nat, k ≤ T.n ∧ n = k ∧ Fr s3.size t xa T.n ca 4 (mnV (movL T m pl k)))
    (fun n _ => ((T.n : Int) - n).toNat) 0 s6 ⟨e2w, p1w, p2w, 0, by omega, rfl, by rw [movL_0]; exact gw⟩ ?_
  rintro n t ⟨et, r1, r2, k, hk, rfl, hfr⟩
  unfold B_ref13_Moved_0
  -- a place is written
  have wr : ∀ (i : Nat) (v : Int) (l : List Mn) (hi : i < l.length) (u : Hp) (KK : Hp → Prop), Ext s2 u → Own u ⟨s2.size, 0, none⟩ (.slice xa T.n ca) → Own u ⟨s2.size, 1, none⟩ (.slice y T.z c') → Fr s3.size u xa T.n ca 4 (mnV l) →
      (∀ u', Ext s2 u' → Own u' ⟨s2.size, 0, none⟩ (.slice xa T.n ca) → Own u' ⟨s2.size, 1, none⟩ (.slice y T.z c') → Fr s3.size u' xa T.n ca 4 (mnV (l.set i { l[i] with place := v })) → KK u') → ∀ a, xa = some a → WR (Addr.add (Addr.add (a.add (i * 4)) 0) 0) (.int .i64 v) KK u := by
    intro i v l hi u KK eu a1 a2 hf hK a ha
    subst ha
    have hi4 : i * 4 < (mnV l).length := by rw [mnV_len]; omega
    refine WR_own (hf.buf.at hi4) rfl ?_
    have hset := hf.buf.set (v := .int .i64 v) hi4
    have hfa := hf.fr a rfl
    have hne : (⟨s2.size, 0, none⟩ : Addr).block ≠ (a.add (i * 4)).block := by rw [add_blk]; show s2.size ≠ _; omega
    refine hK _ (Ext.setC eu (by show s2.size ≤ (a.add (i * 4)).block; rw [add_blk]; omega)) (own_set_ne (.inl hne) a1) (own_set_ne (.inl hne) a2) ?_
    rw [← mnV_set _ _ _ hi]
    exact ⟨hset, by rw [List.length_set]; exact hf.len, hf.fr, hf.cap⟩
  refine ⟨_, _, _, r1.cell, ?_⟩
  refine BR_dec (fun g1 => ?_) (fun g1 => ?_)
  · have hkn : k < T.n := by omega
    have hkl : k < (movL T m pl k).length := by rw [movL_len]; exact hkn
    have hat : (movL T m pl k)[k] = T.man k := by rw [movL_get, if_neg (by omega)]
    have hpk := hv.pl k hkn
    obtain ⟨b, hb, cb⟩ := row_get hfr.row (mnV_get (movL T m pl k) k hkl).1
    rw [hat] at cb
    refine ⟨_, _, _, r1.cell, ?_⟩
    refine IXS_at hb hkn ?_
    refine ⟨_, cb, ?_⟩
    generalize hnx : (fun vs => N_ref13_Moved_0 _ _ _ t vs) = nx
    have J0 : ∀ u, Ext s2 u → Own u ⟨s2.size, 0, none⟩ (.slice xa T.n ca) → Own u ⟨s2.size, 1, none⟩ (.slice y T.z c') → Fr s3.size u xa T.n ca 4 (mnV (movL T m pl (k + 1))) → J_ref13_Moved_0 W (endK K E) m pl ⟨s1.size, 0, none⟩ ⟨s2.size, 0, none⟩ (T.man m).place nx k u := by
      intro u eu a1 a2 hf
      unfold J_ref13_Moved_0
      rw [← hnx]
      exact ⟨rfl, _, rfl, ⟨eu, a1, a2, k + 1, hkn, wrap_succ (by omega), hf⟩, ms_succ hkn (by omega)⟩
    by_cases hA : (T.man k).place > (T.man m).place ∧ (T.man k).place ≤ pl
    · refine BR_tt (decide_eq_true hA.1) ?_
      unfold J_ref13_Moved_3
      refine BR_tt (decide_eq_true hA.2) ?_
      refine ⟨_, _, _, r1.cell, ?_⟩
      refine IXS_at hb hkn ?_
      refine ⟨_, cb, ?_⟩
      refine IXS_at hb hkn ?_
      refine (fun hh => by rw [wrap_i64 (by omega) (by omega)]; exact hh : WR _ (.int .i64 ((T.man k).place - 1)) _ _ → WR _ (.int .i64 (IntKind.i64.wrap ((T.man k).place - 1))) _ _) ?_
      refine wr k _ (movL T m pl k) hkl t _ et r1 r2 hfr (fun u eu a1 a2 hf => ?_) b hb
      unfold J_ref13_Moved_2
      refine BR_ff (decide_eq_false (by omega)) ?_
      unfold J_ref13_Moved_1
      refine BR_ff rfl ?_
      refine J0 u eu a1 a2 ?_
      rw [movL_succ hkl]
      have : movN (T.man m).place pl (T.man k).place = (T.man k).place - 1 := by unfold movN; rw [if_pos hA]
      rw [this]; exact hf
    · have J2 : J_ref13_Moved_2 W (endK K E) (T.man k).place (T.man m).place pl ⟨s2.size, 0, none⟩ k m ⟨s1.size, 0, none⟩ nx t := by
        unfold J_ref13_Moved_2
        by_cases hB : (T.man k).place < (T.man m).place ∧ (T.man k).place ≥ pl
        · refine BR_tt (decide_eq_true hB.1) ?_
          unfold J_ref13_Moved_1
          refine BR_tt (decide_eq_true hB.2) ?_
          refine ⟨_, _, _, r1.cell, ?_⟩
          refine IXS_at hb hkn ?_
          refine ⟨_, cb, ?_⟩
          refine IXS_at hb hkn ?_
          refine (fun hh => by rw [wrap_i64 (by omega) (by omega)]; exact hh : WR _ (.int .i64 ((T.man k).place + 1)) _ _ → WR _ (.int .i64 (IntKind.i64.wrap ((T.man k).place + 1))) _ _) ?_
          refine wr k _ (movL T m pl k) hkl t _ et r1 r2 hfr (fun u eu a1 a2 hf => ?_) b hb
          refine J0 u eu a1 a2 ?_
          rw [movL_succ hkl]
          have : movN (T.man m).place pl (T.man k).place = (T.man k).place + 1 := by unfold movN; rw [if_neg hA, if_pos hB]
          rw [this]; exact hf
        · have hsame : movN (T.man m).place pl (T.man k).place = (T.man k).place := by unfold movN; rw [if_neg hA, if_neg hB]
          have fin : J_ref13_Moved_1 W (endK K E) false ⟨s2.size, 0, none⟩ k m pl ⟨s1.size, 0, none⟩ (T.man m).place nx t := by
            unfold J_ref13_Moved_1
            refine BR_ff rfl ?_
            refine J0 t et r1 r2 ?_
            rw [movL_same hkl hsame]; exact hfr
          refine BR_dec (fun hb1 => ?_) (fun _ => fin)
          have : decide ((T.man k).place ≥ pl) = false := decide_eq_false (fun hh => hB ⟨hb1, hh⟩)
          rw [this]; exact fin
      have J3 : J_ref13_Moved_3 W (endK K E) false ⟨s2.size, 0, none⟩ k (T.man k).place (T.man m).place pl m ⟨s1.size, 0, none⟩ nx t := by
        unfold J_ref13_Moved_3
        exact BR_ff rfl J2
      refine BR_dec (fun hb1 => ?_) (fun _ => J3)
      have : decide ((T.man k).place ≤ pl) = false := decide_eq_false (fun hh => hA ⟨hb1, hh⟩)
      rw [this]; exact J3
  · have hkn : k = T.n := by omega
    subst hkn
    refine ⟨_, _, _, r1.cell, ?_⟩
    have hml : m < (movL T m pl T.n).length := by rw [movL_len]; exact hm
    obtain ⟨b, hb, cb⟩ := row_get hfr.row (mnV_get (movL T m pl T.n) m hml).1
    refine IXS_at hb hm ?_
    refine wr m pl (movL T m pl T.n) hml t _ et r1 r2 hfr (fun u eu a1 a2 hf => ?_) b hb
    rw [movL_full hml] at hf
    refine ⟨_, _, _, a1.cell, _, _, _, a2.cell, ?_⟩
    refine wr2 (a := ⟨s1.size, 0, none⟩) rfl rfl (fun j hj => ?_) fun u2 k2 z2' b0 b1 => ?_
    · match j, hj with
      | 0, _ => exact ⟨_, eu.own q1⟩
      | 1, _ => exact ⟨_, eu.own q2⟩
    · refine ⟨_, _, _, b0.cell, _, _, _, b1.cell, ?_⟩
      have hs := e1.1
      have hle : s.size ≤ s3.size := by have := e2.1; have := e3.1; omega
      have := h u2 xa ca (ext_kp (e1.trans (e2.trans eu)) hs k2) (by
        rw [moved_n]
        exact (hf.le hle).kp k2 fun a ha hb => by have := hf.fr a ha; have hb' : a.block = s1.size := hb; have := e2.1; have := e3.1; omega)
      rw [moved_n] at this
      exact this
theorem f_For {x y : Option Addr} {c c' : Nat} {m : Int} (h4 : T.n ≤ 100000) (hx : MnAt s x T.men) (hy : PzAt s y T.list) (h : ∀ s', Ext s s' → K (.tuple #[.int .i64 (forR T m).1, .int .i64 (forR T m).2]) s') :
    CALL Pg W F_ref13_For [.agg #[.slice x T.n c, .slice y T.z c'], .int .i64 m] K E s := by
  refine does_ref13_For W x T.n c y T.z c' m _ s ?_
  unfold T_ref13_For
  refine ne2 fun s1 e1 z1 o1 o2 => ?_
  have rd : ∀ v, Ext s1 v → (RDL (Addr.add ⟨s.size, 0, none⟩ 0) fun x33 l34 c35 => RDL (Addr.add ⟨s.size, 0, none⟩ 1) fun x36 l37 c38 => fun _ => ((.agg #[(.slice x33 l34 c35), (.slice x36 l37 c38)]) : Value) = (.agg #[(.slice x T.n c), (.slice y T.z c')])) v := fun v ev => ⟨_, _, _, ev.cell o1.cell, _, _, _, ev.cell o2.cell, rfl⟩
  refine ⟨_, _, _, o1.cell, _, _, _, o2.cell, _, _, _, o1.cell, _, _, _, o2.cell, ?_⟩
  refine f_Man h4 fun s2 e2 => ?_
  try simp only [TUP_mk, AGG_mk, HD_mk, NL_mk, TYI_mk, TYB_mk, TYP_mk, TYL_mk, TYS_mk, TYM_mk, SO_mk, NX_mk, endK_mk, endK_mk', add_0]
  refine ANDS_i (rd s2 e2) ?_
  have e02 := e1.trans e2
  refine f_check (hx.ext e02) (hy.ext e02) fun s3 e3 => ?_
  try simp only [TUP_mk, AGG_mk, HD_mk, NL_mk, TYI_mk, TYB_mk, TYP_mk, TYL_mk, TYS_mk, TYM_mk, SO_mk, NX_mk, endK_mk, endK_mk', add_0]
  have e13 := e2.trans e3
  have e03 := e1.trans e13
  have hdec : decide (0 ≤ m ∧ m < T.n) = isM T m := rfl
  rw [hdec]
  cases hok : okP T with
  | false =>
    refine BR_ne (fun _ => ?_) (fun h3 => by cases h3)
    have := h s3 e03
    unfold forR at this
    rw [hok] at this
    exact this
  | true =>
    cases hM : isM T m with
    | false =>
      refine BR_ne (fun _ => ?_) (fun h3 => by cases h3)
      have := h s3 e03
      unfold forR at this
      rw [if_pos hok, hM] at this
      exact this
    | true =>
      refine BR_ne (fun h3 => absurd rfl h3) (fun _ => ?_)
      have hv := okP_vd hok
      have h8 := hv.n8
      have hm' := of_decide_eq_true hM
      obtain ⟨j, rfl⟩ := Int.eq_ofNat_of_zero_le hm'.1
      have hj : j < T.n := by omega
      have hR : forR T (j : Int) = forL T j T.n := by unfold forR; rw [if_pos hok, if_pos hM, toNat_nat]
      rw [hR] at h
      refine ⟨_, _, _, e13.cell o1.cell, ?_⟩
      refine L_ref13_For_0_rule W _ j ⟨s.size, 0, none⟩ (fun n36 n37 n38 t => n36 = 0 ∧ n37 = 0 ∧ Ext s3 t ∧ ∃ k : Nat, k ≤ T.n ∧ n38 = k ∧ forL T j T.n = forL T j k) (fun _ _ n38 _ => n38.toNat) 0 0 T.n s3 ⟨rfl, rfl, Ext.refl _, T.n, Nat.le_refl _, rfl, rfl⟩ ?_
      rintro n36 n37 n38 t ⟨rfl, rfl, et, k, hk, rfl, hfl⟩
      unfold B_ref13_For_0
      have e1t := e13.trans et
      have e0t := e1.trans e1t
      refine BR_dec (fun g1 => ?_) (fun g1 => ?_)
      · obtain ⟨q, rfl⟩ : ∃ q, k = q + 1 := ⟨k - 1, by omega⟩
        refine ⟨_, _, _, e1t.cell o1.cell, _, _, _, e1t.cell o2.cell, ?_⟩
        refine f_Moved hv hj (by omega) (by omega) (hx.ext e0t) (hy.ext e0t) fun t1 p cp f1 r1 => ?_
        try simp only [TUP_mk, AGG_mk, HD_mk, NL_mk, TYI_mk, TYB_mk, TYP_mk, TYL_mk, TYS_mk, TYM_mk, SO_mk, NX_mk, endK_mk, endK_mk', add_0]
        have hokM := ok_moved (pl := ((q + 1 : Nat) : Int)) hok hj (by omega) (by omega)
        have hvM := okP_vd hokM
        have h6M := hvM.z6
        refine f_due (T := movedP T j ((q + 1 : Nat) : Int)) hokM (row_mn r1.row) (hy.ext (e0t.trans f1)) fun t2 d cd f2 r2 => ?_
        try simp only [TUP_mk, AGG_mk, HD_mk, NL_mk, TYI_mk, TYB_mk, TYP_mk, TYL_mk, TYS_mk, TYM_mk, SO_mk, NX_mk, endK_mk, endK_mk', add_0]
        have hdl : (manL (dueP (movedP T j ((q + 1 : Nat) : Int)))).length = (movedP T j ((q + 1 : Nat) : Int)).z := by unfold manL dueP; simp [dueL_len]
        refine f_has r2.row hdl.symm (by omega) ?_
        try simp only [TUP_mk, AGG_mk, HD_mk, NL_mk, TYI_mk, TYB_mk, TYP_mk, TYL_mk, TYS_mk, TYM_mk, SO_mk, NX_mk, endK_mk, endK_mk', add_0]
        have hstep : forL T j (q + 1) = if getsP T j (q + 1) then (((q + 1 : Nat) : Int), 0) else forL T j q := rfl
        refine BR_bool (fun hg => ?_) (fun hg => ?_)
        · have := h t2 (e0t.trans (f1.trans f2))
          rw [hfl, hstep, if_pos (show getsP T j (q + 1) = true from hg)] at this
          exact this
        · have hw : IntKind.i64.wrap (((q + 1 : Nat) : Int) - 1) = (q : Nat) := by rw [wrap_i64 (by omega) (by omega)]; omega
          have hg' : ¬ getsP T j (q + 1) = true := by rw [show getsP T j (q + 1) = false from hg]; simp
          rw [if_neg hg'] at hstep
          refine ⟨_, _, _, rfl, ⟨rfl, rfl, et.trans (f1.trans f2), q, by omega, hw, ?_⟩, ?_⟩
          · rw [hfl, hstep]
          · rw [hw]; show ((q : Nat) : Int).toNat < ((q + 1 : Nat) : Int).toNat; omega
      · have hk0 : k = 0 := by omega
        subst hk0
        have := h t e0t
        rw [hfl] at this
        exact this
end
end Go.Proofs.Ytfaeokcbfnlgbaa.G

/- More of the functions' shallow texts, by gen.py. -/
set_option linter.unusedVariables false
set_option maxRecDepth 100000
namespace Go.Proofs.Ytfaeokcbfnlgbaa.G
open Go.V
def an_4 : Nat → Ann := fun b => match b with
  | _ => {}
abbrev rv_4 : List ResultVar := [.tmp 4]
abbrev rs_4 : List Nat := [104, 4]
def J_law13_PrizeLooks_0 (W : World) (R : Ending → Hp → Prop) (b128 : Bool) (n103 : Int) (n118 : Int) (n106 : Int) (n121 : Int) : Hp → Prop :=
  BR b128
    (BR (n103 == n118)
      (BR (n106 == n121)
        (CALL Pg W F_law13_awake []
          (fun v129 => TYB v129 fun b131 =>
            R (.returned (.bool b131)))
            (fun e130 => R (.panicked e130)))
        (R (.returned (.bool false))))
      (R (.returned (.bool false))))
    (R (.returned (.bool false)))
def J_law13_PrizeLooks_1 (W : World) (R : Ending → Hp → Prop) (b127 : Bool) (n76 : Int) (n91 : Int) (n103 : Int) (n118 : Int) (n106 : Int) (n121 : Int) : Hp → Prop :=
  BR b127
    (J_law13_PrizeLooks_0 W R (n76 == n91) n103 n118 n106 n121)
    (J_law13_PrizeLooks_0 W R false n103 n118 n106 n121)
def J_law13_PrizeLooks_2 (W : World) (R : Ending → Hp → Prop) (b126 : Bool) (n73 : Int) (n88 : Int) (n76 : Int) (n91 : Int) (n103 : Int) (n118 : Int) (n106 : Int) (n121 : Int) : Hp → Prop :=
  BR b126
    (J_law13_PrizeLooks_1 W R (n73 == n88) n76 n91 n103 n118 n106 n121)
    (J_law13_PrizeLooks_1 W R false n76 n91 n103 n118 n106 n121)
def J_law13_PrizeLooks_3 (W : World) (R : Ending → Hp → Prop) (b125 : Bool) (n41 : Int) (n61 : Int) (n73 : Int) (n88 : Int) (n76 : Int) (n91 : Int) (n103 : Int) (n118 : Int) (n106 : Int) (n121 : Int) : Hp → Prop :=
  BR b125
    (J_law13_PrizeLooks_2 W R (n41 == n61) n73 n88 n76 n91 n103 n118 n106 n121)
    (J_law13_PrizeLooks_2 W R false n73 n88 n76 n91 n103 n118 n106 n121)
def J_law13_PrizeLooks_4 (W : World) (R : Ending → Hp → Prop) (b18 : Bool) (B8 : Nat) (n7 : Int) : Hp → Prop :=
  BR b18
    (CALL Pg W F_law13_awake []
      (fun v19 => TYB v19 fun b21 =>
        R (.returned (.bool b21)))
        (fun e20 => R (.panicked e20)))
    (RDL (Addr.add ⟨B8, 0, none⟩ 0) fun x22 l23 c24 =>
      RDL (Addr.add ⟨B8, 0, none⟩ 1) fun x25 l26 c27 =>
        CALL Pg W F_prize_Most [(.agg #[(.slice x22 l23 c24), (.slice x25 l26 c27)])]
          (fun v28 => TUP v28 fun q30 => HD q30 fun v31 r32 => TYI .i64 v31 fun n33 =>
            HD r32 fun v34 r35 => TYL v34 fun x36 l37 c38 =>
              HD r35 fun v39 r40 => TYI .i64 v39 fun n41 =>
                NL r40 <|
                  RDL (Addr.add ⟨B8, 0, none⟩ 0) fun x42 l43 c44 =>
                    RDL (Addr.add ⟨B8, 0, none⟩ 1) fun x45 l46 c47 =>
                      CALL Pg W F_ref13_Most [(.agg #[(.slice x42 l43 c44), (.slice x45 l46 c47)])]
                        (fun v48 => TUP v48 fun q50 => HD q50 fun v51 r52 => TYI .i64 v51 fun n53 =>
                          HD r52 fun v54 r55 => TYL v54 fun x56 l57 c58 =>
                            HD r55 fun v59 r60 => TYI .i64 v59 fun n61 =>
                              NL r60 <|
                                RDL (Addr.add ⟨B8, 0, none⟩ 0) fun x62 l63 c64 =>
                                  RDL (Addr.add ⟨B8, 0, none⟩ 1) fun x65 l66 c67 =>
                                    CALL Pg W F_prize_Stay [(.agg #[(.slice x62 l63 c64), (.slice x65 l66 c67)]), (.int .i64 n7)]
                                      (fun v68 => TUP v68 fun q70 => HD q70 fun v71 r72 => TYI .i64 v71 fun n73 =>
                                        HD r72 fun v74 r75 => TYI .i64 v74 fun n76 =>
                                          NL r75 <|
                                            RDL (Addr.add ⟨B8, 0, none⟩ 0) fun x77 l78 c79 =>
                                              RDL (Addr.add ⟨B8, 0, none⟩ 1) fun x80 l81 c82 =>
                                                CALL Pg W F_ref13_Stay [(.agg #[(.slice x77 l78 c79), (.slice x80 l81 c82)]), (.int .i64 n7)]
                                                  (fun v83 => TUP v83 fun q85 => HD q85 fun v86 r87 => TYI .i64 v86 fun n88 =>
                                                    HD r87 fun v89 r90 => TYI .i64 v89 fun n91 =>
                                                      NL r90 <|
                                                        RDL (Addr.add ⟨B8, 0, none⟩ 0) fun x92 l93 c94 =>
                                                          RDL (Addr.add ⟨B8, 0, none⟩ 1) fun x95 l96 c97 =>
                                                            CALL Pg W F_prize_For [(.agg #[(.slice x92 l93 c94), (.slice x95 l96 c97)]), (.int .i64 n7)]
                                                              (fun v98 => TUP v98 fun q100 => HD q100 fun v101 r102 => TYI .i64 v101 fun n103 =>
                                                                HD r102 fun v104 r105 => TYI .i64 v104 fun n106 =>
                                                                  NL r105 <|
                                                                    RDL (Addr.add ⟨B8, 0, none⟩ 0) fun x107 l108 c109 =>
                                                                      RDL (Addr.add ⟨B8, 0, none⟩ 1) fun x110 l111 c112 =>
                                                                        CALL Pg W F_ref13_For [(.agg #[(.slice x107 l108 c109), (.slice x110 l111 c112)]), (.int .i64 n7)]
                                                                          (fun v113 => TUP v113 fun q115 => HD q115 fun v116 r117 => TYI .i64 v116 fun n118 =>
                                                                            HD r117 fun v119 r120 => TYI .i64 v119 fun n121 =>
                                                                              NL r120 <|
                                                                                BR (n33 == n53)
                                                                                  (CALL Pg W F_ref13_Ints [(.slice x36 l37 c38), (.slice x56 l57 c58)]
                                                                                    (fun v122 => TYB v122 fun b124 =>
                                                                                      J_law13_PrizeLooks_3 W R b124 n41 n61 n73 n88 n76 n91 n103 n118 n106 n121)
                                                                                      (fun e123 => R (.panicked e123)))
                                                                                  (J_law13_PrizeLooks_3 W R false n41 n61 n73 n88 n76 n91 n103 n118 n106 n121))
                                                                            (fun e114 => R (.panicked e114)))
                                                                (fun e99 => R (.panicked e99)))
                                                    (fun e84 => R (.panicked e84)))
                                        (fun e69 => R (.panicked e69)))
                          (fun e49 => R (.panicked e49)))
            (fun e29 => R (.panicked e29)))
def T_law13_PrizeLooks (W : World) (x1 : Option Addr) (l2 : Nat) (c3 : Nat) (x4 : Option Addr) (l5 : Nat) (c6 : Nat) (n7 : Int) (R : Ending → Hp → Prop) : Hp → Prop :=
  NEW 25 [(.slice x1 l2 c3), (.slice x4 l5 c6)] fun B8 =>
    RDL (Addr.add ⟨B8, 0, none⟩ 0) fun x9 l10 c11 =>
      RDL (Addr.add ⟨B8, 0, none⟩ 1) fun x12 l13 c14 =>
        CALL Pg W F_law13_far [(.agg #[(.slice x9 l10 c11), (.slice x12 l13 c14)]), (.slice none 0 0)]
          (fun v15 => TYB v15 fun b17 =>
            BR b17
              (J_law13_PrizeLooks_4 W R true B8 n7)
              (RDL (Addr.add ⟨B8, 0, none⟩ 1) fun x132 l133 c134 =>
                BR (decide ((↑l133 : Int) > 4))
                  (RDL (Addr.add ⟨B8, 0, none⟩ 0) fun x135 l136 c137 =>
                    RDL (Addr.add ⟨B8, 0, none⟩ 1) fun x138 l139 c140 =>
                      CALL Pg W F_ref13_Prizes [(.agg #[(.slice x135 l136 c137), (.slice x138 l139 c140)])]
                        (fun v141 => TYB v141 fun b143 =>
                          J_law13_PrizeLooks_4 W R b143 B8 n7)
                          (fun e142 => R (.panicked e142)))
                  (J_law13_PrizeLooks_4 W R false B8 n7)))
            (fun e16 => R (.panicked e16))
theorem T_law13_PrizeLooks_eq (W : World) (x1 : Option Addr) (l2 : Nat) (c3 : Nat) (x4 : Option Addr) (l5 : Nat) (c6 : Nat) (n7 : Int) (R : Ending → Hp → Prop) : vfun Pg W an_4 Try.f4 [(.agg #[(.slice x1 l2 c3), (.slice x4 l5 c6)]), (.int .i64 n7)] R = T_law13_PrizeLooks W x1 l2 c3 x4 l5 c6 n7 R := by kernel_rfl
theorem does_law13_PrizeLooks (W : World) (x1 : Option Addr) (l2 : Nat) (c3 : Nat) (x4 : Option Addr) (l5 : Nat) (c6 : Nat) (n7 : Int) (R : Ending → Hp → Prop) (s : Hp) (h : T_law13_PrizeLooks W x1 l2 c3 x4 l5 c6 n7 R s) : Does Pg W F_law13_PrizeLooks #[(.agg #[(.slice x1 l2 c3), (.slice x4 l5 c6)]), (.int .i64 n7)] s R :=
  does_of_vfun Pg W an_4 Try.func4 rfl (by kernel_rfl) (by rw [T_law13_PrizeLooks_eq]; exact h)
end Go.Proofs.Ytfaeokcbfnlgbaa.G

/- The statement PrizeLooks. -/
set_option linter.unusedSimpArgs false
set_option linter.unusedVariables false
set_option maxRecDepth 20000
namespace Go.Proofs.Ytfaeokcbfnlgbaa.G
open Go.V
section
variable {W : World} {K : VK} {E : List PanicEntry → Hp → Prop} {s : Hp} {T : PT}
theorem w_PrizeLooks {x y : Option Addr} {c c' : Nat} {m : Int} (hx : MnAt s x T.men) (hy : PzAt s y T.list) (h : ∀ s', Ext s s' → K (.bool true) s') :
    CALL Pg W F_law13_PrizeLooks [.agg #[.slice x T.n c, .slice y T.z c'], .int .i64 m] K E s := by
  refine does_law13_PrizeLooks W x T.n c y T.z c' m _ s ?_
  unfold T_law13_PrizeLooks
  refine ne2 fun s1 e1 z1 o1 o2 => ?_
  have c0 := o1.cell
  have c1 := o2.cell
  refine ⟨_, _, _, c0, _, _, _, c1, ?_⟩
  refine c_far fun s2 b e2 hb => ?_
  try simp only [TUP_mk, AGG_mk, HD_mk, NL_mk, TYI_mk, TYB_mk, TYP_mk, TYL_mk, TYS_mk, TYM_mk, SO_mk, NX_mk, endK_mk, endK_mk', add_0]
  have J4 : ∀ (b : Bool) (t : Hp), Ext s1 t → (b = false → T.n ≤ 40) → J_law13_PrizeLooks_4 W (endK K E) b s.size m t := by
    intro b t et hb
    unfold J_law13_PrizeLooks_4
    refine BR_bool (fun _ => c_awake' et fun u eu => h u (e1.trans eu)) (fun hf => ?_)
    have h40 := hb hf
    have rx : ∀ {t : Hp}, Ext s1 t → MnAt t x T.men := fun e => hx.ext (e1.trans e)
    have ry : ∀ {t : Hp}, Ext s1 t → PzAt t y T.list := fun e => hy.ext (e1.trans e)
    refine ⟨_, _, _, et.cell c0, _, _, _, et.cell c1, ?_⟩
    refine c_Most (rx et) (ry et) fun t1 a1 b1 e11 f1 => ?_
    try simp only [TUP_mk, AGG_mk, HD_mk, NL_mk, TYI_mk, TYB_mk, TYP_mk, TYL_mk, TYS_mk, TYM_mk, SO_mk, NX_mk, endK_mk, endK_mk', add_0]
    have g1 := et.trans e11
    refine ⟨_, _, _, g1.cell c0, _, _, _, g1.cell c1, ?_⟩
    refine f_Most (rx g1) (ry g1) fun t2 a2 b2 e12 f2 => ?_
    try simp only [TUP_mk, AGG_mk, HD_mk, NL_mk, TYI_mk, TYB_mk, TYP_mk, TYL_mk, TYS_mk, TYM_mk, SO_mk, NX_mk, endK_mk, endK_mk', add_0]
    have g2 := g1.trans e12
    refine ⟨_, _, _, g2.cell c0, _, _, _, g2.cell c1, ?_⟩
    refine c_Stay (rx g2) (ry g2) fun t3 e13 => ?_
    try simp only [TUP_mk, AGG_mk, HD_mk, NL_mk, TYI_mk, TYB_mk, TYP_mk, TYL_mk, TYS_mk, TYM_mk, SO_mk, NX_mk, endK_mk, endK_mk', add_0]
    have g3 := g2.trans e13
    refine ⟨_, _, _, g3.cell c0, _, _, _, g3.cell c1, ?_⟩
    refine f_Stay (by omega) (rx g3) (ry g3) fun t4 e14 => ?_
    try simp only [TUP_mk, AGG_mk, HD_mk, NL_mk, TYI_mk, TYB_mk, TYP_mk, TYL_mk, TYS_mk, TYM_mk, SO_mk, NX_mk, endK_mk, endK_mk', add_0]
    have g4 := g3.trans e14
    refine ⟨_, _, _, g4.cell c0, _, _, _, g4.cell c1, ?_⟩
    refine c_For (rx g4) (ry g4) fun t5 e15 => ?_
    try simp only [TUP_mk, AGG_mk, HD_mk, NL_mk, TYI_mk, TYB_mk, TYP_mk, TYL_mk, TYS_mk, TYM_mk, SO_mk, NX_mk, endK_mk, endK_mk', add_0]
    have g5 := g4.trans e15
    refine ⟨_, _, _, g5.cell c0, _, _, _, g5.cell c1, ?_⟩
    refine f_For (by omega) (rx g5) (ry g5) fun t6 e16 => ?_
    try simp only [TUP_mk, AGG_mk, HD_mk, NL_mk, TYI_mk, TYB_mk, TYP_mk, TYL_mk, TYS_mk, TYM_mk, SO_mk, NX_mk, endK_mk, endK_mk', add_0]
    have g6 := g5.trans e16
    refine BR_eq (fun _ => ?_) (fun hh => absurd rfl hh)
    have hml : (mostR T).2.1.length ≤ 100000 := by
      unfold mostR
      split
      · rename_i hok
        have h6 := (okP_vd hok).z6
        unfold manL
        rw [List.length_map, bestG_len]; omega
      · exact Nat.zero_le _
    have e26 := e13.trans (e14.trans (e15.trans e16))
    refine f_Ints (a := (mostR T).2.1) (b := (mostR T).2.1) (f1.row.ext (e12.trans e26)) (f2.ext e26) rfl rfl hml ?_
    try simp only [TUP_mk, AGG_mk, HD_mk, NL_mk, TYI_mk, TYB_mk, TYP_mk, TYL_mk, TYS_mk, TYM_mk, SO_mk, NX_mk, endK_mk, endK_mk', add_0]
    unfold J_law13_PrizeLooks_3
    refine BR_tt (by simp) ?_
    unfold J_law13_PrizeLooks_2
    refine BR_eq (fun _ => ?_) (fun hh => absurd rfl hh)
    unfold J_law13_PrizeLooks_1
    refine BR_eq (fun _ => ?_) (fun hh => absurd rfl hh)
    unfold J_law13_PrizeLooks_0
    refine BR_eq (fun _ => ?_) (fun hh => absurd rfl hh)
    refine BR_eq (fun _ => ?_) (fun hh => absurd rfl hh)
    refine BR_eq (fun _ => ?_) (fun hh => absurd rfl hh)
    exact c_awake' g6 fun u eu => h u (e1.trans eu)
  refine BR_bool (fun _ => J4 true s2 e2 (fun hh => by cases hh)) (fun hf => ?_)
  have h40 := (hb hf).1
  refine ⟨_, _, _, e2.cell c1, ?_⟩
  refine BR_dec (fun h4 => ?_) (fun _ => J4 false s2 e2 (fun _ => h40))
  refine ⟨_, _, _, e2.cell c0, _, _, _, e2.cell c1, ?_⟩
  refine f_Prizes (hx.ext (e1.trans e2)) (hy.ext (e1.trans e2)) fun s3 e3 => ?_
  try simp only [TUP_mk, AGG_mk, HD_mk, NL_mk, TYI_mk, TYB_mk, TYP_mk, TYL_mk, TYS_mk, TYM_mk, SO_mk, NX_mk, endK_mk, endK_mk', add_0]
  exact J4 _ s3 (e2.trans e3) (fun _ => h40)
end
end Go.Proofs.Ytfaeokcbfnlgbaa.G

/- PrizeLooks, from any arguments. -/
namespace Go.Proofs.Ytfaeokcbfnlgbaa.G
open Go.V
theorem v_PrizeLooks {W : World} {s : Hp} {v0 v1 : Value} (k0 : RdV Pg s 25 v0) (k1 : RdV Pg s 3 v1) : CALL Pg W F_law13_PrizeLooks [v0, v1] (fun v s' => v = .bool true ∧ Ext s s') (fun _ _ => False) s := by
  obtain ⟨x, c, y, c', T, rfl, hx, hy⟩ := prizes_rd k0
  obtain ⟨n, rfl⟩ := int_rd k1
  exact w_PrizeLooks hx hy fun s' e => ⟨rfl, e⟩
end Go.Proofs.Ytfaeokcbfnlgbaa.G

/- The row of the statement PrizeLooks. -/
namespace Go.Proofs.Ytfaeokcbfnlgbaa.prizeLooks
open Go.ChangeShapes Go.WideShapes Go.ChangeAt Go.RowKit Go.V
set_option linter.unusedVariables false
theorem own : ownKnob Try.prog.godebug = none := by kernel_rfl
theorem laidOut : laidOutB Try.prog = true := by kernel_rfl
set_option maxRecDepth 100000 in
theorem lifted (os : Os) (started : os.Started) (H : Type) (enc : TypeId × Value → H) :
    ReturnsInHanded {} Try.checked os 4 .any (Rows.prizeLooksSpec.pre6 enc Try.prog Try.f4 Rows.prizeLooksRow.domain false) (Rows.prizeLooksSpec.post enc Try.prog Try.f4 false true false false) := by
  refine returnsInHanded_of_change_sized (C := Try.checked) own started (by kernel_rfl) Try.func4
    (ChangeSpec.witness6 (enc := enc) (C := Try.checked) false ⟨#[], #[(.agg #[(.slice none 0 0), (.slice none 0 0)]), (.int .i64 0)], []⟩ 8 (by kernel_rfl) (by kernel_rfl) (by kernel_rfl) (by kernel_rfl)) ?_
  intro W base args ds gs before hval0 hW hcnd hsz0 _
  have hsz : (DataW.weightsEach Try.prog (Try.f4.params.toList ++ Rows.prizeLooksSpec.plain.varTypes Try.prog) (ds ++ gs)).all (· ≤ reachBytes) = true := hsz0
  have hval : ∀ (j : Nat) t v, Try.f4.params[j]? = some t → args[j]? = some v → Value.okWide Try.prog W .any base t v := hval0
  have hW' := hW
  obtain ⟨p, q, hA0, hV, rfl, hfz, hnd⟩ := hW
  have hA : DataW.TrodAll enc Try.prog W 0 (fun _ => true) true Try.f4.params.toList args.toList ds p := hA0
  rw [Try.params4] at hA hval hsz
  obtain ⟨v0, vs0, d0, ds0, p0, q0, hargs, rfl, rfl, h0, r0⟩ := trodAll_cons hA
  obtain ⟨v1, vs1, d1, ds1, p1, q1, rfl, rfl, rfl, h1, r1⟩ := trodAll_cons r0
  obtain ⟨rfl, rfl, rfl⟩ := trodAll_nil r1
  obtain rfl : args = #[v0, v1] := by cases args; simp_all
  obtain ⟨rfl, rfl⟩ := trodVars_none hV
  have k0 := trod_rdV (hval 0 25 v0 rfl rfl) h0
  have lt0 : ∀ x ∈ p0, x.block < W.heap.size := by obtain ⟨m, hm⟩ := h0; exact DataW.trod_lt m _ _ _ hm
  have k1 := trod_rdV (hval 1 3 v1 rfl rfl) h1
  have lt1 : ∀ x ∈ p1, x.block < W.heap.size := by obtain ⟨m, hm⟩ := h1; exact DataW.trod_lt m _ _ _ hm
  refine (calls_of_does (does_of_call (G.v_PrizeLooks (W := W) (s := W.heap) k0 k1))).mono fun e W' ⟨he, bel⟩ => ?_
  subst he
  exact ⟨_, rfl, _, _, _, [], _, [], hW', trodAll_mk1 (shut_bool Try.underlying4 _), (trodAll_cons_mk (Below.trod laidOut (by kernel_rfl) (of_decide_eq_true (by kernel_rfl)) h0 bel lt0) (trodAll_cons_mk (Below.trod laidOut (by kernel_rfl) (of_decide_eq_true (by kernel_rfl)) h1 bel lt1) trodAll_mk0)), rfl, bel.frame _, fun h => by cases h⟩
theorem over : Rows.prizeLooksRow.holds Try.pinned (OpenSpec.ofChange Rows.prizeLooksSpec) :=
  OpenClaim.holds_of_wide 4 Try.f4 rfl rfl rfl rfl rfl rfl rfl ⟨rfl, rfl, rfl, rfl, rfl⟩ rfl rfl rfl rfl rfl (by kernel_rfl) Try.func4 (by kernel_rfl)
    (of_decide_eq_true (by kernel_rfl)) (by unfold Func.isWrapper; first | (rw [if_pos (by decide +kernel)]; kernel_rfl) | (rw [if_neg (by decide +kernel)]; exact ⟨rfl, rfl⟩))
    (fun os started H enc _ => lifted os started H enc)
theorem proved : Rows.PrizeLooksSaid := over
end Go.Proofs.Ytfaeokcbfnlgbaa.prizeLooks
namespace Go.Proofs.Ytfaeokcbfnlgbaa
/-- The row, under a short name. -/
theorem prizeLooks_holds : Rows.PrizeLooksSaid := prizeLooks.proved
end Go.Proofs.Ytfaeokcbfnlgbaa
