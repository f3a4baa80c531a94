import Derived.Test.YtocnkdkgajdejaaC1
/- Lemmas: contracts over the visible heap, and that they are sound; no condition. -/
/- Contracts of lot's functions: what looks at lots. -/
set_option linter.unusedSimpArgs false
set_option linter.unusedVariables false
namespace Go.Proofs.Ytocnkdkgajdejaa.G
open Go.V Go.Lot

theorem zc_118 : zc Pg 118 = [.int .i64 0] := by kernel_rfl
theorem zc_116 : zc Pg 116 = [.int .i64 0, .nilFunc] := by kernel_rfl
theorem zc_3 : zc Pg 3 = [.int .i64 0] := by kernel_rfl

/-- A list of ploughmen lies behind an address. -/
def MenAt (s : Hp) (x : Option Addr) (ms : List Man) : Prop := ∀ i, (h : i < ms.length) → ∃ a, x = some a ∧
  cellAt s ((a.add (i * 3)).add 0) = some (.int .i64 ms[i].club) ∧ cellAt s ((a.add (i * 3)).add 1) = some (.bool ms[i].left) ∧ cellAt s ((a.add (i * 3)).add 2) = some (.bool ms[i].nov)
theorem MenAt.ext {s s' : Hp} {x : Option Addr} {ms : List Man} (e : Ext s s') (h : MenAt s x ms) : MenAt s' x ms := fun i hi => by
  obtain ⟨a, h0, h1, h2, h3⟩ := h i hi
  exact ⟨a, h0, e.cell h1, e.cell h2, e.cell h3⟩
def RulesAt (s : Hp) (r : Addr) : Prop :=
  cellAt s ((r.add (0 * 2)).add 0) = some (.int .i64 1) ∧ cellAt s ((r.add (0 * 2)).add 1) = some (.func (.func 81) #[] #[]) ∧
  cellAt s ((r.add (1 * 2)).add 0) = some (.int .i64 2) ∧ cellAt s ((r.add (1 * 2)).add 1) = some (.func (.func 83) #[] #[]) ∧
  cellAt s ((r.add (2 * 2)).add 0) = some (.int .i64 3) ∧ cellAt s ((r.add (2 * 2)).add 1) = some (.func (.func 84) #[] #[])
/-- Lots that are looked at. -/
structure LotsO (s : Hp) (p : Addr) (L : Lts) : Prop where
  ok : valid L = true
  mem : ∃ x c, cellAt s ((p.add 0).add 0) = some (.slice x L.n c) ∧ MenAt s x L.men
  wst : cellAt s ((p.add 0).add 1) = some (.int .i64 L.worst)
  rul : ∃ r, cellAt s (p.add 2) = some (.slice (some r) 3 3) ∧ RulesAt s r
theorem LotsO.ext {s s' : Hp} {p : Addr} {L : Lts} (e : Ext s s') (h : LotsO s p L) : LotsO s' p L where
  ok := h.ok
  mem := by obtain ⟨x, c, h1, h2⟩ := h.mem; exact ⟨x, c, e.cell h1, h2.ext e⟩
  wst := e.cell h.wst
  rul := by
    obtain ⟨r, h1, a, b, c, d, f, g⟩ := h.rul
    exact ⟨r, e.cell h1, e.cell a, e.cell b, e.cell c, e.cell d, e.cell f, e.cell g⟩
structure Vd (L : Lts) : Prop where
  lo : 1 ≤ L.n
  hi : L.n ≤ 8
  w0 : 0 ≤ L.worst
  w1 : L.worst ≤ 2 ^ L.n - 1
  club : ∀ m ∈ L.men, 0 ≤ m.club ∧ m.club ≤ 9
theorem vd_iff {L : Lts} : valid L = true ↔ Vd L := by
  unfold valid
  simp only [Bool.and_eq_true, decide_eq_true_eq, List.all_eq_true]
  exact ⟨fun ⟨⟨⟨⟨a, b⟩, c⟩, d⟩, e⟩ => ⟨a, b, c, d, e⟩, fun h => ⟨⟨⟨⟨h.lo, h.hi⟩, h.w0⟩, h.w1⟩, h.club⟩⟩

theorem pow8 : ∀ n : Nat, n ≤ 8 → (2 : Int) ^ n ≤ 256 := by decide
theorem Vd.w8 {L : Lts} (v : Vd L) : L.worst ≤ 255 := by have := v.w1; have := pow8 _ v.hi; omega

section
variable {W : World} {K : VK} {E : List PanicEntry → Hp → Prop} {s : Hp} {L : Lts} {p : Addr}

theorem c_within {a b c : Int} (h : K (.bool (decide (b ≤ a ∧ a ≤ c))) s) : CALL Pg W F_lot_within [.int .i64 a, .int .i64 b, .int .i64 c] K E s := by
  refine does_lot_within W a b c _ s ?_
  refine BR_dec (fun h1 => ?_) (fun h1 => ?_)
  · show K _ s
    have : decide (b ≤ a ∧ a ≤ c) = decide (a ≤ c) := by simp [h1]
    rw [← this]; exact h
  · show K _ s
    have : decide (b ≤ a ∧ a ≤ c) = false := by simp [h1]
    rw [← this]; exact h
theorem c_must {b : Bool} {e : Int} (h1 : b = true → K (.tuple #[]) s) (h2 : b = false → E [{ v := .iface 105 (.agg #[.int .i64 e]), recovered := false }] s) : CALL Pg W F_lot_must [.bool b, .int .i64 e] K E s := by
  refine does_lot_must W b e _ s ?_
  exact BR_not (fun h => h2 h) (fun h => h1 h)
theorem has_eq (w i : Nat) (hw : w < 2 ^ 64) : ((andv .u64 (shrv .u64 w i) 1) == 1) = w.testBit i := by
  have h1 : shrv .u64 (w : Int) (i : Int) = ((w >>> min i 64 : Nat) : Int) := by
    unfold shrv
    rw [Nat.shiftRight_eq_div_pow]
    show Int.fdiv (w : Int) (2 ^ (min i 64)) = _
    rw [Int.fdiv_eq_ediv_of_nonneg _ (Int.pow_nonneg (by omega))]
    rw [Int.natCast_ediv]
    congr 1
  rw [h1]
  generalize hx : w >>> min i 64 = x
  have hxl : x < 2 ^ 64 := by rw [← hx, Nat.shiftRight_eq_div_pow]; exact Nat.lt_of_le_of_lt (Nat.div_le_self _ _) hw
  have h2 : andv .u64 (x : Int) 1 = ((x % 2 : Nat) : Int) := by
    unfold andv
    have e1 : BitVec.ofInt (IntKind.bits .u64) (x : Int) = BitVec.ofNat 64 x := by simp [IntKind.bits]
    have e2 : BitVec.ofInt (IntKind.bits .u64) 1 = BitVec.ofNat 64 1 := rfl
    rw [e1, e2]
    have e3 : (BitVec.ofNat 64 x &&& BitVec.ofNat 64 1).toNat = x % 2 := by
      rw [BitVec.toNat_and, BitVec.toNat_ofNat, BitVec.toNat_ofNat, Nat.mod_eq_of_lt hxl]
      exact Nat.and_one_is_mod x
    show IntKind.wrap .u64 ((BitVec.ofNat 64 x &&& BitVec.ofNat 64 1).toNat : Int) = _
    rw [e3]
    exact wrap_u64 (by omega) (by omega)
  rw [h2]
  have h3 : w.testBit i = decide (x % 2 = 1) := by
    by_cases hi : i ≤ 64
    · rw [Nat.min_eq_left hi] at hx
      rw [← hx, Nat.testBit_eq_decide_div_mod_eq, Nat.shiftRight_eq_div_pow]
    · have hb : w.testBit i = false := Nat.testBit_lt_two_pow (Nat.lt_of_lt_of_le hw (Nat.pow_le_pow_right (by omega) (by omega)))
      have : x = 0 := by
        rw [← hx, Nat.min_eq_right (by omega), Nat.shiftRight_eq_div_pow]
        exact Nat.div_eq_of_lt hw
      rw [hb, this]; rfl
  rw [h3]
  by_cases h : x % 2 = 1 <;> simp [h] <;> omega
theorem c_has {w i : Nat} (hw : w < 2 ^ 64) (h : K (.bool (w.testBit i)) s) : CALL Pg W F_lot_set_has [.int .u64 w, .int .i64 i] K E s := by
  refine does_lot_set_has W w i _ s ?_
  show endK K E (.returned (.bool _)) s
  rw [has_eq w i hw]; exact h
theorem c_plots (hl : LotsO s p L) (h : K (.int .i64 L.n) s) : CALL Pg W F_lot_lots_plots [.pointer (some p)] K E s := by
  refine does_lot_lots_plots W (some p) _ s ?_
  obtain ⟨x, c, h1, h2⟩ := hl.mem
  exact ⟨x, L.n, c, h1, h⟩
theorem c_is {n : Int} (hl : LotsO s p L) (h : K (.bool (decide (0 ≤ n ∧ n ≤ (L.n : Int) - 1))) s) : CALL Pg W F_lot_lots_is [.pointer (some p), .int .i64 n] K E s := by
  refine does_lot_lots_is W (some p) n _ s ?_
  refine c_plots hl ⟨rfl, ?_⟩
  dsimp only
  have v := vd_iff.1 hl.ok
  rw [wrap_i64 (by have := v.lo; omega) (by have := v.hi; omega)]
  exact c_within h
theorem c_all (hl : LotsO s p L) (h : K (.int .u64 (full L.n)) s) : CALL Pg W F_lot_lots_all [.pointer (some p)] K E s := by
  refine does_lot_lots_all W (some p) _ s ?_
  refine c_plots hl ⟨rfl, ?_⟩
  show endK K E (.returned (.int .u64 _)) s
  have v := vd_iff.1 hl.ok
  have : IntKind.wrap .u64 ((shlv .u64 1 (L.n : Int)) - 1) = (full L.n : Int) := by
    have key : ∀ n : Nat, n ≤ 8 → IntKind.wrap .u64 ((shlv .u64 1 (n : Int)) - 1) = (full n : Int) := by decide
    exact key _ v.hi
  rw [this]; exact h
theorem men_get (hl : LotsO s p L) {m : Nat} (hm : m < L.n) : man L m = L.men[m] := by
  unfold man; simp [List.getD, show m < L.men.length from hm]; rfl
theorem c_club {m : Nat} (hl : LotsO s p L) (hm : m < L.n) (h : ∀ s', Ext s s' → K (.agg #[.int .i64 (man L m).club]) s') : CALL Pg W F_lot_lots_club [.pointer (some p), .int .i64 m] K E s := by
  refine does_lot_lots_club W (some p) m _ s ?_
  obtain ⟨x, c, h1, h2⟩ := hl.mem
  obtain ⟨a, rfl, h3, h4, h5⟩ := h2 m hm
  unfold T_lot_lots_club NEWZ
  rw [zc_118]
  refine ⟨_, _, _, cell_push h1, a, rfl, ⟨by omega, by omega⟩, _, cell_push h3, ?_⟩
  refine WR_own (own_new (i := 0) rfl) rfl ⟨_, own_cell (own_set (own_new (i := 0) rfl)), ?_⟩
  rw [men_get hl hm] at h
  exact h _ (Ext.setC (Ext.push (Ext.refl s)) (Nat.le_refl _))
end
end Go.Proofs.Ytocnkdkgajdejaa.G

/- Contracts: the rules, how many are broken. -/
set_option linter.unusedSimpArgs false
set_option linter.unusedVariables false
namespace Go.Proofs.Ytocnkdkgajdejaa.G
open Go.V Go.Lot

section
variable {W : World} {K : VK} {E : List PanicEntry → Hp → Prop} {s : Hp} {L : Lts} {p : Addr}

theorem c_r1 {q m b : Nat} (hl : LotsO s p L) (hm : m < L.n) (hb : b = 8 ∨ b < L.n) (h : ∀ s', Ext s s' → K (.bool (r1 L m b)) s') : CALL Pg W F_lot_rules_c1 [.pointer (some p), .int .i64 q, .int .i64 m, .int .i64 b] K E s := by
  refine does_lot_rules_c1 W (some p) q m b _ s ?_
  unfold T_lot_rules_c1
  try simp only [TUP_mk, AGG_mk, HD_mk, NL_mk, TYI_mk, TYB_mk, TYP_mk, TYL_mk, TYS_mk, TYM_mk, SO_mk, NX_mk, endK_mk, endK_mk', add_0]
  refine BR_ne (fun h1 => ?_) (fun h1 => ?_)
  · have hb8 : b ≠ 8 := by omega
    have hbn := hb.resolve_left hb8
    refine c_club hl hm fun s1 e1 => ?_
    try simp only [TUP_mk, AGG_mk, HD_mk, NL_mk, TYI_mk, TYB_mk, TYP_mk, TYL_mk, TYS_mk, TYM_mk, SO_mk, NX_mk, endK_mk, endK_mk', add_0]
    refine BR_not (fun h2 => ?_) (fun h2 => ?_)
    · refine c_club (hl.ext e1) hm fun s2 e2 => ?_
      try simp only [TUP_mk, AGG_mk, HD_mk, NL_mk, TYI_mk, TYB_mk, TYP_mk, TYL_mk, TYS_mk, TYM_mk, SO_mk, NX_mk, endK_mk, endK_mk', add_0]
      refine c_club (hl.ext (e1.trans e2)) hbn fun s3 e3 => ?_
      try simp only [TUP_mk, AGG_mk, HD_mk, NL_mk, TYI_mk, TYB_mk, TYP_mk, TYL_mk, TYS_mk, TYM_mk, SO_mk, NX_mk, endK_mk, endK_mk', add_0]
      have : r1 L m b = ((man L m).club == (man L b).club) := by
        unfold r1
        have h2' : (man L m).club ≠ 0 := by simpa using h2
        simp [hb8, h2', Bool.beq_eq_decide_eq]
      rw [← this]
      exact h s3 ((e1.trans e2).trans e3)
    · have : r1 L m b = false := by unfold r1; have h2' : (man L m).club = 0 := by simpa using h2
                                    simp [h2']
      rw [← this]
      exact h s1 e1
  · have hb8 : b = 8 := by omega
    have : r1 L m b = false := by unfold r1; simp [hb8]
    rw [← this]
    exact h s (Ext.refl s)
theorem c_r2 {q m : Nat} {b : Int} (hl : LotsO s p L) (hm : m < L.n) (h : K (.bool (r2 L q m)) s) : CALL Pg W F_lot_rules_c2 [.pointer (some p), .int .i64 q, .int .i64 m, .int .i64 b] K E s := by
  refine does_lot_rules_c2 W (some p) q m b _ s ?_
  unfold T_lot_rules_c2
  obtain ⟨x, c, h1, h2⟩ := hl.mem
  obtain ⟨a, rfl, h3, h4, h5⟩ := h2 m hm
  have v := vd_iff.1 hl.ok
  try simp only [TUP_mk, AGG_mk, HD_mk, NL_mk, TYI_mk, TYB_mk, TYP_mk, TYL_mk, TYS_mk, TYM_mk, SO_mk, NX_mk, endK_mk, endK_mk', add_0]
  refine ⟨_, _, _, h1, a, rfl, ⟨by omega, by omega⟩, _, h4, ?_⟩
  rw [← men_get hl hm]
  refine BR_bool (fun h6 => ?_) (fun h6 => ?_)
  · refine BR_dec (fun h7 => ?_) (fun h7 => ?_)
    · refine c_plots hl ?_
      try simp only [TUP_mk, AGG_mk, HD_mk, NL_mk, TYI_mk, TYB_mk, TYP_mk, TYL_mk, TYS_mk, TYM_mk, SO_mk, NX_mk, endK_mk, endK_mk', add_0]
      have : r2 L q m = decide ((q : Int) < IntKind.i64.wrap ((L.n : Int) - 1)) := by
        unfold r2
        rw [wrap_i64 (by have := v.lo; omega) (by have := v.hi; omega)]
        have hq : q > 0 := by omega
        simp only [h6, hq, decide_true, Bool.true_and]
        have := v.lo
        congr 1
        apply propext
        omega
      rw [← this]; exact h
    · have : r2 L q m = false := by unfold r2; have : ¬ q > 0 := by omega
                                    simp [this]
      rw [← this]; exact h
  · have : r2 L q m = false := by unfold r2; simp [h6]
    rw [← this]; exact h
theorem c_r3 {q m : Nat} {b : Int} (hl : LotsO s p L) (hm : m < L.n) (h : K (.bool (r3 L q m)) s) : CALL Pg W F_lot_rules_c3 [.pointer (some p), .int .i64 q, .int .i64 m, .int .i64 b] K E s := by
  refine does_lot_rules_c3 W (some p) q m b _ s ?_
  unfold T_lot_rules_c3
  obtain ⟨x, c, h1, h2⟩ := hl.mem
  obtain ⟨a, rfl, h3, h4, h5⟩ := h2 m hm
  have v := vd_iff.1 hl.ok
  try simp only [TUP_mk, AGG_mk, HD_mk, NL_mk, TYI_mk, TYB_mk, TYP_mk, TYL_mk, TYS_mk, TYM_mk, SO_mk, NX_mk, endK_mk, endK_mk', add_0]
  refine ⟨_, _, _, h1, a, rfl, ⟨by omega, by omega⟩, _, h5, ?_⟩
  rw [← men_get hl hm]
  refine BR_bool (fun h6 => ?_) (fun h6 => ?_)
  · refine ⟨_, hl.wst, ?_⟩
    have hw : L.worst = (L.worst.toNat : Int) := (Int.toNat_of_nonneg v.w0).symm
    have hlt : L.worst.toNat < 2 ^ 64 := by
      have h7 := v.w8
      omega
    dsimp only
    rw [wrap_u64 v.w0 (by have := v.w8; omega), hw]
    refine c_has hlt ?_
    try simp only [TUP_mk, AGG_mk, HD_mk, NL_mk, TYI_mk, TYB_mk, TYP_mk, TYL_mk, TYS_mk, TYM_mk, SO_mk, NX_mk, endK_mk, endK_mk', add_0]
    have : r3 L q m = L.worst.toNat.testBit q := by unfold r3 bad; simp [h6]
    rw [← this]; exact h
  · have : r3 L q m = false := by unfold r3; simp [h6]
    rw [← this]; exact h
end
end Go.Proofs.Ytocnkdkgajdejaa.G

/- Contracts: how many rules are broken. -/
set_option linter.unusedSimpArgs false
set_option linter.unusedVariables false
namespace Go.Proofs.Ytocnkdkgajdejaa.G
open Go.V Go.Lot

def rr (L : Lts) (q m b : Nat) : Nat → Bool
  | 0 => r1 L m b
  | 1 => r2 L q m
  | _ => r3 L q m
def bk (L : Lts) (q m b : Nat) : Nat → Nat
  | 0 => 0
  | k + 1 => bk L q m b k + b2n (rr L q m b k)
def fk (L : Lts) (q m b : Nat) : Nat → Nat
  | 0 => 0
  | k + 1 => if bk L q m b k = 0 ∧ rr L q m b k = true then k + 1 else fk L q m b k
theorem bk3 (L : Lts) (q m b : Nat) : bk L q m b 3 = brk L q m b := by simp [bk, rr, brk]
theorem fk3 (L : Lts) (q m b : Nat) : fk L q m b 3 = fst L q m b := by
  simp only [fk, bk, rr, fst, b2n]
  cases r1 L m b <;> cases r2 L q m <;> cases r3 L q m <;> rfl
theorem bk_le (L : Lts) (q m b : Nat) : ∀ k, bk L q m b k ≤ k
  | 0 => Nat.le_refl _
  | k + 1 => by have := bk_le L q m b k; simp only [bk, b2n]; split <;> omega

section
variable {W : World} {K : VK} {E : List PanicEntry → Hp → Prop} {s : Hp} {L : Lts} {p : Addr}

theorem c_rr {q m b k : Nat} (hl : LotsO s p L) (hm : m < L.n) (hb : b = 8 ∨ b < L.n) (hk : k < 3) {r : Addr} (hr : RulesAt s r) :
    ∃ f, cellAt s ((r.add (k * 2)).add 0) = some (.int .i64 (k + 1 : Nat)) ∧ cellAt s ((r.add (k * 2)).add 1) = some (.func (.func f) #[] #[]) ∧
      ∀ (K : VK) (E : List PanicEntry → Hp → Prop) (s1 : Hp), Ext s s1 → (∀ s2, Ext s1 s2 → K (.bool (rr L q m b k)) s2) → CALL Pg W f [.pointer (some p), .int .i64 q, .int .i64 m, .int .i64 b] K E s1 := by
  obtain ⟨h1, h2, h3, h4, h5, h6⟩ := hr
  match k, hk with
  | 0, _ => exact ⟨81, h1, h2, fun K E s1 e h => c_r1 (hl.ext e) hm hb h⟩
  | 1, _ => exact ⟨83, h3, h4, fun K E s1 e h => c_r2 (hl.ext e) hm (h s1 (Ext.refl _))⟩
  | 2, _ => exact ⟨84, h5, h6, fun K E s1 e h => c_r3 (hl.ext e) hm (h s1 (Ext.refl _))⟩
theorem c_broken {q m b : Nat} (hl : LotsO s p L) (hm : m < L.n) (hb : b = 8 ∨ b < L.n) (h : ∀ s', Ext s s' → K (.tuple #[.int .i64 (brk L q m b), .int .i64 (fst L q m b)]) s') :
    CALL Pg W F_lot_lots_broken [.pointer (some p), .int .i64 q, .int .i64 m, .int .i64 b] K E s := by
  refine does_lot_lots_broken W (some p) q m b _ s ?_
  obtain ⟨r, h1, hr⟩ := hl.rul
  unfold T_lot_lots_broken
  try simp only [TUP_mk, AGG_mk, HD_mk, NL_mk, TYI_mk, TYB_mk, TYP_mk, TYL_mk, TYS_mk, TYM_mk, SO_mk, NX_mk, endK_mk, endK_mk', add_0]
  refine ⟨_, _, _, h1, ?_⟩
  refine L_lot_lots_broken_0_rule W _ (some p) q m b (some r) 3 3 _ (fun n9 n10 n11 s' => ∃ k : Nat, k ≤ 3 ∧ n11 = k ∧ n9 = bk L q m b k ∧ n10 = fk L q m b k ∧ Ext s s') (fun _ _ n11 _ => (3 - n11).toNat) 0 0 0 s ⟨0, by omega, rfl, rfl, rfl, Ext.refl _⟩ ?_
  rintro n9 n10 n11 s1 ⟨k, hk, rfl, rfl, rfl, e1⟩
  unfold B_lot_lots_broken_0
  refine BR_dec (fun h2 => ?_) (fun h2 => ?_)
  · have hk3 : k < 3 := by omega
    obtain ⟨f, g1, g2, g3⟩ := c_rr (W := W) (q := q) hl hm hb hk3 hr
    refine ⟨r, rfl, ⟨by omega, by omega⟩, ?_⟩
    have hkk : ((k : Int)).toNat = k := by omega
    rw [hkk]
    refine ⟨_, e1.cell g1, _, e1.cell g2, ?_⟩
    unfold NEWZ
    rw [zc_116]
    refine WR_own (own_new (i := 0) rfl) rfl ?_
    refine WR_own (own_set_ne (.inr (by simp [Addr.add])) (own_new (i := 1) rfl)) rfl ?_
    refine ⟨_, own_cell (own_set (own_set_ne (.inr (by simp [Addr.add])) (own_new (i := 1) rfl))), ?_⟩
    refine CALLV_func ?_
    refine g3 _ _ _ (Ext.setC (Ext.setC (Ext.push e1) ?_) ?_) ?_
    · exact e1.1
    · exact e1.1
    intro s2 e2
    have hnum : cellAt s2 ⟨s1.size, 0, none⟩ = some (.int .i64 (k + 1 : Nat)) := e2.cell (own_cell (own_set_ne (.inr (by simp [Addr.add])) (own_set (own_new (i := 0) rfl))))
    have e3 : Ext s s2 := (Ext.setC (Ext.setC (Ext.push e1) e1.1) e1.1).trans e2
    have hble := bk_le L q m b k
    have hw : IntKind.i64.wrap ((k : Int) + 1) = ((k + 1 : Nat) : Int) := by rw [wrap_i64 (by omega) (by omega)]; rfl
    have hms : (3 - IntKind.i64.wrap ((k : Int) + 1)).toNat < (3 - (k : Int)).toNat := by rw [hw]; omega
    try simp only [TUP_mk, AGG_mk, HD_mk, NL_mk, TYI_mk, TYB_mk, TYP_mk, TYL_mk, TYS_mk, TYM_mk, SO_mk, NX_mk, endK_mk, endK_mk', add_0]
    refine BR_not (fun h3 => ?_) (fun h3 => ?_)
    · refine ⟨_, _, _, rfl, ⟨k + 1, by omega, ?_, ?_, ?_, e3⟩, ?_⟩
      · exact hw
      · simp [bk, h3, b2n]
      · simp [fk, h3]
      · exact hms
    · refine BR_eq (fun h4 => ?_) (fun h4 => ?_)
      · refine ⟨_, hnum, _, _, _, rfl, ⟨k + 1, by omega, ?_, ?_, ?_, e3⟩, ?_⟩
        · exact hw
        · rw [wrap_i64 (by omega) (by omega)]; simp [bk, h3, b2n]
        · have : bk L q m b k = 0 := by omega
          simp [fk, h3, this]
        · exact hms
      · refine ⟨_, _, _, rfl, ⟨k + 1, by omega, ?_, ?_, ?_, e3⟩, ?_⟩
        · exact hw
        · rw [wrap_i64 (by omega) (by omega)]; simp [bk, h3, b2n]
        · have : bk L q m b k ≠ 0 := by omega
          simp [fk, this]
        · exact hms
  · have hk3 : k = 3 := by omega
    subst hk3
    try simp only [TUP_mk, AGG_mk, HD_mk, NL_mk, TYI_mk, TYB_mk, TYP_mk, TYL_mk, TYS_mk, TYM_mk, SO_mk, NX_mk, endK_mk, endK_mk', add_0]
    rw [bk3, fk3]
    exact h s1 e1
end
end Go.Proofs.Ytocnkdkgajdejaa.G

/- Contracts: who is in a set, and what comes out of it. -/
set_option linter.unusedSimpArgs false
set_option linter.unusedVariables false
namespace Go.Proofs.Ytocnkdkgajdejaa.G
open Go.V Go.Lot

theorem LotsO.blind {p : Addr} {L : Lts} : Blind (fun s => LotsO s p L) := by
  intro s l o hl ho h
  refine ⟨h.ok, ?_, cell_blind hl h.wst, ?_⟩
  · obtain ⟨x, c, h1, h2⟩ := h.mem
    refine ⟨x, c, cell_blind hl h1, fun i hi => ?_⟩
    obtain ⟨a, h3, h4, h5, h6⟩ := h2 i hi
    exact ⟨a, h3, cell_blind hl h4, cell_blind hl h5, cell_blind hl h6⟩
  · obtain ⟨r, h1, a, b, c, d, f, g⟩ := h.rul
    exact ⟨r, cell_blind hl h1, cell_blind hl a, cell_blind hl b, cell_blind hl c, cell_blind hl d, cell_blind hl f, cell_blind hl g⟩

/-- How many are in a set below somebody. -/
def below (left m : Nat) : Nat := (menOf m left).length
theorem menOf_succ (m left : Nat) : menOf (m + 1) left = menOf m left ++ (if left.testBit m then [m] else []) := by
  unfold menOf
  rw [List.range_succ, List.filter_append]
  congr 1
  cases h : left.testBit m <;> simp [h]
theorem below_succ (m left : Nat) : below left (m + 1) = below left m + (if left.testBit m then 1 else 0) := by
  unfold below
  rw [menOf_succ, List.length_append]
  split <;> simp
theorem menOf_pre : ∀ (d m left : Nat), ∃ l, menOf (m + d) left = menOf m left ++ l
  | 0, m, left => ⟨[], by simp⟩
  | d + 1, m, left => by
    obtain ⟨l, h⟩ := menOf_pre d m left
    exact ⟨_, by rw [← Nat.add_assoc, menOf_succ, h, List.append_assoc]⟩
theorem menOf_get {n m left : Nat} (hm : m < n) (hb : left.testBit m = true) : (menOf n left)[below left m]? = some m := by
  obtain ⟨l, h⟩ := menOf_pre (n - (m + 1)) (m + 1) left
  rw [show m + 1 + (n - (m + 1)) = n by omega] at h
  rw [h, menOf_succ, hb, if_pos rfl, List.append_assoc]
  unfold below
  rw [List.getElem?_append_right (Nat.le_refl _)]
  simp

section
variable {W : World} {K : VK} {E : List PanicEntry → Hp → Prop} {s : Hp} {L : Lts} {p : Addr}

theorem c_men {left : Nat} (h : ∀ s' a b, Ext s s' → s.size ≤ a.block → s.size ≤ b.block → cellAt s' a = some (.pointer (some p)) → cellAt s' b = some (.int .u64 left) → K (.func (.func 80) #[] #[.pointer (some a), .pointer (some b)]) s') :
    CALL Pg W F_lot_lots_men [.pointer (some p), .int .u64 left] K E s := by
  refine does_lot_lots_men W (some p) left _ s ?_
  unfold T_lot_lots_men NEW
  try simp only [TUP_mk, AGG_mk, HD_mk, NL_mk, TYI_mk, TYB_mk, TYP_mk, TYL_mk, TYS_mk, TYM_mk, SO_mk, NX_mk, endK_mk, endK_mk', add_0]
  exact h _ _ _ (Ext.push (Ext.push (Ext.refl s))) (Nat.le_refl _) (by simp) (cell_push (cell_new (i := 0) rfl)) (cell_new (i := 0) rfl)

def MenR (p : Addr) (L : Lts) (a b : Addr) (left : Nat) : Hp → Prop := fun s => LotsO s p L ∧ cellAt s a = some (.pointer (some p)) ∧ cellAt s b = some (.int .u64 left)
theorem MenR.blind {a b : Addr} {left : Nat} : Blind (MenR p L a b left) := fun s l o hl ho h => ⟨LotsO.blind s l o hl ho h.1, cell_blind hl h.2.1, cell_blind hl h.2.2⟩
theorem MenR.ext {a b : Addr} {left : Nat} {s s' : Hp} (e : Ext s s') (h : MenR p L a b left s) : MenR p L a b left s' := ⟨h.1.ext e, e.cell h.2.1, e.cell h.2.2⟩
def menV (n left : Nat) : List (List Value) := (menOf n left).map fun (m : Nat) => [.int .i64 (m : Int)]

theorem it_men {a b : Addr} {left : Nat} (hlt : left < 2 ^ 64) : IterC Pg W (.func (.func 80) #[] #[.pointer (some a), .pointer (some b)]) (menV L.n left) (MenR p L a b left) := by
  refine ⟨⟨_, _, _, rfl⟩, fun y I J s hR hext hy h0 => ?_⟩
  refine does_lot_lots_men_c1 W y a b _ s ?_
  have r0 := hR 0 s h0
  unfold T_lot_lots_men_c1
  refine ⟨_, r0.2.1, ?_⟩
  refine c_plots r0.1 ?_
  try simp only [TUP_mk, AGG_mk, HD_mk, NL_mk, TYI_mk, TYB_mk, TYP_mk, TYL_mk, TYS_mk, TYM_mk, SO_mk, NX_mk, endK_mk, endK_mk', add_0]
  refine L_lot_lots_men_c1_0_rule W _ y b L.n (fun n8 s' => ∃ m : Nat, m ≤ L.n ∧ n8 = m ∧ I (below left m) s') (fun n8 _ => (L.n - n8).toNat) 0 s ⟨0, by omega, rfl, h0⟩ ?_
  rintro n8 s1 ⟨m, hm, rfl, hI⟩
  have r1 := hR _ _ hI
  have v := vd_iff.1 r1.1.ok
  have hn8 := v.hi
  unfold B_lot_lots_men_c1_0
  have hw : m < L.n → IntKind.i64.wrap ((m : Int) + 1) = ((m + 1 : Nat) : Int) := fun h => by rw [wrap_i64 (by omega) (by omega)]; rfl
  have hms : m < L.n → ((L.n : Int) - IntKind.i64.wrap ((m : Int) + 1)).toNat < ((L.n : Int) - (m : Int)).toNat := fun h => by rw [hw h]; omega
  refine BR_dec (fun h2 => ?_) (fun h2 => ?_)
  · have hmn : m < L.n := by omega
    refine ⟨_, r1.2.2, ?_⟩
    refine c_has hlt ?_
    try simp only [TUP_mk, AGG_mk, HD_mk, NL_mk, TYI_mk, TYB_mk, TYP_mk, TYL_mk, TYS_mk, TYM_mk, SO_mk, NX_mk, endK_mk, endK_mk', add_0]
    refine BR_not (fun h3 => ?_) (fun h3 => ?_)
    · exact ⟨_, rfl, ⟨m + 1, hmn, hw hmn, by rw [below_succ, h3]; exact hI⟩, hms hmn⟩
    · have hx : (menV L.n left)[below left m]? = some [.int .i64 (m : Int)] := by
        unfold menV
        rw [List.getElem?_map, menOf_get hmn h3]
        rfl
      refine DoesV.mono (hy _ _ hx s1 hI) ?_
      rintro e s2 (⟨rfl, hI2⟩ | ⟨rfl, hJ⟩)
      · refine ⟨_, rfl, ⟨m + 1, hmn, hw hmn, ?_⟩, hms hmn⟩
        rw [below_succ, h3]; exact hI2
      · exact ⟨⟨_, rfl⟩, .inr hJ⟩
  · have hmn : m = L.n := by omega
    subst hmn
    refine ⟨⟨_, rfl⟩, .inl ?_⟩
    have : (menV L.n left).length = below left L.n := by unfold menV below; simp
    rw [this]; exact hI

theorem plot_le (n left : Nat) : (menOf n left).length ≤ n := by unfold menOf; exact Nat.le_trans (List.length_filter_le _ _) (by simp)
theorem c_plot {left : Nat} (hl : LotsO s p L) (hlt : left < 2 ^ 64) (h : ∀ s', Ext s s' → K (.int .i64 (plotOf L.n left)) s') : CALL Pg W F_lot_lots_plot [.pointer (some p), .int .u64 left] K E s := by
  refine does_lot_lots_plot W (some p) left _ s ?_
  unfold T_lot_lots_plot NEWZ
  have v := vd_iff.1 hl.ok
  have hn8 := v.hi
  refine c_plots hl ?_
  try simp only [TUP_mk, AGG_mk, HD_mk, NL_mk, TYI_mk, TYB_mk, TYP_mk, TYL_mk, TYS_mk, TYM_mk, SO_mk, NX_mk, endK_mk, endK_mk', add_0]
  rw [zc_3]
  refine WR_own (own_new (i := 0) rfl) rfl ?_
  generalize hs1 : setC (s.push (.cells [Value.int .i64 0].toArray 3 (0, 0))) _ _ = s1
  have o1 : Own s1 ⟨s.size, 0, none⟩ (.int .i64 L.n) := by rw [← hs1]; exact own_set (own_new (i := 0) rfl)
  have e1 : Ext s s1 := by rw [← hs1]; exact Ext.setC (Ext.push (Ext.refl s)) (Nat.le_refl _)
  have hz : s1.size = s.size + 1 := by rw [← hs1, setC_size, Array.size_push]
  refine c_men fun s2 a b e2 ga gb ha hb => ?_
  refine ⟨menV L.n left, MenR p L a b left, fun k s' => Ext s s' ∧ Kp (· = s.size) s2 s' ∧ Own s' ⟨s.size, 0, none⟩ (.int .i64 ((L.n - k : Nat) : Int)), fun _ _ => False, it_men hlt, MenR.blind,
    fun k s' h => ⟨hl.ext h.1, h.2.1.cell (by show ¬ a.block = s.size; omega) ha, h.2.1.cell (by show ¬ b.block = s.size; omega) hb⟩,
    fun k s1 s2 h e => ⟨h.1.trans e, h.2.1.ext e, e.own h.2.2⟩, ?_, ?_, ?_, fun c s h => h.elim⟩
  · have e3 : Ext s2 ((s2.push junk).push junk) := Ext.push (Ext.push (Ext.refl _))
    exact ⟨(e1.trans e2).trans e3, e3.kp, e3.own (e2.own o1)⟩
  · intro k x hx
    unfold menV at hx
    rw [List.getElem?_map] at hx
    obtain ⟨m, hm, rfl⟩ := Option.map_eq_some_iff.1 hx
    have hk : k < (menOf L.n left).length := (List.getElem?_eq_some_iff.1 hm).1
    have hk2 := plot_le L.n left
    refine ⟨rfl, fun s' h' => ?_⟩
    try simp only [TUP_mk, AGG_mk, HD_mk, NL_mk, TYI_mk, TYB_mk, TYP_mk, TYL_mk, TYS_mk, TYM_mk, SO_mk, NX_mk, endK_mk, endK_mk', add_0]
    refine ⟨_, h'.2.2.cell, ?_⟩
    refine WR_own h'.2.2 rfl ?_
    have hw : IntKind.i64.wrap (((L.n - k : Nat) : Int) - 1) = ((L.n - (k + 1) : Nat) : Int) := by rw [wrap_i64 (by omega) (by omega)]; omega
    rw [hw]
    exact ⟨Ext.setC h'.1 (Nat.le_refl _), Kp.setC h'.2.1 (.inl rfl), own_set h'.2.2⟩
  · intro s' h'
    refine ⟨_, h'.2.2.cell, ?_⟩
    try simp only [TUP_mk, AGG_mk, HD_mk, NL_mk, TYI_mk, TYB_mk, TYP_mk, TYL_mk, TYS_mk, TYM_mk, SO_mk, NX_mk, endK_mk, endK_mk', add_0]
    have : (menV L.n left).length = (menOf L.n left).length := by simp [menV]
    rw [this]
    exact h s' h'.1
end
end Go.Proofs.Ytocnkdkgajdejaa.G

/- Contracts: what is counted, with what is known. -/
set_option linter.unusedSimpArgs false
set_option linter.unusedVariables false
namespace Go.Proofs.Ytocnkdkgajdejaa.G
open Go.V Go.Lot

theorem zc_95 : zc Pg 95 = List.replicate 2304 (.int .i64 0) := by kernel_rfl
theorem zc_69 : zc Pg 69 = [.nilFunc] := by kernel_rfl
theorem zc_28 : zc Pg 28 = [.int .i64 0] := by kernel_rfl

theorem add_block (a : Addr) (n : Nat) : (a.add n).block = a.block := by unfold Addr.add; split <;> rfl
theorem add_off (a : Addr) (n : Nat) : (a.add n).off = a.off + n := by unfold Addr.add; split <;> simp_all

/-- A counter. -/
def CtrOk (W : World) (cv : Value) (L : Lts) (C : Nat → Nat → Bool) : Prop :=
  ∀ (K : VK) (E : List PanicEntry → Hp → Prop) (s : Hp) (q m : Nat), (∀ s', Ext s s' → K (.bool (C q m)) s') → INV Pg W cv "furrowworks/lot.counts" [.int .i64 q, .int .i64 m] K E s

/-- Where a counter's closure keeps its things. -/
structure Cl where
  ka : Addr
  la : Addr
  ca : Addr
  oa : Addr
def Cl.val (c : Cl) : Value := .func (.func 78) #[] #[.pointer (some c.ka), .pointer (some c.la), .pointer (some c.ca), .pointer (some c.oa)]
def Memo (s : Hp) (ka : Addr) (v : Nat → Nat → Nat) : Prop := ∀ l b, l < 256 → b < 9 → ∃ x : Nat, (x = 0 ∨ x = v l b + 1) ∧ Own s ((ka.add (l * 9)).add (b * 1)) (.int .i64 x)
structure OnR (s0 : Hp) (p : Addr) (cv : Value) (c : Cl) (v : Nat → Nat → Nat) (s : Hp) : Prop where
  base : Ext s0 s
  l : cellAt s c.la = some (.pointer (some p))
  ctr : cellAt s c.ca = some cv
  o : cellAt s c.oa = some c.val
  memo : Memo s c.ka v
structure Apart (s0 : Hp) (c : Cl) : Prop where
  k : s0.size ≤ c.ka.block
  l : c.la.block ≠ c.ka.block
  ctr : c.ca.block ≠ c.ka.block
  o : c.oa.block ≠ c.ka.block
  fl : s0.size ≤ c.la.block
  fc : s0.size ≤ c.ca.block
  fo : s0.size ≤ c.oa.block

section
variable {W : World} {s s0 s1 : Hp} {p : Addr} {cv : Value} {c : Cl} {v : Nat → Nat → Nat} {L : Lts} {C : Nat → Nat → Bool}
theorem Memo.ext {s s' : Hp} {ka : Addr} (e : Ext s s') (h : Memo s ka v) : Memo s' ka v := fun l b hl hb => by
  obtain ⟨x, h1, h2⟩ := h l b hl hb
  exact ⟨x, h1, e.own h2⟩
theorem Memo.keep {s s' : Hp} {ka : Addr} {D : Nat → Prop} (e : Kp D s s') (hd : ¬ D ka.block) (h : Memo s ka v) : Memo s' ka v := fun l b hl hb => by
  obtain ⟨x, h1, h2⟩ := h l b hl hb
  exact ⟨x, h1, e.own (by rw [add_block, add_block]; exact hd) h2⟩
theorem OnR.ext {s' : Hp} (e : Ext s s') (h : OnR s0 p cv c v s) : OnR s0 p cv c v s' := ⟨h.base.trans e, e.cell h.l, e.cell h.ctr, e.cell h.o, h.memo.ext e⟩
/-- A block that is none of these is written. -/
theorem OnR.set {a : Addr} {x : Value} (h : OnR s0 p cv c v s) (h0 : s0.size ≤ a.block) (h1 : a.block ≠ c.ka.block) (h2 : a.block ≠ c.la.block) (h3 : a.block ≠ c.ca.block) (h4 : a.block ≠ c.oa.block) : OnR s0 p cv c v (setC s a x) := by
  have k : Kp (· = a.block) s (setC s a x) := Kp.setC (Kp.refl s) (.inl rfl)
  exact ⟨Ext.setC h.base h0, k.cell (fun e => h2 e.symm) h.l, k.cell (fun e => h3 e.symm) h.ctr, k.cell (fun e => h4 e.symm) h.o, h.memo.keep k (fun e => h1 e.symm)⟩

theorem andn_eq : ∀ left : Nat, left < 256 → ∀ m, m < 8 → left.testBit m = true → andnv .u64 (left : Int) (shlv .u64 1 (m : Int)) = ((left - 2 ^ m : Nat) : Int) := by
  have h : ((List.range 256).all fun l => (List.range 8).all fun m => !l.testBit m || decide (andnv .u64 (l : Int) (shlv .u64 1 (m : Int)) = ((l - 2 ^ m : Nat) : Int))) = true := by decide +kernel
  intro left hl m hm hb
  have h1 := List.all_eq_true.1 h left (by simpa using hl)
  have h2 := List.all_eq_true.1 h1 m (by simpa using hm)
  rw [hb] at h2
  simpa using h2
theorem NNI_nat {n : Nat} {K : Hp → Prop} (h : K s) : NNI (n : Int) K s := h

/-- What the first so many come to. -/
def part (L : Lts) (C : Nat → Nat → Bool) (left b k : Nat) : Nat := (((menOf L.n left).take k).map fun m => if brk L (plotOf L.n left) m b = 0 ∧ C (plotOf L.n left) m = true then cnt L C (left - 2 ^ m) m else 0).sum
theorem part_succ {left b k m : Nat} (h : (menOf L.n left)[k]? = some m) : part L C left b (k + 1) = part L C left b k + (if brk L (plotOf L.n left) m b = 0 ∧ C (plotOf L.n left) m = true then cnt L C (left - 2 ^ m) m else 0) := by
  unfold part
  rw [List.take_add_one, h]
  simp
theorem part_le (hn : L.n ≤ 8) (left b k : Nat) : part L C left b k ≤ 8 * 134217728 := by
  unfold part
  refine Nat.le_trans (sum_le (B := 134217728) ?_) ?_
  · intro x hx
    obtain ⟨m, _, rfl⟩ := List.mem_map.1 hx
    split
    · exact cnt_le L C hn _ _
    · exact Nat.zero_le _
  · rw [List.length_map, List.length_take]
    have := menOf_len_le L.n left
    exact Nat.mul_le_mul_right _ (by omega)

theorem c_on (hl0 : LotsO s0 p L) (ap : Apart s0 c) (hC : CtrOk W cv L C) : ∀ (left b : Nat), left < 2 ^ L.n → (b = 8 ∨ b < L.n) → ∀ (K : VK) (E : List PanicEntry → Hp → Prop) (s : Hp), OnR s0 p cv c (cnt L C) s →
    (∀ s', Kp (· = c.ka.block) s s' → OnR s0 p cv c (cnt L C) s' → K (.int .i64 (cnt L C left b)) s') →
    CALL Pg W 78 [.int .u64 left, .int .i64 b, .pointer (some c.ka), .pointer (some c.la), .pointer (some c.ca), .pointer (some c.oa)] K E s := by
  have hv := vd_iff.1 hl0.ok
  have hn := hv.hi
  have hpow : 2 ^ L.n ≤ 256 := Nat.pow_le_pow_right (n := 2) (by omega) hn
  intro left
  induction left using Nat.strongRecOn with
  | _ left ih =>
  intro b hlt hb K E s hr h
  have h256 : left < 256 := by omega
  have hb9 : b < 9 := by omega
  refine does_lot_lots_counted_c1 W left b c.ka c.la c.ca c.oa _ s ?_
  unfold T_lot_lots_counted_c1 NEW
  generalize hs1 : s.push (.cells [Value.int .u64 (left : Int)].toArray 74 (0, 0)) = s1
  have e1 : Ext s s1 := by rw [← hs1]; exact Ext.push (Ext.refl _)
  have c1 : cellAt s1 ⟨s.size, 0, none⟩ = some (.int .u64 left) := by rw [← hs1]; exact cell_new rfl
  have z1 : s1.size = s.size + 1 := by rw [← hs1]; simp
  generalize hs2 : s1.push (.cells [Value.int .i64 (b : Int)].toArray 3 (0, 0)) = s2
  have e2 : Ext s1 s2 := by rw [← hs2]; exact Ext.push (Ext.refl _)
  have c2 : cellAt s2 ⟨s1.size, 0, none⟩ = some (.int .i64 b) := by rw [← hs2]; exact cell_new rfl
  have z2 : s2.size = s.size + 2 := by rw [← hs2]; simp [z1]
  have e02 := e1.trans e2
  have r2 := hr.ext e02
  refine ⟨_, e2.cell c1, ?_⟩
  refine BR_eq (fun h1 => ?_) (fun h1 => ?_)
  · have : left = 0 := by omega
    subst this
    try simp only [TUP_mk, AGG_mk, HD_mk, NL_mk, TYI_mk, TYB_mk, TYP_mk, TYL_mk, TYS_mk, TYM_mk, SO_mk, NX_mk, endK_mk, endK_mk', add_0]
    have hc : cnt L C 0 b = 1 := cntF_zero L C 9 b
    rw [hc] at h
    exact h s2 e02.kp r2
  have h0 : left ≠ 0 := by omega
  refine ⟨_, e2.cell c1, _, c2, ?_⟩
  refine ⟨⟨by omega, by omega⟩, ⟨by omega, by omega⟩, ?_⟩
  have t1 : ((left : Int)).toNat = left := by omega
  have t2 : ((b : Int)).toNat = b := by omega
  rw [t1, t2]
  obtain ⟨x, hx, hxo⟩ := r2.memo left b h256 hb9
  refine ⟨_, hxo.cell, ?_⟩
  refine BR_dec (fun h2 => ?_) (fun h2 => ?_)
  · have hx' : x = cnt L C left b + 1 := hx.resolve_left (by omega)
    have hle := cnt_le L C hn left b
    try simp only [TUP_mk, AGG_mk, HD_mk, NL_mk, TYI_mk, TYB_mk, TYP_mk, TYL_mk, TYS_mk, TYM_mk, SO_mk, NX_mk, endK_mk, endK_mk', add_0]
    have : IntKind.i64.wrap ((x : Int) - 1) = (cnt L C left b : Int) := by rw [wrap_i64 (by omega) (by omega)]; omega
    rw [this]
    exact h s2 e02.kp r2
  refine ⟨_, r2.l, _, e2.cell c1, ?_⟩
  refine c_plot (hl0.ext r2.base) (by omega) fun s3 e3 => ?_
  try simp only [TUP_mk, AGG_mk, HD_mk, NL_mk, TYI_mk, TYB_mk, TYP_mk, TYL_mk, TYS_mk, TYM_mk, SO_mk, NX_mk, endK_mk, endK_mk', add_0]
  have e03 := e02.trans e3
  unfold NEWZ
  simp only [zc_3]
  generalize hs4 : s3.push (.cells [Value.int .i64 0].toArray 3 (0, 0)) = s4
  have e4 : Ext s3 s4 := by rw [← hs4]; exact Ext.push (Ext.refl _)
  have z4 : s4.size = s3.size + 1 := by rw [← hs4]; simp
  have o4 : Own s4 ⟨s3.size, 0, none⟩ (.int .i64 0) := by rw [← hs4]; exact own_new rfl
  generalize hs5 : s4.push (.cells [Value.int .i64 0].toArray 3 (0, 0)) = s5
  have e5 : Ext s4 s5 := by rw [← hs5]; exact Ext.push (Ext.refl _)
  have z5 : s5.size = s3.size + 2 := by rw [← hs5]; simp [z4]
  have o5 : Own s5 ⟨s4.size, 0, none⟩ (.int .i64 0) := by rw [← hs5]; exact own_new rfl
  refine WR_own (e5.own o4) rfl ?_
  refine WR_own (own_set_ne (.inl (by show s4.size ≠ s3.size; omega)) o5) rfl ?_
  generalize hs6 : setC (setC s5 _ _) _ _ = s6
  have hsz := e03.1
  have hsz3 := e3.1
  have e6 : Ext s3 s6 := by rw [← hs6]; exact Ext.setC (Ext.setC (e4.trans e5) (Nat.le_refl _)) (by show s3.size ≤ s4.size; omega)
  have n6 : Own s6 ⟨s3.size, 0, none⟩ (.int .i64 0) := by rw [← hs6]; exact own_set_ne (.inl (by show s3.size ≠ s4.size; omega)) (own_set (e5.own o4))
  have q6 : Own s6 ⟨s4.size, 0, none⟩ (.int .i64 (plotOf L.n left)) := by rw [← hs6]; exact own_set (own_set_ne (.inl (by show s4.size ≠ s3.size; omega)) o5)
  have z6 : s6.size = s3.size + 2 := by rw [← hs6, setC_size, setC_size, z5]
  clear hs6 hs5 hs4 o4 o5 e4 e5
  have e06 := e03.trans e6
  have r6 := hr.ext e06
  refine ⟨_, r6.l, _, (e6.cell (e3.cell (e2.cell c1))), ?_⟩
  refine c_men fun s7 ia ib e7 ga gb ha hb' => ?_
  have hkas := (hr.memo 0 0 (by omega) (by omega))
  obtain ⟨x0, _, hx0⟩ := hkas
  have hkal := hx0.lt
  rw [add_block, add_block] at hkal
  have hlal := cell_lt hr.l
  have hcal := cell_lt hr.ctr
  have hoal := cell_lt hr.o
  refine ⟨menV L.n left, MenR p L ia ib left, fun k s' => Kp (fun b => b = c.ka.block ∨ b = s3.size) s7 s' ∧ OnR s0 p cv c (cnt L C) s' ∧ Own s' ⟨s3.size, 0, none⟩ (.int .i64 (part L C left b k)), fun _ _ => False, it_men (by omega), MenR.blind,
    fun k s' h' => ⟨hl0.ext h'.2.1.base, h'.1.cell (by show ¬ (ia.block = _ ∨ ia.block = _); omega) ha, h'.1.cell (by show ¬ (ib.block = _ ∨ ib.block = _); omega) hb'⟩,
    fun k s1 s2 h' e => ⟨h'.1.ext e, h'.2.1.ext e, e.own h'.2.2⟩, ?_, ?_, ?_, fun c s h => h.elim⟩
  · have e8 : Ext s7 ((s7.push junk).push junk) := Ext.push (Ext.push (Ext.refl _))
    exact ⟨e8.kp, r6.ext (e7.trans e8), e8.own (e7.own n6)⟩
  · intro k x hx
    unfold menV at hx
    rw [List.getElem?_map] at hx
    obtain ⟨m, hm, rfl⟩ := Option.map_eq_some_iff.1 hx
    refine ⟨rfl, fun s' h' => ?_⟩
    obtain ⟨hmn, hmb⟩ := menOf_mem.1 (List.mem_of_getElem? hm)
    obtain ⟨kp, r', own'⟩ := h'
    have cq : cellAt s' ⟨s4.size, 0, none⟩ = some (.int .i64 (plotOf L.n left)) := kp.cell (by show ¬ (s4.size = _ ∨ s4.size = _); omega) (e7.cell q6.cell)
    have cb : cellAt s' ⟨s1.size, 0, none⟩ = some (.int .i64 b) := kp.cell (by show ¬ (s1.size = _ ∨ s1.size = _); omega) (e7.cell (e6.cell (e3.cell c2)))
    have cl : cellAt s' ⟨s.size, 0, none⟩ = some (.int .u64 left) := kp.cell (by show ¬ (s.size = _ ∨ s.size = _); omega) (e7.cell (e6.cell (e3.cell (e2.cell c1))))
    have hps := part_succ (L := L) (C := C) (b := b) hm
    try simp only [TUP_mk, AGG_mk, HD_mk, NL_mk, TYI_mk, TYB_mk, TYP_mk, TYL_mk, TYS_mk, TYM_mk, SO_mk, NX_mk, endK_mk, endK_mk', add_0]
    refine ⟨_, r'.l, _, cq, _, cb, ?_⟩
    refine c_broken (hl0.ext r'.base) hmn hb fun t1 f1 => ?_
    have rt1 := r'.ext f1
    try simp only [TUP_mk, AGG_mk, HD_mk, NL_mk, TYI_mk, TYB_mk, TYP_mk, TYL_mk, TYS_mk, TYM_mk, SO_mk, NX_mk, endK_mk, endK_mk', add_0]
    refine BR_eq (fun h3 => ?_) (fun h3 => ?_)
    · have h3' : brk L (plotOf L.n left) m b = 0 := by omega
      refine ⟨_, rt1.ctr, _, f1.cell cq, ?_⟩
      refine hC _ _ _ _ _ fun t2 f2 => ?_
      have rt2 := rt1.ext f2
      have f12 := f1.trans f2
      try simp only [TUP_mk, AGG_mk, HD_mk, NL_mk, TYI_mk, TYB_mk, TYP_mk, TYL_mk, TYS_mk, TYM_mk, SO_mk, NX_mk, endK_mk, endK_mk', add_0]
      refine BR_bool (fun h4 => ?_) (fun h4 => ?_)
      · refine ⟨_, f12.cell own'.cell, _, rt2.o, _, f12.cell cl, NNI_nat ?_⟩
        rw [andn_eq left h256 m (by omega) hmb]
        refine CALLV_func ?_
        have hlt' : left - 2 ^ m < left := by have := Nat.pos_of_ne_zero (show 2 ^ m ≠ 0 by simp); omega
        refine ih (left - 2 ^ m) hlt' m (by omega) (.inr hmn) _ _ t2 rt2 fun t3 k3 rt3 => ?_
        try simp only [TUP_mk, AGG_mk, HD_mk, NL_mk, TYI_mk, TYB_mk, TYP_mk, TYL_mk, TYS_mk, TYM_mk, SO_mk, NX_mk, endK_mk, endK_mk', add_0]
        have ho : Own t3 ⟨s3.size, 0, none⟩ (.int .i64 (part L C left b k)) := k3.own (by show ¬ s3.size = _; omega) (f12.own own')
        refine ⟨⟨_, ho.cell, rfl⟩, ?_⟩
        refine WR_own ho rfl ?_
        have hle := part_le (L := L) (C := C) hn left b k
        have hle2 := cnt_le L C hn (left - 2 ^ m) m
        rw [wrap_i64 (by omega) (by omega)]
        refine ⟨Kp.setC ((kp.ext f12).trans (k3.mono (fun b h => .inl h))) (.inl (.inr rfl)), rt3.set (by show s0.size ≤ s3.size; have := hr.base.1; omega) (by show s3.size ≠ _; omega) (by show s3.size ≠ _; omega) (by show s3.size ≠ _; omega) (by show s3.size ≠ _; omega), ?_⟩
        have : ((part L C left b k : Nat) : Int) + (cnt L C (left - 2 ^ m) m : Int) = ((part L C left b (k + 1) : Nat) : Int) := by
          rw [hps, if_pos ⟨h3', h4⟩]; omega
        rw [this]
        exact own_set ho
      · refine ⟨kp.ext f12, rt2, ?_⟩
        rw [hps, if_neg (by simp [h4])]
        exact f12.own own'
    · have h3' : brk L (plotOf L.n left) m b ≠ 0 := by omega
      refine ⟨kp.ext f1, rt1, ?_⟩
      rw [hps, if_neg (by simp [h3'])]
      exact f1.own own'
  · rintro s' ⟨kp, r', own'⟩
    have cb : cellAt s' ⟨s1.size, 0, none⟩ = some (.int .i64 b) := kp.cell (by show ¬ (s1.size = _ ∨ s1.size = _); omega) (e7.cell (e6.cell (e3.cell c2)))
    have cl : cellAt s' ⟨s.size, 0, none⟩ = some (.int .u64 left) := kp.cell (by show ¬ (s.size = _ ∨ s.size = _); omega) (e7.cell (e6.cell (e3.cell (e2.cell c1))))
    refine ⟨_, cl, _, cb, _, own'.cell, ⟨by omega, by omega⟩, ⟨by omega, by omega⟩, ?_⟩
    rw [t1, t2]
    have hres : part L C left b (menV L.n left).length = cnt L C left b := by
      rw [cnt_eq L C hn hlt h0]
      unfold part menV
      rw [List.length_map, List.take_length]
    rw [hres] at own' ⊢
    have hle := cnt_le L C hn left b
    obtain ⟨x, hx, hxo⟩ := r'.memo left b h256 hb9
    refine WR_own hxo rfl ?_
    rw [wrap_i64 (by omega) (by omega)]
    have hbl : ((c.ka.add (left * 9)).add (b * 1)).block = c.ka.block := by rw [add_block, add_block]
    refine ⟨_, own_cell (own_set_ne (.inl (by rw [hbl]; show s3.size ≠ _; omega)) own'), ?_⟩
    try simp only [TUP_mk, AGG_mk, HD_mk, NL_mk, TYI_mk, TYB_mk, TYP_mk, TYL_mk, TYS_mk, TYM_mk, SO_mk, NX_mk, endK_mk, endK_mk', add_0]
    refine h _ ?_ ?_
    · refine Kp.setC ?_ (.inl hbl)
      have hk : Kp (fun b => b = c.ka.block ∨ b = s3.size) s s' := ((e06.trans e7).kp).trans kp
      exact ⟨hk.1, fun d hd hc => hk.2 d hd (fun hh => hh.elim hc (fun e => by omega))⟩
    · have k : Kp (· = c.ka.block) s' (setC s' ((c.ka.add (left * 9)).add (b * 1)) (.int .i64 ((cnt L C left b : Int) + 1))) := Kp.setC (Kp.refl s') (.inl hbl)
      refine ⟨Ext.setC r'.base (show s0.size ≤ ((c.ka.add (left * 9)).add (b * 1)).block by rw [hbl]; exact ap.k), k.cell ap.l r'.l, k.cell ap.ctr r'.ctr, k.cell ap.o r'.o, ?_⟩
      intro l b' hl hb'
      by_cases heq : l = left ∧ b' = b
      · obtain ⟨rfl, rfl⟩ := heq
        exact ⟨cnt L C l b' + 1, .inr rfl, own_set hxo⟩
      · obtain ⟨y, hy1, hy2⟩ := r'.memo l b' hl hb'
        refine ⟨y, hy1, own_set_ne (.inr ?_) hy2⟩
        simp only [add_off]
        omega
end
end Go.Proofs.Ytocnkdkgajdejaa.G

/- Contracts: counters, how often. -/
set_option linter.unusedSimpArgs false
set_option linter.unusedVariables false
namespace Go.Proofs.Ytocnkdkgajdejaa.G
open Go.V Go.Lot

theorem mth_every : mth Pg 72 "furrowworks/lot.counts" = some F_lot_every_counts := by kernel_rfl
theorem mth_those : mth Pg 113 "furrowworks/lot.counts" = some F_lot_those_counts := by kernel_rfl
theorem boc_113 : (byteOfCell Pg Pg.depth 113 (0 % Pg.cellsOf 113)).isSome = true := by kernel_rfl

section
variable {W : World} {K : VK} {E : List PanicEntry → Hp → Prop} {s : Hp} {L : Lts} {p : Addr}

def thoseC (plot m : Nat) : Nat → Nat → Bool := fun q k => (q == plot) == (k == m)

theorem c_every {q m : Int} (h : ∀ s', Ext s s' → K (.bool true) s') : CALL Pg W F_lot_every_counts [.agg #[], .int .i64 q, .int .i64 m] K E s := by
  refine does_lot_every_counts W q m _ s ?_
  unfold T_lot_every_counts NEW
  try simp only [TUP_mk, AGG_mk, HD_mk, NL_mk, TYI_mk, TYB_mk, TYP_mk, TYL_mk, TYS_mk, TYM_mk, SO_mk, NX_mk, endK_mk, endK_mk', add_0]
  exact h _ (Ext.push (Ext.refl s))
theorem ctr_every : CtrOk W (.iface 72 (.agg #[])) L anyC := by
  intro K E s q m h
  unfold INV
  simp only [mth_every]
  exact c_every h
theorem ctr_those {plot man : Nat} : CtrOk W (.iface 113 (.agg #[.int .i64 plot, .int .i64 man])) L (thoseC plot man) := by
  intro K E s q m h
  unfold INV
  simp only [mth_those]
  refine does_lot_those_counts W plot man q m _ s ?_
  unfold T_lot_those_counts NEW
  generalize hs1 : s.push (.cells [Value.int .i64 (plot : Int), Value.int .i64 (man : Int)].toArray 113 (0, 0)) = s1
  have e1 : Ext s s1 := by rw [← hs1]; exact Ext.push (Ext.refl _)
  have c0 : cellAt s1 ⟨s.size, 0, none⟩ = some (.int .i64 plot) := by rw [← hs1]; exact cell_new rfl
  have c1 : cellAt s1 ⟨s.size, 1, none⟩ = some (.int .i64 man) := by rw [← hs1]; exact cell_new rfl
  have hsh : shapeAt s1 s.size = some (113, 2) := by rw [← hs1]; unfold shapeAt; rw [Array.getElem?_push, if_pos rfl]; rfl
  refine ⟨⟨rfl, 113, 2, hsh, boc_113⟩, ?_⟩
  refine c_every fun s2 e2 => ?_
  try simp only [TUP_mk, AGG_mk, HD_mk, NL_mk, TYI_mk, TYB_mk, TYP_mk, TYL_mk, TYS_mk, TYM_mk, SO_mk, NX_mk, endK_mk, endK_mk', add_0]
  refine BR_bool (fun _ => ?_) (fun h => by cases h)
  refine ⟨_, e2.cell c0, _, e2.cell c1, ?_⟩
  have : (((q : Int) == (plot : Int)) == ((m : Int) == (man : Int))) = thoseC plot man q m := by
    unfold thoseC
    have e1 : ((q : Int) == (plot : Int)) = (q == plot) := by rw [Bool.eq_iff_iff]; simp; omega
    have e2 : ((m : Int) == (man : Int)) = (m == man) := by rw [Bool.eq_iff_iff]; simp; omega
    rw [e1, e2]
  try simp only [TUP_mk, AGG_mk, HD_mk, NL_mk, TYI_mk, TYB_mk, TYP_mk, TYL_mk, TYS_mk, TYM_mk, SO_mk, NX_mk, endK_mk, endK_mk', add_0]
  rw [this]
  exact h s2 (e1.trans e2)

theorem add_none {b o n : Nat} : (⟨b, o, none⟩ : Addr).add n = ⟨b, o + n, none⟩ := by unfold Addr.add; split <;> simp_all
theorem c_counted {cv : Value} {v : Nat → Nat → Nat} (h1 : oneCell cv = true) (h : ∀ s' c, Ext s s' → Apart s c → OnR s p cv c v s' → K c.val s') : CALL Pg W F_lot_lots_counted [.pointer (some p), cv] K E s := by
  refine does_lot_lots_counted W (some p) cv _ s ?_
  unfold T_lot_lots_counted NEW ONE NEWZ
  simp only [h1, zc_95, zc_69]
  generalize hs1 : s.push (.cells [Value.pointer (some p)].toArray 63 (0, 0)) = s1
  have e1 : Ext s s1 := by rw [← hs1]; exact Ext.push (Ext.refl _)
  have z1 : s1.size = s.size + 1 := by rw [← hs1]; simp
  have o1 : cellAt s1 ⟨s.size, 0, none⟩ = some (.pointer (some p)) := by rw [← hs1]; exact cell_new rfl
  generalize hs2 : s1.push (.cells [cv].toArray 111 (0, 0)) = s2
  have e2 : Ext s1 s2 := by rw [← hs2]; exact Ext.push (Ext.refl _)
  have z2 : s2.size = s.size + 2 := by rw [← hs2]; simp [z1]
  have o2 : cellAt s2 ⟨s1.size, 0, none⟩ = some cv := by rw [← hs2]; exact cell_new rfl
  generalize hs3 : s2.push (.cells (List.replicate 2304 (Value.int .i64 0)).toArray 95 (0, 0)) = s3
  have e3 : Ext s2 s3 := by rw [← hs3]; exact Ext.push (Ext.refl _)
  have z3 : s3.size = s.size + 3 := by rw [← hs3, Array.size_push, z2]
  have o3 : Memo s3 ⟨s2.size, 0, none⟩ v := by
    intro l b hl hb
    refine ⟨0, .inl rfl, ?_⟩
    rw [add_none, add_none, ← hs3]
    exact own_new (by rw [List.getElem?_replicate, if_pos (by omega)]; rfl)
  generalize hs4 : s3.push (.cells [Value.nilFunc].toArray 69 (0, 0)) = s4
  have e4 : Ext s3 s4 := by rw [← hs4]; exact Ext.push (Ext.refl _)
  have o4 : Own s4 ⟨s3.size, 0, none⟩ .nilFunc := by rw [← hs4]; exact own_new rfl
  refine WR_own o4 rfl ?_
  refine ⟨_, own_cell (own_set o4), ?_⟩
  try simp only [TUP_mk, AGG_mk, HD_mk, NL_mk, TYI_mk, TYB_mk, TYP_mk, TYL_mk, TYS_mk, TYM_mk, SO_mk, NX_mk, endK_mk, endK_mk', add_0]
  generalize hs5 : setC s4 _ _ = s5
  have e5 : Ext s3 s5 := by rw [← hs5]; exact Ext.setC e4 (Nat.le_refl _)
  have o5 : Own s5 ⟨s3.size, 0, none⟩ (.func (.func 78) #[] #[.pointer (some ⟨s2.size, 0, none⟩), .pointer (some ⟨s.size, 0, none⟩), .pointer (some ⟨s1.size, 0, none⟩), .pointer (some ⟨s3.size, 0, none⟩)]) := by rw [← hs5]; exact own_set o4
  refine h s5 ⟨⟨s2.size, 0, none⟩, ⟨s.size, 0, none⟩, ⟨s1.size, 0, none⟩, ⟨s3.size, 0, none⟩⟩ (((e1.trans e2).trans e3).trans e5) ⟨by show s.size ≤ s2.size; omega, by show s.size ≠ s2.size; omega, by show s1.size ≠ s2.size; omega, by show s3.size ≠ s2.size; omega, Nat.le_refl _, by show s.size ≤ s1.size; omega, by show s.size ≤ s3.size; omega⟩
    ⟨((e1.trans e2).trans e3).trans e5, e5.cell (e3.cell (e2.cell o1)), e5.cell (e3.cell o2), o5.cell, o3.ext e5⟩

theorem ext_kp {s s1 s2 : Hp} {b0 : Nat} (e : Ext s s1) (k : Kp (· = b0) s1 s2) (h : s.size ≤ b0) : Ext s s2 :=
  ⟨Nat.le_trans e.1 k.1, fun b hb => (k.2 b (Nat.lt_of_lt_of_le hb e.1) (fun (hc : b = b0) => by omega)).trans (e.2 b hb)⟩
theorem CALLV_val {c : Cl} {left b : Nat} (h : CALL Pg W 78 [.int .u64 left, .int .i64 b, .pointer (some c.ka), .pointer (some c.la), .pointer (some c.ca), .pointer (some c.oa)] K E s) : CALLV Pg W c.val [.int .u64 left, .int .i64 b] K E s := CALLV_func h
theorem full_lt {n : Nat} (hn : n ≤ 8) : full n < 2 ^ n := by unfold full; have : 0 < 2 ^ n := Nat.pos_of_ne_zero (by simp); omega

def cntAll (L : Lts) (C : Nat → Nat → Bool) : Nat := cnt L C (full L.n) 8
theorem c_on8 {s0 : Hp} {cv : Value} {c : Cl} {C : Nat → Nat → Bool} (hl0 : LotsO s0 p L) (ap : Apart s0 c) (hC : CtrOk W cv L C) (hr : OnR s0 p cv c (cnt L C) s)
    (h : ∀ s', Kp (· = c.ka.block) s s' → OnR s0 p cv c (cnt L C) s' → K (.int .i64 (cntAll L C)) s') : CALLV Pg W c.val [.int .u64 (full L.n), .int .i64 8] K E s := by
  unfold cntAll at h
  have hlt := full_lt (vd_iff.1 hl0.ok).hi
  generalize full L.n = left at *
  have key := c_on (C := C) hl0 ap hC left 8 hlt (.inl rfl) K E s hr h
  exact CALLV_val key
set_option maxRecDepth 20000 in
theorem c_often {plot man : Nat} (hl : LotsO s p L) (h : ∀ s', Ext s s' → K (.int .i64 (cntAll L (thoseC plot man))) s') : CALL Pg W F_lot_lots_often [.pointer (some p), .int .i64 man, .int .i64 plot] K E s := by
  refine does_lot_lots_often W (some p) man plot _ s ?_
  unfold T_lot_lots_often
  refine c_counted (v := cnt L (thoseC plot man)) rfl fun s1 c e1 ap r1 => ?_
  refine c_all (hl.ext e1) ?_
  try simp only [TUP_mk, AGG_mk, HD_mk, NL_mk, TYI_mk, TYB_mk, TYP_mk, TYL_mk, TYS_mk, TYM_mk, SO_mk, NX_mk, endK_mk, endK_mk', add_0]
  have hv := vd_iff.1 hl.ok
  have hctr : CtrOk W (.iface 113 (.agg #[.int .i64 plot, .int .i64 man])) L (thoseC plot man) := @ctr_those W L plot man
  refine c_on8 hl ap hctr r1 ?_
  intro s2 k2 r2
  try simp only [TUP_mk, AGG_mk, HD_mk, NL_mk, TYI_mk, TYB_mk, TYP_mk, TYL_mk, TYS_mk, TYM_mk, SO_mk, NX_mk, endK_mk, endK_mk', add_0]
  exact h s2 (ext_kp e1 k2 ap.k)
end
end Go.Proofs.Ytocnkdkgajdejaa.G

/- Contracts: lots are opened. -/
set_option linter.unusedSimpArgs false
set_option linter.unusedVariables false
set_option maxRecDepth 20000
namespace Go.Proofs.Ytocnkdkgajdejaa.G
open Go.V Go.Lot

theorem zc_51 : zc Pg 51 = [.int .i64 0, .bool false, .bool false] := by kernel_rfl
/-- A panic that tells an error. -/
def pn (e : Int) : List PanicEntry := [{ v := .iface 105 (.agg #[.int .i64 e]), recovered := false }]

section
variable {W : World} {K : VK} {E : List PanicEntry → Hp → Prop} {s : Hp} {L : Lts} {p : Addr}

theorem c_rules (h : ∀ s' r, Ext s s' → s.size ≤ r.block → RulesAt s' r → K (.slice (some r) 3 3) s') : CALL Pg W F_lot_rules [] K E s := by
  refine does_lot_rules W _ s ?_
  unfold T_lot_rules NEW
  try simp only [TUP_mk, AGG_mk, HD_mk, NL_mk, TYI_mk, TYB_mk, TYP_mk, TYL_mk, TYS_mk, TYM_mk, SO_mk, NX_mk, endK_mk, endK_mk', add_0]
  refine h _ ⟨s.size, 0, none⟩ (Ext.push (Ext.refl s)) (Nat.le_refl _) ⟨?_, ?_, ?_, ?_, ?_, ?_⟩
  · exact cell_new (i := 0) rfl
  · exact cell_new (i := 1) rfl
  · exact cell_new (i := 2) rfl
  · exact cell_new (i := 3) rfl
  · exact cell_new (i := 4) rfl
  · exact cell_new (i := 5) rfl
/-- Lots that may not be valid. -/
structure LotsQ (s : Hp) (p : Addr) (L : Lts) : Prop where
  mem : ∃ x c, cellAt s ((p.add 0).add 0) = some (.slice x L.n c) ∧ MenAt s x L.men
  wst : cellAt s ((p.add 0).add 1) = some (.int .i64 L.worst)
  rul : ∃ r, cellAt s (p.add 2) = some (.slice (some r) 3 3) ∧ RulesAt s r
theorem LotsQ.ok {s : Hp} (h : LotsQ s p L) (hv : valid L = true) : LotsO s p L := ⟨hv, h.mem, h.wst, h.rul⟩
theorem c_plotsQ (hl : LotsQ s p L) (h : K (.int .i64 L.n) s) : CALL Pg W F_lot_lots_plots [.pointer (some p)] K E s := by
  refine does_lot_lots_plots W (some p) _ s ?_
  obtain ⟨x, c, h1, h2⟩ := hl.mem
  exact ⟨x, L.n, c, h1, h⟩
theorem c_must' {b : Bool} {e : Int} (h1 : b = true → K (.tuple #[]) s) (h2 : b = false → E (pn e) s) : CALL Pg W F_lot_must [.bool b, .int .i64 e] K E s := c_must h1 h2

theorem c_open_loop {R : Ending → Hp → Prop} {x : Option Addr} {c : Nat} {q : Addr} {s0 : Hp} (hm : MenAt s0 x L.men) (hn : L.n ≤ 8) (h1 : ∀ s', Ext s0 s' → (∀ m ∈ L.men, 0 ≤ m.club ∧ m.club ≤ 9) → R (.returned (.pointer (some q))) s')
    (h2 : ∀ s', Ext s0 s' → (∃ m ∈ L.men, ¬ (0 ≤ m.club ∧ m.club ≤ 9)) → R (.panicked (pn 1)) s') (e0 : Ext s0 s) : L_lot_open_0 W R q x L.n c (L.n : Int) 0 s := by
  refine L_lot_open_0_rule W R q x L.n c L.n (fun n s' => ∃ k : Nat, k ≤ L.n ∧ n = k ∧ Ext s0 s' ∧ ∀ i (h : i < L.men.length), i < k → 0 ≤ L.men[i].club ∧ L.men[i].club ≤ 9) (fun n _ => (L.n - n).toNat) 0 s ⟨0, by omega, rfl, e0, fun i _ hi => by omega⟩ ?_
  rintro n s1 ⟨k, hk, rfl, e1, hok⟩
  unfold B_lot_open_0
  refine BR_dec (fun h3 => ?_) (fun h3 => ?_)
  · have hkn : k < L.men.length := by have : L.n = L.men.length := rfl; omega
    obtain ⟨a, rfl, g1, g2, g3⟩ := hm k hkn
    have tk : ((k : Int)).toNat = k := by omega
    refine ⟨a, rfl, ⟨by omega, h3⟩, ?_⟩
    rw [tk]
    refine ⟨_, e1.cell g1, _, e1.cell g2, _, e1.cell g3, ?_⟩
    unfold NEWZ
    simp only [zc_51]
    generalize hs2 : s1.push (.cells [Value.int .i64 0, Value.bool false, Value.bool false].toArray 51 (0, 0)) = s2
    have e2 : Ext s1 s2 := by rw [← hs2]; exact Ext.push (Ext.refl _)
    have o0 : Own s2 ⟨s1.size, 0, none⟩ (.int .i64 0) := by rw [← hs2]; exact own_new rfl
    have o1 : Own s2 ⟨s1.size, 1, none⟩ (.bool false) := by rw [← hs2]; exact own_new rfl
    have o2 : Own s2 ⟨s1.size, 2, none⟩ (.bool false) := by rw [← hs2]; exact own_new rfl
    refine WR_own o0 rfl ?_
    refine WR_own (own_set_ne (.inr (by simp [add_off])) o1) rfl ?_
    refine WR_own (own_set_ne (.inr (by simp [add_off])) (own_set_ne (.inr (by simp [add_off])) o2)) rfl ?_
    refine ⟨_, own_cell (own_set_ne (.inr (by simp [add_off])) (own_set_ne (.inr (by simp [add_off])) (own_set o0))), ?_⟩
    have e3 : Ext s0 (Go.V.setC (Go.V.setC (Go.V.setC s2 ((⟨s1.size, 0, none⟩ : Addr).add 0) (.int .i64 L.men[k].club)) ((⟨s1.size, 0, none⟩ : Addr).add 1) (.bool L.men[k].left)) ((⟨s1.size, 0, none⟩ : Addr).add 2) (.bool L.men[k].nov)) :=
      Ext.setC (Ext.setC (Ext.setC (e1.trans e2) e1.1) (by rw [add_block]; exact e1.1)) (by rw [add_block]; exact e1.1)
    refine c_within ?_
    try simp only [TUP_mk, AGG_mk, HD_mk, NL_mk, TYI_mk, TYB_mk, TYP_mk, TYL_mk, TYS_mk, TYM_mk, SO_mk, NX_mk, endK_mk, endK_mk', add_0]
    refine c_must' (fun h4 => ?_) (fun h4 => ?_)
    · try simp only [TUP_mk, AGG_mk, HD_mk, NL_mk, TYI_mk, TYB_mk, TYP_mk, TYL_mk, TYS_mk, TYM_mk, SO_mk, NX_mk, endK_mk, endK_mk', add_0]
      refine ⟨_, rfl, ⟨k + 1, by omega, ?_, e3, ?_⟩, ?_⟩
      · rw [wrap_i64 (by omega) (by omega)]; rfl
      · intro i hi hik
        by_cases hik' : i < k
        · exact hok i hi hik'
        · have : i = k := by omega
          subst this
          simpa using h4
      · show ((L.n : Int) - IntKind.i64.wrap ((k : Int) + 1)).toNat < ((L.n : Int) - k).toNat
        rw [wrap_i64 (by omega) (by omega)]; omega
    · try simp only [TUP_mk, AGG_mk, HD_mk, NL_mk, TYI_mk, TYB_mk, TYP_mk, TYL_mk, TYS_mk, TYM_mk, SO_mk, NX_mk, endK_mk, endK_mk', add_0]
      refine h2 _ e3 ⟨L.men[k], List.getElem_mem _, by simpa using h4⟩
  · try simp only [TUP_mk, AGG_mk, HD_mk, NL_mk, TYI_mk, TYB_mk, TYP_mk, TYL_mk, TYS_mk, TYM_mk, SO_mk, NX_mk, endK_mk, endK_mk', add_0]
    refine h1 _ e1 ?_
    intro m hm'
    obtain ⟨i, hi, rfl⟩ := List.getElem_of_mem hm'
    exact hok i hi (by have : L.n = L.men.length := rfl; omega)

/-- These lots stay, whatever is written between 'lo' and 'hi'. -/
def Stays (lo hi : Nat) (s : Hp) (p : Addr) (L : Lts) : Prop := ∀ (D : Nat → Prop) (t : Hp), Kp D s t → (∀ b, D b → lo ≤ b ∧ b < hi) → LotsO t p L
theorem Stays.ext {lo hi : Nat} {s s' : Hp} (h : Stays lo hi s p L) (e : Ext s s') : Stays lo hi s' p L := fun D t k hd => h D t (e.kp.trans k) hd
theorem Stays.lots {lo hi : Nat} {s : Hp} (h : Stays lo hi s p L) : LotsO s p L := h (fun _ => False) s (Kp.refl s) (fun _ h => h.elim)
theorem c_open {x : Option Addr} {c : Nat} {sm : Hp} (hm0 : MenAt sm x L.men) (em : Ext sm s) (h1 : valid L = true → ∀ s' p, Ext s s' → Stays sm.size s.size s' p L → K (.pointer (some p)) s') (h2 : valid L = false → ∀ s', Ext s s' → E (pn 1) s') :
    CALL Pg W F_lot_open [.agg #[.slice x L.n c, .int .i64 L.worst]] K E s := by
  have hm := hm0.ext em
  refine does_lot_open W x L.n c L.worst _ s ?_
  unfold T_lot_open NEW
  generalize hs1 : s.push (.cells [Value.slice x L.n c, Value.int .i64 L.worst].toArray 24 (0, 0)) = s1
  have e1 : Ext s s1 := by rw [← hs1]; exact Ext.push (Ext.refl _)
  have c0 : cellAt s1 ⟨s.size, 0, none⟩ = some (.slice x L.n c) := by rw [← hs1]; exact cell_new rfl
  have c1 : cellAt s1 ⟨s.size, 1, none⟩ = some (.int .i64 L.worst) := by rw [← hs1]; exact cell_new rfl
  refine ⟨_, _, _, c0, _, c1, ?_⟩
  refine c_rules fun s2 r e2 hrb hr => ?_
  try simp only [TUP_mk, AGG_mk, HD_mk, NL_mk, TYI_mk, TYB_mk, TYP_mk, TYL_mk, TYS_mk, TYM_mk, SO_mk, NX_mk, endK_mk, endK_mk', add_0]
  refine ⟨⟨_, _, _, e2.cell c0, _, e2.cell c1, rfl⟩, ?_⟩
  dsimp only
  generalize hs3 : s2.push (.cells [Value.slice x L.n c, Value.int .i64 L.worst, Value.slice (some r) 3 3].toArray 109 (0, 0)) = s3
  have e3 : Ext s2 s3 := by rw [← hs3]; exact Ext.push (Ext.refl _)
  have hq : LotsQ s3 ⟨s2.size, 0, none⟩ L := by
    refine ⟨⟨x, c, ?_, (hm.ext (e1.trans e2)).ext e3⟩, ?_, ⟨r, ?_, ?_⟩⟩
    · rw [← hs3]; exact cell_new (i := 0) rfl
    · rw [← hs3]; exact cell_new (i := 1) rfl
    · rw [← hs3]; exact cell_new (i := 2) rfl
    · obtain ⟨a, b, c, d, f, g⟩ := hr
      exact ⟨e3.cell a, e3.cell b, e3.cell c, e3.cell d, e3.cell f, e3.cell g⟩
  have e03 := (e1.trans e2).trans e3
  have d0 := e3.cell (e2.cell c0)
  have d1 := e3.cell (e2.cell c1)
  refine c_plotsQ hq ?_
  try simp only [TUP_mk, AGG_mk, HD_mk, NL_mk, TYI_mk, TYB_mk, TYP_mk, TYL_mk, TYS_mk, TYM_mk, SO_mk, NX_mk, endK_mk, endK_mk', add_0]
  refine c_within ?_
  try simp only [TUP_mk, AGG_mk, HD_mk, NL_mk, TYI_mk, TYB_mk, TYP_mk, TYL_mk, TYS_mk, TYM_mk, SO_mk, NX_mk, endK_mk, endK_mk', add_0]
  refine BR_dec (fun h3 => ?_) (fun h3 => ?_)
  · have hn1 : 1 ≤ L.n := by omega
    have hn8 : L.n ≤ 8 := by omega
    refine ⟨_, d1, ?_⟩
    refine c_plotsQ hq ?_
    try simp only [TUP_mk, AGG_mk, HD_mk, NL_mk, TYI_mk, TYB_mk, TYP_mk, TYL_mk, TYS_mk, TYM_mk, SO_mk, NX_mk, endK_mk, endK_mk', add_0]
    refine ⟨⟨_, d1, rfl⟩, NNI_nat ?_⟩
    have hsh : IntKind.wrap .i64 ((shlv .i64 1 (L.n : Int)) - 1) = 2 ^ L.n - 1 := by
      have key : ∀ n : Nat, n ≤ 8 → IntKind.wrap .i64 ((shlv .i64 1 (n : Int)) - 1) = 2 ^ n - 1 := by decide
      exact key _ hn8
    rw [hsh]
    refine c_within ?_
    try simp only [TUP_mk, AGG_mk, HD_mk, NL_mk, TYI_mk, TYB_mk, TYP_mk, TYL_mk, TYS_mk, TYM_mk, SO_mk, NX_mk, endK_mk, endK_mk', add_0]
    refine c_must' (fun h4 => ?_) (fun h4 => ?_)
    · try simp only [TUP_mk, AGG_mk, HD_mk, NL_mk, TYI_mk, TYB_mk, TYP_mk, TYL_mk, TYS_mk, TYM_mk, SO_mk, NX_mk, endK_mk, endK_mk', add_0]
      have h4' : 0 ≤ L.worst ∧ L.worst ≤ 2 ^ L.n - 1 := by simpa using h4
      refine ⟨_, _, _, d0, ?_⟩
      refine c_open_loop ((hm.ext (e1.trans e2)).ext e3) hn8 ?_ ?_ (Ext.refl _)
      · intro s' e' hc
        try simp only [TUP_mk, AGG_mk, HD_mk, NL_mk, TYI_mk, TYB_mk, TYP_mk, TYL_mk, TYS_mk, TYM_mk, SO_mk, NX_mk, endK_mk, endK_mk', add_0]
        have hv : valid L = true := vd_iff.2 ⟨hn1, hn8, h4'.1, h4'.2, hc⟩
        refine h1 hv s' _ (e03.trans e') ?_
        intro D t k hd
        have hk : ∀ {a : Addr} {v : Value}, s.size ≤ a.block ∨ a.block < sm.size → cellAt s3 a = some v → cellAt t a = some v := fun ha hc => k.cell (fun hh => by have := hd _ hh; omega) (e'.cell hc)
        have hs2 : s.size ≤ s2.size := (e1.trans e2).1
        have hs1 : s.size ≤ s1.size := e1.1
        refine ⟨hv, ⟨x, c, ?_, ?_⟩, ?_, ⟨r, ?_, ?_⟩⟩
        · obtain ⟨x', c', g1, g2⟩ := hq.mem
          exact hk (.inl hs2) (by rw [← hs3]; exact cell_new (i := 0) rfl)
        · intro i hi
          obtain ⟨a, g0, g1, g2, g3⟩ := hm0 i hi
          have e3' := em.trans e03
          have bl : ∀ j, ((a.add (i * 3)).add j).block = a.block := fun j => by rw [add_block, add_block]
          have hb := cell_lt g1
          rw [bl] at hb
          exact ⟨a, g0, hk (.inr (by rw [bl]; exact hb)) (e3'.cell g1), hk (.inr (by rw [bl]; exact hb)) (e3'.cell g2), hk (.inr (by rw [bl]; exact hb)) (e3'.cell g3)⟩
        · exact hk (.inl hs2) (by rw [← hs3]; exact cell_new (i := 1) rfl)
        · exact hk (.inl hs2) (by rw [← hs3]; exact cell_new (i := 2) rfl)
        · obtain ⟨g1, g2, g3, g4, g5, g6⟩ := hr
          have bl : ∀ i j, ((r.add i).add j).block = r.block := fun i j => by rw [add_block, add_block]
          have hb : ∀ i j, s.size ≤ ((r.add i).add j).block ∨ ((r.add i).add j).block < sm.size := fun i j => .inl (by rw [bl]; omega)
          exact ⟨hk (hb _ _) (e3.cell g1), hk (hb _ _) (e3.cell g2), hk (hb _ _) (e3.cell g3), hk (hb _ _) (e3.cell g4), hk (hb _ _) (e3.cell g5), hk (hb _ _) (e3.cell g6)⟩
      · rintro s' e' ⟨m, hm1, hm2⟩
        try simp only [TUP_mk, AGG_mk, HD_mk, NL_mk, TYI_mk, TYB_mk, TYP_mk, TYL_mk, TYS_mk, TYM_mk, SO_mk, NX_mk, endK_mk, endK_mk', add_0]
        have hv : valid L = false := by
          cases hv : valid L with
          | false => rfl
          | true => exact absurd ((vd_iff.1 hv).club m hm1) hm2
        exact h2 hv s' (e03.trans e')
    · try simp only [TUP_mk, AGG_mk, HD_mk, NL_mk, TYI_mk, TYB_mk, TYP_mk, TYL_mk, TYS_mk, TYM_mk, SO_mk, NX_mk, endK_mk, endK_mk', add_0]
      have hv : valid L = false := by
        cases hv : valid L with
        | false => rfl
        | true =>
          have v := vd_iff.1 hv
          have : ¬ (0 ≤ L.worst ∧ L.worst ≤ 2 ^ L.n - 1) := by simpa using h4
          exact absurd ⟨v.w0, v.w1⟩ this
      exact h2 hv _ e03
  · refine c_must' (fun h4 => by cases h4) (fun _ => ?_)
    try simp only [TUP_mk, AGG_mk, HD_mk, NL_mk, TYI_mk, TYB_mk, TYP_mk, TYL_mk, TYS_mk, TYM_mk, SO_mk, NX_mk, endK_mk, endK_mk', add_0]
    have hv : valid L = false := by
      cases hv : valid L with
      | false => rfl
      | true => have v := vd_iff.1 hv; have := v.lo; have := v.hi; omega
    exact h2 hv _ e03
end
end Go.Proofs.Ytocnkdkgajdejaa.G

/- Contracts: what is told; what is wrong with a draw. -/
set_option linter.unusedSimpArgs false
set_option linter.unusedVariables false
set_option maxRecDepth 20000
namespace Go.Proofs.Ytocnkdkgajdejaa.G
open Go.V Go.Lot

theorem zc_105 : zc Pg 105 = [.int .i64 0] := by kernel_rfl
theorem told_vc_none (W : World) (a : Addr) (K : Hp → Prop) : vc Pg W 15 [15] (fun _ => {}) false (sub (bodyOf Try.f42) [1]) 0 (Kdone 15 K) (updo 15 (some 5) .nilIface (Go.V.start [.pointer (some a)] 0)) = (fun s => undef = undef ∧ K s) := by kernel_rfl
theorem told_vc_some (W : World) (a : Addr) (e : Int) (K : Hp → Prop) : vc Pg W 15 [15] (fun _ => {}) false (sub (bodyOf Try.f42) [1]) 0 (Kdone 15 K) (updo 15 (some 5) (.iface 105 (.agg #[.int .i64 e])) (Go.V.start [.pointer (some a)] 0)) =
    NEWZ Pg 105 fun B => WR (Addr.add ⟨B, 0, none⟩ 0) (.int .i64 e) <| RDI .i64 (Addr.add ⟨B, 0, none⟩ 0) fun n => WR (Addr.add a 0) (.int .i64 n) fun s => undef = undef ∧ K s := by kernel_rfl
theorem told_ok_fn : callable Pg 42 = true := by kernel_rfl
theorem told_code : codeOk 15 (sub (bodyOf Try.f42) [1]) = true := by kernel_rfl
theorem told_nr : hasR (sub (bodyOf Try.f42) [1]) = false := by kernel_rfl

section
variable {W : World} {K : Hp → Prop} {s : Hp}
theorem told_none {a : Addr} (h : K s) : DoesD Pg W 42 [.pointer (some a)] none s K := by
  refine told_ok (id := 0) (ty := 20) (pos := "lot.go:22") (d := 5) (an := fun _ => {}) (c := sub (bodyOf Try.f42) [1]) (v := .nilIface) Try.func42 told_ok_fn (by kernel_rfl) told_code told_nr rfl (show 1 ≤ 15 by decide) (.inl ⟨rfl, rfl⟩) ?_
  show vc Pg W 15 [15] _ false _ 0 (Kdone 15 K) (updo 15 (some 5) .nilIface (Go.V.start [.pointer (some a)] 0)) s
  rw [told_vc_none]
  exact ⟨rfl, h⟩
theorem told_some {a : Addr} {e : Int} {x : Value} (ho : Own s a x) (h : ∀ s', Kp (· = a.block) s s' → Own s' a (.int .i64 e) → K s') : DoesD Pg W 42 [.pointer (some a)] (some (pn e)) s K := by
  refine told_ok (id := 0) (ty := 20) (pos := "lot.go:22") (d := 5) (an := fun _ => {}) (c := sub (bodyOf Try.f42) [1]) (v := .iface 105 (.agg #[.int .i64 e])) Try.func42 told_ok_fn (by kernel_rfl) told_code told_nr rfl (show 1 ≤ 15 by decide) (.inr rfl) ?_
  show vc Pg W 15 [15] _ false _ 0 (Kdone 15 K) (updo 15 (some 5) (.iface 105 (.agg #[.int .i64 e])) (Go.V.start [.pointer (some a)] 0)) s
  rw [told_vc_some]
  unfold NEWZ
  rw [zc_105]
  refine WR_own (own_new (i := 0) rfl) rfl ⟨_, own_cell (own_set (own_new (i := 0) rfl)), ?_⟩
  generalize hs1 : s.push (.cells [Value.int .i64 0].toArray 105 (0, 0)) = s1
  have e1 : Ext s s1 := by rw [← hs1]; exact Ext.push (Ext.refl _)
  have hlt := ho.lt
  have o2 : Own (setC s1 (Addr.add ⟨s.size, 0, none⟩ 0) (.int .i64 e)) a x := own_set_ne (.inl (by show a.block ≠ s.size; omega)) (e1.own ho)
  refine WR_own o2 rfl ⟨rfl, h _ ?_ (own_set o2)⟩
  exact Kp.setC (Kp.setC e1.kp (.inr (Nat.le_refl _))) (.inl rfl)
theorem def_none {a : Addr} (h : K s) : DEF Pg W (.tuple #[.func (.func 42) #[] #[], .tuple #[.pointer (some a)]]) none K s := told_none h
theorem def_some {a : Addr} {e : Int} {x : Value} (ho : Own s a x) (h : ∀ s', Kp (· = a.block) s s' → Own s' a (.int .i64 e) → K s') : DEF Pg W (.tuple #[.func (.func 42) #[] #[], .tuple #[.pointer (some a)]]) (some (pn e)) K s := told_some ho h
end

/-- Numbers of ploughmen as values. -/
def vals (d : List Nat) : List Value := d.map fun (m : Nat) => .int .i64 (m : Int)
theorem vals_len (d : List Nat) : (vals d).length = d.length := by simp [vals]
theorem vals_get {d : List Nat} {i : Nat} (h : i < (vals d).length) : (vals d)[i] = .int .i64 ((d[i]'(by simpa [vals] using h) : Nat) : Int) := by simp [vals]

section
variable {W : World} {K : VK} {E : List PanicEntry → Hp → Prop} {s : Hp} {L : Lts} {p : Addr}

theorem c_wrong {y : Option Addr} {c : Nat} {d : List Nat} (hl : LotsO s p L) (hd : ∀ m ∈ d, m < L.n) (hlen : d.length ≤ 1000) (hy : RowAt s y (vals d))
    (h1 : ∀ s' i r, Ext s s' → wrong L d = some (i, r) → K (.tuple #[.int .i64 (i : Nat), .int .i64 (r : Nat), .bool true]) s') (h2 : ∀ s', Ext s s' → wrong L d = none → K (.tuple #[.int .i64 0, .int .i64 0, .bool false]) s') :
    CALL Pg W F_lot_lots_wrong [.pointer (some p), .slice y d.length c] K E s := by
  refine does_lot_lots_wrong W (some p) y d.length c _ s ?_
  unfold T_lot_lots_wrong
  refine L_lot_lots_wrong_0_rule W _ (some p) y d.length c d.length (fun _ _ _ n8 n9 s' => ∃ k : Nat, k ≤ d.length ∧ n9 = k ∧ (∃ b : Nat, n8 = b ∧ (b = 8 ∨ b < L.n) ∧ wrong L d = wrongG L k b (d.drop k)) ∧ Ext s s') (fun _ _ _ _ n9 _ => (d.length - n9).toNat) 0 0 false 8 0 s
    ⟨0, by omega, rfl, ⟨8, rfl, .inl rfl, rfl⟩, Ext.refl _⟩ ?_
  rintro n5 n6 b7 n8 n9 s1 ⟨k, hk, rfl, ⟨b, rfl, hb, hw⟩, e1⟩
  unfold B_lot_lots_wrong_0
  refine BR_dec (fun h3 => ?_) (fun h3 => ?_)
  · have hkl : k < d.length := by omega
    have hkv : k < (vals d).length := by rw [vals_len]; exact hkl
    obtain ⟨a, rfl, g⟩ := hy k hkv
    rw [vals_get hkv] at g
    refine ⟨a, rfl, ⟨by omega, by omega⟩, ?_⟩
    have tk : ((k : Int)).toNat = k := by omega
    rw [tk]
    refine ⟨_, e1.cell g, ?_⟩
    have hm := hd d[k] (List.getElem_mem _)
    refine c_broken (hl.ext e1) hm hb fun s2 e2 => ?_
    try simp only [TUP_mk, AGG_mk, HD_mk, NL_mk, TYI_mk, TYB_mk, TYP_mk, TYL_mk, TYS_mk, TYM_mk, SO_mk, NX_mk, endK_mk, endK_mk', add_0]
    have hdrop : d.drop k = d[k] :: d.drop (k + 1) := List.drop_eq_getElem_cons hkl
    rw [hdrop] at hw
    unfold wrongG at hw
    refine BR_ne (fun h4 => ?_) (fun h4 => ?_)
    · have h4' : fst L k d[k] b ≠ 0 := by omega
      rw [if_pos h4'] at hw
      exact h1 s2 k _ (e1.trans e2) hw
    · have h4' : ¬ fst L k d[k] b ≠ 0 := by omega
      rw [if_neg h4'] at hw
      refine ⟨_, _, _, _, _, rfl, ⟨k + 1, hkl, ?_, ⟨d[k], rfl, .inr hm, hw⟩, e1.trans e2⟩, ?_⟩
      · rw [wrap_i64 (by omega) (by omega)]; rfl
      · show ((d.length : Int) - IntKind.i64.wrap ((k : Int) + 1)).toNat < ((d.length : Int) - k).toNat
        rw [wrap_i64 (by omega) (by omega)]; omega
  · have : k = d.length := by omega
    subst this
    rw [List.drop_length] at hw
    try simp only [TUP_mk, AGG_mk, HD_mk, NL_mk, TYI_mk, TYB_mk, TYP_mk, TYL_mk, TYS_mk, TYM_mk, SO_mk, NX_mk, endK_mk, endK_mk', add_0]
    exact h2 s1 e1 hw
end
end Go.Proofs.Ytocnkdkgajdejaa.G

/- Contracts: a draw that is copied; the index of an element. -/
set_option linter.unusedSimpArgs false
set_option linter.unusedVariables false
set_option maxRecDepth 20000
namespace Go.Proofs.Ytocnkdkgajdejaa.G
open Go.V Go.Lot

def ints (ds : List Int) : List Value := ds.map fun n => .int .i64 n
theorem ints_len (ds : List Int) : (ints ds).length = ds.length := by simp [ints]
theorem ints_get {ds : List Int} {i : Nat} (h : i < (ints ds).length) : (ints ds)[i] = .int .i64 (ds[i]'(by simpa [ints] using h)) := by simp [ints]
theorem ints_one (ds : List Int) : ∀ v ∈ ints ds, oneCell v = true := by
  intro v hv
  obtain ⟨n, _, rfl⟩ := List.mem_map.1 hv
  rfl
theorem vals_ints (ds : List Int) (h : ∀ x ∈ ds, 0 ≤ x) : vals (ds.map Int.toNat) = ints ds := by
  unfold vals ints
  rw [List.map_map]
  apply List.map_congr_left
  intro x hx
  simp [Int.toNat_of_nonneg (h x hx)]

def okDraw (L : Lts) (ds : List Int) : Prop := ds.length = L.n ∧ (∀ x ∈ ds, 0 ≤ x ∧ x < L.n) ∧ ds.Nodup
instance (L : Lts) (ds : List Int) : Decidable (okDraw L ds) := by unfold okDraw; infer_instance

theorem orv_eq : ∀ w : Nat, w < 256 → ∀ m : Nat, m < 8 → orv .u64 (w : Int) (shlv .u64 1 (m : Int)) = ((w ||| 2 ^ m : Nat) : Int) := by
  have h : ((List.range 256).all fun (l : Nat) => (List.range 8).all fun (m : Nat) => decide (orv .u64 (l : Int) (shlv .u64 1 (m : Int)) = ((l ||| 2 ^ m : Nat) : Int))) = true := by decide +kernel
  intro w hl m hm
  have h1 := List.all_eq_true.1 h w (by simpa using hl)
  have h2 := List.all_eq_true.1 h1 m (by simpa using hm)
  simpa using h2

section
variable {W : World} {K : VK} {E : List PanicEntry → Hp → Prop} {s : Hp} {L : Lts} {p : Addr}

theorem c_drawl {y : Option Addr} {c : Nat} {ds : List Int} (hl : LotsO s p L) (hy : RowAt s y (ints ds)) (hlen : ds.length ≤ 100000)
    (h1 : okDraw L ds → ∀ s' x, Ext s s' → Buf s' (some x) ds.length (ints ds) → s.size ≤ x.block → K (.slice (some x) ds.length ds.length) s') (h2 : ¬ okDraw L ds → ∀ s', Ext s s' → E (pn 2) s') :
    CALL Pg W F_lot_lots_draw [.pointer (some p), .slice y ds.length c] K E s := by
  refine does_lot_lots_draw W (some p) y ds.length c _ s ?_
  unfold T_lot_lots_draw
  have v := vd_iff.1 hl.ok
  have hn8 := v.hi
  refine c_plots hl ?_
  try simp only [TUP_mk, AGG_mk, HD_mk, NL_mk, TYI_mk, TYB_mk, TYP_mk, TYL_mk, TYS_mk, TYM_mk, SO_mk, NX_mk, endK_mk, endK_mk', add_0]
  refine c_must' (fun h3 => ?_) (fun h3 => ?_)
  · try simp only [TUP_mk, AGG_mk, HD_mk, NL_mk, TYI_mk, TYB_mk, TYP_mk, TYL_mk, TYS_mk, TYM_mk, SO_mk, NX_mk, endK_mk, endK_mk', add_0]
    have hdl : ds.length = L.n := by have : ((ds.length : Int)) = (L.n : Int) := by simpa using h3
                                     omega
    refine L_lot_lots_draw_0_rule W _ (some p) y ds.length c ds.length (fun n11 n12 s' => s' = s ∧ ∃ k w : Nat, k ≤ ds.length ∧ n12 = k ∧ n11 = w ∧ w < 256 ∧ (∀ x ∈ ds.take k, 0 ≤ x ∧ x < L.n) ∧ (ds.take k).Nodup ∧ ∀ i, w.testBit i = decide ((i : Int) ∈ ds.take k)) (fun _ n12 _ => (ds.length - n12).toNat) 0 0 s
      ⟨rfl, 0, 0, by omega, rfl, rfl, by omega, by simp, by simp, by simp⟩ ?_
    rintro n11 n12 s1 ⟨rfl, k, w, hk, rfl, rfl, hw, hr, hnd, hb⟩
    unfold B_lot_lots_draw_0
    refine BR_dec (fun h4 => ?_) (fun h4 => ?_)
    · have hkl : k < ds.length := by omega
      have hkv : k < (ints ds).length := by rw [ints_len]; exact hkl
      obtain ⟨a, rfl, g⟩ := hy k hkv
      rw [ints_get hkv] at g
      refine ⟨a, rfl, ⟨by omega, by omega⟩, ?_⟩
      have tk : ((k : Int)).toNat = k := by omega
      rw [tk]
      refine ⟨_, g, ?_⟩
      refine c_is hl ?_
      try simp only [TUP_mk, AGG_mk, HD_mk, NL_mk, TYI_mk, TYB_mk, TYP_mk, TYL_mk, TYS_mk, TYM_mk, SO_mk, NX_mk, endK_mk, endK_mk', add_0]
      have hmem : ds[k] ∈ ds := List.getElem_mem _
      refine BR_dec (fun h5 => ?_) (fun h5 => ?_)
      · obtain ⟨m, hm⟩ : ∃ m : Nat, ds[k] = m := ⟨ds[k].toNat, by omega⟩
        have hm8 : m < 8 := by omega
        rw [hm]
        refine c_has (by omega) ?_
        try simp only [TUP_mk, AGG_mk, HD_mk, NL_mk, TYI_mk, TYB_mk, TYP_mk, TYL_mk, TYS_mk, TYM_mk, SO_mk, NX_mk, endK_mk, endK_mk', add_0]
        refine c_must' (fun h6 => ?_) (fun h6 => ?_)
        · try simp only [TUP_mk, AGG_mk, HD_mk, NL_mk, TYI_mk, TYB_mk, TYP_mk, TYL_mk, TYS_mk, TYM_mk, SO_mk, NX_mk, endK_mk, endK_mk', add_0]
          have hnb : w.testBit m = false := by simpa using h6
          have hnot : ds[k] ∉ ds.take k := by
            rw [hb] at hnb
            rw [hm]
            exact of_decide_eq_false hnb
          refine NNI_nat ⟨_, _, rfl, ⟨rfl, k + 1, w ||| 2 ^ m, hkl, ?_, ?_, ?_, ?_, ?_, ?_⟩, ?_⟩
          · rw [wrap_i64 (by omega) (by omega)]; rfl
          · exact orv_eq w hw m hm8
          · exact Nat.or_lt_two_pow (n := 8) hw (Nat.pow_lt_pow_right (by omega) hm8)
          · intro x hx
            rw [List.take_add_one, List.getElem?_eq_getElem hkl] at hx
            rcases List.mem_append.1 hx with hx | hx
            · exact hr x hx
            · simp at hx; subst hx; omega
          · rw [List.take_add_one, List.getElem?_eq_getElem hkl]
            rw [List.nodup_append]
            refine ⟨hnd, by simp, ?_⟩
            intro x hx y hy' e
            simp at hy'
            subst e
            rw [hy'] at hx
            exact hnot hx
          · intro i
            rw [Nat.testBit_or, hb, Nat.testBit_two_pow, List.take_add_one, List.getElem?_eq_getElem hkl]
            simp only [Option.toList_some, List.mem_append, List.mem_singleton, hm]
            by_cases e : m = i
            · subst e; simp
            · have : ¬ ((i : Int) = (m : Int)) := by omega
              simp [e, this]
          · show ((ds.length : Int) - IntKind.i64.wrap ((k : Int) + 1)).toNat < ((ds.length : Int) - k).toNat
            rw [wrap_i64 (by omega) (by omega)]; omega
        · try simp only [TUP_mk, AGG_mk, HD_mk, NL_mk, TYI_mk, TYB_mk, TYP_mk, TYL_mk, TYS_mk, TYM_mk, SO_mk, NX_mk, endK_mk, endK_mk', add_0]
          have hbt : w.testBit m = true := by simpa using h6
          have hin : ds[k] ∈ ds.take k := by
            rw [hb] at hbt
            rw [hm]
            exact of_decide_eq_true hbt
          refine h2 (fun ho => ?_) s1 (Ext.refl _)
          have hnd' : ds.Nodup := ho.2.2
          have e1 : ds = ds.take k ++ ds.drop k := (List.take_append_drop k ds).symm
          have hnd2 : (ds.take k ++ ds.drop k).Nodup := by rw [← e1]; exact hnd'
          rw [List.nodup_append] at hnd2
          replace hnd' := hnd2
          have hdr : ds[k] ∈ ds.drop k := by
            have : ds[k] ∈ ds[k] :: ds.drop (k + 1) := List.mem_cons_self
            rwa [← List.drop_eq_getElem_cons hkl] at this
          exact hnd'.2.2 _ hin _ hdr rfl
      · refine c_must' (fun h6 => by cases h6) (fun _ => ?_)
        try simp only [TUP_mk, AGG_mk, HD_mk, NL_mk, TYI_mk, TYB_mk, TYP_mk, TYL_mk, TYS_mk, TYM_mk, SO_mk, NX_mk, endK_mk, endK_mk', add_0]
        refine h2 (fun ho => ?_) s1 (Ext.refl _)
        have := ho.2.1 _ hmem
        omega
    · have hkl : k = ds.length := by omega
      subst hkl
      rw [List.take_length] at hr hnd
      have hok : okDraw L ds := ⟨hdl, hr, hnd⟩
      unfold MKS
      refine ⟨⟨by omega, by omega, by omega⟩, ?_⟩
      have tl : ((ds.length : Int)).toNat = ds.length := by omega
      simp only [tl, zc_3]
      generalize hs2 : s1.push (.cells (repL ds.length [Value.int .i64 0]).toArray 3 (0, 0)) = s2
      have e2 : Ext s1 s2 := by rw [← hs2]; exact Ext.push (Ext.refl _)
      unfold COPY
      rw [Nat.min_self]
      refine ⟨ints ds, by rw [Nat.mul_one, ← ints_len]; exact (hy.ext e2).cells, ?_⟩
      refine wrN_rule (ints ds) _ 0 _ s2 (fun i hi => ?_) (ints_one ds) ?_
      · rw [ints_len] at hi
        rw [add_nil, ← hs2]
        exact ⟨_, own_new (by rw [Nat.zero_add, Nat.zero_add]; exact repL_getD _ _ _ hi)⟩
      · intro s3 k3 z3 ho hk3
        try simp only [TUP_mk, AGG_mk, HD_mk, NL_mk, TYI_mk, TYB_mk, TYP_mk, TYL_mk, TYS_mk, TYM_mk, SO_mk, NX_mk, endK_mk, endK_mk', add_0]
        refine h1 hok s3 ⟨s1.size, 0, none⟩ ?_ ⟨by rw [ints_len]; exact Nat.le_refl _, fun i hi => ⟨_, rfl, _, by have := ho i (by rw [ints_len]; exact hi); rwa [Nat.zero_add] at this, fun h => rfl⟩⟩ (Nat.le_refl _)
        exact ⟨Nat.le_trans e2.1 k3.1, fun b hb => by rw [k3.2 b (by have := e2.1; omega) (fun (hc : b = s1.size) => by omega)]; exact e2.2 b hb⟩
  · try simp only [TUP_mk, AGG_mk, HD_mk, NL_mk, TYI_mk, TYB_mk, TYP_mk, TYL_mk, TYS_mk, TYM_mk, SO_mk, NX_mk, endK_mk, endK_mk', add_0]
    refine h2 (fun ho => ?_) s (Ext.refl _)
    have : ¬ ((ds.length : Int) = (L.n : Int)) := by simpa using h3
    have := ho.1
    omega

theorem c_index {x : Option Addr} {c : Nat} {f : Value} {xs : List Value} {I J : Nat → Hp → Prop} (hxs : ∀ v ∈ xs, ∃ n, v = .int .i64 n) (hlen : xs.length ≤ 100000) (hI : ∀ k s, I k s → RowAt s x xs)
    (hf : ∀ k v, xs[k]? = some v → ∀ (K : VK) (E : List PanicEntry → Hp → Prop) (s : Hp), I k s → (∀ s', J k s' → K (.bool true) s') → (∀ s', I (k + 1) s' → K (.bool false) s') → CALLV Pg W f [v] K E s)
    (h0 : I 0 s) (h1 : ∀ k s', k < xs.length → J k s' → K (.int .i64 (k : Nat)) s') (h2 : ∀ s', I xs.length s' → K (.int .i64 (-1)) s') : CALL Pg W F_lot_index_int [.slice x xs.length c, f] K E s := by
  refine does_lot_index_int W x xs.length c f _ s ?_
  unfold T_lot_index_int
  refine L_lot_index_int_0_rule W _ f x xs.length c xs.length (fun _ n6 s' => ∃ k : Nat, k ≤ xs.length ∧ n6 = k ∧ I k s') (fun _ n6 _ => (xs.length - n6).toNat) 0 0 s ⟨0, by omega, rfl, h0⟩ ?_
  rintro n5 n6 s1 ⟨k, hk, rfl, hIk⟩
  unfold B_lot_index_int_0
  refine BR_dec (fun h3 => ?_) (fun h3 => ?_)
  · have hkl : k < xs.length := by omega
    obtain ⟨a, rfl, g⟩ := hI k s1 hIk k hkl
    obtain ⟨n, hn⟩ := hxs xs[k] (List.getElem_mem _)
    refine ⟨a, rfl, ⟨by omega, by omega⟩, ?_⟩
    have tk : ((k : Int)).toNat = k := by omega
    rw [tk]
    rw [hn] at g
    refine ⟨_, g, ?_⟩
    refine hf k (.int .i64 n) (by rw [List.getElem?_eq_getElem hkl, hn]) _ _ s1 hIk (fun s2 hJ => ?_) (fun s2 hI2 => ?_)
    · try simp only [TUP_mk, AGG_mk, HD_mk, NL_mk, TYI_mk, TYB_mk, TYP_mk, TYL_mk, TYS_mk, TYM_mk, SO_mk, NX_mk, endK_mk, endK_mk', add_0]
      exact h1 k s2 hkl hJ
    · try simp only [TUP_mk, AGG_mk, HD_mk, NL_mk, TYI_mk, TYB_mk, TYP_mk, TYL_mk, TYS_mk, TYM_mk, SO_mk, NX_mk, endK_mk, endK_mk', add_0]
      refine ⟨_, _, rfl, ⟨k + 1, hkl, ?_, hI2⟩, ?_⟩
      · rw [wrap_i64 (by omega) (by omega)]; rfl
      · show ((xs.length : Int) - IntKind.i64.wrap ((k : Int) + 1)).toNat < ((xs.length : Int) - k).toNat
        rw [wrap_i64 (by omega) (by omega)]; omega
  · have : k = xs.length := by omega
    subst this
    try simp only [TUP_mk, AGG_mk, HD_mk, NL_mk, TYI_mk, TYB_mk, TYP_mk, TYL_mk, TYS_mk, TYM_mk, SO_mk, NX_mk, endK_mk, endK_mk', add_0]
    exact h2 s1 hIk
end
end Go.Proofs.Ytocnkdkgajdejaa.G

/- Contracts: a draw that is made by choosing. -/
set_option linter.unusedSimpArgs false
set_option linter.unusedVariables false
set_option maxRecDepth 20000
namespace Go.Proofs.Ytocnkdkgajdejaa.G
open Go.V Go.Lot

theorem zc_25 : zc Pg 25 = [.slice none 0 0] := by kernel_rfl
theorem zc_74 : zc Pg 74 = [.int .u64 0] := by kernel_rfl

/-- What chooses. -/
structure Chs (W : World) (L : Lts) (fv : Value) (s0 : Hp) (F : Nat → Prop) {σ : Type} (St : σ → Hp → Prop) (nxt : σ → Nat → Nat → Nat × σ) (Inv : σ → Nat → Nat → Prop) : Prop where
  low : ∀ x s s', St x s → (∀ b, b < s0.size → s'[b]? = s[b]?) → s.size ≤ s'.size → St x s'
  foot : ∀ b, F b → b < s0.size
  call : ∀ x left b, Inv x left b → left ≠ 0 → left < 2 ^ L.n → (b = 8 ∨ b < L.n) → ∃ i, (cans L left b)[i]? = some (nxt x left b).1 ∧ Inv (nxt x left b).2 (left - 2 ^ (nxt x left b).1) (nxt x left b).1 ∧
    ∀ (K : VK) (E : List PanicEntry → Hp → Prop) (s : Hp) (x1 : Option Addr) (c1 : Nat) (x2 : Option Addr) (c2 : Nat), Kp F s0 s → St x s → RowAt s x1 (vals (cans L left b)) → RowAt s x2 (vals (manys L left b)) → (∀ a, x1 = some a → s0.size ≤ a.block) → (∀ a, x2 = some a → s0.size ≤ a.block) → (cans L left b).length ≤ c2 →
      (∀ s', Kp F s s' → St (nxt x left b).2 s' → K (.int .i64 (i : Nat)) s') → CALLV Pg W fv [.slice x1 (cans L left b).length c1, .slice x2 (cans L left b).length c2] K E s

section
variable {W : World} {K : VK} {E : List PanicEntry → Hp → Prop} {s : Hp} {L : Lts} {p : Addr}

theorem vals_one (d : List Nat) : ∀ v ∈ vals d, oneCell v = true := by
  intro v hv
  obtain ⟨n, _, rfl⟩ := List.mem_map.1 hv
  rfl
theorem vals_app (d e : List Nat) : vals (d ++ e) = vals d ++ vals e := by simp [vals]
theorem cell_row {s : Hp} {b : Nat} {v : Value} (h : cellAt s ⟨b, 0, none⟩ = some v) : RowAt s (some ⟨b, 0, none⟩) [v] := fun i hi => ⟨_, rfl, by
  have : i = 0 := by simpa using hi
  subst this
  exact h⟩
theorem own_lt' {s : Hp} {b o : Nat} {v : Value} (h : Own s ⟨b, o, none⟩ v) : b < s.size := h.lt

/-- The state of the lists that are made. -/
structure Two (s : Hp) (b1 b2 lo : Nat) (can many : List Nat) (x1 : Option Addr) (c1 : Nat) (x2 : Option Addr) (c2 : Nat) : Prop where
  o1 : Own s ⟨b1, 0, none⟩ (.slice x1 can.length c1)
  o2 : Own s ⟨b2, 0, none⟩ (.slice x2 many.length c2)
  u1 : Buf s x1 c1 (vals can)
  u2 : Buf s x2 c2 (vals many)
  f1 : ∀ a, x1 = some a → lo ≤ a.block
  f2 : ∀ a, x2 = some a → lo ≤ a.block
  ne : ∀ a a', x1 = some a → x2 = some a' → a.block ≠ a'.block
  m1 : c1 ≤ 9223372036854775808
  m2 : c2 ≤ 9223372036854775808
  lt : ∀ a, x1 = some a → a.block < s.size
  lt2 : ∀ a, x2 = some a → a.block < s.size
theorem Two.ext {s s' : Hp} {b1 b2 lo : Nat} {can many : List Nat} {x1 x2 : Option Addr} {c1 c2 : Nat} (e : Ext s s') (h : Two s b1 b2 lo can many x1 c1 x2 c2) : Two s' b1 b2 lo can many x1 c1 x2 c2 :=
  ⟨e.own h.o1, e.own h.o2, h.u1.ext e, h.u2.ext e, h.f1, h.f2, h.ne, h.m1, h.m2, fun a ha => Nat.lt_of_lt_of_le (h.lt a ha) e.1, fun a ha => Nat.lt_of_lt_of_le (h.lt2 a ha) e.1⟩
theorem Two.keep {s s' : Hp} {D : Nat → Prop} {b1 b2 lo : Nat} {can many : List Nat} {x1 x2 : Option Addr} {c1 c2 : Nat} (k : Kp D s s') (hd : ∀ b, D b → b < lo ∧ b ≠ b1 ∧ b ≠ b2) (h : Two s b1 b2 lo can many x1 c1 x2 c2) : Two s' b1 b2 lo can many x1 c1 x2 c2 :=
  ⟨k.own (fun hh => (hd _ hh).2.1 rfl) h.o1, k.own (fun hh => (hd _ hh).2.2 rfl) h.o2, h.u1.kp k (fun a ha hh => by have := (hd _ hh).1; have := h.f1 a ha; omega), h.u2.kp k (fun a ha hh => by have := (hd _ hh).1; have := h.f2 a ha; omega),
   h.f1, h.f2, h.ne, h.m1, h.m2, fun a ha => Nat.lt_of_lt_of_le (h.lt a ha) k.1, fun a ha => Nat.lt_of_lt_of_le (h.lt2 a ha) k.1⟩

/-- The last two appends and the two writes, whatever the order in which the new elements were made. -/
theorem two_app {b1 b2 lo : Nat} {can many : List Nat} {x1 x2 : Option Addr} {c1 c2 : Nat} {m n : Nat} {y : Nat} {KK : Hp → Prop} (h : Two s b1 b2 lo can many x1 c1 x2 c2) (hb : b1 < lo ∧ b2 < lo ∧ b1 ≠ b2) (hlo : lo ≤ s.size) (hlen : can.length ≤ 1000) (hl2 : many.length = can.length)
    (hy : cellAt s ⟨y, 0, none⟩ = some (.int .i64 m)) (hyl : y ≠ b1 ∧ y ≠ b2 ∧ lo ≤ y) (hyx : ∀ a, x2 = some a → a.block ≠ y)
    (B : (Option Addr → Nat → Nat → Hp → Prop) → Hp → Prop)
    (hB : ∀ (s' : Hp) (x1' : Option Addr) (c1' : Nat) (G : Option Addr → Nat → Nat → Hp → Prop), Kp (fun b => ∃ a, x1 = some a ∧ a.block = b) s s' → Kp (fun b => lo ≤ b) s s' → Own s' ⟨b1, 0, none⟩ (.slice x1 can.length c1) → Own s' ⟨b2, 0, none⟩ (.slice x2 many.length c2) → Buf s' x1' c1' (vals (can ++ [m])) → Buf s' x2 c2 (vals many) →
      (∀ a, x1' = some a → lo ≤ a.block) → (∀ a a', x1' = some a → x2 = some a' → a.block ≠ a'.block) → (∀ a, x1' = some a → a.block < s'.size) → c1' ≤ 9223372036854775808 → s.size ≤ s'.size →
      (∀ (s2 : Hp) (x2' : Option Addr) (c2' : Nat), Kp (fun b => lo ≤ b) s s2 → Own s2 ⟨b1, 0, none⟩ (.slice x1 can.length c1) → Own s2 ⟨b2, 0, none⟩ (.slice x2 many.length c2) → Buf s2 x1' c1' (vals (can ++ [m])) → Buf s2 x2' c2' (vals (many ++ [n])) → (∀ a, x2' = some a → lo ≤ a.block) →
        (∀ a a', x1' = some a → x2' = some a' → a.block ≠ a'.block) → (∀ a, x1' = some a → a.block < s2.size) → (∀ a, x2' = some a → a.block < s2.size) → c2' ≤ 9223372036854775808 → G x2' (many.length + 1) c2' s2) → B G s') 
    (hK : ∀ s', Kp (fun b => lo ≤ b ∨ b = b1 ∨ b = b2) s s' → (∃ x1 c1 x2 c2, Two s' b1 b2 lo (can ++ [m]) (many ++ [n]) x1 c1 x2 c2) → KK s') :
    APP Pg 3 1 x1 can.length c1 (some ⟨y, 0, none⟩) 1 (fun x65 l66 c67 => B fun x78 l79 c80 => WR (Addr.add ⟨b1, 0, none⟩ 0) (.slice x65 l66 c67) <| WR (Addr.add ⟨b2, 0, none⟩ 0) (.slice x78 l79 c80) <| KK) s := by
  have hv1 : (vals can).length = can.length := vals_len can
  have happ := APP_buf (P := Pg) (t := 3) (x := x1) (c := c1) (vs := vals can) (ws := [.int .i64 (m : Int)]) (y := some ⟨y, 0, none⟩) (z := .int .i64 0) (K := fun x65 l66 c67 => B fun x78 l79 c80 => WR (Addr.add ⟨b1, 0, none⟩ 0) (.slice x65 l66 c67) <| WR (Addr.add ⟨b2, 0, none⟩ 0) (.slice x78 l79 c80) <| KK)
    h.u1 (cell_row hy) zc_3 (fun v hv => by simp at hv; subst hv; rfl) (by rw [hv1]; simp; omega) h.m1 ?_
  · rw [hv1] at happ; exact happ
  intro s' x1' c1' k1 g1 g2 g3 u1'
  rw [hv1]
  have kk : Kp (fun b => lo ≤ b) s s' := k1.mono (fun b ⟨a, ha, hab⟩ => by rw [← hab]; exact h.f1 a ha)
  have nlo1 : ¬ lo ≤ b1 := by omega
  have nlo2 : ¬ lo ≤ b2 := by omega
  have u1'' : Buf s' x1' c1' (vals (can ++ [m])) := by rw [vals_app]; exact u1'
  have hx1' : ∀ a, x1' = some a → lo ≤ a.block ∧ a.block < s'.size ∧ ∀ a', x2 = some a' → a.block ≠ a'.block := by
    intro a ha
    rcases Nat.lt_or_ge c1 ((vals can).length + [Value.int .i64 (m : Int)].length) with hc | hc
    · obtain ⟨e1, e2⟩ := g2 hc
      rw [e1] at ha; cases ha
      refine ⟨hlo, ?_, fun a' ha' => ?_⟩
      · have : 0 < c1' := by have := u1''.le; simp [vals] at this; omega
        obtain ⟨a2, ha2, y2, hy2, _⟩ := u1''.own 0 this
        rw [e1] at ha2; cases ha2
        exact (add_blk _ 0 ▸ hy2.lt)
      · have := h.lt2 a' ha'
        show s.size ≠ a'.block
        omega
    · obtain ⟨e1, e2⟩ := g1 hc
      rw [e1] at ha
      exact ⟨h.f1 a ha, Nat.lt_of_lt_of_le (h.lt a ha) k1.1, fun a' ha' => h.ne a a' ha ha'⟩
  refine hB s' x1' c1' _ k1 kk (kk.own nlo1 h.o1) (kk.own nlo2 h.o2) u1'' (h.u2.kp k1 ?_) (fun a ha => (hx1' a ha).1) (fun a a' ha ha' => (hx1' a ha).2.2 a' ha') (fun a ha => (hx1' a ha).2.1) g3 k1.1 ?_
  · rintro a ha ⟨a1, ha1, he⟩
    exact h.ne a1 a ha1 ha he
  · intro s2 x2' c2' k2 o1 o2 w1 w2 f2' hne hlt1 hlt2 hc2
    refine WR_own o1 rfl ?_
    refine WR_own (own_set_ne (.inl (by show b2 ≠ b1; omega)) o2) rfl ?_
    refine hK _ ?_ ⟨x1', c1', x2', c2', ?_⟩
    · exact Kp.setC (Kp.setC (k2.mono (fun b hb => .inl hb)) (.inl (.inr (.inl rfl)))) (.inl (.inr (.inr rfl)))
    · have hkw : Kp (fun b => b = b1 ∨ b = b2) s2 (setC (setC s2 (Addr.add ⟨b1, 0, none⟩ 0) (.slice x1' (can.length + [Value.int .i64 (m : Int)].length) c1')) (Addr.add ⟨b2, 0, none⟩ 0) (.slice x2' (many.length + 1) c2')) :=
        Kp.setC (Kp.setC (Kp.refl s2) (.inl (.inl rfl))) (.inl (.inr rfl))
      refine ⟨?_, ?_, w1.kp hkw ?_, w2.kp hkw ?_, fun a ha => (hx1' a ha).1, f2', hne, g3, hc2, ?_, ?_⟩
      · have : (can ++ [m]).length = can.length + 1 := by simp
        rw [this]
        exact own_set_ne (.inl (by show b1 ≠ b2; omega)) (own_set o1)
      · have : (many ++ [n]).length = many.length + 1 := by simp
        rw [this]
        exact own_set (own_set_ne (.inl (by show b2 ≠ b1; omega)) o2)
      · rintro a ha (h | h)
        · have := (hx1' a ha).1; omega
        · have := (hx1' a ha).1; omega
      · rintro a ha (h | h)
        · have := f2' a ha; omega
        · have := f2' a ha; omega
      · intro a ha; rw [setC_size, setC_size]; exact hlt1 a ha
      · intro a ha; rw [setC_size, setC_size]; exact hlt2 a ha
end
end Go.Proofs.Ytocnkdkgajdejaa.G

/- Contracts: a draw that is made by choosing: who can come. -/
set_option linter.unusedSimpArgs false
set_option linter.unusedVariables false
set_option maxRecDepth 20000
namespace Go.Proofs.Ytocnkdkgajdejaa.G
open Go.V Go.Lot

theorem OnR.keep {s s' s0 : Hp} {p : Addr} {cv : Value} {c : Cl} {v : Nat → Nat → Nat} {D : Nat → Prop} (k : Kp D s s') (hd : ∀ b, D b → s0.size ≤ b ∧ b ≠ c.ka.block ∧ b ≠ c.la.block ∧ b ≠ c.ca.block ∧ b ≠ c.oa.block) (h : OnR s0 p cv c v s) : OnR s0 p cv c v s' where
  base := ⟨Nat.le_trans h.base.1 k.1, fun b hb => (k.2 b (Nat.lt_of_lt_of_le hb h.base.1) (fun hh => by have := (hd b hh).1; omega)).trans (h.base.2 b hb)⟩
  l := k.cell (fun hh => (hd _ hh).2.2.1 rfl) h.l
  ctr := k.cell (fun hh => (hd _ hh).2.2.2.1 rfl) h.ctr
  o := k.cell (fun hh => (hd _ hh).2.2.2.2 rfl) h.o
  memo := h.memo.keep k (fun hh => (hd _ hh).2.1 rfl)

section
variable {W : World} {K : VK} {E : List PanicEntry → Hp → Prop} {s : Hp} {L : Lts} {p : Addr}

def sameS (b : Nat) (x : Option Addr) (l c : Nat) : Hp → Prop := RDL ⟨b, 0, none⟩ fun x' l' c' => fun _ => ((.slice x' l' c') : Value) = (.slice x l c)
theorem sameS_ok {b : Nat} {x : Option Addr} {l c : Nat} (h : Own s ⟨b, 0, none⟩ (.slice x l c)) : sameS b x l c s := ⟨_, _, _, h.cell, rfl⟩

/-- The second append. -/
theorem app_many {t : Hp} {b1 b2 lo : Nat} {can many : List Nat} {x1 x2 x1' : Option Addr} {c1 c2 : Nat} {can' : List Nat} {c1' : Nat} {n y : Nat} {G : Option Addr → Nat → Nat → Hp → Prop}
    (hb : b1 < lo ∧ b2 < lo) (o1 : Own t ⟨b1, 0, none⟩ (.slice x1 can.length c1)) (o2 : Own t ⟨b2, 0, none⟩ (.slice x2 many.length c2)) (u1 : Buf t x1' c1' (vals can')) (u2 : Buf t x2 c2 (vals many)) (hlen : many.length ≤ 1000)
    (f2 : ∀ a, x2 = some a → lo ≤ a.block) (ne : ∀ a a', x1' = some a → x2 = some a' → a.block ≠ a'.block) (lt1 : ∀ a, x1' = some a → a.block < t.size) (lt2 : ∀ a, x2 = some a → a.block < t.size) (m2 : c2 ≤ 9223372036854775808) (hlo : lo ≤ t.size) (k0 : Kp (fun b => lo ≤ b) s t)
    (hy : cellAt t ⟨y, 0, none⟩ = some (.int .i64 n))
    (hG : ∀ (s2 : Hp) (x2' : Option Addr) (c2' : Nat), Kp (fun b => lo ≤ b) s s2 → Own s2 ⟨b1, 0, none⟩ (.slice x1 can.length c1) → Own s2 ⟨b2, 0, none⟩ (.slice x2 many.length c2) → Buf s2 x1' c1' (vals can') → Buf s2 x2' c2' (vals (many ++ [n])) → (∀ a, x2' = some a → lo ≤ a.block) →
      (∀ a a', x1' = some a → x2' = some a' → a.block ≠ a'.block) → (∀ a, x1' = some a → a.block < s2.size) → (∀ a, x2' = some a → a.block < s2.size) → c2' ≤ 9223372036854775808 → G x2' (many.length + 1) c2' s2) :
    APP Pg 3 1 x2 many.length c2 (some ⟨y, 0, none⟩) 1 G t := by
  have hv : (vals many).length = many.length := vals_len many
  have happ := APP_buf (P := Pg) (t := 3) (x := x2) (c := c2) (vs := vals many) (ws := [.int .i64 (n : Int)]) (y := some ⟨y, 0, none⟩) (z := .int .i64 0) (K := G) u2 (cell_row hy) zc_3 (fun v hv => by simp at hv; subst hv; rfl) (by rw [hv]; simp; omega) m2 ?_
  · rw [hv] at happ; exact happ
  intro s2 x2' c2' k1 g1 g2 g3 u2'
  rw [hv]
  have u2'' : Buf s2 x2' c2' (vals (many ++ [n])) := by rw [vals_app]; exact u2'
  have kk : Kp (fun b => lo ≤ b) t s2 := k1.mono (fun b ⟨a, ha, hab⟩ => by rw [← hab]; exact f2 a ha)
  have hx : ∀ a, x2' = some a → lo ≤ a.block ∧ a.block < s2.size ∧ ∀ a', x1' = some a' → a'.block ≠ a.block := by
    intro a ha
    rcases Nat.lt_or_ge c2 ((vals many).length + [Value.int .i64 (n : Int)].length) with hc | hc
    · obtain ⟨e1, e2⟩ := g2 hc
      rw [e1] at ha; cases ha
      refine ⟨hlo, ?_, fun a' ha' => ?_⟩
      · have : 0 < c2' := by have := u2''.le; simp [vals] at this; omega
        obtain ⟨a2, ha2, y2, hy2, _⟩ := u2''.own 0 this
        rw [e1] at ha2; cases ha2
        exact (add_blk _ 0 ▸ hy2.lt)
      · have := lt1 a' ha'
        show a'.block ≠ t.size
        omega
    · obtain ⟨e1, e2⟩ := g1 hc
      rw [e1] at ha
      exact ⟨f2 a ha, Nat.lt_of_lt_of_le (lt2 a ha) k1.1, fun a' ha' => ne a' a ha' ha⟩
  have nlo1 : ¬ lo ≤ b1 := by omega
  have nlo2 : ¬ lo ≤ b2 := by omega
  refine hG s2 x2' c2' (k0.trans kk) (kk.own nlo1 o1) (kk.own nlo2 o2) (u1.kp k1 ?_) u2'' (fun a ha => (hx a ha).1) (fun a a' ha ha' => (hx a' ha').2.2 a ha) (fun a ha => Nat.lt_of_lt_of_le (lt1 a ha) k1.1) (fun a ha => (hx a ha).2.1) g3
  rintro a ha ⟨a2, ha2, he⟩
  exact ne a a2 ha ha2 he.symm

/-- All three orders in which two elements are appended to two lists. -/
theorem two_all {b1 b2 lo : Nat} {can many : List Nat} {x1 x2 : Option Addr} {c1 c2 : Nat} {m n : Nat} {KK : Hp → Prop} (h : Two s b1 b2 lo can many x1 c1 x2 c2) (hb : b1 < lo ∧ b2 < lo ∧ b1 ≠ b2) (hlo : lo ≤ s.size) (hlen : can.length ≤ 1000) (hl2 : many.length = can.length)
    (hK : ∀ s', Kp (fun b => lo ≤ b ∨ b = b1 ∨ b = b2) s s' → (∃ x1 c1 x2 c2, Two s' b1 b2 lo (can ++ [m]) (many ++ [n]) x1 c1 x2 c2) → KK s') :
    CONJ [
      NEW 3 [(.int .i64 m)] fun B58 => ANDS (sameS b2 x2 many.length c2) <| ANDS (sameS b1 x1 can.length c1) <| CONJ [
        APP Pg 3 1 x1 can.length c1 (some ⟨B58, 0, none⟩) 1 fun x65 l66 c67 => ANDS (sameS b2 x2 many.length c2) <| NEW 3 [(.int .i64 n)] fun B71 => ANDS (sameS b2 x2 many.length c2) <| ANDS (sameS b1 x1 can.length c1) <|
          APP Pg 3 1 x2 many.length c2 (some ⟨B71, 0, none⟩) 1 fun x78 l79 c80 => WR (Addr.add ⟨b1, 0, none⟩ 0) (.slice x65 l66 c67) <| WR (Addr.add ⟨b2, 0, none⟩ 0) (.slice x78 l79 c80) <| KK,
        NEW 3 [(.int .i64 n)] fun B81 => ANDS (sameS b2 x2 many.length c2) <| ANDS (sameS b1 x1 can.length c1) <| APP Pg 3 1 x1 can.length c1 (some ⟨B58, 0, none⟩) 1 fun x88 l89 c90 => ANDS (sameS b2 x2 many.length c2) <|
          APP Pg 3 1 x2 many.length c2 (some ⟨B81, 0, none⟩) 1 fun x94 l95 c96 => WR (Addr.add ⟨b1, 0, none⟩ 0) (.slice x88 l89 c90) <| WR (Addr.add ⟨b2, 0, none⟩ 0) (.slice x94 l95 c96) <| KK],
      NEW 3 [(.int .i64 n)] fun B97 => ANDS (sameS b2 x2 many.length c2) <| ANDS (sameS b1 x1 can.length c1) <| NEW 3 [(.int .i64 m)] fun B104 => ANDS (sameS b2 x2 many.length c2) <| ANDS (sameS b1 x1 can.length c1) <|
        APP Pg 3 1 x1 can.length c1 (some ⟨B104, 0, none⟩) 1 fun x111 l112 c113 => ANDS (sameS b2 x2 many.length c2) <| APP Pg 3 1 x2 many.length c2 (some ⟨B97, 0, none⟩) 1 fun x117 l118 c119 =>
          WR (Addr.add ⟨b1, 0, none⟩ 0) (.slice x111 l112 c113) <| WR (Addr.add ⟨b2, 0, none⟩ 0) (.slice x117 l118 c119) <| KK] s := by
  have nlo1 : ¬ lo ≤ b1 := by omega
  have nlo2 : ¬ lo ≤ b2 := by omega
  have hmore : ∀ (t : Hp), Ext s t → ∀ s', Kp (fun b => lo ≤ b ∨ b = b1 ∨ b = b2) t s' → Kp (fun b => lo ≤ b ∨ b = b1 ∨ b = b2) s s' := fun t e s' k => e.kp.trans k
  refine CONJ_two ?_ ?_
  · -- the first element first
    refine NEW_rule fun s1 e1 z1 n1 _ => ?_
    have cy : cellAt s1 ⟨s.size, 0, none⟩ = some (.int .i64 m) := (n1 0 _ rfl).cell
    have h1 := h.ext e1
    refine ⟨sameS_ok h1.o2, sameS_ok h1.o1, ?_⟩
    refine CONJ_two ?_ ?_
    · refine two_app (n := n) h1 hb (by omega) hlen hl2 cy ⟨by omega, by omega, by omega⟩ (fun a ha => by have := h.lt2 a ha; omega) (fun G => ANDS (sameS b2 x2 many.length c2) <| NEW 3 [.int .i64 n] fun B71 => ANDS (sameS b2 x2 many.length c2) <| ANDS (sameS b1 x1 can.length c1) <| APP Pg 3 1 x2 many.length c2 (some ⟨B71, 0, none⟩) 1 G) ?_ (fun s' k t => hK s' (hmore s1 e1 s' k) t)
      intro t x1' c1' G k1 k o1 o2 u1 u2 f1 ne lt1 hc hsz hG
      refine ⟨sameS_ok o2, ?_⟩
      refine NEW_rule fun t1 et zt nt _ => ?_
      refine ⟨sameS_ok (et.own o2), sameS_ok (et.own o1), ?_⟩
      exact app_many (s := s1) ⟨hb.1, hb.2.1⟩ (et.own o1) (et.own o2) (u1.ext et) (u2.ext et) (by omega) h.f2 ne (fun a ha => Nat.lt_of_lt_of_le (lt1 a ha) et.1) (fun a ha => by have := h.lt2 a ha; have := et.1; omega) h.m2 (by have := et.1; omega) (k.trans et.kp) (nt 0 _ rfl).cell hG
    · refine NEW_rule fun s2 e2 z2 n2 _ => ?_
      have ct := (n2 0 _ rfl).cell
      have h2 := h1.ext e2
      refine ⟨sameS_ok h2.o2, sameS_ok h2.o1, ?_⟩
      refine two_app (n := n) h2 hb (by omega) hlen hl2 (e2.cell cy) ⟨by omega, by omega, by omega⟩ (fun a ha => by have := h.lt2 a ha; omega) (fun G => ANDS (sameS b2 x2 many.length c2) <| APP Pg 3 1 x2 many.length c2 (some ⟨s1.size, 0, none⟩) 1 G) ?_ (fun s' k t => hK s' (hmore s2 (e1.trans e2) s' k) t)
      intro t x1' c1' G k1 k o1 o2 u1 u2 f1 ne lt1 hc hsz hG
      refine ⟨sameS_ok o2, ?_⟩
      have ct' : cellAt t ⟨s1.size, 0, none⟩ = some (.int .i64 n) := k1.cell (fun ⟨a, ha, he⟩ => by have := h.lt a ha; have : a.block = s1.size := he; omega) ct
      exact app_many (s := s2) ⟨hb.1, hb.2.1⟩ o1 o2 u1 u2 (by omega) h.f2 ne lt1 (fun a ha => by have := h.lt2 a ha; omega) h.m2 (by omega) k ct' hG
  · refine NEW_rule fun s1 e1 z1 n1 _ => ?_
    have ct := (n1 0 _ rfl).cell
    have h1 := h.ext e1
    refine ⟨sameS_ok h1.o2, sameS_ok h1.o1, ?_⟩
    refine NEW_rule fun s2 e2 z2 n2 _ => ?_
    have cy := (n2 0 _ rfl).cell
    have h2 := h1.ext e2
    refine ⟨sameS_ok h2.o2, sameS_ok h2.o1, ?_⟩
    refine two_app (n := n) h2 hb (by omega) hlen hl2 cy ⟨by omega, by omega, by omega⟩ (fun a ha => by have := h.lt2 a ha; omega) (fun G => ANDS (sameS b2 x2 many.length c2) <| APP Pg 3 1 x2 many.length c2 (some ⟨s.size, 0, none⟩) 1 G) ?_ (fun s' k t => hK s' (hmore s2 (e1.trans e2) s' k) t)
    intro t x1' c1' G k1 k o1 o2 u1 u2 f1 ne lt1 hc hsz hG
    refine ⟨sameS_ok o2, ?_⟩
    have ct' : cellAt t ⟨s.size, 0, none⟩ = some (.int .i64 n) := k1.cell (fun ⟨a, ha, he⟩ => by have := h.lt a ha; have : a.block = s.size := he; omega) (e2.cell ct)
    exact app_many (s := s2) ⟨hb.1, hb.2.1⟩ o1 o2 u1 u2 (by omega) h.f2 ne lt1 (fun a ha => by have := h.lt2 a ha; omega) h.m2 (by omega) k ct' hG
end
end Go.Proofs.Ytocnkdkgajdejaa.G

/- Contracts: a draw that is made by choosing. -/
set_option linter.unusedSimpArgs false
set_option linter.unusedVariables false
set_option maxRecDepth 20000
set_option maxHeartbeats 2000000
namespace Go.Proofs.Ytocnkdkgajdejaa.G
open Go.V Go.Lot

/-- Where a draw that is made keeps its things. -/
structure Rm where
  b3 : Nat
  b7 : Nat
  b12 : Nat
  b13 : Nat
  top : Nat
section
variable {W : World} {K : VK} {E : List PanicEntry → Hp → Prop} {s s0 : Hp} {L : Lts} {p : Addr}

structure RmOk (s0 : Hp) (c : Cl) (r : Rm) : Prop where
  l3 : s0.size ≤ r.b3 ∧ r.b3 < r.top
  l7 : s0.size ≤ r.b7 ∧ r.b7 < r.top
  l12 : s0.size ≤ r.b12 ∧ r.b12 < r.top
  l13 : s0.size ≤ r.b13 ∧ r.b13 < r.top
  n12 : r.b12 ≠ r.b3 ∧ r.b12 ≠ r.b7 ∧ r.b12 ≠ r.b13 ∧ r.b12 ≠ c.ka.block ∧ r.b12 ≠ c.la.block ∧ r.b12 ≠ c.ca.block ∧ r.b12 ≠ c.oa.block
  n13 : r.b13 ≠ r.b3 ∧ r.b13 ≠ r.b7 ∧ r.b13 ≠ c.ka.block ∧ r.b13 ≠ c.la.block ∧ r.b13 ≠ c.ca.block ∧ r.b13 ≠ c.oa.block
  n3 : r.b3 ≠ c.ka.block
  n7 : r.b7 ≠ c.ka.block
  kt : s0.size ≤ c.ka.block ∧ c.ka.block < r.top
  la : s0.size ≤ c.la.block ∧ c.la.block < r.top ∧ c.la.block ≠ c.ka.block
  ca : s0.size ≤ c.ca.block ∧ c.ca.block < r.top ∧ c.ca.block ≠ c.ka.block
  oa : s0.size ≤ c.oa.block ∧ c.oa.block < r.top ∧ c.oa.block ≠ c.ka.block
  s0t : s0.size ≤ r.top
/-- What holds at the head of the loop. -/
structure HeadI (s0 : Hp) (p : Addr) (L : Lts) (c : Cl) (r : Rm) (F : Nat → Prop) (left b : Nat) (x : Option Addr) (cc : Nat) (d : List Nat) (s : Hp) : Prop where
  top : r.top ≤ s.size
  c3 : cellAt s ⟨r.b3, 0, none⟩ = some (.pointer (some p))
  c7 : cellAt s ⟨r.b7, 0, none⟩ = some c.val
  o12 : Own s ⟨r.b12, 0, none⟩ (.int .u64 left)
  o13 : Own s ⟨r.b13, 0, none⟩ (.int .i64 b)
  buf : Buf s x cc (vals d)
  fr : ∀ a, x = some a → r.top ≤ a.block ∧ a.block < s.size
  cm : cc ≤ 9223372036854775808
  kp : Kp F s0 s
  cl : cellAt s c.la = some (.pointer (some p))
  cc' : cellAt s c.ca = some (.iface 72 (.agg #[]))
  co : cellAt s c.oa = some c.val
  memo : Memo s c.ka (cnt L anyC)

def trunc (n : Nat) (s : Hp) : Hp := s.extract 0 n
theorem trunc_size {n : Nat} (h : n ≤ s.size) : (trunc n s).size = n := by unfold trunc; simp; omega
theorem trunc_get {n b : Nat} (h : n ≤ s.size) (hb : b < n) : (trunc n s)[b]? = s[b]? := by
  unfold trunc
  rw [Array.getElem?_extract]
  simp; omega
theorem trunc_ext {n : Nat} (h : n ≤ s.size) : Ext (trunc n s) s := ⟨by rw [trunc_size h]; exact h, fun b hb => by rw [trunc_size h] at hb; exact (trunc_get h hb).symm⟩
theorem trunc_kp {F : Nat → Prop} (k : Kp F s0 s) : Kp F s0 (trunc s0.size s) := ⟨by rw [trunc_size k.1]; exact Nat.le_refl _, fun b hb hf => by rw [trunc_get k.1 hb]; exact k.2 b hb hf⟩

theorem good_cnt {left b m : Nat} : good L left b m = true ↔ brk L (plotOf L.n left) m b = 0 ∧ 0 < cnt L anyC (left - 2 ^ m) m := by unfold good; simp
theorem cans_mem {left b m : Nat} (h : m ∈ cans L left b) : m < L.n ∧ left.testBit m = true ∧ brk L (plotOf L.n left) m b = 0 ∧ 0 < cnt L anyC (left - 2 ^ m) m := by
  unfold cans at h
  obtain ⟨h1, h2⟩ := List.mem_filter.1 h
  obtain ⟨h3, h4⟩ := menOf_mem.1 h1
  exact ⟨h3, h4, (good_cnt.1 h2).1, (good_cnt.1 h2).2⟩

/-- One round: who can come, one is chosen, and comes. -/
theorem choose_round {σ : Type} {fv : Value} {F : Nat → Prop} {St : σ → Hp → Prop} {nxt : σ → Nat → Nat → Nat × σ} {Inv : σ → Nat → Nat → Prop} {c : Cl} {r : Rm} {R : Ending → Hp → Prop} {nx : List Value → Hp → Prop} {left b cc : Nat} {x : Option Addr} {d : List Nat} {y : σ}
    (ch : Chs W L fv s0 F St nxt Inv) (hL : ∀ s', Kp F s0 s' → LotsO s' p L) (ro : RmOk s0 c r) (hd : HeadI s0 p L c r F left b x cc d s) (hlt : left < 2 ^ L.n) (hb : b = 8 ∨ b < L.n) (hdl : d.length ≤ 1000) (hst : St y s) (hinv : Inv y left b)
    (hend : left = 0 → R (.returned (.slice x d.length cc)) s)
    (hnx : left ≠ 0 → ∀ s' x' cc', HeadI s0 p L c r F (left - 2 ^ (nxt y left b).1) (nxt y left b).1 x' cc' (d ++ [(nxt y left b).1]) s' → St (nxt y left b).2 s' → Inv (nxt y left b).2 (left - 2 ^ (nxt y left b).1) (nxt y left b).1 → (nxt y left b).1 ∈ cans L left b → nx [.slice x' (d.length + 1) cc'] s') :
    B_lot_lots_choose_0 W R fv ⟨r.b3, 0, none⟩ ⟨r.b7, 0, none⟩ ⟨r.b12, 0, none⟩ ⟨r.b13, 0, none⟩ x d.length cc nx s := by
  unfold B_lot_lots_choose_0
  have hs0 := hd.kp.1
  have hlb : LotsO (trunc s0.size s) p L := hL _ (trunc_kp hd.kp)
  have hv := vd_iff.1 hlb.ok
  have hn := hv.hi
  have hpow : 2 ^ L.n ≤ 256 := Nat.pow_le_pow_right (n := 2) (by omega) hn
  have h256 : left < 256 := by omega
  have hbe := trunc_ext hs0
  have tz := trunc_size hs0
  generalize trunc s0.size s = sb at *
  have r0 : OnR sb p (.iface 72 (.agg #[])) c (cnt L anyC) s := ⟨hbe, hd.cl, hd.cc', hd.co, hd.memo⟩
  have ap : Apart sb c := ⟨by rw [tz]; exact ro.kt.1, ro.la.2.2, ro.ca.2.2, ro.oa.2.2, by rw [tz]; exact ro.la.1, by rw [tz]; exact ro.ca.1, by rw [tz]; exact ro.oa.1⟩
  refine ⟨_, hd.o12.cell, ?_⟩
  refine BR_ne (fun h1 => ?_) (fun h1 => hend (by omega))
  have h0 : left ≠ 0 := by omega
  have ht := hd.top
  refine NEWZ_rule zc_25 fun s1 e1 z1 n1 => ?_
  refine NEWZ_rule zc_25 fun s2 e2 z2 n2 => ?_
  have o1 := e2.own (n1 0 _ rfl)
  have o2 := n2 0 _ rfl
  have e02 := e1.trans e2
  refine ⟨_, e02.cell hd.c3, _, e02.cell hd.o12.cell, ?_⟩
  refine c_plot (hlb.ext (hbe.trans e02)) (by omega) fun s3 e3 => ?_
  try simp only [TUP_mk, AGG_mk, HD_mk, NL_mk, TYI_mk, TYB_mk, TYP_mk, TYL_mk, TYS_mk, TYM_mk, SO_mk, NX_mk, endK_mk, endK_mk', add_0]
  refine NEWZ_rule zc_3 fun s4 e4 z4 n4 => ?_
  refine WR_own (n4 0 _ rfl) rfl ?_
  have o4 : Own (setC s4 ⟨s3.size, 0, none⟩ (.int .i64 (plotOf L.n left))) ⟨s3.size, 0, none⟩ (.int .i64 (plotOf L.n left)) := own_set (n4 0 _ rfl)
  have e5 : Ext s3 (setC s4 ⟨s3.size, 0, none⟩ (.int .i64 (plotOf L.n left))) := Ext.setC e4 (Nat.le_refl _)
  have z5 : (setC s4 ⟨s3.size, 0, none⟩ (.int .i64 (plotOf L.n left))).size = s3.size + 1 := by rw [setC_size, z4]
  generalize setC s4 ⟨s3.size, 0, none⟩ (.int .i64 (plotOf L.n left)) = s5 at o4 e5 z5 ⊢
  have e05 := (e02.trans e3).trans e5
  have hz3 := e3.1
  refine ⟨_, e05.cell hd.c3, _, e05.cell hd.o12.cell, ?_⟩
  refine c_men fun s6 ia ib e6 ga gb ha hb' => ?_
  have e06 := e05.trans e6
  have hz6 := e6.1
  have ro' := ro
  obtain ⟨⟨a3, a3'⟩, ⟨a7, a7'⟩, ⟨a12, a12'⟩, ⟨a13, a13'⟩, ⟨m1, m2, m3, m4, m5, m6, m7⟩, ⟨k1, k2, k3, k4, k5, k6⟩, n3, n7, ⟨kt1, kt2⟩, ⟨la1, la2, la3⟩, ⟨ca1, ca2, ca3⟩, ⟨oa1, oa2, oa3⟩, st⟩ := ro'
  have hma := menOf_len_le L.n left
  refine ⟨menV L.n left, MenR p L ia ib left, fun k s' => Kp (fun q => q = c.ka.block ∨ q = s.size ∨ q = s1.size) s6 s' ∧ OnR sb p (.iface 72 (.agg #[])) c (cnt L anyC) s' ∧
      ∃ x1 c1 x2 c2, Two s' s.size s1.size s6.size (cansK L left b k) ((cansK L left b k).map fun m => cnt L anyC (left - 2 ^ m) m) x1 c1 x2 c2, fun _ _ => False, it_men (by omega), MenR.blind, ?_, ?_, ?_, ?_, ?_, fun c s h => h.elim⟩
  · intro k s' h'
    refine ⟨hlb.ext h'.2.1.base, h'.1.cell ?_ ha, h'.1.cell ?_ hb'⟩
    · show ¬ (ia.block = _ ∨ ia.block = _ ∨ ia.block = _); omega
    · show ¬ (ib.block = _ ∨ ib.block = _ ∨ ib.block = _); omega
  · rintro k t1 t2 ⟨g1, g2, x1, c1, x2, c2, g3⟩ e
    exact ⟨g1.ext e, g2.ext e, x1, c1, x2, c2, g3.ext e⟩
  · have e7 : Ext s6 ((s6.push junk).push junk) := Ext.push (Ext.push (Ext.refl _))
    refine ⟨e7.kp, r0.ext (e06.trans e7), none, 0, none, 0, ?_⟩
    have hnil : cansK L left b 0 = [] := rfl
    rw [hnil]
    refine Two.ext ((((e3.trans e5).trans e6)).trans e7) ⟨o1, o2, Buf.nil _, Buf.nil _, (fun a h => by cases h), (fun a h => by cases h), (fun a a' h => by cases h), by omega, by omega, (fun a h => by cases h), (fun a h => by cases h)⟩
  · intro k xv hx
    unfold menV at hx
    rw [List.getElem?_map] at hx
    obtain ⟨m, hm, rfl⟩ := Option.map_eq_some_iff.1 hx
    refine ⟨rfl, fun s' h' => ?_⟩
    obtain ⟨hmn, hmb⟩ := menOf_mem.1 (List.mem_of_getElem? hm)
    obtain ⟨kp, r', x1, c1, x2, c2, tw⟩ := h'
    have hsucc := cansK_succ (L := L) (b := b) hm
    have hlen := cansK_len L left b k
    have dk : ∀ q, q < s6.size → q ≠ c.ka.block → q ≠ s.size → q ≠ s1.size → ¬ (q = c.ka.block ∨ q = s.size ∨ q = s1.size) := fun q _ h1 h2 h3 h => h.elim h1 (fun h => h.elim h2 h3)
    have c3' : cellAt s' ⟨r.b3, 0, none⟩ = some (.pointer (some p)) := kp.cell (dk _ (by show r.b3 < _; omega) n3 (by show r.b3 ≠ _; omega) (by show r.b3 ≠ _; omega)) (e06.cell hd.c3)
    have c7' : cellAt s' ⟨r.b7, 0, none⟩ = some c.val := kp.cell (dk _ (by show r.b7 < _; omega) n7 (by show r.b7 ≠ _; omega) (by show r.b7 ≠ _; omega)) (e06.cell hd.c7)
    have c12' : cellAt s' ⟨r.b12, 0, none⟩ = some (.int .u64 left) := kp.cell (dk _ (by show r.b12 < _; omega) m4 (by show r.b12 ≠ _; omega) (by show r.b12 ≠ _; omega)) (e06.cell hd.o12.cell)
    have c13' : cellAt s' ⟨r.b13, 0, none⟩ = some (.int .i64 b) := kp.cell (dk _ (by show r.b13 < _; omega) k3 (by show r.b13 ≠ _; omega) (by show r.b13 ≠ _; omega)) (e06.cell hd.o13.cell)
    have cpl : cellAt s' ⟨s3.size, 0, none⟩ = some (.int .i64 (plotOf L.n left)) := kp.cell (dk _ (by show s3.size < _; omega) (by show s3.size ≠ _; omega) (by show s3.size ≠ _; omega) (by show s3.size ≠ _; omega)) (e6.cell o4.cell)
    try simp only [TUP_mk, AGG_mk, HD_mk, NL_mk, TYI_mk, TYB_mk, TYP_mk, TYL_mk, TYS_mk, TYM_mk, SO_mk, NX_mk, endK_mk, endK_mk', add_0]
    refine ⟨_, c3', _, cpl, _, c13', ?_⟩
    refine c_broken (hlb.ext r'.base) hmn hb fun t1 f1 => ?_
    try simp only [TUP_mk, AGG_mk, HD_mk, NL_mk, TYI_mk, TYB_mk, TYP_mk, TYL_mk, TYS_mk, TYM_mk, SO_mk, NX_mk, endK_mk, endK_mk', add_0]
    refine BR_dec (fun h2 => ?_) (fun h2 => ?_)
    · have hg : good L left b m = false := by
        cases hg : good L left b m with
        | false => rfl
        | true => have := (good_cnt.1 hg).1; omega
      refine ⟨kp.ext f1, r'.ext f1, x1, c1, x2, c2, ?_⟩
      rw [hsucc, hg]
      simpa using tw.ext f1
    · have hbr : brk L (plotOf L.n left) m b = 0 := by omega
      refine ⟨_, f1.cell c7', _, f1.cell c12', NNI_nat ?_⟩
      rw [andn_eq left h256 m (by omega) hmb]
      refine CALLV_val (c_on (C := anyC) hlb ap ctr_every (left - 2 ^ m) m (Nat.lt_of_le_of_lt (Nat.sub_le _ _) hlt) (.inr hmn) _ _ t1 (r'.ext f1) fun t2 q2 rt2 => ?_)
      try simp only [TUP_mk, AGG_mk, HD_mk, NL_mk, TYI_mk, TYB_mk, TYP_mk, TYL_mk, TYS_mk, TYM_mk, SO_mk, NX_mk, endK_mk, endK_mk', add_0]
      have tw2 := (tw.ext f1).keep q2 (fun q hq => ⟨by rw [hq]; omega, by rw [hq]; omega, by rw [hq]; omega⟩)
      have kp2 : Kp (fun q => q = c.ka.block ∨ q = s.size ∨ q = s1.size) s6 t2 := (kp.ext f1).trans (q2.mono (fun q h => .inl h))
      refine BR_dec (fun h3 => ?_) (fun h3 => ?_)
      · have hg : good L left b m = true := good_cnt.2 ⟨hbr, by omega⟩
        refine ⟨_, _, _, tw2.o1.cell, _, _, _, tw2.o2.cell, ?_⟩
        have hl6 : s6.size ≤ t2.size := kp2.1
        refine two_all tw2 ⟨by omega, by omega, by omega⟩ hl6 (by omega) (by simp) ?_
        rintro t3 q3 ⟨y1, d1, y2, d2, tw3⟩
        refine ⟨⟨Nat.le_trans kp2.1 q3.1, fun q hq hc => ?_⟩, rt2.keep q3 ?_, y1, d1, y2, d2, ?_⟩
        · rw [q3.2 q (Nat.lt_of_lt_of_le hq kp2.1) ?_]
          · exact kp2.2 q hq hc
          · rintro (h | h | h)
            · omega
            · exact hc (.inr (.inl h))
            · exact hc (.inr (.inr h))
        · rintro q (h | h | h)
          · exact ⟨by rw [tz]; omega, by omega, by omega, by omega, by omega⟩
          · exact ⟨by rw [tz]; omega, by omega, by omega, by omega, by omega⟩
          · exact ⟨by rw [tz]; omega, by omega, by omega, by omega, by omega⟩
        · rw [hsucc, hg, if_pos rfl, List.map_append]
          exact tw3
      · have hg : good L left b m = false := by
          cases hg : good L left b m with
          | false => rfl
          | true => have := (good_cnt.1 hg).2; omega
        refine ⟨kp2, rt2, x1, c1, x2, c2, ?_⟩
        rw [hsucc, hg]
        simpa using tw2
  · rintro s' ⟨kp, r', x1, c1, x2, c2, tw⟩
    have hml : (menV L.n left).length = (menOf L.n left).length := by unfold menV; simp
    rw [hml, cansK_all] at tw
    obtain ⟨i, hget, hinv', hcall⟩ := ch.call y left b hinv h0 hlt hb
    generalize nxt y left b = nz at *
    obtain ⟨m, y'⟩ := nz
    dsimp only at *
    have hmem : m ∈ cans L left b := List.mem_of_getElem? hget
    obtain ⟨hmn, hmb, hbr, hpos⟩ := cans_mem hmem
    have hil : i < (cans L left b).length := (List.getElem?_eq_some_iff.1 hget).1
    have hcl : (cans L left b).length ≤ 8 := by rw [← cansK_all]; exact Nat.le_trans (cansK_len _ _ _ _) hn
    have hsame : ∀ q, q < s0.size → s'[q]? = s[q]? := fun q hq => (kp.2 q (by omega) (fun h => by rcases h with h | h | h <;> omega)).trans (e06.2 q (by omega))
    have hsz' : s.size ≤ s'.size := Nat.le_trans e06.1 kp.1
    have kF : Kp F s0 s' := ⟨Nat.le_trans hs0 hsz', fun q hq hf => by rw [hsame q hq]; exact hd.kp.2 q hq hf⟩
    have st' := ch.low y s s' hst hsame hsz'
    have hlen2 : ((cans L left b).map fun m => cnt L anyC (left - 2 ^ m) m).length = (cans L left b).length := by simp
    refine ⟨_, _, _, tw.o1.cell, _, _, _, tw.o1.cell, _, _, _, tw.o2.cell, ?_⟩
    rw [hlen2]
    refine hcall _ _ s' x1 c1 x2 c2 kF st' tw.u1.row tw.u2.row (fun a ha => by have := tw.f1 a ha; omega) (fun a ha => by have := tw.f2 a ha; omega) (by have := tw.u2.le; rw [vals_len, hlen2] at this; exact this) fun s8 k8 st8 => ?_
    try simp only [TUP_mk, AGG_mk, HD_mk, NL_mk, TYI_mk, TYB_mk, TYP_mk, TYL_mk, TYS_mk, TYM_mk, SO_mk, NX_mk, endK_mk, endK_mk', add_0]
    have F0 := ch.foot
    have tw8 := tw.keep k8 (fun q hq => by have := F0 q hq; exact ⟨by omega, by omega, by omega⟩)
    have hz8 := k8.1
    refine ⟨⟨_, _, _, tw8.o1.cell, rfl⟩, ?_⟩
    have hiv : i < (vals (cans L left b)).length := by rw [vals_len]; exact hil
    obtain ⟨a, hxa, g⟩ := tw8.u1.row i hiv
    rw [vals_get hiv] at g
    have hgm : (cans L left b)[i] = m := by rw [List.getElem?_eq_getElem hil] at hget; simpa using hget
    rw [hgm] at g
    have ti : ((i : Int)).toNat = i := by omega
    refine ⟨a, hxa, ⟨by omega, by omega⟩, ?_⟩
    rw [ti]
    refine ⟨_, g, ?_⟩
    have dk : ∀ q, q < s6.size → q ≠ c.ka.block → q ≠ s.size → q ≠ s1.size → ¬ (q = c.ka.block ∨ q = s.size ∨ q = s1.size) := fun q _ h1 h2 h3 h => h.elim h1 (fun h => h.elim h2 h3)
    have nF : ∀ q, s0.size ≤ q → ¬ F q := fun q hq hf => by have := F0 q hf; omega
    have o13 : Own s8 ⟨r.b13, 0, none⟩ (.int .i64 b) := k8.own (nF _ a13) (kp.own (dk _ (by show r.b13 < _; omega) k3 (by show r.b13 ≠ _; omega) (by show r.b13 ≠ _; omega)) (e06.own hd.o13))
    have o12 : Own s8 ⟨r.b12, 0, none⟩ (.int .u64 left) := k8.own (nF _ a12) (kp.own (dk _ (by show r.b12 < _; omega) m4 (by show r.b12 ≠ _; omega) (by show r.b12 ≠ _; omega)) (e06.own hd.o12))
    have c3' : cellAt s8 ⟨r.b3, 0, none⟩ = some (.pointer (some p)) := k8.cell (nF _ a3) (kp.cell (dk _ (by show r.b3 < _; omega) n3 (by show r.b3 ≠ _; omega) (by show r.b3 ≠ _; omega)) (e06.cell hd.c3))
    have c7' : cellAt s8 ⟨r.b7, 0, none⟩ = some c.val := k8.cell (nF _ a7) (kp.cell (dk _ (by show r.b7 < _; omega) n7 (by show r.b7 ≠ _; omega) (by show r.b7 ≠ _; omega)) (e06.cell hd.c7))
    have bf : Buf s8 x cc (vals d) := by
      refine Buf.kp k8 (fun a ha => nF _ (by have := hd.fr a ha; omega)) (Buf.kp kp (fun a ha hh => ?_) (hd.buf.ext e06))
      have h1 := hd.fr a ha
      rcases hh with h | h | h <;> omega
    refine WR_own o13 rfl ?_
    have k9 : Kp (· = r.b13) s8 (setC s8 ⟨r.b13, 0, none⟩ (.int .i64 m)) := Kp.setC (Kp.refl s8) (.inl rfl)
    have p13 : Own (setC s8 ⟨r.b13, 0, none⟩ (.int .i64 m)) ⟨r.b13, 0, none⟩ (.int .i64 m) := own_set o13
    have z9 : (setC s8 ⟨r.b13, 0, none⟩ (.int .i64 m)).size = s8.size := setC_size _ _ _
    generalize setC s8 ⟨r.b13, 0, none⟩ (.int .i64 m) = s9 at k9 p13 z9 ⊢
    refine ⟨_, p13.cell, ?_⟩
    refine NEW_rule fun s10 e10 z10 n10 _ => ?_
    have hfr : ∀ a, x = some a → r.top ≤ a.block ∧ a.block < s.size := hd.fr
    have bf10 : Buf s10 x cc (vals d) := (Buf.kp k9 (fun a ha hh => by have := hfr a ha; have : a.block = r.b13 := hh; omega) bf).ext e10
    have hvd : (vals d).length = d.length := vals_len d
    have happ := APP_buf (P := Pg) (t := 3) (x := x) (c := cc) (vs := vals d) (ws := [.int .i64 (m : Int)]) (y := some ⟨s9.size, 0, none⟩) (z := .int .i64 0) (K := fun x139 l140 c141 => RDI .u64 ⟨r.b12, 0, none⟩ fun n142 => RDI .i64 ⟨r.b13, 0, none⟩ fun n143 => NNI n143 <| WR (Addr.add ⟨r.b12, 0, none⟩ 0) (.int .u64 (andnv .u64 n142 (shlv .u64 1 n143))) <| nx [(.slice x139 l140 c141)])
      bf10 (cell_row (n10 0 _ rfl).cell) zc_3 (fun v hv => by simp at hv; subst hv; rfl) (by rw [hvd]; simp; omega) hd.cm ?_
    · rw [hvd] at happ; exact happ
    intro s11 x' c' k11 g1 g2 g3 u11
    have hz11 := k11.1
    have hnx' : ∀ q, q < r.top → ¬ ∃ a, x = some a ∧ a.block = q := fun q hq ⟨a, ha, he⟩ => by have := hfr a ha; omega
    have up : ∀ {q : Nat} {v : Value}, q < r.top → q ≠ r.b13 → Own s8 ⟨q, 0, none⟩ v → Own s11 ⟨q, 0, none⟩ v := fun hq hne ho => k11.own (hnx' _ hq) (e10.own (k9.own hne ho))
    have upc : ∀ {aa : Addr} {v : Value}, aa.block < r.top → aa.block ≠ r.b13 → cellAt s8 aa = some v → cellAt s11 aa = some v := fun hq hne ho => k11.cell (hnx' _ hq) (e10.cell (k9.cell hne ho))
    have q12 := up a12' m3 o12
    have q13 : Own s11 ⟨r.b13, 0, none⟩ (.int .i64 m) := k11.own (hnx' _ a13') (e10.own p13)
    refine ⟨_, q12.cell, _, q13.cell, NNI_nat ?_⟩
    rw [andn_eq left h256 m (by omega) hmb]
    refine WR_own q12 rfl ?_
    have k12 : Kp (· = r.b12) s11 (setC s11 ⟨r.b12, 0, none⟩ (.int .u64 ((left - 2 ^ m : Nat) : Int))) := Kp.setC (Kp.refl s11) (.inl rfl)
    have p12 : Own (setC s11 ⟨r.b12, 0, none⟩ (.int .u64 ((left - 2 ^ m : Nat) : Int))) ⟨r.b12, 0, none⟩ (.int .u64 ((left - 2 ^ m : Nat) : Int)) := own_set q12
    have z12 : (setC s11 ⟨r.b12, 0, none⟩ (.int .u64 ((left - 2 ^ m : Nat) : Int))).size = s11.size := setC_size _ _ _
    show nx _ (setC s11 ⟨r.b12, 0, none⟩ (.int .u64 ((left - 2 ^ m : Nat) : Int)))
    generalize setC s11 ⟨r.b12, 0, none⟩ (.int .u64 ((left - 2 ^ m : Nat) : Int)) = s12 at k12 p12 z12 ⊢
    have hln : (vals d).length + [Value.int .i64 (m : Int)].length = d.length + 1 := by rw [hvd]; rfl
    rw [hln]
    have hx' : ∀ a, x' = some a → r.top ≤ a.block ∧ a.block < s11.size := by
      intro a ha
      rcases Nat.lt_or_ge cc (d.length + 1) with hc | hc
      · obtain ⟨e1, e2⟩ := g2 (by rw [hvd]; exact hc)
        rw [e1] at ha; cases ha
        refine ⟨by show r.top ≤ s10.size; omega, ?_⟩
        have : 0 < c' := by have := u11.le; simp [vals] at this; omega
        obtain ⟨a2, ha2, y2, hy2, _⟩ := u11.own 0 this
        rw [e1] at ha2; cases ha2
        exact (add_blk _ 0 ▸ hy2.lt)
      · obtain ⟨e1, e2⟩ := g1 (by rw [hvd]; exact hc)
        rw [e1] at ha
        have := hfr a ha
        exact ⟨this.1, by omega⟩
    -- what lay before
    have low : ∀ q, q < r.top → q ≠ r.b12 → q ≠ r.b13 → s12[q]? = s8[q]? := by
      intro q hq h1 h2
      rw [k12.2 q (by omega) h1, k11.2 q (by have := e10.1; omega) (hnx' q hq), e10.2 q (by omega), k9.2 q (by omega) h2]
    refine hnx h0 s12 x' c' ?_ ?_ hinv' hmem
    · refine ⟨by omega, k12.cell (fun (h : r.b3 = r.b12) => m1 h.symm) (upc a3' (fun (h : r.b3 = r.b13) => k1 h.symm) c3'), k12.cell (fun (h : r.b7 = r.b12) => m2 h.symm) (upc a7' (fun (h : r.b7 = r.b13) => k2 h.symm) c7'), p12, k12.own (fun (h : r.b13 = r.b12) => m3 h.symm) q13, ?_, ?_, g3, ?_, ?_, ?_, ?_, ?_⟩
      · rw [vals_app]
        exact Buf.kp k12 (fun a ha hh => by have := (hx' a ha).1; have : a.block = r.b12 := hh; omega) u11
      · intro a ha; have := hx' a ha; omega
      · refine ⟨by omega, fun q hq hf => ?_⟩
        rw [low q (by omega) (by omega) (by omega), k8.2 q (by omega) hf, hsame q hq]
        exact hd.kp.2 q hq hf
      · exact k12.cell (fun (h : c.la.block = r.b12) => m5 h.symm) (upc la2 (fun h => k4 h.symm) (k8.cell (nF _ la1) r'.l))
      · exact k12.cell (fun (h : c.ca.block = r.b12) => m6 h.symm) (upc ca2 (fun h => k5 h.symm) (k8.cell (nF _ ca1) r'.ctr))
      · exact k12.cell (fun (h : c.oa.block = r.b12) => m7 h.symm) (upc oa2 (fun h => k6 h.symm) (k8.cell (nF _ oa1) r'.o))
      · refine Memo.keep k12 (fun (h : c.ka.block = r.b12) => m4 h.symm) (Memo.keep k11 (hnx' _ kt2) (Memo.ext e10 (Memo.keep k9 (fun (h : c.ka.block = r.b13) => k3 h.symm) (Memo.keep k8 (nF _ kt1) r'.memo))))
    · exact ch.low y' s8 _ st8 (fun q hq => low q (by omega) (by omega) (by omega)) (by omega)
end
end Go.Proofs.Ytocnkdkgajdejaa.G

/- Contracts: a draw that is made by choosing: all rounds. -/
set_option linter.unusedSimpArgs false
set_option linter.unusedVariables false
set_option maxRecDepth 20000
namespace Go.Proofs.Ytocnkdkgajdejaa.G
open Go.V Go.Lot

section
variable {W : World} {K : VK} {E : List PanicEntry → Hp → Prop} {s s0 : Hp} {L : Lts} {p : Addr}

def leftOf (b : Nat) (s : Hp) : Nat := match cellAt s ⟨b, 0, none⟩ with | some (.int _ n) => n.toNat | _ => 0
theorem leftOf_eq {b left : Nat} (h : Own s ⟨b, 0, none⟩ (.int .u64 left)) : leftOf b s = left := by unfold leftOf; rw [h.cell]; simp
theorem menOf_pos {n left : Nat} (hl : left < 2 ^ n) (h : left ≠ 0) : 0 < (menOf n left).length := by
  rcases Nat.eq_zero_or_pos (menOf n left).length with h1 | h1
  · exact absurd (menOf_nil hl h1) h
  · exact h1
theorem clr_one {n left m : Nat} (hn : n ≤ 8) (hl : left < 2 ^ n) (hm : m < n) (hb : left.testBit m = true) : (menOf n (left - 2 ^ m)).length + 1 ≤ (menOf n left).length :=
  clr_len hn (Nat.lt_of_lt_of_le hl (Nat.pow_le_pow_right (n := 2) (by omega) hn)) hm hb

theorem c_choose {σ : Type} {fv : Value} {F : Nat → Prop} {St : σ → Hp → Prop} {nxt : σ → Nat → Nat → Nat × σ} {Inv : σ → Nat → Nat → Prop} {y0 : σ}
    (ch : Chs W L fv s F St nxt Inv) (hL : ∀ s', Kp F s s' → LotsO s' p L) (hst : St y0 s) (hinv : Inv y0 (full L.n) 8)
    (h : ∀ s' x cc y, Kp F s s' → Buf s' x cc (vals (runC nxt L.n y0 (full L.n) 8)) → (∀ a, x = some a → s.size ≤ a.block) → St y s' → (∃ b, Inv y 0 b) → K (.slice x (runC nxt L.n y0 (full L.n) 8).length cc) s') :
    CALL Pg W F_lot_lots_choose [.pointer (some p), fv] K E s := by
  refine does_lot_lots_choose W (some p) fv _ s ?_
  unfold T_lot_lots_choose
  have hl0 := hL s (Kp.refl s)
  have hv := vd_iff.1 hl0.ok
  have hn := hv.hi
  have hfl := full_lt hn
  refine NEW_rule fun s1 e1 z1 n1 _ => ?_
  refine ⟨_, (n1 0 _ rfl).cell, ?_⟩
  refine c_counted (v := cnt L anyC) rfl fun s2 c e2 ap r2 => ?_
  refine NEWZ_rule zc_69 fun s3 e3 z3 n3 => ?_
  show (ONE c.val _ : Hp → Prop) s3
  refine (show WR (Addr.add ⟨s2.size, 0, none⟩ 0) c.val _ s3 from ?_)
  refine WR_own (n3 0 _ rfl) rfl ?_
  have o7 : Own (setC s3 ⟨s2.size, 0, none⟩ c.val) ⟨s2.size, 0, none⟩ c.val := own_set (n3 0 _ rfl)
  have e4 : Ext s2 (setC s3 ⟨s2.size, 0, none⟩ c.val) := Ext.setC e3 (Nat.le_refl _)
  have z4 : (setC s3 ⟨s2.size, 0, none⟩ c.val).size = s2.size + 1 := by rw [setC_size, z3]
  show (RDP ⟨s.size, 0, none⟩ _ : Hp → Prop) (setC s3 ⟨s2.size, 0, none⟩ c.val)
  generalize setC s3 ⟨s2.size, 0, none⟩ c.val = s4 at o7 e4 z4 ⊢
  have e24 := e2.trans e4
  have c3 := e24.cell (n1 0 _ rfl).cell
  refine ⟨_, c3, ?_⟩
  refine c_all (hl0.ext (e1.trans e24)) ?_
  try simp only [TUP_mk, AGG_mk, HD_mk, NL_mk, TYI_mk, TYB_mk, TYP_mk, TYL_mk, TYS_mk, TYM_mk, SO_mk, NX_mk, endK_mk, endK_mk', add_0]
  refine NEWZ_rule zc_74 fun s5 e5 z5 n5 => ?_
  refine NEWZ_rule zc_3 fun s6 e6 z6 n6 => ?_
  refine WR_own (e6.own (n5 0 _ rfl)) rfl ?_
  refine WR_own (own_set_ne (.inl (by show s5.size ≠ s4.size; omega)) (n6 0 _ rfl)) rfl ?_
  have o12 : Own (setC (setC s6 ⟨s4.size, 0, none⟩ (.int .u64 (full L.n))) ⟨s5.size, 0, none⟩ (.int .i64 8)) ⟨s4.size, 0, none⟩ (.int .u64 (full L.n)) := own_set_ne (.inl (by show s4.size ≠ s5.size; omega)) (own_set (e6.own (n5 0 _ rfl)))
  have o13 : Own (setC (setC s6 ⟨s4.size, 0, none⟩ (.int .u64 (full L.n))) ⟨s5.size, 0, none⟩ (.int .i64 8)) ⟨s5.size, 0, none⟩ (.int .i64 8) := own_set (own_set_ne (.inl (by show s5.size ≠ s4.size; omega)) (n6 0 _ rfl))
  have e7 : Ext s4 (setC (setC s6 ⟨s4.size, 0, none⟩ (.int .u64 (full L.n))) ⟨s5.size, 0, none⟩ (.int .i64 8)) := Ext.setC (Ext.setC (e5.trans e6) (Nat.le_refl _)) (by show s4.size ≤ s5.size; omega)
  have z7 : (setC (setC s6 ⟨s4.size, 0, none⟩ (.int .u64 (full L.n))) ⟨s5.size, 0, none⟩ (.int .i64 8)).size = s4.size + 2 := by rw [setC_size, setC_size, z6, z5]
  show (L_lot_lots_choose_0 W _ fv ⟨s.size, 0, none⟩ ⟨s2.size, 0, none⟩ ⟨s4.size, 0, none⟩ ⟨s5.size, 0, none⟩ none 0 0 : Hp → Prop) (setC (setC s6 ⟨s4.size, 0, none⟩ (.int .u64 (full L.n))) ⟨s5.size, 0, none⟩ (.int .i64 8))
  generalize setC (setC s6 ⟨s4.size, 0, none⟩ (.int .u64 (full L.n))) ⟨s5.size, 0, none⟩ (.int .i64 8) = s7 at o12 o13 e7 z7 ⊢
  have e27 := e4.trans e7
  have e07 := (e1.trans e2).trans e27
  have hz2 := e2.1
  have hka : c.ka.block < s2.size := by
    obtain ⟨x0, _, hx0⟩ := r2.memo 0 0 (by omega) (by omega)
    have := hx0.lt
    rwa [add_block, add_block] at this
  have hla := cell_lt r2.l
  have hca := cell_lt r2.ctr
  have hoa := cell_lt r2.o
  have ak := ap.k
  have afl := ap.fl
  have afc := ap.fc
  have afo := ap.fo
  have hRm : RmOk s c ⟨s.size, s2.size, s4.size, s5.size, s7.size⟩ := by
    refine ⟨⟨?_, ?_⟩, ⟨?_, ?_⟩, ⟨?_, ?_⟩, ⟨?_, ?_⟩, ⟨?_, ?_, ?_, ?_, ?_, ?_, ?_⟩, ⟨?_, ?_, ?_, ?_, ?_, ?_⟩, ?_, ?_, ⟨?_, ?_⟩, ⟨?_, ?_, ap.l⟩, ⟨?_, ?_, ap.ctr⟩, ⟨?_, ?_, ap.o⟩, ?_⟩ <;> (try dsimp only) <;> omega
  have hhd : HeadI s p L c ⟨s.size, s2.size, s4.size, s5.size, s7.size⟩ F (full L.n) 8 none 0 [] s7 :=
    ⟨Nat.le_refl _, e7.cell c3, e7.cell o7.cell, o12, o13, Buf.nil _, (fun a h => by cases h), by omega, e07.kp, e27.cell r2.l, e27.cell r2.ctr, e27.cell r2.o, r2.memo.ext e27⟩
  have hst7 : St y0 s7 := ch.low y0 s s7 hst (fun q hq => e07.2 q hq) e07.1
  refine L_lot_lots_choose_0_rule W _ fv _ _ _ _ (fun x l cc s' => ∃ left b d y f, l = d.length ∧ HeadI s p L c ⟨s.size, s2.size, s4.size, s5.size, s7.size⟩ F left b x cc d s' ∧ St y s' ∧ Inv y left b ∧ left < 2 ^ L.n ∧ (b = 8 ∨ b < L.n) ∧ (menOf L.n left).length ≤ f ∧
      d ++ runC nxt f y left b = runC nxt L.n y0 (full L.n) 8 ∧ d.length + (menOf L.n left).length ≤ L.n) (fun _ _ _ s' => leftOf s4.size s') none 0 0 s7
    ⟨full L.n, 8, [], y0, L.n, rfl, hhd, hst7, hinv, hfl, .inl rfl, menOf_len_le _ _, rfl, by simpa using menOf_len_le L.n (full L.n)⟩ ?_
  rintro x l cc t ⟨left, b, d, y, f, rfl, hd, st, inv, hlt, hb, hf, hres, hdl⟩
  refine choose_round ch hL hRm hd hlt hb (by omega) st inv ?_ ?_
  · intro h0
    subst h0
    have hr0 : runC nxt f y 0 b = [] := by cases f <;> rfl
    rw [hr0, List.append_nil] at hres
    try simp only [TUP_mk, AGG_mk, HD_mk, NL_mk, TYI_mk, TYB_mk, TYP_mk, TYL_mk, TYS_mk, TYM_mk, SO_mk, NX_mk, endK_mk, endK_mk', add_0]
    have hbuf := hd.buf
    rw [hres] at hbuf ⊢
    exact h t x cc y hd.kp hbuf (fun a ha => by have := (hd.fr a ha).1; have : s7.size ≤ a.block := this; have := e07.1; omega) st ⟨b, inv⟩
  · intro h0 t' x' cc' hd' st' inv' hmem
    obtain ⟨hmn, hmb, _, _⟩ := cans_mem hmem
    have hc1 := clr_one hn hlt hmn hmb
    have hle : 2 ^ (nxt y left b).1 ≤ left := by
      rcases Nat.lt_or_ge left (2 ^ (nxt y left b).1) with h1 | h1
      · have := Nat.testBit_lt_two_pow h1; rw [this] at hmb; cases hmb
      · exact h1
    have hp2 : 0 < 2 ^ (nxt y left b).1 := Nat.pos_of_ne_zero (by simp)
    refine ⟨x', _, cc', rfl, ⟨_, _, _, _, f - 1, by simp, hd', st', inv', by omega, .inr hmn, by omega, ?_, by simp; omega⟩, ?_⟩
    · rw [← hres]
      obtain ⟨f', rfl⟩ : ∃ f', f = f' + 1 := ⟨f - 1, by omega⟩
      show _ = d ++ (if left = 0 then [] else _)
      rw [if_neg h0, Nat.add_sub_cancel]
      simp
    · show leftOf s4.size t' < leftOf s4.size t
      rw [leftOf_eq hd'.o12, leftOf_eq hd.o12]
      omega
end
end Go.Proofs.Ytocnkdkgajdejaa.G

/- Contracts of what is exported: counts. -/
set_option linter.unusedSimpArgs false
set_option linter.unusedVariables false
set_option maxRecDepth 20000
namespace Go.Proofs.Ytocnkdkgajdejaa.G
open Go.V Go.Lot

section
variable {W : World} {K : VK} {E : List PanicEntry → Hp → Prop} {s : Hp} {L : Lts} {p : Addr}

/-- Lots as they are handed in. -/
structure Arg (s : Hp) (x : Option Addr) (L : Lts) : Prop where
  men : MenAt s x L.men
theorem ext_kp' {t s' : Hp} {B : Nat} (e : Ext s t) (k : Kp (· = B) t s') (h : s.size ≤ B) : Ext s s' := ext_kp e k h
/-- A panic's error is told. -/
theorem out_pan {t : Hp} {B : Nat} {e : Int} {y : Value} {KK : Int → Hp → Prop} (ext : Ext s t) (hB : s.size ≤ B) (ho : Own t ⟨B, 0, none⟩ y) (h : ∀ s', Ext s s' → Kp (· = B) t s' → KK e s') :
    DEF Pg W (.tuple #[.func (.func 42) #[] #[], .tuple #[.pointer (some ⟨B, 0, none⟩)]]) (some (pn e)) (RDI .i64 ⟨B, 0, none⟩ KK) t :=
  def_some ho fun s' k o => ⟨e, o.cell, h s' (ext_kp ext k hB) k⟩
/-- No error is told. -/
theorem out_ok {t : Hp} {B : Nat} {y : Value} {KK : Int → Hp → Prop} (ext : Ext s t) (hB : s.size ≤ B) (ho : Own t ⟨B, 0, none⟩ y) (h : ∀ s', Ext s s' → Kp (· = B) t s' → KK 0 s') :
    WR (Addr.add ⟨B, 0, none⟩ 0) (.int .i64 0) (DEF Pg W (.tuple #[.func (.func 42) #[] #[], .tuple #[.pointer (some ⟨B, 0, none⟩)]]) none (RDI .i64 ⟨B, 0, none⟩ KK)) t := by
  refine WR_own ho rfl (def_none ?_)
  have k : Kp (· = B) t (setC t ⟨B, 0, none⟩ (.int .i64 0)) := Kp.setC (Kp.refl t) (.inl rfl)
  exact ⟨0, own_cell (own_set ho), h _ (ext_kp ext k hB) k⟩

def countP (L : Lts) : Int × Int := if valid L then (((cntAll L anyC : Nat) : Int), 0) else (0, 1)
theorem c_Count {x : Option Addr} {c : Nat} (hm : MenAt s x L.men) (h : ∀ s', Ext s s' → K (.tuple #[.int .i64 (countP L).1, .int .i64 (countP L).2]) s') :
    CALL Pg W F_lot_Count [.agg #[.slice x L.n c, .int .i64 L.worst]] K E s := by
  refine does_lot_Count W x L.n c L.worst _ s ?_
  unfold T_lot_Count
  refine NEW_rule fun s1 e1 z1 n1 _ => ?_
  refine NEWZ_rule zc_28 fun s2 e2 z2 n2 => ?_
  have o2 := n2 0 _ rfl
  have e02 := e1.trans e2
  refine ⟨_, _, _, e2.cell (n1 0 _ rfl).cell, _, e2.cell (n1 1 _ rfl).cell, ?_⟩
  refine c_open (hm.ext e02) (Ext.refl s2) (fun hv s3 p e3 hst => ?_) (fun hv s3 e3 => ?_)
  · try simp only [TUP_mk, AGG_mk, HD_mk, NL_mk, TYI_mk, TYB_mk, TYP_mk, TYL_mk, TYS_mk, TYM_mk, SO_mk, NX_mk, endK_mk, endK_mk', add_0]
    have hl := hst.lots
    refine c_counted (v := cnt L anyC) rfl fun s4 cl e4 ap r4 => ?_
    refine c_all (hl.ext e4) ?_
    try simp only [TUP_mk, AGG_mk, HD_mk, NL_mk, TYI_mk, TYB_mk, TYP_mk, TYL_mk, TYS_mk, TYM_mk, SO_mk, NX_mk, endK_mk, endK_mk', add_0]
    refine c_on8 hl ap ctr_every r4 fun s5 k5 r5 => ?_
    try simp only [TUP_mk, AGG_mk, HD_mk, NL_mk, TYI_mk, TYB_mk, TYP_mk, TYL_mk, TYS_mk, TYM_mk, SO_mk, NX_mk, endK_mk, endK_mk', add_0]
    have e35 : Ext s3 s5 := ext_kp e4 k5 ap.k
    refine out_ok (e02.trans (e3.trans e35)) (by omega) ((e3.trans e35).own o2) fun s' e' _ => ?_
    have hc : countP L = (((cntAll L anyC : Nat) : Int), 0) := by unfold countP; rw [hv]; rfl
    rw [hc] at h
    exact h s' e'
  · try simp only [TUP_mk, AGG_mk, HD_mk, NL_mk, TYI_mk, TYB_mk, TYP_mk, TYL_mk, TYS_mk, TYM_mk, SO_mk, NX_mk, endK_mk, endK_mk', add_0]
    refine out_pan (e02.trans e3) (by omega) (e3.own o2) fun s' e' _ => ?_
    have hc : countP L = (0, 1) := by unfold countP; rw [hv]; rfl
    rw [hc] at h
    exact h s' e'

def oftenP (L : Lts) (man plot : Int) : Int × Int :=
  if valid L then (if (0 ≤ man ∧ man < L.n) ∧ 0 ≤ plot ∧ plot < L.n then (((cntAll L (thoseC plot.toNat man.toNat) : Nat) : Int), 0) else (0, 2)) else (0, 1)
theorem c_Often {x : Option Addr} {c : Nat} {man plot : Int} (hm : MenAt s x L.men) (h : ∀ s', Ext s s' → K (.tuple #[.int .i64 (oftenP L man plot).1, .int .i64 (oftenP L man plot).2]) s') :
    CALL Pg W F_lot_Often [.agg #[.slice x L.n c, .int .i64 L.worst], .int .i64 man, .int .i64 plot] K E s := by
  refine does_lot_Often W x L.n c L.worst man plot _ s ?_
  unfold T_lot_Often
  refine NEW_rule fun s1 e1 z1 n1 _ => ?_
  refine NEWZ_rule zc_28 fun s2 e2 z2 n2 => ?_
  have o2 := n2 0 _ rfl
  have e02 := e1.trans e2
  refine ⟨_, _, _, e2.cell (n1 0 _ rfl).cell, _, e2.cell (n1 1 _ rfl).cell, ?_⟩
  refine c_open (hm.ext e02) (Ext.refl s2) (fun hv s3 p e3 hst => ?_) (fun hv s3 e3 => ?_)
  · try simp only [TUP_mk, AGG_mk, HD_mk, NL_mk, TYI_mk, TYB_mk, TYP_mk, TYL_mk, TYS_mk, TYM_mk, SO_mk, NX_mk, endK_mk, endK_mk', add_0]
    have hl := hst.lots
    have bad : ¬ ((0 ≤ man ∧ man < L.n) ∧ 0 ≤ plot ∧ plot < L.n) → ∀ s', Ext s s' → K (.tuple #[.int .i64 0, .int .i64 2]) s' := by
      intro hn s' e'
      have hc : oftenP L man plot = (0, 2) := by unfold oftenP; rw [hv, if_pos rfl, if_neg hn]
      rw [hc] at h
      exact h s' e'
    refine c_is hl ?_
    try simp only [TUP_mk, AGG_mk, HD_mk, NL_mk, TYI_mk, TYB_mk, TYP_mk, TYL_mk, TYS_mk, TYM_mk, SO_mk, NX_mk, endK_mk, endK_mk', add_0]
    refine BR_dec (fun h1 => ?_) (fun h1 => ?_)
    · refine c_is hl ?_
      try simp only [TUP_mk, AGG_mk, HD_mk, NL_mk, TYI_mk, TYB_mk, TYP_mk, TYL_mk, TYS_mk, TYM_mk, SO_mk, NX_mk, endK_mk, endK_mk', add_0]
      refine c_must' (fun h2 => ?_) (fun h2 => ?_)
      · try simp only [TUP_mk, AGG_mk, HD_mk, NL_mk, TYI_mk, TYB_mk, TYP_mk, TYL_mk, TYS_mk, TYM_mk, SO_mk, NX_mk, endK_mk, endK_mk', add_0]
        have h2' : 0 ≤ plot ∧ plot ≤ (L.n : Int) - 1 := by simpa using h2
        obtain ⟨m, rfl⟩ := Int.eq_ofNat_of_zero_le h1.1
        obtain ⟨q, rfl⟩ := Int.eq_ofNat_of_zero_le h2'.1
        refine c_often hl fun s4 e4 => ?_
        try simp only [TUP_mk, AGG_mk, HD_mk, NL_mk, TYI_mk, TYB_mk, TYP_mk, TYL_mk, TYS_mk, TYM_mk, SO_mk, NX_mk, endK_mk, endK_mk', add_0]
        refine out_ok (e02.trans (e3.trans e4)) (by omega) ((e3.trans e4).own o2) fun s' e' _ => ?_
        have hc : oftenP L m q = (((cntAll L (thoseC q m) : Nat) : Int), 0) := by
          unfold oftenP; rw [hv, if_pos rfl, if_pos (by omega)]; rfl
        rw [hc] at h
        exact h s' e'
      · try simp only [TUP_mk, AGG_mk, HD_mk, NL_mk, TYI_mk, TYB_mk, TYP_mk, TYL_mk, TYS_mk, TYM_mk, SO_mk, NX_mk, endK_mk, endK_mk', add_0]
        refine out_pan (e02.trans e3) (by omega) (e3.own o2) fun s' e' _ => ?_
        exact bad (fun hh => by have : ¬ (0 ≤ plot ∧ plot ≤ (L.n : Int) - 1) := by simpa using h2
                                omega) s' e'
    · refine c_must' (fun h2 => by cases h2) (fun _ => ?_)
      try simp only [TUP_mk, AGG_mk, HD_mk, NL_mk, TYI_mk, TYB_mk, TYP_mk, TYL_mk, TYS_mk, TYM_mk, SO_mk, NX_mk, endK_mk, endK_mk', add_0]
      refine out_pan (e02.trans e3) (by omega) (e3.own o2) fun s' e' _ => ?_
      exact bad (fun hh => by omega) s' e'
  · try simp only [TUP_mk, AGG_mk, HD_mk, NL_mk, TYI_mk, TYB_mk, TYP_mk, TYL_mk, TYS_mk, TYM_mk, SO_mk, NX_mk, endK_mk, endK_mk', add_0]
    refine out_pan (e02.trans e3) (by omega) (e3.own o2) fun s' e' _ => ?_
    have hc : oftenP L man plot = (0, 1) := by unfold oftenP; rw [hv]; rfl
    rw [hc] at h
    exact h s' e'

def checkP (L : Lts) (ds : List Int) : Int × Int × Int :=
  if valid L then (if okDraw L ds then (match wrong L (ds.map Int.toNat) with | some (i, r) => (((i : Nat) : Int), ((r : Nat) : Int), 0) | none => (0, 0, 4)) else (0, 0, 2)) else (0, 0, 1)
theorem c_Check {x y : Option Addr} {c c' : Nat} {ds : List Int} (hm : MenAt s x L.men) (hy : RowAt s y (ints ds)) (hlen : ds.length ≤ 100000)
    (h : ∀ s', Ext s s' → K (.tuple #[.int .i64 (checkP L ds).1, .int .i64 (checkP L ds).2.1, .int .i64 (checkP L ds).2.2]) s') :
    CALL Pg W F_lot_Check [.agg #[.slice x L.n c, .int .i64 L.worst], .slice y ds.length c'] K E s := by
  refine does_lot_Check W x L.n c L.worst y ds.length c' _ s ?_
  unfold T_lot_Check
  refine NEW_rule fun s1 e1 z1 n1 _ => ?_
  refine NEWZ_rule zc_28 fun s2 e2 z2 n2 => ?_
  have o2 := n2 0 _ rfl
  have e02 := e1.trans e2
  refine ⟨_, _, _, e2.cell (n1 0 _ rfl).cell, _, e2.cell (n1 1 _ rfl).cell, ?_⟩
  refine c_open (hm.ext e02) (Ext.refl s2) (fun hv s3 p e3 hst => ?_) (fun hv s3 e3 => ?_)
  · try simp only [TUP_mk, AGG_mk, HD_mk, NL_mk, TYI_mk, TYB_mk, TYP_mk, TYL_mk, TYS_mk, TYM_mk, SO_mk, NX_mk, endK_mk, endK_mk', add_0]
    have hl := hst.lots
    refine c_drawl hl (hy.ext (e02.trans e3)) hlen (fun hok s4 x4 e4 b4 f4 => ?_) (fun hok s4 e4 => ?_)
    · try simp only [TUP_mk, AGG_mk, HD_mk, NL_mk, TYI_mk, TYB_mk, TYP_mk, TYL_mk, TYS_mk, TYM_mk, SO_mk, NX_mk, endK_mk, endK_mk', add_0]
      have hd : ∀ m ∈ ds.map Int.toNat, m < L.n := by
        intro m hmm
        obtain ⟨n, hn, rfl⟩ := List.mem_map.1 hmm
        have := hok.2.1 n hn
        omega
      have hrow : RowAt s4 (some x4) (vals (ds.map Int.toNat)) := by rw [vals_ints ds (fun x hx => (hok.2.1 x hx).1)]; exact b4.row
      have hll : (ds.map Int.toNat).length = ds.length := by simp
      have hv8 := (vd_iff.1 hv).hi
      have hcw := c_wrong (W := W) (K := fun v22 => TUP v22 fun q24 => HD q24 fun v25 r26 => TYI .i64 v25 fun n27 =>
                      HD r26 fun v28 r29 => TYI .i64 v28 fun n30 =>
                        HD r29 fun v31 r32 => TYB v31 fun b33 =>
                          NL r32 <|
                            CALL Pg W F_lot_must [(.bool b33), (.int .i64 4)]
                              (fun v34 => TUP v34 fun q36 => NL q36 <|
                                WR (Addr.add ⟨s1.size, 0, none⟩ 0) (.int .i64 0) <|
                                  DEF Pg W (.tuple #[(.func (.func 42) #[] #[]), (.tuple #[(.pointer (some ⟨s1.size, 0, none⟩))])]) none
                                    (RDI .i64 ⟨s1.size, 0, none⟩ fun n37 => K (.tuple #[(.int .i64 n27), (.int .i64 n30), (.int .i64 n37)])))
                                (fun c35 => DEF Pg W (.tuple #[(.func (.func 42) #[] #[]), (.tuple #[(.pointer (some ⟨s1.size, 0, none⟩))])]) (some c35) (RDI .i64 ⟨s1.size, 0, none⟩ fun n38 => K (.tuple #[(.int .i64 n27), (.int .i64 n30), (.int .i64 n38)]))))
        (E := fun c23 => DEF Pg W (.tuple #[(.func (.func 42) #[] #[]), (.tuple #[(.pointer (some ⟨s1.size, 0, none⟩))])]) (some c23) (RDI .i64 ⟨s1.size, 0, none⟩ fun n39 => K (.tuple #[(.int .i64 0), (.int .i64 0), (.int .i64 n39)])))
        (c := ds.length) (hl.ext e4) hd (by rw [hll]; have := hok.1; omega) hrow ?_ ?_
      · rw [hll] at hcw; exact hcw
      · intro s5 i r e5 hw
        try simp only [TUP_mk, AGG_mk, HD_mk, NL_mk, TYI_mk, TYB_mk, TYP_mk, TYL_mk, TYS_mk, TYM_mk, SO_mk, NX_mk, endK_mk, endK_mk', add_0]
        refine c_must' (fun _ => ?_) (fun hf => by cases hf)
        try simp only [TUP_mk, AGG_mk, HD_mk, NL_mk, TYI_mk, TYB_mk, TYP_mk, TYL_mk, TYS_mk, TYM_mk, SO_mk, NX_mk, endK_mk, endK_mk', add_0]
        refine out_ok (e02.trans ((e3.trans e4).trans e5)) (by omega) (((e3.trans e4).trans e5).own o2) fun s' e' _ => ?_
        have hc : checkP L ds = (((i : Nat) : Int), ((r : Nat) : Int), 0) := by unfold checkP; rw [hv, if_pos rfl, if_pos hok, hw]
        rw [hc] at h
        exact h s' e'
      · intro s5 e5 hw
        try simp only [TUP_mk, AGG_mk, HD_mk, NL_mk, TYI_mk, TYB_mk, TYP_mk, TYL_mk, TYS_mk, TYM_mk, SO_mk, NX_mk, endK_mk, endK_mk', add_0]
        refine c_must' (fun hf => by cases hf) (fun _ => ?_)
        refine out_pan (e02.trans ((e3.trans e4).trans e5)) (by omega) (((e3.trans e4).trans e5).own o2) fun s' e' _ => ?_
        have hc : checkP L ds = (0, 0, 4) := by unfold checkP; rw [hv, if_pos rfl, if_pos hok, hw]
        rw [hc] at h
        exact h s' e'
    · try simp only [TUP_mk, AGG_mk, HD_mk, NL_mk, TYI_mk, TYB_mk, TYP_mk, TYL_mk, TYS_mk, TYM_mk, SO_mk, NX_mk, endK_mk, endK_mk', add_0]
      refine out_pan (e02.trans (e3.trans e4)) (by omega) ((e3.trans e4).own o2) fun s' e' _ => ?_
      have hc : checkP L ds = (0, 0, 2) := by unfold checkP; rw [hv, if_pos rfl, if_neg hok]
      rw [hc] at h
      exact h s' e'
  · try simp only [TUP_mk, AGG_mk, HD_mk, NL_mk, TYI_mk, TYB_mk, TYP_mk, TYL_mk, TYS_mk, TYM_mk, SO_mk, NX_mk, endK_mk, endK_mk', add_0]
    refine out_pan (e02.trans e3) (by omega) (e3.own o2) fun s' e' _ => ?_
    have hc : checkP L ds = (0, 0, 1) := by unfold checkP; rw [hv]; rfl
    rw [hc] at h
    exact h s' e'
end
end Go.Proofs.Ytocnkdkgajdejaa.G

/- Contracts of what is exported: the draw with an index. -/
set_option linter.unusedSimpArgs false
set_option linter.unusedVariables false
set_option maxRecDepth 20000
namespace Go.Proofs.Ytocnkdkgajdejaa.G
open Go.V Go.Lot

section
variable {W : World} {K : VK} {E : List PanicEntry → Hp → Prop} {s s0 : Hp} {L : Lts} {p : Addr}

theorem chs_nth {B : Nat} (hv : valid L = true) (hB : B < s0.size) : Chs W L (.func (.func 53) #[] #[.pointer (some ⟨B, 0, none⟩)]) s0 (· = B) (fun n s => Own s ⟨B, 0, none⟩ (.int .i64 (n : Nat))) (nthN L) (fun n left b => n < cnt L anyC left b) where
  low := fun x t t' ho hs hz => by
    have hb : t'[B]? = t[B]? := hs B hB
    exact ⟨by rw [cell_of_block (a := ⟨B, 0, none⟩) hb]; exact ho.1, by rw [frozen_of_block (a := ⟨B, 0, none⟩) hb]; exact ho.2⟩
  foot := fun b hb => by rw [hb]; exact hB
  call := by
    intro n left b hinv h0 hlt hb
    have hn := (vd_iff.1 hv).hi
    obtain ⟨i, h1, h2, h3, h4, h5⟩ := nth_ok L hn hlt h0 hinv
    refine ⟨i, h1, h2, ?_⟩
    intro K E s x1 c1 x2 c2 kF st r1 r2 fr1 fr2 _ hk
    refine CALLV_func ?_
    refine does_lot_Nth_c1 W x1 _ c1 x2 _ c2 ⟨B, 0, none⟩ _ s ?_
    unfold T_lot_Nth_c1
    have hml : (manys L left b).length = (cans L left b).length := by unfold manys; simp
    have hvl : (vals (manys L left b)).length = (cans L left b).length := by rw [vals_len, hml]
    have hcl : (cans L left b).length ≤ 8 := by rw [← cansK_all]; exact Nat.le_trans (cansK_len _ _ _ _) hn
    have hil : i < (cans L left b).length := (List.getElem?_eq_some_iff.1 h1).1
    have hbig : n < 134217729 := by have := cnt_le L anyC hn left b; omega
    have hci := c_index (W := W) (x := x2) (c := c2) (f := .func (.func 55) #[] #[.pointer (some ⟨B, 0, none⟩)]) (xs := vals (manys L left b)) (s := s)
      (I := fun k t => Kp (· = B) s t ∧ ((manys L left b).take k).sum ≤ n ∧ Own t ⟨B, 0, none⟩ (.int .i64 ((n - ((manys L left b).take k).sum : Nat) : Int)) ∧ RowAt t x2 (vals (manys L left b)) ∧ k ≤ i)
      (J := fun k t => Kp (· = B) s t ∧ k = i ∧ Own t ⟨B, 0, none⟩ (.int .i64 ((n - ((manys L left b).take i).sum : Nat) : Int)))
      (K := fun v8 => TYI .i64 v8 fun n10 => endK K E (.returned (.int .i64 n10))) (E := fun c9 => endK K E (.panicked c9))
      (fun v hv => by obtain ⟨q, _, rfl⟩ := List.mem_map.1 hv; exact ⟨_, rfl⟩) (by rw [hvl]; omega) (fun k t h => h.2.2.2.1) ?_ ⟨Kp.refl s, by simp, by simpa using st, r2, Nat.zero_le _⟩ ?_ ?_
    · rw [hvl] at hci; exact hci
    · intro k v hkv K' E' t hI hJ hI'
      obtain ⟨kp, hle, ho, hrow, hki⟩ := hI
      have hkl : k < (manys L left b).length := by have := (List.getElem?_eq_some_iff.1 hkv).1; rwa [vals_len] at this
      obtain ⟨q, hq⟩ : ∃ q, (manys L left b)[k]? = some q := ⟨_, List.getElem?_eq_getElem hkl⟩
      have hvq : v = .int .i64 (q : Int) := by
        unfold vals at hkv; rw [List.getElem?_map, hq] at hkv; simpa using hkv.symm
      subst hvq
      refine CALLV_func ?_
      refine does_lot_Nth_c1_c1 W q ⟨B, 0, none⟩ _ t ?_
      unfold T_lot_Nth_c1_c1
      refine ⟨_, ho.cell, ?_⟩
      have hts : ((manys L left b).take (k + 1)).sum = ((manys L left b).take k).sum + q := by rw [List.take_add_one, hq]; simp
      refine BR_dec (fun h6 => ?_) (fun h6 => ?_)
      · try simp only [TUP_mk, AGG_mk, HD_mk, NL_mk, TYI_mk, TYB_mk, TYP_mk, TYL_mk, TYS_mk, TYM_mk, SO_mk, NX_mk, endK_mk, endK_mk', add_0]
        have hk_i : k = i := by
          rcases Nat.lt_or_ge k i with hlt' | hge
          · have := take_lt h4 hlt' hq; omega
          · omega
        subst hk_i
        exact hJ t ⟨kp, rfl, ho⟩
      · have hlt' : k < i := by
          rcases Nat.lt_or_ge k i with hlt' | hge
          · exact hlt'
          · have hk_i : k = i := by omega
            subst hk_i
            rw [h5] at hq
            cases hq
            rw [h3] at h2
            omega
        have htl := take_lt h4 hlt' hq
        refine ⟨_, ho.cell, ?_⟩
        refine WR_own ho rfl ?_
        try simp only [TUP_mk, AGG_mk, HD_mk, NL_mk, TYI_mk, TYB_mk, TYP_mk, TYL_mk, TYS_mk, TYM_mk, SO_mk, NX_mk, endK_mk, endK_mk', add_0]
        have hqb : q < 134217729 := by omega
        have hw : IntKind.i64.wrap (((n - ((manys L left b).take k).sum : Nat) : Int) - (q : Int)) = ((n - ((manys L left b).take (k + 1)).sum : Nat) : Int) := by
          rw [wrap_i64 (by omega) (by omega), hts]; omega
        rw [hw]
        refine hI' _ ⟨Kp.setC kp (.inl rfl), by omega, own_set ho, ?_, hlt'⟩
        exact hrow.keep ((Kp.setC (Kp.refl t) (.inl rfl) : Kp (· = B) t _)) (fun a ha hh => by have := fr2 a ha; have : a.block = B := hh; omega)
    · intro k t hkl hJ
      obtain ⟨kp, rfl, ho⟩ := hJ
      try simp only [TUP_mk, AGG_mk, HD_mk, NL_mk, TYI_mk, TYB_mk, TYP_mk, TYL_mk, TYS_mk, TYM_mk, SO_mk, NX_mk, endK_mk, endK_mk', add_0]
      refine hk t kp ?_
      rw [h3]
      exact ho
    · intro t hI
      have := hI.2.2.2.2
      rw [hvl] at this
      omega

/-- The value of a slice that is handed out, and what lies there. -/
def Out (s : Hp) (d : List Nat) (v : Value) : Prop := ∃ x c, v = .slice x d.length c ∧ RowAt s x (vals d)
/-- As 'Out'; the list is new. -/
def OutF (s0 s : Hp) (d : List Nat) (v : Value) : Prop := ∃ x c, v = .slice x d.length c ∧ RowAt s x (vals d) ∧ ∀ a, x = some a → s0.size ≤ a.block
theorem c_NthF {x : Option Addr} {c : Nat} {n : Int} (hm : MenAt s x L.men)
    (h1 : ∀ s' d v, Ext s s' → valid L = true → nthP L n = some d → OutF s s' d v → K (.tuple #[v, .int .i64 0]) s')
    (h2 : ∀ s', Ext s s' → valid L = true → nthP L n = none → K (.tuple #[.slice none 0 0, .int .i64 4]) s')
    (h3 : ∀ s', Ext s s' → valid L = false → K (.tuple #[.slice none 0 0, .int .i64 1]) s') :
    CALL Pg W F_lot_Nth [.agg #[.slice x L.n c, .int .i64 L.worst], .int .i64 n] K E s := by
  refine does_lot_Nth W x L.n c L.worst n _ s ?_
  unfold T_lot_Nth
  refine NEW_rule fun s1 e1 z1 n1 _ => ?_
  refine NEW_rule fun s2 e2 z2 n2 _ => ?_
  refine NEWZ_rule zc_28 fun s3 e3 z3 n3 => ?_
  have on := e3.own (n2 0 _ rfl)
  have o3 := n3 0 _ rfl
  have e03 := (e1.trans e2).trans e3
  refine ⟨_, _, _, e3.cell (e2.cell (n1 0 _ rfl).cell), _, e3.cell (e2.cell (n1 1 _ rfl).cell), ?_⟩
  refine c_open hm e03 (fun hv s4 p e4 hst => ?_) (fun hv s4 e4 => ?_)
  · try simp only [TUP_mk, AGG_mk, HD_mk, NL_mk, TYI_mk, TYB_mk, TYP_mk, TYL_mk, TYS_mk, TYM_mk, SO_mk, NX_mk, endK_mk, endK_mk', add_0]
    have hl := hst.lots
    have hn8 := (vd_iff.1 hv).hi
    refine ⟨_, (e4.own on).cell, ?_⟩
    refine c_counted (v := cnt L anyC) rfl fun s5 cl e5 ap r5 => ?_
    refine ⟨⟨_, (e5.own (e4.own on)).cell, rfl⟩, ?_⟩
    refine c_all (hl.ext e5) ?_
    try simp only [TUP_mk, AGG_mk, HD_mk, NL_mk, TYI_mk, TYB_mk, TYP_mk, TYL_mk, TYS_mk, TYM_mk, SO_mk, NX_mk, endK_mk, endK_mk', add_0]
    refine ⟨⟨_, (e5.own (e4.own on)).cell, rfl⟩, ?_⟩
    refine c_on8 hl ap ctr_every r5 fun s6 k6 r6 => ?_
    try simp only [TUP_mk, AGG_mk, HD_mk, NL_mk, TYI_mk, TYB_mk, TYP_mk, TYL_mk, TYS_mk, TYM_mk, SO_mk, NX_mk, endK_mk, endK_mk', add_0]
    have e46 : Ext s4 s6 := ext_kp e5 k6 ap.k
    have e36 := e4.trans e46
    refine ⟨⟨_, (e46.own (e4.own on)).cell, rfl⟩, ?_⟩
    have hle := cnt_le L anyC hn8 (full L.n) 8
    have hca : cntAll L anyC = cnt L anyC (full L.n) 8 := rfl
    refine c_within ?_
    try simp only [TUP_mk, AGG_mk, HD_mk, NL_mk, TYI_mk, TYB_mk, TYP_mk, TYL_mk, TYS_mk, TYM_mk, SO_mk, NX_mk, endK_mk, endK_mk', add_0]
    rw [wrap_i64 (by omega) (by omega)]
    refine c_must' (fun h5 => ?_) (fun h5 => ?_)
    · try simp only [TUP_mk, AGG_mk, HD_mk, NL_mk, TYI_mk, TYB_mk, TYP_mk, TYL_mk, TYS_mk, TYM_mk, SO_mk, NX_mk, endK_mk, endK_mk', add_0]
      have h5' : 0 ≤ n ∧ n ≤ (cntAll L anyC : Int) - 1 := by simpa using h5
      obtain ⟨m, rfl⟩ := Int.eq_ofNat_of_zero_le h5'.1
      have hpos : m < cnt L anyC (full L.n) 8 := by omega
      have hs6 := e36.1
      refine c_choose (chs_nth (B := s1.size) (s0 := s6) hv (by omega)) (fun t k => (hst.ext e46) _ t k (fun b hb => by have : b = s1.size := hb; omega)) (y0 := m) (e46.own (e4.own on)) hpos ?_
      intro s7 x7 c7 y7 k7 b7 f7 st7 _
      try simp only [TUP_mk, AGG_mk, HD_mk, NL_mk, TYI_mk, TYB_mk, TYP_mk, TYL_mk, TYS_mk, TYM_mk, SO_mk, NX_mk, endK_mk, endK_mk', add_0]
      have e7 : Ext s s7 := ext_kp (e03.trans e36) k7 (by omega)
      have o7 : Own s7 ⟨s2.size, 0, none⟩ (.int .i64 0) := k7.own (by show ¬ s2.size = s1.size; omega) (e36.own o3)
      refine out_ok e7 (by omega) o7 fun s' e' k' => ?_
      have hnp : nthP L (m : Int) = some (runC (nthN L) L.n m (full L.n) 8) := by
        unfold nthP
        rw [if_pos ⟨by omega, by omega⟩]
        rfl
      refine h1 s' _ _ e' hv hnp ⟨x7, c7, rfl, b7.row.keep k' (fun a ha hh => ?_), fun a ha => ?_⟩
      · have h8 := f7 a ha
        have h9 : a.block = s2.size := hh
        omega
      · have h8 := f7 a ha
        have h9 := (e03.trans e36).1
        omega
    · try simp only [TUP_mk, AGG_mk, HD_mk, NL_mk, TYI_mk, TYB_mk, TYP_mk, TYL_mk, TYS_mk, TYM_mk, SO_mk, NX_mk, endK_mk, endK_mk', add_0]
      have h5' : ¬ (0 ≤ n ∧ n ≤ (cntAll L anyC : Int) - 1) := by simpa using h5
      refine out_pan (e03.trans e36) (by omega) (e36.own o3) fun s' e' _ => ?_
      refine h2 s' e' hv ?_
      unfold nthP
      rw [if_neg (fun hh => h5' (by omega))]
  · try simp only [TUP_mk, AGG_mk, HD_mk, NL_mk, TYI_mk, TYB_mk, TYP_mk, TYL_mk, TYS_mk, TYM_mk, SO_mk, NX_mk, endK_mk, endK_mk', add_0]
    refine out_pan (e03.trans e4) (by omega) (e4.own o3) fun s' e' _ => ?_
    exact h3 s' e' hv
theorem c_Nth {x : Option Addr} {c : Nat} {n : Int} (hm : MenAt s x L.men)
    (h1 : ∀ s' d v, Ext s s' → valid L = true → nthP L n = some d → Out s' d v → K (.tuple #[v, .int .i64 0]) s')
    (h2 : ∀ s', Ext s s' → valid L = true → nthP L n = none → K (.tuple #[.slice none 0 0, .int .i64 4]) s')
    (h3 : ∀ s', Ext s s' → valid L = false → K (.tuple #[.slice none 0 0, .int .i64 1]) s') :
    CALL Pg W F_lot_Nth [.agg #[.slice x L.n c, .int .i64 L.worst], .int .i64 n] K E s :=
  c_NthF hm (fun s' d v e hv hd ho => h1 s' d v e hv hd (by obtain ⟨x, c, h1, h2, _⟩ := ho; exact ⟨x, c, h1, h2⟩)) h2 h3
end
end Go.Proofs.Ytocnkdkgajdejaa.G

/- Contracts of what is exported: what is drawn by a seed. -/
set_option linter.unusedSimpArgs false
set_option linter.unusedVariables false
set_option maxRecDepth 20000
namespace Go.Proofs.Ytocnkdkgajdejaa.G
open Go.V Go.Lot

section
variable {W : World} {K : VK} {E : List PanicEntry → Hp → Prop} {s s0 : Hp} {L : Lts} {p : Addr}

theorem CALLV_first {f : FuncId} {args : List Value} {first : Array Value} (h : CALL Pg W f (first.toList ++ args) K E s) : CALLV Pg W (.func (.func f) first #[]) args K E s := by
  show Does Pg W f (first ++ args.toArray ++ #[]) s _
  have e : (first ++ args.toArray ++ #[] : Array Value) = (first.toList ++ args).toArray := Array.ext' (by simp)
  rw [e]; exact h
theorem zc_83 : zc Pg 83 = [.nilFunc] := by kernel_rfl

theorem c_next {B : Nat} {num : Nat} (hle : num ≤ 65536) (ho : Own s ⟨B, 0, none⟩ (.int .i64 num)) (h : ∀ s', Kp (· = B) s s' → Own s' ⟨B, 0, none⟩ (.int .i64 (nextD num : Nat)) → K (.int .i64 (nextD num : Nat)) s') :
    CALL Pg W F_lot_seed_next [.pointer (some ⟨B, 0, none⟩)] K E s := by
  refine does_lot_seed_next W (some ⟨B, 0, none⟩) _ s ?_
  unfold T_lot_seed_next
  try simp only [TUP_mk, AGG_mk, HD_mk, NL_mk, TYI_mk, TYB_mk, TYP_mk, TYL_mk, TYS_mk, TYM_mk, SO_mk, NX_mk, endK_mk, endK_mk', add_0]
  refine ⟨_, ho.cell, ?_⟩
  refine WR_own ho rfl ?_
  have hw : Int.tmod (IntKind.wrap .i64 ((IntKind.wrap .i64 (75 * (num : Int))) + 74)) 65537 = ((nextD num : Nat) : Int) := by
    rw [wrap_i64 (n := 75 * (num : Int)) (by omega) (by omega), wrap_i64 (by omega) (by omega)]
    rw [Int.tmod_eq_emod_of_nonneg (by omega)]
    unfold nextD
    omega
  rw [hw]
  refine ⟨_, own_cell (own_set ho), ?_⟩
  try simp only [TUP_mk, AGG_mk, HD_mk, NL_mk, TYI_mk, TYB_mk, TYP_mk, TYL_mk, TYS_mk, TYM_mk, SO_mk, NX_mk, endK_mk, endK_mk', add_0]
  exact h _ (Kp.setC (Kp.refl s) (.inl rfl)) (own_set ho)

theorem chs_draw {B B2 : Nat} (hv : valid L = true) (hB : B < s0.size) (hB2 : B2 < s0.size) (hne : B2 ≠ B) : Chs W L (.func (.func 60) #[] #[.pointer (some ⟨B2, 0, none⟩)]) s0 (· = B)
    (fun n s => Own s ⟨B, 0, none⟩ (.int .i64 (n : Nat)) ∧ cellAt s ⟨B2, 0, none⟩ = some (.func (.func 59) #[.pointer (some ⟨B, 0, none⟩)] #[])) (drawN L) (fun n left b => n ≤ 65536 ∧ 0 < cnt L anyC left b) where
  low := fun x t t' ho hs hz => by
    have hb : t'[B]? = t[B]? := hs B hB
    have hb2 : t'[B2]? = t[B2]? := hs B2 hB2
    exact ⟨⟨by rw [cell_of_block (a := ⟨B, 0, none⟩) hb]; exact ho.1.1, by rw [frozen_of_block (a := ⟨B, 0, none⟩) hb]; exact ho.1.2⟩, by rw [cell_of_block (a := ⟨B2, 0, none⟩) hb2]; exact ho.2⟩
  foot := fun b hb => by rw [hb]; exact hB
  call := by
    intro n left b hinv h0 hlt hb
    have hn := (vd_iff.1 hv).hi
    have hpos := cans_pos L hn hlt h0 hinv.2
    have hil : nextD n % (cans L left b).length < (cans L left b).length := Nat.mod_lt _ hpos
    have hcl : (cans L left b).length ≤ 8 := by rw [← cansK_all]; exact Nat.le_trans (cansK_len _ _ _ _) hn
    have hget : (cans L left b)[nextD n % (cans L left b).length]? = some (drawN L n left b).1 := by
      unfold drawN
      simp [List.getD, hil]
    have hmem : (drawN L n left b).1 ∈ cans L left b := List.mem_of_getElem? hget
    have hnl : nextD n ≤ 65536 := by have : nextD n < 65537 := Nat.mod_lt _ (by omega); omega
    refine ⟨_, hget, ⟨hnl, (cans_mem hmem).2.2.2⟩, ?_⟩
    intro K E s x1 c1 x2 c2 kF st r1 r2 fr1 fr2 _ hk
    refine CALLV_func ?_
    refine does_lot_Draw_c1 W x1 _ c1 x2 _ c2 ⟨B2, 0, none⟩ _ s ?_
    unfold T_lot_Draw_c1
    refine ⟨_, st.2, ?_⟩
    refine CALLV_first ?_
    refine c_next hinv.1 st.1 fun s' k o => ?_
    try simp only [TUP_mk, AGG_mk, HD_mk, NL_mk, TYI_mk, TYB_mk, TYP_mk, TYL_mk, TYS_mk, TYM_mk, SO_mk, NX_mk, endK_mk, endK_mk', add_0]
    have hnz : NZI ((cans L left b).length : Int) (K (.int .i64 (Int.tmod ((nextD n : Nat) : Int) ((cans L left b).length : Int)))) s' := by
      have ht : Int.tmod ((nextD n : Nat) : Int) ((cans L left b).length : Int) = ((nextD n % (cans L left b).length : Nat) : Int) := by
        rw [Int.tmod_eq_emod_of_nonneg (by omega)]; omega
      rw [ht]
      have hK := hk s' k ⟨o, k.cell (fun (hh : B2 = B) => hne hh) st.2⟩
      cases hlen : (cans L left b).length with
      | zero => omega
      | succ q => rw [hlen] at hK; exact hK
    exact hnz

theorem c_Draw {x : Option Addr} {c : Nat} {n : Int} (hm : MenAt s x L.men)
    (h1 : ∀ s' d v, Ext s s' → valid L = true → (0 ≤ n ∧ n ≤ 65536) → drawP L n = some d → Out s' d v → K (.tuple #[v, .int .i64 0]) s')
    (h2 : ∀ s', Ext s s' → valid L = true → (0 ≤ n ∧ n ≤ 65536) → drawP L n = none → K (.tuple #[.slice none 0 0, .int .i64 4]) s')
    (h2' : ∀ s', Ext s s' → valid L = true → ¬ (0 ≤ n ∧ n ≤ 65536) → K (.tuple #[.slice none 0 0, .int .i64 2]) s')
    (h3 : ∀ s', Ext s s' → valid L = false → K (.tuple #[.slice none 0 0, .int .i64 1]) s') :
    CALL Pg W F_lot_Draw [.agg #[.slice x L.n c, .int .i64 L.worst], .int .i64 n] K E s := by
  refine does_lot_Draw W x L.n c L.worst n _ s ?_
  unfold T_lot_Draw
  refine NEW_rule fun s1 e1 z1 n1 _ => ?_
  refine NEWZ_rule zc_28 fun s3 e3 z3 n3 => ?_
  have o3 := n3 0 _ rfl
  have e03 := e1.trans e3
  refine ⟨_, _, _, e3.cell (n1 0 _ rfl).cell, _, e3.cell (n1 1 _ rfl).cell, ?_⟩
  refine c_open hm e03 (fun hv s4 p e4 hst => ?_) (fun hv s4 e4 => ?_)
  · try simp only [TUP_mk, AGG_mk, HD_mk, NL_mk, TYI_mk, TYB_mk, TYP_mk, TYL_mk, TYS_mk, TYM_mk, SO_mk, NX_mk, endK_mk, endK_mk', add_0]
    have hl := hst.lots
    have hn8 := (vd_iff.1 hv).hi
    refine c_within ?_
    try simp only [TUP_mk, AGG_mk, HD_mk, NL_mk, TYI_mk, TYB_mk, TYP_mk, TYL_mk, TYS_mk, TYM_mk, SO_mk, NX_mk, endK_mk, endK_mk', add_0]
    refine c_must' (fun h5 => ?_) (fun h5 => ?_)
    · try simp only [TUP_mk, AGG_mk, HD_mk, NL_mk, TYI_mk, TYB_mk, TYP_mk, TYL_mk, TYS_mk, TYM_mk, SO_mk, NX_mk, endK_mk, endK_mk', add_0]
      have h5' : 0 ≤ n ∧ n ≤ 65536 := by simpa using h5
      obtain ⟨m, rfl⟩ := Int.eq_ofNat_of_zero_le h5'.1
      refine c_counted (v := cnt L anyC) rfl fun s5 cl e5 ap r5 => ?_
      refine c_all (hl.ext e5) ?_
      try simp only [TUP_mk, AGG_mk, HD_mk, NL_mk, TYI_mk, TYB_mk, TYP_mk, TYL_mk, TYS_mk, TYM_mk, SO_mk, NX_mk, endK_mk, endK_mk', add_0]
      refine c_on8 hl ap ctr_every r5 fun s6 k6 r6 => ?_
      try simp only [TUP_mk, AGG_mk, HD_mk, NL_mk, TYI_mk, TYB_mk, TYP_mk, TYL_mk, TYS_mk, TYM_mk, SO_mk, NX_mk, endK_mk, endK_mk', add_0]
      have e46 : Ext s4 s6 := ext_kp e5 k6 ap.k
      have e36 := e4.trans e46
      have hca : cntAll L anyC = cnt L anyC (full L.n) 8 := rfl
      refine c_must' (fun h6 => ?_) (fun h6 => ?_)
      · try simp only [TUP_mk, AGG_mk, HD_mk, NL_mk, TYI_mk, TYB_mk, TYP_mk, TYL_mk, TYS_mk, TYM_mk, SO_mk, NX_mk, endK_mk, endK_mk', add_0]
        have hpos : 0 < cnt L anyC (full L.n) 8 := by have : (cntAll L anyC : Int) > 0 := by simpa using h6
                                                      omega
        refine NEW_rule fun s7 e7 z7 n7 _ => ?_
        refine NEWZ_rule zc_83 fun s8 e8 z8 n8 => ?_
        refine WR_own (n8 0 _ rfl) rfl ?_
        have o8 : Own (setC s8 ⟨s7.size, 0, none⟩ (.func (.func 59) #[.pointer (some ⟨s6.size, 0, none⟩)] #[])) ⟨s7.size, 0, none⟩ (.func (.func 59) #[.pointer (some ⟨s6.size, 0, none⟩)] #[]) := own_set (n8 0 _ rfl)
        have e9 : Ext s7 (setC s8 ⟨s7.size, 0, none⟩ (.func (.func 59) #[.pointer (some ⟨s6.size, 0, none⟩)] #[])) := Ext.setC e8 (Nat.le_refl _)
        have z9 : (setC s8 ⟨s7.size, 0, none⟩ (.func (.func 59) #[.pointer (some ⟨s6.size, 0, none⟩)] #[])).size = s7.size + 1 := by rw [setC_size, z8]
        show (CALL Pg W F_lot_lots_choose [(.pointer (some p)), (.func (.func 60) #[] #[(.pointer (some ⟨s7.size, 0, none⟩))])] _ _ : Hp → Prop) (setC s8 ⟨s7.size, 0, none⟩ (.func (.func 59) #[.pointer (some ⟨s6.size, 0, none⟩)] #[]))
        generalize setC s8 ⟨s7.size, 0, none⟩ (.func (.func 59) #[.pointer (some ⟨s6.size, 0, none⟩)] #[]) = s9 at o8 e9 z9 ⊢
        have e69 := e7.trans e9
        have e39 := e36.trans e69
        have hz := e03.1
        have hz36 := e36.1
        have hL : ∀ t, Kp (· = s6.size) s9 t → LotsO t p L := by
          intro t k
          have : Ext s6 t := ext_kp e69 k (Nat.le_refl _)
          exact hl.ext (e46.trans this)
        refine c_choose (chs_draw (B := s6.size) (B2 := s7.size) (s0 := s9) hv (by omega) (by omega) (by omega)) hL (y0 := m) ⟨e9.own (n7 0 _ rfl), o8.cell⟩ ⟨by omega, hpos⟩ ?_
        intro t x7 c7 y7 k7 b7 f7 st7 _
        try simp only [TUP_mk, AGG_mk, HD_mk, NL_mk, TYI_mk, TYB_mk, TYP_mk, TYL_mk, TYS_mk, TYM_mk, SO_mk, NX_mk, endK_mk, endK_mk', add_0]
        have e7' : Ext s t := ext_kp (e03.trans e39) k7 (by omega)
        have o7 : Own t ⟨s1.size, 0, none⟩ (.int .i64 0) := k7.own (by show ¬ s1.size = s6.size; omega) (e39.own o3)
        refine out_ok e7' (by omega) o7 fun s' e' k' => ?_
        have hnp : drawP L (m : Int) = some (runC (drawN L) L.n m (full L.n) 8) := by
          unfold drawP
          rw [if_pos hpos]
          rfl
        refine h1 s' _ _ e' hv h5' hnp ⟨x7, c7, rfl, b7.row.keep k' (fun a ha hh => ?_)⟩
        have h8 := f7 a ha
        have h9 : a.block = s1.size := hh
        omega
      · try simp only [TUP_mk, AGG_mk, HD_mk, NL_mk, TYI_mk, TYB_mk, TYP_mk, TYL_mk, TYS_mk, TYM_mk, SO_mk, NX_mk, endK_mk, endK_mk', add_0]
        refine out_pan (e03.trans e36) (by omega) (e36.own o3) fun s' e' _ => ?_
        refine h2 s' e' hv h5' ?_
        unfold drawP
        have : ¬ (cntAll L anyC : Int) > 0 := by simpa using h6
        rw [if_neg (by omega)]
    · try simp only [TUP_mk, AGG_mk, HD_mk, NL_mk, TYI_mk, TYB_mk, TYP_mk, TYL_mk, TYS_mk, TYM_mk, SO_mk, NX_mk, endK_mk, endK_mk', add_0]
      refine out_pan (e03.trans e4) (by omega) (e4.own o3) fun s' e' _ => ?_
      exact h2' s' e' hv (by simpa using h5)
  · try simp only [TUP_mk, AGG_mk, HD_mk, NL_mk, TYI_mk, TYB_mk, TYP_mk, TYL_mk, TYS_mk, TYM_mk, SO_mk, NX_mk, endK_mk, endK_mk', add_0]
    refine out_pan (e03.trans e4) (by omega) (e4.own o3) fun s' e' _ => ?_
    exact h3 s' e' hv
end
end Go.Proofs.Ytocnkdkgajdejaa.G

/- Contracts of what is exported: which plots somebody can get. -/
set_option linter.unusedSimpArgs false
set_option linter.unusedVariables false
set_option maxRecDepth 20000
namespace Go.Proofs.Ytocnkdkgajdejaa.G
open Go.V Go.Lot

theorem ori_eq : ∀ w : Nat, w < 256 → ∀ m : Nat, m < 8 → orv .i64 (w : Int) (shlv .i64 1 (m : Int)) = ((w ||| 2 ^ m : Nat) : Int) := by
  have h : ((List.range 256).all fun (l : Nat) => (List.range 8).all fun (m : Nat) => decide (orv .i64 (l : Int) (shlv .i64 1 (m : Int)) = ((l ||| 2 ^ m : Nat) : Int))) = true := by decide +kernel
  intro w hl m hm
  have h1 := List.all_eq_true.1 h w (by simpa using hl)
  have h2 := List.all_eq_true.1 h1 m (by simpa using hm)
  simpa using h2

section
variable {W : World} {K : VK} {E : List PanicEntry → Hp → Prop} {s s0 : Hp} {L : Lts} {p : Addr}

def canP (L : Lts) (man : Int) : Int × Int :=
  if valid L then (if 0 ≤ man ∧ man < L.n then (((canSet L man.toNat L.n : Nat) : Int), 0) else (0, 2)) else (0, 1)
theorem c_Can {x : Option Addr} {c : Nat} {man : Int} (hm : MenAt s x L.men) (h : ∀ s', Ext s s' → K (.tuple #[.int .i64 (canP L man).1, .int .i64 (canP L man).2]) s') :
    CALL Pg W F_lot_Can [.agg #[.slice x L.n c, .int .i64 L.worst], .int .i64 man] K E s := by
  refine does_lot_Can W x L.n c L.worst man _ s ?_
  unfold T_lot_Can
  refine NEW_rule fun s1 e1 z1 n1 _ => ?_
  refine NEWZ_rule zc_28 fun s2 e2 z2 n2 => ?_
  have o2 := n2 0 _ rfl
  have e02 := e1.trans e2
  refine ⟨_, _, _, e2.cell (n1 0 _ rfl).cell, _, e2.cell (n1 1 _ rfl).cell, ?_⟩
  refine c_open hm e02 (fun hv s3 p e3 hst => ?_) (fun hv s3 e3 => ?_)
  · try simp only [TUP_mk, AGG_mk, HD_mk, NL_mk, TYI_mk, TYB_mk, TYP_mk, TYL_mk, TYS_mk, TYM_mk, SO_mk, NX_mk, endK_mk, endK_mk', add_0]
    have hl := hst.lots
    have hn8 := (vd_iff.1 hv).hi
    refine c_is hl ?_
    try simp only [TUP_mk, AGG_mk, HD_mk, NL_mk, TYI_mk, TYB_mk, TYP_mk, TYL_mk, TYS_mk, TYM_mk, SO_mk, NX_mk, endK_mk, endK_mk', add_0]
    refine c_must' (fun h1 => ?_) (fun h1 => ?_)
    · try simp only [TUP_mk, AGG_mk, HD_mk, NL_mk, TYI_mk, TYB_mk, TYP_mk, TYL_mk, TYS_mk, TYM_mk, SO_mk, NX_mk, endK_mk, endK_mk', add_0]
      have h1' : 0 ≤ man ∧ man ≤ (L.n : Int) - 1 := by simpa using h1
      obtain ⟨m, rfl⟩ := Int.eq_ofNat_of_zero_le h1'.1
      refine c_plots hl ?_
      try simp only [TUP_mk, AGG_mk, HD_mk, NL_mk, TYI_mk, TYB_mk, TYP_mk, TYL_mk, TYS_mk, TYM_mk, SO_mk, NX_mk, endK_mk, endK_mk', add_0]
      refine L_lot_Can_0_rule W _ m ⟨s1.size, 0, none⟩ (some p) L.n (fun n28 n29 t => ∃ k : Nat, k ≤ L.n ∧ n29 = k ∧ n28 = (canSet L m k : Nat) ∧ Ext s3 t) (fun _ n29 _ => (L.n - n29).toNat) 0 0 s3 ⟨0, by omega, rfl, rfl, Ext.refl _⟩ ?_
      rintro n28 n29 t ⟨k, hk, rfl, rfl, et⟩
      unfold B_lot_Can_0
      have hlt := canSet_lt L m k
      have h256 : canSet L m k < 256 := Nat.lt_of_lt_of_le hlt (show 2 ^ k ≤ 2 ^ 8 from Nat.pow_le_pow_right (by omega) (by omega))
      refine BR_dec (fun h2 => ?_) (fun h2 => ?_)
      · have hk8 : k < 8 := by omega
        have hw : IntKind.i64.wrap ((k : Int) + 1) = ((k + 1 : Nat) : Int) := by rw [wrap_i64 (by omega) (by omega)]; rfl
        have hms : ((L.n : Int) - IntKind.i64.wrap ((k : Int) + 1)).toNat < ((L.n : Int) - k).toNat := by rw [hw]; omega
        refine c_often (hl.ext et) fun t2 e2 => ?_
        try simp only [TUP_mk, AGG_mk, HD_mk, NL_mk, TYI_mk, TYB_mk, TYP_mk, TYL_mk, TYS_mk, TYM_mk, SO_mk, NX_mk, endK_mk, endK_mk', add_0]
        have hcs : canSet L m (k + 1) = if 0 < cntAll L (thoseC k m) then canSet L m k ||| 2 ^ k else canSet L m k := rfl
        refine BR_dec (fun h3 => ?_) (fun h3 => ?_)
        · refine NNI_nat ⟨_, _, rfl, ⟨k + 1, by omega, hw, ?_, et.trans e2⟩, hms⟩
          rw [ori_eq _ h256 k hk8, hcs, if_pos (by omega)]
        · refine ⟨_, _, rfl, ⟨k + 1, by omega, hw, ?_, et.trans e2⟩, hms⟩
          rw [hcs, if_neg (by omega)]
      · have hkn : k = L.n := by omega
        subst hkn
        refine out_ok (e02.trans (e3.trans et)) (by omega) ((e3.trans et).own o2) fun s' e' _ => ?_
        have hc : canP L m = (((canSet L m L.n : Nat) : Int), 0) := by unfold canP; rw [hv, if_pos rfl, if_pos (by omega)]; rfl
        rw [hc] at h
        exact h s' e'
    · try simp only [TUP_mk, AGG_mk, HD_mk, NL_mk, TYI_mk, TYB_mk, TYP_mk, TYL_mk, TYS_mk, TYM_mk, SO_mk, NX_mk, endK_mk, endK_mk', add_0]
      refine out_pan (e02.trans e3) (by omega) (e3.own o2) fun s' e' _ => ?_
      have h1' : ¬ (0 ≤ man ∧ man ≤ (L.n : Int) - 1) := by simpa using h1
      have hc : canP L man = (0, 2) := by unfold canP; rw [hv, if_pos rfl, if_neg (by omega)]
      rw [hc] at h
      exact h s' e'
  · try simp only [TUP_mk, AGG_mk, HD_mk, NL_mk, TYI_mk, TYB_mk, TYP_mk, TYL_mk, TYS_mk, TYM_mk, SO_mk, NX_mk, endK_mk, endK_mk', add_0]
    refine out_pan (e02.trans e3) (by omega) (e3.own o2) fun s' e' _ => ?_
    have hc : canP L man = (0, 1) := by unfold canP; rw [hv]; rfl
    rw [hc] at h
    exact h s' e'
end
end Go.Proofs.Ytocnkdkgajdejaa.G

/- Contracts of what is exported: the place of a draw. -/
set_option linter.unusedSimpArgs false
set_option linter.unusedVariables false
set_option maxRecDepth 20000
namespace Go.Proofs.Ytocnkdkgajdejaa.G
open Go.V Go.Lot

section
variable {W : World} {K : VK} {E : List PanicEntry → Hp → Prop} {s s0 : Hp} {L : Lts} {p : Addr}

theorem add_add {a : Addr} {m n : Nat} (h : m ≠ 0) : (a.add m).add n = a.add (m + n) := by
  unfold Addr.add
  by_cases hn : n = 0
  · simp [hn]
  · simp [h, hn, Nat.add_assoc]
theorem idx_first : ∀ (l : List Nat) (m k : Nat), l[k]? = some m → (∀ j, j < k → l[j]? ≠ some m) → l.idxOf m = k
  | [], m, k, h, _ => by simp at h
  | x :: l, m, 0, h, _ => by simp at h; subst h; simp
  | x :: l, m, k + 1, h, hn => by
    have hx : x ≠ m := fun e => hn 0 (by omega) (by simp [e])
    have ih := idx_first l m k (by simpa using h) (fun j hj => by have := hn (j + 1) (by omega); simpa using this)
    rw [List.idxOf_cons]
    have hb : (x == m) = false := by simp [hx]
    simp [hb, ih]
theorem idx_get {l : List Nat} {m : Nat} (h : m ∈ l) : l[l.idxOf m]? = some m := by
  rw [List.getElem?_eq_getElem (List.idxOf_lt_length_of_mem h), List.getElem_idxOf]

/-- The rest of a draw behind a variable. -/
def Rest (s0 : Hp) (BO BP : Nat) (rest : List Nat) (s : Hp) : Prop := ∃ xo c, Own s ⟨BO, 0, none⟩ (.slice xo rest.length c) ∧ rest.length ≤ c ∧ RowAt s xo (vals rest) ∧ ∀ a, xo = some a → a.block < s0.size ∧ a.block ≠ BO ∧ a.block ≠ BP

/-- The plain numbers are added up. -/
theorem place_loop {R : Ending → Hp → Prop} {BP : Nat} {x : Option Addr} {c i pl : Nat} {ms : List Nat} {i0 : Int} (hi : i ≤ ms.length) (hms : ms.length ≤ 8) (hx : RowAt s x (vals ms)) (hb : ∀ m ∈ ms, m ≤ 134217728) (hpl : pl ≤ 8589934592) (hne : ∀ a, x = some a → a.block ≠ BP)
    (ho : Own s ⟨BP, 0, none⟩ (.int .i64 (pl : Nat))) (h : ∀ s', Kp (· = BP) s s' → Own s' ⟨BP, 0, none⟩ (.int .i64 ((pl + (ms.take i).sum : Nat) : Int)) → R (.returned (.int .i64 i0)) s') :
    L_lot_Place_c1_0 W R ⟨BP, 0, none⟩ i0 x i c (i : Int) 0 s := by
  refine L_lot_Place_c1_0_rule W R ⟨BP, 0, none⟩ i0 x i c i (fun n t => ∃ k : Nat, k ≤ i ∧ n = k ∧ Kp (· = BP) s t ∧ Own t ⟨BP, 0, none⟩ (.int .i64 ((pl + (ms.take k).sum : Nat) : Int))) (fun n _ => (i - n).toNat) 0 s ⟨0, by omega, rfl, Kp.refl s, by simpa using ho⟩ ?_
  rintro n t ⟨k, hk, rfl, kp, o⟩
  unfold B_lot_Place_c1_0
  refine BR_dec (fun h1 => ?_) (fun h1 => ?_)
  · have hkm : k < ms.length := by omega
    have hkv : k < (vals ms).length := by rw [vals_len]; exact hkm
    obtain ⟨a, ha, g⟩ := hx k hkv
    rw [vals_get hkv] at g
    refine ⟨a, ha, ⟨by omega, by omega⟩, ?_⟩
    have tk : ((k : Int)).toNat = k := by omega
    rw [tk]
    refine ⟨_, kp.cell (by rw [add_blk]; exact hne a ha) g, _, o.cell, ?_⟩
    refine WR_own o rfl ?_
    try simp only [TUP_mk, AGG_mk, HD_mk, NL_mk, TYI_mk, TYB_mk, TYP_mk, TYL_mk, TYS_mk, TYM_mk, SO_mk, NX_mk, endK_mk, endK_mk', add_0]
    have hsum : (ms.take k).sum ≤ 8 * 134217728 := by
      refine Nat.le_trans (sum_le (B := 134217728) (fun x hx' => hb x (List.mem_of_mem_take hx'))) ?_
      rw [List.length_take]
      exact Nat.mul_le_mul_right _ (by omega)
    have hm := hb ms[k] (List.getElem_mem _)
    have hts : (ms.take (k + 1)).sum = (ms.take k).sum + ms[k] := by rw [List.take_add_one, List.getElem?_eq_getElem hkm, List.sum_append]; simp only [Option.toList_some, List.sum_cons, List.sum_nil, Nat.add_zero]
    have hw : IntKind.i64.wrap (((pl + (ms.take k).sum : Nat) : Int) + (ms[k] : Int)) = ((pl + (ms.take (k + 1)).sum : Nat) : Int) := by
      rw [wrap_i64 (by omega) (by omega), hts]; omega
    rw [hw]
    refine ⟨_, rfl, ⟨k + 1, by omega, ?_, Kp.setC kp (.inl rfl), own_set o⟩, ?_⟩
    · rw [wrap_i64 (by omega) (by omega)]; rfl
    · show ((i : Int) - IntKind.i64.wrap ((k : Int) + 1)).toNat < ((i : Int) - k).toNat
      rw [wrap_i64 (by omega) (by omega)]; omega
  · have : k = i := by omega
    subst this
    exact h t kp o

theorem Rest.low {BO BP : Nat} {rest : List Nat} {t t' : Hp} (hO : BO < s0.size) (h : Rest s0 BO BP rest t) (hs : ∀ b, b < s0.size → t'[b]? = t[b]?) : Rest s0 BO BP rest t' := by
  obtain ⟨xo, c, o, hc, r, f⟩ := h
  refine ⟨xo, c, ⟨by rw [cell_of_block (a := ⟨BO, 0, none⟩) (hs BO hO)]; exact o.1, by rw [frozen_of_block (a := ⟨BO, 0, none⟩) (hs BO hO)]; exact o.2⟩, hc, fun i hi => ?_, f⟩
  obtain ⟨a, ha, g⟩ := r i hi
  exact ⟨a, ha, by rw [cell_of_block (hs _ (by rw [add_blk]; exact (f a ha).1))]; exact g⟩

theorem chs_place {BO BP total : Nat} (hv : valid L = true) (hO : BO < s0.size) (hP : BP < s0.size) (hne : BO ≠ BP) : Chs W L (.func (.func 57) #[] #[.pointer (some ⟨BO, 0, none⟩), .pointer (some ⟨BP, 0, none⟩)]) s0 (fun b => b = BO ∨ b = BP)
    (fun (y : List Nat × Nat) s => Rest s0 BO BP y.1 s ∧ Own s ⟨BP, 0, none⟩ (.int .i64 (y.2 : Nat))) (placeNx L)
    (fun y left b => Law L y.1 left b ∧ y.1.length ≤ 8 ∧ y.2 ≤ 1073741824 * (8 - y.1.length) ∧ y.2 + placeN L y.1 left b = total) where
  low := fun x t t' ho hs hz => ⟨ho.1.low hO hs, ⟨by rw [cell_of_block (a := ⟨BP, 0, none⟩) (hs BP hP)]; exact ho.2.1, by rw [frozen_of_block (a := ⟨BP, 0, none⟩) (hs BP hP)]; exact ho.2.2⟩⟩
  foot := fun b hb => by rcases hb with rfl | rfl <;> assumption
  call := by
    rintro ⟨rest, pl⟩ left b ⟨hlaw, h8, hpl, htot⟩ h0 hlt hb
    dsimp only at hlaw h8 hpl htot
    have hn := (vd_iff.1 hv).hi
    cases rest with
    | nil => exact absurd hlaw h0
    | cons m r =>
    have hcan := law_can L hn hlt hlaw
    have hget := idx_get hcan
    generalize hi : (cans L left b).idxOf m = i at hget
    have hil : i < (cans L left b).length := (List.getElem?_eq_some_iff.1 hget).1
    have hml : (manys L left b).length = (cans L left b).length := by unfold manys; simp
    have hcl : (cans L left b).length ≤ 8 := by rw [← cansK_all]; exact Nat.le_trans (cansK_len _ _ _ _) hn
    have hmb : ∀ q ∈ manys L left b, q ≤ 134217728 := by
      intro q hq
      obtain ⟨w, _, rfl⟩ := List.mem_map.1 hq
      exact cnt_le L anyC hn _ _
    have hsum : ((manys L left b).take i).sum ≤ 8 * 134217728 := by
      refine Nat.le_trans (sum_le (B := 134217728) (fun x hx' => hmb x (List.mem_of_mem_take hx'))) ?_
      rw [List.length_take]
      exact Nat.mul_le_mul_right _ (by omega)
    have hnx : placeNx L (m :: r, pl) left b = (m, (r, pl + ((manys L left b).take i).sum)) := by
      show (m, (r, pl + ((manys L left b).take ((cans L left b).idxOf m)).sum)) = _
      rw [hi]
    rw [hnx]
    dsimp only
    simp only [List.length_cons] at h8 hpl
    refine ⟨i, hget, ⟨hlaw.2.2.2, by omega, by omega, ?_⟩, ?_⟩
    · rw [← htot]
      show _ = pl + (((manys L left b).take ((cans L left b).idxOf m)).sum + placeN L r (left - 2 ^ m) m)
      rw [hi]; omega
    intro K E s x1 c1 x2 c2 kF st r1 r2 fr1 fr2 hc2 hk
    obtain ⟨⟨xo, co, oo, hco, ro, fo⟩, op⟩ := st
    refine CALLV_func ?_
    refine does_lot_Place_c1 W x1 _ c1 x2 _ c2 ⟨BO, 0, none⟩ ⟨BP, 0, none⟩ _ s ?_
    unfold T_lot_Place_c1
    have hvl : (vals (cans L left b)).length = (cans L left b).length := vals_len _
    have hci := c_index (W := W) (x := x1) (c := c1) (f := .func (.func 58) #[] #[.pointer (some ⟨BO, 0, none⟩)]) (xs := vals (cans L left b)) (s := s)
      (I := fun k t => t = s ∧ ∀ j, j < k → (cans L left b)[j]? ≠ some m) (J := fun k t => t = s ∧ k = i)
      (K := fun v9 => TYI .i64 v9 fun n11 => RDL ⟨BO, 0, none⟩ fun x12 l13 c14 => SLS x12 c14 1 (l13 : Int) 1 fun x15 l16 c17 => WR (Addr.add ⟨BO, 0, none⟩ 0) (.slice x15 l16 c17) <| SLS x2 c2 0 n11 1 fun x18 l19 c20 => L_lot_Place_c1_0 W (endK K E) ⟨BP, 0, none⟩ n11 x18 l19 c20 (l19 : Int) 0)
      (E := fun c10 => endK K E (.panicked c10))
      (fun v hv => by obtain ⟨q, _, rfl⟩ := List.mem_map.1 hv; exact ⟨_, rfl⟩) (by rw [hvl]; omega) (fun k t h => by rw [h.1]; exact r1) ?_ ⟨rfl, fun j hj => by omega⟩ ?_ ?_
    · rw [hvl] at hci; exact hci
    · rintro k v hkv K' E' t ⟨rfl, hno⟩ hJ hI'
      have hkl : k < (cans L left b).length := by have := (List.getElem?_eq_some_iff.1 hkv).1; rwa [vals_len] at this
      obtain ⟨q, hq⟩ : ∃ q, (cans L left b)[k]? = some q := ⟨_, List.getElem?_eq_getElem hkl⟩
      have hvq : v = .int .i64 (q : Int) := by
        unfold vals at hkv; rw [List.getElem?_map, hq] at hkv; simpa using hkv.symm
      subst hvq
      refine CALLV_func ?_
      refine does_lot_Place_c1_c1 W q ⟨BO, 0, none⟩ _ t ?_
      unfold T_lot_Place_c1_c1
      have h0v : 0 < (vals (m :: r)).length := by rw [vals_len]; simp
      obtain ⟨a, ha, g⟩ := ro 0 h0v
      refine ⟨_, _, _, oo.cell, a, ha, ⟨by omega, by simp⟩, _, g, ?_⟩
      try simp only [TUP_mk, AGG_mk, HD_mk, NL_mk, TYI_mk, TYB_mk, TYP_mk, TYL_mk, TYS_mk, TYM_mk, SO_mk, NX_mk, endK_mk, endK_mk', add_0]
      by_cases hqm : q = m
      · subst hqm
        have : (((q : Nat) : Int) == ((q : Nat) : Int)) = true := by simp
        rw [this]
        have hki := idx_first _ _ _ hq hno
        exact hJ t ⟨rfl, by omega⟩
      · have : (((q : Nat) : Int) == ((m : Nat) : Int)) = false := by
          simp; omega
        rw [this]
        refine hI' t ⟨rfl, fun j hj => ?_⟩
        by_cases hjk : j = k
        · subst hjk; rw [hq]; simpa using hqm
        · exact hno j (by omega)
    · rintro k t hkl ⟨rfl, rfl⟩
      try simp only [TUP_mk, AGG_mk, HD_mk, NL_mk, TYI_mk, TYB_mk, TYP_mk, TYL_mk, TYS_mk, TYM_mk, SO_mk, NX_mk, endK_mk, endK_mk', add_0]
      refine ⟨_, _, _, oo.cell, ⟨by omega, by simp; omega, by simp at hco ⊢; omega⟩, ?_⟩
      have hwr : oneCell (.slice (if co = (1 : Int).toNat then xo else xo.map (·.add ((1 : Int).toNat * 1))) (((m :: r).length : Int).toNat - (1 : Int).toNat) (co - (1 : Int).toNat)) = true := rfl
      refine WR_own oo hwr ?_
      have kO : Kp (· = BO) t (setC t ⟨BO, 0, none⟩ (.slice (if co = (1 : Int).toNat then xo else xo.map (·.add ((1 : Int).toNat * 1))) (((m :: r).length : Int).toNat - (1 : Int).toNat) (co - (1 : Int).toNat))) := Kp.setC (Kp.refl t) (.inl rfl)
      have oO := own_set (v := .slice (if co = (1 : Int).toNat then xo else xo.map (·.add ((1 : Int).toNat * 1))) (((m :: r).length : Int).toNat - (1 : Int).toNat) (co - (1 : Int).toNat)) oo
      show (SLS x2 c2 0 (k : Int) 1 _ : Hp → Prop) (setC t ⟨BO, 0, none⟩ (.slice (if co = (1 : Int).toNat then xo else xo.map (·.add ((1 : Int).toNat * 1))) (((m :: r).length : Int).toNat - (1 : Int).toNat) (co - (1 : Int).toNat)))
      generalize setC t ⟨BO, 0, none⟩ _ = t1 at kO oO ⊢
      have hk8 : k < (cans L left b).length := by rw [hvl] at hkl; exact hkl
      refine ⟨⟨by omega, by omega, by omega⟩, ?_⟩
      have z0 : (0 : Int).toNat = 0 := rfl
      have zk : ((k : Int)).toNat - (0 : Int).toNat = k := by omega
      have hx2 : (if c2 = (0 : Int).toNat then x2 else x2.map (·.add ((0 : Int).toNat * 1))) = x2 := by
        rw [if_neg (by rw [z0]; omega)]
        cases x2 with
        | none => rfl
        | some a => rfl
      rw [hx2, zk]
      have opt : Own t1 ⟨BP, 0, none⟩ (.int .i64 (pl : Nat)) := kO.own (fun (h : BP = BO) => hne h.symm) op
      have rt : RowAt t1 x2 (vals (manys L left b)) := r2.keep kO (fun a ha hh => by have := fr2 a ha; have : a.block = BO := hh; omega)
      refine place_loop (ms := manys L left b) (pl := pl) (by omega) (by omega) rt hmb (by omega) (fun a ha hh => by have := fr2 a ha; omega) opt ?_
      intro t2 k2 o2
      try simp only [TUP_mk, AGG_mk, HD_mk, NL_mk, TYI_mk, TYB_mk, TYP_mk, TYL_mk, TYS_mk, TYM_mk, SO_mk, NX_mk, endK_mk, endK_mk', add_0]
      have hKp : Kp (fun b => b = BO ∨ b = BP) t t2 := (kO.mono (fun b h => .inl h)).trans (k2.mono (fun b h => .inr h))
      refine hk t2 hKp ⟨?_, o2⟩
      have hco' : r.length + 1 ≤ co := by simpa using hco
      have z1 : (1 : Int).toNat = 1 := rfl
      have zl : (((m :: r).length : Int)).toNat - (1 : Int).toNat = r.length := by simp
      have oO2 := k2.own (fun (h : BO = BP) => hne h) oO
      rw [zl] at oO2
      refine ⟨_, _, oO2, by rw [z1]; omega, ?_, ?_⟩
      · intro j hj
        rw [vals_len] at hj
        have hjv : j + 1 < (vals (m :: r)).length := by rw [vals_len]; simp; omega
        obtain ⟨a, ha, g⟩ := ro (j + 1) hjv
        have hcne : ¬ co = (1 : Int).toNat := by rw [z1]; omega
        refine ⟨a.add 1, ?_, ?_⟩
        · rw [if_neg hcne, ha]; rfl
        · have e1 : (a.add 1).add (j * 1) = a.add ((j + 1) * 1) := by rw [add_add (by omega)]; congr 1; omega
          rw [e1]
          have hb1 : a.block ≠ BO ∧ a.block ≠ BP := (fo a ha).2
          have g' := hKp.cell (by rw [add_blk]; exact fun h => h.elim hb1.1 hb1.2) g
          have : (vals (m :: r))[j + 1] = (vals r)[j]'(by rw [vals_len]; exact hj) := by simp [vals]
          rw [this] at g'
          exact g'
      · intro a ha
        by_cases hc : co = (1 : Int).toNat
        · rw [if_pos hc] at ha; exact fo a ha
        · rw [if_neg hc] at ha
          obtain ⟨a', ha', rfl⟩ := Option.map_eq_some_iff.1 ha
          have := fo a' ha'
          simp only [add_blk]
          exact this
    · rintro t ⟨rfl, hno⟩
      exact absurd hget (hno i (by rw [hvl]; exact hil))
end
end Go.Proofs.Ytocnkdkgajdejaa.G

/- Draws of plots, in plain Lean: a draw that breaks nothing is lawful. -/
set_option linter.unusedSimpArgs false
set_option linter.unusedVariables false
namespace Go.Lot

theorem fst_zero {L : Lts} {q m b : Nat} : fst L q m b = 0 ↔ brk L q m b = 0 := by
  unfold fst brk b2n
  cases r1 L m b <;> cases r2 L q m <;> cases r3 L q m <;> simp
theorem nodup_menOf (n left : Nat) : (menOf n left).Nodup := by unfold menOf; exact List.Nodup.sublist List.filter_sublist List.nodup_range
theorem perm_menOf {n left : Nat} {d : List Nat} (hd : d.Nodup) (hl : ∀ m ∈ d, m < n) (hb : ∀ i, i < n → (left.testBit i = true ↔ i ∈ d)) : (menOf n left).Perm d := by
  rw [List.perm_iff_count]
  intro a
  by_cases h : a ∈ d
  · have h1 : a ∈ menOf n left := menOf_mem.2 ⟨hl a h, (hb a (hl a h)).2 h⟩
    rw [(nodup_menOf n left).count, hd.count, if_pos h, if_pos h1]
  · have h1 : a ∉ menOf n left := fun h2 => by
      obtain ⟨h3, h4⟩ := menOf_mem.1 h2
      exact h ((hb a h3).1 h4)
    rw [(nodup_menOf n left).count, hd.count, if_neg h, if_neg h1]
theorem law_of {L : Lts} (hn : L.n ≤ 8) : ∀ (d : List Nat) (left b i : Nat), left < 2 ^ L.n → d.Nodup → (∀ m ∈ d, m < L.n) → (∀ j, j < L.n → (left.testBit j = true ↔ j ∈ d)) → i + d.length = L.n → wrongG L i b d = none → Law L d left b
  | [], left, b, i, hl, hd, hlt, hb, hi, hw => by
    show left = 0
    apply Nat.eq_of_testBit_eq
    intro j
    rw [Nat.zero_testBit]
    cases h : left.testBit j with
    | false => rfl
    | true => have := (hb j (low_of hl h)).1 h; cases this
  | m :: r, left, b, i, hl, hd, hlt, hb, hi, hw => by
    have h256 : left < 256 := Nat.lt_of_lt_of_le hl (show 2 ^ L.n ≤ 2 ^ 8 from Nat.pow_le_pow_right (by omega) hn)
    have hm := hlt m (by simp)
    have hbm := (hb m hm).2 (by simp)
    have hplot : plotOf L.n left = i := by
      unfold plotOf
      rw [(perm_menOf hd hlt hb).length_eq]
      omega
    unfold wrongG at hw
    split at hw
    · cases hw
    · rename_i hf
      have hf' : fst L i m b = 0 := Decidable.of_not_not hf
      have hd' := List.nodup_cons.1 hd
      refine ⟨hm, hbm, by rw [hplot]; exact fst_zero.1 hf', ?_⟩
      refine law_of hn r _ m (i + 1) (Nat.lt_of_le_of_lt (Nat.sub_le _ _) hl) hd'.2 (fun x hx => hlt x (by simp [hx])) (fun j hj => ?_) (by simp at hi; omega) hw
      rw [clr_bits left h256 m (by omega) hbm j (by omega)]
      have := hb j hj
      by_cases e : j = m
      · subst e
        simp [hd'.1]
      · simp [e] at this ⊢
        exact this
theorem full_bits {n j : Nat} (hj : j < n) : (full n).testBit j = true := by
  unfold full
  rw [Nat.testBit_two_pow_sub_one]
  simpa using hj
/-- A draw that is one, and breaks nothing, is lawful. -/
theorem law_full {L : Lts} (hn : L.n ≤ 8) {d : List Nat} (hd : d.Nodup) (hlt : ∀ m ∈ d, m < L.n) (hlen : d.length = L.n) (hw : wrong L d = none) : Law L d (full L.n) 8 := by
  refine law_of hn d _ 8 0 (by unfold full; have : 0 < 2 ^ L.n := Nat.pos_of_ne_zero (by simp); omega) hd hlt (fun j hj => ⟨fun _ => ?_, fun _ => full_bits hj⟩) (by omega) hw
  refine Decidable.byContradiction fun hj' => ?_
  have hsub : d ⊆ (List.range L.n).erase j := fun x hx => by
    refine (List.nodup_range.mem_erase_iff).2 ⟨fun e => hj' (e ▸ hx), List.mem_range.2 (hlt x hx)⟩
  have h1 := hd.length_le_of_subset hsub
  rw [List.length_erase_of_mem (List.mem_range.2 hj), List.length_range] at h1
  omega
end Go.Lot
namespace Go.Lot
/-- The lesser one, of those that were looked at before and of one more. -/
def better (k : Nat → Nat) (acc : Option (Nat × Nat)) (m : Nat) : Option (Nat × Nat) :=
  match acc with
  | none => some (k m, m)
  | some (n, x) => if k m < n then some (k m, m) else some (n, x)
def best (k : Nat → Nat) (l : List Nat) : Option (Nat × Nat) := l.foldl (better k) none
/-- How many rules must still be broken, and who comes next then. -/
def fewF (L : Lts) : Nat → Nat → Nat → Nat × Nat
  | 0, _, _ => (0, 8)
  | f + 1, left, b => if left = 0 then (0, 8) else (best (fun m => brk L (plotOf L.n left) m b + (fewF L f (left - 2 ^ m) m).1) (menOf L.n left)).getD (0, 8)
def few (L : Lts) (left b : Nat) : Nat × Nat := fewF L 9 left b
theorem fewF_zero (L : Lts) (f b : Nat) : fewF L f 0 b = (0, 8) := by cases f <;> rfl
theorem best_congr {k k' : Nat → Nat} : ∀ (l : List Nat), (∀ m ∈ l, k m = k' m) → best k l = best k' l := by
  intro l h
  unfold best
  have : ∀ (l : List Nat) (acc : Option (Nat × Nat)), (∀ m ∈ l, k m = k' m) → l.foldl (better k) acc = l.foldl (better k') acc := by
    intro l
    induction l with
    | nil => intro acc _; rfl
    | cons a l ih =>
      intro acc h
      rw [List.foldl_cons, List.foldl_cons]
      have e : better k acc a = better k' acc a := by unfold better; rw [h a (by simp)]
      rw [e]
      exact ih _ (fun m hm => h m (by simp [hm]))
  exact this l none h
theorem fewF_stable (L : Lts) (hn : L.n ≤ 8) : ∀ (f left b : Nat), left < 2 ^ L.n → (menOf L.n left).length ≤ f → fewF L f left b = fewF L (f + 1) left b
  | 0, left, b, hl, hf => by
    have : left = 0 := menOf_nil hl (by omega)
    subst this; rw [fewF_zero, fewF_zero]
  | f + 1, left, b, hl, hf => by
    have h256 : left < 256 := Nat.lt_of_lt_of_le hl (show 2 ^ L.n ≤ 2 ^ 8 from Nat.pow_le_pow_right (by omega) hn)
    conv => lhs; unfold fewF
    conv => rhs; unfold fewF
    split
    · rfl
    · congr 1
      apply best_congr
      intro m hm
      obtain ⟨h1, h2⟩ := menOf_mem.1 hm
      have h3 := clr_len hn h256 h1 h2
      rw [fewF_stable L hn f (left - 2 ^ m) m (Nat.lt_of_le_of_lt (Nat.sub_le _ _) hl) (by omega)]
theorem fewF_succ (L : Lts) (f left b : Nat) : fewF L (f + 1) left b = if left = 0 then (0, 8) else (best (fun m => brk L (plotOf L.n left) m b + (fewF L f (left - 2 ^ m) m).1) (menOf L.n left)).getD (0, 8) := rfl
theorem few_def (L : Lts) (left b : Nat) : few L left b = fewF L (8 + 1) left b := rfl
theorem few_eq (L : Lts) (hn : L.n ≤ 8) {left b : Nat} (hl : left < 2 ^ L.n) (h0 : left ≠ 0) :
    few L left b = (best (fun m => brk L (plotOf L.n left) m b + (few L (left - 2 ^ m) m).1) (menOf L.n left)).getD (0, 8) := by
  have h256 : left < 256 := Nat.lt_of_lt_of_le hl (show 2 ^ L.n ≤ 2 ^ 8 from Nat.pow_le_pow_right (by omega) hn)
  rw [few_def, fewF_succ, if_neg h0]
  have key : ∀ m ∈ menOf L.n left, brk L (plotOf L.n left) m b + (fewF L 8 (left - 2 ^ m) m).1 = brk L (plotOf L.n left) m b + (few L (left - 2 ^ m) m).1 := by
    intro m hm
    obtain ⟨h1, h2⟩ := menOf_mem.1 hm
    have h3 := clr_len hn h256 h1 h2
    have h4 := menOf_len_le L.n left
    rw [few_def, fewF_stable L hn 8 (left - 2 ^ m) m (Nat.lt_of_le_of_lt (Nat.sub_le _ _) hl) (by omega)]
  rw [best_congr _ key]
end Go.Lot
namespace Go.Lot
/-- The draw that breaks the fewest rules. -/
def leastD (L : Lts) : Nat → Nat → Nat → List Nat
  | 0, _, _ => []
  | f + 1, left, b => if left = 0 then [] else (few L left b).2 :: leastD L f (left - 2 ^ (few L left b).2) (few L left b).2
theorem few_bit {L : Lts} (hn : L.n ≤ 8) {left b : Nat} (hl : left < 2 ^ L.n) (h0 : left ≠ 0) (hm : (few L left b).2 ∈ menOf L.n left) : (few L left b).2 < L.n ∧ left.testBit (few L left b).2 = true := menOf_mem.1 hm
end Go.Lot
namespace Go.Lot
/-- All draws that begin in some way, and break at most so many rules ('cost'), in order. -/
def goOnF (n : Nat) (cost : List Nat → Nat) (most : Nat) : Nat → List Nat → List (List Nat)
  | 0, d => if cost d > most then [] else if d.length = n then [d] else []
  | f + 1, d => if cost d > most then [] else if d.length = n then [d] else ((List.range n).filter fun i => !d.contains i).flatMap fun i => goOnF n cost most f (d ++ [i])
end Go.Lot
namespace Go.Lot
def fact : Nat → Nat
  | 0 => 1
  | n + 1 => (n + 1) * fact n
theorem fact_pos : ∀ n, 0 < fact n
  | 0 => Nat.one_pos
  | n + 1 => Nat.mul_pos (by omega) (fact_pos n)
theorem rest_len {n : Nat} {d : List Nat} (hd : d.Nodup) (hl : ∀ m ∈ d, m < n) : ((List.range n).filter fun i => !d.contains i).length + d.length = n := by
  have hp : ((List.range n).filter fun i => d.contains i).Perm d := by
    rw [List.perm_iff_count]
    intro a
    have hnd : ((List.range n).filter fun i => d.contains i).Nodup := List.Nodup.sublist List.filter_sublist List.nodup_range
    have hm : a ∈ (List.range n).filter (fun i => d.contains i) ↔ a ∈ d := by
      simp only [List.mem_filter, List.mem_range, List.contains_iff_mem]
      exact ⟨fun h => h.2, fun h => ⟨hl a h, h⟩⟩
    rw [hnd.count, hd.count]
    by_cases h : a ∈ d
    · rw [if_pos h, if_pos (hm.2 h)]
    · rw [if_neg h, if_neg (fun h' => h (hm.1 h'))]
  have h1 : ∀ (l : List Nat), (l.filter fun i => d.contains i).length + (l.filter fun i => !d.contains i).length = l.length := by
    intro l
    induction l with
    | nil => rfl
    | cons a l ih =>
      cases hc : d.contains a <;> simp only [List.filter_cons, hc, Bool.not_false, Bool.not_true, if_true, if_false, Bool.false_eq_true, List.length_cons] <;> omega
  have h2 := h1 (List.range n)
  rw [hp.length_eq, List.length_range] at h2
  omega
theorem goOn_len {n : Nat} {cost : List Nat → Nat} {most : Nat} : ∀ (f : Nat) (d : List Nat), d.Nodup → (∀ m ∈ d, m < n) → d.length + f = n → (goOnF n cost most f d).length ≤ fact f
  | 0, d, hd, hl, hf => by
    unfold goOnF
    split
    · simp
    · split <;> simp [fact]
  | f + 1, d, hd, hl, hf => by
    unfold goOnF
    split
    · simp
    · split
      · have := fact_pos (f + 1); simp; omega
      · have hr := rest_len hd hl
        have key : ∀ (l : List Nat), (∀ i ∈ l, (goOnF n cost most f (d ++ [i])).length ≤ fact f) → (l.flatMap fun i => goOnF n cost most f (d ++ [i])).length ≤ l.length * fact f := by
          intro l
          induction l with
          | nil => intro _; simp
          | cons a l ih =>
            intro h
            have h1 := h a (by simp)
            have h2 := ih (fun i hi => h i (by simp [hi]))
            rw [List.flatMap_cons, List.length_append, List.length_cons, Nat.add_mul]
            omega
        refine Nat.le_trans (key _ (fun i hi => ?_)) ?_
        · obtain ⟨h1, h2⟩ := List.mem_filter.1 hi
          have hnot : i ∉ d := by simpa using h2
          refine goOn_len f _ ?_ ?_ (by simp; omega)
          · rw [List.nodup_append]
            refine ⟨hd, by simp, fun x hx y hy e => ?_⟩
            simp at hy
            subst hy
            subst e
            exact hnot hx
          · intro m hm
            rcases List.mem_append.1 hm with hm | hm
            · exact hl m hm
            · simp at hm; subst hm; exact List.mem_range.1 h1
        · show _ ≤ (f + 1) * fact f
          exact Nat.mul_le_mul_right _ (by omega)
end Go.Lot

/- Contracts of what is exported: the place of a draw. -/
set_option linter.unusedSimpArgs false
set_option linter.unusedVariables false
set_option maxRecDepth 20000
namespace Go.Proofs.Ytocnkdkgajdejaa.G
open Go.V Go.Lot

section
variable {W : World} {K : VK} {E : List PanicEntry → Hp → Prop} {s s0 : Hp} {L : Lts} {p : Addr}

/-- A panic's error is told; another result lies in a variable too. -/
theorem out_pan2 {t : Hp} {B P : Nat} {e n : Int} {y : Value} {KK : Int → Int → Hp → Prop} (ext : Ext s t) (hB : s.size ≤ B) (hne : P ≠ B) (ho : Own t ⟨B, 0, none⟩ y) (hp : Own t ⟨P, 0, none⟩ (.int .i64 n)) (h : ∀ s', Ext s s' → KK n e s') :
    DEF Pg W (.tuple #[.func (.func 42) #[] #[], .tuple #[.pointer (some ⟨B, 0, none⟩)]]) (some (pn e)) (RDI .i64 ⟨P, 0, none⟩ fun n => RDI .i64 ⟨B, 0, none⟩ fun e => KK n e) t :=
  def_some ho fun s' k o => ⟨n, (k.own (fun (h : P = B) => hne h) hp).cell, e, o.cell, h s' (ext_kp ext k hB)⟩

def placeP (L : Lts) (ds : List Int) : Int × Int :=
  if valid L then (if okDraw L ds then (match wrong L (ds.map Int.toNat) with | some _ => (0, 4) | none => (((placeN L (ds.map Int.toNat) (full L.n) 8 : Nat) : Int), 0)) else (0, 2)) else (0, 1)
theorem c_Place {x y : Option Addr} {c c' : Nat} {ds : List Int} (hm : MenAt s x L.men) (hy : RowAt s y (ints ds)) (hlen : ds.length ≤ 100000)
    (h : ∀ s', Ext s s' → K (.tuple #[.int .i64 (placeP L ds).1, .int .i64 (placeP L ds).2]) s') :
    CALL Pg W F_lot_Place [.agg #[.slice x L.n c, .int .i64 L.worst], .slice y ds.length c'] K E s := by
  refine does_lot_Place W x L.n c L.worst y ds.length c' _ s ?_
  unfold T_lot_Place
  refine NEW_rule fun s1 e1 z1 n1 _ => ?_
  refine NEWZ_rule zc_3 fun s2 e2 z2 n2 => ?_
  refine NEWZ_rule zc_28 fun s3 e3 z3 n3 => ?_
  have op := e3.own (n2 0 _ rfl)
  have oe := n3 0 _ rfl
  have e03 := (e1.trans e2).trans e3
  refine ⟨_, _, _, e3.cell (e2.cell (n1 0 _ rfl).cell), _, e3.cell (e2.cell (n1 1 _ rfl).cell), ?_⟩
  refine c_open hm e03 (fun hv s4 p e4 hst => ?_) (fun hv s4 e4 => ?_)
  · try simp only [TUP_mk, AGG_mk, HD_mk, NL_mk, TYI_mk, TYB_mk, TYP_mk, TYL_mk, TYS_mk, TYM_mk, SO_mk, NX_mk, endK_mk, endK_mk', add_0]
    have hl := hst.lots
    have hn8 := (vd_iff.1 hv).hi
    refine c_drawl hl (hy.ext (e03.trans e4)) hlen (fun hok s5 x5 e5 b5 f5 => ?_) (fun hok s5 e5 => ?_)
    · try simp only [TUP_mk, AGG_mk, HD_mk, NL_mk, TYI_mk, TYB_mk, TYP_mk, TYL_mk, TYS_mk, TYM_mk, SO_mk, NX_mk, endK_mk, endK_mk', add_0]
      have hd : ∀ m ∈ ds.map Int.toNat, m < L.n := by
        intro m hmm
        obtain ⟨n, hn, rfl⟩ := List.mem_map.1 hmm
        have := hok.2.1 n hn
        omega
      have hvi := vals_ints ds (fun x hx => (hok.2.1 x hx).1)
      have hrow5 : RowAt s5 (some x5) (vals (ds.map Int.toNat)) := by rw [hvi]; exact b5.row
      have hll : (ds.map Int.toNat).length = ds.length := by simp
      have e35 := e4.trans e5
      refine NEWZ_rule zc_25 fun s6 e6 z6 n6 => ?_
      refine WR_own (n6 0 _ rfl) rfl ?_
      have o7 : Own (setC s6 ⟨s5.size, 0, none⟩ (.slice (some x5) ds.length ds.length)) ⟨s5.size, 0, none⟩ (.slice (some x5) ds.length ds.length) := own_set (n6 0 _ rfl)
      have e7 : Ext s5 (setC s6 ⟨s5.size, 0, none⟩ (.slice (some x5) ds.length ds.length)) := Ext.setC e6 (Nat.le_refl _)
      have z7 : (setC s6 ⟨s5.size, 0, none⟩ (.slice (some x5) ds.length ds.length)).size = s5.size + 1 := by rw [setC_size, z6]
      show (RDL ⟨s5.size, 0, none⟩ _ : Hp → Prop) (setC s6 ⟨s5.size, 0, none⟩ (.slice (some x5) ds.length ds.length))
      generalize setC s6 ⟨s5.size, 0, none⟩ (.slice (some x5) ds.length ds.length) = s7 at o7 e7 z7 ⊢
      have e37 := e35.trans e7
      refine ⟨_, _, _, o7.cell, ?_⟩
      have hrow7 := hrow5.ext e7
      have hx5 : x5.block < s5.size ∧ s4.size ≤ x5.block := by
        refine ⟨?_, f5⟩
        obtain ⟨a, ha, g⟩ := hrow5 0 (by rw [vals_len, hll]; have := hok.1; have := (vd_iff.1 hv).lo; omega)
        cases ha
        have := cell_lt g
        rwa [add_blk] at this
      generalize hdd : ds.map Int.toNat = d at *
      rw [← hll]
      refine c_wrong (hl.ext (e5.trans e7)) hd (by rw [hll]; have := hok.1; omega) hrow7 (fun s8 i r e8 hw => ?_) (fun s8 e8 hw => ?_)
      · try simp only [TUP_mk, AGG_mk, HD_mk, NL_mk, TYI_mk, TYB_mk, TYP_mk, TYL_mk, TYS_mk, TYM_mk, SO_mk, NX_mk, endK_mk, endK_mk', add_0]
        refine c_must' (fun hf => by cases hf) (fun _ => ?_)
        refine out_pan2 (e03.trans (e37.trans e8)) (by omega) (by omega) ((e37.trans e8).own oe) ((e37.trans e8).own op) fun s' e' => ?_
        have hc : placeP L ds = (0, 4) := by unfold placeP; rw [hv, if_pos rfl, if_pos hok, hdd, hw]
        rw [hc] at h
        exact h s' e'
      · try simp only [TUP_mk, AGG_mk, HD_mk, NL_mk, TYI_mk, TYB_mk, TYP_mk, TYL_mk, TYS_mk, TYM_mk, SO_mk, NX_mk, endK_mk, endK_mk', add_0]
        refine c_must' (fun _ => ?_) (fun hf => by cases hf)
        try simp only [TUP_mk, AGG_mk, HD_mk, NL_mk, TYI_mk, TYB_mk, TYP_mk, TYL_mk, TYS_mk, TYM_mk, SO_mk, NX_mk, endK_mk, endK_mk', add_0]
        have e38 := e37.trans e8
        have hz3 := e38.1
        have hz4 := e4.1
        have hz8 := e8.1
        have hlaw : Law L d (full L.n) 8 := by
          refine law_full hn8 ?_ hd (by rw [hll]; exact hok.1) hw
          rw [← hdd]
          have hnd := hok.2.2
          have hnn := hok.2.1
          clear hdd
          have key : ∀ l : List Int, l.Nodup → (∀ x ∈ l, 0 ≤ x) → (l.map Int.toNat).Nodup := by
            intro l
            induction l with
            | nil => intro _ _; simp
            | cons a l ih =>
              intro h1 h2
              have h1' := List.nodup_cons.1 h1
              rw [List.map_cons, List.nodup_cons]
              refine ⟨fun hm => ?_, ih h1'.2 (fun x hx => h2 x (by simp [hx]))⟩
              obtain ⟨b, hb, he⟩ := List.mem_map.1 hm
              have hb0 := h2 b (by simp [hb])
              have ha0 := h2 a (by simp)
              have : b = a := by omega
              subst this
              exact h1'.1 hb
          exact key ds hnd (fun x hx => (hnn x hx).1)
        have hL : ∀ t, Kp (fun b => b = s5.size ∨ b = s1.size) s8 t → LotsO t p L := by
          intro t k
          have k4 : Kp (fun b => b = s5.size ∨ b = s1.size) s4 t := ((e5.trans e7).trans e8).kp.trans k
          have k4' : Kp (fun b => b = s1.size) s4 t := ⟨k4.1, fun q hq hc => k4.2 q hq (fun hh => hh.elim (fun h => by have := e5.1; omega) hc)⟩
          exact hst _ t k4' (fun b hb => by omega)
        have hd8 : d.length ≤ 8 := by rw [hll]; have := hok.1; omega
        refine c_choose (chs_place (BO := s5.size) (BP := s1.size) (total := placeN L d (full L.n) 8) (s0 := s8) hv (by omega) (by omega) (by have := e5.1; omega)) hL (y0 := (d, 0))
          ⟨⟨some x5, d.length, by have := e8.own o7; rw [← hll] at this; exact this, Nat.le_refl _, hrow7.ext e8, fun a ha => by cases ha; exact ⟨by omega, by omega, by omega⟩⟩, e38.own op⟩
          ⟨hlaw, hd8, by omega, by simp⟩ ?_
        intro t x9 c9 y9 k9 b9 f9 st9 hfin
        try simp only [TUP_mk, AGG_mk, HD_mk, NL_mk, TYI_mk, TYB_mk, TYP_mk, TYL_mk, TYS_mk, TYM_mk, SO_mk, NX_mk, endK_mk, endK_mk', add_0]
        obtain ⟨bb, hlaw9, _, _, htot⟩ := hfin
        have hy9 : y9.2 = placeN L d (full L.n) 8 := by
          obtain ⟨rest, pl⟩ := y9
          cases rest with
          | nil => simpa [placeN] using htot
          | cons m r => have := hlaw9.2.1; simp at this
        have op9 := st9.2
        rw [hy9] at op9
        have oe9 : Own t ⟨s2.size, 0, none⟩ (.int .i64 0) := k9.own (by show ¬ (s2.size = s5.size ∨ s2.size = s1.size); have := e5.1; omega) (e38.own oe)
        refine ⟨_, op9.cell, ?_⟩
        refine WR_own op9 rfl ?_
        refine WR_own (own_set_ne (.inl (by show s2.size ≠ s1.size; omega)) oe9) rfl (def_none ?_)
        have k10 : Kp (fun b => b = s5.size ∨ b = s1.size ∨ b = s2.size) s8 (setC (setC t ⟨s1.size, 0, none⟩ (.int .i64 ((placeN L d (full L.n) 8 : Nat) : Int))) ⟨s2.size, 0, none⟩ (.int .i64 0)) :=
          Kp.setC (Kp.setC (k9.mono (fun b h => h.elim .inl (fun h => .inr (.inl h)))) (.inl (.inr (.inl rfl)))) (.inl (.inr (.inr rfl)))
        refine ⟨_, own_cell (own_set_ne (.inl (by show s1.size ≠ s2.size; omega)) (own_set op9)), _, own_cell (own_set (own_set_ne (.inl (by show s2.size ≠ s1.size; omega)) oe9)), ?_⟩
        have hc : placeP L ds = (((placeN L d (full L.n) 8 : Nat) : Int), 0) := by unfold placeP; rw [hv, if_pos rfl, if_pos hok, hdd, hw]
        rw [hc] at h
        refine h _ ⟨Nat.le_trans (e03.trans e38).1 k10.1, fun q hq => ?_⟩
        rw [k10.2 q (by have := (e03.trans e38).1; omega) (fun hh => by have := e5.1; omega)]
        exact (e03.trans e38).2 q hq
    · try simp only [TUP_mk, AGG_mk, HD_mk, NL_mk, TYI_mk, TYB_mk, TYP_mk, TYL_mk, TYS_mk, TYM_mk, SO_mk, NX_mk, endK_mk, endK_mk', add_0]
      refine out_pan2 (e03.trans (e4.trans e5)) (by omega) (by omega) ((e4.trans e5).own oe) ((e4.trans e5).own op) fun s' e' => ?_
      have hc : placeP L ds = (0, 2) := by unfold placeP; rw [hv, if_pos rfl, if_neg hok]
      rw [hc] at h
      exact h s' e'
  · try simp only [TUP_mk, AGG_mk, HD_mk, NL_mk, TYI_mk, TYB_mk, TYP_mk, TYL_mk, TYS_mk, TYM_mk, SO_mk, NX_mk, endK_mk, endK_mk', add_0]
    refine out_pan2 (e03.trans e4) (by omega) (by omega) (e4.own oe) (e4.own op) fun s' e' => ?_
    have hc : placeP L ds = (0, 1) := by unfold placeP; rw [hv]; rfl
    rw [hc] at h
    exact h s' e'
end
end Go.Proofs.Ytocnkdkgajdejaa.G

/- Contracts: how few rules must be broken, with what is known. -/
set_option linter.unusedSimpArgs false
set_option linter.unusedVariables false
set_option maxRecDepth 20000
namespace Go.Proofs.Ytocnkdkgajdejaa.G
open Go.V Go.Lot

theorem zc_63 : zc Pg 63 = [.pointer none] := by kernel_rfl
theorem zc_96 : zc Pg 96 = [.nilFunc] := by kernel_rfl

/-- Where the closure keeps its things. -/
structure Cf where
  ka : Addr
  la : Addr
  oa : Addr
def Cf.val (c : Cf) : Value := .func (.func 71) #[] #[.pointer (some c.ka), .pointer (some c.la), .pointer (some c.oa)]
structure OnF (s0 : Hp) (p : Addr) (c : Cf) (v : Nat → Nat → Nat) (s : Hp) : Prop where
  base : Ext s0 s
  l : cellAt s c.la = some (.pointer (some p))
  o : cellAt s c.oa = some c.val
  memo : Memo s c.ka v
structure ApF (s0 : Hp) (c : Cf) : Prop where
  k : s0.size ≤ c.ka.block
  l : c.la.block ≠ c.ka.block
  o : c.oa.block ≠ c.ka.block
theorem OnF.ext {s s' s0 : Hp} {p : Addr} {c : Cf} {v : Nat → Nat → Nat} (e : Ext s s') (h : OnF s0 p c v s) : OnF s0 p c v s' := ⟨h.base.trans e, e.cell h.l, e.cell h.o, h.memo.ext e⟩
theorem OnF.set {s s0 : Hp} {p : Addr} {c : Cf} {v : Nat → Nat → Nat} {a : Addr} {x : Value} (h : OnF s0 p c v s) (h0 : s0.size ≤ a.block) (h1 : a.block ≠ c.ka.block) (h2 : a.block ≠ c.la.block) (h4 : a.block ≠ c.oa.block) : OnF s0 p c v (setC s a x) := by
  have k : Kp (· = a.block) s (setC s a x) := Kp.setC (Kp.refl s) (.inl rfl)
  exact ⟨Ext.setC h.base h0, k.cell (fun e => h2 e.symm) h.l, k.cell (fun e => h4 e.symm) h.o, h.memo.keep k (fun e => h1 e.symm)⟩

def fv (L : Lts) (l b : Nat) : Nat := (few L l b).1 * 9 + (few L l b).2
/-- What the first so many come to. -/
def partB (L : Lts) (left b k : Nat) : Option (Nat × Nat) := best (fun m => brk L (plotOf L.n left) m b + (few L (left - 2 ^ m) m).1) ((menOf L.n left).take k)
theorem partB_succ {L : Lts} {left b k m : Nat} (h : (menOf L.n left)[k]? = some m) : partB L left b (k + 1) = better (fun m => brk L (plotOf L.n left) m b + (few L (left - 2 ^ m) m).1) (partB L left b k) m := by
  unfold partB best
  rw [List.take_add_one, h, List.foldl_append]
  rfl
theorem best_mem {k : Nat → Nat} : ∀ (l : List Nat) (acc : Option (Nat × Nat)), (∀ x, acc = some x → x.1 = k x.2) → ∀ n x, l.foldl (better k) acc = some (n, x) → n = k x ∧ (x ∈ l ∨ acc = some (n, x))
  | [], acc, h, n, x, e => ⟨h _ e, .inr e⟩
  | a :: l, acc, h, n, x, e => by
    rw [List.foldl_cons] at e
    obtain ⟨h1, h2⟩ := best_mem l (better k acc a) (fun y hy => by
      unfold better at hy
      cases acc with
      | none => simp at hy; subst hy; rfl
      | some z =>
        simp only at hy
        split at hy
        · cases hy; rfl
        · cases hy; exact h _ rfl) n x e
    refine ⟨h1, ?_⟩
    rcases h2 with h2 | h2
    · exact .inl (by simp [h2])
    · unfold better at h2
      cases acc with
      | none => simp at h2; exact .inl (by simp [h2.2])
      | some z =>
        simp only at h2
        split at h2
        · simp at h2; exact .inl (by simp [h2.2])
        · exact .inr h2
theorem better_some {k : Nat → Nat} : ∀ (l : List Nat) (acc : Option (Nat × Nat)), (acc ≠ none ∨ l ≠ []) → l.foldl (better k) acc ≠ none
  | [], acc, h => by simpa using h
  | a :: l, acc, h => by
    rw [List.foldl_cons]
    refine better_some l _ (.inl ?_)
    unfold better
    cases acc with
    | none => simp
    | some z => simp only; split <;> simp
theorem few_some {L : Lts} (hn : L.n ≤ 8) {left b : Nat} (hl : left < 2 ^ L.n) (h0 : left ≠ 0) : ∃ n x, partB L left b (menOf L.n left).length = some (n, x) ∧ few L left b = (n, x) ∧ x < L.n := by
  have hne : menOf L.n left ≠ [] := fun e => by have := menOf_pos hl h0; rw [e] at this; cases this
  have h1 : best (fun m => brk L (plotOf L.n left) m b + (few L (left - 2 ^ m) m).1) (menOf L.n left) ≠ none := better_some _ none (.inr hne)
  unfold partB
  rw [List.take_length, few_eq L hn hl h0]
  cases hb : best (fun m => brk L (plotOf L.n left) m b + (few L (left - 2 ^ m) m).1) (menOf L.n left) with
  | none => exact absurd hb h1
  | some y =>
    obtain ⟨n, x⟩ := y
    refine ⟨n, x, rfl, rfl, ?_⟩
    have := (best_mem _ none (fun _ h => by cases h) n x hb).2
    rcases this with h | h
    · exact (menOf_mem.1 h).1
    · cases h
theorem brk_le (L : Lts) (q m b : Nat) : brk L q m b ≤ 3 := by unfold brk b2n; split <;> split <;> split <;> omega
theorem fewF_le (L : Lts) : ∀ (f left b : Nat), (fewF L f left b).1 ≤ 3 * f
  | 0, left, b => by simp [fewF]
  | f + 1, left, b => by
    rw [fewF_succ]
    split
    · simp
    · cases hb : best (fun m => brk L (plotOf L.n left) m b + (fewF L f (left - 2 ^ m) m).1) (menOf L.n left) with
      | none => simp
      | some y =>
        obtain ⟨n, x⟩ := y
        have := (best_mem _ none (fun _ h => by cases h) n x hb).1
        have h1 := brk_le L (plotOf L.n left) x b
        have h2 := fewF_le L f (left - 2 ^ x) x
        show n ≤ 3 * (f + 1)
        omega
theorem few_le (L : Lts) (left b : Nat) : (few L left b).1 ≤ 27 := fewF_le L 9 left b
end Go.Proofs.Ytocnkdkgajdejaa.G

/- Contracts: how few rules must be broken, with what is known. -/
set_option linter.unusedSimpArgs false
set_option linter.unusedVariables false
set_option maxRecDepth 20000
namespace Go.Proofs.Ytocnkdkgajdejaa.G
open Go.V Go.Lot

def encN : Option (Nat × Nat) → Int
  | none => -1
  | some y => y.1
def encX : Option (Nat × Nat) → Int
  | none => 8
  | some y => y.2
section
variable {W : World} {s0 : Hp} {p : Addr} {c : Cf} {L : Lts}

theorem c_few (hl0 : LotsO s0 p L) (ap : ApF s0 c) : ∀ (left b : Nat), left < 2 ^ L.n → (b = 8 ∨ b < L.n) → ∀ (K : VK) (E : List PanicEntry → Hp → Prop) (s : Hp), OnF s0 p c (fv L) s →
    (∀ s', Kp (· = c.ka.block) s s' → OnF s0 p c (fv L) s' → K (.tuple #[.int .i64 ((few L left b).1 : Nat), .int .i64 ((few L left b).2 : Nat)]) s') →
    CALL Pg W 71 [.int .u64 left, .int .i64 b, .pointer (some c.ka), .pointer (some c.la), .pointer (some c.oa)] K E s := by
  have hv := vd_iff.1 hl0.ok
  have hn := hv.hi
  have hpow : 2 ^ L.n ≤ 256 := Nat.pow_le_pow_right (n := 2) (by omega) hn
  intro left
  induction left using Nat.strongRecOn with
  | _ left ih =>
  intro b hlt hb K E s hr h
  have h256 : left < 256 := by omega
  have hb9 : b < 9 := by omega
  refine does_lot_Least_c1 W left b c.ka c.la c.oa _ s ?_
  unfold T_lot_Least_c1
  refine NEW_rule fun s1 e1 z1 n1 _ => ?_
  refine NEW_rule fun s2 e2 z2 n2 _ => ?_
  refine NEWZ_rule zc_3 fun s3 e3 z3 n3 => ?_
  refine NEWZ_rule zc_3 fun s4 e4 z4 n4 => ?_
  have e14 := (e2.trans e3).trans e4
  have e04 := e1.trans e14
  have c1 := e14.cell (n1 0 _ rfl).cell
  have c2 := (e3.trans e4).cell (n2 0 _ rfl).cell
  have o8 := e4.own (n3 0 _ rfl)
  have o9 := n4 0 _ rfl
  have r4 := hr.ext e04
  have hsz := hr.base.1
  have hkal : c.ka.block < s.size := by
    obtain ⟨x0, _, hx0⟩ := hr.memo 0 0 (by omega) (by omega)
    have := hx0.lt
    rwa [add_block, add_block] at this
  have hlal := cell_lt hr.l
  have hoal := cell_lt hr.o
  -- both results are written
  have two : ∀ (t : Hp) (a b : Int) (x y : Value) (KK : Hp → Prop), Own t ⟨s2.size, 0, none⟩ x → Own t ⟨s3.size, 0, none⟩ y → (∀ t', Kp (fun q => q = s2.size ∨ q = s3.size) t t' → Own t' ⟨s2.size, 0, none⟩ (.int .i64 a) → Own t' ⟨s3.size, 0, none⟩ (.int .i64 b) → KK t') →
      WR (Addr.add ⟨s2.size, 0, none⟩ 0) (.int .i64 a) (WR (Addr.add ⟨s3.size, 0, none⟩ 0) (.int .i64 b) KK) t := by
    intro t a b x y KK h1 h2 h3
    refine WR_own h1 rfl ?_
    refine WR_own (own_set_ne (.inl (by show s3.size ≠ s2.size; omega)) h2) rfl ?_
    exact h3 _ (Kp.setC (Kp.setC (Kp.refl t) (.inl (.inl rfl))) (.inl (.inr rfl))) (own_set_ne (.inl (by show s2.size ≠ s3.size; omega)) (own_set h1)) (own_set (own_set_ne (.inl (by show s3.size ≠ s2.size; omega)) h2))
  have keepF : ∀ (t t' : Hp), s4.size ≤ t.size → OnF s0 p c (fv L) t → Kp (fun q => q = s2.size ∨ q = s3.size) t t' → OnF s0 p c (fv L) t' := by
    intro t t' _ ho k
    refine ⟨⟨Nat.le_trans ho.base.1 k.1, fun q hq => (k.2 q (Nat.lt_of_lt_of_le hq ho.base.1) (fun hh => by omega)).trans (ho.base.2 q hq)⟩, k.cell (fun hh => by rcases hh with hh | hh <;> omega) ho.l, k.cell (fun hh => by rcases hh with hh | hh <;> omega) ho.o, ho.memo.keep k (fun hh => by rcases hh with hh | hh <;> omega)⟩
  refine ⟨_, c1, ?_⟩
  refine BR_eq (fun h1 => ?_) (fun h1 => ?_)
  · have h0 : left = 0 := by omega
    subst h0
    refine two s4 0 8 _ _ _ o8 o9 fun t k p8 p9 => ?_
    refine ⟨_, p8.cell, _, p9.cell, ?_⟩
    have hf : few L 0 b = (0, 8) := fewF_zero L 9 b
    rw [hf] at h
    refine h t ⟨Nat.le_trans e04.1 k.1, fun q hq _ => ?_⟩ (keepF s4 t (Nat.le_refl _) r4 k)
    rw [k.2 q (by omega) (fun hh => by omega)]
    exact e04.2 q hq
  have h0 : left ≠ 0 := by omega
  refine ⟨_, c1, _, c2, ⟨by omega, by omega⟩, ⟨by omega, by omega⟩, ?_⟩
  have t1 : ((left : Int)).toNat = left := by omega
  have t2 : ((b : Int)).toNat = b := by omega
  rw [t1, t2]
  obtain ⟨nn, xx, hpb, hfew, hxx⟩ := few_some (b := b) hn hlt h0
  have hfle := few_le L left b
  rw [hfew] at hfle
  obtain ⟨x, hx, hxo⟩ := r4.memo left b h256 hb9
  refine ⟨_, hxo.cell, ?_⟩
  refine BR_dec (fun h2 => ?_) (fun h2 => ?_)
  · have hx' : x = nn * 9 + xx + 1 := by
      have := hx.resolve_left (by omega)
      unfold fv at this
      rw [hfew] at this
      exact this
    have hq : IntKind.wrap .i64 (Int.tdiv (x : Int) 9) = (nn : Int) := by
      rw [Int.tdiv_eq_ediv_of_nonneg (by omega), wrap_i64 (by omega) (by omega)]; omega
    have hm : IntKind.wrap .i64 ((Int.tmod (x : Int) 9) - 1) = (xx : Int) := by
      rw [Int.tmod_eq_emod_of_nonneg (by omega), wrap_i64 (by omega) (by omega)]; omega
    rw [hq, hm]
    refine two s4 nn xx _ _ _ o8 o9 fun t k p8 p9 => ?_
    refine ⟨_, p8.cell, _, p9.cell, ?_⟩
    rw [hfew] at h
    refine h t ⟨Nat.le_trans e04.1 k.1, fun q hq _ => ?_⟩ (keepF s4 t (Nat.le_refl _) r4 k)
    rw [k.2 q (by omega) (fun hh => by omega)]
    exact e04.2 q hq
  refine two s4 (-1) 8 _ _ _ o8 o9 fun s5 k5 p8 p9 => ?_
  have r5 := keepF s4 s5 (Nat.le_refl _) r4 k5
  have hz5 := k5.1
  have g1 : cellAt s5 ⟨s.size, 0, none⟩ = some (.int .u64 left) := k5.cell (by show ¬ (s.size = _ ∨ s.size = _); omega) c1
  have g2 : cellAt s5 ⟨s1.size, 0, none⟩ = some (.int .i64 b) := k5.cell (by show ¬ (s1.size = _ ∨ s1.size = _); omega) c2
  refine ⟨_, r5.l, _, g1, ?_⟩
  refine c_plot (hl0.ext r5.base) (by omega) fun s6 e6 => ?_
  try simp only [TUP_mk, AGG_mk, HD_mk, NL_mk, TYI_mk, TYB_mk, TYP_mk, TYL_mk, TYS_mk, TYM_mk, SO_mk, NX_mk, endK_mk, endK_mk', add_0]
  refine NEWZ_rule zc_3 fun s7 e7 z7 n7 => ?_
  refine WR_own (n7 0 _ rfl) rfl ?_
  have o25 : Own (setC s7 ⟨s6.size, 0, none⟩ (.int .i64 (plotOf L.n left))) ⟨s6.size, 0, none⟩ (.int .i64 (plotOf L.n left)) := own_set (n7 0 _ rfl)
  have e8 : Ext s6 (setC s7 ⟨s6.size, 0, none⟩ (.int .i64 (plotOf L.n left))) := Ext.setC e7 (Nat.le_refl _)
  have z8 : (setC s7 ⟨s6.size, 0, none⟩ (.int .i64 (plotOf L.n left))).size = s6.size + 1 := by rw [setC_size, z7]
  generalize setC s7 ⟨s6.size, 0, none⟩ (.int .i64 (plotOf L.n left)) = s8 at o25 e8 z8 ⊢
  have e58 := e6.trans e8
  have hz6 := e6.1
  refine ⟨_, (r5.ext e58).l, _, e58.cell g1, ?_⟩
  refine c_men fun s9 ia ib e9 ga gb ha hb' => ?_
  have e59 := e58.trans e9
  have hz9 := e9.1
  refine ⟨menV L.n left, MenR p L ia ib left, fun k t => Kp (fun q => q = c.ka.block ∨ q = s2.size ∨ q = s3.size) s9 t ∧ OnF s0 p c (fv L) t ∧ Own t ⟨s2.size, 0, none⟩ (.int .i64 (encN (partB L left b k))) ∧ Own t ⟨s3.size, 0, none⟩ (.int .i64 (encX (partB L left b k))), fun _ _ => False, it_men (by omega), MenR.blind, ?_, ?_, ?_, ?_, ?_, fun c s h => h.elim⟩
  · intro k t h'
    refine ⟨hl0.ext h'.2.1.base, h'.1.cell ?_ ha, h'.1.cell ?_ hb'⟩
    · show ¬ (ia.block = _ ∨ ia.block = _ ∨ ia.block = _); omega
    · show ¬ (ib.block = _ ∨ ib.block = _ ∨ ib.block = _); omega
  · exact fun k t t' h' e => ⟨h'.1.ext e, h'.2.1.ext e, e.own h'.2.2.1, e.own h'.2.2.2⟩
  · have e10 : Ext s9 ((s9.push junk).push junk) := Ext.push (Ext.push (Ext.refl _))
    exact ⟨e10.kp, r5.ext (e59.trans e10), e10.own (e59.own p8), e10.own (e59.own p9)⟩
  · intro k xv hxv
    unfold menV at hxv
    rw [List.getElem?_map] at hxv
    obtain ⟨m, hm, rfl⟩ := Option.map_eq_some_iff.1 hxv
    refine ⟨rfl, fun t h' => ?_⟩
    obtain ⟨hmn, hmb⟩ := menOf_mem.1 (List.mem_of_getElem? hm)
    obtain ⟨kp, r', q8, q9⟩ := h'
    have hsucc := partB_succ (L := L) (b := b) hm
    have d1 : cellAt t ⟨s.size, 0, none⟩ = some (.int .u64 left) := kp.cell (by show ¬ (s.size = _ ∨ s.size = _ ∨ s.size = _); omega) (e59.cell g1)
    have d2 : cellAt t ⟨s1.size, 0, none⟩ = some (.int .i64 b) := kp.cell (by show ¬ (s1.size = _ ∨ s1.size = _ ∨ s1.size = _); omega) (e59.cell g2)
    have d25 : cellAt t ⟨s6.size, 0, none⟩ = some (.int .i64 (plotOf L.n left)) := kp.cell (by show ¬ (s6.size = _ ∨ s6.size = _ ∨ s6.size = _); omega) (e9.cell o25.cell)
    try simp only [TUP_mk, AGG_mk, HD_mk, NL_mk, TYI_mk, TYB_mk, TYP_mk, TYL_mk, TYS_mk, TYM_mk, SO_mk, NX_mk, endK_mk, endK_mk', add_0]
    refine ⟨_, r'.l, _, d25, _, d2, ?_⟩
    refine c_broken (hl0.ext r'.base) hmn hb fun t1 f1 => ?_
    try simp only [TUP_mk, AGG_mk, HD_mk, NL_mk, TYI_mk, TYB_mk, TYP_mk, TYL_mk, TYS_mk, TYM_mk, SO_mk, NX_mk, endK_mk, endK_mk', add_0]
    refine ⟨_, (r'.ext f1).o, _, f1.cell d1, NNI_nat ?_⟩
    rw [andn_eq left h256 m (by omega) hmb]
    have hp2 := Nat.pos_of_ne_zero (show 2 ^ m ≠ 0 by simp)
    refine CALLV_func ?_
    refine ih (left - 2 ^ m) (by omega) m (Nat.lt_of_le_of_lt (Nat.sub_le _ _) hlt) (.inr hmn) _ _ t1 (r'.ext f1) fun t2 q2 rt2 => ?_
    try simp only [TUP_mk, AGG_mk, HD_mk, NL_mk, TYI_mk, TYB_mk, TYP_mk, TYL_mk, TYS_mk, TYM_mk, SO_mk, NX_mk, endK_mk, endK_mk', add_0]
    have u8 : Own t2 ⟨s2.size, 0, none⟩ (.int .i64 (encN (partB L left b k))) := q2.own (by show ¬ s2.size = _; omega) (f1.own q8)
    have u9 : Own t2 ⟨s3.size, 0, none⟩ (.int .i64 (encX (partB L left b k))) := q2.own (by show ¬ s3.size = _; omega) (f1.own q9)
    have kp2 : Kp (fun q => q = c.ka.block ∨ q = s2.size ∨ q = s3.size) s9 t2 := (kp.ext f1).trans (q2.mono (fun q h => .inl h))
    have hk1 := brk_le L (plotOf L.n left) m b
    have hk2 := few_le L (left - 2 ^ m) m
    have hw : IntKind.wrap .i64 ((brk L (plotOf L.n left) m b : Int) + ((few L (left - 2 ^ m) m).1 : Int)) = ((brk L (plotOf L.n left) m b + (few L (left - 2 ^ m) m).1 : Nat) : Int) := by rw [wrap_i64 (by omega) (by omega)]; omega
    rw [hw]
    have hzz : s4.size ≤ t2.size := by have := kp2.1; omega
    have upd : partB L left b (k + 1) = some (brk L (plotOf L.n left) m b + (few L (left - 2 ^ m) m).1, m) → ∀ KK : Hp → Prop, (∀ t3, Kp (fun q => q = c.ka.block ∨ q = s2.size ∨ q = s3.size) s9 t3 ∧ OnF s0 p c (fv L) t3 ∧ Own t3 ⟨s2.size, 0, none⟩ (.int .i64 (encN (partB L left b (k + 1)))) ∧ Own t3 ⟨s3.size, 0, none⟩ (.int .i64 (encX (partB L left b (k + 1)))) → KK t3) →
        WR (Addr.add ⟨s2.size, 0, none⟩ 0) (.int .i64 ((brk L (plotOf L.n left) m b + (few L (left - 2 ^ m) m).1 : Nat) : Int)) (WR (Addr.add ⟨s3.size, 0, none⟩ 0) (.int .i64 (m : Int)) KK) t2 := by
      intro hp KK hK
      refine two t2 _ _ _ _ _ u8 u9 fun t3 k3 v8 v9 => hK t3 ⟨kp2.trans (k3.mono (fun q h => .inr h)), keepF t2 t3 hzz rt2 k3, ?_, ?_⟩
      · rw [hp]; exact v8
      · rw [hp]; exact v9
    refine ⟨_, u8.cell, ?_⟩
    refine BR_dec (fun h3 => ?_) (fun h3 => ?_)
    · have hnone : partB L left b k = none := by
        cases hpk : partB L left b k with
        | none => rfl
        | some y => rw [hpk] at h3; simp only [encN] at h3; omega
      refine upd ?_ _ (fun t3 ht3 => ht3)
      rw [hsucc, hnone]
      rfl
    · obtain ⟨y, hy⟩ : ∃ y, partB L left b k = some y := by
        cases hpk : partB L left b k with
        | none => rw [hpk] at h3; simp [encN] at h3
        | some y => exact ⟨y, rfl⟩
      refine ⟨_, u8.cell, ?_⟩
      obtain ⟨yn, yx⟩ := y
      have hen : encN (partB L left b k) = (yn : Int) := by rw [hy]; rfl
      refine BR_dec (fun h4 => ?_) (fun h4 => ?_)
      · refine upd ?_ _ (fun t3 ht3 => ht3)
        rw [hsucc, hy]
        unfold better
        simp only
        rw [if_pos (by rw [hen] at h4; omega)]
      · have hsame : partB L left b (k + 1) = partB L left b k := by
          rw [hsucc, hy]
          unfold better
          simp only
          rw [if_neg (by rw [hen] at h4; omega)]
        refine ⟨kp2, rt2, ?_, ?_⟩
        · rw [hsame]; exact u8
        · rw [hsame]; exact u9
  · rintro t ⟨kp, r', q8, q9⟩
    have hml : (menV L.n left).length = (menOf L.n left).length := by unfold menV; simp
    rw [hml, hpb] at q8 q9
    have d1 : cellAt t ⟨s.size, 0, none⟩ = some (.int .u64 left) := kp.cell (by show ¬ (s.size = _ ∨ s.size = _ ∨ s.size = _); omega) (e59.cell g1)
    have d2 : cellAt t ⟨s1.size, 0, none⟩ = some (.int .i64 b) := kp.cell (by show ¬ (s1.size = _ ∨ s1.size = _ ∨ s1.size = _); omega) (e59.cell g2)
    refine ⟨_, d1, _, d2, _, q8.cell, _, q9.cell, ⟨by omega, by omega⟩, ⟨by omega, by omega⟩, ?_⟩
    rw [t1, t2]
    obtain ⟨x', hx', hxo'⟩ := r'.memo left b h256 hb9
    have hval : IntKind.wrap .i64 ((IntKind.wrap .i64 ((IntKind.wrap .i64 (encN (some (nn, xx)) * 9)) + encX (some (nn, xx)))) + 1) = ((nn * 9 + xx + 1 : Nat) : Int) := by
      show IntKind.wrap .i64 ((IntKind.wrap .i64 ((IntKind.wrap .i64 ((nn : Int) * 9)) + (xx : Int))) + 1) = _
      rw [wrap_i64 (n := (nn : Int) * 9) (by omega) (by omega), wrap_i64 (n := (nn : Int) * 9 + (xx : Int)) (by omega) (by omega), wrap_i64 (by omega) (by omega)]
      omega
    rw [hval]
    refine WR_own hxo' rfl ?_
    have hbl : ((c.ka.add (left * 9)).add (b * 1)).block = c.ka.block := by rw [add_block, add_block]
    have ka : Kp (· = c.ka.block) t (setC t ((c.ka.add (left * 9)).add (b * 1)) (.int .i64 ((nn * 9 + xx + 1 : Nat) : Int))) := Kp.setC (Kp.refl t) (.inl hbl)
    have rb : OnF s0 p c (fv L) (setC t ((c.ka.add (left * 9)).add (b * 1)) (.int .i64 ((nn * 9 + xx + 1 : Nat) : Int))) := by
      refine ⟨Ext.setC r'.base (by rw [hbl]; exact ap.k), ka.cell ap.l r'.l, ka.cell ap.o r'.o, ?_⟩
      intro l b' hl hb'
      by_cases heq : l = left ∧ b' = b
      · obtain ⟨rfl, rfl⟩ := heq
        refine ⟨nn * 9 + xx + 1, .inr ?_, own_set hxo'⟩
        unfold fv
        rw [hfew]
      · obtain ⟨y, hy1, hy2⟩ := r'.memo l b' hl hb'
        refine ⟨y, hy1, own_set_ne (.inr ?_) hy2⟩
        simp only [add_off]
        omega
    have w8 := ka.own (fun (h : s2.size = c.ka.block) => by omega) q8
    have w9 := ka.own (fun (h : s3.size = c.ka.block) => by omega) q9
    show (RDI .i64 ⟨s2.size, 0, none⟩ _ : Hp → Prop) (setC t ((c.ka.add (left * 9)).add (b * 1)) (.int .i64 ((nn * 9 + xx + 1 : Nat) : Int)))
    generalize setC t ((c.ka.add (left * 9)).add (b * 1)) (.int .i64 ((nn * 9 + xx + 1 : Nat) : Int)) = tb at ka rb w8 w9 ⊢
    refine ⟨_, w8.cell, _, w9.cell, ?_⟩
    refine WR_own w8 rfl ?_
    have y9 := own_set_ne (a := ⟨s2.size, 0, none⟩) (w := .int .i64 (encN (some (nn, xx)))) (.inl (show s3.size ≠ s2.size by omega)) w9
    refine ⟨⟨_, y9.cell, rfl⟩, ?_⟩
    refine WR_own y9 rfl ?_
    refine ⟨_, own_cell (own_set_ne (.inl (by show s2.size ≠ s3.size; omega)) (own_set w8)), _, own_cell (own_set y9), ?_⟩
    try simp only [TUP_mk, AGG_mk, HD_mk, NL_mk, TYI_mk, TYB_mk, TYP_mk, TYL_mk, TYS_mk, TYM_mk, SO_mk, NX_mk, endK_mk, endK_mk', add_0]
    have kz : Kp (fun q => q = s2.size ∨ q = s3.size) tb (setC (setC tb ⟨s2.size, 0, none⟩ (.int .i64 (encN (some (nn, xx))))) ⟨s3.size, 0, none⟩ (.int .i64 (encX (some (nn, xx))))) := Kp.setC (Kp.setC (Kp.refl tb) (.inl (.inl rfl))) (.inl (.inr rfl))
    have hzb : s4.size ≤ tb.size := by have := kp.1; have := ka.1; omega
    rw [hfew] at h
    refine h _ ?_ (keepF tb _ hzb rb kz)
    have kall : Kp (fun q => q = c.ka.block ∨ q = s2.size ∨ q = s3.size) s5 _ := ((e59.kp.trans kp).trans (ka.mono (fun q h => .inl h))).trans (kz.mono (fun q h => .inr h))
    refine ⟨Nat.le_trans (Nat.le_trans e04.1 k5.1) kall.1, fun q hq hc => ?_⟩
    rw [kall.2 q (by omega) (fun hh => by rcases hh with hh | hh | hh <;> omega), k5.2 q (by omega) (fun hh => by rcases hh with hh | hh <;> omega)]
    exact e04.2 q hq
end
end Go.Proofs.Ytocnkdkgajdejaa.G

/- Contracts of what is exported: the draw that breaks the fewest rules. -/
set_option linter.unusedSimpArgs false
set_option linter.unusedVariables false
set_option maxRecDepth 20000
namespace Go.Proofs.Ytocnkdkgajdejaa.G
open Go.V Go.Lot

section
variable {W : World} {K : VK} {E : List PanicEntry → Hp → Prop} {s : Hp} {L : Lts} {p : Addr}
theorem few_in {left b : Nat} (hn : L.n ≤ 8) (hl : left < 2 ^ L.n) (h0 : left ≠ 0) : (few L left b).2 < L.n ∧ left.testBit (few L left b).2 = true := by
  have hne : menOf L.n left ≠ [] := fun e => by have := menOf_pos hl h0; rw [e] at this; cases this
  rw [few_eq L hn hl h0]
  have h1 : best (fun m => brk L (plotOf L.n left) m b + (few L (left - 2 ^ m) m).1) (menOf L.n left) ≠ none := better_some _ none (.inr hne)
  cases hb : best (fun m => brk L (plotOf L.n left) m b + (few L (left - 2 ^ m) m).1) (menOf L.n left) with
  | none => exact absurd hb h1
  | some y =>
    obtain ⟨n, x⟩ := y
    rcases (best_mem _ none (fun _ h => by cases h) n x hb).2 with h | h
    · exact menOf_mem.1 h
    · cases h

theorem c_Least {x : Option Addr} {c : Nat} (hm : MenAt s x L.men)
    (h1 : ∀ s' v, Ext s s' → valid L = true → Out s' (leastD L L.n (full L.n) 8) v → K (.tuple #[.int .i64 ((few L (full L.n) 8).1 : Nat), v, .int .i64 0]) s')
    (h3 : ∀ s', Ext s s' → valid L = false → K (.tuple #[.int .i64 0, .slice none 0 0, .int .i64 1]) s') :
    CALL Pg W F_lot_Least [.agg #[.slice x L.n c, .int .i64 L.worst]] K E s := by
  refine does_lot_Least W x L.n c L.worst _ s ?_
  unfold T_lot_Least
  refine NEW_rule fun s1 e1 z1 n1 _ => ?_
  refine NEWZ_rule zc_28 fun s2 e2 z2 n2 => ?_
  have o2 := n2 0 _ rfl
  have e02 := e1.trans e2
  refine ⟨_, _, _, e2.cell (n1 0 _ rfl).cell, _, e2.cell (n1 1 _ rfl).cell, ?_⟩
  refine c_open hm e02 (fun hv s3 p e3 hst => ?_) (fun hv s3 e3 => ?_)
  · try simp only [TUP_mk, AGG_mk, HD_mk, NL_mk, TYI_mk, TYB_mk, TYP_mk, TYL_mk, TYS_mk, TYM_mk, SO_mk, NX_mk, endK_mk, endK_mk', add_0]
    have hl := hst.lots
    have hn := (vd_iff.1 hv).hi
    have hfl := full_lt hn
    refine NEWZ_rule zc_63 fun s4 e4 z4 n4 => ?_
    refine WR_own (n4 0 _ rfl) rfl ?_
    have o5 : Own (setC s4 ⟨s3.size, 0, none⟩ (.pointer (some p))) ⟨s3.size, 0, none⟩ (.pointer (some p)) := own_set (n4 0 _ rfl)
    have e5 : Ext s3 (setC s4 ⟨s3.size, 0, none⟩ (.pointer (some p))) := Ext.setC e4 (Nat.le_refl _)
    have z5 : (setC s4 ⟨s3.size, 0, none⟩ (.pointer (some p))).size = s3.size + 1 := by rw [setC_size, z4]
    show (NEWZ Pg 95 _ : Hp → Prop) (setC s4 ⟨s3.size, 0, none⟩ (.pointer (some p)))
    generalize setC s4 ⟨s3.size, 0, none⟩ (.pointer (some p)) = s5 at o5 e5 z5 ⊢
    refine NEWZ_rule zc_95 fun s6 e6 z6 n6 => ?_
    refine NEWZ_rule zc_96 fun s7 e7 z7 n7 => ?_
    refine WR_own (n7 0 _ rfl) rfl ?_
    let cf : Cf := ⟨⟨s5.size, 0, none⟩, ⟨s3.size, 0, none⟩, ⟨s6.size, 0, none⟩⟩
    have o8 : Own (setC s7 ⟨s6.size, 0, none⟩ cf.val) ⟨s6.size, 0, none⟩ cf.val := own_set (n7 0 _ rfl)
    have e8 : Ext s6 (setC s7 ⟨s6.size, 0, none⟩ cf.val) := Ext.setC e7 (Nat.le_refl _)
    show (RDP ⟨s3.size, 0, none⟩ _ : Hp → Prop) (setC s7 ⟨s6.size, 0, none⟩ cf.val)
    generalize setC s7 ⟨s6.size, 0, none⟩ cf.val = s8 at o8 e8 ⊢
    have e38 := (e5.trans e6).trans e8
    have hz8 := e8.1
    have mem0 : Memo s8 cf.ka (fv L) := by
      intro l b hl' hb
      refine ⟨0, .inl rfl, ?_⟩
      have := n6 (l * 9 + b) (.int .i64 0) (by rw [List.getElem?_replicate, if_pos (by omega)])
      have e : (cf.ka.add (l * 9)).add (b * 1) = ⟨s5.size, l * 9 + b, none⟩ := by
        show ((⟨s5.size, 0, none⟩ : Addr).add (l * 9)).add (b * 1) = _
        rw [add_none, add_none, Nat.zero_add, Nat.mul_one]
      rw [e]
      exact e8.own this
    have r8 : OnF s3 p cf (fv L) s8 := ⟨e38, (e6.trans e8).cell o5.cell, o8.cell, mem0⟩
    have ap : ApF s3 cf := ⟨by show s3.size ≤ s5.size; omega, by show s3.size ≠ s5.size; omega, by show s6.size ≠ s5.size; omega⟩
    refine ⟨_, r8.l, ?_⟩
    refine c_all (hl.ext e38) ?_
    try simp only [TUP_mk, AGG_mk, HD_mk, NL_mk, TYI_mk, TYB_mk, TYP_mk, TYL_mk, TYS_mk, TYM_mk, SO_mk, NX_mk, endK_mk, endK_mk', add_0]
    refine ⟨_, r8.o, ?_⟩
    have e8i : (8 : Int) = ((8 : Nat) : Int) := rfl
    refine CALLV_func ?_
    have hfew := c_few (W := W) hl ap (full L.n) 8 hfl (.inl rfl)
    refine hfew _ _ s8 r8 fun s9 k9 r9 => ?_
    try simp only [TUP_mk, AGG_mk, HD_mk, NL_mk, TYI_mk, TYB_mk, TYP_mk, TYL_mk, TYS_mk, TYM_mk, SO_mk, NX_mk, endK_mk, endK_mk', add_0]
    have hz9 := k9.1
    have e39 : Ext s3 s9 := ext_kp e38 k9 (by show s3.size ≤ s5.size; omega)
    have c9 : ∀ {t : Hp}, OnF s3 p cf (fv L) t → cellAt t ⟨s6.size, 0, none⟩ = some cf.val := fun h => h.o
    refine L_lot_Least_0_rule W _ _ ⟨s1.size, 0, none⟩ ⟨s6.size, 0, none⟩ (fun x l cc n37 n38 t => ∃ (left b f : Nat) (d : List Nat), n37 = left ∧ n38 = b ∧ l = d.length ∧ left < 2 ^ L.n ∧ (b = 8 ∨ b < L.n) ∧ (menOf L.n left).length ≤ f ∧ d ++ leastD L f left b = leastD L L.n (full L.n) 8 ∧
        d.length + (menOf L.n left).length ≤ L.n ∧ OnF s3 p cf (fv L) t ∧ s9.size ≤ t.size ∧ Buf t x cc (vals d) ∧ (∀ a, x = some a → s9.size ≤ a.block) ∧ cc ≤ 9223372036854775808) (fun _ _ _ n37 _ _ => n37.toNat) none 0 0 (full L.n) 8 s9
      ⟨full L.n, 8, L.n, [], rfl, rfl, rfl, hfl, .inl rfl, menOf_len_le _ _, rfl, by simpa using menOf_len_le L.n (full L.n), r9, Nat.le_refl _, Buf.nil _, (fun a h => by cases h), by omega⟩ ?_
    rintro x l cc n37 n38 t ⟨left, b, f, d, rfl, rfl, rfl, hlt, hb, hf, hres, hdl, rt, hzt, bf, fr, hcc⟩
    unfold B_lot_Least_0
    have h256 : left < 256 := Nat.lt_of_lt_of_le hlt (show 2 ^ L.n ≤ 2 ^ 8 from Nat.pow_le_pow_right (by omega) hn)
    refine BR_ne (fun h0 => ?_) (fun h0 => ?_)
    · have h0' : left ≠ 0 := by omega
      obtain ⟨hmn, hmb⟩ := few_in (b := b) hn hlt h0'
      refine ⟨_, rt.o, CALLV_func ?_⟩
      refine c_few (W := W) hl ap left b hlt hb _ _ t rt fun t2 q2 rt2 => ?_
      try simp only [TUP_mk, AGG_mk, HD_mk, NL_mk, TYI_mk, TYB_mk, TYP_mk, TYL_mk, TYS_mk, TYM_mk, SO_mk, NX_mk, endK_mk, endK_mk', add_0]
      refine NEW_rule fun t3 e3' z3' n3' _ => ?_
      have hvd : (vals d).length = d.length := vals_len d
      have bf2 : Buf t3 x cc (vals d) := (Buf.kp q2 (fun a ha hh => by have := fr a ha; have : a.block = s5.size := hh; omega) bf).ext e3'
      have rt3 := rt2.ext e3'
      have hsucc : ∀ f', f = f' + 1 → leastD L f left b = (few L left b).2 :: leastD L f' (left - 2 ^ (few L left b).2) (few L left b).2 := by
        rintro f' rfl
        show (if left = 0 then [] else _) = _
        rw [if_neg h0']
      generalize hfw : (few L left b).2 = m at *
      have hc1 := clr_one hn hlt hmn hmb
      have hle : 2 ^ m ≤ left := by
        rcases Nat.lt_or_ge left (2 ^ m) with h1 | h1
        · have := Nat.testBit_lt_two_pow h1; rw [this] at hmb; cases hmb
        · exact h1
      have hp2 : 0 < 2 ^ m := Nat.pos_of_ne_zero (by simp)
      have happ := APP_buf (P := Pg) (t := 3) (x := x) (c := cc) (vs := vals d) (ws := [.int .i64 (m : Int)]) (y := some ⟨t2.size, 0, none⟩) (z := .int .i64 0) (K := fun x50 l51 c52 => NNI (m : Int) <| fun s' => N_lot_Least_0 (fun x l cc n37 n38 t => ∃ (left b f : Nat) (d : List Nat), n37 = left ∧ n38 = b ∧ l = d.length ∧ left < 2 ^ L.n ∧ (b = 8 ∨ b < L.n) ∧ (menOf L.n left).length ≤ f ∧ d ++ leastD L f left b = leastD L L.n (full L.n) 8 ∧
          d.length + (menOf L.n left).length ≤ L.n ∧ OnF s3 p cf (fv L) t ∧ s9.size ≤ t.size ∧ Buf t x cc (vals d) ∧ (∀ a, x = some a → s9.size ≤ a.block) ∧ cc ≤ 9223372036854775808) (fun _ _ _ n37 _ _ => n37.toNat) x d.length cc left b t [(.slice x50 l51 c52), (.int .u64 (andnv .u64 (left : Int) (shlv .u64 1 (m : Int)))), (.int .i64 (m : Int))] s')
        bf2 (cell_row (n3' 0 _ rfl).cell) zc_3 (fun v hv => by simp at hv; subst hv; rfl) (by rw [hvd]; simp; omega) hcc ?_
      · rw [hvd] at happ; exact happ
      intro t4 x' c' k4 g1 g2 g3 u4
      have hz4' := k4.1
      have hz3' := e3'.1
      have hz2' := q2.1
      refine NNI_nat ?_
      have rt4 : OnF s3 p cf (fv L) t4 := by
        have kk : Kp (fun q => s9.size ≤ q) t3 t4 := k4.mono (fun q ⟨a, ha, he⟩ => by have := fr a ha; omega)
        have hka : cf.ka.block < s9.size := by show s5.size < s9.size; omega
        have hla : cf.la.block < s9.size := by show s3.size < s9.size; omega
        have hoa : cf.oa.block < s9.size := by
          show s6.size < s9.size
          have := o8.lt
          have : s6.size < s8.size := this
          omega
        exact ⟨⟨Nat.le_trans rt3.base.1 k4.1, fun q hq => (kk.2 q (Nat.lt_of_lt_of_le hq rt3.base.1) (by have := e39.1; omega)).trans (rt3.base.2 q hq)⟩, kk.cell (by show ¬ s9.size ≤ cf.la.block; omega) rt3.l, kk.cell (by show ¬ s9.size ≤ cf.oa.block; omega) rt3.o, rt3.memo.keep kk (by show ¬ s9.size ≤ cf.ka.block; omega)⟩
      refine ⟨x', _, c', _, _, rfl, ⟨left - 2 ^ m, m, f - 1, d ++ [m], andn_eq left h256 m (by omega) hmb, rfl, by rw [hvd]; simp, by omega, .inr hmn, by omega, ?_, by simp; omega, rt4, by omega, by rw [vals_app]; exact u4, ?_, g3⟩, ?_⟩
      · obtain ⟨f', hf'⟩ : ∃ f', f = f' + 1 := ⟨f - 1, by omega⟩
        rw [← hres, hsucc f' hf', hf', Nat.add_sub_cancel]
        simp
      · intro a ha
        rcases Nat.lt_or_ge cc (d.length + 1) with hc | hc
        · obtain ⟨q1, q3⟩ := g2 (by rw [hvd]; exact hc)
          rw [q1] at ha; cases ha
          show s9.size ≤ t3.size
          omega
        · obtain ⟨q1, q3⟩ := g1 (by rw [hvd]; exact hc)
          rw [q1] at ha
          exact fr a ha
      · show (andnv .u64 (left : Int) (shlv .u64 1 (m : Int))).toNat < ((left : Nat) : Int).toNat
        rw [andn_eq left h256 m (by omega) hmb]
        omega
    · have h0' : left = 0 := by omega
      subst h0'
      have hr0 : leastD L f 0 b = [] := by cases f <;> rfl
      rw [hr0, List.append_nil] at hres
      have e3t : Ext s2 t := e3.trans rt.base
      refine out_ok (e02.trans e3t) (by omega) (e3t.own o2) fun s' e' k' => ?_
      rw [← hres] at h1
      refine h1 s' _ e' hv ⟨x, cc, rfl, bf.row.keep k' (fun a ha hh => by have := fr a ha; have : a.block = s1.size := hh; have := e3.1; omega)⟩
  · try simp only [TUP_mk, AGG_mk, HD_mk, NL_mk, TYI_mk, TYB_mk, TYP_mk, TYL_mk, TYS_mk, TYM_mk, SO_mk, NX_mk, endK_mk, endK_mk', add_0]
    refine out_pan (e02.trans e3) (by omega) (e3.own o2) fun s' e' _ => ?_
    exact h3 s' e' hv
end
end Go.Proofs.Ytocnkdkgajdejaa.G

/- More of the functions' shallow texts, by gen.py. -/
set_option linter.unusedVariables false
set_option maxRecDepth 100000
namespace Go.Proofs.Ytocnkdkgajdejaa.G
open Go.V
def an_24 : Nat → Ann := fun b => match b with
  | 0 => { ms := [4, 5], ks := [.b, .i .i64], us := [0, 1, 26], rt := false, ex := [] }
  | _ => {}
abbrev rv_24 : List ResultVar := [.tmp 4]
abbrev rs_24 : List Nat := [26, 4]
def L_ref03_Ints_0 (W : World) (R : Ending → Hp → Prop) (zp0 : Option Addr) (zl1 : Nat) (zl2 : Nat) (zp3 : Option Addr) (zl4 : Nat) (zl5 : Nat) (b7 : Bool) (n8 : Int) : Hp → Prop :=
  LOOPN [.b, .i .i64] (fun ys next s => ∀ j : Tm, vc Pg W 26 rs_24 an_24 false (sub (bodyOf Try.f24) [1, 1, 0, 1, 0, 0]) 0 (KLoop [4, 5] [0, 1, 26] [(.slice zp0 zl1 zl2), (.slice zp3 zl4 zl5), (.tuple #[])] next (KBlk 0 (KS Pg W 26 rs_24 an_24 false (sub (bodyOf Try.f24) [1, 1, 1]) 0 (fin Pg W 26 rv_24 R)))) (known [4, 5] ys (known [0, 1, 26] [(.slice zp0 zl1 zl2), (.slice zp3 zl4 zl5), (.tuple #[])] j)) s) [(.bool b7), (.int .i64 n8)]
def B_ref03_Ints_0 (W : World) (R : Ending → Hp → Prop) (zp0 : Option Addr) (zl1 : Nat) (zl2 : Nat) (zp3 : Option Addr) (zl4 : Nat) (zl5 : Nat) (b7 : Bool) (n8 : Int) (nx0 : List Value → Hp → Prop) : Hp → Prop :=
  BR (decide (n8 < (↑zl1 : Int)))
    (IXS zp0 zl1 n8 1 fun a9 =>
      RDI .i64 a9 fun n10 =>
        IXS zp3 zl4 n8 1 fun a11 =>
          RDI .i64 a11 fun n12 =>
            BR (n10 != n12)
              (R (.returned (.bool false)))
              (NX [(.slice zp0 zl1 zl2), (.slice zp3 zl4 zl5), (.tuple #[])] [(.slice zp0 zl1 zl2), (.slice zp3 zl4 zl5), (.tuple #[])] (nx0 [(.bool b7), (.int .i64 (IntKind.wrap .i64 (n8 + 1)))])))
    (R (.returned (.bool true)))
theorem B_ref03_Ints_0_eq (W : World) (R : Ending → Hp → Prop) (zp0 : Option Addr) (zl1 : Nat) (zl2 : Nat) (zp3 : Option Addr) (zl4 : Nat) (zl5 : Nat) (b7 : Bool) (n8 : Int) (nx0 : List Value → Hp → Prop) (j : Tm) : vc Pg W 26 rs_24 an_24 false (sub (bodyOf Try.f24) [1, 1, 0, 1, 0, 0]) 0 (KLoop [4, 5] [0, 1, 26] [(.slice zp0 zl1 zl2), (.slice zp3 zl4 zl5), (.tuple #[])] nx0 (KBlk 0 (KS Pg W 26 rs_24 an_24 false (sub (bodyOf Try.f24) [1, 1, 1]) 0 (fin Pg W 26 rv_24 R)))) (known [4, 5] [(.bool b7), (.int .i64 n8)] (known [0, 1, 26] [(.slice zp0 zl1 zl2), (.slice zp3 zl4 zl5), (.tuple #[])] j)) = B_ref03_Ints_0 W R zp0 zl1 zl2 zp3 zl4 zl5 b7 n8 nx0 := by kernel_rfl
def N_ref03_Ints_0 (I : Bool → Int → Hp → Prop) (μ : Bool → Int → Hp → Nat) (b70 : Bool) (n80 : Int) (s : Hp) (vs : List Value) : Hp → Prop := fun s' => ∃ b7 n8, vs = [(.bool b7), (.int .i64 n8)] ∧ I b7 n8 s' ∧ μ b7 n8 s' < μ b70 n80 s
theorem L_ref03_Ints_0_rule (W : World) (R : Ending → Hp → Prop) (zp0 : Option Addr) (zl1 : Nat) (zl2 : Nat) (zp3 : Option Addr) (zl4 : Nat) (zl5 : Nat) (I : Bool → Int → Hp → Prop) (μ : Bool → Int → Hp → Nat) (b70 : Bool) (n80 : Int) (s : Hp) (h0 : I b70 n80 s)
    (hr : ∀ (b7 : Bool) (n8 : Int) (s : Hp), I b7 n8 s → B_ref03_Ints_0 W R zp0 zl1 zl2 zp3 zl4 zl5 b7 n8 (fun vs => N_ref03_Ints_0 I μ b7 n8 s vs) s) : L_ref03_Ints_0 W R zp0 zl1 zl2 zp3 zl4 zl5 b70 n80 s := by
  refine ⟨fun vs s => ∃ b7 n8, vs = [(.bool b7), (.int .i64 n8)] ∧ I b7 n8 s, fun vs s => (match vs with | [.bool b7, .int _ n8] => μ b7 n8 s | _ => 0), ⟨⟨⟨_, rfl⟩, ⟨⟨_, rfl⟩, trivial⟩⟩, ⟨_, _, rfl, h0⟩⟩, ?_⟩
  intro b7 n8 s hI j
  obtain ⟨b7', n8', hy, hI⟩ := hI
  have hI' : I b7 n8 s := by cases hy; exact hI
  have hh := hr b7 n8 s hI'
  rw [← B_ref03_Ints_0_eq W R zp0 zl1 zl2 zp3 zl4 zl5 b7 n8 _ j] at hh
  refine vc_mono ?_ _ _ hh
  exact KLoop_mono (fun vs s' h => by obtain ⟨b71, n81, rfl, h1, h2⟩ := h; exact ⟨⟨⟨_, rfl⟩, ⟨⟨_, rfl⟩, trivial⟩⟩, ⟨_, _, rfl, h1⟩, h2⟩)
def T_ref03_Ints (W : World) (x1 : Option Addr) (l2 : Nat) (c3 : Nat) (x4 : Option Addr) (l5 : Nat) (c6 : Nat) (R : Ending → Hp → Prop) : Hp → Prop :=
  BR ((↑l2 : Int) != (↑l5 : Int))
    (R (.returned (.bool false)))
    (L_ref03_Ints_0 W R x1 l2 c3 x4 l5 c6 false 0)
theorem T_ref03_Ints_eq (W : World) (x1 : Option Addr) (l2 : Nat) (c3 : Nat) (x4 : Option Addr) (l5 : Nat) (c6 : Nat) (R : Ending → Hp → Prop) : vfun Pg W an_24 Try.f24 [(.slice x1 l2 c3), (.slice x4 l5 c6)] R = T_ref03_Ints W x1 l2 c3 x4 l5 c6 R := by kernel_rfl
theorem does_ref03_Ints (W : World) (x1 : Option Addr) (l2 : Nat) (c3 : Nat) (x4 : Option Addr) (l5 : Nat) (c6 : Nat) (R : Ending → Hp → Prop) (s : Hp) (h : T_ref03_Ints W x1 l2 c3 x4 l5 c6 R s) : Does Pg W F_ref03_Ints #[(.slice x1 l2 c3), (.slice x4 l5 c6)] s R :=
  does_of_vfun Pg W an_24 Try.func24 rfl (by kernel_rfl) (by rw [T_ref03_Ints_eq]; exact h)
def an_33 : Nat → Ann := fun b => match b with
  | 0 => { ms := [4, 5], ks := [.b, .i .i64], us := [0, 1, 26], rt := false, ex := [] }
  | _ => {}
abbrev rv_33 : List ResultVar := [.tmp 4]
abbrev rs_33 : List Nat := [26, 4]
def L_ref03_Pairs_0 (W : World) (R : Ending → Hp → Prop) (zp0 : Option Addr) (zl1 : Nat) (zl2 : Nat) (zp3 : Option Addr) (zl4 : Nat) (zl5 : Nat) (b7 : Bool) (n8 : Int) : Hp → Prop :=
  LOOPN [.b, .i .i64] (fun ys next s => ∀ j : Tm, vc Pg W 26 rs_33 an_33 false (sub (bodyOf Try.f33) [1, 1, 0, 1, 0, 0]) 0 (KLoop [4, 5] [0, 1, 26] [(.slice zp0 zl1 zl2), (.slice zp3 zl4 zl5), (.tuple #[])] next (KBlk 0 (KS Pg W 26 rs_33 an_33 false (sub (bodyOf Try.f33) [1, 1, 1]) 0 (fin Pg W 26 rv_33 R)))) (known [4, 5] ys (known [0, 1, 26] [(.slice zp0 zl1 zl2), (.slice zp3 zl4 zl5), (.tuple #[])] j)) s) [(.bool b7), (.int .i64 n8)]
def B_ref03_Pairs_0 (W : World) (R : Ending → Hp → Prop) (zp0 : Option Addr) (zl1 : Nat) (zl2 : Nat) (zp3 : Option Addr) (zl4 : Nat) (zl5 : Nat) (b7 : Bool) (n8 : Int) (nx0 : List Value → Hp → Prop) : Hp → Prop :=
  BR (decide (n8 < (↑zl1 : Int)))
    (IXS zp0 zl1 n8 2 fun a9 =>
      RDI .i64 (Addr.add a9 0) fun n10 =>
        RDI .i64 (Addr.add a9 1) fun n11 =>
          IXS zp3 zl4 n8 2 fun a12 =>
            RDI .i64 (Addr.add a12 0) fun n13 =>
              RDI .i64 (Addr.add a12 1) fun n14 =>
                BR (!((n10 == n13) && (n11 == n14)))
                  (R (.returned (.bool false)))
                  (NX [(.slice zp0 zl1 zl2), (.slice zp3 zl4 zl5), (.tuple #[])] [(.slice zp0 zl1 zl2), (.slice zp3 zl4 zl5), (.tuple #[])] (nx0 [(.bool b7), (.int .i64 (IntKind.wrap .i64 (n8 + 1)))])))
    (R (.returned (.bool true)))
theorem B_ref03_Pairs_0_eq (W : World) (R : Ending → Hp → Prop) (zp0 : Option Addr) (zl1 : Nat) (zl2 : Nat) (zp3 : Option Addr) (zl4 : Nat) (zl5 : Nat) (b7 : Bool) (n8 : Int) (nx0 : List Value → Hp → Prop) (j : Tm) : vc Pg W 26 rs_33 an_33 false (sub (bodyOf Try.f33) [1, 1, 0, 1, 0, 0]) 0 (KLoop [4, 5] [0, 1, 26] [(.slice zp0 zl1 zl2), (.slice zp3 zl4 zl5), (.tuple #[])] nx0 (KBlk 0 (KS Pg W 26 rs_33 an_33 false (sub (bodyOf Try.f33) [1, 1, 1]) 0 (fin Pg W 26 rv_33 R)))) (known [4, 5] [(.bool b7), (.int .i64 n8)] (known [0, 1, 26] [(.slice zp0 zl1 zl2), (.slice zp3 zl4 zl5), (.tuple #[])] j)) = B_ref03_Pairs_0 W R zp0 zl1 zl2 zp3 zl4 zl5 b7 n8 nx0 := by kernel_rfl
def N_ref03_Pairs_0 (I : Bool → Int → Hp → Prop) (μ : Bool → Int → Hp → Nat) (b70 : Bool) (n80 : Int) (s : Hp) (vs : List Value) : Hp → Prop := fun s' => ∃ b7 n8, vs = [(.bool b7), (.int .i64 n8)] ∧ I b7 n8 s' ∧ μ b7 n8 s' < μ b70 n80 s
theorem L_ref03_Pairs_0_rule (W : World) (R : Ending → Hp → Prop) (zp0 : Option Addr) (zl1 : Nat) (zl2 : Nat) (zp3 : Option Addr) (zl4 : Nat) (zl5 : Nat) (I : Bool → Int → Hp → Prop) (μ : Bool → Int → Hp → Nat) (b70 : Bool) (n80 : Int) (s : Hp) (h0 : I b70 n80 s)
    (hr : ∀ (b7 : Bool) (n8 : Int) (s : Hp), I b7 n8 s → B_ref03_Pairs_0 W R zp0 zl1 zl2 zp3 zl4 zl5 b7 n8 (fun vs => N_ref03_Pairs_0 I μ b7 n8 s vs) s) : L_ref03_Pairs_0 W R zp0 zl1 zl2 zp3 zl4 zl5 b70 n80 s := by
  refine ⟨fun vs s => ∃ b7 n8, vs = [(.bool b7), (.int .i64 n8)] ∧ I b7 n8 s, fun vs s => (match vs with | [.bool b7, .int _ n8] => μ b7 n8 s | _ => 0), ⟨⟨⟨_, rfl⟩, ⟨⟨_, rfl⟩, trivial⟩⟩, ⟨_, _, rfl, h0⟩⟩, ?_⟩
  intro b7 n8 s hI j
  obtain ⟨b7', n8', hy, hI⟩ := hI
  have hI' : I b7 n8 s := by cases hy; exact hI
  have hh := hr b7 n8 s hI'
  rw [← B_ref03_Pairs_0_eq W R zp0 zl1 zl2 zp3 zl4 zl5 b7 n8 _ j] at hh
  refine vc_mono ?_ _ _ hh
  exact KLoop_mono (fun vs s' h => by obtain ⟨b71, n81, rfl, h1, h2⟩ := h; exact ⟨⟨⟨_, rfl⟩, ⟨⟨_, rfl⟩, trivial⟩⟩, ⟨_, _, rfl, h1⟩, h2⟩)
def T_ref03_Pairs (W : World) (x1 : Option Addr) (l2 : Nat) (c3 : Nat) (x4 : Option Addr) (l5 : Nat) (c6 : Nat) (R : Ending → Hp → Prop) : Hp → Prop :=
  BR ((↑l2 : Int) != (↑l5 : Int))
    (R (.returned (.bool false)))
    (L_ref03_Pairs_0 W R x1 l2 c3 x4 l5 c6 false 0)
theorem T_ref03_Pairs_eq (W : World) (x1 : Option Addr) (l2 : Nat) (c3 : Nat) (x4 : Option Addr) (l5 : Nat) (c6 : Nat) (R : Ending → Hp → Prop) : vfun Pg W an_33 Try.f33 [(.slice x1 l2 c3), (.slice x4 l5 c6)] R = T_ref03_Pairs W x1 l2 c3 x4 l5 c6 R := by kernel_rfl
theorem does_ref03_Pairs (W : World) (x1 : Option Addr) (l2 : Nat) (c3 : Nat) (x4 : Option Addr) (l5 : Nat) (c6 : Nat) (R : Ending → Hp → Prop) (s : Hp) (h : T_ref03_Pairs W x1 l2 c3 x4 l5 c6 R s) : Does Pg W F_ref03_Pairs #[(.slice x1 l2 c3), (.slice x4 l5 c6)] s R :=
  does_of_vfun Pg W an_33 Try.func33 rfl (by kernel_rfl) (by rw [T_ref03_Pairs_eq]; exact h)
def an_34 : Nat → Ann := fun b => match b with
  | 0 => { ms := [2, 3], ks := [.b, .i .i64], us := [1, 35], rt := false, ex := [] }
  | _ => {}
abbrev rv_34 : List ResultVar := [.tmp 2]
abbrev rs_34 : List Nat := [35, 2]
def L_ref03_Lots_0 (W : World) (R : Ending → Hp → Prop) (za0 : Addr) (b24 : Bool) (n25 : Int) : Hp → Prop :=
  LOOPN [.b, .i .i64] (fun ys next s => ∀ j : Tm, vc Pg W 35 rs_34 an_34 false (sub (bodyOf Try.f34) [1, 1, 0, 1, 0, 0]) 0 (KLoop [2, 3] [1, 35] [(.pointer (some za0)), (.tuple #[])] next (KBlk 0 (KS Pg W 35 rs_34 an_34 false (sub (bodyOf Try.f34) [1, 1, 1]) 0 (fin Pg W 35 rv_34 R)))) (known [2, 3] ys (known [1, 35] [(.pointer (some za0)), (.tuple #[])] j)) s) [(.bool b24), (.int .i64 n25)]
def B_ref03_Lots_0 (W : World) (R : Ending → Hp → Prop) (za0 : Addr) (b24 : Bool) (n25 : Int) (nx0 : List Value → Hp → Prop) : Hp → Prop :=
  RDL (Addr.add za0 0) fun x26 l27 c28 =>
    BR (decide (n25 < (↑l27 : Int)))
      (RDL (Addr.add za0 0) fun x29 l30 c31 =>
        IXS x29 l30 n25 3 fun a32 =>
          RDI .i64 (Addr.add a32 0) fun n33 =>
            CALL Pg W F_ref03_in [(.int .i64 n33), (.int .i64 0), (.int .i64 9)]
              (fun v34 => TYB v34 fun b36 =>
                BR (!b36)
                  (R (.returned (.bool false)))
                  (NX [(.pointer (some za0)), (.tuple #[])] [(.pointer (some za0)), (.tuple #[])] (nx0 [(.bool b24), (.int .i64 (IntKind.wrap .i64 (n25 + 1)))])))
                (fun e35 => R (.panicked e35)))
      (R (.returned (.bool true)))
theorem B_ref03_Lots_0_eq (W : World) (R : Ending → Hp → Prop) (za0 : Addr) (b24 : Bool) (n25 : Int) (nx0 : List Value → Hp → Prop) (j : Tm) : vc Pg W 35 rs_34 an_34 false (sub (bodyOf Try.f34) [1, 1, 0, 1, 0, 0]) 0 (KLoop [2, 3] [1, 35] [(.pointer (some za0)), (.tuple #[])] nx0 (KBlk 0 (KS Pg W 35 rs_34 an_34 false (sub (bodyOf Try.f34) [1, 1, 1]) 0 (fin Pg W 35 rv_34 R)))) (known [2, 3] [(.bool b24), (.int .i64 n25)] (known [1, 35] [(.pointer (some za0)), (.tuple #[])] j)) = B_ref03_Lots_0 W R za0 b24 n25 nx0 := by kernel_rfl
def N_ref03_Lots_0 (I : Bool → Int → Hp → Prop) (μ : Bool → Int → Hp → Nat) (b240 : Bool) (n250 : Int) (s : Hp) (vs : List Value) : Hp → Prop := fun s' => ∃ b24 n25, vs = [(.bool b24), (.int .i64 n25)] ∧ I b24 n25 s' ∧ μ b24 n25 s' < μ b240 n250 s
theorem L_ref03_Lots_0_rule (W : World) (R : Ending → Hp → Prop) (za0 : Addr) (I : Bool → Int → Hp → Prop) (μ : Bool → Int → Hp → Nat) (b240 : Bool) (n250 : Int) (s : Hp) (h0 : I b240 n250 s)
    (hr : ∀ (b24 : Bool) (n25 : Int) (s : Hp), I b24 n25 s → B_ref03_Lots_0 W R za0 b24 n25 (fun vs => N_ref03_Lots_0 I μ b24 n25 s vs) s) : L_ref03_Lots_0 W R za0 b240 n250 s := by
  refine ⟨fun vs s => ∃ b24 n25, vs = [(.bool b24), (.int .i64 n25)] ∧ I b24 n25 s, fun vs s => (match vs with | [.bool b24, .int _ n25] => μ b24 n25 s | _ => 0), ⟨⟨⟨_, rfl⟩, ⟨⟨_, rfl⟩, trivial⟩⟩, ⟨_, _, rfl, h0⟩⟩, ?_⟩
  intro b24 n25 s hI j
  obtain ⟨b24', n25', hy, hI⟩ := hI
  have hI' : I b24 n25 s := by cases hy; exact hI
  have hh := hr b24 n25 s hI'
  rw [← B_ref03_Lots_0_eq W R za0 b24 n25 _ j] at hh
  refine vc_mono ?_ _ _ hh
  exact KLoop_mono (fun vs s' h => by obtain ⟨b241, n251, rfl, h1, h2⟩ := h; exact ⟨⟨⟨_, rfl⟩, ⟨⟨_, rfl⟩, trivial⟩⟩, ⟨_, _, rfl, h1⟩, h2⟩)
def T_ref03_Lots (W : World) (x1 : Option Addr) (l2 : Nat) (c3 : Nat) (n4 : Int) (R : Ending → Hp → Prop) : Hp → Prop :=
  NEW 24 [(.slice x1 l2 c3), (.int .i64 n4)] fun B5 =>
    RDL (Addr.add ⟨B5, 0, none⟩ 0) fun x6 l7 c8 =>
      CALL Pg W F_ref03_in [(.int .i64 (↑l7 : Int)), (.int .i64 1), (.int .i64 8)]
        (fun v9 => TYB v9 fun b11 =>
          BR (!b11)
            (R (.returned (.bool false)))
            (RDI .i64 (Addr.add ⟨B5, 0, none⟩ 1) fun n12 =>
              RDL (Addr.add ⟨B5, 0, none⟩ 0) fun x13 l14 c15 =>
                CALL Pg W F_ref03_power [(.int .i64 (↑l14 : Int))]
                  (fun v16 => TYI .i64 v16 fun n18 =>
                    ANDS (RDI .i64 (Addr.add ⟨B5, 0, none⟩ 1) fun n20 =>
                      fun _ => ((.int .i64 n20) : Value) = (.int .i64 n12)) <|
                      CALL Pg W F_ref03_in [(.int .i64 n12), (.int .i64 0), (.int .i64 (IntKind.wrap .i64 (n18 - 1)))]
                        (fun v21 => TYB v21 fun b23 =>
                          BR (!b23)
                            (R (.returned (.bool false)))
                            (L_ref03_Lots_0 W R ⟨B5, 0, none⟩ false 0))
                          (fun e22 => R (.panicked e22)))
                    (fun e17 => R (.panicked e17))))
          (fun e10 => R (.panicked e10))
theorem T_ref03_Lots_eq (W : World) (x1 : Option Addr) (l2 : Nat) (c3 : Nat) (n4 : Int) (R : Ending → Hp → Prop) : vfun Pg W an_34 Try.f34 [(.agg #[(.slice x1 l2 c3), (.int .i64 n4)])] R = T_ref03_Lots W x1 l2 c3 n4 R := by kernel_rfl
theorem does_ref03_Lots (W : World) (x1 : Option Addr) (l2 : Nat) (c3 : Nat) (n4 : Int) (R : Ending → Hp → Prop) (s : Hp) (h : T_ref03_Lots W x1 l2 c3 n4 R s) : Does Pg W F_ref03_Lots #[(.agg #[(.slice x1 l2 c3), (.int .i64 n4)])] s R :=
  does_of_vfun Pg W an_34 Try.func34 rfl (by kernel_rfl) (by rw [T_ref03_Lots_eq]; exact h)
def an_37 : Nat → Ann := fun b => match b with
  | 0 => { ms := [4, 5, 6], ks := [.b, .i .i64, .i .i64], us := [1, 2, 41], rt := false, ex := [] }
  | _ => {}
abbrev rv_37 : List ResultVar := [.tmp 4]
abbrev rs_37 : List Nat := [41, 4]
def L_ref03_Full_0 (W : World) (R : Ending → Hp → Prop) (zp0 : Option Addr) (zl1 : Nat) (zl2 : Nat) (za3 : Addr) (b9 : Bool) (n10 : Int) (n11 : Int) : Hp → Prop :=
  LOOPN [.b, .i .i64, .i .i64] (fun ys next s => ∀ j : Tm, vc Pg W 41 rs_37 an_37 false (sub (bodyOf Try.f37) [1, 1, 0, 1, 0, 0]) 0 (KLoop [4, 5, 6] [1, 2, 41] [(.slice zp0 zl1 zl2), (.pointer (some za3)), (.tuple #[])] next (KBlk 0 (KS Pg W 41 rs_37 an_37 false (sub (bodyOf Try.f37) [1, 1, 1]) 0 (fin Pg W 41 rv_37 R)))) (known [4, 5, 6] ys (known [1, 2, 41] [(.slice zp0 zl1 zl2), (.pointer (some za3)), (.tuple #[])] j)) s) [(.bool b9), (.int .i64 n10), (.int .i64 n11)]
def B_ref03_Full_0 (W : World) (R : Ending → Hp → Prop) (zp0 : Option Addr) (zl1 : Nat) (zl2 : Nat) (za3 : Addr) (b9 : Bool) (n10 : Int) (n11 : Int) (nx0 : List Value → Hp → Prop) : Hp → Prop :=
  BR (decide (n11 < (↑zl1 : Int)))
    (RDL (Addr.add za3 0) fun x12 l13 c14 =>
      RDI .i64 (Addr.add za3 1) fun n15 =>
        IXS zp0 zl1 n11 1 fun a16 =>
          RDI .i64 a16 fun n17 =>
            CALL Pg W F_ref03_Man [(.agg #[(.slice x12 l13 c14), (.int .i64 n15)]), (.int .i64 n17)]
              (fun v18 => TYB v18 fun b20 =>
                BR (!b20)
                  (R (.returned (.bool false)))
                  (IXS zp0 zl1 n11 1 fun a21 =>
                    RDI .i64 a21 fun n22 =>
                      CALL Pg W F_ref03_Has [(.int .i64 n10), (.int .i64 n22)]
                        (fun v23 => TYB v23 fun b25 =>
                          BR b25
                            (R (.returned (.bool false)))
                            (IXS zp0 zl1 n11 1 fun a26 =>
                              RDI .i64 a26 fun n27 =>
                                CALL Pg W F_ref03_power [(.int .i64 n27)]
                                  (fun v28 => TYI .i64 v28 fun n30 =>
                                    NX [(.slice zp0 zl1 zl2), (.pointer (some za3)), (.tuple #[])] [(.slice zp0 zl1 zl2), (.pointer (some za3)), (.tuple #[])] (nx0 [(.bool b9), (.int .i64 (IntKind.wrap .i64 (n10 + n30))), (.int .i64 (IntKind.wrap .i64 (n11 + 1)))]))
                                    (fun e29 => R (.panicked e29))))
                          (fun e24 => R (.panicked e24))))
                (fun e19 => R (.panicked e19)))
    (RDL (Addr.add za3 0) fun x31 l32 c33 =>
      R (.returned (.bool ((↑zl1 : Int) == (↑l32 : Int)))))
theorem B_ref03_Full_0_eq (W : World) (R : Ending → Hp → Prop) (zp0 : Option Addr) (zl1 : Nat) (zl2 : Nat) (za3 : Addr) (b9 : Bool) (n10 : Int) (n11 : Int) (nx0 : List Value → Hp → Prop) (j : Tm) : vc Pg W 41 rs_37 an_37 false (sub (bodyOf Try.f37) [1, 1, 0, 1, 0, 0]) 0 (KLoop [4, 5, 6] [1, 2, 41] [(.slice zp0 zl1 zl2), (.pointer (some za3)), (.tuple #[])] nx0 (KBlk 0 (KS Pg W 41 rs_37 an_37 false (sub (bodyOf Try.f37) [1, 1, 1]) 0 (fin Pg W 41 rv_37 R)))) (known [4, 5, 6] [(.bool b9), (.int .i64 n10), (.int .i64 n11)] (known [1, 2, 41] [(.slice zp0 zl1 zl2), (.pointer (some za3)), (.tuple #[])] j)) = B_ref03_Full_0 W R zp0 zl1 zl2 za3 b9 n10 n11 nx0 := by kernel_rfl
def N_ref03_Full_0 (I : Bool → Int → Int → Hp → Prop) (μ : Bool → Int → Int → Hp → Nat) (b90 : Bool) (n100 : Int) (n110 : Int) (s : Hp) (vs : List Value) : Hp → Prop := fun s' => ∃ b9 n10 n11, vs = [(.bool b9), (.int .i64 n10), (.int .i64 n11)] ∧ I b9 n10 n11 s' ∧ μ b9 n10 n11 s' < μ b90 n100 n110 s
theorem L_ref03_Full_0_rule (W : World) (R : Ending → Hp → Prop) (zp0 : Option Addr) (zl1 : Nat) (zl2 : Nat) (za3 : Addr) (I : Bool → Int → Int → Hp → Prop) (μ : Bool → Int → Int → Hp → Nat) (b90 : Bool) (n100 : Int) (n110 : Int) (s : Hp) (h0 : I b90 n100 n110 s)
    (hr : ∀ (b9 : Bool) (n10 : Int) (n11 : Int) (s : Hp), I b9 n10 n11 s → B_ref03_Full_0 W R zp0 zl1 zl2 za3 b9 n10 n11 (fun vs => N_ref03_Full_0 I μ b9 n10 n11 s vs) s) : L_ref03_Full_0 W R zp0 zl1 zl2 za3 b90 n100 n110 s := by
  refine ⟨fun vs s => ∃ b9 n10 n11, vs = [(.bool b9), (.int .i64 n10), (.int .i64 n11)] ∧ I b9 n10 n11 s, fun vs s => (match vs with | [.bool b9, .int _ n10, .int _ n11] => μ b9 n10 n11 s | _ => 0), ⟨⟨⟨_, rfl⟩, ⟨⟨_, rfl⟩, ⟨⟨_, rfl⟩, trivial⟩⟩⟩, ⟨_, _, _, rfl, h0⟩⟩, ?_⟩
  intro b9 n10 n11 s hI j
  obtain ⟨b9', n10', n11', hy, hI⟩ := hI
  have hI' : I b9 n10 n11 s := by cases hy; exact hI
  have hh := hr b9 n10 n11 s hI'
  rw [← B_ref03_Full_0_eq W R zp0 zl1 zl2 za3 b9 n10 n11 _ j] at hh
  refine vc_mono ?_ _ _ hh
  exact KLoop_mono (fun vs s' h => by obtain ⟨b91, n101, n111, rfl, h1, h2⟩ := h; exact ⟨⟨⟨_, rfl⟩, ⟨⟨_, rfl⟩, ⟨⟨_, rfl⟩, trivial⟩⟩⟩, ⟨_, _, _, rfl, h1⟩, h2⟩)
def T_ref03_Full (W : World) (x1 : Option Addr) (l2 : Nat) (c3 : Nat) (n4 : Int) (x5 : Option Addr) (l6 : Nat) (c7 : Nat) (R : Ending → Hp → Prop) : Hp → Prop :=
  NEW 24 [(.slice x1 l2 c3), (.int .i64 n4)] fun B8 =>
    L_ref03_Full_0 W R x5 l6 c7 ⟨B8, 0, none⟩ false 0 0
theorem T_ref03_Full_eq (W : World) (x1 : Option Addr) (l2 : Nat) (c3 : Nat) (n4 : Int) (x5 : Option Addr) (l6 : Nat) (c7 : Nat) (R : Ending → Hp → Prop) : vfun Pg W an_37 Try.f37 [(.agg #[(.slice x1 l2 c3), (.int .i64 n4)]), (.slice x5 l6 c7)] R = T_ref03_Full W x1 l2 c3 n4 x5 l6 c7 R := by kernel_rfl
theorem does_ref03_Full (W : World) (x1 : Option Addr) (l2 : Nat) (c3 : Nat) (n4 : Int) (x5 : Option Addr) (l6 : Nat) (c7 : Nat) (R : Ending → Hp → Prop) (s : Hp) (h : T_ref03_Full W x1 l2 c3 n4 x5 l6 c7 R s) : Does Pg W F_ref03_Full #[(.agg #[(.slice x1 l2 c3), (.int .i64 n4)]), (.slice x5 l6 c7)] s R :=
  does_of_vfun Pg W an_37 Try.func37 rfl (by kernel_rfl) (by rw [T_ref03_Full_eq]; exact h)
def an_47 : Nat → Ann := fun b => match b with
  | _ => {}
abbrev rv_47 : List ResultVar := [.tmp 8]
abbrev rs_47 : List Nat := [67, 8]
def T_ref03_Breaks (W : World) (x1 : Option Addr) (l2 : Nat) (c3 : Nat) (n4 : Int) (x5 : Option Addr) (l6 : Nat) (c7 : Nat) (n8 : Int) (n9 : Int) (R : Ending → Hp → Prop) : Hp → Prop :=
  NEW 24 [(.slice x1 l2 c3), (.int .i64 n4)] fun B10 =>
    RDL (Addr.add ⟨B10, 0, none⟩ 0) fun x11 l12 c13 =>
      IXS x5 l6 n8 1 fun a14 =>
        RDI .i64 a14 fun n15 =>
          IXS x11 l12 n15 3 fun a16 =>
            RDI .i64 (Addr.add a16 0) fun n17 =>
              RDB (Addr.add a16 1) fun b18 =>
                RDB (Addr.add a16 2) fun b19 =>
                  NEWZ Pg 51 fun B20 =>
                    ANDS (RDI .i64 (Addr.add a16 0) fun n21 =>
                      RDB (Addr.add a16 1) fun b22 =>
                        RDB (Addr.add a16 2) fun b23 =>
                          fun _ => ((.agg #[(.int .i64 n21), (.bool b22), (.bool b23)]) : Value) = (.agg #[(.int .i64 n17), (.bool b18), (.bool b19)])) <|
                      ANDS (RDI .i64 a14 fun n24 =>
                        fun _ => ((.int .i64 n24) : Value) = (.int .i64 n15)) <|
                        ANDS (RDL (Addr.add ⟨B10, 0, none⟩ 0) fun x25 l26 c27 =>
                          fun _ => ((.slice x25 l26 c27) : Value) = (.slice x11 l12 c13)) <|
                          WR (Addr.add ⟨B20, 0, none⟩ 0) (.int .i64 n17) <|
                            WR (Addr.add ⟨B20, 0, none⟩ 1) (.bool b18) <|
                              WR (Addr.add ⟨B20, 0, none⟩ 2) (.bool b19) <|
                                BR (n9 == 1)
                                  (BR (decide (n8 > 0))
                                    (RDI .i64 (Addr.add ⟨B20, 0, none⟩ 0) fun n28 =>
                                      BR (n28 != 0)
                                        (RDI .i64 (Addr.add ⟨B20, 0, none⟩ 0) fun n29 =>
                                          RDL (Addr.add ⟨B10, 0, none⟩ 0) fun x30 l31 c32 =>
                                            IXS x5 l6 (IntKind.wrap .i64 (n8 - 1)) 1 fun a33 =>
                                              RDI .i64 a33 fun n34 =>
                                                IXS x30 l31 n34 3 fun a35 =>
                                                  RDI .i64 (Addr.add a35 0) fun n36 =>
                                                    R (.returned (.bool (n29 == n36))))
                                        (R (.returned (.bool false))))
                                    (R (.returned (.bool false))))
                                  (BR (n9 == 2)
                                    (RDB (Addr.add ⟨B20, 0, none⟩ 1) fun b37 =>
                                      BR b37
                                        (BR (n8 != 0)
                                          (RDL (Addr.add ⟨B10, 0, none⟩ 0) fun x38 l39 c40 =>
                                            R (.returned (.bool (n8 != (IntKind.wrap .i64 ((↑l39 : Int) - 1))))))
                                          (R (.returned (.bool false))))
                                        (R (.returned (.bool false))))
                                    (RDB (Addr.add ⟨B20, 0, none⟩ 2) fun b41 =>
                                      BR b41
                                        (RDI .i64 (Addr.add ⟨B10, 0, none⟩ 1) fun n42 =>
                                          CALL Pg W F_ref03_Has [(.int .i64 n42), (.int .i64 n8)]
                                            (fun v43 => TYB v43 fun b45 =>
                                              R (.returned (.bool b45)))
                                              (fun e44 => R (.panicked e44)))
                                        (R (.returned (.bool false)))))
theorem T_ref03_Breaks_eq (W : World) (x1 : Option Addr) (l2 : Nat) (c3 : Nat) (n4 : Int) (x5 : Option Addr) (l6 : Nat) (c7 : Nat) (n8 : Int) (n9 : Int) (R : Ending → Hp → Prop) : vfun Pg W an_47 Try.f47 [(.agg #[(.slice x1 l2 c3), (.int .i64 n4)]), (.slice x5 l6 c7), (.int .i64 n8), (.int .i64 n9)] R = T_ref03_Breaks W x1 l2 c3 n4 x5 l6 c7 n8 n9 R := by kernel_rfl
theorem does_ref03_Breaks (W : World) (x1 : Option Addr) (l2 : Nat) (c3 : Nat) (n4 : Int) (x5 : Option Addr) (l6 : Nat) (c7 : Nat) (n8 : Int) (n9 : Int) (R : Ending → Hp → Prop) (s : Hp) (h : T_ref03_Breaks W x1 l2 c3 n4 x5 l6 c7 n8 n9 R s) : Does Pg W F_ref03_Breaks #[(.agg #[(.slice x1 l2 c3), (.int .i64 n4)]), (.slice x5 l6 c7), (.int .i64 n8), (.int .i64 n9)] s R :=
  does_of_vfun Pg W an_47 Try.func47 rfl (by kernel_rfl) (by rw [T_ref03_Breaks_eq]; exact h)
def an_56 : Nat → Ann := fun b => match b with
  | _ => {}
abbrev rv_56 : List ResultVar := [.tmp 6]
abbrev rs_56 : List Nat := [15, 6]
def T_ref03_in (W : World) (n1 : Int) (n2 : Int) (n3 : Int) (R : Ending → Hp → Prop) : Hp → Prop :=
  BR (decide (n2 ≤ n1))
    (R (.returned (.bool (decide (n1 ≤ n3)))))
    (R (.returned (.bool false)))
theorem T_ref03_in_eq (W : World) (n1 : Int) (n2 : Int) (n3 : Int) (R : Ending → Hp → Prop) : vfun Pg W an_56 Try.f56 [(.int .i64 n1), (.int .i64 n2), (.int .i64 n3)] R = T_ref03_in W n1 n2 n3 R := by kernel_rfl
theorem does_ref03_in (W : World) (n1 : Int) (n2 : Int) (n3 : Int) (R : Ending → Hp → Prop) (s : Hp) (h : T_ref03_in W n1 n2 n3 R s) : Does Pg W F_ref03_in #[(.int .i64 n1), (.int .i64 n2), (.int .i64 n3)] s R :=
  does_of_vfun Pg W an_56 Try.func56 rfl (by kernel_rfl) (by rw [T_ref03_in_eq]; exact h)
def an_61 : Nat → Ann := fun b => match b with
  | 0 => { ms := [4, 5], ks := [.b, .i .i64], us := [0, 1, 18], rt := false, ex := [] }
  | _ => {}
abbrev rv_61 : List ResultVar := [.tmp 4]
abbrev rs_61 : List Nat := [18, 4]
def L_ref03_has_0 (W : World) (R : Ending → Hp → Prop) (zp0 : Option Addr) (zl1 : Nat) (zl2 : Nat) (zn3 : Int) (b5 : Bool) (n6 : Int) : Hp → Prop :=
  LOOPN [.b, .i .i64] (fun ys next s => ∀ j : Tm, vc Pg W 18 rs_61 an_61 false (sub (bodyOf Try.f61) [1, 0, 1, 0, 0]) 0 (KLoop [4, 5] [0, 1, 18] [(.slice zp0 zl1 zl2), (.int .i64 zn3), (.tuple #[])] next (KBlk 0 (KS Pg W 18 rs_61 an_61 false (sub (bodyOf Try.f61) [1, 1]) 0 (fin Pg W 18 rv_61 R)))) (known [4, 5] ys (known [0, 1, 18] [(.slice zp0 zl1 zl2), (.int .i64 zn3), (.tuple #[])] j)) s) [(.bool b5), (.int .i64 n6)]
def B_ref03_has_0 (W : World) (R : Ending → Hp → Prop) (zp0 : Option Addr) (zl1 : Nat) (zl2 : Nat) (zn3 : Int) (b5 : Bool) (n6 : Int) (nx0 : List Value → Hp → Prop) : Hp → Prop :=
  BR (decide (n6 < (↑zl1 : Int)))
    (IXS zp0 zl1 n6 1 fun a7 =>
      RDI .i64 a7 fun n8 =>
        BR (n8 == zn3)
          (R (.returned (.bool true)))
          (NX [(.slice zp0 zl1 zl2), (.int .i64 zn3), (.tuple #[])] [(.slice zp0 zl1 zl2), (.int .i64 zn3), (.tuple #[])] (nx0 [(.bool b5), (.int .i64 (IntKind.wrap .i64 (n6 + 1)))])))
    (R (.returned (.bool false)))
theorem B_ref03_has_0_eq (W : World) (R : Ending → Hp → Prop) (zp0 : Option Addr) (zl1 : Nat) (zl2 : Nat) (zn3 : Int) (b5 : Bool) (n6 : Int) (nx0 : List Value → Hp → Prop) (j : Tm) : vc Pg W 18 rs_61 an_61 false (sub (bodyOf Try.f61) [1, 0, 1, 0, 0]) 0 (KLoop [4, 5] [0, 1, 18] [(.slice zp0 zl1 zl2), (.int .i64 zn3), (.tuple #[])] nx0 (KBlk 0 (KS Pg W 18 rs_61 an_61 false (sub (bodyOf Try.f61) [1, 1]) 0 (fin Pg W 18 rv_61 R)))) (known [4, 5] [(.bool b5), (.int .i64 n6)] (known [0, 1, 18] [(.slice zp0 zl1 zl2), (.int .i64 zn3), (.tuple #[])] j)) = B_ref03_has_0 W R zp0 zl1 zl2 zn3 b5 n6 nx0 := by kernel_rfl
def N_ref03_has_0 (I : Bool → Int → Hp → Prop) (μ : Bool → Int → Hp → Nat) (b50 : Bool) (n60 : Int) (s : Hp) (vs : List Value) : Hp → Prop := fun s' => ∃ b5 n6, vs = [(.bool b5), (.int .i64 n6)] ∧ I b5 n6 s' ∧ μ b5 n6 s' < μ b50 n60 s
theorem L_ref03_has_0_rule (W : World) (R : Ending → Hp → Prop) (zp0 : Option Addr) (zl1 : Nat) (zl2 : Nat) (zn3 : Int) (I : Bool → Int → Hp → Prop) (μ : Bool → Int → Hp → Nat) (b50 : Bool) (n60 : Int) (s : Hp) (h0 : I b50 n60 s)
    (hr : ∀ (b5 : Bool) (n6 : Int) (s : Hp), I b5 n6 s → B_ref03_has_0 W R zp0 zl1 zl2 zn3 b5 n6 (fun vs => N_ref03_has_0 I μ b5 n6 s vs) s) : L_ref03_has_0 W R zp0 zl1 zl2 zn3 b50 n60 s := by
  refine ⟨fun vs s => ∃ b5 n6, vs = [(.bool b5), (.int .i64 n6)] ∧ I b5 n6 s, fun vs s => (match vs with | [.bool b5, .int _ n6] => μ b5 n6 s | _ => 0), ⟨⟨⟨_, rfl⟩, ⟨⟨_, rfl⟩, trivial⟩⟩, ⟨_, _, rfl, h0⟩⟩, ?_⟩
  intro b5 n6 s hI j
  obtain ⟨b5', n6', hy, hI⟩ := hI
  have hI' : I b5 n6 s := by cases hy; exact hI
  have hh := hr b5 n6 s hI'
  rw [← B_ref03_has_0_eq W R zp0 zl1 zl2 zn3 b5 n6 _ j] at hh
  refine vc_mono ?_ _ _ hh
  exact KLoop_mono (fun vs s' h => by obtain ⟨b51, n61, rfl, h1, h2⟩ := h; exact ⟨⟨⟨_, rfl⟩, ⟨⟨_, rfl⟩, trivial⟩⟩, ⟨_, _, rfl, h1⟩, h2⟩)
def T_ref03_has (W : World) (x1 : Option Addr) (l2 : Nat) (c3 : Nat) (n4 : Int) (R : Ending → Hp → Prop) : Hp → Prop :=
  L_ref03_has_0 W R x1 l2 c3 n4 false 0
theorem T_ref03_has_eq (W : World) (x1 : Option Addr) (l2 : Nat) (c3 : Nat) (n4 : Int) (R : Ending → Hp → Prop) : vfun Pg W an_61 Try.f61 [(.slice x1 l2 c3), (.int .i64 n4)] R = T_ref03_has W x1 l2 c3 n4 R := by kernel_rfl
theorem does_ref03_has (W : World) (x1 : Option Addr) (l2 : Nat) (c3 : Nat) (n4 : Int) (R : Ending → Hp → Prop) (s : Hp) (h : T_ref03_has W x1 l2 c3 n4 R s) : Does Pg W F_ref03_has #[(.slice x1 l2 c3), (.int .i64 n4)] s R :=
  does_of_vfun Pg W an_61 Try.func61 rfl (by kernel_rfl) (by rw [T_ref03_has_eq]; exact h)
def an_66 : Nat → Ann := fun b => match b with
  | _ => {}
abbrev rv_66 : List ResultVar := [.tmp 4]
abbrev rs_66 : List Nat := [11, 4]
def T_ref03_Man (W : World) (x1 : Option Addr) (l2 : Nat) (c3 : Nat) (n4 : Int) (n5 : Int) (R : Ending → Hp → Prop) : Hp → Prop :=
  NEW 24 [(.slice x1 l2 c3), (.int .i64 n4)] fun B6 =>
    RDL (Addr.add ⟨B6, 0, none⟩ 0) fun x7 l8 c9 =>
      CALL Pg W F_ref03_in [(.int .i64 n5), (.int .i64 0), (.int .i64 (IntKind.wrap .i64 ((↑l8 : Int) - 1)))]
        (fun v10 => TYB v10 fun b12 =>
          R (.returned (.bool b12)))
          (fun e11 => R (.panicked e11))
theorem T_ref03_Man_eq (W : World) (x1 : Option Addr) (l2 : Nat) (c3 : Nat) (n4 : Int) (n5 : Int) (R : Ending → Hp → Prop) : vfun Pg W an_66 Try.f66 [(.agg #[(.slice x1 l2 c3), (.int .i64 n4)]), (.int .i64 n5)] R = T_ref03_Man W x1 l2 c3 n4 n5 R := by kernel_rfl
theorem does_ref03_Man (W : World) (x1 : Option Addr) (l2 : Nat) (c3 : Nat) (n4 : Int) (n5 : Int) (R : Ending → Hp → Prop) (s : Hp) (h : T_ref03_Man W x1 l2 c3 n4 n5 R s) : Does Pg W F_ref03_Man #[(.agg #[(.slice x1 l2 c3), (.int .i64 n4)]), (.int .i64 n5)] s R :=
  does_of_vfun Pg W an_66 Try.func66 rfl (by kernel_rfl) (by rw [T_ref03_Man_eq]; exact h)
def an_68 : Nat → Ann := fun b => match b with
  | 0 => { ms := [3, 4], ks := [.i .i64, .i .i64], us := [0, 13], rt := false, ex := [] }
  | _ => {}
abbrev rv_68 : List ResultVar := [.tmp 2]
abbrev rs_68 : List Nat := [13, 2]
def L_ref03_power_0 (W : World) (R : Ending → Hp → Prop) (zn0 : Int) (n2 : Int) (n3 : Int) : Hp → Prop :=
  LOOPN [.i .i64, .i .i64] (fun ys next s => ∀ j : Tm, vc Pg W 13 rs_68 an_68 false (sub (bodyOf Try.f68) [1, 1, 0, 1, 0, 0]) 0 (KLoop [3, 4] [0, 13] [(.int .i64 zn0), (.tuple #[])] next (KBlk 0 (KS Pg W 13 rs_68 an_68 false (sub (bodyOf Try.f68) [1, 1, 1]) 0 (fin Pg W 13 rv_68 R)))) (known [3, 4] ys (known [0, 13] [(.int .i64 zn0), (.tuple #[])] j)) s) [(.int .i64 n2), (.int .i64 n3)]
def B_ref03_power_0 (W : World) (R : Ending → Hp → Prop) (zn0 : Int) (n2 : Int) (n3 : Int) (nx0 : List Value → Hp → Prop) : Hp → Prop :=
  BR (decide (n3 < zn0))
    (NX [(.int .i64 zn0), (.tuple #[])] [(.int .i64 zn0), (.tuple #[])] (nx0 [(.int .i64 (IntKind.wrap .i64 (2 * n2))), (.int .i64 (IntKind.wrap .i64 (n3 + 1)))]))
    (R (.returned (.int .i64 n2)))
theorem B_ref03_power_0_eq (W : World) (R : Ending → Hp → Prop) (zn0 : Int) (n2 : Int) (n3 : Int) (nx0 : List Value → Hp → Prop) (j : Tm) : vc Pg W 13 rs_68 an_68 false (sub (bodyOf Try.f68) [1, 1, 0, 1, 0, 0]) 0 (KLoop [3, 4] [0, 13] [(.int .i64 zn0), (.tuple #[])] nx0 (KBlk 0 (KS Pg W 13 rs_68 an_68 false (sub (bodyOf Try.f68) [1, 1, 1]) 0 (fin Pg W 13 rv_68 R)))) (known [3, 4] [(.int .i64 n2), (.int .i64 n3)] (known [0, 13] [(.int .i64 zn0), (.tuple #[])] j)) = B_ref03_power_0 W R zn0 n2 n3 nx0 := by kernel_rfl
def N_ref03_power_0 (I : Int → Int → Hp → Prop) (μ : Int → Int → Hp → Nat) (n20 : Int) (n30 : Int) (s : Hp) (vs : List Value) : Hp → Prop := fun s' => ∃ n2 n3, vs = [(.int .i64 n2), (.int .i64 n3)] ∧ I n2 n3 s' ∧ μ n2 n3 s' < μ n20 n30 s
theorem L_ref03_power_0_rule (W : World) (R : Ending → Hp → Prop) (zn0 : Int) (I : Int → Int → Hp → Prop) (μ : Int → Int → Hp → Nat) (n20 : Int) (n30 : Int) (s : Hp) (h0 : I n20 n30 s)
    (hr : ∀ (n2 : Int) (n3 : Int) (s : Hp), I n2 n3 s → B_ref03_power_0 W R zn0 n2 n3 (fun vs => N_ref03_power_0 I μ n2 n3 s vs) s) : L_ref03_power_0 W R zn0 n20 n30 s := by
  refine ⟨fun vs s => ∃ n2 n3, vs = [(.int .i64 n2), (.int .i64 n3)] ∧ I n2 n3 s, fun vs s => (match vs with | [.int _ n2, .int _ n3] => μ n2 n3 s | _ => 0), ⟨⟨⟨_, rfl⟩, ⟨⟨_, rfl⟩, trivial⟩⟩, ⟨_, _, rfl, h0⟩⟩, ?_⟩
  intro n2 n3 s hI j
  obtain ⟨n2', n3', hy, hI⟩ := hI
  have hI' : I n2 n3 s := by cases hy; exact hI
  have hh := hr n2 n3 s hI'
  rw [← B_ref03_power_0_eq W R zn0 n2 n3 _ j] at hh
  refine vc_mono ?_ _ _ hh
  exact KLoop_mono (fun vs s' h => by obtain ⟨n21, n31, rfl, h1, h2⟩ := h; exact ⟨⟨⟨_, rfl⟩, ⟨⟨_, rfl⟩, trivial⟩⟩, ⟨_, _, rfl, h1⟩, h2⟩)
def T_ref03_power (W : World) (n1 : Int) (R : Ending → Hp → Prop) : Hp → Prop :=
  L_ref03_power_0 W R n1 1 0
theorem T_ref03_power_eq (W : World) (n1 : Int) (R : Ending → Hp → Prop) : vfun Pg W an_68 Try.f68 [(.int .i64 n1)] R = T_ref03_power W n1 R := by kernel_rfl
theorem does_ref03_power (W : World) (n1 : Int) (R : Ending → Hp → Prop) (s : Hp) (h : T_ref03_power W n1 R s) : Does Pg W F_ref03_power #[(.int .i64 n1)] s R :=
  does_of_vfun Pg W an_68 Try.func68 rfl (by kernel_rfl) (by rw [T_ref03_power_eq]; exact h)
def an_75 : Nat → Ann := fun b => match b with
  | _ => {}
abbrev rv_75 : List ResultVar := [.tmp 4]
abbrev rs_75 : List Nat := [11, 4]
def T_ref03_Has (W : World) (n1 : Int) (n2 : Int) (R : Ending → Hp → Prop) : Hp → Prop :=
  CALL Pg W F_ref03_power [(.int .i64 n2)]
    (fun v3 => TYI .i64 v3 fun n5 =>
      NZI n5 <|
        R (.returned (.bool ((Int.tmod (IntKind.wrap .i64 (Int.tdiv n1 n5)) 2) == 1))))
      (fun e4 => R (.panicked e4))
theorem T_ref03_Has_eq (W : World) (n1 : Int) (n2 : Int) (R : Ending → Hp → Prop) : vfun Pg W an_75 Try.f75 [(.int .i64 n1), (.int .i64 n2)] R = T_ref03_Has W n1 n2 R := by kernel_rfl
theorem does_ref03_Has (W : World) (n1 : Int) (n2 : Int) (R : Ending → Hp → Prop) (s : Hp) (h : T_ref03_Has W n1 n2 R s) : Does Pg W F_ref03_Has #[(.int .i64 n1), (.int .i64 n2)] s R :=
  does_of_vfun Pg W an_75 Try.func75 rfl (by kernel_rfl) (by rw [T_ref03_Has_eq]; exact h)
def an_79 : Nat → Ann := fun b => match b with
  | 0 => { ms := [5, 6], ks := [.i .i64, .i .i64], us := [1, 2, 4, 26], rt := false, ex := [] }
  | 2 => { ms := [5, 7], ks := [.i .i64, .i .i64], us := [1, 2, 4, 6, 26], rt := false, ex := [] }
  | _ => {}
abbrev rv_79 : List ResultVar := [.tmp 4]
abbrev rs_79 : List Nat := [26, 4]
def L_ref03_broken_0 (W : World) (R : Ending → Hp → Prop) (zp0 : Option Addr) (zl1 : Nat) (zl2 : Nat) (za3 : Addr) (n9 : Int) (n10 : Int) : Hp → Prop :=
  LOOPN [.i .i64, .i .i64] (fun ys next s => ∀ j : Tm, vc Pg W 26 rs_79 an_79 false (sub (bodyOf Try.f79) [1, 1, 0, 1, 0, 0]) 0 (KLoop [5, 6] [1, 2, 4, 26] [(.slice zp0 zl1 zl2), (.pointer (some za3)), (.int .i64 0), (.tuple #[])] next (KBlk 0 (KS Pg W 26 rs_79 an_79 false (sub (bodyOf Try.f79) [1, 1, 1]) 0 (fin Pg W 26 rv_79 R)))) (known [5, 6] ys (known [1, 2, 4, 26] [(.slice zp0 zl1 zl2), (.pointer (some za3)), (.int .i64 0), (.tuple #[])] j)) s) [(.int .i64 n9), (.int .i64 n10)]
def L_ref03_broken_1 (W : World) (R : Ending → Hp → Prop) (nx0 : List Value → Hp → Prop) (zp0 : Option Addr) (zl1 : Nat) (zl2 : Nat) (za3 : Addr) (zn4 : Int) (n11 : Int) (n12 : Int) : Hp → Prop :=
  LOOPN [.i .i64, .i .i64] (fun ys next s => ∀ j : Tm, vc Pg W 26 rs_79 an_79 false (sub (bodyOf Try.f79) [1, 1, 0, 1, 0, 0, 1, 0, 0, 1, 0, 0]) 2 (KLoop [5, 7] [1, 2, 4, 6, 26] [(.slice zp0 zl1 zl2), (.pointer (some za3)), (.int .i64 0), (.int .i64 zn4), (.tuple #[])] next (KBlk 2 (KBlk 1 (KS Pg W 26 rs_79 an_79 false (sub (bodyOf Try.f79) [1, 1, 0, 1, 0, 0, 1, 1]) 0 (KLoop [5, 6] [1, 2, 4, 26] [(.slice zp0 zl1 zl2), (.pointer (some za3)), (.int .i64 0), (.tuple #[])] nx0 (KBlk 0 (KS Pg W 26 rs_79 an_79 false (sub (bodyOf Try.f79) [1, 1, 1]) 0 (fin Pg W 26 rv_79 R)))))))) (known [5, 7] ys (known [1, 2, 4, 6, 26] [(.slice zp0 zl1 zl2), (.pointer (some za3)), (.int .i64 0), (.int .i64 zn4), (.tuple #[])] j)) s) [(.int .i64 n11), (.int .i64 n12)]
def B_ref03_broken_0 (W : World) (R : Ending → Hp → Prop) (zp0 : Option Addr) (zl1 : Nat) (zl2 : Nat) (za3 : Addr) (n9 : Int) (n10 : Int) (nx0 : List Value → Hp → Prop) : Hp → Prop :=
  BR (decide (n10 < (↑zl1 : Int)))
    (L_ref03_broken_1 W R nx0 zp0 zl1 zl2 za3 n10 n9 1)
    (R (.returned (.int .i64 n9)))
theorem B_ref03_broken_0_eq (W : World) (R : Ending → Hp → Prop) (zp0 : Option Addr) (zl1 : Nat) (zl2 : Nat) (za3 : Addr) (n9 : Int) (n10 : Int) (nx0 : List Value → Hp → Prop) (j : Tm) : vc Pg W 26 rs_79 an_79 false (sub (bodyOf Try.f79) [1, 1, 0, 1, 0, 0]) 0 (KLoop [5, 6] [1, 2, 4, 26] [(.slice zp0 zl1 zl2), (.pointer (some za3)), (.int .i64 0), (.tuple #[])] nx0 (KBlk 0 (KS Pg W 26 rs_79 an_79 false (sub (bodyOf Try.f79) [1, 1, 1]) 0 (fin Pg W 26 rv_79 R)))) (known [5, 6] [(.int .i64 n9), (.int .i64 n10)] (known [1, 2, 4, 26] [(.slice zp0 zl1 zl2), (.pointer (some za3)), (.int .i64 0), (.tuple #[])] j)) = B_ref03_broken_0 W R zp0 zl1 zl2 za3 n9 n10 nx0 := by kernel_rfl
def N_ref03_broken_0 (I : Int → Int → Hp → Prop) (μ : Int → Int → Hp → Nat) (n90 : Int) (n100 : Int) (s : Hp) (vs : List Value) : Hp → Prop := fun s' => ∃ n9 n10, vs = [(.int .i64 n9), (.int .i64 n10)] ∧ I n9 n10 s' ∧ μ n9 n10 s' < μ n90 n100 s
theorem L_ref03_broken_0_rule (W : World) (R : Ending → Hp → Prop) (zp0 : Option Addr) (zl1 : Nat) (zl2 : Nat) (za3 : Addr) (I : Int → Int → Hp → Prop) (μ : Int → Int → Hp → Nat) (n90 : Int) (n100 : Int) (s : Hp) (h0 : I n90 n100 s)
    (hr : ∀ (n9 : Int) (n10 : Int) (s : Hp), I n9 n10 s → B_ref03_broken_0 W R zp0 zl1 zl2 za3 n9 n10 (fun vs => N_ref03_broken_0 I μ n9 n10 s vs) s) : L_ref03_broken_0 W R zp0 zl1 zl2 za3 n90 n100 s := by
  refine ⟨fun vs s => ∃ n9 n10, vs = [(.int .i64 n9), (.int .i64 n10)] ∧ I n9 n10 s, fun vs s => (match vs with | [.int _ n9, .int _ n10] => μ n9 n10 s | _ => 0), ⟨⟨⟨_, rfl⟩, ⟨⟨_, rfl⟩, trivial⟩⟩, ⟨_, _, rfl, h0⟩⟩, ?_⟩
  intro n9 n10 s hI j
  obtain ⟨n9', n10', hy, hI⟩ := hI
  have hI' : I n9 n10 s := by cases hy; exact hI
  have hh := hr n9 n10 s hI'
  rw [← B_ref03_broken_0_eq W R zp0 zl1 zl2 za3 n9 n10 _ j] at hh
  refine vc_mono ?_ _ _ hh
  exact KLoop_mono (fun vs s' h => by obtain ⟨n91, n101, rfl, h1, h2⟩ := h; exact ⟨⟨⟨_, rfl⟩, ⟨⟨_, rfl⟩, trivial⟩⟩, ⟨_, _, rfl, h1⟩, h2⟩)
def B_ref03_broken_1 (W : World) (R : Ending → Hp → Prop) (nx0 : List Value → Hp → Prop) (zp0 : Option Addr) (zl1 : Nat) (zl2 : Nat) (za3 : Addr) (zn4 : Int) (n11 : Int) (n12 : Int) (nx1 : List Value → Hp → Prop) : Hp → Prop :=
  BR (decide (n12 ≤ 3))
    (RDL (Addr.add za3 0) fun x13 l14 c15 =>
      RDI .i64 (Addr.add za3 1) fun n16 =>
        CALL Pg W F_ref03_Breaks [(.agg #[(.slice x13 l14 c15), (.int .i64 n16)]), (.slice zp0 zl1 zl2), (.int .i64 zn4), (.int .i64 n12)]
          (fun v17 => TYB v17 fun b19 =>
            BR b19
              (NX [(.slice zp0 zl1 zl2), (.pointer (some za3)), (.int .i64 0), (.int .i64 zn4), (.tuple #[])] [(.slice zp0 zl1 zl2), (.pointer (some za3)), (.int .i64 0), (.int .i64 zn4), (.tuple #[])] (nx1 [(.int .i64 (IntKind.wrap .i64 (n11 + 1))), (.int .i64 (IntKind.wrap .i64 (n12 + 1)))]))
              (NX [(.slice zp0 zl1 zl2), (.pointer (some za3)), (.int .i64 0), (.int .i64 zn4), (.tuple #[])] [(.slice zp0 zl1 zl2), (.pointer (some za3)), (.int .i64 0), (.int .i64 zn4), (.tuple #[])] (nx1 [(.int .i64 n11), (.int .i64 (IntKind.wrap .i64 (n12 + 1)))])))
            (fun e18 => R (.panicked e18)))
    (NX [(.slice zp0 zl1 zl2), (.pointer (some za3)), (.int .i64 0), (.tuple #[])] [(.slice zp0 zl1 zl2), (.pointer (some za3)), (.int .i64 0), (.tuple #[])] (nx0 [(.int .i64 n11), (.int .i64 (IntKind.wrap .i64 (zn4 + 1)))]))
theorem B_ref03_broken_1_eq (W : World) (R : Ending → Hp → Prop) (nx0 : List Value → Hp → Prop) (zp0 : Option Addr) (zl1 : Nat) (zl2 : Nat) (za3 : Addr) (zn4 : Int) (n11 : Int) (n12 : Int) (nx1 : List Value → Hp → Prop) (j : Tm) : vc Pg W 26 rs_79 an_79 false (sub (bodyOf Try.f79) [1, 1, 0, 1, 0, 0, 1, 0, 0, 1, 0, 0]) 2 (KLoop [5, 7] [1, 2, 4, 6, 26] [(.slice zp0 zl1 zl2), (.pointer (some za3)), (.int .i64 0), (.int .i64 zn4), (.tuple #[])] nx1 (KBlk 2 (KBlk 1 (KS Pg W 26 rs_79 an_79 false (sub (bodyOf Try.f79) [1, 1, 0, 1, 0, 0, 1, 1]) 0 (KLoop [5, 6] [1, 2, 4, 26] [(.slice zp0 zl1 zl2), (.pointer (some za3)), (.int .i64 0), (.tuple #[])] nx0 (KBlk 0 (KS Pg W 26 rs_79 an_79 false (sub (bodyOf Try.f79) [1, 1, 1]) 0 (fin Pg W 26 rv_79 R)))))))) (known [5, 7] [(.int .i64 n11), (.int .i64 n12)] (known [1, 2, 4, 6, 26] [(.slice zp0 zl1 zl2), (.pointer (some za3)), (.int .i64 0), (.int .i64 zn4), (.tuple #[])] j)) = B_ref03_broken_1 W R nx0 zp0 zl1 zl2 za3 zn4 n11 n12 nx1 := by kernel_rfl
def N_ref03_broken_1 (I : Int → Int → Hp → Prop) (μ : Int → Int → Hp → Nat) (n110 : Int) (n120 : Int) (s : Hp) (vs : List Value) : Hp → Prop := fun s' => ∃ n11 n12, vs = [(.int .i64 n11), (.int .i64 n12)] ∧ I n11 n12 s' ∧ μ n11 n12 s' < μ n110 n120 s
theorem L_ref03_broken_1_rule (W : World) (R : Ending → Hp → Prop) (nx0 : List Value → Hp → Prop) (zp0 : Option Addr) (zl1 : Nat) (zl2 : Nat) (za3 : Addr) (zn4 : Int) (I : Int → Int → Hp → Prop) (μ : Int → Int → Hp → Nat) (n110 : Int) (n120 : Int) (s : Hp) (h0 : I n110 n120 s)
    (hr : ∀ (n11 : Int) (n12 : Int) (s : Hp), I n11 n12 s → B_ref03_broken_1 W R nx0 zp0 zl1 zl2 za3 zn4 n11 n12 (fun vs => N_ref03_broken_1 I μ n11 n12 s vs) s) : L_ref03_broken_1 W R nx0 zp0 zl1 zl2 za3 zn4 n110 n120 s := by
  refine ⟨fun vs s => ∃ n11 n12, vs = [(.int .i64 n11), (.int .i64 n12)] ∧ I n11 n12 s, fun vs s => (match vs with | [.int _ n11, .int _ n12] => μ n11 n12 s | _ => 0), ⟨⟨⟨_, rfl⟩, ⟨⟨_, rfl⟩, trivial⟩⟩, ⟨_, _, rfl, h0⟩⟩, ?_⟩
  intro n11 n12 s hI j
  obtain ⟨n11', n12', hy, hI⟩ := hI
  have hI' : I n11 n12 s := by cases hy; exact hI
  have hh := hr n11 n12 s hI'
  rw [← B_ref03_broken_1_eq W R nx0 zp0 zl1 zl2 za3 zn4 n11 n12 _ j] at hh
  refine vc_mono ?_ _ _ hh
  exact KLoop_mono (fun vs s' h => by obtain ⟨n111, n121, rfl, h1, h2⟩ := h; exact ⟨⟨⟨_, rfl⟩, ⟨⟨_, rfl⟩, trivial⟩⟩, ⟨_, _, rfl, h1⟩, h2⟩)
def T_ref03_broken (W : World) (x1 : Option Addr) (l2 : Nat) (c3 : Nat) (n4 : Int) (x5 : Option Addr) (l6 : Nat) (c7 : Nat) (R : Ending → Hp → Prop) : Hp → Prop :=
  NEW 24 [(.slice x1 l2 c3), (.int .i64 n4)] fun B8 =>
    L_ref03_broken_0 W R x5 l6 c7 ⟨B8, 0, none⟩ 0 0
theorem T_ref03_broken_eq (W : World) (x1 : Option Addr) (l2 : Nat) (c3 : Nat) (n4 : Int) (x5 : Option Addr) (l6 : Nat) (c7 : Nat) (R : Ending → Hp → Prop) : vfun Pg W an_79 Try.f79 [(.agg #[(.slice x1 l2 c3), (.int .i64 n4)]), (.slice x5 l6 c7)] R = T_ref03_broken W x1 l2 c3 n4 x5 l6 c7 R := by kernel_rfl
theorem does_ref03_broken (W : World) (x1 : Option Addr) (l2 : Nat) (c3 : Nat) (n4 : Int) (x5 : Option Addr) (l6 : Nat) (c7 : Nat) (R : Ending → Hp → Prop) (s : Hp) (h : T_ref03_broken W x1 l2 c3 n4 x5 l6 c7 R s) : Does Pg W F_ref03_broken #[(.agg #[(.slice x1 l2 c3), (.int .i64 n4)]), (.slice x5 l6 c7)] s R :=
  does_of_vfun Pg W an_79 Try.func79 rfl (by kernel_rfl) (by rw [T_ref03_broken_eq]; exact h)
end Go.Proofs.Ytocnkdkgajdejaa.G

/- Contracts of the document's functions: numbers. -/
set_option linter.unusedSimpArgs false
set_option linter.unusedVariables false
set_option maxRecDepth 20000
namespace Go.Proofs.Ytocnkdkgajdejaa.G
open Go.V Go.Lot

section
variable {W : World} {K : VK} {E : List PanicEntry → Hp → Prop} {s : Hp} {L : Lts}
theorem f_in {a b c : Int} (h : K (.bool (decide (b ≤ a ∧ a ≤ c))) s) : CALL Pg W F_ref03_in [.int .i64 a, .int .i64 b, .int .i64 c] K E s := by
  refine does_ref03_in W a b c _ s ?_
  refine BR_dec (fun h1 => ?_) (fun h1 => ?_)
  · show K _ s
    have : decide (b ≤ a ∧ a ≤ c) = decide (a ≤ c) := by simp [h1]
    rw [← this]; exact h
  · show K _ s
    have : decide (b ≤ a ∧ a ≤ c) = false := by simp [h1]
    rw [← this]; exact h
theorem f_power {n : Nat} (hn : n ≤ 40) (h : K (.int .i64 ((2 ^ n : Nat) : Int)) s) : CALL Pg W F_ref03_power [.int .i64 n] K E s := by
  refine does_ref03_power W n _ s ?_
  refine L_ref03_power_0_rule W _ n (fun n2 n3 t => t = s ∧ ∃ k : Nat, k ≤ n ∧ n3 = k ∧ n2 = ((2 ^ k : Nat) : Int)) (fun _ n3 _ => (n - n3).toNat) 1 0 s ⟨rfl, 0, by omega, rfl, rfl⟩ ?_
  rintro n2 n3 t ⟨rfl, k, hk, rfl, rfl⟩
  unfold B_ref03_power_0
  refine BR_dec (fun h1 => ?_) (fun h1 => ?_)
  · have hp : 2 ^ k ≤ 2 ^ 40 := Nat.pow_le_pow_right (by omega) (by omega)
    have hs : 2 ^ (k + 1) = 2 * 2 ^ k := by rw [Nat.pow_succ, Nat.mul_comm]
    refine ⟨rfl, _, _, rfl, ⟨rfl, k + 1, by omega, ?_, ?_⟩, ?_⟩
    · rw [wrap_i64 (by omega) (by omega)]; rfl
    · rw [hs]
      generalize 2 ^ k = P at *
      rw [wrap_i64 (by omega) (by omega)]; omega
    · show ((n : Int) - IntKind.i64.wrap ((k : Int) + 1)).toNat < ((n : Int) - k).toNat
      rw [wrap_i64 (by omega) (by omega)]; omega
  · have : k = n := by omega
    subst this
    exact h
theorem f_Has {w i : Nat} (hw : w < 2 ^ 40) (hi : i ≤ 40) (h : K (.bool (w.testBit i)) s) : CALL Pg W F_ref03_Has [.int .i64 w, .int .i64 i] K E s := by
  refine does_ref03_Has W w i _ s ?_
  unfold T_ref03_Has
  refine f_power hi ?_
  try simp only [TUP_mk, AGG_mk, HD_mk, NL_mk, TYI_mk, TYB_mk, TYP_mk, TYL_mk, TYS_mk, TYM_mk, SO_mk, NX_mk, endK_mk, endK_mk', add_0]
  have hp : 0 < 2 ^ i := Nat.pos_of_ne_zero (by simp)
  have hb : w.testBit i = decide (w / 2 ^ i % 2 = 1) := Nat.testBit_eq_decide_div_mod_eq
  have hfin : K (.bool ((Int.tmod (IntKind.wrap .i64 (Int.tdiv (w : Int) ((2 ^ i : Nat) : Int))) 2) == 1)) s := by
    have e1 : Int.tdiv (w : Int) ((2 ^ i : Nat) : Int) = ((w / 2 ^ i : Nat) : Int) := by
      rw [Int.tdiv_eq_ediv_of_nonneg (by omega)]; rfl
    have hle : w / 2 ^ i ≤ w := Nat.div_le_self _ _
    rw [e1]
    rw [hb] at h
    generalize w / 2 ^ i = Q at *
    rw [wrap_i64 (by omega) (by omega), Int.tmod_eq_emod_of_nonneg (by omega)]
    have : (((Q : Int) % 2) == 1) = decide (Q % 2 = 1) := by
      by_cases hc : Q % 2 = 1
      · have : (Q : Int) % 2 = 1 := by omega
        simp [hc, this]
      · have : ¬ (Q : Int) % 2 = 1 := by omega
        simp [hc, this]
    rw [this]; exact h
  obtain ⟨q, hq'⟩ : ∃ q, 2 ^ i = q + 1 := ⟨2 ^ i - 1, by omega⟩
  rw [hq'] at hfin ⊢
  exact hfin
end
end Go.Proofs.Ytocnkdkgajdejaa.G
