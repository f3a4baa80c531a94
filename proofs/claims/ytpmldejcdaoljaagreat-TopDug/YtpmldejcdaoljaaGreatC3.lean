import Derived.Test.YtpmldejcdaoljaaGreatC2
/- Lemmas: contracts over the visible heap, and that they are sound; no condition. -/
set_option linter.unusedSimpArgs false
set_option linter.unusedVariables false
set_option maxRecDepth 100000
namespace Go.V
theorem BR_t (x y : Hp → Prop) : BR true x y = x := rfl
theorem BR_f (x y : Hp → Prop) : BR false x y = y := rfl
theorem wrap_succ {k : Nat} (h : k < 1000000000) : IntKind.i64.wrap ((k : Int) + 1) = ((k + 1 : Nat) : Int) := by rw [wrap_i64 (by omega) (by omega)]; rfl
theorem ms_succ {k n : Nat} (h : k < n) (h2 : n ≤ 1000000000) : ((n : Int) - IntKind.i64.wrap ((k : Int) + 1)).toNat < ((n : Int) - (k : Int)).toNat := by rw [wrap_succ (by omega)]; omega
theorem toNat_nat (k : Nat) : ((k : Nat) : Int).toNat = k := Int.toNat_natCast k
theorem NNI_of {b : Int} {K : Hp → Prop} {s : Hp} (hb : 0 ≤ b) (h : K s) : NNI b K s := by
  obtain ⟨n, rfl⟩ := Int.eq_ofNat_of_zero_le hb
  exact h
section
variable {s s0 s' : Hp} {K : Hp → Prop}
theorem ext_kp {b : Nat} (e : Ext s0 s) (h : s0.size ≤ b) (k : Kp (· = b) s s') : Ext s0 s' := ⟨Nat.le_trans e.1 k.1, fun q hq => by
  rw [k.2 q (Nat.lt_of_lt_of_le hq e.1) (fun hh => by have h2 : q = b := hh; omega)]; exact e.2 q hq⟩
theorem kp_nil {C : Nat → Prop} (e : Ext s0 s) (h : ∀ b, C b → s0.size ≤ b) (k : Kp C s s') : Ext s0 s' := ⟨Nat.le_trans e.1 k.1, fun q hq => by
  rw [k.2 q (Nat.lt_of_lt_of_le hq e.1) (fun hh => by have := h q hh; omega)]; exact e.2 q hq⟩
theorem wr1 {a : Addr} {v y : Value} (ha : Own s a y) (h0 : oneCell v = true) (h : ∀ s', Kp (· = a.block) s s' → s'.size = s.size → Own s' a v → K s') : WR a v K s :=
  WR_own ha h0 (h _ (Kp.setC (Kp.refl s) (.inl rfl)) (setC_size _ _ _) (own_set ha))
end
section
variable {P : Program} {s : Hp} {t : TypeId}
theorem nw1 {z0 v0 : Value} {K : Nat → Hp → Prop} (hz : zc P t = [z0]) (h0 : oneCell v0 = true) (h : ∀ s', Ext s s' → s'.size = s.size + 1 → Own s' ⟨s.size, 0, none⟩ v0 → K s.size s') :
    NEWZ P t (fun B => WR (Addr.add ⟨B, 0, none⟩ 0) v0 (K B)) s := by
  refine NEWZ_rule hz fun s1 e1 z1 n1 => ?_
  refine wr1 (a := ⟨s.size, 0, none⟩) (n1 0 _ rfl) h0 fun s2 k2 z2 o2 => ?_
  exact h s2 (ext_kp e1 (Nat.le_refl _) k2) (by omega) o2
theorem nwN {cs vs : List Value} {K : Nat → Hp → Prop} (hz : zc P t = cs) (hl : vs.length = cs.length) (hv : ∀ v ∈ vs, oneCell v = true) (h : ∀ s', Ext s s' → s'.size = s.size + 1 → (∀ i (h : i < vs.length), Own s' ⟨s.size, i, none⟩ vs[i]) → K s.size s') :
    NEWZ P t (fun B => wrN vs ⟨B, 0, none⟩ 0 (K B)) s := by
  refine NEWZ_rule hz fun s1 e1 z1 n1 => ?_
  refine wrN_rule vs _ 0 _ s1 (fun i hi => ⟨cs[i]'(by omega), ?_⟩) hv fun s2 k2 z2 o2 _ => ?_
  · have := n1 i cs[i] (List.getElem?_eq_getElem (by omega))
    rw [add_nil, Nat.zero_add, Nat.zero_add]; exact this
  · refine h s2 (ext_kp e1 (Nat.le_refl _) k2) (by omega) fun i hi => ?_
    have := o2 i hi
    rw [add_nil, Nat.zero_add, Nat.zero_add] at this; exact this
theorem nw2 {z0 z1 v0 v1 : Value} {K : Nat → Hp → Prop} (hz : zc P t = [z0, z1]) (h0 : oneCell v0 = true) (h1 : oneCell v1 = true) (h : ∀ s', Ext s s' → s'.size = s.size + 1 → Own s' ⟨s.size, 0, none⟩ v0 → Own s' ⟨s.size, 1, none⟩ v1 → K s.size s') :
    NEWZ P t (fun B => WR (Addr.add ⟨B, 0, none⟩ 0) v0 (WR (Addr.add ⟨B, 0, none⟩ 1) v1 (K B))) s :=
  nwN (vs := [v0, v1]) hz rfl (by simp [h0, h1]) fun s' e z o => h s' e z (o 0 (by simp)) (o 1 (by simp))
theorem nw3 {z0 z1 z2 v0 v1 v2 : Value} {K : Nat → Hp → Prop} (hz : zc P t = [z0, z1, z2]) (h0 : oneCell v0 = true) (h1 : oneCell v1 = true) (h2 : oneCell v2 = true) (h : ∀ s', Ext s s' → s'.size = s.size + 1 → Own s' ⟨s.size, 0, none⟩ v0 → Own s' ⟨s.size, 1, none⟩ v1 → Own s' ⟨s.size, 2, none⟩ v2 → K s.size s') :
    NEWZ P t (fun B => WR (Addr.add ⟨B, 0, none⟩ 0) v0 (WR (Addr.add ⟨B, 0, none⟩ 1) v1 (WR (Addr.add ⟨B, 0, none⟩ 2) v2 (K B)))) s :=
  nwN (vs := [v0, v1, v2]) hz rfl (by simp [h0, h1, h2]) fun s' e z o => h s' e z (o 0 (by simp)) (o 1 (by simp)) (o 2 (by simp))
theorem nw4 {z0 z1 z2 z3 v0 v1 v2 v3 : Value} {K : Nat → Hp → Prop} (hz : zc P t = [z0, z1, z2, z3]) (h0 : oneCell v0 = true) (h1 : oneCell v1 = true) (h2 : oneCell v2 = true) (h3 : oneCell v3 = true) (h : ∀ s', Ext s s' → s'.size = s.size + 1 → Own s' ⟨s.size, 0, none⟩ v0 → Own s' ⟨s.size, 1, none⟩ v1 → Own s' ⟨s.size, 2, none⟩ v2 → Own s' ⟨s.size, 3, none⟩ v3 → K s.size s') :
    NEWZ P t (fun B => WR (Addr.add ⟨B, 0, none⟩ 0) v0 (WR (Addr.add ⟨B, 0, none⟩ 1) v1 (WR (Addr.add ⟨B, 0, none⟩ 2) v2 (WR (Addr.add ⟨B, 0, none⟩ 3) v3 (K B))))) s :=
  nwN (vs := [v0, v1, v2, v3]) hz rfl (by simp [h0, h1, h2, h3]) fun s' e z o => h s' e z (o 0 (by simp)) (o 1 (by simp)) (o 2 (by simp)) (o 3 (by simp))
theorem nz1 {v0 : Value} {K : Nat → Hp → Prop} (hz : zc P t = [v0]) (h : ∀ s', Ext s s' → s'.size = s.size + 1 → Own s' ⟨s.size, 0, none⟩ v0 → K s.size s') : NEWZ P t K s :=
  NEWZ_rule hz fun s1 e1 z1 n1 => h s1 e1 z1 (n1 0 _ rfl)
theorem nz2 {v0 v1 : Value} {K : Nat → Hp → Prop} (hz : zc P t = [v0, v1]) (h : ∀ s', Ext s s' → s'.size = s.size + 1 → Own s' ⟨s.size, 0, none⟩ v0 → Own s' ⟨s.size, 1, none⟩ v1 → K s.size s') : NEWZ P t K s :=
  NEWZ_rule hz fun s1 e1 z1 n1 => h s1 e1 z1 (n1 0 _ rfl) (n1 1 _ rfl)
theorem nz4 {v0 v1 v2 v3 : Value} {K : Nat → Hp → Prop} (hz : zc P t = [v0, v1, v2, v3]) (h : ∀ s', Ext s s' → s'.size = s.size + 1 → Own s' ⟨s.size, 0, none⟩ v0 → Own s' ⟨s.size, 1, none⟩ v1 → Own s' ⟨s.size, 2, none⟩ v2 → Own s' ⟨s.size, 3, none⟩ v3 → K s.size s') : NEWZ P t K s :=
  NEWZ_rule hz fun s1 e1 z1 n1 => h s1 e1 z1 (n1 0 _ rfl) (n1 1 _ rfl) (n1 2 _ rfl) (n1 3 _ rfl)
theorem ne1 {v0 : Value} {K : Nat → Hp → Prop} (h : ∀ s', Ext s s' → s'.size = s.size + 1 → Own s' ⟨s.size, 0, none⟩ v0 → K s.size s') : NEW t [v0] K s :=
  NEW_rule fun s1 e1 z1 n1 _ => h s1 e1 z1 (n1 0 _ rfl)
theorem ne2 {v0 v1 : Value} {K : Nat → Hp → Prop} (h : ∀ s', Ext s s' → s'.size = s.size + 1 → Own s' ⟨s.size, 0, none⟩ v0 → Own s' ⟨s.size, 1, none⟩ v1 → K s.size s') : NEW t [v0, v1] K s :=
  NEW_rule fun s1 e1 z1 n1 _ => h s1 e1 z1 (n1 0 _ rfl) (n1 1 _ rfl)
theorem ne4 {v0 v1 v2 v3 : Value} {K : Nat → Hp → Prop} (h : ∀ s', Ext s s' → s'.size = s.size + 1 → Own s' ⟨s.size, 0, none⟩ v0 → Own s' ⟨s.size, 1, none⟩ v1 → Own s' ⟨s.size, 2, none⟩ v2 → Own s' ⟨s.size, 3, none⟩ v3 → K s.size s') : NEW t [v0, v1, v2, v3] K s :=
  NEW_rule fun s1 e1 z1 n1 _ => h s1 e1 z1 (n1 0 _ rfl) (n1 1 _ rfl) (n1 2 _ rfl) (n1 3 _ rfl)
end
theorem IXS_nat {a : Addr} {l i es : Nat} {K : Addr → Hp → Prop} {s : Hp} (h : i < l) (hk : K (a.add (i * es)) s) : IXS (some a) l (i : Int) es K s := ⟨a, rfl, ⟨by omega, by omega⟩, hk⟩
theorem BR_ff {c : Bool} {x y : Hp → Prop} {s : Hp} (h : c = false) (hk : y s) : BR c x y s := by rw [h]; exact hk
theorem BR_tt {c : Bool} {x y : Hp → Prop} {s : Hp} (h : c = true) (hk : x s) : BR c x y s := by rw [h]; exact hk
theorem ANDS_i {x K : Hp → Prop} {s : Hp} (h : x s) (k : K s) : ANDS x K s := ⟨h, k⟩
theorem CONJ_one {a : Hp → Prop} {s : Hp} (h : a s) : CONJ [a] s := h
theorem CONJ_more {s : Hp} {a b : Hp → Prop} {l : List (Hp → Prop)} (h1 : a s) (h2 : CONJ (b :: l) s) : CONJ (a :: b :: l) s := ⟨h1, h2⟩
end Go.V
namespace Go.Proofs.YtpmldejcdaoljaaGreat.G.Ck
open Go.Proofs.YtpmldejcdaoljaaGreat.G Go.V
abbrev Ky := Int × Int
abbrev Pr := Ky × Int
theorem und_93 : Pg.underlying 137 = some (.map 184 3) := by kernel_rfl
theorem und_3 : Pg.underlying 3 = some (.int .i64) := by kernel_rfl
theorem zc_111 : zc Pg 184 = [.int .i64 0, .int .i64 0] := by kernel_rfl
def keyV (k : Ky) : Value := .agg #[.int .i64 k.1, .int .i64 k.2]
abbrev intV (n : Int) : Value := .int .i64 n
theorem check_key (b : Bool) (k : Ky) (K : Unit → Hp → Prop) (E : Value → Hp → Prop) (s : Hp) : sp Pg (Instr.checkKey b 10000 184 (keyV k)) K E s = K () s := by kernel_rfl
theorem flat_111 : flatN Pg 24 184 = some [.i .i64, .i .i64] := by kernel_rfl
theorem ag_111 : agO Pg 184 = some true := by kernel_rfl
theorem zero_3 (K : Value → Hp → Prop) (E : Value → Hp → Prop) (s : Hp) : sp Pg (zeroValue 3) K E s = K (.int .i64 0) s := by kernel_rfl
theorem eq_key {k k' : Ky} {K : Bool → Hp → Prop} {E : Value → Hp → Prop} {s : Hp} (h : K (decide (k = k')) s) : sp Pg (Op.equal 184 (keyV k) (keyV k')) K E s := by
  refine sp_of_spq Pg _ _ _ _ ?_
  have hr : eqL [.i .i64, .i .i64] [.int .i64 k.1, .int .i64 k.2] [.int .i64 k'.1, .int .i64 k'.2] = some (k.1 == k'.1 && k.2 == k'.2) := by simp [eqL, eq1]
  have hd : decide (k = k') = (k.1 == k'.1 && k.2 == k'.2) := by
    obtain ⟨a, b⟩ := k
    obtain ⟨c, d⟩ := k'
    by_cases h1 : a = c <;> by_cases h2 : b = d <;> simp [h1, h2]
  refine (flat_eq 24).1 184 _ 10000 _ _ [.int .i64 k.1, .int .i64 k.2] [.int .i64 k'.1, .int .i64 k'.2] _ _ (by omega) flat_111 (.inl ⟨ag_111, rfl⟩) (.inl ⟨ag_111, rfl⟩) (eqL_eqK _ _ _ _ hr) ?_
  rw [hd] at h; exact h
theorem und_111 : ∃ d, Pg.underlying 184 = some d := Option.isSome_iff_exists.1 (show (Pg.underlying 184).isSome = true by kernel_rfl)
structure Holds (es : Array MapEntry) (cl : Nat) (l : List Pr) : Prop where
  all : es.toList.map (fun e => (e.key, e.val)) = l.map fun x => (keyV x.1, intV x.2)
  born : ∀ e ∈ es.toList, e.born < cl
  nod : (es.toList.map (·.born)).Nodup
  keys : (l.map (·.1)).Nodup
def findA (k : Ky) : List Pr → Nat → Option (Nat × Int)
  | [], _ => none
  | x :: r, i => if k = x.1 then some (i, x.2) else findA k r (i + 1)
theorem find_ask {k : Ky} {K : Option (Nat × Value) → Hp → Prop} {E : Value → Hp → Prop} {s : Hp} : ∀ (l : List Pr) (es : List MapEntry) (i : Nat), es.map (fun e => (e.key, e.val)) = l.map (fun x => (keyV x.1, intV x.2)) → K ((findA k l i).map fun x => (x.1, intV x.2)) s → sp Pg (Instr.findAsking 184 (keyV k) es i) K E s
  | [], [], i, _, h => h
  | [], e :: es, i, h, _ => by simp at h
  | x :: l, [], i, h, _ => by simp at h
  | x :: l, e :: es, i, h, hk => by
    simp only [List.map_cons, List.cons.injEq, Prod.mk.injEq] at h
    obtain ⟨⟨h1, h2⟩, h3⟩ := h
    unfold Instr.findAsking
    rw [sp_bind, h1]
    refine eq_key ?_
    unfold findA at hk
    by_cases he : k = x.1
    · rw [if_pos he] at hk
      rw [decide_eq_true he]
      simp only [if_true]
      rw [h2]; exact hk
    · rw [if_neg he] at hk
      rw [decide_eq_false he]
      simp only [Bool.false_eq_true, if_false]
      exact find_ask l es (i + 1) h3 hk
theorem find_key {k : Ky} {K : Option (Nat × Value) → Hp → Prop} {E : Value → Hp → Prop} {s : Hp} {cl : Nat} {l : List Pr} {es : Array MapEntry} (h : Holds es cl l) (hk : K ((findA k l 0).map fun x => (x.1, intV x.2)) s) : sp Pg (Instr.findKey 184 (keyV k) es.toList) K E s := by
  obtain ⟨d, hd⟩ := und_111
  unfold Instr.findKey
  rw [sp_bind, sp_und hd]
  cases he : es.toList with
  | nil =>
    have hl : l = [] := by have := h.all; rw [he] at this; simpa using this.symm
    subst hl
    exact hk
  | cons e r =>
    have hn : Instr.findNow d (keyV k) (e :: r) 0 = none := by
      unfold Instr.findNow
      have : Instr.sameNow d (keyV k) e.key = none := by cases d <;> rfl
      rw [this]
    rw [hn]
    refine find_ask l (e :: r) 0 ?_ hk
    rw [← he]; exact h.all
theorem findA_some {k : Ky} : ∀ (l : List Pr) (i j : Nat) (v : Int), findA k l i = some (j, v) → ∃ n, ∃ h : n < l.length, j = i + n ∧ l[n] = (k, v)
  | [], _, _, _, h => by cases h
  | x :: r, i, j, v, h => by
    unfold findA at h
    by_cases he : k = x.1
    · rw [if_pos he] at h
      cases h
      exact ⟨0, by simp, rfl, by rw [he]; rfl⟩
    · rw [if_neg he] at h
      obtain ⟨n, hn, h1, h2⟩ := findA_some r (i + 1) j v h
      exact ⟨n + 1, by simp; omega, by omega, by simpa using h2⟩
theorem findA_none {k : Ky} : ∀ (l : List Pr) (i : Nat), findA k l i = none ↔ ∀ x ∈ l, x.1 ≠ k
  | [], _ => by simp [findA]
  | x :: r, i => by
    unfold findA
    by_cases he : k = x.1
    · rw [if_pos he]
      simp [he]
    · rw [if_neg he, findA_none r (i + 1)]
      simp only [List.mem_cons, forall_eq_or_imp]
      exact ⟨fun h => ⟨fun e => he e.symm, h⟩, fun h => h.2⟩
def get (l : List Pr) (k : Ky) : Option Int := (findA k l 0).map (·.2)
def put (l : List Pr) (k : Ky) (v : Int) : List Pr := match findA k l 0 with | some (i, _) => l.set i (k, v) | none => l ++ [(k, v)]
theorem nodup_ne {α : Type} {l : List α} (h : l.Nodup) : ∀ i j, i < j → j < l.length → l[i]? ≠ l[j]? := fun i j h1 h2 e => by
  have := List.pairwise_iff_getElem.1 h i j (by omega) h2 h1
  rw [List.getElem?_eq_getElem (by omega), List.getElem?_eq_getElem h2] at e
  exact this (Option.some.inj e)
theorem get_mem {l : List Pr} {k : Ky} {v : Int} (hn : (l.map (·.1)).Nodup) : get l k = some v ↔ (k, v) ∈ l := by
  unfold get
  constructor
  · intro h
    cases hf : findA k l 0 with
    | none => rw [hf] at h; cases h
    | some x =>
      obtain ⟨j, w⟩ := x
      rw [hf] at h
      cases h
      obtain ⟨n, hn, _, h2⟩ := findA_some l 0 j _ hf
      exact h2 ▸ List.getElem_mem hn
  · intro h
    cases hf : findA k l 0 with
    | none => exact absurd rfl ((findA_none l 0).1 hf _ h)
    | some x =>
      obtain ⟨j, w⟩ := x
      obtain ⟨n, hl, _, h2⟩ := findA_some l 0 j _ hf
      obtain ⟨n', hl', h3⟩ := List.getElem_of_mem h
      have e : n = n' := by
        have := nodup_ne hn
        rcases Nat.lt_trichotomy n n' with hlt | he | hlt
        · exact absurd (by rw [List.getElem?_map, List.getElem?_map, List.getElem?_eq_getElem hl, List.getElem?_eq_getElem hl', h2, h3]; rfl) (this n n' hlt (by simpa using hl'))
        · exact he
        · exact absurd (by rw [List.getElem?_map, List.getElem?_map, List.getElem?_eq_getElem hl, List.getElem?_eq_getElem hl', h2, h3]; rfl) (this n' n hlt (by simpa using hl))
      subst e
      rw [h2] at h3
      cases h3
      rfl
theorem findA_key {k : Ky} {i j : Nat} {w : Int} {l : List Pr} (h : findA k l 0 = some (j, w)) : ∃ hj : j < l.length, l[j] = (k, w) := by
  obtain ⟨n, hn, h1, h2⟩ := findA_some l 0 j w h
  have : j = n := by omega
  subst this
  exact ⟨hn, h2⟩
theorem put_keys {l : List Pr} {k : Ky} {v : Int} (hn : (l.map (·.1)).Nodup) : ((put l k v).map (·.1)).Nodup := by
  unfold put
  cases hf : findA k l 0 with
  | none =>
    simp only [List.map_append, List.map_cons, List.map_nil]
    rw [List.nodup_append]
    refine ⟨hn, by simp, fun x hx y hy => ?_⟩
    obtain ⟨e, he, rfl⟩ := List.mem_map.1 hx
    simp at hy
    subst hy
    exact (findA_none l 0).1 hf e he
  | some x =>
    obtain ⟨j, w⟩ := x
    obtain ⟨hj, h2⟩ := findA_key (i := 0) hf
    have : (l.set j (k, v)).map (·.1) = l.map (·.1) := by
      apply List.ext_getElem?
      intro i
      rw [List.getElem?_map, List.getElem?_map, List.getElem?_set]
      by_cases e : j = i
      · subst e; rw [if_pos rfl, if_pos hj, List.getElem?_eq_getElem hj, h2]; rfl
      · rw [if_neg e]
    simp only [this]
    exact hn
theorem mem_put {l : List Pr} {k q : Ky} {v w : Int} (hn : (l.map (·.1)).Nodup) : (q, w) ∈ put l k v ↔ (q = k ∧ w = v) ∨ (q ≠ k ∧ (q, w) ∈ l) := by
  unfold put
  cases hf : findA k l 0 with
  | none =>
    have hno := (findA_none l 0).1 hf
    simp only [List.mem_append, List.mem_singleton, Prod.mk.injEq]
    constructor
    · rintro (h | h)
      · exact .inr ⟨hno _ h, h⟩
      · exact .inl h
    · rintro (h | h)
      · exact .inr h
      · exact .inl h.2
  | some x =>
    obtain ⟨j, u⟩ := x
    obtain ⟨hj, h2⟩ := findA_key (i := 0) hf
    simp only
    have hne := nodup_ne hn
    constructor
    · intro h
      rw [List.mem_iff_getElem?] at h
      obtain ⟨i, hi⟩ := h
      rw [List.getElem?_set] at hi
      by_cases e : j = i
      · subst e; rw [if_pos rfl, if_pos hj] at hi; cases hi; exact .inl ⟨rfl, rfl⟩
      · rw [if_neg e] at hi
        refine .inr ⟨fun hq => ?_, List.mem_of_getElem? hi⟩
        subst hq
        have hil := (List.getElem?_eq_some_iff.1 hi).1
        rcases Nat.lt_or_gt_of_ne e with hlt | hlt
        · exact hne j i hlt (by simpa using hil) (by rw [List.getElem?_map, List.getElem?_map, hi, List.getElem?_eq_getElem hj, h2]; rfl)
        · exact hne i j hlt (by simpa using hj) (by rw [List.getElem?_map, List.getElem?_map, hi, List.getElem?_eq_getElem hj, h2]; rfl)
    · rintro (⟨rfl, rfl⟩ | ⟨hq, h⟩)
      · rw [List.mem_iff_getElem?]
        exact ⟨j, by rw [List.getElem?_set, if_pos rfl, if_pos hj]⟩
      · rw [List.mem_iff_getElem?] at h ⊢
        obtain ⟨i, hi⟩ := h
        refine ⟨i, ?_⟩
        rw [List.getElem?_set]
        by_cases e : j = i
        · subst e
          rw [List.getElem?_eq_getElem hj, h2] at hi
          cases hi
          exact absurd rfl hq
        · rw [if_neg e]; exact hi
theorem get_put {l : List Pr} {k q : Ky} {v : Int} (hn : (l.map (·.1)).Nodup) : get (put l k v) q = if q = k then some v else get l q := by
  have hp := put_keys (k := k) (v := v) hn
  by_cases h : q = k
  · rw [if_pos h, get_mem hp, mem_put hn]; exact .inl ⟨h, rfl⟩
  · rw [if_neg h]
    cases hg : get l q with
    | some w => rw [get_mem hp, mem_put hn]; exact .inr ⟨h, (get_mem hn).1 hg⟩
    | none =>
      cases hg' : get (put l k v) q with
      | none => rfl
      | some w =>
        rw [get_mem hp, mem_put hn] at hg'
        rcases hg' with hg' | hg'
        · exact absurd hg'.1 h
        · rw [(get_mem hn).2 hg'.2] at hg; cases hg
theorem same_key {k : Ky} : Instr.sameBits 10000 (keyV k) (keyV k) = true := by
  obtain ⟨a, b⟩ := k
  simp [keyV, Instr.sameBits]
theorem setO_get {s : Hp} {r : Nat} {o o' : Obj} (h : s[r]? = some o') : (s.setIfInBounds r o)[r]? = some o := by
  have := (Array.getElem?_eq_some_iff.1 h).1
  rw [Array.getElem?_setIfInBounds]
  simp [this]
theorem setO_kp {s : Hp} {r : Nat} {o : Obj} : Kp (· = r) s (s.setIfInBounds r o) := ⟨by simp, fun b _ hb => Array.getElem?_setIfInBounds_ne (fun e => hb e.symm)⟩
section
variable {s : Hp} {r cl : Nat} {es : Array MapEntry} {l : List Pr}
theorem LKP_ok {k : Ky} {K : VK} (hs : s[r]? = some (.map es cl)) (h : Holds es cl l) (hk : K (.tuple #[intV ((get l k).getD 0), .bool (get l k).isSome]) s) : LKP Pg 137 (.map (some r)) (keyV k) true K s := by
  unfold LKP Instr.lookup
  rw [sp_bind, sp_und und_93]
  simp only [sp_bind]
  refine ⟨_, hs, rfl, rfl, ?_⟩
  show sp Pg (Sem.pure (Obj.map es cl)) _ _ s
  simp only [sp, sp_bind, sp_pure]
  rw [check_key]
  refine find_key h ?_
  unfold get at hk
  cases hf : findA k l 0 with
  | some x => rw [hf] at hk; exact hk
  | none =>
    rw [hf] at hk
    simp only [Option.map_none, sp_bind]
    rw [zero_3]
    exact hk
theorem LKP_no {k : Ky} {K : VK} (hs : s[r]? = some (.map es cl)) (h : Holds es cl l) (hk : K (intV ((get l k).getD 0)) s) : LKP Pg 137 (.map (some r)) (keyV k) false K s := by
  unfold LKP Instr.lookup
  rw [sp_bind, sp_und und_93]
  simp only [sp_bind]
  refine ⟨_, hs, rfl, rfl, ?_⟩
  show sp Pg (Sem.pure (Obj.map es cl)) _ _ s
  simp only [sp, sp_bind, sp_pure]
  rw [check_key]
  refine find_key h ?_
  unfold get at hk
  cases hf : findA k l 0 with
  | some x => rw [hf] at hk; exact hk
  | none =>
    rw [hf] at hk
    simp only [Option.map_none, sp_bind]
    rw [zero_3]
    exact hk
structure PutE (es es' : Array MapEntry) (cl cl' : Nat) (k : Ky) : Prop where
  le : cl ≤ cl'
  old : ∀ e ∈ es.toList, ∃ e' ∈ es'.toList, e'.born = e.born ∧ e'.key = e.key
  new : ∀ e' ∈ es'.toList, (∃ e ∈ es.toList, e'.born = e.born ∧ e'.key = e.key) ∨ cl ≤ e'.born
theorem MUP_put {k : Ky} {v : Int} {K : Hp → Prop} (hs : s[r]? = some (.map es cl)) (h : Holds es cl l)
    (hk : ∀ s' es' cl', Kp (· = r) s s' → s'.size = s.size → s'[r]? = some (.map es' cl') → Holds es' cl' (put l k v) → PutE es es' cl cl' k → K s') : MUP Pg 137 (.map (some r)) (keyV k) (intV v) K s := by
  unfold MUP Instr.mapUpdate
  rw [sp_bind, sp_und und_93]
  simp only [sp_bind]
  refine ⟨_, hs, rfl, rfl, ?_⟩
  show sp Pg (Sem.pure (Obj.map es cl)) _ _ s
  simp only [sp, sp_bind]
  rw [check_key]
  refine find_key h ?_
  have hlen : es.size = l.length := by have := congrArg List.length h.all; simpa using this
  have hpk := put_keys (k := k) (v := v) h.keys
  cases hf : findA k l 0 with
  | none =>
    simp only [Option.map_none]
    refine ⟨⟨_, hs, rfl, rfl⟩, ?_⟩
    refine hk _ _ _ setO_kp (by simp) (setO_get hs) ⟨?_, ?_, ?_, hpk⟩ ⟨Nat.le_succ _, ?_, ?_⟩
    · unfold put
      rw [hf]
      rw [Array.toList_push, List.map_append, List.map_append, h.all]
      rfl
    · intro e he
      rw [Array.toList_push] at he
      rcases List.mem_append.1 he with he | he
      · have := h.born e he; omega
      · simp at he; subst he; show cl < cl + 1; omega
    · rw [Array.toList_push, List.map_append, List.nodup_append]
      refine ⟨h.nod, by simp, fun x hx y hy => ?_⟩
      obtain ⟨e, he, rfl⟩ := List.mem_map.1 hx
      simp at hy
      subst hy
      have := h.born e he
      omega
    · intro e he
      exact ⟨e, by rw [Array.toList_push]; exact List.mem_append_left _ he, rfl, rfl⟩
    · intro e he
      rw [Array.toList_push] at he
      rcases List.mem_append.1 he with he | he
      · exact .inl ⟨e, he, rfl, rfl⟩
      · simp at he; subst he; exact .inr (Nat.le_refl _)
  | some x =>
    obtain ⟨j, v0⟩ := x
    obtain ⟨hn, hx⟩ := findA_key (i := 0) hf
    simp only [Option.map_some, sp_bind]
    have hje : j < es.size := by omega
    have hkey : es[j].key = keyV k ∧ es[j].val = intV v0 := by
      have h1 := h.all
      have h2 : (es.toList.map (fun e => (e.key, e.val)))[j]? = (l.map fun x => (keyV x.1, intV x.2))[j]? := by rw [h1]
      rw [List.getElem?_map, List.getElem?_map, List.getElem?_eq_getElem hn, hx] at h2
      rw [List.getElem?_eq_getElem (by simpa using hje)] at h2
      simp at h2
      exact h2
    have hold : (Option.map (fun x => x.key) es[j]?).getD (keyV k) = keyV k := by
      rw [Array.getElem?_eq_getElem hje]
      exact hkey.1
    rw [hold]
    unfold Instr.keyThatStays
    rw [if_pos same_key]
    simp only [sp_pure]
    refine ⟨⟨_, hs, rfl, rfl⟩, ?_⟩
    have hmod : ∀ i, (es.modify j fun e => { e with key := keyV k, val := intV v })[i]? = if j = i then some { es[j] with key := keyV k, val := intV v } else es[i]? := by
      intro i
      rw [Array.getElem?_modify]
      by_cases e : j = i
      · subst e; rw [if_pos rfl, if_pos rfl, Array.getElem?_eq_getElem hje]; rfl
      · rw [if_neg e, if_neg e]
    have hback : ∀ e' ∈ (es.modify j fun e => { e with key := keyV k, val := intV v }).toList, ∃ e ∈ es.toList, e'.born = e.born ∧ e'.key = e.key := by
      intro e' he'
      rw [List.mem_iff_getElem?] at he'
      obtain ⟨i, hi⟩ := he'
      rw [Array.getElem?_toList, hmod] at hi
      by_cases e : j = i
      · rw [if_pos e] at hi; cases hi
        exact ⟨es[j], by simp, rfl, hkey.1.symm⟩
      · rw [if_neg e] at hi
        exact ⟨e', by rw [Array.mem_toList_iff]; exact Array.mem_of_getElem? hi, rfl, rfl⟩
    have hborn : (es.modify j fun e => { e with key := keyV k, val := intV v }).toList.map (·.born) = es.toList.map (·.born) := by
      apply List.ext_getElem?
      intro i
      rw [List.getElem?_map, List.getElem?_map, Array.getElem?_toList, Array.getElem?_toList, hmod]
      by_cases e : j = i
      · subst e; rw [if_pos rfl, Array.getElem?_eq_getElem hje]; rfl
      · rw [if_neg e]
    refine hk _ _ _ setO_kp (by simp) (setO_get hs) ⟨?_, ?_, ?_, hpk⟩ ⟨Nat.le_refl _, ?_, fun e' he' => .inl (hback e' he')⟩
    · unfold put
      rw [hf]
      have h1 := h.all
      apply List.ext_getElem?
      intro i
      rw [List.getElem?_map, List.getElem?_map, Array.getElem?_toList, Array.getElem?_modify, List.getElem?_set]
      have h2 : (es.toList.map (fun e => (e.key, e.val)))[i]? = (l.map fun x => (keyV x.1, intV x.2))[i]? := by rw [h1]
      rw [List.getElem?_map, List.getElem?_map, Array.getElem?_toList] at h2
      by_cases e : j = i
      · subst e
        rw [if_pos rfl, if_pos rfl, if_pos hn, Array.getElem?_eq_getElem hje]
        rfl
      · rw [if_neg e, if_neg e]
        exact h2
    · intro e' he'
      obtain ⟨e, he, h1, _⟩ := hback e' he'
      rw [h1]; exact h.born e he
    · show (List.map (·.born) (es.modify j fun e => { e with key := keyV k, val := intV v }).toList).Nodup
      rw [hborn]; exact h.nod
    · intro e he
      rw [List.mem_iff_getElem?] at he
      obtain ⟨i, hi⟩ := he
      rw [Array.getElem?_toList] at hi
      by_cases e0 : j = i
      · subst e0
        rw [Array.getElem?_eq_getElem hje] at hi
        cases hi
        exact ⟨{ es[j] with key := keyV k, val := intV v }, by rw [Array.mem_toList_iff]; exact Array.mem_of_getElem? (i := j) (by rw [hmod, if_pos rfl]), rfl, hkey.1.symm⟩
      · exact ⟨e, by rw [Array.mem_toList_iff]; exact Array.mem_of_getElem? (i := i) (by rw [hmod, if_neg e0]; exact hi), rfl, rfl⟩
end
theorem Holds.mem {es : Array MapEntry} {cl : Nat} {l : List Pr} (h : Holds es cl l) {e : MapEntry} (he : e ∈ es.toList) : ∃ k v, e.key = keyV k ∧ e.val = intV v ∧ get l k = some v := by
  have h1 : (e.key, e.val) ∈ es.toList.map (fun e => (e.key, e.val)) := List.mem_map.2 ⟨e, he, rfl⟩
  rw [h.all] at h1
  obtain ⟨x, hx, h2⟩ := List.mem_map.1 h1
  cases x with
  | mk k v =>
  simp only [Prod.mk.injEq] at h2
  exact ⟨k, v, h2.1.symm, h2.2.symm, (get_mem h.keys).2 hx⟩
theorem Holds.has {es : Array MapEntry} {cl : Nat} {l : List Pr} (h : Holds es cl l) {k : Ky} {v : Int} (hg : get l k = some v) : ∃ e ∈ es.toList, e.key = keyV k ∧ e.val = intV v := by
  have hm := (get_mem h.keys).1 hg
  have h1 : (keyV k, intV v) ∈ l.map (fun x => (keyV x.1, intV x.2)) := List.mem_map.2 ⟨_, hm, rfl⟩
  rw [← h.all] at h1
  obtain ⟨e, he, h2⟩ := List.mem_map.1 h1
  simp only [Prod.mk.injEq] at h2
  exact ⟨e, he, h2.1, h2.2⟩
theorem keyV_inj {k q : Ky} (h : keyV k = keyV q) : k = q := by
  obtain ⟨a, b⟩ := k
  obtain ⟨c, d⟩ := q
  simp [keyV] at h
  rw [h.1, h.2]
open Go.Proofs.YtpmldejcdaoljaaGreat.G Go.V
theorem sp_mapNext {n : Nat} {K : Nat → Hp → Prop} {E : Value → Hp → Prop} {s : Hp} (hn : 0 < n) (h : ∀ a, a < n → K a s) : sp Pg (choose (.mapNext n)) K E s := by
  show (if (Question.mapNext n).forced then K 0 s else ∀ a, K ((Question.mapNext n).cut a) s)
  split
  · exact h 0 hn
  · exact fun a => h _ (Nat.mod_lt _ hn)
structure ItD (s : Hp) (r it : Nat) (K0 : List Ky) (l : List Pr) (V : List Ky) (es : Array MapEntry) (cl since : Nat) (seen : Array Nat) (last : Nat) : Prop where
  m : s[r]? = some (.map es cl)
  i : s[it]? = some (.mapIter (some r) since seen last)
  h : Holds es cl l
  sn : ∀ e ∈ es.toList, ∀ k, e.key = keyV k → (e.born ∈ seen.toList ↔ k ∈ V)
  sl : ∀ b ∈ seen.toList, ∃ e ∈ es.toList, e.born = b
  lt : ∀ b ∈ seen.toList, b < last
  le : last ≤ cl
  st : ∀ k ∈ K0, ∃ e ∈ es.toList, e.key = keyV k ∧ e.born < since
  vk : V.Nodup ∧ ∀ k ∈ V, (get l k).isSome = true
  ln : seen.size = V.length
def ItM (s : Hp) (r it : Nat) (K0 : List Ky) (l : List Pr) (V : List Ky) : Prop := ∃ es cl since seen last, ItD s r it K0 l V es cl since seen last
def ItE (s : Hp) (r it : Nat) (K0 : List Ky) (l : List Pr) (V : List Ky) (k : Ky) (v : Int) : Prop := ∃ es cl since seen e, ItD s r it K0 l V es cl since seen cl ∧ e ∈ es.toList ∧ e.key = keyV k ∧ e.val = intV v ∧ seen.back? = some e.born
theorem ItE.it {s : Hp} {r it : Nat} {K0 : List Ky} {l : List Pr} {V : List Ky} {k : Ky} {v : Int} (h : ItE s r it K0 l V k v) : ItM s r it K0 l V := by
  obtain ⟨es, cl, since, seen, e, h, _⟩ := h
  exact ⟨es, cl, since, seen, cl, h⟩
theorem ItM.ext {s s' : Hp} {r it : Nat} {K0 : List Ky} {l : List Pr} {V : List Ky} (e : Ext s s') (h : ItM s r it K0 l V) : ItM s' r it K0 l V := by
  obtain ⟨es, cl, since, seen, last, d⟩ := h
  have f : ∀ {b o}, s[b]? = some o → s'[b]? = some o := fun {b o} hb => (e.2 b (Array.getElem?_eq_some_iff.1 hb).1).trans hb
  exact ⟨es, cl, since, seen, last, f d.m, f d.i, d.h, d.sn, d.sl, d.lt, d.le, d.st, d.vk, d.ln⟩
theorem ItM.kp {s s' : Hp} {D : Nat → Prop} {r it : Nat} {K0 : List Ky} {l : List Pr} {V : List Ky} (e : Kp D s s') (hr : ¬ D r) (hi : ¬ D it) (h : ItM s r it K0 l V) : ItM s' r it K0 l V := by
  obtain ⟨es, cl, since, seen, last, d⟩ := h
  have f : ∀ {b o}, ¬ D b → s[b]? = some o → s'[b]? = some o := fun {b o} hd hb => (e.2 b (Array.getElem?_eq_some_iff.1 hb).1 hd).trans hb
  exact ⟨es, cl, since, seen, last, f hr d.m, f hi d.i, d.h, d.sn, d.sl, d.lt, d.le, d.st, d.vk, d.ln⟩
def seenN (s : Hp) (it : Nat) : Nat := match s[it]? with | some (.mapIter _ _ seen _) => seen.size | _ => 0
theorem ItM.seen {s : Hp} {r it : Nat} {K0 : List Ky} {l : List Pr} {V : List Ky} (h : ItM s r it K0 l V) : seenN s it = V.length := by
  obtain ⟨es, cl, since, seen, last, d⟩ := h
  unfold seenN
  rw [d.i]
  exact d.ln
def MapL (s : Hp) (r : Nat) (l : List Pr) : Prop := ∃ es cl, s[r]? = some (.map es cl) ∧ Holds es cl l
theorem MapL.ext {s s' : Hp} {r : Nat} {l : List Pr} (e : Ext s s') (h : MapL s r l) : MapL s' r l := by
  obtain ⟨es, cl, h1, h2⟩ := h
  exact ⟨es, cl, (e.2 r (Array.getElem?_eq_some_iff.1 h1).1).trans h1, h2⟩
theorem MapL.kp {s s' : Hp} {D : Nat → Prop} {r : Nat} {l : List Pr} (e : Kp D s s') (hd : ¬ D r) (h : MapL s r l) : MapL s' r l := by
  obtain ⟨es, cl, h1, h2⟩ := h
  exact ⟨es, cl, (e.2 r (Array.getElem?_eq_some_iff.1 h1).1 hd).trans h1, h2⟩
theorem MapL.lt {s : Hp} {r : Nat} {l : List Pr} (h : MapL s r l) : r < s.size := by
  obtain ⟨es, cl, h1, h2⟩ := h
  exact (Array.getElem?_eq_some_iff.1 h1).1
theorem MapL.keys {s : Hp} {r : Nat} {l : List Pr} (h : MapL s r l) : (l.map (·.1)).Nodup := by
  obtain ⟨es, cl, h1, h2⟩ := h
  exact h2.keys
theorem MapL.eq {s : Hp} {r : Nat} {l l' : List Pr} (h : MapL s r l) (h' : MapL s r l') : l = l' := by
  obtain ⟨es, cl, h1, h2⟩ := h
  obtain ⟨es', cl', h3, h4⟩ := h'
  rw [h1] at h3
  cases h3
  have h5 := h2.all.symm.trans h4.all
  apply List.ext_getElem?
  intro i
  have := congrArg (fun x => x[i]?) h5
  simp only [List.getElem?_map] at this
  cases ha : l[i]? with
  | none => rw [ha] at this; cases hb : l'[i]? with
    | none => rfl
    | some y => rw [hb] at this; cases this
  | some x => rw [ha] at this; cases hb : l'[i]? with
    | none => rw [hb] at this; cases this
    | some y =>
      rw [hb] at this
      simp only [Option.map_some, Option.some.injEq, Prod.mk.injEq] at this
      have e1 := keyV_inj this.1
      have e2 : x.2 = y.2 := by have := this.2; unfold intV at this; simpa using this
      rw [show x = y from Prod.ext e1 e2]
noncomputable def mapOf (s : Hp) (r : Nat) : List Pr := by classical exact if h : ∃ l, MapL s r l then Classical.choose h else []
theorem MapL.of {s : Hp} {r : Nat} {l : List Pr} (h : MapL s r l) : mapOf s r = l := by
  unfold mapOf
  rw [dif_pos ⟨l, h⟩]
  exact (Classical.choose_spec (⟨l, h⟩ : ∃ l, MapL s r l)).eq h
theorem ItM.map {s : Hp} {r it : Nat} {K0 : List Ky} {l : List Pr} {V : List Ky} (h : ItM s r it K0 l V) : MapL s r l := by
  obtain ⟨es, cl, since, seen, last, d⟩ := h
  exact ⟨es, cl, d.m, d.h⟩
theorem ItM.nod {s : Hp} {r it : Nat} {K0 : List Ky} {l : List Pr} {V : List Ky} (h : ItM s r it K0 l V) : V.Nodup ∧ ∀ k ∈ V, (get l k).isSome = true := by
  obtain ⟨es, cl, since, seen, last, d⟩ := h
  exact d.vk
section
variable {s : Hp} {r it : Nat} {K0 : List Ky} {l : List Pr} {V : List Ky}
theorem MKM_map {K : Nat → Hp → Prop} (h : ∀ s', Ext s s' → s'.size = s.size + 1 → MapL s' s.size [] → K s.size s') : MKM K s := by
  unfold MKM
  refine h _ (Ext.push (Ext.refl s)) (by simp) ⟨#[], 0, by simp, ⟨rfl, (fun e he => by simp at he), by simp, by simp⟩⟩
theorem lkp_ok {k : Ky} {K : VK} (h : MapL s r l) (hk : K (.tuple #[intV ((get l k).getD 0), .bool (get l k).isSome]) s) : LKP Pg 137 (.map (some r)) (keyV k) true K s := by
  obtain ⟨es, cl, h1, h2⟩ := h
  exact LKP_ok h1 h2 hk
theorem lkp_no {k : Ky} {K : VK} (h : MapL s r l) (hk : K (intV ((get l k).getD 0)) s) : LKP Pg 137 (.map (some r)) (keyV k) false K s := by
  obtain ⟨es, cl, h1, h2⟩ := h
  exact LKP_no h1 h2 hk
theorem mup_put {k : Ky} {v : Int} {K : Hp → Prop} (h : MapL s r l) (hk : ∀ s', Kp (· = r) s s' → s'.size = s.size → MapL s' r (put l k v) → (∀ it K0 V, it ≠ r → ItM s r it K0 l V → ItM s' r it K0 (put l k v) V) → K s') : MUP Pg 137 (.map (some r)) (keyV k) (intV v) K s := by
  obtain ⟨es, cl, h1, h2⟩ := h
  refine MUP_put h1 h2 fun s' es' cl' k1 z1 m1 hh pe => hk s' k1 z1 ⟨es', cl', m1, hh⟩ ?_
  rintro it K0 V hne ⟨es0, cl0, since, seen, last, d⟩
  have e0 := d.m
  rw [h1] at e0
  cases e0
  have hi' : s'[it]? = some (.mapIter (some r) since seen last) := (k1.2 it (Array.getElem?_eq_some_iff.1 d.i).1 hne).trans d.i
  refine ⟨es', cl', since, seen, last, m1, hi', hh, ?_, ?_, d.lt, Nat.le_trans d.le pe.le, ?_, ⟨d.vk.1, ?_⟩, d.ln⟩
  · intro e he q hq
    rcases pe.new e he with ⟨e0, he0, hb, hkk⟩ | hlt
    · rw [hb]; exact d.sn e0 he0 q (hkk ▸ hq)
    · have hns : e.born ∉ seen.toList := fun hm => by have := d.lt _ hm; have := d.le; omega
      refine ⟨fun hm => absurd hm hns, fun hv => ?_⟩
      have h3 := d.vk.2 q hv
      cases hg : get l q with
      | none => rw [hg] at h3; cases h3
      | some w =>
        obtain ⟨e1, he1, hk1, _⟩ := h2.has hg
        obtain ⟨e2, he2, hb2, hk2⟩ := pe.old e1 he1
        -- both entries have the key
        have : e = e2 := by
          obtain ⟨i, hi, hie⟩ := List.getElem_of_mem he
          obtain ⟨j, hj, hje⟩ := List.getElem_of_mem he2
          have hal := hh.all
          have hlen : es'.toList.length = (put l k v).length := by have := congrArg List.length hal; simpa using this
          have hki : ((put l k v).map (·.1))[i]? = some q := by
            have := congrArg (fun x => x[i]?) hal
            simp only [List.getElem?_map, List.getElem?_eq_getElem hi, List.getElem?_eq_getElem (hlen ▸ hi), Option.map_some, Option.some.injEq, Prod.mk.injEq] at this
            rw [List.getElem?_map, List.getElem?_eq_getElem (hlen ▸ hi)]
            rw [hie, hq] at this
            exact congrArg some (keyV_inj this.1).symm
          have hkj : ((put l k v).map (·.1))[j]? = some q := by
            have := congrArg (fun x => x[j]?) hal
            simp only [List.getElem?_map, List.getElem?_eq_getElem hj, List.getElem?_eq_getElem (hlen ▸ hj), Option.map_some, Option.some.injEq, Prod.mk.injEq] at this
            rw [List.getElem?_map, List.getElem?_eq_getElem (hlen ▸ hj)]
            rw [hje, hk2, hk1] at this
            exact congrArg some (keyV_inj this.1).symm
          have hne := nodup_ne hh.keys
          rcases Nat.lt_trichotomy i j with hlt2 | he3 | hlt2
          · exact absurd (hki.trans hkj.symm) (hne i j hlt2 (by simpa using hlen ▸ hj))
          · subst he3; rw [← hie, ← hje]
          · exact absurd (hkj.trans hki.symm) (hne j i hlt2 (by simpa using hlen ▸ hi))
        subst this
        have := (d.sn e1 he1 q hk1).2 hv
        rw [hb2]; exact this
  · intro b hb
    obtain ⟨e, he, h3⟩ := d.sl b hb
    obtain ⟨e', he', h4, _⟩ := pe.old e he
    exact ⟨e', he', h4.trans h3⟩
  · intro q hq
    obtain ⟨e, he, h3, h4⟩ := d.st q hq
    obtain ⟨e', he', h5, h6⟩ := pe.old e he
    exact ⟨e', he', h6.trans h3, by omega⟩
  · intro q hq
    rw [get_put h2.keys]
    split
    · rfl
    · exact d.vk.2 q hq
theorem rnm_map {K : Nat → Hp → Prop} (h : MapL s r l) (hk : ∀ s', Ext s s' → s'.size = s.size + 1 → ItM s' r s.size (l.map (·.1)) l [] → K s.size s') : RNM Pg 137 (.map (some r)) K s := by
  obtain ⟨es, cl, h1, h2⟩ := h
  unfold RNM
  rw [und_93]
  refine ⟨es, cl, h1, hk _ (Ext.push (Ext.refl s)) (by simp) ⟨es, cl, cl, #[], cl, ?_, by simp, h2, ?_, ?_, ?_, Nat.le_refl _, ?_, ⟨by simp, ?_⟩, rfl⟩⟩
  · have := (Array.getElem?_eq_some_iff.1 h1).1
    rw [Array.getElem?_push, if_neg (by omega)]; exact h1
  · intro e he k hk; simp
  · intro b hb; simp at hb
  · intro b hb; simp at hb
  · intro k hk
    obtain ⟨x, hx, rfl⟩ := List.mem_map.1 hk
    obtain ⟨e, he, h3, _⟩ := h2.has ((get_mem h2.keys).2 (show (x.1, x.2) ∈ l from hx))
    exact ⟨e, he, h3, h2.born e he⟩
  · intro k hk; cases hk
theorem nxm_map {Ke : Hp → Prop} {Kg : Value → Value → Hp → Prop} (hi : ItM s r it K0 l V) (hne : it ≠ r) (he : (∀ k ∈ K0, k ∈ V) → Ke s)
    (hg : ∀ k v s', k ∉ V → get l k = some v → Kp (· = it) s s' → s'.size = s.size → ItE s' r it K0 l (k :: V) k v → Kg (keyV k) (intV v) s') : NXM Pg (.pointer (some ⟨it, 0, none⟩)) Ke Kg s := by
  obtain ⟨es, cl, since, seen, last, d⟩ := hi
  unfold NXM Instr.next
  simp only [sp_bind]
  refine ⟨_, d.i, rfl, rfl, ?_⟩
  show sp Pg (Sem.pure (Obj.mapIter (some r) since seen last)) _ _ s
  simp only [sp, sp_bind]
  refine ⟨_, d.m, rfl, rfl, ?_⟩
  show sp Pg (Sem.pure (Obj.map es cl)) _ _ s
  simp only [sp, sp_bind]
  have hall : (!seen.isEmpty && !es.isEmpty && es.all fun x => decide (x.born ≥ last)) = false := by
    cases hs : seen.isEmpty with
    | true => simp
    | false =>
      have hpos : 0 < seen.size := by
        have : seen.size ≠ 0 := fun h0 => by rw [Array.isEmpty_iff_size_eq_zero.2 h0] at hs; cases hs
        omega
      obtain ⟨e, hem, heb⟩ := d.sl seen[0] (by simp)
      have hlt := d.lt seen[0] (by simp)
      have : (es.all fun x => decide (x.born ≥ last)) = false := by
        cases ha : es.all fun x => decide (x.born ≥ last) with
        | false => rfl
        | true =>
          rw [Array.all_eq_true_iff_forall_mem] at ha
          have := of_decide_eq_true (ha e (by simpa using hem))
          omega
      rw [this]; simp
  rw [hall]
  simp only [Bool.false_eq_true, if_false, sp_pure]
  generalize hold : Array.filter (fun x => decide (x.born < since)) (Array.filter (fun e => !seen.contains e.born) es) = old
  generalize hnew : Array.filter (fun x => decide (x.born ≥ since)) (Array.filter (fun e => !seen.contains e.born) es) = new
  have hunseen : ∀ e : MapEntry, ((!seen.contains e.born) = true) ↔ e.born ∉ seen.toList := by
    intro e
    cases hc : seen.contains e.born with
    | true => simp [Array.contains_iff_mem.1 hc]
    | false =>
      simp
      intro hm
      rw [Array.contains_iff_mem.2 (by simpa using hm)] at hc
      cases hc
  have hold' : ∀ e, e ∈ old ↔ e ∈ es ∧ e.born ∉ seen.toList ∧ e.born < since := by
    intro e
    rw [← hold]
    rw [Array.mem_filter, Array.mem_filter, hunseen, decide_eq_true_eq]
    exact ⟨fun h => ⟨h.1.1, h.1.2, h.2⟩, fun h => ⟨⟨h.1, h.2.1⟩, h.2.2⟩⟩
  have hnew' : ∀ e, e ∈ new → e ∈ es ∧ e.born ∉ seen.toList := by
    intro e
    rw [← hnew]
    rw [Array.mem_filter, Array.mem_filter, hunseen]
    exact fun h => h.1
  rw [sp_bind]
  refine sp_mapNext ?_ fun a ha => ?_
  · cases hemp : old.isEmpty with
    | true => simp; omega
    | false =>
      have : old.size ≠ 0 := fun h0 => by rw [Array.isEmpty_iff_size_eq_zero.2 h0] at hemp; cases hemp
      simp; omega
  · rw [Array.getElem?_eq_getElem ha]
    have hmem := Array.getElem_mem ha
    generalize ((if old.isEmpty = true then #[none] else #[]) ++ Array.map some (old ++ new))[a]'ha = x at hmem
    cases x with
    | none =>
      have hemp : old.isEmpty = true := by
        cases hemp : old.isEmpty with
        | true => rfl
        | false => rw [hemp] at hmem; simp at hmem
      refine .inl ⟨rfl, he fun k hk => ?_⟩
      obtain ⟨e, hem, hke, hlt⟩ := d.st k hk
      refine Classical.byContradiction fun hc => ?_
      have hns : e.born ∉ seen.toList := fun hm => hc ((d.sn e hem k hke).1 hm)
      have := (hold' e).2 ⟨by simpa using hem, hns, hlt⟩
      rw [Array.isEmpty_iff_size_eq_zero] at hemp
      have h0 := Array.eq_empty_of_size_eq_zero hemp
      rw [h0] at this
      simp at this
    | some e =>
      have h1 : e ∈ old ∨ e ∈ new := by
        cases hemp : old.isEmpty with
        | true => rw [hemp] at hmem; simpa using hmem
        | false => rw [hemp] at hmem; simpa using hmem
      have h2 : e ∈ es ∧ e.born ∉ seen.toList := by
        rcases h1 with h1 | h1
        · exact ⟨((hold' e).1 h1).1, ((hold' e).1 h1).2.1⟩
        · exact hnew' e h1
      have hem : e ∈ es.toList := by simpa using h2.1
      refine ⟨⟨_, d.i, rfl, rfl⟩, ?_⟩
      obtain ⟨k, v, hk, hv, hget⟩ := d.h.mem hem
      have hkV : k ∉ V := fun hm => h2.2 ((d.sn e hem k hk).2 hm)
      refine .inr ⟨e.key, e.val, rfl, ?_⟩
      rw [hk, hv]
      refine hg k v _ hkV hget setO_kp (by simp) ⟨es, cl, since, seen.push e.born, e, ⟨?_, setO_get d.i, d.h, ?_, ?_, ?_, Nat.le_refl _, d.st, ⟨?_, ?_⟩, by simp [d.ln]⟩, hem, hk, hv, by simp⟩
      · rw [Array.getElem?_setIfInBounds_ne hne]; exact d.m
      · intro e2 he2 q hq
        rw [Array.toList_push, List.mem_append, List.mem_singleton, d.sn e2 he2 q hq, List.mem_cons]
        constructor
        · rintro (h | h)
          · exact .inr h
          · left
            have : e2 = e := by
              obtain ⟨i, hi, hie⟩ := List.getElem_of_mem hem
              obtain ⟨j, hj, hje⟩ := List.getElem_of_mem he2
              have hnn := nodup_ne d.h.nod
              have e1 : (es.toList.map (·.born))[i]? = some e.born := by rw [List.getElem?_map, List.getElem?_eq_getElem hi, hie]; rfl
              have e2' : (es.toList.map (·.born))[j]? = some e.born := by rw [List.getElem?_map, List.getElem?_eq_getElem hj, hje, ← h]; rfl
              rcases Nat.lt_trichotomy i j with hlt2 | he3 | hlt2
              · exact absurd (e1.trans e2'.symm) (hnn i j hlt2 (by simpa using hj))
              · subst he3; rw [← hie, ← hje]
              · exact absurd (e2'.trans e1.symm) (hnn j i hlt2 (by simpa using hi))
            rw [this, hk] at hq
            exact (keyV_inj hq).symm
        · rintro (h | h)
          · subst h
            right
            obtain ⟨k', v', hk', hv', hg'⟩ := d.h.mem he2
            obtain ⟨i, hi, hie⟩ := List.getElem_of_mem hem
            obtain ⟨j, hj, hje⟩ := List.getElem_of_mem he2
            have hal := d.h.all
            have hlen : es.toList.length = l.length := by have := congrArg List.length hal; simpa using this
            have kk : ∀ (i : Nat) (hi : i < es.toList.length), (es.toList[i]).key = keyV q → (l.map (·.1))[i]? = some q := by
              intro i hi hq
              have := congrArg (fun x => x[i]?) hal
              simp only [List.getElem?_map, List.getElem?_eq_getElem hi, List.getElem?_eq_getElem (hlen ▸ hi), Option.map_some, Option.some.injEq, Prod.mk.injEq] at this
              rw [List.getElem?_map, List.getElem?_eq_getElem (hlen ▸ hi)]
              rw [hq] at this
              exact congrArg some (keyV_inj this.1).symm
            have e1 := kk i hi (by rw [hie]; exact hk)
            have e2' := kk j hj (by rw [hje]; exact hq)
            have hnn := nodup_ne d.h.keys
            rcases Nat.lt_trichotomy i j with hlt2 | he3 | hlt2
            · exact absurd (e1.trans e2'.symm) (hnn i j hlt2 (by simpa using hlen ▸ hj))
            · subst he3; rw [← hie, ← hje]
            · exact absurd (e2'.trans e1.symm) (hnn j i hlt2 (by simpa using hlen ▸ hi))
          · exact .inl h
      · intro b hb
        rw [Array.toList_push, List.mem_append, List.mem_singleton] at hb
        rcases hb with hb | rfl
        · exact d.sl b hb
        · exact ⟨e, hem, rfl⟩
      · intro b hb
        rw [Array.toList_push, List.mem_append, List.mem_singleton] at hb
        rcases hb with hb | rfl
        · have := d.lt b hb; have := d.le; omega
        · exact d.h.born e hem
      · rw [List.nodup_cons]; exact ⟨hkV, d.vk.1⟩
      · intro q hq
        rcases List.mem_cons.1 hq with rfl | hq
        · rw [hget]; rfl
        · exact d.vk.2 q hq
theorem ent_map {k : Ky} {v : Int} {K : Value → Value → Hp → Prop} (hi : ItE s r it K0 l V k v) (hk : K (keyV k) (intV v) s) : ENT Pg (.pointer (some ⟨it, 0, none⟩)) K s := by
  obtain ⟨es, cl, since, seen, e, d, hem, hkey, hval, hb⟩ := hi
  unfold ENT Instr.entry
  simp only [sp_bind]
  refine ⟨_, d.i, rfl, rfl, ?_⟩
  show sp Pg (Sem.pure (Obj.mapIter (some r) since seen cl)) _ _ s
  simp only [sp, hb, sp_bind]
  refine ⟨_, d.m, rfl, rfl, ?_⟩
  show sp Pg (Sem.pure (Obj.map es cl)) _ _ s
  simp only [sp, sp_bind]
  have hf : es.find? (fun x => x.born == e.born) = some e := by
    rw [← Array.find?_toList]
    have key : ∀ l : List MapEntry, e ∈ l → (l.map (·.born)).Nodup → l.find? (fun x => x.born == e.born) = some e := by
      intro l
      induction l with
      | nil => intro h; cases h
      | cons x l ih =>
        intro h hnd
        rw [List.map_cons, List.nodup_cons] at hnd
        rw [List.find?_cons]
        rcases List.mem_cons.1 h with rfl | h
        · simp
        · have : ¬ x.born = e.born := fun hx => hnd.1 (by rw [hx]; exact List.mem_map.2 ⟨e, h, rfl⟩)
          have hb : (x.born == e.born) = false := by simpa using this
          rw [hb]
          exact ih h hnd.2
    exact key _ hem d.h.nod
  have hcl : (cl != cl) = false := by simp
  rw [hcl]
  simp only [Bool.false_eq_true, if_false, sp_pure, hf]
  exact ⟨_, _, rfl, by rw [hkey, hval]; exact hk⟩
end
open Go.Proofs.YtpmldejcdaoljaaGreat.G Go.V
abbrev BF := Ky → Option Int
def Sat (D : BF) (m : Int → Int) : Prop := ∀ i j v, D (i, j) = some v → m j - m i ≤ v
def Le (D D' : BF) : Prop := ∀ k v, D k = some v → ∃ v', D' k = some v' ∧ v' ≤ v
structure Core (n : Int) (D0 D : BF) : Prop where
  snd : ∀ m, Sat D0 m → Sat D m
  le : Le D0 D
  key : ∀ i j v, D (i, j) = some v → (-1 ≤ i ∧ i < n) ∧ (-1 ≤ j ∧ j < n) ∧ i ≠ j
def Bnd (A : Int) (D : BF) : Prop := ∀ k v, D k = some v → -A ≤ v ∧ v ≤ A
def updF (D : BF) (k : Ky) (v : Int) : BF := fun q => if q = k then some v else D q
theorem Le.refl (D : BF) : Le D D := fun k v h => ⟨v, h, Int.le_refl _⟩
theorem Le.trans {D D' D'' : BF} (h : Le D D') (h' : Le D' D'') : Le D D'' := fun k v hk => by
  obtain ⟨v', h1, h2⟩ := h k v hk
  obtain ⟨v'', h3, h4⟩ := h' k v' h1
  exact ⟨v'', h3, Int.le_trans h4 h2⟩
theorem Le.upd {D : BF} {k : Ky} {v : Int} (h : ∀ w, D k = some w → v ≤ w) : Le D (updF D k v) := fun q w hq => by
  unfold updF
  by_cases e : q = k
  · subst e; exact ⟨v, by rw [if_pos rfl], h w hq⟩
  · exact ⟨w, by rw [if_neg e]; exact hq, Int.le_refl _⟩
theorem get_updF {l : List Pr} {k : Ky} {v : Int} (hn : (l.map (·.1)).Nodup) : get (put l k v) = updF (get l) k v := by
  funext q
  rw [get_put hn]
  rfl
def allK (n : Int) : List Ky := (List.range (n + 1).toNat).flatMap fun (i : Nat) => (List.range (n + 1).toNat).map fun (j : Nat) => (((i : Nat) : Int) - 1, ((j : Nat) : Int) - 1)
theorem mem_allK {n : Int} {k : Ky} (h1 : -1 ≤ k.1 ∧ k.1 < n) (h2 : -1 ≤ k.2 ∧ k.2 < n) : k ∈ allK n := by
  unfold allK
  rw [List.mem_flatMap]
  refine ⟨(k.1 + 1).toNat, by rw [List.mem_range]; omega, ?_⟩
  rw [List.mem_map]
  refine ⟨(k.2 + 1).toNat, by rw [List.mem_range]; omega, ?_⟩
  apply Prod.ext
  · show ((k.1 + 1).toNat : Int) - 1 = k.1; omega
  · show ((k.2 + 1).toNat : Int) - 1 = k.2; omega
theorem sub_len {α : Type} [BEq α] [LawfulBEq α] : ∀ (a b : List α), a.Nodup → (∀ x ∈ a, x ∈ b) → a.length ≤ b.length
  | [], b, _, _ => Nat.zero_le _
  | x :: a, b, hn, h => by
    rw [List.nodup_cons] at hn
    have hx := h x (by simp)
    have ih := sub_len a (b.erase x) hn.2 (fun y hy => by
      have hne : y ≠ x := fun e => hn.1 (e ▸ hy)
      exact (List.mem_erase_of_ne hne).2 (h y (by simp [hy])))
    rw [List.length_erase_of_mem hx] at ih
    have : 0 < b.length := List.length_pos_of_mem hx
    simp
    omega
theorem sum_const {α : Type} (c : Nat) : ∀ l : List α, (l.map fun _ => c).sum = l.length * c
  | [] => by simp
  | x :: l => by
    rw [List.map_cons, List.sum_cons, sum_const c l, List.length_cons, Nat.add_mul]
    omega
theorem allK_len {n : Int} (h : n ≤ 5) : (allK n).length ≤ 36 := by
  unfold allK
  rw [List.length_flatMap]
  simp only [List.length_map, List.length_range]
  rw [sum_const]
  rw [List.length_range]
  have : (n + 1).toNat ≤ 6 := by omega
  exact Nat.mul_le_mul this this
theorem keys_len {n : Int} (h : n ≤ 5) {V : List Ky} (hn : V.Nodup) (hk : ∀ k ∈ V, (-1 ≤ k.1 ∧ k.1 < n) ∧ (-1 ≤ k.2 ∧ k.2 < n)) : V.length ≤ 36 :=
  Nat.le_trans (sub_len V (allK n) hn fun x hx => mem_allK (hk x hx).1 (hk x hx).2) (allK_len h)
def big : Int := 100000000000000
def wt (D : BF) (k : Ky) : Nat := match D k with | some v => (v + big).toNat | none => (2 * big + 1).toNat
def mu (n : Int) (D : BF) : Nat := ((allK n).map (wt D)).sum
theorem sum_le {α : Type} {f g : α → Nat} : ∀ (l : List α), (∀ x ∈ l, f x ≤ g x) → (l.map f).sum ≤ (l.map g).sum
  | [], _ => Nat.le_refl _
  | x :: l, h => by
    rw [List.map_cons, List.map_cons, List.sum_cons, List.sum_cons]
    have := sum_le l (fun y hy => h y (by simp [hy]))
    have := h x (by simp)
    omega
theorem sum_lt {α : Type} {f g : α → Nat} : ∀ (l : List α), (∀ x ∈ l, f x ≤ g x) → (∃ x ∈ l, f x < g x) → (l.map f).sum < (l.map g).sum
  | [], _, ⟨x, hx, _⟩ => by cases hx
  | x :: l, h, ⟨y, hy, hlt⟩ => by
    rw [List.map_cons, List.map_cons, List.sum_cons, List.sum_cons]
    have h1 := sum_le l (fun y hy => h y (by simp [hy]))
    have h2 := h x (by simp)
    rcases List.mem_cons.1 hy with rfl | hy
    · omega
    · have := sum_lt l (fun y hy => h y (by simp [hy])) ⟨y, hy, hlt⟩
      omega
theorem mu_upd {n : Int} {D : BF} {k : Ky} {v : Int} (hk : (-1 ≤ k.1 ∧ k.1 < n) ∧ (-1 ≤ k.2 ∧ k.2 < n)) (hv : -big < v ∧ v ≤ big) (h : ∀ w, D k = some w → v < w) : mu n (updF D k v) < mu n D := by
  unfold mu
  have hw : wt (updF D k v) k < wt D k := by
    unfold wt updF
    rw [if_pos rfl]
    cases hd : D k with
    | none => simp only; unfold big at *; omega
    | some w => simp only; have := h w hd; unfold big at *; omega
  refine sum_lt _ (fun q _ => ?_) ⟨k, mem_allK hk.1 hk.2, hw⟩
  by_cases e : q = k
  · subst e; omega
  · have : wt (updF D k v) q = wt D q := by unfold wt updF; rw [if_neg e]
    omega
theorem core_step {n : Int} {D0 D : BF} {i j x v w : Int} (h : Core n D0 D) (hi : D (i, j) = some v) (hj : D (j, x) = some w) (hne : i ≠ x) (hu : ∀ u, D (i, x) = some u → v + w ≤ u) : Core n D0 (updF D (i, x) (v + w)) where
  snd := fun m hm a b u hu => by
    have hs := h.snd m hm
    unfold updF at hu
    by_cases e : (a, b) = (i, x)
    · rw [if_pos e] at hu
      cases e; cases hu
      have h1 := hs i j v hi
      have h2 := hs j x w hj
      omega
    · rw [if_neg e] at hu; exact hs a b u hu
  le := h.le.trans (Le.upd hu)
  key := fun a b u hu => by
    unfold updF at hu
    by_cases e : (a, b) = (i, x)
    · cases e
      exact ⟨(h.key i j v hi).1, (h.key j x w hj).2.1, hne⟩
    · rw [if_neg e] at hu; exact h.key a b u hu
structure PhI (n A x : Int) (D0 D2 D : BF) (V : List Ky) (more0 more : Bool) : Prop where
  core : Core n D0 D
  le : Le D2 D
  col : ∀ i j, j ≠ x → D (i, j) = D2 (i, j)
  bnd : ∀ i v, D (i, x) = some v → -(A * (1 + V.length)) ≤ v ∧ v ≤ A * (1 + V.length)
  bnd2 : Bnd A D2
  up : more0 = true → more = true
  same : more = false → D = D2 ∧ ∀ i j v w, (i, j) ∈ V → i ≠ x → j ≠ x → D (i, j) = some v → D (j, x) = some w → ∃ u, D (i, x) = some u ∧ u ≤ v + w
  reach : x ≠ -1 → ∀ i, (i, -1) ∈ V → i ≠ x → ∃ v, D (i, x) = some v ∧ v ≤ 600
  mle : mu n D ≤ mu n D2
  mlt : more = true → more0 = true ∨ mu n D < mu n D2
theorem PhI.start {n A x : Int} {D0 D : BF} {more : Bool} (hc : Core n D0 D) (hA : 0 ≤ A) (hb : Bnd A D) : PhI n A x D0 D D [] more more where
  core := hc
  le := Le.refl D
  col := fun _ _ _ => rfl
  bnd := fun i v h => by have := hb _ _ h; simpa using this
  bnd2 := hb
  up := fun h => h
  same := fun _ => ⟨rfl, fun i j v w h => by cases h⟩
  reach := fun _ i h => by cases h
  mle := Nat.le_refl _
  mlt := fun h => .inl h
theorem mul_step {A : Int} (hA : 0 ≤ A) (m : Nat) : A * (1 + m) ≤ A * (1 + (m + 1 : Nat)) ∧ A * (1 + (m + 1 : Nat)) = A * (1 + m) + A ∧ A ≤ A * (1 + m) := by
  have e : A * (1 + ((m + 1 : Nat) : Int)) = A * (1 + m) + A := by rw [show (1 + ((m + 1 : Nat) : Int)) = (1 + m) + 1 by omega, Int.mul_add, Int.mul_one]
  have e2 : A * (1 + (m : Int)) = A + A * m := by rw [Int.mul_add, Int.mul_one]
  have e3 : 0 ≤ A * (m : Int) := Int.mul_nonneg hA (by omega)
  exact ⟨by rw [e]; omega, e, by rw [e2]; omega⟩
theorem PhI.skip {n A x : Int} {D0 D2 D : BF} {V : List Ky} {more0 more : Bool} {k : Ky} (h : PhI n A x D0 D2 D V more0 more) (hA : 0 ≤ A) (hno : ∀ v w, k.1 ≠ x → k.2 ≠ x → D k = some v → D (k.2, x) = some w → ∃ u, D (k.1, x) = some u ∧ u ≤ v + w) (hr : x ≠ -1 → k.2 = -1 → k.1 ≠ x → ∃ v, D (k.1, x) = some v ∧ v ≤ 600) : PhI n A x D0 D2 D (k :: V) more0 more where
  core := h.core
  le := h.le
  col := h.col
  bnd := fun i v hv => by
    have := h.bnd i v hv
    obtain ⟨h1, _, _⟩ := mul_step hA V.length
    rw [List.length_cons]; omega
  bnd2 := h.bnd2
  up := h.up
  same := fun hm => ⟨(h.same hm).1, fun i j v w hij => by
    rcases List.mem_cons.1 hij with rfl | hij
    · exact hno v w
    · exact (h.same hm).2 i j v w hij⟩
  reach := fun hx i hi hne => by
    rcases List.mem_cons.1 hi with rfl | hi
    · exact hr hx rfl hne
    · exact h.reach hx i hi hne
  mle := h.mle
  mlt := h.mlt
theorem PhI.put {n A x : Int} {D0 D2 D : BF} {V : List Ky} {more0 more : Bool} {i j v w : Int} (h : PhI n A x D0 D2 D V more0 more) (hA : 0 ≤ A) (hlen : V.length ≤ 36) (hbig : A * 40 < big) (hv : D (i, j) = some v) (hw : D (j, x) = some w) (hi : i ≠ x) (hj : j ≠ x) (hlt : ∀ u, D (i, x) = some u → v + w < u)
    (hr : x ≠ -1 → j = -1 → v + w ≤ 600) : PhI n A x D0 D2 (updF D (i, x) (v + w)) ((i, j) :: V) more0 true := by
  have hv2 : -A ≤ v ∧ v ≤ A := h.bnd2 (i, j) v (by rw [← h.col i j hj]; exact hv)
  have hw2 := h.bnd j w hw
  obtain ⟨m1, m2, m3⟩ := mul_step hA V.length
  have hsum : -(A * (1 + (V.length + 1 : Nat))) ≤ v + w ∧ v + w ≤ A * (1 + (V.length + 1 : Nat)) := by rw [m2]; omega
  have hcap : A * (1 + (V.length + 1 : Nat)) ≤ A * 40 := Int.mul_le_mul_of_nonneg_left (by omega) hA
  have hle : Le D (updF D (i, x) (v + w)) := Le.upd fun u hu => Int.le_of_lt (hlt u hu)
  have hk := h.core.key i j v hv
  have hk2 := h.core.key j x w hw
  have hmu : mu n (updF D (i, x) (v + w)) < mu n D := mu_upd ⟨hk.1, hk2.2.1⟩ ⟨by omega, by omega⟩ hlt
  refine ⟨core_step h.core hv hw hi (fun u hu => Int.le_of_lt (hlt u hu)), h.le.trans hle, ?_, ?_, h.bnd2, fun _ => rfl, (fun h => by cases h), ?_, ?_, ?_⟩
  · intro a b hb
    unfold updF
    rw [if_neg (fun e => hb (by cases e; rfl))]
    exact h.col a b hb
  · intro a u hu
    rw [List.length_cons]
    unfold updF at hu
    by_cases e : (a, x) = (i, x)
    · rw [if_pos e] at hu; cases hu; exact hsum
    · rw [if_neg e] at hu
      have := h.bnd a u hu
      omega
  · intro hx a ha hne
    unfold updF
    by_cases e : (a, x) = (i, x)
    · rw [if_pos e]
      refine ⟨v + w, rfl, ?_⟩
      rcases List.mem_cons.1 ha with e1 | ha
      · exact hr hx (by cases e1; rfl)
      · obtain ⟨u, hu, h6⟩ := h.reach hx a ha hne
        have : a = i := by cases e; rfl
        subst this
        have := hlt u hu
        omega
    · rw [if_neg e]
      rcases List.mem_cons.1 ha with e1 | ha
      · exact absurd (by cases e1; rfl) e
      · exact h.reach hx a ha hne
  · have := h.mle; omega
  · refine fun _ => .inr ?_
    have := h.mle
    omega
def Tri (D : BF) (x : Int) : Prop := ∀ i j v w, i ≠ x → j ≠ x → D (i, j) = some v → D (j, x) = some w → ∃ u, D (i, x) = some u ∧ u ≤ v + w
def Cyc (D : BF) : Prop := ∀ i j v w, D (i, j) = some v → D (j, i) = some w → 0 ≤ v + w
def Base (n : Int) (D : BF) : Prop := ∀ i, 0 ≤ i → i < n → (∃ v, D (-1, i) = some v ∧ v ≤ 600) ∧ (∃ v, D (i, -1) = some v ∧ v ≤ 0)
def Reach (n x : Int) (D : BF) : Prop := ∀ i, -1 ≤ i → i < n → i ≠ x → ∃ v, D (i, x) = some v ∧ v ≤ 600
theorem Base.le {n : Int} {D D' : BF} (h : Base n D) (hl : Le D D') : Base n D' := fun i h0 h1 => by
  obtain ⟨⟨v, a, b⟩, ⟨w, c, d⟩⟩ := h i h0 h1
  obtain ⟨v', a', b'⟩ := hl _ _ a
  obtain ⟨w', c', d'⟩ := hl _ _ c
  exact ⟨⟨v', a', by omega⟩, ⟨w', c', by omega⟩⟩
theorem Reach.le {n x : Int} {D D' : BF} (h : Reach n x D) (hl : Le D D') : Reach n x D' := fun i h0 h1 h2 => by
  obtain ⟨v, a, b⟩ := h i h0 h1 h2
  obtain ⟨v', a', b'⟩ := hl _ _ a
  exact ⟨v', a', by omega⟩
structure PaI (n x : Int) (D0 D1 D : BF) (more : Bool) : Prop where
  core : Core n D0 D
  le : Le D1 D
  bnd : Bnd (3000 * 37 ^ (x + 1).toNat) D
  same : more = false → D = D1 ∧ ∀ y, -1 ≤ y → y < x → Tri D y
  reach : ∀ y, -1 ≤ y → y < x → Reach n y D
  mle : mu n D ≤ mu n D1
  mlt : more = true → mu n D < mu n D1
theorem PaI.phase {n x : Int} {D0 D1 D2 D : BF} {V : List Ky} {more0 more : Bool} (h : PaI n x D0 D1 D2 more0) (hb : Base n D0) (hx0 : -1 ≤ x) (hx : x < n) (hn : n ≤ 5) (hi : PhI n (3000 * 37 ^ (x + 1).toNat) x D0 D2 D V more0 more) (hV : ∀ k, (D2 k).isSome = true → k ∈ V) (hlen : V.length ≤ 36) : PaI n (x + 1) D0 D1 D more where
  core := hi.core
  le := h.le.trans hi.le
  bnd := fun k v hk => by
    have hp : (3000 : Int) * 37 ^ (x + 1 + 1).toNat = (3000 * 37 ^ (x + 1).toNat) * 37 := by
      rw [show (x + 1 + 1).toNat = (x + 1).toNat + 1 by omega, Int.pow_succ, Int.mul_assoc]
    have hpos : (0 : Int) ≤ 3000 * 37 ^ (x + 1).toNat := Int.mul_nonneg (by omega) (Int.pow_nonneg (by omega))
    rw [hp]
    generalize (3000 : Int) * 37 ^ (x + 1).toNat = A at *
    obtain ⟨i, j⟩ := k
    by_cases e : j = x
    · subst e
      have := hi.bnd i v hk
      have hcap : A * (1 + V.length) ≤ A * 37 := Int.mul_le_mul_of_nonneg_left (by omega) hpos
      omega
    · rw [hi.col i j e] at hk
      have := hi.bnd2 _ _ hk
      omega
  same := fun hm => by
    obtain ⟨e1, e2⟩ := hi.same hm
    have hm0 : more0 = false := by cases h0 : more0 with
      | false => rfl
      | true => have := hi.up h0; rw [hm] at this; cases this
    obtain ⟨e3, e4⟩ := h.same hm0
    refine ⟨e1.trans e3, fun y h0 h1 => ?_⟩
    by_cases e : y = x
    · subst e
      intro i j v w hi' hj hv hw
      exact e2 i j v w (hV _ (by rw [← e1, hv]; rfl)) hi' hj hv hw
    · rw [e1]; exact e4 y h0 (by omega)
  reach := fun y h0 h1 => by
    by_cases e : y = x
    · subst e
      intro i g0 g1 g2
      have hbD := hb.le hi.core.le
      have hb2 := hb.le h.core.le
      by_cases hy : y = -1
      · obtain ⟨_, v, a, b⟩ := hbD i (by omega) g1
        subst hy
        exact ⟨v, a, by omega⟩
      · by_cases hi1 : i = -1
        · subst hi1
          obtain ⟨⟨v, a, b⟩, _⟩ := hbD y (by omega) hx
          exact ⟨v, a, b⟩
        · obtain ⟨_, v, a, b⟩ := hb2 i (by omega) g1
          exact hi.reach hy i (hV _ (by rw [a]; rfl)) g2
    · exact (h.reach y h0 (by omega)).le hi.le
  mle := Nat.le_trans hi.mle h.mle
  mlt := fun hm => by
    rcases hi.mlt hm with h1 | h1
    · have := h.mlt h1; have := hi.mle; omega
    · have := h.mle; omega
theorem PaI.start {n : Int} {D0 D : BF} (hc : Core n D0 D) (hb : Bnd 3000 D) : PaI n (-1) D0 D D false where
  core := hc
  le := Le.refl D
  bnd := by simpa using hb
  same := fun _ => ⟨rfl, fun y h0 h1 => by omega⟩
  reach := fun y h0 h1 => by omega
  mle := Nat.le_refl _
  mlt := fun h => by cases h
structure HdI (n : Int) (D0 D : BF) (more : Bool) : Prop where
  core : Core n D0 D
  bnd : Bnd 3000 D
  done : more = false → (∀ x, -1 ≤ x → x < n → Tri D x ∧ Reach n x D) ∧ Cyc D
theorem PaI.head {n : Int} {D0 D1 D : BF} {more : Bool} (hn : 0 ≤ n) (h : PaI n n D0 D1 D more) (hc : Cyc D) : HdI n D0 D more where
  core := h.core
  bnd := fun k v hk => by
    obtain ⟨i, j⟩ := k
    obtain ⟨h1, h2, h3⟩ := h.core.key i j v hk
    obtain ⟨u, hu, h4⟩ := h.reach j h2.1 h2.2 i h1.1 h1.2 h3
    obtain ⟨w, hw, h5⟩ := h.reach i h1.1 h1.2 j h2.1 h2.2 (Ne.symm h3)
    have := hc i j v w hk hw
    rw [hk] at hu
    cases hu
    omega
  done := fun hm => ⟨fun x h0 h1 => ⟨(h.same hm).2 x h0 h1, h.reach x h0 h1⟩, hc⟩
structure Tight (n : Int) (D0 D : BF) : Prop where
  sat : ∀ m, Sat D0 m ↔ Sat D m
  key : ∀ i j v, D (i, j) = some v → (-1 ≤ i ∧ i < n) ∧ (-1 ≤ j ∧ j < n) ∧ i ≠ j
  has : ∀ i j, -1 ≤ i → i < n → -1 ≤ j → j < n → i ≠ j → ∃ v, D (i, j) = some v ∧ -3000 ≤ v ∧ v ≤ 3000
  tri : ∀ i j x v w u, i ≠ x → j ≠ x → D (i, j) = some v → D (j, x) = some w → D (i, x) = some u → u ≤ v + w
  cyc : Cyc D
theorem HdI.tight {n : Int} {D0 D : BF} (h : HdI n D0 D false) : Tight n D0 D where
  sat := fun m => ⟨h.core.snd m, fun hm i j v hv => by
    obtain ⟨v', h1, h2⟩ := h.core.le _ _ hv
    have := hm i j v' h1
    omega⟩
  key := h.core.key
  has := fun i j a b c d e => by
    obtain ⟨v, h1, h2⟩ := ((h.done rfl).1 j c d).2 i a b e
    exact ⟨v, h1, h.bnd _ _ h1⟩
  tri := fun i j x v w u hi hj hv hw hu => by
    have hk := h.core.key _ _ _ hw
    obtain ⟨u', h1, h2⟩ := ((h.done rfl).1 x hk.2.1.1 hk.2.1.2).1 i j v w hi hj hv hw
    rw [hu] at h1; cases h1; exact h2
  cyc := (h.done rfl).2
theorem Cyc.no {n : Int} {D0 D : BF} (h : Core n D0 D) {i j v w : Int} (hv : D (i, j) = some v) (hw : D (j, i) = some w) (hlt : v + w < 0) : ¬ ∃ m, Sat D0 m := fun ⟨m, hm⟩ => by
  have h1 := h.snd m hm i j v hv
  have h2 := h.snd m hm j i w hw
  omega
theorem Tight.at {n : Int} {D0 D : BF} (h : Tight n D0 D) {a b v : Int} (hv : D (a, b) = some v) : ∃ m, Sat D0 m ∧ m (-1) = 0 ∧ m b - m a = v := by
  have hk := h.key a b v hv
  let d : Int → Int := fun j => if j = a then 0 else (D (a, j)).getD 0
  have hd : ∀ j, j ≠ a → -1 ≤ j → j < n → D (a, j) = some (d j) := fun j h0 h1 h2 => by
    obtain ⟨u, hu, _⟩ := h.has a j hk.1.1 hk.1.2 h1 h2 (Ne.symm h0)
    show D (a, j) = some (if j = a then 0 else (D (a, j)).getD 0)
    rw [if_neg h0, hu]; rfl
  have hda : d a = 0 := if_pos rfl
  have hsat : ∀ c, Sat D (fun j => d j - c) := fun c i j u hu => by
    show d j - c - (d i - c) ≤ u
    have kk := h.key i j u hu
    by_cases e1 : i = a
    · subst e1
      rw [hda]
      have := hd j (Ne.symm kk.2.2) kk.2.1.1 kk.2.1.2
      rw [hu] at this
      cases this
      omega
    · have h1 := hd i e1 kk.1.1 kk.1.2
      by_cases e2 : j = a
      · subst e2
        rw [hda]
        have := h.cyc _ _ _ _ hu h1
        omega
      · have h2 := hd j e2 kk.2.1.1 kk.2.1.2
        have := h.tri a i j _ _ _ (Ne.symm e2) kk.2.2 h1 hu h2
        omega
  refine ⟨fun j => d j - d (-1), (h.sat _).2 (hsat _), by show d (-1) - d (-1) = 0; omega, ?_⟩
  show d b - d (-1) - (d a - d (-1)) = v
  rw [hda]
  have := hd b (Ne.symm hk.2.2) hk.2.1.1 hk.2.1.2
  rw [hv] at this
  cases this
  omega
theorem Tight.some {n : Int} {D0 D : BF} (h : Tight n D0 D) (hn : 0 ≤ n) : ∃ m, Sat D0 m ∧ m (-1) = 0 := by
  by_cases e : n = 0
  · subst e
    refine ⟨fun _ => 0, (h.sat _).2 fun i j v hv => ?_, rfl⟩
    have := h.key i j v hv
    omega
  · obtain ⟨v, hv, _⟩ := h.has (-1) 0 (by omega) (by omega) (by omega) (by omega) (by omega)
    obtain ⟨m, h1, h2, _⟩ := h.at hv
    exact ⟨m, h1, h2⟩
open Go.Proofs.YtpmldejcdaoljaaGreat.G Go.V
def pn (e : Int) : List PanicEntry := [{ v := .iface 181 (.agg #[.int .i64 e]), recovered := false }]
theorem zc_101 : zc Pg 181 = [.int .i64 0] := by kernel_rfl
theorem zc_34 : zc Pg 27 = [.int .i64 0, .int .i64 0] := by kernel_rfl
theorem zc_4 : zc Pg 4 = [.bool false] := by kernel_rfl
theorem zc_29 : zc Pg 34 = [.int .i64 0] := by kernel_rfl
theorem vf_caught_none (W : World) (a : Addr) (R : Ending → Hp → Prop) : vfun Pg W (fun _ => {}) Tryz.f61 [.nilIface, .pointer (some a)] R = R (.returned (.tuple #[])) := by kernel_rfl
theorem vf_caught_some (W : World) (a : Addr) (e : Int) (R : Ending → Hp → Prop) : vfun Pg W (fun _ => {}) Tryz.f61 [.iface 181 (.agg #[.int .i64 e]), .pointer (some a)] R =
    NEWZ Pg 181 fun B => WR (Addr.add ⟨B, 0, none⟩ 0) (.int .i64 e) <| RDI .i64 (Addr.add ⟨B, 0, none⟩ 0) fun n => WR (Addr.add a 0) (.int .i64 n) <| R (.returned (.tuple #[])) := by kernel_rfl
theorem ext_35 : isExt Pg 61 = false := by kernel_rfl
theorem ty_0 (K : Hp → Prop) : tyR Pg 0 (.tuple #[]) (fun _ => K) = K := by kernel_rfl
section
variable {W : World} {K : Hp → Prop} {s : Hp}
theorem caught_none {a : Addr} {K : VK} {E : List PanicEntry → Hp → Prop} (h : K (.tuple #[]) s) : CALL Pg W 61 [.nilIface, .pointer (some a)] K E s := by
  refine does_of_vfun Pg W (fun _ => {}) Tryz.func61 rfl (by kernel_rfl) ?_
  rw [vf_caught_none]
  exact h
theorem caught_some {a : Addr} {e : Int} {x : Value} {K : VK} {E : List PanicEntry → Hp → Prop} (ho : Own s a x) (h : ∀ s', Kp (· = a.block) s s' → Own s' a (.int .i64 e) → K (.tuple #[]) s') : CALL Pg W 61 [.iface 181 (.agg #[.int .i64 e]), .pointer (some a)] K E s := by
  refine does_of_vfun Pg W (fun _ => {}) Tryz.func61 rfl (by kernel_rfl) ?_
  rw [vf_caught_some]
  unfold NEWZ
  rw [zc_101]
  refine WR_own (own_new (i := 0) rfl) rfl ⟨_, own_cell (own_set (own_new (i := 0) rfl)), ?_⟩
  generalize hs1 : s.push (.cells [Value.int .i64 0].toArray 181 (0, 0)) = s1
  have e1 : Ext s s1 := by rw [← hs1]; exact Ext.push (Ext.refl _)
  have hlt := ho.lt
  have o2 : Own (setC s1 (Addr.add ⟨s.size, 0, none⟩ 0) (.int .i64 e)) a x := own_set_ne (.inl (by show a.block ≠ s.size; omega)) (e1.own ho)
  refine WR_own o2 rfl (h _ ?_ (own_set o2))
  exact Kp.setC (Kp.setC e1.kp (.inr (Nat.le_refl _))) (.inl rfl)
def isTold (f : FuncId) : Prop := f = 60
theorem told_any {f : FuncId} {a1 : Value} {rec : Option (List PanicEntry)} {v : Value} (hf : isTold f) (hrec : (rec = none ∧ v = .nilIface) ∨ (rec = some [{ v := v, recovered := false }]))
    (h : CALL Pg W 61 [v, a1] (fun v => tyR Pg 0 v fun _ => K) (fun _ => FF) s) : DoesD Pg W f [a1] rec s K := by
  cases hf
  exact told2_ok (id := 0) (d := 1) (d2 := 2) (ty := 20) (ty2 := 0) (pos := "clock.go:298") (pos2 := "clock.go:298") (ats := #[20, 55]) (aft := #[{ on := 0, ground := Go.Ground.data }, { on := 0, ground := Go.Ground.chain }]) Tryz.func60 (by kernel_rfl) (by kernel_rfl) (by kernel_rfl) (show 1 < 3 by decide) (show 0 < 3 by decide) (by decide) ext_35 hrec h
theorem def_none {f : FuncId} {a : Addr} (hf : isTold f) (h : K s) : DEF Pg W (.tuple #[.func (.func f) #[] #[.pointer (some a)], .tuple #[]]) none K s := by
  show DoesD Pg W f [.pointer (some a)] none s K
  refine told_any hf (.inl ⟨rfl, rfl⟩) (caught_none ?_)
  rw [ty_0]; exact h
theorem def_some {f : FuncId} {a : Addr} {e : Int} {x : Value} (hf : isTold f) (ho : Own s a x) (h : ∀ s', Kp (· = a.block) s s' → Own s' a (.int .i64 e) → K s') : DEF Pg W (.tuple #[.func (.func f) #[] #[.pointer (some a)], .tuple #[]]) (some (pn e)) K s := by
  show DoesD Pg W f [.pointer (some a)] (some (pn e)) s K
  refine told_any (v := .iface 181 (.agg #[.int .i64 e])) hf (.inr rfl) (caught_some ho fun s' k o => ?_)
  rw [ty_0]; exact h s' k o
end
section
variable {W : World} {K : VK} {E : List PanicEntry → Hp → Prop} {s : Hp}
theorem c_within {a b c : Int} (h : K (.bool (decide (b ≤ a ∧ a ≤ c))) s) : CALL Pg W F_clock_within [.int .i64 a, .int .i64 b, .int .i64 c] K E s := by
  refine does_clock_within W a b c _ s ?_
  unfold T_clock_within
  refine BR_dec (fun h1 => ?_) (fun h1 => ?_)
  · have : decide (b ≤ a ∧ a ≤ c) = decide (a ≤ c) := by simp [h1]
    rw [← this]; exact h
  · have : decide (b ≤ a ∧ a ≤ c) = false := by simp [h1]
    rw [← this]; exact h
theorem c_need {b : Bool} {e : Int} (h1 : b = true → K (.tuple #[]) s) (h2 : b = false → E (pn e) s) : CALL Pg W F_clock_need [.bool b, .int .i64 e] K E s := by
  refine does_clock_need W b e _ s ?_
  unfold T_clock_need
  exact BR_not (fun h => h2 h) (fun h => h1 h)
variable {r : Nat} {l : List Pr}
theorem c_put {k : Ky} {v : Int} (hm : MapL s r l) (h1 : ∀ s' old, get l k = some old → old ≤ v → Ext s s' → K (.bool false) s')
    (h2 : ∀ s', (∀ old, get l k = some old → v < old) → Kp (· = r) s s' → MapL s' r (put l k v) → (∀ it K0 V, it ≠ r → ItM s r it K0 l V → ItM s' r it K0 (put l k v) V) → K (.bool true) s') : CALL Pg W F_clock_bounds_put [.map (some r), .agg #[.int .i64 k.1, .int .i64 k.2], .int .i64 v] K E s := by
  refine does_clock_bounds_put W (some r) k.1 k.2 v _ s ?_
  unfold T_clock_bounds_put
  refine ne2 fun s1 e1 z1 o1 o2 => ?_
  refine ⟨_, o1.cell, ⟨_, o2.cell, ?_⟩⟩
  refine lkp_ok (k := k) (hm.ext e1) ?_
  try simp only [nd_]
  have hput : (∀ old, get l k = some old → v < old) → RDI .i64 (Addr.add ⟨s.size, 0, none⟩ 0) (fun n16 => RDI .i64 (Addr.add ⟨s.size, 0, none⟩ 1) fun n17 => MUP Pg 137 (.map (some r)) (.agg #[(.int .i64 n16), (.int .i64 n17)]) (.int .i64 v) <| K (.bool true)) s1 := by
    intro hn
    refine ⟨_, o1.cell, ⟨_, o2.cell, ?_⟩⟩
    refine mup_put (k := k) (hm.ext e1) fun s2 k2 z2 m2 i2 => h2 s2 hn (e1.kp.trans k2) m2 fun it K0 V hne hi => i2 it K0 V hne (hi.ext e1)
  cases hg : get l k with
  | none =>
    refine BR_ff rfl ?_
    exact hput (fun old h => by rw [hg] at h; cases h)
  | some old =>
    refine BR_tt rfl ?_
    refine BR_dec (fun hle => h1 s1 old hg hle e1) (fun hle => hput fun o ho => by rw [hg] at ho; cases ho; exact Int.not_le.1 hle)
end
open Go.Proofs.YtpmldejcdaoljaaGreat.G Go.V
theorem pow_37 {k : Nat} (h : k ≤ 6) : (1 : Int) ≤ 37 ^ k ∧ (37 : Int) ^ k ≤ 2565726409 := by
  have : k = 0 ∨ k = 1 ∨ k = 2 ∨ k = 3 ∨ k = 4 ∨ k = 5 ∨ k = 6 := by omega
  rcases this with rfl | rfl | rfl | rfl | rfl | rfl | rfl <;> decide
theorem kp_or {r it : Nat} {s t u : Hp} (k : Kp (· = r) s t) (h : s.size ≤ it) (k' : Kp (fun b => b = r ∨ b = it) t u) : Kp (· = r) s u := ⟨Nat.le_trans k.1 k'.1, fun b hb hc => by
  rw [k'.2 b (Nat.lt_of_lt_of_le hb k.1) (by omega), k.2 b hb hc]⟩
theorem keys_get {l : List Pr} (hn : (l.map (·.1)).Nodup) {k : Ky} : k ∈ l.map (·.1) ↔ (get l k).isSome = true := by
  constructor
  · intro h
    obtain ⟨x, hx, rfl⟩ := List.mem_map.1 h
    rw [(get_mem hn).2 (show (x.1, x.2) ∈ l from hx)]; rfl
  · intro h
    cases hg : get l k with
    | none => rw [hg] at h; cases h
    | some v => exact List.mem_map.2 ⟨_, (get_mem hn).1 hg, rfl⟩
section
variable {W : World} {K : VK} {E : List PanicEntry → Hp → Prop} {s : Hp} {r : Nat} {l0 : List Pr}
theorem c_tight {n : Int} (hm : MapL s r l0) (hn0 : 0 ≤ n) (hn5 : n ≤ 5) (hkey : ∀ i j v, get l0 (i, j) = some v → (-1 ≤ i ∧ i < n) ∧ (-1 ≤ j ∧ j < n) ∧ i ≠ j) (hb : Base n (get l0)) (hbnd : Bnd 3000 (get l0))
    (h0 : ∀ s', Kp (· = r) s s' → (¬ ∃ m, Sat (get l0) m) → K (.bool false) s')
    (h1 : ∀ s' l, Kp (· = r) s s' → MapL s' r l → Tight n (get l0) (get l) → K (.bool true) s') : CALL Pg W F_clock_bounds_tight [.map (some r), .int .i64 n] K E s := by
  refine does_clock_bounds_tight W (some r) n _ s ?_
  unfold T_clock_bounds_tight
  refine L_clock_bounds_tight_0_rule W _ (some r) n (fun b3 b4 t => ∃ l, Kp (· = r) s t ∧ MapL t r l ∧ HdI n (get l0) (get l) b4) (fun b3 b4 t => 2 * mu n (get (mapOf t r)) + b4.toNat) false true s
    ⟨l0, Kp.refl _, hm, ⟨⟨fun m h => h, Le.refl _, hkey⟩, hbnd, (fun h => by cases h)⟩⟩ ?_
  rintro b3 b4 t ⟨l1, k1, m1, hd⟩
  unfold B_clock_bounds_tight_0
  refine BR_bool (fun hb4 => ?_) (fun hb4 => ?_)
  rotate_left
  · subst hb4
    exact h1 t l1 k1 m1 hd.tight
  subst hb4
  generalize hnx0 : (fun vs => N_clock_bounds_tight_0 _ _ b3 true t vs) = nx0
  refine L_clock_bounds_tight_1_rule W _ nx0 (some r) n b3 (fun b5 x u => -1 ≤ x ∧ x ≤ n ∧ ∃ l, Kp (· = r) t u ∧ MapL u r l ∧ PaI n x (get l0) (get l1) (get l) b5) (fun b5 x u => (n - x).toNat) false (-1) t
    ⟨by omega, by omega, l1, Kp.refl _, m1, PaI.start hd.core hd.bnd⟩ ?_
  rintro b5 x u ⟨hx0, hxn, l2, k2, m2, pa⟩
  unfold B_clock_bounds_tight_1
  have hkeys2 := m2.keys
  refine BR_dec (fun hlt => ?_) (fun hge => ?_)
  · generalize hnx1 : (fun vs => N_clock_bounds_tight_1 _ _ b5 x u vs) = nx1
    refine rnm_map m2 fun u1 e1 z1 it1 => ?_
    have hru : r < u.size := m2.lt
    have hpw := pow_37 (k := (x + 1).toNat) (by omega)
    have hA : (0 : Int) ≤ 3000 * 37 ^ (x + 1).toNat ∧ (3000 : Int) * 37 ^ (x + 1).toNat * 40 < big := by
      have hp5 := pow_37 (k := 5) (by omega)
      have : (37 : Int) ^ (x + 1).toNat ≤ 37 ^ 5 := by
        have : (x + 1).toNat = 0 ∨ (x + 1).toNat = 1 ∨ (x + 1).toNat = 2 ∨ (x + 1).toNat = 3 ∨ (x + 1).toNat = 4 ∨ (x + 1).toNat = 5 := by omega
        rcases this with e | e | e | e | e | e <;> rw [e] <;> decide
      unfold big
      omega
    have hpa := pa.bnd
    have hphase : ∀ {D : BF} {V : List Ky} {more : Bool}, PhI n (3000 * 37 ^ (x + 1).toNat) x (get l0) (get l2) D V b5 more → (∀ k, (get l2 k).isSome = true → k ∈ V) → V.length ≤ 36 → PaI n (x + 1) (get l0) (get l1) D more := fun hi hV hlen => pa.phase hb hx0 hlt hn5 hi hV hlen
    have hst := PhI.start (more := b5) (x := x) pa.core hA.1 hpa
    generalize (3000 : Int) * 37 ^ (x + 1).toNat = A at hA hpa hphase hst
    refine L_clock_bounds_tight_2_rule W _ nx0 nx1 (some r) n b3 x ⟨u.size, 0, none⟩ (fun b9 w => ∃ l V, Kp (fun b => b = r ∨ b = u.size) u1 w ∧ ItM w r u.size (l2.map (·.1)) l V ∧ PhI n A x (get l0) (get l2) (get l) V b5 b9) (fun b9 w => 37 - seenN w u.size) b5 u1
      ⟨l2, [], Kp.refl _, it1, hst⟩ ?_
    rintro b9 w ⟨l, V, k3, it3, ph⟩
    unfold B_clock_bounds_tight_2
    have hkl := it3.map.keys
    have hVk : V.length ≤ 36 := keys_len hn5 it3.nod.1 fun k hk => by
      have := it3.nod.2 k hk
      cases hg : get l k with
      | none => rw [hg] at this; cases this
      | some v => have := ph.core.key k.1 k.2 v hg; exact ⟨this.1, this.2.1⟩
    refine nxm_map it3 (by omega) (fun hall => ?_) fun k v w1 hkV hg k4 z4 it4 => ?_
    · try simp only [nd_]
      subst hnx1
      refine ⟨_, _, rfl, ⟨?_, ?_, l, ?_, it3.map, ?_⟩, ?_⟩
      · rw [wrap_i64 (by omega) (by omega)]; omega
      · rw [wrap_i64 (by omega) (by omega)]; omega
      · exact kp_or (k2.ext e1) (k2.1) k3
      · rw [wrap_i64 (by omega) (by omega)]
        exact hphase ph (fun q hq => hall q ((keys_get hkeys2).2 hq)) hVk
      · rw [wrap_i64 (by omega) (by omega)]
        show (n - (x + 1)).toNat < (n - x).toNat
        omega
    · refine ent_map it4 ?_
      unfold keyV
      try simp only [nd_]
      have hlen' : (k :: V).length = V.length + 1 := rfl
      refine nw2 zc_111 rfl rfl fun w2 e2 z2 o1 o2 => ?_
      refine ⟨_, o2.cell, ?_⟩
      have it5 := it4.it.ext e2
      have k5 : Kp (fun b => b = r ∨ b = u.size) u1 w2 := (k3.trans (k4.mono fun b hb => .inr hb)).ext e2
      have hsn : seenN w2 u.size = V.length + 1 := it5.seen
      have hsn0 : seenN w u.size = V.length := it3.seen
      have hcore := ph.core.key k.1 k.2 v hg
      have hbD := hb.le ph.core.le
      have skip : (∀ v' w', k.1 ≠ x → k.2 ≠ x → get l k = some v' → get l (k.2, x) = some w' → ∃ u', get l (k.1, x) = some u' ∧ u' ≤ v' + w') → (x ≠ -1 → k.2 = -1 → k.1 ≠ x → ∃ v', get l (k.1, x) = some v' ∧ v' ≤ 600) → ∀ w3, Ext w2 w3 →
          N_clock_bounds_tight_2 (fun b9 w => ∃ l V, Kp (fun b => b = r ∨ b = u.size) u1 w ∧ ItM w r u.size (l2.map (·.1)) l V ∧ PhI n A x (get l0) (get l2) (get l) V b5 b9) (fun b9 w => 37 - seenN w u.size) b9 w [Value.bool b9] w3 := fun hno hr w3 e3 => by
        have it6 := it5.ext e3
        refine ⟨_, rfl, ⟨l, k :: V, k5.ext e3, it6, ph.skip hA.1 hno hr⟩, ?_⟩
        have := it6.seen
        show 37 - seenN w3 u.size < 37 - seenN w u.size
        omega
      have hr1 : x ≠ -1 → (get l (-1, x)).isSome = true := fun h => by
        obtain ⟨⟨v', h1, _⟩, _⟩ := hbD x (by omega) hlt
        rw [h1]; rfl
      refine lkp_ok (k := (k.2, x)) it5.map ?_
      try simp only [nd_]
      cases hw : get l (k.2, x) with
      | none =>
        refine BR_ff rfl ?_
        unfold J_clock_bounds_tight_1
        rw [BR_f]
        unfold J_clock_bounds_tight_0
        rw [BR_f]
        try simp only [nd_]
        exact skip (fun v' w' _ _ _ hw' => by rw [hw] at hw'; cases hw') (fun hx hk2 _ => by have := hr1 hx; rw [hk2] at hw; rw [hw] at this; cases this) w2 (Ext.refl _)
      | some nw =>
        refine BR_tt rfl ⟨_, o1.cell, ?_⟩
        unfold J_clock_bounds_tight_1
        refine BR_ne (fun hk1 => ?_) (fun hk1 => ?_)
        rotate_left
        · unfold J_clock_bounds_tight_0
          rw [BR_f]
          try simp only [nd_]
          exact skip (fun v' w' h _ _ _ => absurd hk1 h) (fun _ _ h => absurd hk1 h) w2 (Ext.refl _)
        refine ⟨_, o2.cell, ?_⟩
        unfold J_clock_bounds_tight_0
        refine BR_ne (fun hk2 => ?_) (fun hk2 => ?_)
        rotate_left
        · try simp only [nd_]
          exact skip (fun v' w' _ h _ _ => absurd hk2 h) (fun hx hk _ => by omega) w2 (Ext.refl _)
        refine ⟨_, o1.cell, ?_⟩
        have hv2 : -A ≤ v ∧ v ≤ A := by
          have := ph.bnd2 (k.1, k.2) v (by rw [← ph.col k.1 k.2 hk2]; exact hg)
          exact this
        have hw2 := ph.bnd k.2 nw hw
        have hcap : A * (1 + V.length) ≤ A * 40 := Int.mul_le_mul_of_nonneg_left (by omega) hA.1
        have hwr : IntKind.i64.wrap (v + (some nw).getD 0) = v + nw := by
          show IntKind.i64.wrap (v + nw) = _
          have := hA.2
          unfold big at this
          exact wrap_i64 (by omega) (by omega)
        rw [hwr]
        have h600 : x ≠ -1 → k.2 = -1 → v + nw ≤ 600 := fun hx hk => by
          obtain ⟨⟨v', a1, a2⟩, _⟩ := hbD x (by omega) hlt
          obtain ⟨_, v'', a3, a4⟩ := hbD k.1 (by omega) hcore.1.2
          have e1 : get l (k.1, -1) = some v := by rw [← hk]; exact hg
          rw [hk] at hw
          rw [hw] at a1; cases a1
          rw [e1] at a3; cases a3
          omega
        refine c_put (k := (k.1, x)) it5.map (fun w3 old ho hle e3 => ?_) (fun w3 ho k6 m6 i6 => ?_)
        · try simp only [nd_]
          refine BR_ff rfl ?_
          try simp only [nd_]
          exact skip (fun v' w' _ _ hv' hw' => ⟨old, ho, by rw [hw] at hw'; cases hw'; rw [hg] at hv'; cases hv'; exact hle⟩) (fun hx hk _ => ⟨old, ho, by have := h600 hx hk; omega⟩) w3 e3
        · try simp only [nd_]
          refine BR_tt rfl ?_
          try simp only [nd_]
          have it6 := i6 u.size _ _ (by omega) it5
          refine ⟨_, rfl, ⟨put l (k.1, x) (v + nw), k :: V, k5.trans (k6.mono fun b hb => .inl hb), it6, ?_⟩, ?_⟩
          · rw [get_updF hkl]
            exact ph.put hA.1 hVk hA.2 hg hw hk1 hk2 ho h600
          · have := it6.seen
            show 37 - seenN w3 u.size < 37 - seenN w u.size
            omega
  · have hxe : x = n := by omega
    subst hxe
    refine rnm_map m2 fun u1 e1 z1 it1 => ?_
    have hru : r < u.size := m2.lt
    have hpw := pow_37 (k := (x + 1).toNat) (by omega)
    have hbn : ∀ k v, get l2 k = some v → -10000000000000 ≤ v ∧ v ≤ 10000000000000 := fun k v hk => by
      have := pa.bnd k v hk
      generalize (37 : Int) ^ (x + 1).toNat = q at *
      omega
    refine L_clock_bounds_tight_3_rule W _ nx0 (some r) x b5 ⟨u.size, 0, none⟩ (fun b w => ∃ V, Kp (fun b => b = r ∨ b = u.size) u1 w ∧ ItM w r u.size (l2.map (·.1)) l2 V ∧ ∀ i j v w, (i, j) ∈ V → get l2 (i, j) = some v → get l2 (j, i) = some w → 0 ≤ v + w) (fun _ w => 37 - seenN w u.size) b3 u1
      ⟨[], Kp.refl _, it1, fun i j v w h => by cases h⟩ ?_
    rintro b44 w ⟨V, k3, it3, hcy⟩
    unfold B_clock_bounds_tight_3
    have hVk : V.length ≤ 36 := keys_len hn5 it3.nod.1 fun k hk => by
      have := it3.nod.2 k hk
      cases hg : get l2 k with
      | none => rw [hg] at this; cases this
      | some v => have := pa.core.key k.1 k.2 v hg; exact ⟨this.1, this.2.1⟩
    refine nxm_map it3 (by omega) (fun hall => ?_) fun k v w1 hkV hg k4 z4 it4 => ?_
    · try simp only [nd_]
      subst hnx0
      have hcyc : Cyc (get l2) := fun i j v w hv hw => hcy i j v w (hall _ ((keys_get hkeys2).2 (by rw [hv]; rfl))) hv hw
      refine ⟨_, _, rfl, ⟨l2, kp_or ((k1.trans k2).ext e1) (k1.trans k2).1 k3, it3.map, pa.head hn0 hcyc⟩, ?_⟩
      show 2 * mu x (get (mapOf w r)) + b5.toNat < 2 * mu x (get (mapOf t r)) + 1
      rw [it3.map.of, m1.of]
      have hmle := pa.mle
      cases b5 with
      | false => show 2 * _ + 0 < 2 * _ + 1; omega
      | true => have := pa.mlt rfl; show 2 * _ + 1 < 2 * _ + 1; omega
    · refine ent_map it4 ?_
      unfold keyV
      try simp only [nd_]
      refine nw2 zc_111 rfl rfl fun w2 e2 z2 o1 o2 => ?_
      refine ⟨_, o2.cell, ⟨_, o1.cell, ?_⟩⟩
      have it5 := it4.it.ext e2
      have k5 : Kp (fun b => b = r ∨ b = u.size) u1 w2 := (k3.trans (k4.mono fun b hb => .inr hb)).ext e2
      have hsn : seenN w2 u.size = V.length + 1 := it5.seen
      have hsn0 : seenN w u.size = V.length := it3.seen
      have hgo : (∀ w', get l2 (k.2, k.1) = some w' → 0 ≤ v + w') → N_clock_bounds_tight_3 (fun b w => ∃ V, Kp (fun b => b = r ∨ b = u.size) u1 w ∧ ItM w r u.size (l2.map (·.1)) l2 V ∧ ∀ i j v w, (i, j) ∈ V → get l2 (i, j) = some v → get l2 (j, i) = some w → 0 ≤ v + w) (fun _ w => 37 - seenN w u.size) b44 w [Value.bool b44] w2 := fun h => by
        refine ⟨_, rfl, ⟨k :: V, k5, it5, fun i j v' w' hij hv hw => ?_⟩, ?_⟩
        · rcases List.mem_cons.1 hij with e | hij
          · subst e
            rw [hg] at hv; cases hv
            exact h w' hw
          · exact hcy i j v' w' hij hv hw
        · show 37 - seenN w2 u.size < 37 - seenN w u.size
          omega
      refine lkp_ok (k := (k.2, k.1)) it5.map ?_
      try simp only [nd_]
      cases hw : get l2 (k.2, k.1) with
      | none =>
        refine BR_ff rfl ?_
        try simp only [nd_]
        exact hgo (fun w' h => by rw [hw] at h; cases h)
      | some nw =>
        refine BR_tt rfl ?_
        have b1 := hbn _ _ hg
        have b2 := hbn _ _ hw
        have hwr : IntKind.i64.wrap (v + (some nw).getD 0) = v + nw := wrap_i64 (by show _ ≤ v + nw; omega) (by show v + nw ≤ _; omega)
        rw [hwr]
        refine BR_dec (fun hlt => ?_) (fun hle => ?_)
        · exact h0 w2 (kp_or ((k1.trans k2).ext e1) (k1.trans k2).1 k5) (Cyc.no pa.core (i := k.1) (j := k.2) hg hw hlt)
        · try simp only [nd_]
          exact hgo (fun w' h => by rw [hw] at h; cases h; omega)
end
open Go.Proofs.YtpmldejcdaoljaaGreat.G Go.V
structure Wt where
  zlo : Int
  zhi : Int
  rlo : Int
  rhi : Int
deriving DecidableEq
structure Rd where
  ev : Int
  wa : Int
  sh : Int
deriving DecidableEq
structure Lk where
  a : Int
  b : Int
  lo : Int
  hi : Int
deriving DecidableEq
structure Clk where
  ws : List Wt
  n : Int
  rs : List Rd
  ls : List Lk
deriving DecidableEq
def badW (w : Wt) : Bool := !(decide (0 ≤ w.zlo ∧ w.zlo ≤ w.zhi ∧ w.zhi ≤ 1000 ∧ w.zhi - w.zlo ≤ 6)) || !(decide (900 ≤ w.rlo ∧ w.rlo ≤ w.rhi ∧ w.rhi ≤ 1100)) || decide (4 < w.rhi - w.rlo)
def badR (c : Clk) (r : Rd) : Bool := !(decide (0 ≤ r.ev ∧ r.ev < c.n)) || !(decide (0 ≤ r.wa ∧ r.wa < c.ws.length)) || !(decide (0 ≤ r.sh ∧ r.sh ≤ 2000))
def badL (c : Clk) (l : Lk) : Bool := !(decide (0 ≤ l.a ∧ l.a < c.n)) || !(decide (0 ≤ l.b ∧ l.b < c.n)) || decide (l.a = l.b) || !(decide (-600 ≤ l.lo ∧ l.lo ≤ l.hi ∧ l.hi ≤ 600))
def sizesC (c : Clk) : Bool := decide (c.ws.length ≤ 2 ∧ 0 ≤ c.n ∧ c.n ≤ 5 ∧ c.rs.length ≤ 8 ∧ c.ls.length ≤ 5)
def okC (c : Clk) : Bool := sizesC c && !(c.ws.any badW) && !(c.rs.any (badR c)) && !(c.ls.any (badL c))
structure VdC (c : Clk) : Prop where
  w2 : c.ws.length ≤ 2
  n0 : 0 ≤ c.n
  n5 : c.n ≤ 5
  r8 : c.rs.length ≤ 8
  l5 : c.ls.length ≤ 5
  wt : ∀ w ∈ c.ws, 0 ≤ w.zlo ∧ w.zlo ≤ w.zhi ∧ w.zhi ≤ 1000 ∧ w.zhi - w.zlo ≤ 6 ∧ 900 ≤ w.rlo ∧ w.rlo ≤ w.rhi ∧ w.rhi ≤ 1100 ∧ w.rhi - w.rlo ≤ 4
  rd : ∀ r ∈ c.rs, 0 ≤ r.ev ∧ r.ev < c.n ∧ 0 ≤ r.wa ∧ r.wa < c.ws.length ∧ 0 ≤ r.sh ∧ r.sh ≤ 2000
  lk : ∀ l ∈ c.ls, 0 ≤ l.a ∧ l.a < c.n ∧ 0 ≤ l.b ∧ l.b < c.n ∧ l.a ≠ l.b ∧ -600 ≤ l.lo ∧ l.lo ≤ l.hi ∧ l.hi ≤ 600
theorem okC_iff {c : Clk} : okC c = true ↔ VdC c := by
  unfold okC sizesC
  simp only [Bool.and_eq_true, decide_eq_true_eq, Bool.not_eq_true', List.any_eq_false, badW, badR, badL, Bool.or_eq_true, decide_eq_false_iff_not, not_or, Classical.not_not, Int.not_lt]
  constructor
  · rintro ⟨⟨⟨⟨h1, h2, h3, h4, h5⟩, hw⟩, hr⟩, hl⟩
    exact ⟨h1, h2, h3, h4, h5, fun w hm => by have := hw w hm; omega, fun r hm => by have := hr r hm; omega, fun l hm => by have := hl l hm; omega⟩
  · intro h
    exact ⟨⟨⟨⟨h.w2, h.n0, h.n5, h.r8, h.l5⟩, fun w hm => by have := h.wt w hm; omega⟩, fun r hm => by have := h.rd r hm; omega⟩, fun l hm => by have := h.lk l hm; omega⟩
abbrev Go' := Int × Int
def showP (g : Go') (m : Int) : Int := g.1 + m * g.2 / 1000
def upP (g : Go') (k : Int) : Int := (k * 1000 + g.2 - 1) / g.2
def minP (g : Go') (sh : Int) : Int × Int := if sh - g.1 < 0 then (1, 0) else (upP g (sh - g.1), upP g (sh - g.1 + 1) - 1)
theorem up_le {g : Go'} {k m : Int} (hr : 0 < g.2) : upP g k ≤ m ↔ k * 1000 ≤ m * g.2 := by
  unfold upP
  rw [← Int.lt_add_one_iff, Int.ediv_lt_iff_lt_mul hr, Int.add_mul, Int.one_mul]
  generalize m * g.2 = q
  omega
theorem min_iff {g : Go'} {sh m : Int} (hr : 0 < g.2) (hm : 0 ≤ m) : showP g m = sh ↔ (minP g sh).1 ≤ m ∧ m ≤ (minP g sh).2 := by
  unfold minP showP
  have hq : 0 ≤ m * g.2 := Int.mul_nonneg hm (by omega)
  by_cases h : sh - g.1 < 0
  · rw [if_pos h]
    have : 0 ≤ m * g.2 / 1000 := Int.ediv_nonneg hq (by omega)
    constructor
    · intro e; omega
    · rintro ⟨h1, h2⟩; simp only at h1 h2; omega
  · rw [if_neg h]
    simp only
    have h1 := up_le (g := g) (k := sh - g.1) (m := m) hr
    have h2 := up_le (g := g) (k := sh - g.1 + 1) (m := m) hr
    generalize m * g.2 = q at *
    rw [h1]
    constructor
    · intro e
      refine ⟨by omega, ?_⟩
      have : ¬ upP g (sh - g.1 + 1) ≤ m := fun hh => by have := h2.1 hh; omega
      omega
    · rintro ⟨h3, h4⟩
      have : ¬ (sh - g.1 + 1) * 1000 ≤ q := fun hh => by have := h2.2 hh; omega
      omega
theorem min_bnd {g : Go'} {sh : Int} (hz : 0 ≤ g.1) (hr : 900 ≤ g.2 ∧ g.2 ≤ 1100) (hs : sh ≤ 2000) (h : (minP g sh).1 ≤ (minP g sh).2) : 0 ≤ (minP g sh).1 ∧ (minP g sh).2 ≤ 2300 := by
  unfold minP at h ⊢
  by_cases h0 : sh - g.1 < 0
  · rw [if_pos h0] at h; simp only at h; omega
  · rw [if_neg h0] at h ⊢
    simp only at h ⊢
    have h2 : upP g (sh - g.1 + 1) ≤ 2301 := (up_le (by omega)).2 (by omega)
    refine ⟨?_, by omega⟩
    unfold upP
    exact Int.ediv_nonneg (by omega) (by omega)
inductive Tel
  | day (e : Int)
  | rd (e wa sh : Int)
  | lk (a b lo hi : Int)
def Tel.says (g : List Go') (m : Int → Int) : Tel → Prop
  | .day e => 0 ≤ m e ∧ m e ≤ 600
  | .rd e wa sh => (0 ≤ m e ∧ m e ≤ 600) ∧ showP (g.getD wa.toNat (0, 0)) (m e) = sh
  | .lk a b lo hi => lo ≤ m b - m a ∧ m b - m a ≤ hi
def rdsL : Nat → List Rd → Nat → List Tel
  | _, [], _ => []
  | S, r :: rs, i => if S.testBit i then .rd r.ev r.wa r.sh :: rdsL S rs (i + 1) else rdsL S rs (i + 1)
def daysL (n : Nat) : List Tel := (List.range n).map fun (k : Nat) => Tel.day (k : Int)
def lksL (ls : List Lk) : List Tel := ls.map fun l => Tel.lk l.a l.b l.lo l.hi
def telsL (c : Clk) (S : Nat) : List Tel := daysL c.n.toNat ++ rdsL S c.rs 0 ++ lksL c.ls
def zs (lo hi : Int) : List Int := (List.range (hi + 1 - lo).toNat).map fun (k : Nat) => lo + (k : Int)
def chL : List Wt → List (List Go')
  | [] => [[]]
  | w :: ws => (zs w.zlo w.zhi).flatMap fun z => (zs w.rlo w.rhi).flatMap fun r => (chL ws).map fun g => (z, r) :: g
theorem mem_zs {lo hi x : Int} : x ∈ zs lo hi ↔ lo ≤ x ∧ x ≤ hi := by
  unfold zs
  rw [List.mem_map]
  constructor
  · rintro ⟨k, hk, rfl⟩; rw [List.mem_range] at hk; omega
  · rintro ⟨h1, h2⟩; exact ⟨(x - lo).toNat, by rw [List.mem_range]; omega, by omega⟩
def GoOk (w : Wt) (g : Go') : Prop := w.zlo ≤ g.1 ∧ g.1 ≤ w.zhi ∧ w.rlo ≤ g.2 ∧ g.2 ≤ w.rhi
inductive GoesOk : List Wt → List Go' → Prop
  | nil : GoesOk [] []
  | cons {w : Wt} {g : Go'} {ws : List Wt} {gs : List Go'} (h : GoOk w g) (t : GoesOk ws gs) : GoesOk (w :: ws) (g :: gs)
theorem mem_chL : ∀ (ws : List Wt) (g : List Go'), g ∈ chL ws ↔ GoesOk ws g
  | [], g => by
    unfold chL
    rw [List.mem_singleton]
    constructor
    · rintro rfl; exact .nil
    · intro h; cases h; rfl
  | w :: ws, g => by
    unfold chL
    simp only [List.mem_flatMap, List.mem_map]
    constructor
    · rintro ⟨z, hz, r, hr, gs, hg, rfl⟩
      rw [mem_zs] at hz hr
      exact .cons ⟨hz.1, hz.2, hr.1, hr.2⟩ ((mem_chL ws gs).1 hg)
    · intro h
      cases h with
      | cons h t =>
        rename_i g gs
        exact ⟨g.1, mem_zs.2 ⟨h.1, h.2.1⟩, g.2, mem_zs.2 ⟨h.2.2.1, h.2.2.2⟩, gs, (mem_chL ws gs).2 t, rfl⟩
theorem GoesOk.len : ∀ {ws : List Wt} {g : List Go'}, GoesOk ws g → g.length = ws.length
  | _, _, .nil => rfl
  | _, _, .cons _ t => by simp [GoesOk.len t]
theorem GoesOk.get : ∀ {ws : List Wt} {g : List Go'}, GoesOk ws g → ∀ i (h : i < ws.length), GoOk ws[i] (g.getD i (0, 0))
  | _, _, .nil, i, h => by simp at h
  | _, _, .cons h t, 0, _ => h
  | _, _, .cons h t, i + 1, hi => by
    have := GoesOk.get t i (by simpa using hi)
    simpa using this
structure Truth (c : Clk) (S : Nat) (g : List Go') (m : Int → Int) : Prop where
  goes : GoesOk c.ws g
  days : ∀ e, 0 ≤ e → e < c.n → 0 ≤ m e ∧ m e ≤ 600
  shows : ∀ i (h : i < c.rs.length), S.testBit i = true → showP (g.getD c.rs[i].wa.toNat (0, 0)) (m c.rs[i].ev) = c.rs[i].sh
  links : ∀ l ∈ c.ls, l.lo ≤ m l.b - m l.a ∧ m l.b - m l.a ≤ l.hi
theorem says_rds {g : List Go'} {m : Int → Int} {S : Nat} : ∀ (rs : List Rd) (j : Nat), (∀ t ∈ rdsL S rs j, t.says g m) ↔ ∀ i (h : i < rs.length), S.testBit (j + i) = true → (0 ≤ m rs[i].ev ∧ m rs[i].ev ≤ 600) ∧ showP (g.getD rs[i].wa.toNat (0, 0)) (m rs[i].ev) = rs[i].sh
  | [], j => by simp [rdsL]
  | r :: rs, j => by
    have ih := says_rds (g := g) (m := m) (S := S) rs (j + 1)
    have hs : (∀ i (h : i < rs.length), S.testBit (j + 1 + i) = true → (0 ≤ m rs[i].ev ∧ m rs[i].ev ≤ 600) ∧ showP (g.getD rs[i].wa.toNat (0, 0)) (m rs[i].ev) = rs[i].sh) ↔
        ∀ i (h : i + 1 < (r :: rs).length), S.testBit (j + (i + 1)) = true → (0 ≤ m (r :: rs)[i + 1].ev ∧ m (r :: rs)[i + 1].ev ≤ 600) ∧ showP (g.getD (r :: rs)[i + 1].wa.toNat (0, 0)) (m (r :: rs)[i + 1].ev) = (r :: rs)[i + 1].sh := by
      constructor
      · intro h i hi hb; exact h i (by simpa using hi) (by rw [show j + 1 + i = j + (i + 1) by omega]; exact hb)
      · intro h i hi hb; exact h i (by simpa using hi) (by rw [show j + (i + 1) = j + 1 + i by omega]; exact hb)
    unfold rdsL
    constructor
    · intro h i hi hb
      cases i with
      | zero =>
        have hb' : S.testBit j = true := hb
        rw [if_pos hb'] at h
        exact h (.rd r.ev r.wa r.sh) (by simp)
      | succ i =>
        refine hs.1 (ih.1 fun t ht => h t ?_) i hi hb
        split
        · exact List.mem_cons_of_mem _ ht
        · exact ht
    · intro h t ht
      have h2 := ih.2 (hs.2 fun i hi hb => h (i + 1) hi hb)
      split at ht
      · rename_i hb
        rcases List.mem_cons.1 ht with rfl | ht
        · exact h 0 (by simp) hb
        · exact h2 t ht
      · exact h2 t ht
theorem truth_iff {c : Clk} {S : Nat} {g : List Go'} {m : Int → Int} (hv : VdC c) : Truth c S g m ↔ GoesOk c.ws g ∧ ∀ t ∈ telsL c S, t.says g m := by
  have hr := says_rds (g := g) (m := m) (S := S) c.rs 0
  simp only [Nat.zero_add] at hr
  unfold telsL
  constructor
  · intro h
    refine ⟨h.goes, fun t ht => ?_⟩
    rcases List.mem_append.1 ht with ht | ht
    · rcases List.mem_append.1 ht with ht | ht
      · unfold daysL at ht
        obtain ⟨k, hk, rfl⟩ := List.mem_map.1 ht
        rw [List.mem_range] at hk
        exact h.days k (by omega) (by omega)
      · exact hr.2 (fun i hi hb => ⟨h.days _ (hv.rd _ (List.getElem_mem hi)).1 (hv.rd _ (List.getElem_mem hi)).2.1, h.shows i hi hb⟩) t ht
    · unfold lksL at ht
      obtain ⟨l, hl, rfl⟩ := List.mem_map.1 ht
      exact h.links l hl
  · rintro ⟨hg, h⟩
    refine ⟨hg, fun e h0 h1 => ?_, fun i hi hb => ?_, fun l hl => ?_⟩
    · refine h (.day e) (List.mem_append_left _ (List.mem_append_left _ ?_))
      exact List.mem_map.2 ⟨e.toNat, by rw [List.mem_range]; omega, by rw [Int.toNat_of_nonneg h0]⟩
    · exact (hr.1 (fun t ht => h t (List.mem_append_left _ (List.mem_append_right _ ht))) i hi hb).2
    · exact h (.lk l.a l.b l.lo l.hi) (List.mem_append_right _ (List.mem_map.2 ⟨l, hl, rfl⟩))
open Go.Proofs.YtpmldejcdaoljaaGreat.G Go.V
structure OkM (n : Int) (l : List Pr) : Prop where
  key : ∀ i j v, get l (i, j) = some v → (-1 ≤ i ∧ i < n) ∧ (-1 ≤ j ∧ j < n) ∧ i ≠ j
  bnd : Bnd 3000 (get l)
structure PutR (n : Int) (l l' : List Pr) (a b v : Int) : Prop where
  ok : OkM n l'
  le : Le (get l) (get l')
  has : ∃ w, get l' (a, b) = some w ∧ w ≤ v
  sat : ∀ m, Sat (get l') m ↔ Sat (get l) m ∧ m b - m a ≤ v
structure TieR (n : Int) (l l' : List Pr) (a b lo hi : Int) : Prop where
  ok : OkM n l'
  le : Le (get l) (get l')
  has1 : ∃ w, get l' (a, b) = some w ∧ w ≤ hi
  has2 : ∃ w, get l' (b, a) = some w ∧ w ≤ -lo
  sat : ∀ m, Sat (get l') m ↔ Sat (get l) m ∧ lo ≤ m b - m a ∧ m b - m a ≤ hi
section
variable {W : World} {K : VK} {E : List PanicEntry → Hp → Prop} {s : Hp} {r : Nat} {l : List Pr} {n : Int}
theorem c_putR {a b v : Int} (hm : MapL s r l) (ho : OkM n l) (ha : -1 ≤ a ∧ a < n) (hb : -1 ≤ b ∧ b < n) (hne : a ≠ b) (hv : -3000 ≤ v ∧ v ≤ 3000)
    (h : ∀ s' l' x, Kp (· = r) s s' → MapL s' r l' → PutR n l l' a b v → K (.bool x) s') : CALL Pg W F_clock_bounds_put [.map (some r), .agg #[.int .i64 a, .int .i64 b], .int .i64 v] K E s := by
  refine c_put (k := (a, b)) hm (fun s' old hg hle e => ?_) (fun s' hg k m _ => ?_)
  · refine h s' l false e.kp (hm.ext e) ⟨ho, Le.refl _, ⟨old, hg, hle⟩, fun m => ⟨fun hs => ⟨hs, ?_⟩, fun hs => hs.1⟩⟩
    have := hs a b old hg
    omega
  · have hkk := hm.keys
    refine h s' _ true k m ⟨⟨fun i j w hw => ?_, fun q w hw => ?_⟩, ?_, ?_, fun m => ?_⟩
    · rw [get_put hkk] at hw
      split at hw
      · rename_i e; cases e; exact ⟨ha, hb, hne⟩
      · exact ho.key i j w hw
    · rw [get_put hkk] at hw
      split at hw
      · cases hw; exact hv
      · exact ho.bnd q w hw
    · rw [get_updF hkk]; exact Le.upd fun w hw => Int.le_of_lt (hg w hw)
    · exact ⟨v, by rw [get_put hkk, if_pos rfl], Int.le_refl _⟩
    · constructor
      · intro hs
        refine ⟨fun i j w hw => ?_, hs a b v (by rw [get_put hkk, if_pos rfl])⟩
        by_cases e : (i, j) = (a, b)
        · have h1 := hs a b v (by rw [get_put hkk, if_pos rfl])
          cases e
          have := hg w hw
          omega
        · exact hs i j w (by rw [get_put hkk, if_neg e]; exact hw)
      · rintro ⟨hs, h1⟩ i j w hw
        rw [get_put hkk] at hw
        split at hw
        · rename_i e; cases e; cases hw; exact h1
        · exact hs i j w hw
theorem c_tie {a b lo hi : Int} (hm : MapL s r l) (ho : OkM n l) (ha : -1 ≤ a ∧ a < n) (hb : -1 ≤ b ∧ b < n) (hne : a ≠ b) (hlo : -3000 ≤ lo ∧ lo ≤ 3000) (hhi : -3000 ≤ hi ∧ hi ≤ 3000)
    (h : ∀ s' l', Kp (· = r) s s' → MapL s' r l' → TieR n l l' a b lo hi → K (.tuple #[]) s') : CALL Pg W F_clock_bounds_tie [.map (some r), .int .i64 a, .int .i64 b, .agg #[.int .i64 lo, .int .i64 hi]] K E s := by
  refine does_clock_bounds_tie W (some r) a b lo hi _ s ?_
  unfold T_clock_bounds_tie
  refine ne2 fun s1 e1 z1 o1 o2 => ?_
  refine ⟨_, o2.cell, ?_⟩
  have hr1 : s.size ≠ r := by have := hm.lt; omega
  refine c_putR (hm.ext e1) ho ha hb hne hhi fun s2 l2 x k2 m2 p2 => ?_
  try simp only [nd_]
  refine ⟨_, (k2.own hr1 o1).cell, ?_⟩
  dsimp only
  rw [wrap_i64 (by omega) (by omega), Int.zero_sub]
  refine c_putR m2 p2.ok hb ha (Ne.symm hne) (by omega) fun s3 l3 x k3 m3 p3 => ?_
  try simp only [nd_]
  refine h s3 l3 ((e1.kp.trans k2).trans k3) m3 ⟨p3.ok, p2.le.trans p3.le, ?_, p3.has, fun m => ?_⟩
  · obtain ⟨w, h1, h2⟩ := p2.has
    obtain ⟨w', h3, h4⟩ := p3.le _ _ h1
    exact ⟨w', h3, by omega⟩
  · rw [p3.sat, p2.sat]
    constructor
    · rintro ⟨⟨h1, h2⟩, h3⟩; exact ⟨h1, by omega, h2⟩
    · rintro ⟨h1, h2, h3⟩; exact ⟨⟨h1, h3⟩, by omega⟩
def chV (g : List Go') : Value := .agg #[.int .i64 (g.getD 0 (0, 0)).1, .int .i64 (g.getD 0 (0, 0)).2, .int .i64 (g.getD 1 (0, 0)).1, .int .i64 (g.getD 1 (0, 0)).2]
theorem c_up {g : Go'} {a : Addr} {k : Int} (hc : cellAt s (a.add 1) = some (.int .i64 g.2)) (hr : 900 ≤ g.2 ∧ g.2 ≤ 1100) (hk : 0 ≤ k ∧ k ≤ 3000) (h : K (.int .i64 (upP g k)) s) : CALLV Pg W (.func (.func 142) #[] #[.pointer (some a)]) [.int .i64 k] K E s := by
  refine CALLV_func ?_
  refine does_clock_going_minutes_c1 W k a _ s ?_
  unfold T_clock_going_minutes_c1
  refine ⟨_, hc, _, hc, NZI_pos (by omega) ?_⟩
  have e : IntKind.i64.wrap (Int.tdiv (IntKind.i64.wrap (IntKind.i64.wrap (IntKind.i64.wrap (k * 1000) + g.2) - 1)) g.2) = upP g k := by
    rw [wrap_i64 (n := k * 1000) (by omega) (by omega), wrap_i64 (n := k * 1000 + g.2) (by omega) (by omega), wrap_i64 (n := k * 1000 + g.2 - 1) (by omega) (by omega)]
    rw [Int.tdiv_eq_ediv_of_nonneg (by omega)]
    have h1 : 0 ≤ (k * 1000 + g.2 - 1) / g.2 := Int.ediv_nonneg (by omega) (by omega)
    have h2 : (k * 1000 + g.2 - 1) / g.2 ≤ k * 1000 + g.2 - 1 := Int.ediv_le_self _ (by omega)
    exact wrap_i64 (by omega) (by omega)
  rw [e]
  exact h
theorem wrB {b : Nat} {y0 y1 v0 v1 : Value} {K : Hp → Prop} (o0 : Own s ⟨b, 0, none⟩ y0) (o1 : Own s ⟨b, 1, none⟩ y1) (h0 : oneCell v0 = true) (h1 : oneCell v1 = true) (h : ∀ s', Kp (· = b) s s' → s'.size = s.size → Own s' ⟨b, 0, none⟩ v0 → Own s' ⟨b, 1, none⟩ v1 → K s') :
    WR (Addr.add ⟨b, 0, none⟩ 0) v0 (WR (Addr.add ⟨b, 0, none⟩ 1) v1 K) s := by
  show wrN [v0, v1] ⟨b, 0, none⟩ 0 K s
  refine wrN_rule _ _ 0 K s (fun i hi => ?_) ?_ ?_
  · match i, hi with
    | 0, _ => exact ⟨_, o0⟩
    | 1, _ => exact ⟨_, o1⟩
  · intro w hw
    simp at hw
    rcases hw with rfl | rfl <;> assumption
  · intro s' k z ho _
    exact h s' k z (ho 0 (by simp)) (ho 1 (by simp))
theorem c_minutes {g : Go'} {sh : Int} (hz : 0 ≤ g.1 ∧ g.1 ≤ 1000) (hr : 900 ≤ g.2 ∧ g.2 ≤ 1100) (hs : 0 ≤ sh ∧ sh ≤ 2000) (h : ∀ s', Ext s s' → K (.agg #[.int .i64 (minP g sh).1, .int .i64 (minP g sh).2]) s') : CALL Pg W F_clock_going_minutes [.agg #[.int .i64 g.1, .int .i64 g.2], .int .i64 sh] K E s := by
  refine does_clock_going_minutes W g.1 g.2 sh _ s ?_
  unfold T_clock_going_minutes
  refine ne2 fun s1 e1 z1 o1 o2 => ?_
  refine nz2 zc_34 fun s2 e2 z2 p1 p2 => ?_
  refine ⟨_, (e2.own o1).cell, ?_⟩
  dsimp only
  rw [wrap_i64 (n := sh - g.1) (by omega) (by omega)]
  refine BR_dec (fun hlt => ?_) (fun hge => ?_)
  · refine wrB p1 p2 rfl rfl fun s3 k3 z3 q1 q2 => ⟨_, q1.cell, ⟨_, q2.cell, ?_⟩⟩
    have hh := h s3 (ext_kp (e1.trans e2) (by omega) k3)
    unfold minP at hh
    rw [if_pos hlt] at hh
    exact hh
  · refine c_up (g := g) (a := ⟨s.size, 0, none⟩) (e2.own o2).cell hr (by omega) ?_
    try simp only [nd_]
    rw [wrap_i64 (n := sh - g.1 + 1) (by omega) (by omega)]
    refine c_up (g := g) (a := ⟨s.size, 0, none⟩) (e2.own o2).cell hr (by omega) ?_
    try simp only [nd_]
    have h2 : upP g (sh - g.1 + 1) ≤ 3000 := (up_le (by omega)).2 (by omega)
    have h3 : 0 ≤ upP g (sh - g.1 + 1) := by unfold upP; exact Int.ediv_nonneg (by omega) (by omega)
    rw [wrap_i64 (n := upP g (sh - g.1 + 1) - 1) (by omega) (by omega)]
    refine wrB p1 p2 rfl rfl fun s3 k3 z3 q1 q2 => ⟨_, q1.cell, ⟨_, q2.cell, ?_⟩⟩
    have hh := h s3 (ext_kp (e1.trans e2) (by omega) k3)
    unfold minP at hh
    rw [if_neg hge] at hh
    exact hh
theorem c_day {e : Int} {g : List Go'} (hm : MapL s r l) (ho : OkM n l) (he : 0 ≤ e ∧ e < n) (h : ∀ s' l', Kp (· = r) s s' → MapL s' r l' → TieR n l l' (-1) e 0 600 → K (.bool true) s') :
    CALL Pg W F_clock_day_tell [.agg #[.int .i64 e], .map (some r), chV g] K E s := by
  unfold chV
  refine does_clock_day_tell W e (some r) _ _ _ _ _ s ?_
  unfold T_clock_day_tell
  refine ne1 fun s1 e1 z1 o1 => ?_
  refine ne4 fun s2 e2 z2 o21 o22 o23 o24 => ?_
  refine ⟨_, (e2.own o1).cell, ?_⟩
  refine c_tie ((hm.ext e1).ext e2) ho (by omega) (by omega) (by omega) (by omega) (by omega) fun s3 l3 k3 m3 t3 => ?_
  try simp only [nd_]
  exact h s3 l3 ((e1.trans e2).kp.trans k3) m3 t3
theorem c_link {a b lo hi : Int} {g : List Go'} (hm : MapL s r l) (ho : OkM n l) (ha : 0 ≤ a ∧ a < n) (hb : 0 ≤ b ∧ b < n) (hne : a ≠ b) (hl : -600 ≤ lo ∧ lo ≤ hi ∧ hi ≤ 600) (h : ∀ s' l', Kp (· = r) s s' → MapL s' r l' → TieR n l l' a b lo hi → K (.bool true) s') :
    CALL Pg W F_clock_link_tell [.agg #[.int .i64 a, .int .i64 b, .int .i64 lo, .int .i64 hi], .map (some r), chV g] K E s := by
  unfold chV
  refine does_clock_link_tell W a b lo hi (some r) _ _ _ _ _ s ?_
  unfold T_clock_link_tell
  refine ne4 fun s1 e1 z1 o1 o2 o3 o4 => ?_
  refine ne4 fun s2 e2 z2 o21 o22 o23 o24 => ?_
  refine ⟨_, (e2.own o1).cell, ⟨_, (e2.own o2).cell, ⟨_, (e2.own o3).cell, ⟨_, (e2.own o4).cell, ?_⟩⟩⟩⟩
  refine c_tie ((hm.ext e1).ext e2) ho (by omega) (by omega) hne (by omega) (by omega) fun s3 l3 k3 m3 t3 => ?_
  try simp only [nd_]
  exact h s3 l3 ((e1.trans e2).kp.trans k3) m3 t3
theorem c_reading {e wa sh : Int} {g : List Go'} (hm : MapL s r l) (ho : OkM n l) (he : 0 ≤ e ∧ e < n) (hwa : 0 ≤ wa ∧ wa < 2) (hsh : 0 ≤ sh ∧ sh ≤ 2000) (hz : 0 ≤ (g.getD wa.toNat (0, 0)).1 ∧ (g.getD wa.toNat (0, 0)).1 ≤ 1000) (hr : 900 ≤ (g.getD wa.toNat (0, 0)).2 ∧ (g.getD wa.toNat (0, 0)).2 ≤ 1100)
    (h0 : ∀ s', Ext s s' → (minP (g.getD wa.toNat (0, 0)) sh).2 < (minP (g.getD wa.toNat (0, 0)) sh).1 → K (.bool false) s')
    (h : ∀ s' l1 l', Kp (· = r) s s' → MapL s' r l' → TieR n l l1 (-1) e (minP (g.getD wa.toNat (0, 0)) sh).1 (minP (g.getD wa.toNat (0, 0)) sh).2 → TieR n l1 l' (-1) e 0 600 → K (.bool true) s') :
    CALL Pg W F_clock_reading_tell [.agg #[.int .i64 e, .int .i64 wa, .int .i64 sh], .map (some r), chV g] K E s := by
  unfold chV
  refine does_clock_reading_tell W e wa sh (some r) _ _ _ _ _ s ?_
  unfold T_clock_reading_tell
  refine NEW_rule fun s1 e1 z1 n1 _ => ?_
  refine ne4 fun s2 e2 z2 o1 o2 o3 o4 => ?_
  have p1 : Own s2 ⟨s.size, 0, none⟩ (.int .i64 e) := e2.own (n1 0 _ rfl)
  have p2 : Own s2 ⟨s.size, 1, none⟩ (.int .i64 wa) := e2.own (n1 1 _ rfl)
  have p3 : Own s2 ⟨s.size, 2, none⟩ (.int .i64 sh) := e2.own (n1 2 _ rfl)
  refine ⟨_, p2.cell, ?_⟩
  have hgw : ∃ a : Addr, a.block = s1.size ∧ (Addr.add ⟨s1.size, 0, none⟩ (wa.toNat * 2)) = a ∧ Own s2 (a.add 0) (.int .i64 (g.getD wa.toNat (0, 0)).1) ∧ Own s2 (a.add 1) (.int .i64 (g.getD wa.toNat (0, 0)).2) := by
    have : wa = 0 ∨ wa = 1 := by omega
    rcases this with rfl | rfl
    · exact ⟨⟨s1.size, 0, none⟩, rfl, rfl, o1, o2⟩
    · exact ⟨⟨s1.size, 2, none⟩, rfl, rfl, o3, o4⟩
  obtain ⟨a, hab, haa, q1, q2⟩ := hgw
  refine ⟨⟨hwa.1, hwa.2⟩, ?_⟩
  rw [haa]
  generalize hgg : g.getD wa.toNat (0, 0) = gw at *
  refine ⟨_, q1.cell, ⟨_, q2.cell, ⟨_, p3.cell, ?_⟩⟩⟩
  have hr2 : r < s.size := hm.lt
  have hJ : ∀ s3, Ext s2 s3 → ∀ B, s2.size ≤ B → Own s3 ⟨B, 0, none⟩ (.int .i64 (minP gw sh).1) → Own s3 ⟨B, 1, none⟩ (.int .i64 (minP gw sh).2) → J_clock_reading_tell_0 W (endK K E) (some ⟨B, 0, none⟩) s.size (some r) s1.size s3 := by
    intro s3 e3 B hB w1 w2
    have ee := (e1.trans e2).trans e3
    unfold J_clock_reading_tell_0
    refine ⟨_, w1.cell, ⟨_, w2.cell, ?_⟩⟩
    refine BR_dec (fun hgt => h0 s3 ee hgt) (fun hle => ?_)
    refine ⟨_, (e3.own p1).cell, ⟨_, w1.cell, ⟨_, w2.cell, ?_⟩⟩⟩
    have hb := min_bnd hz.1 hr hsh.2 (Int.not_lt.1 hle)
    refine c_tie (hm.ext ee) ho (by omega) (by omega) (by omega) (by omega) (by omega) fun s4 l4 k4 m4 t4 => ?_
    try simp only [nd_]
    have hne1 : s.size ≠ r := by omega
    have hne2 : s1.size ≠ r := by omega
    refine ⟨_, (k4.own hne1 (e3.own p1)).cell, ⟨_, (k4.own hne2 (e3.own o1)).cell, ⟨_, (k4.own hne2 (e3.own o2)).cell, ⟨_, (k4.own hne2 (e3.own o3)).cell, ⟨_, (k4.own hne2 (e3.own o4)).cell, ?_⟩⟩⟩⟩⟩
    refine c_day (g := g) m4 t4.ok he fun s5 l5 k5 m5 t5 => ?_
    try simp only [nd_]
    exact h s5 l4 l5 ((ee.kp.trans k4).trans k5) m5 t4 t5
  refine CONJ_two ?_ ?_
  · refine c_minutes (g := gw) hz hr hsh fun s3 e3 => ?_
    try simp only [nd_]
    refine nz2 zc_34 fun s4 e4 z4 w1 w2 => ?_
    have ee := e3.trans e4
    refine ANDS_i ⟨_, (ee.own p3).cell, rfl⟩ (ANDS_i ⟨_, (ee.own q1).cell, ⟨_, (ee.own q2).cell, rfl⟩⟩ (ANDS_i ⟨_, (ee.own p2).cell, rfl⟩ ?_))
    refine wrB w1 w2 rfl rfl fun s5 k5 z5 v1 v2 => ?_
    exact hJ s5 (ext_kp ee e3.1 k5) s3.size e3.1 v1 v2
  · refine nz2 zc_34 fun s4 e4 z4 w1 w2 => ?_
    refine ANDS_i ⟨_, (e4.own p3).cell, rfl⟩ (ANDS_i ⟨_, (e4.own q1).cell, ⟨_, (e4.own q2).cell, rfl⟩⟩ (ANDS_i ⟨_, (e4.own p2).cell, rfl⟩ ?_))
    refine c_minutes (g := gw) hz hr hsh fun s3 e3 => ?_
    try simp only [nd_]
    refine wrB (e3.own w1) (e3.own w2) rfl rfl fun s5 k5 z5 v1 v2 => ?_
    exact hJ s5 (ext_kp (e4.trans e3) (Nat.le_refl _) k5) s2.size (Nat.le_refl _) v1 v2
end
open Go.Proofs.YtpmldejcdaoljaaGreat.G Go.V
def WtAt (s : Hp) (y : Option Addr) (l : List Wt) : Prop := ∀ i, (h : i < l.length) → ∃ a, y = some a ∧ cellAt s ((a.add (i * 4)).add 0) = some (.int .i64 l[i].zlo) ∧ cellAt s ((a.add (i * 4)).add 1) = some (.int .i64 l[i].zhi) ∧ cellAt s ((a.add (i * 4)).add 2) = some (.int .i64 l[i].rlo) ∧ cellAt s ((a.add (i * 4)).add 3) = some (.int .i64 l[i].rhi)
def RdAt (s : Hp) (y : Option Addr) (l : List Rd) : Prop := ∀ i, (h : i < l.length) → ∃ a, y = some a ∧ cellAt s ((a.add (i * 3)).add 0) = some (.int .i64 l[i].ev) ∧ cellAt s ((a.add (i * 3)).add 1) = some (.int .i64 l[i].wa) ∧ cellAt s ((a.add (i * 3)).add 2) = some (.int .i64 l[i].sh)
def LkAt (s : Hp) (y : Option Addr) (l : List Lk) : Prop := ∀ i, (h : i < l.length) → ∃ a, y = some a ∧ cellAt s ((a.add (i * 4)).add 0) = some (.int .i64 l[i].a) ∧ cellAt s ((a.add (i * 4)).add 1) = some (.int .i64 l[i].b) ∧ cellAt s ((a.add (i * 4)).add 2) = some (.int .i64 l[i].lo) ∧ cellAt s ((a.add (i * 4)).add 3) = some (.int .i64 l[i].hi)
def CE (s s' : Hp) : Prop := ∀ a v, cellAt s a = some v → cellAt s' a = some v
theorem CE.ext {s s' : Hp} (e : Ext s s') : CE s s' := fun a v h => e.cell h
theorem CE.blind {s : Hp} {l : Nat} {o : Obj} (hl : s[l]? = some o) : CE (s.setIfInBounds l junk) s := fun a v h => cell_blind hl h
section
variable {s s' : Hp} {y : Option Addr}
theorem WtAt.ce {l : List Wt} (e : CE s s') (h : WtAt s y l) : WtAt s' y l := fun i hi => by
  obtain ⟨a, h0, h1, h2, h3, h4⟩ := h i hi
  exact ⟨a, h0, e _ _ h1, e _ _ h2, e _ _ h3, e _ _ h4⟩
theorem RdAt.ce {l : List Rd} (e : CE s s') (h : RdAt s y l) : RdAt s' y l := fun i hi => by
  obtain ⟨a, h0, h1, h2, h3⟩ := h i hi
  exact ⟨a, h0, e _ _ h1, e _ _ h2, e _ _ h3⟩
theorem LkAt.ce {l : List Lk} (e : CE s s') (h : LkAt s y l) : LkAt s' y l := fun i hi => by
  obtain ⟨a, h0, h1, h2, h3, h4⟩ := h i hi
  exact ⟨a, h0, e _ _ h1, e _ _ h2, e _ _ h3, e _ _ h4⟩
end
structure ClA (s : Hp) (p : Addr) (c : Clk) : Prop where
  ws : ∃ x cap, cellAt s (p.add 0) = some (.slice x c.ws.length cap) ∧ WtAt s x c.ws
  n : cellAt s (p.add 1) = some (.int .i64 c.n)
  rs : ∃ x cap, cellAt s (p.add 2) = some (.slice x c.rs.length cap) ∧ RdAt s x c.rs
  ls : ∃ x cap, cellAt s (p.add 3) = some (.slice x c.ls.length cap) ∧ LkAt s x c.ls
structure ClO (s : Hp) (p : Addr) (c : Clk) : Prop extends ClA s p c where
  ok : VdC c
theorem ClA.ce {s s' : Hp} {p : Addr} {c : Clk} (e : CE s s') (h : ClA s p c) : ClA s' p c where
  ws := by obtain ⟨x, cap, h1, h2⟩ := h.ws; exact ⟨x, cap, e _ _ h1, h2.ce e⟩
  n := e _ _ h.n
  rs := by obtain ⟨x, cap, h1, h2⟩ := h.rs; exact ⟨x, cap, e _ _ h1, h2.ce e⟩
  ls := by obtain ⟨x, cap, h1, h2⟩ := h.ls; exact ⟨x, cap, e _ _ h1, h2.ce e⟩
theorem ClO.ce {s s' : Hp} {p : Addr} {c : Clk} (e : CE s s') (h : ClO s p c) : ClO s' p c := ⟨h.toClA.ce e, h.ok⟩
theorem ClO.ext {s s' : Hp} {p : Addr} {c : Clk} (e : Ext s s') (h : ClO s p c) : ClO s' p c := h.ce (CE.ext e)
theorem flat_len {α β : Type} {f : α → List β} {M : Nat} : ∀ (l : List α), (∀ x ∈ l, (f x).length = M) → (l.flatMap f).length = l.length * M
  | [], _ => by simp
  | x :: l, h => by
    rw [List.flatMap_cons, List.length_append, h x (by simp), flat_len l (fun y hy => h y (by simp [hy])), List.length_cons, Nat.add_mul]
    omega
theorem flat_get {α β : Type} {f : α → List β} {M : Nat} : ∀ (l : List α), (∀ x ∈ l, (f x).length = M) → ∀ (i : Nat) (hi : i < l.length) (t : Nat), t < M → (l.flatMap f)[i * M + t]? = (f l[i])[t]?
  | [], _, i, hi, _, _ => by simp at hi
  | x :: l, h, 0, _, t, ht => by
    have hx := h x (by simp)
    rw [List.flatMap_cons, Nat.zero_mul, Nat.zero_add, List.getElem?_append_left (by omega)]
    rfl
  | x :: l, h, i + 1, hi, t, ht => by
    have hx := h x (by simp)
    have e : (i + 1) * M + t = M + (i * M + t) := by rw [Nat.add_mul]; omega
    rw [List.flatMap_cons, List.getElem?_append_right (by omega), hx, e, Nat.add_sub_cancel_left, flat_get l (fun y hy => h y (by simp [hy])) i (by simpa using hi) t ht]
    rfl
theorem zs_len {lo hi : Int} : (zs lo hi).length = (hi + 1 - lo).toNat := by unfold zs; simp
theorem zs_get {lo hi : Int} {i : Nat} (h : i < (zs lo hi).length) : (zs lo hi)[i] = lo + (i : Int) := by
  have h' := h
  rw [zs_len] at h'
  rw [List.getElem_eq_iff]
  unfold zs
  rw [List.getElem?_map, List.getElem?_range h']
  rfl
def nr (w : Wt) : Nat := (w.rhi + 1 - w.rlo).toNat
def nz (w : Wt) : Nat := (w.zhi + 1 - w.zlo).toNat
theorem ch_inner {w : Wt} {ws : List Wt} {z : Int} : ((zs w.rlo w.rhi).flatMap fun r => (chL ws).map fun g => (z, r) :: g).length = nr w * (chL ws).length := by
  rw [flat_len (M := (chL ws).length) _ (fun x _ => by simp), zs_len]; rfl
theorem ch_len {w : Wt} {ws : List Wt} : (chL (w :: ws)).length = nz w * (nr w * (chL ws).length) := by
  show (List.flatMap _ _).length = _
  rw [flat_len (M := nr w * (chL ws).length) _ (fun x _ => ch_inner), zs_len]; rfl
theorem ch_get {w : Wt} {ws : List Wt} {i j t : Nat} {g : List Go'} (hi : i < nz w) (hj : j < nr w) (hg : (chL ws)[t]? = some g) : (chL (w :: ws))[i * (nr w * (chL ws).length) + (j * (chL ws).length + t)]? = some ((w.zlo + (i : Int), w.rlo + (j : Int)) :: g) := by
  have ht := (List.getElem?_eq_some_iff.1 hg).1
  have hz : i < (zs w.zlo w.zhi).length := by rw [zs_len]; exact hi
  have hr : j < (zs w.rlo w.rhi).length := by rw [zs_len]; exact hj
  have hlt : j * (chL ws).length + t < nr w * (chL ws).length := by
    have : (j + 1) * (chL ws).length ≤ nr w * (chL ws).length := Nat.mul_le_mul_right _ hj
    rw [Nat.add_mul] at this
    omega
  show (List.flatMap _ _)[_]? = _
  rw [flat_get (M := nr w * (chL ws).length) _ (fun x _ => ch_inner) i hz _ hlt]
  rw [flat_get (M := (chL ws).length) _ (fun x _ => by simp) j hr _ ht]
  rw [List.getElem?_map, hg, zs_get, zs_get]
  rfl
open Go.Proofs.YtpmldejcdaoljaaGreat.G Go.V
theorem zc_66 : zc Pg 146 = [.int .i64 0, .int .i64 0, .int .i64 0, .int .i64 0] := by kernel_rfl
theorem zc_140 : zc Pg 227 = [.nilFunc] := by kernel_rfl
def ChR (p : Addr) (c : Clk) (a : Addr) (s : Hp) : Prop := ClO s p c ∧ cellAt s a = some (.pointer (some p))
def ChY (c : Clk) (k : Nat) (x : List Value) (s : Hp) : Prop := ∃ g, (chL c.ws)[k]? = some g ∧ x = [chV g]
def Frm (b0 : Nat) (s s' : Hp) : Prop := s.size ≤ s'.size ∧ ∀ b, b0 ≤ b → b < s.size → s'[b]? = s[b]?
theorem Frm.own {b0 : Nat} {s s' : Hp} (h : Frm b0 s s') {a : Addr} {v : Value} (hb : b0 ≤ a.block) (ho : Own s a v) : Own s' a v := ⟨by rw [cell_of_block (h.2 _ hb ho.lt)]; exact ho.1, by rw [frozen_of_block (h.2 _ hb ho.lt)]; exact ho.2⟩
theorem Frm.trans {b0 : Nat} {s s' s'' : Hp} (h : Frm b0 s s') (h' : Frm b0 s' s'') : Frm b0 s s'' := ⟨Nat.le_trans h.1 h'.1, fun b h0 h1 => (h'.2 b h0 (Nat.lt_of_lt_of_le h1 h.1)).trans (h.2 b h0 h1)⟩
theorem Frm.ext {b0 : Nat} {s s' : Hp} (e : Ext s s') : Frm b0 s s' := ⟨e.1, fun b _ h1 => e.2 b h1⟩
section
variable {W : World} {K : VK} {E : List PanicEntry → Hp → Prop} {s : Hp} {p : Addr} {c : Clk}
theorem c_choices (h : ∀ s', Ext s s' → s'.size = s.size + 1 → cellAt s' ⟨s.size, 0, none⟩ = some (.pointer (some p)) → K (.func (.func 114) #[] #[.pointer (some ⟨s.size, 0, none⟩)]) s') : CALL Pg W F_clock_clock_choices [.pointer (some p)] K E s := by
  refine does_clock_clock_choices W (some p) _ s ?_
  unfold T_clock_clock_choices
  refine ne1 fun s1 e1 z1 o1 => ?_
  exact h s1 e1 z1 o1.cell
def OnP (W : World) (c : Clk) (a : Addr) (y : Value) (I : Nat → Hp → Prop) (J : Hp → Prop) (b0 b3 b4 : Nat) (rest : List Wt) : Prop :=
  ∀ (k : Nat) (pre : List Go') (j : Nat) (s1 : Hp), c.ws.drop k = rest → k ≤ c.ws.length → pre.length = k → I j s1 → Own s1 ⟨b3, 0, none⟩ y → Own s1 ⟨b4, 0, none⟩ (.func (.func 115) #[] #[.pointer (some a), .pointer (some ⟨b3, 0, none⟩), .pointer (some ⟨b4, 0, none⟩)]) →
      (∀ t g, (chL rest)[t]? = some g → (chL c.ws)[j + t]? = some (pre ++ g)) →
      ∀ (K : VK) (E : List PanicEntry → Hp → Prop), (∀ s2, Frm b0 s1 s2 → I (j + (chL rest).length) s2 → K (.bool true) s2) → (∀ s2, Frm b0 s1 s2 → J s2 → K (.bool false) s2) →
        CALL Pg W F_clock_clock_choices_c1_c1 [chV pre, .int .i64 (k : Nat), .pointer (some a), .pointer (some ⟨b3, 0, none⟩), .pointer (some ⟨b4, 0, none⟩)] K E s1
theorem on_step {a : Addr} {y : Value} {I : Nat → Hp → Prop} {J : Hp → Prop} {b0 b3 b4 : Nat} {rest : List Wt} (hR : ∀ k s, I k s → ChR p c a s) (hI : ∀ k s1 s2, I k s1 → s1.size ≤ s2.size → (∀ b, b < s1.size → ¬ b0 ≤ b → s2[b]? = s1[b]?) → I k s2)
    (hJ : ∀ s1 s2, J s1 → s1.size ≤ s2.size → (∀ b, b < s1.size → ¬ b0 ≤ b → s2[b]? = s1[b]?) → J s2) (h3 : b0 ≤ b3) (h4 : b0 ≤ b4)
    (hy : ∀ k g s1, (chL c.ws)[k]? = some g → I k s1 → DoesV Pg W y #[chV g] s1 fun e s2 => (∀ b, b0 ≤ b → b < s1.size → s2[b]? = s1[b]?) ∧ ((e = .returned (.bool true) ∧ I (k + 1) s2) ∨ (e = .returned (.bool false) ∧ J s2)))
    (ih : ∀ rest', rest'.length < rest.length → OnP W c a y I J b0 b3 b4 rest') : OnP W c a y I J b0 b3 b4 rest := by
    intro k pre j s1 hd hk hp h1 o3 o4 hg K E kt kf
    have hI' : ∀ {k s1 s2}, I k s1 → Frm b0 s1 s2 → (∀ b, b < s1.size → ¬ b0 ≤ b → s2[b]? = s1[b]?) → I k s2 := fun h f hh => hI _ _ _ h f.1 hh
    have hs0 : b0 < s1.size := by have : b3 < s1.size := o3.lt; omega
    unfold chV
    refine does_clock_clock_choices_c1_c1 W _ _ _ _ _ a _ _ _ s1 ?_
    unfold T_clock_clock_choices_c1_c1
    refine ne4 fun s2 e2 z2 q1 q2 q3 q4 => ?_
    have i2 := hI j s1 s2 h1 e2.1 (fun b hb _ => e2.2 b hb)
    obtain ⟨cl, ha⟩ := hR _ _ i2
    have hv := cl.ok
    have hw2 := hv.w2
    obtain ⟨xw, cw, w1, w2⟩ := cl.ws
    refine ⟨_, ha, _, _, _, w1, ?_⟩
    refine BR_eq (fun hkl => ?_) (fun hkl => ?_)
    · -- all watches go: it is yielded
      have hkl' : k = c.ws.length := by omega
      have hrest : rest = [] := by rw [← hd, hkl', List.drop_length]
      subst hrest
      refine ⟨_, (e2.own o3).cell, ⟨_, q1.cell, ⟨_, q2.cell, ⟨_, q3.cell, ⟨_, q4.cell, ?_⟩⟩⟩⟩⟩
      have hgg := hg 0 [] rfl
      rw [List.append_nil, Nat.add_zero] at hgg
      refine DoesV.mono (hy j pre s2 hgg i2) ?_
      rintro e s3 ⟨hf, hh⟩
      have hf3 : Frm b0 s1 s3 := by
        refine ⟨?_, fun b hb0 hb1 => (hf b hb0 (Nat.lt_of_lt_of_le hb1 e2.1)).trans (e2.2 b hb1)⟩
        have := hf (s1.size - 1) (by omega) (by omega)
        have h5 : s2[s1.size - 1]? = some s2[s1.size - 1] := Array.getElem?_eq_getElem (by omega)
        rw [h5] at this
        have := (Array.getElem?_eq_some_iff.1 this).1
        omega
      rcases hh with ⟨rfl, hh⟩ | ⟨rfl, hh⟩
      · exact kt s3 hf3 hh
      · exact kf s3 hf3 hh
    · have hklt : k < c.ws.length := by omega
      have hcons : rest = c.ws[k] :: c.ws.drop (k + 1) := by rw [← hd]; exact List.drop_eq_getElem_cons hklt
      generalize hwk : c.ws[k] = w at hcons
      have hwv := hv.wt w (hwk ▸ List.getElem_mem hklt)
      obtain ⟨aw, hx, g1, g2, g3, g4⟩ := w2 k hklt
      rw [hwk] at g1 g2 g3 g4
      subst hx
      refine ⟨_, ha, _, _, _, w1, IXS_nat hklt ⟨_, g1, ⟨_, g2, ⟨_, g3, ⟨_, g4, ?_⟩⟩⟩⟩⟩
      refine nw4 zc_66 rfl rfl rfl rfl fun s3 e3 z3 p1 p2 p3 p4 => ?_
      refine ⟨_, p1.cell, ?_⟩
      have e13 := e2.trans e3
      have i3 := hI j s1 s3 h1 e13.1 (fun b hb _ => e13.2 b hb)
      -- the cells of the way
      let xs : List Go' → Hp → Prop := fun g s => Own s ⟨s1.size, 0, none⟩ (.int .i64 (g.getD 0 (0, 0)).1) ∧ Own s ⟨s1.size, 1, none⟩ (.int .i64 (g.getD 0 (0, 0)).2) ∧ Own s ⟨s1.size, 2, none⟩ (.int .i64 (g.getD 1 (0, 0)).1) ∧ Own s ⟨s1.size, 3, none⟩ (.int .i64 (g.getD 1 (0, 0)).2)
      let base : Hp → Prop := fun s => Frm b0 s1 s ∧ s2.size < s.size ∧ Own s ⟨s2.size, 0, none⟩ (.int .i64 w.zlo) ∧ Own s ⟨s2.size, 1, none⟩ (.int .i64 w.zhi) ∧ Own s ⟨s2.size, 2, none⟩ (.int .i64 w.rlo) ∧ Own s ⟨s2.size, 3, none⟩ (.int .i64 w.rhi) ∧ ∃ q, xs (pre ++ q) s ∧ q.length ≤ 1
      have hb3 : base s3 := ⟨Frm.ext e13, by omega, p1, p2, p3, p4, [], by rw [List.append_nil]; exact ⟨e3.own q1, e3.own q2, e3.own q3, e3.own q4⟩, by simp⟩
      let M := (chL (c.ws.drop (k + 1))).length
      refine L_clock_clock_choices_c1_c1_0_rule W _ (k : Nat) ⟨b4, 0, none⟩ ⟨s1.size, 0, none⟩ ⟨s2.size, 0, none⟩ (fun _ z u => ∃ i : Nat, i ≤ nz w ∧ z = w.zlo + (i : Int) ∧ base u ∧ I (j + i * (nr w * M)) u) (fun _ z _ => (w.zhi + 1 - z).toNat) false w.zlo s3
        ⟨0, Nat.zero_le _, by omega, hb3, by simpa using i3⟩ ?_
      rintro b35 z u ⟨i, hi, rfl, bu, iu⟩
      unfold B_clock_clock_choices_c1_c1_0
      refine ⟨_, bu.2.2.2.1.cell, ?_⟩
      refine BR_dec (fun hz => ?_) (fun hz => ?_)
      rotate_left
      · have hin : i = nz w := by unfold nz at hi ⊢; omega
        subst hin
        refine kt u bu.1 ?_
        rw [hcons, ch_len]; exact iu
      have hin : i < nz w := by unfold nz; omega
      refine ⟨_, bu.2.2.2.2.1.cell, ?_⟩
      generalize hnx0 : (fun vs => N_clock_clock_choices_c1_c1_0 _ _ b35 (w.zlo + (i : Int)) u vs) = nx0
      refine L_clock_clock_choices_c1_c1_1_rule W _ nx0 (k : Nat) ⟨b4, 0, none⟩ ⟨s1.size, 0, none⟩ ⟨s2.size, 0, none⟩ (w.zlo + (i : Int)) (fun _ r t => ∃ l : Nat, l ≤ nr w ∧ r = w.rlo + (l : Int) ∧ base t ∧ I (j + (i * (nr w * M) + l * M)) t) (fun _ r _ => (w.rhi + 1 - r).toNat) b35 w.rlo u
        ⟨0, Nat.zero_le _, by omega, bu, by simpa using iu⟩ ?_
      rintro b39 r t ⟨l, hl, rfl, bt, it⟩
      unfold B_clock_clock_choices_c1_c1_1
      obtain ⟨bt1, bt2, bz1, bz2, br1, br2, q, hxs, hq⟩ := bt
      refine ⟨_, br2.cell, ?_⟩
      refine BR_dec (fun hr => ?_) (fun hr => ?_)
      rotate_left
      · have hln : l = nr w := by unfold nr at hl ⊢; omega
        subst hln
        try simp only [nd_]
        subst hnx0
        refine ⟨_, _, rfl, ⟨i + 1, hin, ?_, ⟨bt1, bt2, bz1, bz2, br1, br2, q, hxs, hq⟩, ?_⟩, ?_⟩
        · rw [wrap_i64 (by omega) (by omega)]; omega
        · have : (i + 1) * (nr w * M) = i * (nr w * M) + nr w * M := by rw [Nat.add_mul]; omega
          rw [this]; exact it
        · rw [wrap_i64 (by omega) (by omega)]
          show (w.zhi + 1 - (w.zlo + (i : Int) + 1)).toNat < (w.zhi + 1 - (w.zlo + (i : Int))).toNat
          omega
      have hln : l < nr w := by unfold nr; omega
      -- the watch is set
      refine ⟨⟨by omega, by omega⟩, ?_⟩
      rw [toNat_nat]
      have hk01 : k = 0 ∨ k = 1 := by omega
      have hwr : ∀ (K : Hp → Prop), (∀ t', Kp (· = s1.size) t t' → t'.size = t.size → xs (pre ++ [(w.zlo + (i : Int), w.rlo + (l : Int))]) t' → K t') →
          WR (Addr.add (Addr.add ⟨s1.size, 0, none⟩ (k * 2)) 0) (.int .i64 (w.zlo + (i : Int))) (WR (Addr.add (Addr.add ⟨s1.size, 0, none⟩ (k * 2)) 1) (.int .i64 (w.rlo + (l : Int))) K) t := by
        intro K hK
        have hown : ∀ d, d < 2 → ∃ y, Own t (Addr.add ⟨s1.size, k * 2, none⟩ d) y := by
          intro d hd2
          obtain ⟨x1, x2, x3, x4⟩ := hxs
          rcases hk01 with e | e <;> subst e
          · match d, hd2 with
            | 0, _ => exact ⟨_, x1⟩
            | 1, _ => exact ⟨_, x2⟩
          · match d, hd2 with
            | 0, _ => exact ⟨_, x3⟩
            | 1, _ => exact ⟨_, x4⟩
        have hadd : (Addr.add ⟨s1.size, 0, none⟩ (k * 2)) = ⟨s1.size, k * 2, none⟩ := by rw [add_nil, Nat.zero_add]
        rw [hadd]
        show wrN [_, _] ⟨s1.size, k * 2, none⟩ 0 K t
        refine wrN_rule _ _ 0 K t (fun d hd2 => by rw [Nat.zero_add]; exact hown d hd2) ?_ ?_
        · intro v hv
          simp at hv
          rcases hv with rfl | rfl <;> rfl
        · intro t' kp z ho hot
          refine hK t' kp z ?_
          obtain ⟨x1, x2, x3, x4⟩ := hxs
          have w0 := ho 0 (by simp)
          have w1 := ho 1 (by simp)
          rcases hk01 with e | e <;> subst e
          · have hpre : pre = [] := List.length_eq_zero_iff.1 hp
            subst hpre
            have hq1 : ([] ++ q).getD 1 ((0 : Int), (0 : Int)) = (0, 0) := by
              match q, hq with
              | [], _ => rfl
              | [x], _ => rfl
            rw [hq1] at x3 x4
            exact ⟨w0, w1, hot _ _ (.inr (by show 0 * 2 + 0 + 2 ≤ 2; omega)) x3, hot _ _ (.inr (by show 0 * 2 + 0 + 2 ≤ 3; omega)) x4⟩
          · match pre, hp with
            | [g0], _ => exact ⟨hot _ _ (.inl (by show 0 < 1 * 2 + 0; omega)) x1, hot _ _ (.inl (by show 1 < 1 * 2 + 0; omega)) x2, w0, w1⟩
      refine hwr _ fun t' kp zt hxs' => ?_
      have hb4 : b4 < s1.size := o4.lt
      have hb3' : b3 < s1.size := o3.lt
      have hfr : Frm b0 s1 t' := ⟨by have := bt1.1; omega, fun b hb0 hb1 => (kp.2 b (Nat.lt_of_lt_of_le hb1 bt1.1) (by omega)).trans (bt1.2 b hb0 hb1)⟩
      have o4' : Own t' ⟨b4, 0, none⟩ _ := hfr.own (a := ⟨b4, 0, none⟩) h4 o4
      have o3' : Own t' ⟨b3, 0, none⟩ _ := hfr.own (a := ⟨b3, 0, none⟩) h3 o3
      obtain ⟨x1, x2, x3, x4⟩ := hxs'
      refine ⟨_, o4'.cell, ⟨_, x1.cell, ⟨_, x2.cell, ⟨_, x3.cell, ⟨_, x4.cell, ?_⟩⟩⟩⟩⟩
      refine CALLV_func ?_
      rw [wrap_succ (by omega)]
      have it' := hI _ _ _ it (by omega) (fun b hb hnb => kp.2 b hb (by omega))
      have hmk : ∀ u', Frm b0 t' u' → base u' := fun u' f => ⟨hfr.trans f, Nat.lt_of_lt_of_le (by omega) f.1, f.own (a := ⟨s2.size, 0, none⟩) (by show b0 ≤ s2.size; omega) (kp.own (by show ¬ s2.size = s1.size; omega) bz1), f.own (a := ⟨s2.size, 1, none⟩) (by show b0 ≤ s2.size; omega) (kp.own (by show ¬ s2.size = s1.size; omega) bz2), f.own (a := ⟨s2.size, 2, none⟩) (by show b0 ≤ s2.size; omega) (kp.own (by show ¬ s2.size = s1.size; omega) br1), f.own (a := ⟨s2.size, 3, none⟩) (by show b0 ≤ s2.size; omega) (kp.own (by show ¬ s2.size = s1.size; omega) br2),
        [(w.zlo + (i : Int), w.rlo + (l : Int))], ⟨f.own (a := ⟨s1.size, 0, none⟩) (by show b0 ≤ s1.size; omega) x1, f.own (a := ⟨s1.size, 1, none⟩) (by show b0 ≤ s1.size; omega) x2, f.own (a := ⟨s1.size, 2, none⟩) (by show b0 ≤ s1.size; omega) x3, f.own (a := ⟨s1.size, 3, none⟩) (by show b0 ≤ s1.size; omega) x4⟩, by simp⟩
      refine ih (c.ws.drop (k + 1)) (by rw [hcons]; simp) (k + 1) (pre ++ [(w.zlo + (i : Int), w.rlo + (l : Int))]) (j + (i * (nr w * M) + l * M)) t' rfl hklt (by simp [hp]) it' o3' o4' ?_ _ _ ?_ ?_
      · intro tt g hgt
        rw [List.append_assoc]
        refine (congrArg _ ?_).trans (hg (i * (nr w * M) + (l * M + tt)) ((w.zlo + (i : Int), w.rlo + (l : Int)) :: g) (by rw [hcons]; exact ch_get hin hln hgt))
        omega
      · intro u2 f2 iu2
        try simp only [nd_]
        rw [Bool.not_true, BR_f]
        try simp only [nd_]
        refine ⟨_, _, rfl, ⟨l + 1, hln, ?_, hmk u2 f2, ?_⟩, ?_⟩
        · rw [wrap_i64 (by omega) (by omega)]; omega
        · have : j + (i * (nr w * M) + (l + 1) * M) = j + (i * (nr w * M) + l * M) + M := by rw [Nat.add_mul]; omega
          rw [this]; exact iu2
        · rw [wrap_i64 (by omega) (by omega)]
          show (w.rhi + 1 - (w.rlo + (l : Int) + 1)).toNat < (w.rhi + 1 - (w.rlo + (l : Int))).toNat
          omega
      · intro u2 f2 ju2
        try simp only [nd_]
        rw [Bool.not_false, BR_t]
        exact kf u2 (hfr.trans f2) ju2
theorem on_ok {a : Addr} {y : Value} {I : Nat → Hp → Prop} {J : Hp → Prop} {b0 b3 b4 : Nat} (hR : ∀ k s, I k s → ChR p c a s) (hI : ∀ k s1 s2, I k s1 → s1.size ≤ s2.size → (∀ b, b < s1.size → ¬ b0 ≤ b → s2[b]? = s1[b]?) → I k s2)
    (hJ : ∀ s1 s2, J s1 → s1.size ≤ s2.size → (∀ b, b < s1.size → ¬ b0 ≤ b → s2[b]? = s1[b]?) → J s2) (h3 : b0 ≤ b3) (h4 : b0 ≤ b4)
    (hy : ∀ k g s1, (chL c.ws)[k]? = some g → I k s1 → DoesV Pg W y #[chV g] s1 fun e s2 => (∀ b, b0 ≤ b → b < s1.size → s2[b]? = s1[b]?) ∧ ((e = .returned (.bool true) ∧ I (k + 1) s2) ∨ (e = .returned (.bool false) ∧ J s2))) :
    ∀ (n : Nat) (rest : List Wt), rest.length ≤ n → OnP W c a y I J b0 b3 b4 rest
  | 0, rest, hn => on_step hR hI hJ h3 h4 hy fun r hr => absurd hr (by omega)
  | n + 1, rest, hn => on_step hR hI hJ h3 h4 hy fun r hr => on_ok hR hI hJ h3 h4 hy n r (by omega)
theorem it_choices {a : Addr} : IterG Pg W (.func (.func 114) #[] #[.pointer (some a)]) (chL c.ws).length (ChY c) (ChR p c a) true := by
  refine ⟨⟨_, _, _, rfl⟩, fun y I J s hone hR hI hJ hy h0 => ?_⟩
  refine does_clock_clock_choices_c1 W y a _ s ?_
  unfold T_clock_clock_choices_c1
  unfold ONE
  rw [hone]
  refine ne1 fun s1 e1 z1 o1 => ?_
  refine nz1 zc_140 fun s0 e0 z0 o0 => ?_
  refine wr1 (a := ⟨s1.size, 0, none⟩) o0 rfl fun s2 k2 z2 o2 => ?_
  have e2 : Ext s1 s2 := ext_kp e0 (Nat.le_refl _) k2
  refine ⟨_, o2.cell, CALLV_func ?_⟩
  have hI' : ∀ k s1 s2, I k s1 → s1.size ≤ s2.size → (∀ b, b < s1.size → ¬ s.size ≤ b → s2[b]? = s1[b]?) → I k s2 := fun k s1 s2 h h1 h2 => hI k s1 s2 h h1 fun b hb hn => h2 b hb fun hh => hn ⟨rfl, hh⟩
  have e12 := e1.trans e2
  refine on_ok (p := p) (a := a) (y := y) (b0 := s.size) (b3 := s.size) (b4 := s1.size) hR hI' (hJ rfl) (Nat.le_refl _) (by omega) (fun k g s3 hg hi => ?_) _ c.ws (Nat.le_refl _) 0 [] 0 s2 rfl (Nat.zero_le _) rfl (hI' 0 s s2 h0 e12.1 fun b hb _ => e12.2 b hb) (e2.own o1) o2 (fun t g hg => by rw [Nat.zero_add, List.nil_append]; exact hg) _ _ (fun s3 f hi => ?_) (fun s3 f hj => ?_)
  · exact hy k [chV g] s3 (List.getElem?_eq_some_iff.1 hg).1 hi ⟨g, hg, rfl⟩
  · rw [Nat.zero_add] at hi
    exact ⟨⟨_, rfl⟩, .inl hi⟩
  · exact ⟨⟨_, rfl⟩, .inr hj⟩
end
open Go.Proofs.YtpmldejcdaoljaaGreat.G Go.V
def telV : Tel → Value
  | .day e => .iface 222 (.agg #[.int .i64 e])
  | .rd e wa sh => .iface 224 (.agg #[.int .i64 e, .int .i64 wa, .int .i64 sh])
  | .lk a b lo hi => .iface 225 (.agg #[.int .i64 a, .int .i64 b, .int .i64 lo, .int .i64 hi])
def telsV (l : List Tel) : List Value := l.map telV
theorem telV_one (t : Tel) : oneCell (telV t) = true := by cases t <;> rfl
theorem zc_128 : zc Pg 215 = [.nilIface] := by kernel_rfl
theorem zc_61 : zc Pg 148 = [.int .i64 0, .int .i64 0, .int .i64 0] := by kernel_rfl
theorem zc_63 : zc Pg 150 = [.int .i64 0, .int .i64 0, .int .i64 0, .int .i64 0] := by kernel_rfl
theorem bit_is : ∀ S : Nat, S < 256 → ∀ i : Nat, i < 8 → (andv .u64 (shrv .u64 (S : Int) (i : Int)) 1 == 1) = S.testBit i := by
  have h : ((List.range 256).all fun (S : Nat) => (List.range 8).all fun (i : Nat) => decide ((andv .u64 (shrv .u64 (S : Int) (i : Int)) 1 == 1) = S.testBit i)) = true := by decide +kernel
  intro x hx i hi
  have h1 := List.all_eq_true.1 h x (by simpa using hx)
  have h2 := List.all_eq_true.1 h1 i (by simpa using hi)
  exact of_decide_eq_true h2
theorem days_succ (k : Nat) : daysL (k + 1) = daysL k ++ [.day (k : Int)] := by
  unfold daysL
  rw [List.range_succ, List.map_append]; rfl
theorem rds_app {S : Nat} {r : Rd} : ∀ (l : List Rd) (j : Nat), rdsL S (l ++ [r]) j = rdsL S l j ++ (if S.testBit (j + l.length) then [.rd r.ev r.wa r.sh] else [])
  | [], j => by
    show (if S.testBit j then _ else _) = _
    simp [rdsL]
  | x :: l, j => by
    have ih := rds_app (S := S) (r := r) l (j + 1)
    show (if S.testBit j then Tel.rd x.ev x.wa x.sh :: rdsL S (l ++ [r]) (j + 1) else rdsL S (l ++ [r]) (j + 1)) = (if S.testBit j then Tel.rd x.ev x.wa x.sh :: rdsL S l (j + 1) else rdsL S l (j + 1)) ++ _
    rw [ih, show j + 1 + l.length = j + (x :: l).length by simp; omega]
    split <;> rfl
theorem rds_len {S : Nat} : ∀ (l : List Rd) (j : Nat), (rdsL S l j).length ≤ l.length
  | [], _ => Nat.le_refl _
  | x :: l, j => by
    have := rds_len (S := S) l (j + 1)
    unfold rdsL
    split <;> simp <;> omega
theorem take_succ' {α : Type} {l : List α} {k : Nat} (h : k < l.length) : l.take (k + 1) = l.take k ++ [l[k]] := by
  rw [List.take_add_one, List.getElem?_eq_getElem h]; rfl
section
variable {W : World} {K : VK} {E : List PanicEntry → Hp → Prop} {s : Hp} {p : Addr} {c : Clk}
theorem c_tellers {S : Nat} (hc : ClO s p c) (hS : S < 256) (h : ∀ s' x cap, Ext s s' → RowAt s' x (telsV (telsL c S)) → (∀ a, x = some a → s.size ≤ a.block) → (telsL c S).length ≤ 20 → K (.slice x (telsL c S).length cap) s') : CALL Pg W F_clock_clock_tellers [.pointer (some p), .int .u64 (S : Nat)] K E s := by
  refine does_clock_clock_tellers W (some p) S _ s ?_
  unfold T_clock_clock_tellers
  have hv := hc.ok
  have n0 := hv.n0
  have n5 := hv.n5
  have r8 := hv.r8
  have l5 := hv.l5
  refine ⟨_, hc.n, ?_⟩
  have ap : ∀ {t t' : Hp} {x : Option Addr} {l c : Nat} {vs : List Value}, Ext s t → Fr s.size t x l c 1 vs → Kp (fun b => ∃ a, x = some a ∧ a.block = b) t t' → Ext s t' := fun et f k => kp_nil et (fun b hb => by obtain ⟨y, hy, rfl⟩ := hb; exact f.fr y hy) k
  refine L_clock_clock_tellers_0_rule W _ (some p) (S : Nat) c.n (fun x l cp n t => Ext s t ∧ ∃ k : Nat, (k : Int) ≤ c.n ∧ n = k ∧ Fr s.size t x l cp 1 (telsV (daysL k))) (fun _ _ _ n _ => (c.n - n).toNat) none 0 0 0 s ⟨Ext.refl _, 0, by omega, rfl, Fr.nil _ _ _⟩ ?_
  rintro x0 l0 c0 n0' t ⟨et, k, hk, rfl, f0⟩
  have len0 : l0 = k := by have := f0.len; unfold telsV daysL at this; simp at this; omega
  unfold B_clock_clock_tellers_0
  refine BR_dec (fun hlt => ?_) (fun hge => ?_)
  · refine ne1 fun t1 e1 z1 o1 => ?_
    refine APP_fr (lo := s.size) (f0.ext e1) (et.trans e1).1 (ws := [telV (.day (k : Int))]) (fun i hi => ⟨⟨t.size, 0, none⟩, rfl, ?_⟩) rfl zc_128 rfl (by omega) (by simp [telV_one]) (by omega) fun t2 x2 c2 k2 hx2 g2 => ?_
    · have hi0 : i = 0 := by simp at hi; omega
      subst hi0; exact o1.cell
    · try simp only [nd_]
      refine ⟨_, _, _, _, rfl, ⟨ap (et.trans e1) (f0.ext e1) k2, k + 1, by omega, wrap_succ (by omega), ?_⟩, ?_⟩
      · rw [days_succ]; unfold telsV; rw [List.map_append]; exact g2
      · rw [wrap_succ (by omega)]
        show (c.n - ((k + 1 : Nat) : Int)).toNat < (c.n - (k : Int)).toNat
        omega
  have hkn : k = c.n.toNat := by omega
  subst hkn
  obtain ⟨xr, cr, r1, r2⟩ := hc.rs
  refine ⟨_, _, _, et.cell r1, ?_⟩
  refine L_clock_clock_tellers_1_rule W _ (some p) (S : Nat) xr _ cr _ (fun x l cp n u => Ext s u ∧ ∃ k : Nat, k ≤ c.rs.length ∧ n = k ∧ Fr s.size u x l cp 1 (telsV (daysL c.n.toNat ++ rdsL S (c.rs.take k) 0))) (fun _ _ _ n _ => ((c.rs.length : Int) - n).toNat) x0 l0 c0 0 t ⟨et, 0, by omega, rfl, by simpa [rdsL] using f0⟩ ?_
  rintro x1 l1 cp1 n1 u ⟨eu, k, hk, rfl, f1⟩
  have len1 : l1 ≤ 13 := by
    have h1 := f1.len
    have h2 := rds_len (S := S) (c.rs.take k) 0
    unfold telsV daysL at h1
    simp at h1 h2
    omega
  unfold B_clock_clock_tellers_1
  refine BR_dec (fun hlt => ?_) (fun hge => ?_)
  · have hkl : k < c.rs.length := by omega
    obtain ⟨a, hx, g1, g2, g3⟩ := r2.ce (CE.ext eu) k hkl
    subst hx
    refine IXS_nat hkl ⟨_, g1, ⟨_, g2, ⟨_, g3, ?_⟩⟩⟩
    refine nw3 zc_61 rfl rfl rfl fun u1 e1 z1 o1 o2 o3 => ?_
    refine NNI_of (by omega) ?_
    rw [bit_is S hS k (by omega)]
    have hnx : ∀ {u' x' l' c'}, Ext s u' → Fr s.size u' x' l' c' 1 (telsV (daysL c.n.toNat ++ rdsL S (c.rs.take (k + 1)) 0)) → N_clock_clock_tellers_1 (fun x l cp n u => Ext s u ∧ ∃ k : Nat, k ≤ c.rs.length ∧ n = k ∧ Fr s.size u x l cp 1 (telsV (daysL c.n.toNat ++ rdsL S (c.rs.take k) 0))) (fun _ _ _ n _ => ((c.rs.length : Int) - n).toNat) x1 l1 cp1 (k : Nat) u [(.slice x' l' c'), (.int .i64 (IntKind.wrap .i64 ((k : Int) + 1)))] u'   := fun a f => by
      refine ⟨_, _, _, _, rfl, ⟨a, k + 1, by omega, wrap_succ (by omega), f⟩, ?_⟩
      rw [wrap_succ (by omega)]
      show ((c.rs.length : Int) - ((k + 1 : Nat) : Int)).toNat < ((c.rs.length : Int) - (k : Int)).toNat
      omega
    have htk : rdsL S (c.rs.take (k + 1)) 0 = rdsL S (c.rs.take k) 0 ++ (if S.testBit k then [.rd c.rs[k].ev c.rs[k].wa c.rs[k].sh] else []) := by
      rw [take_succ' hkl, rds_app]
      simp [Nat.min_eq_left (Nat.le_of_lt hkl)]
    refine BR_bool (fun hb => ?_) (fun hb => ?_)
    · refine ⟨_, o1.cell, ⟨_, o2.cell, ⟨_, o3.cell, ?_⟩⟩⟩
      refine ne1 fun u2 e2 z2 q1 => ?_
      have e12 := e1.trans e2
      refine APP_fr (lo := s.size) (f1.ext e12) (eu.trans e12).1 (ws := [telV (.rd c.rs[k].ev c.rs[k].wa c.rs[k].sh)]) (fun i hi => ⟨⟨u1.size, 0, none⟩, rfl, ?_⟩) rfl zc_128 rfl (by omega) (by simp [telV_one]) (by omega) fun t2 x2 c2 k2 hx2 g2 => ?_
      · have hi0 : i = 0 := by simp at hi; omega
        subst hi0; exact q1.cell
      · try simp only [nd_]
        refine hnx (ap (eu.trans e12) (f1.ext e12) k2) ?_
        rw [htk, if_pos hb, ← List.append_assoc]
        unfold telsV at g2 ⊢
        rw [List.map_append]; exact g2
    · try simp only [nd_]
      refine hnx (eu.trans e1) ?_
      rw [htk, if_neg (by rw [hb]; simp), List.append_nil]
      exact f1.ext e1
  have hkn : k = c.rs.length := by omega
  subst hkn
  rw [List.take_length] at f1
  obtain ⟨xl, cl, q1, q2⟩ := hc.ls
  refine ⟨_, _, _, eu.cell q1, ?_⟩
  refine L_clock_clock_tellers_2_rule W _ xl _ cl _ (fun x l cp n v => Ext s v ∧ ∃ k : Nat, k ≤ c.ls.length ∧ n = k ∧ Fr s.size v x l cp 1 (telsV (daysL c.n.toNat ++ rdsL S c.rs 0 ++ lksL (c.ls.take k)))) (fun _ _ _ n _ => ((c.ls.length : Int) - n).toNat) x1 l1 cp1 0 u ⟨eu, 0, by omega, rfl, by simpa [lksL] using f1⟩ ?_
  rintro x2 l2 cp2 n2 v ⟨ev, k, hk2, rfl, f2⟩
  have len2 : l2 ≤ 18 ∧ l2 = (daysL c.n.toNat ++ rdsL S c.rs 0 ++ lksL (c.ls.take k)).length := by
    have h1 := f2.len
    have h2 := rds_len (S := S) c.rs 0
    unfold telsV daysL lksL at h1
    unfold daysL lksL
    simp at h1 ⊢
    omega
  unfold B_clock_clock_tellers_2
  refine BR_dec (fun hlt => ?_) (fun hge => ?_)
  · have hkl : k < c.ls.length := by omega
    obtain ⟨a, hx, g1, g2, g3, g4⟩ := q2.ce (CE.ext ev) k hkl
    subst hx
    refine IXS_nat hkl ⟨_, g1, ⟨_, g2, ⟨_, g3, ⟨_, g4, ?_⟩⟩⟩⟩
    refine nw4 zc_63 rfl rfl rfl rfl fun u1 e1 z1 o1 o2 o3 o4 => ?_
    refine ⟨_, o1.cell, ⟨_, o2.cell, ⟨_, o3.cell, ⟨_, o4.cell, ?_⟩⟩⟩⟩
    refine ne1 fun u2 e2 z2 w1 => ?_
    have e12 := e1.trans e2
    refine APP_fr (lo := s.size) (f2.ext e12) (ev.trans e12).1 (ws := [telV (.lk c.ls[k].a c.ls[k].b c.ls[k].lo c.ls[k].hi)]) (fun i hi => ⟨⟨u1.size, 0, none⟩, rfl, ?_⟩) rfl zc_128 rfl (by omega) (by simp [telV_one]) (by omega) fun t2 x3 c3 k2 hx2 g5 => ?_
    · have hi0 : i = 0 := by simp at hi; omega
      subst hi0; exact w1.cell
    · try simp only [nd_]
      refine ⟨_, _, _, _, rfl, ⟨ap (ev.trans e12) (f2.ext e12) k2, k + 1, by omega, wrap_succ (by omega), ?_⟩, ?_⟩
      · have : lksL (c.ls.take (k + 1)) = lksL (c.ls.take k) ++ [.lk c.ls[k].a c.ls[k].b c.ls[k].lo c.ls[k].hi] := by
          rw [take_succ' hkl]; unfold lksL; rw [List.map_append]; rfl
        rw [this, ← List.append_assoc]
        unfold telsV at g5 ⊢
        rw [List.map_append]; exact g5
      · rw [wrap_succ (by omega)]
        show ((c.ls.length : Int) - ((k + 1 : Nat) : Int)).toNat < ((c.ls.length : Int) - (k : Int)).toNat
        omega
  · have hkn : k = c.ls.length := by omega
    subst hkn
    rw [List.take_length] at f2 len2
    have hh := h v x2 cp2 ev f2.row f2.fr (by unfold telsL; omega)
    unfold telsL at hh
    rw [← len2.2] at hh
    exact hh
end
open Go.Proofs.YtpmldejcdaoljaaGreat.G Go.V
theorem mth_135 : mth Pg 222 "furrowworks/clock.tell" = some 138 := by kernel_rfl
theorem mth_137 : mth Pg 224 "furrowworks/clock.tell" = some 140 := by kernel_rfl
theorem mth_138 : mth Pg 225 "furrowworks/clock.tell" = some 143 := by kernel_rfl
theorem zc_91 : zc Pg 135 = [.int .i64 0, .int .i64 0, .int .i64 0, .int .i64 0] := by kernel_rfl
theorem zc_122 : zc Pg 209 = [.slice none 0 0] := by kernel_rfl
def TelOk (c : Clk) : Tel → Prop
  | .day e => 0 ≤ e ∧ e < c.n
  | .rd e wa sh => (0 ≤ e ∧ e < c.n) ∧ (0 ≤ wa ∧ wa < c.ws.length) ∧ 0 ≤ sh ∧ sh ≤ 2000
  | .lk a b lo hi => (0 ≤ a ∧ a < c.n) ∧ (0 ≤ b ∧ b < c.n) ∧ a ≠ b ∧ -600 ≤ lo ∧ lo ≤ hi ∧ hi ≤ 600
theorem rds_mem {S : Nat} {t : Tel} : ∀ (l : List Rd) (j : Nat), t ∈ rdsL S l j → ∃ r ∈ l, t = .rd r.ev r.wa r.sh
  | [], j, h => by cases h
  | x :: l, j, h => by
    unfold rdsL at h
    split at h
    · rcases List.mem_cons.1 h with rfl | h
      · exact ⟨x, by simp, rfl⟩
      · obtain ⟨r, hr, e⟩ := rds_mem l _ h; exact ⟨r, by simp [hr], e⟩
    · obtain ⟨r, hr, e⟩ := rds_mem l _ h; exact ⟨r, by simp [hr], e⟩
theorem tels_ok {c : Clk} {S : Nat} (hv : VdC c) : ∀ t ∈ telsL c S, TelOk c t := fun t ht => by
  unfold telsL at ht
  rcases List.mem_append.1 ht with ht | ht
  · rcases List.mem_append.1 ht with ht | ht
    · unfold daysL at ht
      obtain ⟨k, hk, rfl⟩ := List.mem_map.1 ht
      rw [List.mem_range] at hk
      have := hv.n0
      exact ⟨by omega, by omega⟩
    · obtain ⟨r, hr, rfl⟩ := rds_mem _ _ ht
      have := hv.rd r hr
      exact ⟨⟨this.1, this.2.1⟩, ⟨this.2.2.1, this.2.2.2.1⟩, this.2.2.2.2⟩
  · unfold lksL at ht
    obtain ⟨l, hl, rfl⟩ := List.mem_map.1 ht
    have := hv.lk l hl
    exact ⟨⟨this.1, this.2.1⟩, ⟨this.2.2.1, this.2.2.2.1⟩, this.2.2.2.2⟩
def HasDay (e : Int) (D : BF) : Prop := (∃ v, D (-1, e) = some v ∧ v ≤ 600) ∧ (∃ v, D (e, -1) = some v ∧ v ≤ 0)
theorem HasDay.le {e : Int} {D D' : BF} (h : HasDay e D) (hl : Le D D') : HasDay e D' := by
  obtain ⟨⟨v, a, b⟩, ⟨w, c, d⟩⟩ := h
  obtain ⟨v', a', b'⟩ := hl _ _ a
  obtain ⟨w', c', d'⟩ := hl _ _ c
  exact ⟨⟨v', a', by omega⟩, ⟨w', c', by omega⟩⟩
structure TelR (n : Int) (g : List Go') (t : Tel) (l l' : List Pr) : Prop where
  ok : OkM n l'
  le : Le (get l) (get l')
  sat : ∀ m, m (-1) = 0 → (Sat (get l') m ↔ Sat (get l) m ∧ t.says g m)
  day : ∀ e, t = .day e → HasDay e (get l')
theorem go_bnd {c : Clk} {g : List Go'} (hv : VdC c) (hg : GoesOk c.ws g) {w : Int} (h0 : 0 ≤ w) (h1 : w < c.ws.length) : (0 ≤ (g.getD w.toNat (0, 0)).1 ∧ (g.getD w.toNat (0, 0)).1 ≤ 1000) ∧ (900 ≤ (g.getD w.toNat (0, 0)).2 ∧ (g.getD w.toNat (0, 0)).2 ≤ 1100) := by
  have hw : w.toNat < c.ws.length := by omega
  have h2 := hg.get w.toNat hw
  have h3 := hv.wt _ (List.getElem_mem hw)
  unfold GoOk at h2
  omega
section
variable {W : World} {K : VK} {E : List PanicEntry → Hp → Prop} {s : Hp} {r : Nat} {l : List Pr} {c : Clk}
theorem c_tell {t : Tel} {g : List Go'} (hv : VdC c) (hg : GoesOk c.ws g) (ht : TelOk c t) (hm : MapL s r l) (ho : OkM c.n l) (h0 : ∀ s', Ext s s' → (∀ m, m (-1) = 0 → ¬ t.says g m) → K (.bool false) s') (h : ∀ s' l', Kp (· = r) s s' → MapL s' r l' → TelR c.n g t l l' → K (.bool true) s') :
    INV Pg W (telV t) "furrowworks/clock.tell" [.map (some r), chV g] K E s := by
  cases t with
  | day e =>
    simp only [telV, INV, mth_135]
    refine c_day hm ho ht fun s' l' k m t => h s' l' k m ⟨t.ok, t.le, fun m hm0 => ?_, fun e' he => ?_⟩
    · rw [t.sat, hm0]
      show _ ↔ _ ∧ (0 ≤ m e ∧ m e ≤ 600)
      rw [Int.sub_zero]
    · cases he
      obtain ⟨w, h1, h2⟩ := t.has1
      obtain ⟨w', h3, h4⟩ := t.has2
      exact ⟨⟨w, h1, h2⟩, ⟨w', h3, by omega⟩⟩
  | lk a b lo hi =>
    simp only [telV, INV, mth_138]
    exact c_link hm ho ht.1 ht.2.1 ht.2.2.1 ht.2.2.2 fun s' l' k m t => h s' l' k m ⟨t.ok, t.le, fun m hm0 => t.sat m, fun e' he => by cases he⟩
  | rd e wa sh =>
    simp only [telV, INV, mth_137]
    obtain ⟨he, hw, hs⟩ := ht
    obtain ⟨b1, b2⟩ := go_bnd hv hg hw.1 hw.2
    have hw2 := hv.w2
    refine c_reading hm ho he ⟨hw.1, by omega⟩ hs b1 b2 (fun s' e' hlt => h0 s' e' fun m hm0 hsay => ?_) fun s' l1 l' k m t1 t2 => h s' l' k m ⟨t2.ok, t1.le.trans t2.le, fun m hm0 => ?_, fun e' he => by cases he⟩
    · obtain ⟨hd, hsh⟩ := hsay
      have := (min_iff (by omega) hd.1).1 hsh
      omega
    · rw [t2.sat, t1.sat, hm0]
      show _ ↔ _ ∧ (0 ≤ m e ∧ m e ≤ 600) ∧ showP (g.getD wa.toNat (0, 0)) (m e) = sh
      rw [Int.sub_zero]
      constructor
      · rintro ⟨⟨h1, h2, h3⟩, h4, h5⟩
        exact ⟨h1, ⟨h4, h5⟩, (min_iff (by omega) h4).2 ⟨h2, h3⟩⟩
      · rintro ⟨h1, ⟨h4, h5⟩, h6⟩
        have := (min_iff (by omega) h4).1 h6
        exact ⟨⟨h1, this⟩, h4, h5⟩
end
def CanG (c : Clk) (S : Nat) (g : List Go') : Prop := ∃ m : Int → Int, m (-1) = 0 ∧ ∀ t ∈ telsL c S, t.says g m
noncomputable def goodB (c : Clk) (S : Nat) (g : List Go') : Bool := by classical exact decide (CanG c S g)
theorem good_iff {c : Clk} {S : Nat} {g : List Go'} : goodB c S g = true ↔ CanG c S g := by unfold goodB; simp
noncomputable def goodL (c : Clk) (S : Nat) : List (List Go') := (chL c.ws).filter (goodB c S)
noncomputable def goodN (c : Clk) (S : Nat) (k : Nat) : Nat := (((chL c.ws).take k).filter (goodB c S)).length
theorem goodN_succ {c : Clk} {S k : Nat} {g : List Go'} (h : (chL c.ws)[k]? = some g) : goodN c S (k + 1) = goodN c S k + if goodB c S g then 1 else 0 := by
  unfold goodN
  rw [List.take_add_one, h, List.filter_append, List.length_append]
  congr 1
  show (List.filter (goodB c S) [g]).length = _
  rw [List.filter_cons]
  split <;> rfl
theorem goodN_get {c : Clk} {S k : Nat} {g : List Go'} (h : (chL c.ws)[k]? = some g) (hg : goodB c S g = true) : (goodL c S)[goodN c S k]? = some g := by
  obtain ⟨hk, h'⟩ := List.getElem?_eq_some_iff.1 h
  unfold goodL goodN
  have e : chL c.ws = (chL c.ws).take k ++ (g :: (chL c.ws).drop (k + 1)) := by
    rw [← h', ← List.drop_eq_getElem_cons hk, List.take_append_drop]
  generalize (chL c.ws).take k = A at *
  rw [e, List.filter_append, List.filter_cons, if_pos hg, List.getElem?_append_right (Nat.le_refl _), Nat.sub_self]
  rfl
theorem goodN_all {c : Clk} {S : Nat} : goodN c S (chL c.ws).length = (goodL c S).length := by unfold goodN goodL; rw [List.take_length]
structure Bd (c : Clk) (S : Nat) (g : List Go') (D : BF) : Prop where
  goes : GoesOk c.ws g
  tight : ∃ D0, Tight c.n D0 D ∧ ∀ m, m (-1) = 0 → (Sat D0 m ↔ ∀ t ∈ telsL c S, t.says g m)
def TrY (c : Clk) (S : Nat) (k : Nat) (x : List Value) (s : Hp) : Prop := ∃ g r l, (goodL c S)[k]? = some g ∧ x = [chV g, .map (some r)] ∧ MapL s r l ∧ Bd c S g (get l)
def TrR (p : Addr) (c : Clk) (S : Nat) (a b : Addr) (s : Hp) : Prop := ClO s p c ∧ cellAt s a = some (.pointer (some p)) ∧ cellAt s b = some (.int .u64 (S : Nat))
open Go.Proofs.YtpmldejcdaoljaaGreat.G Go.V
theorem Frm.cell {b0 : Nat} {s s' : Hp} (h : Frm b0 s s') {a : Addr} {v : Value} (hb : b0 ≤ a.block) (ho : cellAt s a = some v) : cellAt s' a = some v := by rw [cell_of_block (h.2 _ hb (cell_lt ho))]; exact ho
section
variable {W : World} {K : VK} {E : List PanicEntry → Hp → Prop} {s : Hp} {p : Addr} {c : Clk}
theorem c_truths {S : Nat} (h : ∀ s', Ext s s' → s'.size = s.size + 2 → cellAt s' ⟨s.size, 0, none⟩ = some (.pointer (some p)) → cellAt s' ⟨s.size + 1, 0, none⟩ = some (.int .u64 (S : Nat)) → K (.func (.func 106) #[] #[.pointer (some ⟨s.size, 0, none⟩), .pointer (some ⟨s.size + 1, 0, none⟩)]) s') :
    CALL Pg W F_clock_clock_truths [.pointer (some p), .int .u64 (S : Nat)] K E s := by
  refine does_clock_clock_truths W (some p) S _ s ?_
  unfold T_clock_clock_truths
  refine ne1 fun s1 e1 z1 o1 => ?_
  refine ne1 fun s2 e2 z2 o2 => ?_
  rw [z1] at o2 ⊢
  exact h s2 (e1.trans e2) (by omega) (e2.own o1).cell o2.cell
theorem it_truths {S : Nat} {a b : Addr} (hS : S < 256) : IterG Pg W (.func (.func 106) #[] #[.pointer (some a), .pointer (some b)]) (goodL c S).length (TrY c S) (TrR p c S a b) true := by
  refine ⟨⟨_, _, _, rfl⟩, fun y I J s hone hR hI0 hJ0 hy h0 => ?_⟩
  refine does_clock_clock_truths_c1 W y a b _ s ?_
  have hI : ∀ k s1 s2, I k s1 → s1.size ≤ s2.size → (∀ b, b < s1.size → ¬ s.size ≤ b → s2[b]? = s1[b]?) → I k s2 := fun k s1 s2 h h1 h2 => hI0 k s1 s2 h h1 fun b hb hn => h2 b hb fun hh => hn ⟨rfl, hh⟩
  have hJ := hJ0 rfl
  have iext : ∀ {k s1 s2}, I k s1 → Ext s1 s2 → I k s2 := fun h e => hI _ _ _ h e.1 fun b hb _ => e.2 b hb
  unfold T_clock_clock_truths_c1
  unfold ONE
  rw [hone]
  refine ne1 fun s1 e1 z1 o1 => ?_
  obtain ⟨cl, ca, cb⟩ := hR _ _ h0
  have hv := cl.ok
  refine ⟨_, e1.cell ca, ⟨_, e1.cell cb, ?_⟩⟩
  refine c_tellers (cl.ext e1) hS fun s2 x cap e2 row hfr htl => ?_
  try simp only [nd_]
  refine nz1 zc_122 fun s3' e3' z3' o3' => ?_
  refine wr1 (a := ⟨s2.size, 0, none⟩) o3' rfl fun s3 k3 z3 o3 => ?_
  have e3 : Ext s2 s3 := ext_kp e3' (Nat.le_refl _) k3
  have e13 := (e1.trans e2).trans e3
  refine ⟨_, e13.cell ca, ?_⟩
  refine c_choices fun s4 e4 z4 a4 => ?_
  try simp only [nd_]
  have e14 := e13.trans e4
  have hz2 : s.size < s2.size := by have := e2.1; omega
  have hz3 : s2.size < s3.size := by have := e3'.1; omega
  -- what one has of one's own
  have own4 : Own s4 ⟨s.size, 0, none⟩ y := ((e2.trans e3).trans e4).own o1
  have row4 : RowAt s4 x (telsV (telsL c S)) := row.ext (e3.trans e4)
  have sl4 : cellAt s4 ⟨s2.size, 0, none⟩ = some (.slice x (telsL c S).length cap) := e4.cell o3.cell
  refine ⟨(chL c.ws).length, ChY c, ChR p c ⟨s3.size, 0, none⟩, true, fun j u => I (goodN c S j) u ∧ Frm s.size s4 u, fun cd u => cd = .ret ∧ J u, it_choices, ?_, ?_, ?_, ?_, ?_, ?_, ?_, ?_, ?_⟩
  · intro u q o hq ho h
    exact ⟨h.1.ce (CE.blind hq), cell_blind hq h.2⟩
  · intro k x u q o _ _ h; exact h
  · rintro k u ⟨i, f⟩
    exact ⟨(hR _ _ i).1, f.cell (by show s.size ≤ s3.size; omega) a4⟩
  · rintro k u1 u2 ⟨i, f⟩ hz hb
    refine ⟨hI _ _ _ i hz fun b hb1 hn => hb b hb1 fun hh => hn (by have := e14.1; omega), Nat.le_trans f.1 hz, fun b hb0 hb1 => ?_⟩
    rw [hb b (Nat.lt_of_lt_of_le hb1 f.1) (fun hh => by omega)]
    exact f.2 b hb0 hb1
  · rintro - cd u1 u2 ⟨hc, j⟩ hz hb
    exact ⟨hc, hJ _ _ j hz fun b hb1 hn => hb b hb1 fun hh => hn (by have := e14.1; omega)⟩
  · have ep : Ext s4 ((s4.push junk).push junk) := Ext.push (Ext.push (Ext.refl _))
    exact ⟨iext (iext h0 e14) ep, Frm.ext ep⟩
  · rintro j xs u hj ⟨iu, fu⟩ ⟨g, hg, rfl⟩
    refine ⟨rfl, ?_⟩
    have hgo : GoesOk c.ws g := (mem_chL _ _).1 (List.mem_of_getElem? hg)
    unfold chV
    try simp only [nd_]
    refine nw4 zc_91 rfl rfl rfl rfl fun u1 f1 y1 p1 p2 p3 p4 => ?_
    refine MKM_map fun u2 f2 y2 m2 => ?_
    have f12 := f1.trans f2
    have hu0 : s.size < u.size := by have := fu.1; have := e14.1; omega
    have fr2 : Frm s.size s4 u2 := fu.trans (Frm.ext f12)
    refine ⟨_, _, _, fr2.cell (by show s.size ≤ s2.size; omega) sl4, ?_⟩
    have iu2 : I (goodN c S j) u2 := iext iu f12
    have hbad : ∀ t, u.size ≤ t.size → (∀ b, b < u.size → t[b]? = u[b]?) → ¬ CanG c S g →
        FRM true (∀ b, s4.size + 2 ≤ b → b < u.size → t[b]? = u[b]?) (I (goodN c S (j + 1)) t ∧ Frm s.size s4 t) := fun t hz hb hn => by
      refine ⟨fun b _ hb1 => hb b hb1, ?_, fu.trans ⟨hz, fun b _ hb1 => hb b hb1⟩⟩
      rw [goodN_succ hg, if_neg (fun hh => hn (good_iff.1 hh)), Nat.add_zero]
      exact iext iu ⟨hz, hb⟩
    generalize hfin : (fun (j_1 : Option Code) (s2 : Hp) => FRM true _ _) = fin
    have hfn : ∀ t, FRM true (∀ b, s4.size + 2 ≤ b → b < u.size → t[b]? = u[b]?) (I (goodN c S (j + 1)) t ∧ Frm s.size s4 t) → fin none t := fun t h => by rw [← hfin]; exact h
    have hfr' : ∀ t, FRM true (∀ b, s4.size + 2 ≤ b → b < u.size → t[b]? = u[b]?) (Code.ret = Code.ret ∧ J t) → fin (some .ret) t := fun t h => by rw [← hfin]; exact h
    clear hfin
    refine L_clock_clock_truths_c1_0_rule W _ fin a ⟨s.size, 0, none⟩ ⟨u.size, 0, none⟩ (some u1.size) x _ cap _ (fun n t => ∃ (k : Nat) (l : List Pr), n = k ∧ k ≤ (telsL c S).length ∧ Kp (· = u1.size) u2 t ∧ MapL t u1.size l ∧ OkM c.n l ∧ (∀ m, m (-1) = 0 → (Sat (get l) m ↔ ∀ q ∈ (telsL c S).take k, q.says g m)) ∧ ∀ e, Tel.day e ∈ (telsL c S).take k → HasDay e (get l)) (fun n _ => (((telsL c S).length : Int) - n).toNat) 0 u2
      ⟨0, [], rfl, Nat.zero_le _, Kp.refl _, m2, ⟨fun i j v h => (by cases h), fun k v h => (by cases h)⟩, fun m _ => ⟨fun _ q hq => (by simp at hq), fun _ i j v h => (by cases h)⟩, fun e h => (by simp at h)⟩ ?_
    rintro n t ⟨k, l, rfl, hk, kt, mt, ok, sat, hday⟩
    have hu12 : u.size < u1.size := by omega
    have hz2' : u1.size < u2.size := by omega
    have gt : ∀ t', Kp (· = u1.size) u2 t' → u.size ≤ t'.size ∧ ∀ b, b < u.size → t'[b]? = u[b]? := fun t' k' => ⟨by have := k'.1; have := f12.1; omega, fun b hb => (k'.2 b (by omega) (by omega)).trans (f12.2 b hb)⟩
    have q1 : ∀ t', Kp (· = u1.size) u2 t' → Own t' ⟨u.size, 0, none⟩ (.int .i64 (g.getD 0 (0, 0)).1) ∧ Own t' ⟨u.size, 1, none⟩ (.int .i64 (g.getD 0 (0, 0)).2) ∧ Own t' ⟨u.size, 2, none⟩ (.int .i64 (g.getD 1 (0, 0)).1) ∧ Own t' ⟨u.size, 3, none⟩ (.int .i64 (g.getD 1 (0, 0)).2) := fun t' k' => by
      have hne : ¬ (u.size = u1.size) := by omega
      exact ⟨k'.own hne (f2.own p1), k'.own hne (f2.own p2), k'.own hne (f2.own p3), k'.own hne (f2.own p4)⟩
    have frt : ∀ t', Kp (· = u1.size) u2 t' → Frm s.size s4 t' := fun t' k' => fu.trans ⟨(gt t' k').1, fun b _ hb => (gt t' k').2 b hb⟩
    unfold B_clock_clock_truths_c1_0
    obtain ⟨w1, w2, w3, w4⟩ := q1 t kt
    refine BR_dec (fun hlt => ?_) (fun hge => ?_)
    · have hkl : k < (telsL c S).length := by omega
      have hkv : k < (telsV (telsL c S)).length := by unfold telsV; simpa using hkl
      obtain ⟨ax, hx, hcell⟩ := row4 k hkv
      have hxb : s.size ≤ ax.block := by have := hfr ax hx; omega
      subst hx
      refine IXS_nat hkl ?_
      have hval : (telsV (telsL c S))[k] = telV (telsL c S)[k] := by simp [telsV]
      rw [hval] at hcell
      refine ⟨_, (frt t kt).cell (by rw [add_blk]; exact hxb) hcell, ?_⟩
      refine ⟨_, w1.cell, ⟨_, w2.cell, ⟨_, w3.cell, ⟨_, w4.cell, ?_⟩⟩⟩⟩
      have htk : (telsL c S).take (k + 1) = (telsL c S).take k ++ [(telsL c S)[k]] := take_succ' hkl
      refine c_tell (g := g) hv hgo (tels_ok hv _ (List.getElem_mem hkl)) mt ok (fun t1 et hno => ?_) (fun t1 l1 kt1 mt1 tr => ?_)
      · try simp only [nd_]
        rw [Bool.not_false, BR_t]
        have k1 : Kp (· = u1.size) u2 t1 := kt.ext et
        refine hfn t1 (hbad t1 (gt t1 k1).1 (gt t1 k1).2 fun ⟨m, hm0, hm⟩ => hno m hm0 (hm _ (List.getElem_mem hkl)))
      · try simp only [nd_]
        rw [Bool.not_true, BR_f]
        try simp only [nd_]
        refine ⟨_, rfl, ⟨k + 1, l1, wrap_succ (by omega), hkl, kt.trans kt1, mt1, tr.ok, fun m hm0 => ?_, fun e he => ?_⟩, ms_succ hkl (by omega)⟩
        · rw [tr.sat m hm0, sat m hm0, htk]
          simp only [List.mem_append, List.mem_singleton]
          constructor
          · rintro ⟨h1, h2⟩ q (hq | rfl)
            · exact h1 q hq
            · exact h2
          · intro h1
            exact ⟨fun q hq => h1 q (.inl hq), h1 _ (.inr rfl)⟩
        · rw [htk] at he
          rcases List.mem_append.1 he with he | he
          · exact (hday e he).le tr.le
          · exact tr.day e (List.mem_singleton.1 he).symm
    · have hkn : k = (telsL c S).length := by omega
      subst hkn
      rw [List.take_length] at sat hday
      have it : I (goodN c S j) t := iext iu ⟨(gt t kt).1, (gt t kt).2⟩
      obtain ⟨clt, cat, cbt⟩ := hR _ _ it
      refine ⟨_, cat, ⟨_, clt.n, ?_⟩⟩
      have hbase : Base c.n (get l) := fun e h0 h1 => hday e (by
        unfold telsL daysL
        refine List.mem_append_left _ (List.mem_append_left _ (List.mem_map.2 ⟨e.toNat, by rw [List.mem_range]; omega, by rw [Int.toNat_of_nonneg h0]⟩)))
      refine c_tight mt hv.n0 hv.n5 ok.key hbase ok.bnd (fun t1 kt1 hno => ?_) (fun t1 l1 kt1 mt1 tg => ?_)
      · try simp only [nd_]
        rw [Bool.not_false, BR_t]
        have k1 := kt.trans kt1
        exact hfn t1 (hbad t1 (gt t1 k1).1 (gt t1 k1).2 fun ⟨m, hm0, hm⟩ => hno ⟨m, (sat m hm0).2 hm⟩)
      · try simp only [nd_]
        rw [Bool.not_true, BR_f]
        have k1 := kt.trans kt1
        obtain ⟨w1, w2, w3, w4⟩ := q1 t1 k1
        have own1 : Own t1 ⟨s.size, 0, none⟩ y := (frt t1 k1).own (a := ⟨s.size, 0, none⟩) (Nat.le_refl _) own4
        refine ⟨_, own1.cell, ⟨_, w1.cell, ⟨_, w2.cell, ⟨_, w3.cell, ⟨_, w4.cell, ?_⟩⟩⟩⟩⟩
        obtain ⟨m, hm, hm0⟩ := tg.some hv.n0
        have hgood : goodB c S g = true := good_iff.2 ⟨m, hm0, (sat m hm0).1 hm⟩
        have hget := goodN_get hg hgood
        have it1 : I (goodN c S j) t1 := iext iu ⟨(gt t1 k1).1, (gt t1 k1).2⟩
        refine DoesV.mono (hy (goodN c S j) _ t1 (List.getElem?_eq_some_iff.1 hget).1 it1 ⟨g, u1.size, l1, hget, rfl, mt1, hgo, _, tg, sat⟩) ?_
        rintro e t2 ⟨hf, hh⟩
        have hsz : t1.size ≤ t2.size := by
          have hpos : t1.size - 1 < t1.size := by have := (gt t1 k1).1; omega
          have h5 := Array.getElem?_eq_getElem hpos
          have := hf (t1.size - 1) (by have := (gt t1 k1).1; omega) (by have := (gt t1 k1).1; omega)
          rw [h5] at this
          have := (Array.getElem?_eq_some_iff.1 this).1
          omega
        have hfr2 : ∀ b, s4.size + 2 ≤ b → b < u.size → t2[b]? = u[b]? := fun b hb0 hb1 => (hf b (by have := e14.1; omega) (by have := (gt t1 k1).1; omega)).trans ((gt t1 k1).2 b hb1)
        rcases hh with ⟨rfl, hh⟩ | ⟨rfl, hh⟩
        · try simp only [nd_]
          rw [Bool.not_true, BR_f]
          refine hfn t2 ⟨hfr2, ?_, (frt t1 k1).trans ⟨hsz, hf⟩⟩
          rw [goodN_succ hg, if_pos hgood]
          exact hh
        · try simp only [nd_]
          rw [Bool.not_false, BR_t]
          exact hfr' t2 ⟨hfr2, rfl, hh⟩
  · rintro u ⟨iu, fu⟩
    rw [goodN_all] at iu
    exact ⟨⟨_, rfl⟩, .inl iu⟩
  · rintro cd u ⟨rfl, ju⟩
    exact ⟨⟨_, rfl⟩, .inr ju⟩
end
open Go.Proofs.YtpmldejcdaoljaaGreat.G Go.V
theorem kp_more {D : Nat → Prop} {s0 u1 u2 : Hp} {m : Nat} (hm : s0.size ≤ m) (k : Kp D s0 u1) (hz : u1.size ≤ u2.size) (hb : ∀ b, b < u1.size → ¬ m ≤ b → u2[b]? = u1[b]?) : Kp D s0 u2 :=
  ⟨Nat.le_trans k.1 hz, fun b hb1 hd => (hb b (Nat.lt_of_lt_of_le hb1 k.1) (by omega)).trans (k.2 b hb1 hd)⟩
theorem own_more {u1 u2 : Hp} {m : Nat} {a : Addr} {v : Value} (ho : Own u1 a v) (hm : a.block < m) (hb : ∀ b, b < u1.size → ¬ m ≤ b → u2[b]? = u1[b]?) : Own u2 a v :=
  ⟨by rw [cell_of_block (hb _ ho.lt (by omega))]; exact ho.1, by rw [frozen_of_block (hb _ ho.lt (by omega))]; exact ho.2⟩
theorem TrR.blind {p : Addr} {c : Clk} {S : Nat} {a b : Addr} : Blind (TrR p c S a b) := fun u q o hq ho h => ⟨h.1.ce (CE.blind hq), cell_blind hq h.2.1, cell_blind hq h.2.2⟩
theorem TrY.down {c : Clk} {S : Nat} : ∀ k x (u : Hp) q o, u[q]? = some o → hidden o = true → TrY c S k x u → TrY c S k x (u.setIfInBounds q junk) := by
  rintro k x u q o hq ho ⟨g, r, l, h1, h2, ⟨es, cl, h3, h4⟩, h5⟩
  refine ⟨g, r, l, h1, h2, ⟨es, cl, ?_, h4⟩, h5⟩
  rw [Array.getElem?_setIfInBounds_ne (fun e => by subst e; rw [h3] at hq; cases hq; cases ho)]
  exact h3
def CanC (c : Clk) (S : Nat) : Prop := ∃ g m, Truth c S g m
theorem good_can {c : Clk} {S : Nat} (hv : VdC c) {g : List Go'} : g ∈ goodL c S ↔ ∃ m, m (-1) = 0 ∧ Truth c S g m := by
  unfold goodL
  rw [List.mem_filter, good_iff, mem_chL]
  constructor
  · rintro ⟨hg, m, hm0, hm⟩
    exact ⟨m, hm0, (truth_iff hv).2 ⟨hg, hm⟩⟩
  · rintro ⟨m, hm0, h⟩
    obtain ⟨hg, hm⟩ := (truth_iff hv).1 h
    exact ⟨hg, m, hm0, hm⟩
theorem truth_zero {c : Clk} {S : Nat} (hv : VdC c) {g : List Go'} {m : Int → Int} (h : Truth c S g m) : Truth c S g (fun e => if e = -1 then 0 else m e) where
  goes := h.goes
  days := fun e h0 h1 => by rw [if_neg (by omega)]; exact h.days e h0 h1
  shows := fun i hi hb => by
    have := (hv.rd _ (List.getElem_mem hi)).1
    rw [if_neg (by omega)]; exact h.shows i hi hb
  links := fun l hl => by
    have := hv.lk l hl
    rw [if_neg (by omega), if_neg (by omega)]; exact h.links l hl
theorem can_len {c : Clk} {S : Nat} (hv : VdC c) : CanC c S ↔ 0 < (goodL c S).length := by
  rw [List.length_pos_iff_exists_mem]
  constructor
  · rintro ⟨g, m, h⟩
    exact ⟨g, (good_can hv).2 ⟨fun e => if e = -1 then 0 else m e, if_pos rfl, truth_zero hv h⟩⟩
  · rintro ⟨g, h⟩
    obtain ⟨m, _, h⟩ := (good_can hv).1 h
    exact ⟨g, m, h⟩
noncomputable def canB (c : Clk) (S : Nat) : Bool := by classical exact decide (CanC c S)
theorem canB_iff {c : Clk} {S : Nat} : canB c S = true ↔ CanC c S := by unfold canB; simp
section
variable {W : World} {K : VK} {E : List PanicEntry → Hp → Prop} {s : Hp} {p : Addr} {c : Clk}
theorem every_is : ∀ n : Nat, n ≤ 8 → IntKind.wrap .u64 (shlv .u64 1 (n : Int) - 1) = ((2 ^ n - 1 : Nat) : Int) := by decide +kernel
def everyN (c : Clk) : Nat := 2 ^ c.rs.length - 1
theorem every_lt {c : Clk} (hv : VdC c) : everyN c < 256 := by
  have h8 := hv.r8
  have := Nat.pow_le_pow_right (show 0 < 2 by omega) h8
  unfold everyN
  omega
theorem c_every (hc : ClO s p c) (h : K (.int .u64 (everyN c : Nat)) s) : CALL Pg W F_clock_clock_every [.pointer (some p)] K E s := by
  refine does_clock_clock_every W (some p) _ s ?_
  unfold T_clock_clock_every
  obtain ⟨x, cap, h1, _⟩ := hc.rs
  refine ⟨_, _, _, h1, NNI_of (by omega) ?_⟩
  rw [every_is _ hc.ok.r8]
  exact h
end
open Go.Proofs.YtpmldejcdaoljaaGreat.G Go.V
theorem zc_113 : zc Pg 189 = [.int .i64 0, .int .i64 0, .bool false] := by kernel_rfl
theorem zc_114 : zc Pg 190 = [.nilFunc] := by kernel_rfl
abbrev En := Int × Int × Bool
def stE (e : En) (n : Int) : En := if e.2.2 then (min e.1 n, max e.2.1 n, true) else (n, n, true)
structure EnAt (s : Hp) (B : Nat) (e : En) : Prop where
  lo : Own s ⟨B, 0, none⟩ (.int .i64 e.1)
  hi : Own s ⟨B, 1, none⟩ (.int .i64 e.2.1)
  sm : Own s ⟨B, 2, none⟩ (.bool e.2.2)
theorem EnAt.kp {D : Nat → Prop} {s s' : Hp} {B : Nat} {e : En} (k : Kp D s s') (hd : ¬ D B) (h : EnAt s B e) : EnAt s' B e := ⟨k.own hd h.lo, k.own hd h.hi, k.own hd h.sm⟩
theorem EnAt.ext {s s' : Hp} {B : Nat} {e : En} (k : Ext s s') (h : EnAt s B e) : EnAt s' B e := ⟨k.own h.lo, k.own h.hi, k.own h.sm⟩
section
variable {W : World} {K : VK} {E : List PanicEntry → Hp → Prop} {s : Hp} {p : Addr} {c : Clk}
theorem wrOne {B i : Nat} {v y : Value} {K : Hp → Prop} (ho : Own s ⟨B, i, none⟩ y) (h1 : oneCell v = true) (h : ∀ s', Kp (· = B) s s' → s'.size = s.size → Own s' ⟨B, i, none⟩ v → (∀ j w, j ≠ i → Own s ⟨B, j, none⟩ w → Own s' ⟨B, j, none⟩ w) → K s') : WR ⟨B, i, none⟩ v K s :=
  WR_own ho h1 (h _ (Kp.setC (Kp.refl s) (.inl rfl)) (setC_size _ _ _) (own_set ho) fun j w hj hw => own_set_ne (.inr hj) hw)
theorem min_eq (a b : Int) : (if b < a then b else a) = min a b := by rw [Int.min_def]; split <;> split <;> omega
theorem max_eq (a b : Int) : (if b > a then b else a) = max a b := by rw [Int.max_def]; split <;> split <;> omega
theorem c_keep {B : Nat} {e : En} {x : Option Addr} {a b : Int} {cap : Nat} (he : EnAt s B e) (hx : RowAt s x [.int .i64 a, .int .i64 b]) (hxB : ∀ y, x = some y → y.block ≠ B) (h : ∀ s', Kp (· = B) s s' → EnAt s' B (stE (stE e a) b) → K (.tuple #[]) s') :
    CALL Pg W F_clock_ends_int_keep [.pointer (some ⟨B, 0, none⟩), .slice x 2 cap] K E s := by
  refine does_clock_ends_int_keep W (some ⟨B, 0, none⟩) x 2 cap _ s ?_
  unfold T_clock_ends_int_keep
  refine L_clock_ends_int_keep_0_rule W _ (some ⟨B, 0, none⟩) x 2 cap ((2 : Nat) : Int) (fun n t => ∃ k : Nat, n = k ∧ k ≤ 2 ∧ Kp (· = B) s t ∧ EnAt t B (([a, b].take k).foldl stE e)) (fun n _ => (2 - n).toNat) 0 s ⟨0, rfl, by omega, Kp.refl _, he⟩ ?_
  rintro n t ⟨k, rfl, hk, kt, et⟩
  unfold B_clock_ends_int_keep_0
  refine BR_dec (fun hlt => ?_) (fun hge => ?_)
  rotate_left
  · have hk2 : k = 2 := by omega
    subst hk2
    exact h t kt et
  have hk2 : k < 2 := by omega
  obtain ⟨y, hy, hcell⟩ := (hx.keep kt (fun a ha => hxB a ha)) k (by simpa using hk2)
  subst hy
  refine IXS_nat hk2 ?_
  generalize hen : ([a, b].take k).foldl stE e = en at *
  have hval : ∃ v : Int, ([Value.int .i64 a, Value.int .i64 b])[k]'(by simpa using hk2) = .int .i64 v ∧ ([a, b].take (k + 1)).foldl stE e = stE en v := by
    have : k = 0 ∨ k = 1 := by omega
    rcases this with rfl | rfl
    · exact ⟨a, rfl, by rw [← hen]; rfl⟩
    · exact ⟨b, rfl, by rw [← hen]; rfl⟩
  obtain ⟨v, hv, hst⟩ := hval
  rw [hv] at hcell
  refine ⟨_, hcell, ?_⟩
  have hJ : ∀ t1 (e1 : En), Kp (· = B) s t1 → EnAt t1 B e1 → e1.2.2 = true → stE e1 v = stE en v → J_clock_ends_int_keep_0 W (endK K E) (some ⟨B, 0, none⟩) v (some y) 2 cap ((2 : Nat) : Int) (fun vs => N_clock_ends_int_keep_0 (fun n t => ∃ k : Nat, n = k ∧ k ≤ 2 ∧ Kp (· = B) s t ∧ EnAt t B (([a, b].take k).foldl stE e)) (fun n _ => (2 - n).toNat) (k : Nat) t vs) (k : Nat) t1 := by
    intro t1 e1 k1 en1 hsm hse
    have hfin : ∀ t2, Kp (· = B) s t2 → EnAt t2 B (stE e1 v) → N_clock_ends_int_keep_0 (fun n t => ∃ k : Nat, n = k ∧ k ≤ 2 ∧ Kp (· = B) s t ∧ EnAt t B (([a, b].take k).foldl stE e)) (fun n _ => (2 - n).toNat) (k : Nat) t [Value.int .i64 (IntKind.i64.wrap ((k : Int) + 1))] t2 := fun t2 k2 e2 => by
      refine ⟨_, rfl, ⟨k + 1, wrap_succ (by omega), hk2, k2, ?_⟩, ?_⟩
      · rw [hst, ← hse]; exact e2
      · rw [wrap_succ (by omega)]
        show (2 - ((k + 1 : Nat) : Int)).toNat < (2 - (k : Int)).toNat
        omega
    have hmx : ∀ t2, Kp (· = B) s t2 → Own t2 ⟨B, 0, none⟩ (.int .i64 (min e1.1 v)) → Own t2 ⟨B, 1, none⟩ (.int .i64 (max e1.2.1 v)) → Own t2 ⟨B, 2, none⟩ (.bool e1.2.2) → EnAt t2 B (stE e1 v) := fun t2 k2 a1 a2 a3 => by
      unfold stE
      rw [if_pos hsm]
      exact ⟨a1, a2, by rw [hsm] at a3; exact a3⟩
    unfold J_clock_ends_int_keep_0
    refine ⟨_, en1.lo.cell, ⟨_, en1.hi.cell, ?_⟩⟩
    dsimp only
    rw [min_eq, max_eq]
    have hgo : WR (Addr.add (Addr.add ⟨B, 0, none⟩ 0) 0) (.int .i64 (min e1.1 v)) (WR (Addr.add (Addr.add ⟨B, 0, none⟩ 1) 0) (.int .i64 (max e1.2.1 v)) (NX [(.pointer (some ⟨B, 0, none⟩)), (.slice (some y) 2 cap), (.int .i64 ((2 : Nat) : Int)), (.tuple #[])] [(.pointer (some ⟨B, 0, none⟩)), (.slice (some y) 2 cap), (.int .i64 ((2 : Nat) : Int)), (.tuple #[])] (N_clock_ends_int_keep_0 (fun n t => ∃ k : Nat, n = k ∧ k ≤ 2 ∧ Kp (· = B) s t ∧ EnAt t B (([a, b].take k).foldl stE e)) (fun n _ => (2 - n).toNat) (k : Nat) t [Value.int .i64 (IntKind.i64.wrap ((k : Int) + 1))]))) t1 := by
      refine wrOne (i := 0) en1.lo rfl fun t2 k2 z2 a0 ak => ?_
      refine wrOne (i := 1) (ak 1 _ (by omega) en1.hi) rfl fun t3 k3 z3 b1 bk => ?_
      refine ⟨rfl, hfin t3 ((k1.trans k2).trans k3) (hmx t3 ((k1.trans k2).trans k3) (bk 0 _ (by omega) a0) b1 (bk 2 _ (by omega) (ak 2 _ (by omega) en1.sm)))⟩
    refine CONJ_two (ANDS_i ⟨_, en1.hi.cell, rfl⟩ (CONJ_two hgo hgo)) (ANDS_i ⟨_, en1.lo.cell, rfl⟩ hgo)
  refine ⟨_, et.sm.cell, ?_⟩
  refine BR_not (fun hsm => ?_) (fun hsm => hJ t en kt et hsm rfl)
  refine wrOne (i := 0) et.lo rfl fun t2 k2 z2 a0 ak => ?_
  refine wrOne (i := 1) (ak 1 _ (by omega) et.hi) rfl fun t3 k3 z3 b1 bk => ?_
  refine wrOne (i := 2) (bk 2 _ (by omega) (ak 2 _ (by omega) et.sm)) rfl fun t4 k4 z4 c2 ck => ?_
  refine hJ t4 (v, v, true) (((kt.trans k2).trans k3).trans k4) ⟨ck 0 _ (by omega) (bk 0 _ (by omega) a0), ck 1 _ (by omega) b1, c2⟩ rfl ?_
  unfold stE
  rw [if_pos rfl, if_neg (by rw [hsm]; simp)]
  show (min v v, max v v, true) = (v, v, true)
  rw [Int.min_self, Int.max_self]
def SpanG (c : Clk) (S : Nat) (val : List Go' → (Int → Int) → Int) (g : List Go') (lo hi : Int) : Prop :=
  (∃ m, Truth c S g m ∧ val g m = lo) ∧ (∃ m, Truth c S g m ∧ val g m = hi) ∧ ∀ m, Truth c S g m → lo ≤ val g m ∧ val g m ≤ hi
def SpanC (c : Clk) (S : Nat) (val : List Go' → (Int → Int) → Int) (lo hi : Int) : Prop :=
  (∃ g m, Truth c S g m ∧ val g m = lo) ∧ (∃ g m, Truth c S g m ∧ val g m = hi) ∧ ∀ g m, Truth c S g m → lo ≤ val g m ∧ val g m ≤ hi
def IsQ (W : World) (c : Clk) (S : Nat) (v : Value) (Q : Hp → Prop) (val : List Go' → (Int → Int) → Int) : Prop :=
  oneCell v = true ∧ (∀ s s', Q s → Ext s s' → Q s') ∧ ∀ (g : List Go') (r : Nat) (l : List Pr) (s1 : Hp) (K : VK) (E : List PanicEntry → Hp → Prop), Q s1 → MapL s1 r l → Bd c S g (get l) → (∀ s2 lo hi, Ext s1 s2 → SpanG c S val g lo hi → K (.agg #[.int .i64 lo, .int .i64 hi]) s2) → CALLV Pg W v [chV g, .map (some r)] K E s1
def EnK (c : Clk) (S : Nat) (val : List Go' → (Int → Int) → Int) (k : Nat) (e : En) : Prop :=
  (k = 0 → e.2.2 = false) ∧ (0 < k → e.2.2 = true ∧ e.1 ≤ e.2.1 ∧ (∃ g m, Truth c S g m ∧ val g m = e.1) ∧ (∃ g m, Truth c S g m ∧ val g m = e.2.1) ∧ ∀ g ∈ (goodL c S).take k, ∀ m, Truth c S g m → e.1 ≤ val g m ∧ val g m ≤ e.2.1)
theorem EnK.step {S : Nat} {val : List Go' → (Int → Int) → Int} {k : Nat} {e : En} {g : List Go'} {lo hi : Int} (h : EnK c S val k e) (hg : (goodL c S)[k]? = some g) (hs : SpanG c S val g lo hi) : EnK c S val (k + 1) (stE (stE e lo) hi) := by
  refine ⟨(fun h => by omega), fun _ => ?_⟩
  obtain ⟨⟨m1, t1, v1⟩, ⟨m2, t2, v2⟩, hall⟩ := hs
  have hlh : lo ≤ hi := by have := hall m1 t1; omega
  have htk : (goodL c S).take (k + 1) = (goodL c S).take k ++ [g] := by rw [List.take_add_one, hg]; rfl
  by_cases hk : k = 0
  · subst hk
    have hsm := h.1 rfl
    have e1 : stE (stE e lo) hi = (lo, hi, true) := by
      unfold stE
      rw [hsm]
      simp only [Bool.false_eq_true, if_false, if_true]
      rw [Int.min_eq_left hlh, Int.max_eq_right hlh]
    rw [e1]
    refine ⟨rfl, hlh, ⟨g, m1, t1, v1⟩, ⟨g, m2, t2, v2⟩, fun g' hg' m hm => ?_⟩
    rw [htk] at hg'
    simp at hg'
    subst hg'
    exact hall m hm
  · obtain ⟨hsm, hle, ⟨ga, ma, ta, va⟩, ⟨gb, mb, tb, vb⟩, hw⟩ := h.2 (by omega)
    have e1 : stE (stE e lo) hi = (min e.1 lo, max e.2.1 hi, true) := by
      unfold stE
      rw [hsm]
      simp only [if_true]
      have h1 : min (min e.1 lo) hi = min e.1 lo := Int.min_eq_left (by have := Int.min_le_right e.1 lo; omega)
      have h2 : max (max e.2.1 lo) hi = max e.2.1 hi := by omega
      rw [h1, h2]
    rw [e1]
    refine ⟨rfl, ?_, ?_, ?_, fun g' hg' m hm => ?_⟩
    · have := Int.min_le_left e.1 lo; have := Int.le_max_left e.2.1 hi; show min e.1 lo ≤ max e.2.1 hi; omega
    · show ∃ g m, Truth c S g m ∧ val g m = min e.1 lo
      rw [Int.min_def]; split
      · exact ⟨ga, ma, ta, va⟩
      · exact ⟨g, m1, t1, v1⟩
    · show ∃ g m, Truth c S g m ∧ val g m = max e.2.1 hi
      rw [Int.max_def]; split
      · exact ⟨g, m2, t2, v2⟩
      · exact ⟨gb, mb, tb, vb⟩
    · show min e.1 lo ≤ val g' m ∧ val g' m ≤ max e.2.1 hi
      have a1 := Int.min_le_left e.1 lo
      have a2 := Int.min_le_right e.1 lo
      have a3 := Int.le_max_left e.2.1 hi
      have a4 := Int.le_max_right e.2.1 hi
      rw [htk] at hg'
      rcases List.mem_append.1 hg' with hg' | hg'
      · have := hw g' hg' m hm; omega
      · simp at hg'; subst hg'
        have := hall m hm; omega
theorem EnK.all {S : Nat} {val : List Go' → (Int → Int) → Int} {e : En} (hv : VdC c) (h : EnK c S val (goodL c S).length e) : e.2.2 = canB c S ∧ (CanC c S → SpanC c S val e.1 e.2.1) := by
  have hlen := can_len (S := S) hv
  have hgo : CanC c S → e.2.2 = true ∧ SpanC c S val e.1 e.2.1 := fun hc => by
    obtain ⟨h1, _, h2, h3, h4⟩ := h.2 (hlen.1 hc)
    refine ⟨h1, h2, h3, fun g m hm => ?_⟩
    have hz := truth_zero hv hm
    rw [List.take_length] at h4
    exact h4 g ((good_can hv).2 ⟨fun e => if e = -1 then 0 else m e, if_pos rfl, hz⟩) m hm
  refine ⟨?_, fun hc => (hgo hc).2⟩
  cases hb : canB c S with
  | true => exact (hgo (canB_iff.1 hb)).1
  | false =>
    refine h.1 ?_
    have : ¬ CanC c S := fun hc => by rw [canB_iff.2 hc] at hb; cases hb
    rw [hlen] at this
    omega
end
open Go.Proofs.YtpmldejcdaoljaaGreat.G Go.V
theorem zc_96 : zc Pg 140 = [.nilFunc] := by kernel_rfl
theorem zc_3 : zc Pg 3 = [.int .i64 0] := by kernel_rfl
section
variable {W : World} {K : VK} {E : List PanicEntry → Hp → Prop} {s : Hp} {p : Addr} {c : Clk}
theorem c_ask {v : Value} {Q : Hp → Prop} {val : List Go' → (Int → Int) → Int} (hc : ClO s p c) (hq : IsQ W c (everyN c) v Q val) (hQ : Q s) (hQD : ∀ u1 u2 (D : Nat → Prop), Q u1 → Ext s u1 → Kp D u1 u2 → (∀ b, D b → s.size ≤ b) → Q u2)
    (h0 : ∀ s', Ext s s' → ¬ CanC c (everyN c) → E (pn 10) s') (h1 : ∀ s' lo hi, Ext s s' → SpanC c (everyN c) val lo hi → K (.agg #[.int .i64 lo, .int .i64 hi]) s') : CALL Pg W F_clock_clock_ask [.pointer (some p), .agg #[v]] K E s := by
  refine does_clock_clock_ask W (some p) v _ s ?_
  unfold T_clock_clock_ask
  have hv := hc.ok
  obtain ⟨hone, hqe, hqc⟩ := hq
  refine ne1 fun s1 e1 z1 o1 => ?_
  refine nz2 zc_34 fun s2 e2 z2 o2a o2b => ?_
  refine NEWZ_rule zc_113 fun s3 e3 z3 n3 => ?_
  refine nz1 zc_114 fun s4' e4' z4' o4' => ?_
  refine wr1 (a := ⟨s3.size, 0, none⟩) o4' rfl fun s4 k4 z4 o4 => ?_
  have e4 : Ext s3 s4 := ext_kp e4' (Nat.le_refl _) k4
  have e24 := (e2.trans e3).trans e4
  have e14 := e1.trans e24
  refine c_every (hc.ext e14) ?_
  try simp only [nd_]
  refine c_truths fun s5 e5 z5 ca cb => ?_
  try simp only [nd_]
  have e15 := e14.trans e5
  -- blocks: s.size (question), s1.size (answer), s2.size (ends), s3.size (keep)
  have hb1 : s.size < s1.size := by omega
  have hb2 : s1.size < s2.size := by omega
  have hb3 : s2.size < s3.size := by omega
  have hb4 : s3.size < s4.size := by omega
  have en0 : EnAt s5 s2.size (0, 0, false) := ⟨(e4.trans e5).own (n3 0 _ rfl), (e4.trans e5).own (n3 1 _ rfl), (e4.trans e5).own (n3 2 _ rfl)⟩
  have oq : Own s5 ⟨s.size, 0, none⟩ v := (e24.trans e5).own o1
  have ok : Own s5 ⟨s3.size, 0, none⟩ _ := e5.own o4
  have oa : Own s5 ⟨s1.size, 0, none⟩ (.int .i64 0) := (((e3.trans e4).trans e5)).own o2a
  have ob : Own s5 ⟨s1.size, 1, none⟩ (.int .i64 0) := (((e3.trans e4).trans e5)).own o2b
  have ext : ∀ {u}, Kp (· = s2.size) s5 u → Ext s u := fun k => kp_nil e15 (fun b hb => by have : b = s2.size := hb; omega) k
  have hQu : ∀ {u}, Kp (· = s2.size) s5 u → Q u := fun k => hQD s5 _ _ (hqe _ _ hQ e15) e15 k (fun b hb => by have : b = s2.size := hb; omega)
  refine ⟨(goodL c (everyN c)).length, TrY c (everyN c), TrR p c (everyN c) ⟨s4.size, 0, none⟩ ⟨s4.size + 1, 0, none⟩, true, fun k u => Kp (· = s2.size) s5 u ∧ ∃ e, EnAt u s2.size e ∧ EnK c (everyN c) val k e, fun _ _ => False, it_truths (every_lt hv), TrR.blind, TrY.down, ?_, ?_, ?_, ?_, ?_, ?_, ?_⟩
  · rintro k u ⟨ku, _⟩
    exact ⟨hc.ext (ext ku), ku.cell (by show ¬ s4.size = s2.size; omega) ca, ku.cell (by show ¬ s4.size + 1 = s2.size; omega) cb⟩
  · rintro k u1 u2 ⟨ku, e, ea, ek⟩ hz hb
    have hb' : ∀ b, b < u1.size → ¬ s5.size + 2 ≤ b → u2[b]? = u1[b]? := fun b h1 h2 => hb b h1 fun hh => h2 hh.2
    have hlt : s2.size < s5.size + 2 := by omega
    exact ⟨kp_more (by omega) ku hz hb', e, ⟨own_more ea.lo hlt hb', own_more ea.hi hlt hb', own_more ea.sm hlt hb'⟩, ek⟩
  · rintro - cd u1 u2 h; exact h.elim
  · have ep : Ext s5 ((s5.push junk).push junk) := Ext.push (Ext.push (Ext.refl _))
    exact ⟨ep.kp, (0, 0, false), en0.ext ep, ⟨fun _ => rfl, fun h => by omega⟩⟩
  · rintro k x u hk ⟨ku, e, ea, ek⟩ ⟨g, r, l, hg, rfl, ml, bd⟩
    refine ⟨rfl, ?_⟩
    unfold chV
    try simp only [nd_]
    refine nw4 zc_91 rfl rfl rfl rfl fun u1 f1 y1 p1 p2 p3 p4 => ?_
    have oqu : Own u1 ⟨s.size, 0, none⟩ v := f1.own (ku.own (by show ¬ s.size = s2.size; omega) oq)
    refine ⟨_, oqu.cell, ⟨_, p1.cell, ⟨_, p2.cell, ⟨_, p3.cell, ⟨_, p4.cell, ?_⟩⟩⟩⟩⟩
    refine hqc g r l u1 _ _ (hqe _ _ (hQu ku) f1) (ml.ext f1) bd fun u2 lo hi f2 sp => ?_
    try simp only [nd_]
    refine nw2 zc_34 rfl rfl fun u3 f3 y3 q1 q2 => ?_
    have f13 := (f1.trans f2).trans f3
    have oku : Own u3 ⟨s3.size, 0, none⟩ _ := f13.own (ku.own (by show ¬ s3.size = s2.size; omega) ok)
    refine ⟨_, oku.cell, ⟨_, q1.cell, ⟨_, q2.cell, ?_⟩⟩⟩
    refine ne2 fun u4 f4 y4 w1 w2 => ?_
    show CALL Pg W F_clock_ends_int_keep [.pointer (some ⟨s2.size, 0, none⟩), .slice (some ⟨u3.size, 0, none⟩) 2 2] _ _ u4
    have f14 := f13.trans f4
    have hus : s5.size ≤ u.size := ku.1
    have hu3 : u.size ≤ u3.size := f13.1
    refine c_keep (B := s2.size) (e := e) (a := lo) (b := hi) (ea.ext f14) (fun i hi' => ?_) (fun y hy => by cases hy; show u3.size ≠ s2.size; omega) fun u5 k5 e5 => ?_
    · refine ⟨⟨u3.size, 0, none⟩, rfl, ?_⟩
      have : i = 0 ∨ i = 1 := by simp at hi'; omega
      rcases this with rfl | rfl
      · exact w1.cell
      · exact w2.cell
    · try simp only [nd_]
      exact ⟨fun b hb0 hb1 => (k5.2 b (by have := f14.1; omega) (by show ¬ b = s2.size; omega)).trans (f14.2 b hb1), (ku.ext f14).trans k5, _, e5, ek.step hg sp⟩
  · rintro u ⟨ku, e, ea, ek⟩
    obtain ⟨hsm, hsp⟩ := ek.all hv
    refine ⟨_, ea.sm.cell, ?_⟩
    refine c_need (fun hb => ?_) (fun hb => ?_)
    · try simp only [nd_]
      refine ⟨_, ea.lo.cell, ⟨_, ea.hi.cell, ?_⟩⟩
      have na : ¬ s1.size = s2.size := by omega
      refine wrOne (i := 0) (ku.own na oa) rfl fun u1 k1 y1 q1 qk => ?_
      refine wrOne (i := 1) (qk 1 _ (by omega) (ku.own na ob)) rfl fun u2 k2 y2 w1 wk => ?_
      refine ⟨_, (wk 0 _ (by omega) q1).cell, ⟨_, w1.cell, ?_⟩⟩
      refine h1 u2 _ _ (kp_nil (ext ku) (fun b hb => by have : b = s1.size := hb; omega) (k1.trans k2)) (hsp ?_)
      rw [hsm] at hb
      exact canB_iff.1 hb
    · refine h0 u (ext ku) fun hcn => ?_
      rw [hsm, canB_iff.2 hcn] at hb
      cases hb
  · rintro cd u h; exact h.elim
end
open Go.Proofs.YtpmldejcdaoljaaGreat.G Go.V
def atM (m : Int → Int) (e : Int) : Int := if e = -1 then 0 else m e
def laterV (a b : Int) : List Go' → (Int → Int) → Int := fun _ m => atM m b - atM m a
theorem Bd.sat {c : Clk} {S : Nat} {g : List Go'} {D : BF} (hv : VdC c) (h : Bd c S g D) {m : Int → Int} (ht : Truth c S g m) : Sat D (atM m) := by
  obtain ⟨D0, tg, hs⟩ := h.tight
  have hz := truth_zero hv ht
  exact (tg.sat _).1 ((hs (atM m) (if_pos rfl)).2 ((truth_iff hv).1 hz).2)
theorem Bd.at {c : Clk} {S : Nat} {g : List Go'} {D : BF} (hv : VdC c) (h : Bd c S g D) {a b v : Int} (hg : D (a, b) = some v) : ∃ m, Truth c S g m ∧ atM m b - atM m a = v := by
  obtain ⟨D0, tg, hs⟩ := h.tight
  obtain ⟨m, h1, h2, h3⟩ := tg.at hg
  have e : atM m = m := by funext x; unfold atM; split <;> simp_all
  exact ⟨m, (truth_iff hv).2 ⟨h.goes, (hs m h2).1 h1⟩, by rw [e]; exact h3⟩
theorem Bd.some {c : Clk} {S : Nat} {g : List Go'} {D : BF} (hv : VdC c) (h : Bd c S g D) : ∃ m, Truth c S g m := by
  obtain ⟨D0, tg, hs⟩ := h.tight
  obtain ⟨m, h1, h2⟩ := tg.some hv.n0
  exact ⟨m, (truth_iff hv).2 ⟨h.goes, (hs m h2).1 h1⟩⟩
section
variable {W : World} {K : VK} {E : List PanicEntry → Hp → Prop} {s : Hp} {c : Clk} {S : Nat} {g : List Go'} {r : Nat} {l : List Pr}
theorem c_later {a b : Int} (hv : VdC c) (hm : MapL s r l) (hb : Bd c S g (get l)) (ha : -1 ≤ a ∧ a < c.n) (hb' : -1 ≤ b ∧ b < c.n) (h : ∀ s' lo hi, Ext s s' → SpanG c S (laterV a b) g lo hi → -3000 ≤ lo ∧ hi ≤ 3000 → K (.agg #[.int .i64 lo, .int .i64 hi]) s') :
    CALL Pg W F_clock_bounds_later [.map (some r), .int .i64 a, .int .i64 b] K E s := by
  refine does_clock_bounds_later W (some r) a b _ s ?_
  unfold T_clock_bounds_later
  refine nz2 zc_34 fun s1 e1 z1 o1 o2 => ?_
  refine BR_eq (fun hab => ?_) (fun hab => ?_)
  · subst hab
    refine wrB o1 o2 rfl rfl fun s2 k2 z2 q1 q2 => ⟨_, q1.cell, ⟨_, q2.cell, ?_⟩⟩
    obtain ⟨m, hm⟩ := hb.some hv
    have hz : ∀ m, laterV a a g m = 0 := fun m => by unfold laterV; omega
    exact h s2 0 0 (ext_kp e1 (Nat.le_refl _) k2) ⟨⟨m, hm, hz m⟩, ⟨m, hm, hz m⟩, fun m _ => by rw [hz]; omega⟩ (by omega)
  · obtain ⟨D0, tg, hs⟩ := hb.tight
    obtain ⟨v, hv1, hv2⟩ := tg.has a b ha.1 ha.2 hb'.1 hb'.2 hab
    obtain ⟨w, hw1, hw2⟩ := tg.has b a hb'.1 hb'.2 ha.1 ha.2 (Ne.symm hab)
    have hsp : SpanG c S (laterV a b) g (-w) v := by
      refine ⟨?_, hb.at hv hv1, fun m ht => ?_⟩
      · obtain ⟨m, h1, h2⟩ := hb.at hv hw1
        exact ⟨m, h1, by show atM m b - atM m a = _; omega⟩
      · have h1 := hb.sat hv ht a b v hv1
        have h2 := hb.sat hv ht b a w hw1
        show -w ≤ atM m b - atM m a ∧ atM m b - atM m a ≤ v
        omega
    have hfin : WR (Addr.add ⟨s.size, 0, none⟩ 0) (.int .i64 (IntKind.wrap .i64 (0 - w))) (WR (Addr.add ⟨s.size, 0, none⟩ 1) (.int .i64 v) (RDI .i64 (Addr.add ⟨s.size, 0, none⟩ 0) fun n17 => RDI .i64 (Addr.add ⟨s.size, 0, none⟩ 1) fun n18 => (endK K E) (.returned (.agg #[(.int .i64 n17), (.int .i64 n18)])))) s1 := by
      rw [wrap_i64 (by omega) (by omega), Int.zero_sub]
      refine wrB o1 o2 rfl rfl fun s2 k2 z2 q1 q2 => ⟨_, q1.cell, ⟨_, q2.cell, ?_⟩⟩
      exact h s2 _ _ (ext_kp e1 (Nat.le_refl _) k2) hsp (by omega)
    refine CONJ_two ?_ ?_
    · refine lkp_no (k := (b, a)) (hm.ext e1) ?_
      rw [hw1]
      try simp only [nd_]
      refine lkp_no (k := (a, b)) (hm.ext e1) ?_
      rw [hv1]
      try simp only [nd_]
      exact hfin
    · refine lkp_no (k := (a, b)) (hm.ext e1) ?_
      rw [hv1]
      try simp only [nd_]
      refine lkp_no (k := (b, a)) (hm.ext e1) ?_
      rw [hw1]
      try simp only [nd_]
      exact hfin
end
theorem SpanG.ext {c : Clk} {S : Nat} {f f' : List Go' → (Int → Int) → Int} {g : List Go'} {lo hi : Int} (h : SpanG c S f g lo hi) (he : ∀ m, Truth c S g m → f g m = f' g m) : SpanG c S f' g lo hi := by
  obtain ⟨⟨m1, t1, v1⟩, ⟨m2, t2, v2⟩, h3⟩ := h
  exact ⟨⟨m1, t1, by rw [← he m1 t1]; exact v1⟩, ⟨m2, t2, by rw [← he m2 t2]; exact v2⟩, fun m ht => by rw [← he m ht]; exact h3 m ht⟩
section
variable {W : World} {c : Clk} {S : Nat}
theorem q_lasted {a b : Addr} {x y : Int} (hv : VdC c) (hx : 0 ≤ x ∧ x < c.n) (hy : 0 ≤ y ∧ y < c.n) : IsQ W c S (.func (.func 62) #[] #[.pointer (some a), .pointer (some b)]) (fun s => cellAt s a = some (.int .i64 x) ∧ cellAt s b = some (.int .i64 y)) (laterV x y) := by
  refine ⟨rfl, fun s s' h e => ⟨e.cell h.1, e.cell h.2⟩, fun g r l s1 K E hq hm hb h => ?_⟩
  refine CALLV_func ?_
  unfold chV
  refine does_clock_Lasted_c2 W _ _ _ _ (some r) a b _ s1 ?_
  unfold T_clock_Lasted_c2
  refine ne4 fun s2 e2 z2 p1 p2 p3 p4 => ?_
  refine nz2 zc_34 fun s3 e3 z3 o1 o2 => ?_
  have e13 := e2.trans e3
  refine ⟨_, e13.cell hq.1, ⟨_, e13.cell hq.2, ?_⟩⟩
  refine c_later (g := g) hv (hm.ext e13) hb (by omega) (by omega) fun s4 lo hi e4 sp _ => ?_
  try simp only [nd_]
  refine wrB (e4.own o1) (e4.own o2) rfl rfl fun s5 k5 z5 q1 q2 => ⟨_, q1.cell, ⟨_, q2.cell, ?_⟩⟩
  exact h s5 lo hi (ext_kp (e13.trans e4) e2.1 k5) sp
end
end Go.Proofs.YtpmldejcdaoljaaGreat.G.Ck
namespace Go.Proofs.YtpmldejcdaoljaaGreat.G
open Go.V
def an_50 : Nat → Ann := fun b => match b with
 | 0 => { ms := [3, 4], ks := [.i .i64, .i .i64], us := [0, 2, 25], rt := false, ex := [] }
 | _ => {}
abbrev rv_50 : List ResultVar := [.tmp 2]
abbrev rs_50 : List Nat := [25, 2]
def L_slices_Min_int_int_0 (W : World) (R : Ending → Hp → Prop) (zp0 : Option Addr) (zl1 zl2 : Nat) (n6 n7 : Int) : Hp → Prop :=
 LOOPN [.i .i64, .i .i64] (fun ys next s => ∀ j : Tm, vc Pg W 25 rs_50 an_50 false (sub (bodyOf Tryz.f50) [1, 1, 1, 0, 1, 0, 0]) 0 (KLoop [3, 4] [0, 2, 25] [(.slice zp0 zl1 zl2), (.int .i64 0), (.tuple #[])] next (KBlk 0 (KS Pg W 25 rs_50 an_50 false (sub (bodyOf Tryz.f50) [1, 1, 1, 1]) 0 (fin Pg W 25 rv_50 R)))) (known [3, 4] ys (known [0, 2, 25] [(.slice zp0 zl1 zl2), (.int .i64 0), (.tuple #[])] j)) s) [(.int .i64 n6), (.int .i64 n7)]
def B_slices_Min_int_int_0 (W : World) (R : Ending → Hp → Prop) (zp0 : Option Addr) (zl1 zl2 : Nat) (n6 n7 : Int) (nx0 : List Value → Hp → Prop) : Hp → Prop :=
 BR (decide (n7 < (↑zl1 : Int)))
 (IXS zp0 zl1 n7 1 fun a8 =>
 RDI .i64 a8 fun n9 =>
 NX [(.slice zp0 zl1 zl2), (.int .i64 0), (.tuple #[])] [(.slice zp0 zl1 zl2), (.int .i64 0), (.tuple #[])] (nx0 [(.int .i64 (if n9 < n6 then n9 else n6)), (.int .i64 (IntKind.wrap .i64 (n7 + 1)))]))
 (R (.returned (.int .i64 n6)))
theorem B_slices_Min_int_int_0_eq (W : World) (R : Ending → Hp → Prop) (zp0 : Option Addr) (zl1 zl2 : Nat) (n6 n7 : Int) (nx0 : List Value → Hp → Prop) (j : Tm) : vc Pg W 25 rs_50 an_50 false (sub (bodyOf Tryz.f50) [1, 1, 1, 0, 1, 0, 0]) 0 (KLoop [3, 4] [0, 2, 25] [(.slice zp0 zl1 zl2), (.int .i64 0), (.tuple #[])] nx0 (KBlk 0 (KS Pg W 25 rs_50 an_50 false (sub (bodyOf Tryz.f50) [1, 1, 1, 1]) 0 (fin Pg W 25 rv_50 R)))) (known [3, 4] [(.int .i64 n6), (.int .i64 n7)] (known [0, 2, 25] [(.slice zp0 zl1 zl2), (.int .i64 0), (.tuple #[])] j)) = B_slices_Min_int_int_0 W R zp0 zl1 zl2 n6 n7 nx0 := by kernel_rfl
def N_slices_Min_int_int_0 (I : Int → Int → Hp → Prop) (μ : Int → Int → Hp → Nat) (n60 n70 : Int) (s : Hp) (vs : List Value) : Hp → Prop := fun s' => ∃ n6 n7, vs = [(.int .i64 n6), (.int .i64 n7)] ∧ I n6 n7 s' ∧ μ n6 n7 s' < μ n60 n70 s
theorem L_slices_Min_int_int_0_rule (W : World) (R : Ending → Hp → Prop) (zp0 : Option Addr) (zl1 zl2 : Nat) (I : Int → Int → Hp → Prop) (μ : Int → Int → Hp → Nat) (n60 n70 : Int) (s : Hp) (h0 : I n60 n70 s)
    (hr : ∀ (n6 : Int) (n7 : Int) (s : Hp), I n6 n7 s → B_slices_Min_int_int_0 W R zp0 zl1 zl2 n6 n7 (fun vs => N_slices_Min_int_int_0 I μ n6 n7 s vs) s) : L_slices_Min_int_int_0 W R zp0 zl1 zl2 n60 n70 s := by
  refine ⟨fun vs s => ∃ n6 n7, vs = [(.int .i64 n6), (.int .i64 n7)] ∧ I n6 n7 s, fun vs s => (match vs with | [.int _ n6, .int _ n7] => μ n6 n7 s | _ => 0), ⟨⟨⟨_, rfl⟩, ⟨⟨_, rfl⟩, trivial⟩⟩, ⟨_, _, rfl, h0⟩⟩, ?_⟩
  intro n6 n7 s hI j
  obtain ⟨n6', n7', hy, hI⟩ := hI
  have hI' : I n6 n7 s := by cases hy; exact hI
  have hh := hr n6 n7 s hI'
  rw [← B_slices_Min_int_int_0_eq W R zp0 zl1 zl2 n6 n7 _ j] at hh
  refine vc_mono ?_ _ _ hh
  exact KLoop_mono (fun vs s' h => by obtain ⟨n61, n71, rfl, h1, h2⟩ := h; exact ⟨⟨⟨_, rfl⟩, ⟨⟨_, rfl⟩, trivial⟩⟩, ⟨_, _, rfl, h1⟩, h2⟩)
def T_slices_Min_int_int (W : World) (x1 : Option Addr) (l2 c3 : Nat) (R : Ending → Hp → Prop) : Hp → Prop :=
 BR (decide ((↑l2 : Int) < 1))
 (R (.panicked [{ v := (.iface 9 (.string ⟨#[115, 108, 105, 99, 101, 115, 46, 77, 105, 110, 58, 32, 101, 109, 112, 116, 121, 32, 108, 105, 115, 116]⟩)), recovered := false }]))
 (IXS x1 l2 0 1 fun a4 =>
 RDI .i64 a4 fun n5 =>
 L_slices_Min_int_int_0 W R x1 l2 c3 n5 1)
theorem does_slices_Min_int_int (W : World) (x1 : Option Addr) (l2 c3 : Nat) (R : Ending → Hp → Prop) (s : Hp) (h : T_slices_Min_int_int W x1 l2 c3 R s) : Does Pg W F_slices_Min_int_int #[(.slice x1 l2 c3)] s R :=
  does_of_vfun Pg W an_50 Tryz.func50 rfl (by kernel_rfl) (Eq.mpr (by kernel_rfl) h)
def an_51 : Nat → Ann := fun b => match b with
 | 0 => { ms := [3, 4], ks := [.i .i64, .i .i64], us := [0, 2, 25], rt := false, ex := [] }
 | _ => {}
abbrev rv_51 : List ResultVar := [.tmp 2]
abbrev rs_51 : List Nat := [25, 2]
def L_slices_Max_int_int_0 (W : World) (R : Ending → Hp → Prop) (zp0 : Option Addr) (zl1 zl2 : Nat) (n6 n7 : Int) : Hp → Prop :=
 LOOPN [.i .i64, .i .i64] (fun ys next s => ∀ j : Tm, vc Pg W 25 rs_51 an_51 false (sub (bodyOf Tryz.f51) [1, 1, 1, 0, 1, 0, 0]) 0 (KLoop [3, 4] [0, 2, 25] [(.slice zp0 zl1 zl2), (.int .i64 0), (.tuple #[])] next (KBlk 0 (KS Pg W 25 rs_51 an_51 false (sub (bodyOf Tryz.f51) [1, 1, 1, 1]) 0 (fin Pg W 25 rv_51 R)))) (known [3, 4] ys (known [0, 2, 25] [(.slice zp0 zl1 zl2), (.int .i64 0), (.tuple #[])] j)) s) [(.int .i64 n6), (.int .i64 n7)]
def B_slices_Max_int_int_0 (W : World) (R : Ending → Hp → Prop) (zp0 : Option Addr) (zl1 zl2 : Nat) (n6 n7 : Int) (nx0 : List Value → Hp → Prop) : Hp → Prop :=
 BR (decide (n7 < (↑zl1 : Int)))
 (IXS zp0 zl1 n7 1 fun a8 =>
 RDI .i64 a8 fun n9 =>
 NX [(.slice zp0 zl1 zl2), (.int .i64 0), (.tuple #[])] [(.slice zp0 zl1 zl2), (.int .i64 0), (.tuple #[])] (nx0 [(.int .i64 (if n9 > n6 then n9 else n6)), (.int .i64 (IntKind.wrap .i64 (n7 + 1)))]))
 (R (.returned (.int .i64 n6)))
theorem B_slices_Max_int_int_0_eq (W : World) (R : Ending → Hp → Prop) (zp0 : Option Addr) (zl1 zl2 : Nat) (n6 n7 : Int) (nx0 : List Value → Hp → Prop) (j : Tm) : vc Pg W 25 rs_51 an_51 false (sub (bodyOf Tryz.f51) [1, 1, 1, 0, 1, 0, 0]) 0 (KLoop [3, 4] [0, 2, 25] [(.slice zp0 zl1 zl2), (.int .i64 0), (.tuple #[])] nx0 (KBlk 0 (KS Pg W 25 rs_51 an_51 false (sub (bodyOf Tryz.f51) [1, 1, 1, 1]) 0 (fin Pg W 25 rv_51 R)))) (known [3, 4] [(.int .i64 n6), (.int .i64 n7)] (known [0, 2, 25] [(.slice zp0 zl1 zl2), (.int .i64 0), (.tuple #[])] j)) = B_slices_Max_int_int_0 W R zp0 zl1 zl2 n6 n7 nx0 := by kernel_rfl
def N_slices_Max_int_int_0 (I : Int → Int → Hp → Prop) (μ : Int → Int → Hp → Nat) (n60 n70 : Int) (s : Hp) (vs : List Value) : Hp → Prop := fun s' => ∃ n6 n7, vs = [(.int .i64 n6), (.int .i64 n7)] ∧ I n6 n7 s' ∧ μ n6 n7 s' < μ n60 n70 s
theorem L_slices_Max_int_int_0_rule (W : World) (R : Ending → Hp → Prop) (zp0 : Option Addr) (zl1 zl2 : Nat) (I : Int → Int → Hp → Prop) (μ : Int → Int → Hp → Nat) (n60 n70 : Int) (s : Hp) (h0 : I n60 n70 s)
    (hr : ∀ (n6 : Int) (n7 : Int) (s : Hp), I n6 n7 s → B_slices_Max_int_int_0 W R zp0 zl1 zl2 n6 n7 (fun vs => N_slices_Max_int_int_0 I μ n6 n7 s vs) s) : L_slices_Max_int_int_0 W R zp0 zl1 zl2 n60 n70 s := by
  refine ⟨fun vs s => ∃ n6 n7, vs = [(.int .i64 n6), (.int .i64 n7)] ∧ I n6 n7 s, fun vs s => (match vs with | [.int _ n6, .int _ n7] => μ n6 n7 s | _ => 0), ⟨⟨⟨_, rfl⟩, ⟨⟨_, rfl⟩, trivial⟩⟩, ⟨_, _, rfl, h0⟩⟩, ?_⟩
  intro n6 n7 s hI j
  obtain ⟨n6', n7', hy, hI⟩ := hI
  have hI' : I n6 n7 s := by cases hy; exact hI
  have hh := hr n6 n7 s hI'
  rw [← B_slices_Max_int_int_0_eq W R zp0 zl1 zl2 n6 n7 _ j] at hh
  refine vc_mono ?_ _ _ hh
  exact KLoop_mono (fun vs s' h => by obtain ⟨n61, n71, rfl, h1, h2⟩ := h; exact ⟨⟨⟨_, rfl⟩, ⟨⟨_, rfl⟩, trivial⟩⟩, ⟨_, _, rfl, h1⟩, h2⟩)
def T_slices_Max_int_int (W : World) (x1 : Option Addr) (l2 c3 : Nat) (R : Ending → Hp → Prop) : Hp → Prop :=
 BR (decide ((↑l2 : Int) < 1))
 (R (.panicked [{ v := (.iface 9 (.string ⟨#[115, 108, 105, 99, 101, 115, 46, 77, 97, 120, 58, 32, 101, 109, 112, 116, 121, 32, 108, 105, 115, 116]⟩)), recovered := false }]))
 (IXS x1 l2 0 1 fun a4 =>
 RDI .i64 a4 fun n5 =>
 L_slices_Max_int_int_0 W R x1 l2 c3 n5 1)
theorem does_slices_Max_int_int (W : World) (x1 : Option Addr) (l2 c3 : Nat) (R : Ending → Hp → Prop) (s : Hp) (h : T_slices_Max_int_int W x1 l2 c3 R s) : Does Pg W F_slices_Max_int_int #[(.slice x1 l2 c3)] s R :=
  does_of_vfun Pg W an_51 Tryz.func51 rfl (by kernel_rfl) (Eq.mpr (by kernel_rfl) h)
def an_85 : Nat → Ann := fun b => match b with
 | _ => {}
def T_slices_ContainsFunc_api_TeamStep_api_TeamStep (W : World) (x1 : Option Addr) (l2 c3 : Nat) (v4 : Value) (R : Ending → Hp → Prop) : Hp → Prop :=
 CALL Pg W F_slices_IndexFunc_api_TeamStep_api_TeamStep [(.slice x1 l2 c3), v4]
 (fun v5 => TYI .i64 v5 fun n7 =>
 R (.returned (.bool (decide (n7 ≥ 0)))))
 (fun e6 => R (.panicked e6))
theorem does_slices_ContainsFunc_api_TeamStep_api_TeamStep (W : World) (x1 : Option Addr) (l2 c3 : Nat) (v4 : Value) (R : Ending → Hp → Prop) (s : Hp) (h : T_slices_ContainsFunc_api_TeamStep_api_TeamStep W x1 l2 c3 v4 R s) : Does Pg W F_slices_ContainsFunc_api_TeamStep_api_TeamStep #[(.slice x1 l2 c3), v4] s R :=
  does_of_vfun Pg W an_85 Tryz.func85 rfl (by kernel_rfl) (Eq.mpr (by kernel_rfl) h)
def an_97 : Nat → Ann := fun b => match b with
 | 0 => { ms := [4, 8], ks := [.i .i64, .i .i64], us := [0, 1, 7, 19], rt := false, ex := [] }
 | _ => {}
abbrev rv_97 : List ResultVar := [.tmp 4]
abbrev rs_97 : List Nat := [19, 4]
def L_slices_IndexFunc_api_TeamStep_api_TeamStep_0 (W : World) (R : Ending → Hp → Prop) (zp0 : Option Addr) (zl1 zl2 : Nat) (zv3 : Value) (zn4 n5 n6 : Int) : Hp → Prop :=
 LOOPN [.i .i64, .i .i64] (fun ys next s => ∀ j : Tm, vc Pg W 19 rs_97 an_97 false (sub (bodyOf Tryz.f97) [1, 0, 1, 0, 0]) 0 (KLoop [4, 8] [0, 1, 7, 19] [(.slice zp0 zl1 zl2), zv3, (.int .i64 zn4), (.tuple #[])] next (KBlk 0 (KS Pg W 19 rs_97 an_97 false (sub (bodyOf Tryz.f97) [1, 1]) 0 (fin Pg W 19 rv_97 R)))) (known [4, 8] ys (known [0, 1, 7, 19] [(.slice zp0 zl1 zl2), zv3, (.int .i64 zn4), (.tuple #[])] j)) s) [(.int .i64 n5), (.int .i64 n6)]
def B_slices_IndexFunc_api_TeamStep_api_TeamStep_0 (W : World) (R : Ending → Hp → Prop) (zp0 : Option Addr) (zl1 zl2 : Nat) (zv3 : Value) (zn4 n5 n6 : Int) (nx0 : List Value → Hp → Prop) : Hp → Prop :=
 BR (decide (n6 < zn4))
 (IXS zp0 zl1 n6 3 fun a7 =>
 RDI .i64 (Addr.add a7 0) fun n8 =>
 RDI .i64 (Addr.add a7 1) fun n9 =>
 RDI .i64 (Addr.add a7 2) fun n10 =>
 CALLV Pg W zv3 [(.agg #[(.int .i64 n8), (.int .i64 n9), (.int .i64 n10)])]
 (fun v11 => TYB v11 fun b13 =>
 BR b13
 (R (.returned (.int .i64 n6)))
 (NX [(.slice zp0 zl1 zl2), zv3, (.int .i64 zn4), (.tuple #[])] [(.slice zp0 zl1 zl2), zv3, (.int .i64 zn4), (.tuple #[])] (nx0 [(.int .i64 n5), (.int .i64 (IntKind.wrap .i64 (n6 + 1)))])))
 (fun e12 => R (.panicked e12)))
 (R (.returned (.int .i64 (-1))))
theorem B_slices_IndexFunc_api_TeamStep_api_TeamStep_0_eq (W : World) (R : Ending → Hp → Prop) (zp0 : Option Addr) (zl1 zl2 : Nat) (zv3 : Value) (zn4 n5 n6 : Int) (nx0 : List Value → Hp → Prop) (j : Tm) : vc Pg W 19 rs_97 an_97 false (sub (bodyOf Tryz.f97) [1, 0, 1, 0, 0]) 0 (KLoop [4, 8] [0, 1, 7, 19] [(.slice zp0 zl1 zl2), zv3, (.int .i64 zn4), (.tuple #[])] nx0 (KBlk 0 (KS Pg W 19 rs_97 an_97 false (sub (bodyOf Tryz.f97) [1, 1]) 0 (fin Pg W 19 rv_97 R)))) (known [4, 8] [(.int .i64 n5), (.int .i64 n6)] (known [0, 1, 7, 19] [(.slice zp0 zl1 zl2), zv3, (.int .i64 zn4), (.tuple #[])] j)) = B_slices_IndexFunc_api_TeamStep_api_TeamStep_0 W R zp0 zl1 zl2 zv3 zn4 n5 n6 nx0 := by kernel_rfl
def N_slices_IndexFunc_api_TeamStep_api_TeamStep_0 (I : Int → Int → Hp → Prop) (μ : Int → Int → Hp → Nat) (n50 n60 : Int) (s : Hp) (vs : List Value) : Hp → Prop := fun s' => ∃ n5 n6, vs = [(.int .i64 n5), (.int .i64 n6)] ∧ I n5 n6 s' ∧ μ n5 n6 s' < μ n50 n60 s
theorem L_slices_IndexFunc_api_TeamStep_api_TeamStep_0_rule (W : World) (R : Ending → Hp → Prop) (zp0 : Option Addr) (zl1 zl2 : Nat) (zv3 : Value) (zn4 : Int) (I : Int → Int → Hp → Prop) (μ : Int → Int → Hp → Nat) (n50 n60 : Int) (s : Hp) (h0 : I n50 n60 s)
    (hr : ∀ (n5 : Int) (n6 : Int) (s : Hp), I n5 n6 s → B_slices_IndexFunc_api_TeamStep_api_TeamStep_0 W R zp0 zl1 zl2 zv3 zn4 n5 n6 (fun vs => N_slices_IndexFunc_api_TeamStep_api_TeamStep_0 I μ n5 n6 s vs) s) : L_slices_IndexFunc_api_TeamStep_api_TeamStep_0 W R zp0 zl1 zl2 zv3 zn4 n50 n60 s := by
  refine ⟨fun vs s => ∃ n5 n6, vs = [(.int .i64 n5), (.int .i64 n6)] ∧ I n5 n6 s, fun vs s => (match vs with | [.int _ n5, .int _ n6] => μ n5 n6 s | _ => 0), ⟨⟨⟨_, rfl⟩, ⟨⟨_, rfl⟩, trivial⟩⟩, ⟨_, _, rfl, h0⟩⟩, ?_⟩
  intro n5 n6 s hI j
  obtain ⟨n5', n6', hy, hI⟩ := hI
  have hI' : I n5 n6 s := by cases hy; exact hI
  have hh := hr n5 n6 s hI'
  rw [← B_slices_IndexFunc_api_TeamStep_api_TeamStep_0_eq W R zp0 zl1 zl2 zv3 zn4 n5 n6 _ j] at hh
  refine vc_mono ?_ _ _ hh
  exact KLoop_mono (fun vs s' h => by obtain ⟨n51, n61, rfl, h1, h2⟩ := h; exact ⟨⟨⟨_, rfl⟩, ⟨⟨_, rfl⟩, trivial⟩⟩, ⟨_, _, rfl, h1⟩, h2⟩)
def T_slices_IndexFunc_api_TeamStep_api_TeamStep (W : World) (x1 : Option Addr) (l2 c3 : Nat) (v4 : Value) (R : Ending → Hp → Prop) : Hp → Prop :=
 L_slices_IndexFunc_api_TeamStep_api_TeamStep_0 W R x1 l2 c3 v4 (↑l2 : Int) 0 0
theorem does_slices_IndexFunc_api_TeamStep_api_TeamStep (W : World) (x1 : Option Addr) (l2 c3 : Nat) (v4 : Value) (R : Ending → Hp → Prop) (s : Hp) (h : T_slices_IndexFunc_api_TeamStep_api_TeamStep W x1 l2 c3 v4 R s) : Does Pg W F_slices_IndexFunc_api_TeamStep_api_TeamStep #[(.slice x1 l2 c3), v4] s R :=
  does_of_vfun Pg W an_97 Tryz.func97 rfl (by kernel_rfl) (Eq.mpr (by kernel_rfl) h)
def an_103 : Nat → Ann := fun b => match b with
 | _ => {}
def T_slices_ContainsFunc_api_ClockWatch_api_ClockWatch (W : World) (x1 : Option Addr) (l2 c3 : Nat) (v4 : Value) (R : Ending → Hp → Prop) : Hp → Prop :=
 CALL Pg W F_slices_IndexFunc_api_ClockWatch_api_ClockWatch [(.slice x1 l2 c3), v4]
 (fun v5 => TYI .i64 v5 fun n7 =>
 R (.returned (.bool (decide (n7 ≥ 0)))))
 (fun e6 => R (.panicked e6))
theorem does_slices_ContainsFunc_api_ClockWatch_api_ClockWatch (W : World) (x1 : Option Addr) (l2 c3 : Nat) (v4 : Value) (R : Ending → Hp → Prop) (s : Hp) (h : T_slices_ContainsFunc_api_ClockWatch_api_ClockWatch W x1 l2 c3 v4 R s) : Does Pg W F_slices_ContainsFunc_api_ClockWatch_api_ClockWatch #[(.slice x1 l2 c3), v4] s R :=
  does_of_vfun Pg W an_103 Tryz.func103 rfl (by kernel_rfl) (Eq.mpr (by kernel_rfl) h)
def an_104 : Nat → Ann := fun b => match b with
 | _ => {}
def T_slices_ContainsFunc_api_ClockReading_api_ClockReading (W : World) (x1 : Option Addr) (l2 c3 : Nat) (v4 : Value) (R : Ending → Hp → Prop) : Hp → Prop :=
 CALL Pg W F_slices_IndexFunc_api_ClockReading_api_ClockReading [(.slice x1 l2 c3), v4]
 (fun v5 => TYI .i64 v5 fun n7 =>
 R (.returned (.bool (decide (n7 ≥ 0)))))
 (fun e6 => R (.panicked e6))
theorem does_slices_ContainsFunc_api_ClockReading_api_ClockReading (W : World) (x1 : Option Addr) (l2 c3 : Nat) (v4 : Value) (R : Ending → Hp → Prop) (s : Hp) (h : T_slices_ContainsFunc_api_ClockReading_api_ClockReading W x1 l2 c3 v4 R s) : Does Pg W F_slices_ContainsFunc_api_ClockReading_api_ClockReading #[(.slice x1 l2 c3), v4] s R :=
  does_of_vfun Pg W an_104 Tryz.func104 rfl (by kernel_rfl) (Eq.mpr (by kernel_rfl) h)
def an_105 : Nat → Ann := fun b => match b with
 | _ => {}
def T_slices_ContainsFunc_api_ClockLink_api_ClockLink (W : World) (x1 : Option Addr) (l2 c3 : Nat) (v4 : Value) (R : Ending → Hp → Prop) : Hp → Prop :=
 CALL Pg W F_slices_IndexFunc_api_ClockLink_api_ClockLink [(.slice x1 l2 c3), v4]
 (fun v5 => TYI .i64 v5 fun n7 =>
 R (.returned (.bool (decide (n7 ≥ 0)))))
 (fun e6 => R (.panicked e6))
theorem does_slices_ContainsFunc_api_ClockLink_api_ClockLink (W : World) (x1 : Option Addr) (l2 c3 : Nat) (v4 : Value) (R : Ending → Hp → Prop) (s : Hp) (h : T_slices_ContainsFunc_api_ClockLink_api_ClockLink W x1 l2 c3 v4 R s) : Does Pg W F_slices_ContainsFunc_api_ClockLink_api_ClockLink #[(.slice x1 l2 c3), v4] s R :=
  does_of_vfun Pg W an_105 Tryz.func105 rfl (by kernel_rfl) (Eq.mpr (by kernel_rfl) h)
def an_111 : Nat → Ann := fun b => match b with
 | 0 => { ms := [4, 8], ks := [.i .i64, .i .i64], us := [0, 1, 7, 19], rt := false, ex := [] }
 | _ => {}
abbrev rv_111 : List ResultVar := [.tmp 4]
abbrev rs_111 : List Nat := [19, 4]
def L_slices_IndexFunc_api_ClockWatch_api_ClockWatch_0 (W : World) (R : Ending → Hp → Prop) (zp0 : Option Addr) (zl1 zl2 : Nat) (zv3 : Value) (zn4 n5 n6 : Int) : Hp → Prop :=
 LOOPN [.i .i64, .i .i64] (fun ys next s => ∀ j : Tm, vc Pg W 19 rs_111 an_111 false (sub (bodyOf Tryz.f111) [1, 0, 1, 0, 0]) 0 (KLoop [4, 8] [0, 1, 7, 19] [(.slice zp0 zl1 zl2), zv3, (.int .i64 zn4), (.tuple #[])] next (KBlk 0 (KS Pg W 19 rs_111 an_111 false (sub (bodyOf Tryz.f111) [1, 1]) 0 (fin Pg W 19 rv_111 R)))) (known [4, 8] ys (known [0, 1, 7, 19] [(.slice zp0 zl1 zl2), zv3, (.int .i64 zn4), (.tuple #[])] j)) s) [(.int .i64 n5), (.int .i64 n6)]
def B_slices_IndexFunc_api_ClockWatch_api_ClockWatch_0 (W : World) (R : Ending → Hp → Prop) (zp0 : Option Addr) (zl1 zl2 : Nat) (zv3 : Value) (zn4 n5 n6 : Int) (nx0 : List Value → Hp → Prop) : Hp → Prop :=
 BR (decide (n6 < zn4))
 (IXS zp0 zl1 n6 4 fun a7 =>
 RDI .i64 (Addr.add a7 0) fun n8 =>
 RDI .i64 (Addr.add a7 1) fun n9 =>
 RDI .i64 (Addr.add a7 2) fun n10 =>
 RDI .i64 (Addr.add a7 3) fun n11 =>
 CALLV Pg W zv3 [(.agg #[(.int .i64 n8), (.int .i64 n9), (.int .i64 n10), (.int .i64 n11)])]
 (fun v12 => TYB v12 fun b14 =>
 BR b14
 (R (.returned (.int .i64 n6)))
 (NX [(.slice zp0 zl1 zl2), zv3, (.int .i64 zn4), (.tuple #[])] [(.slice zp0 zl1 zl2), zv3, (.int .i64 zn4), (.tuple #[])] (nx0 [(.int .i64 n5), (.int .i64 (IntKind.wrap .i64 (n6 + 1)))])))
 (fun e13 => R (.panicked e13)))
 (R (.returned (.int .i64 (-1))))
theorem B_slices_IndexFunc_api_ClockWatch_api_ClockWatch_0_eq (W : World) (R : Ending → Hp → Prop) (zp0 : Option Addr) (zl1 zl2 : Nat) (zv3 : Value) (zn4 n5 n6 : Int) (nx0 : List Value → Hp → Prop) (j : Tm) : vc Pg W 19 rs_111 an_111 false (sub (bodyOf Tryz.f111) [1, 0, 1, 0, 0]) 0 (KLoop [4, 8] [0, 1, 7, 19] [(.slice zp0 zl1 zl2), zv3, (.int .i64 zn4), (.tuple #[])] nx0 (KBlk 0 (KS Pg W 19 rs_111 an_111 false (sub (bodyOf Tryz.f111) [1, 1]) 0 (fin Pg W 19 rv_111 R)))) (known [4, 8] [(.int .i64 n5), (.int .i64 n6)] (known [0, 1, 7, 19] [(.slice zp0 zl1 zl2), zv3, (.int .i64 zn4), (.tuple #[])] j)) = B_slices_IndexFunc_api_ClockWatch_api_ClockWatch_0 W R zp0 zl1 zl2 zv3 zn4 n5 n6 nx0 := by kernel_rfl
def N_slices_IndexFunc_api_ClockWatch_api_ClockWatch_0 (I : Int → Int → Hp → Prop) (μ : Int → Int → Hp → Nat) (n50 n60 : Int) (s : Hp) (vs : List Value) : Hp → Prop := fun s' => ∃ n5 n6, vs = [(.int .i64 n5), (.int .i64 n6)] ∧ I n5 n6 s' ∧ μ n5 n6 s' < μ n50 n60 s
theorem L_slices_IndexFunc_api_ClockWatch_api_ClockWatch_0_rule (W : World) (R : Ending → Hp → Prop) (zp0 : Option Addr) (zl1 zl2 : Nat) (zv3 : Value) (zn4 : Int) (I : Int → Int → Hp → Prop) (μ : Int → Int → Hp → Nat) (n50 n60 : Int) (s : Hp) (h0 : I n50 n60 s)
    (hr : ∀ (n5 : Int) (n6 : Int) (s : Hp), I n5 n6 s → B_slices_IndexFunc_api_ClockWatch_api_ClockWatch_0 W R zp0 zl1 zl2 zv3 zn4 n5 n6 (fun vs => N_slices_IndexFunc_api_ClockWatch_api_ClockWatch_0 I μ n5 n6 s vs) s) : L_slices_IndexFunc_api_ClockWatch_api_ClockWatch_0 W R zp0 zl1 zl2 zv3 zn4 n50 n60 s := by
  refine ⟨fun vs s => ∃ n5 n6, vs = [(.int .i64 n5), (.int .i64 n6)] ∧ I n5 n6 s, fun vs s => (match vs with | [.int _ n5, .int _ n6] => μ n5 n6 s | _ => 0), ⟨⟨⟨_, rfl⟩, ⟨⟨_, rfl⟩, trivial⟩⟩, ⟨_, _, rfl, h0⟩⟩, ?_⟩
  intro n5 n6 s hI j
  obtain ⟨n5', n6', hy, hI⟩ := hI
  have hI' : I n5 n6 s := by cases hy; exact hI
  have hh := hr n5 n6 s hI'
  rw [← B_slices_IndexFunc_api_ClockWatch_api_ClockWatch_0_eq W R zp0 zl1 zl2 zv3 zn4 n5 n6 _ j] at hh
  refine vc_mono ?_ _ _ hh
  exact KLoop_mono (fun vs s' h => by obtain ⟨n51, n61, rfl, h1, h2⟩ := h; exact ⟨⟨⟨_, rfl⟩, ⟨⟨_, rfl⟩, trivial⟩⟩, ⟨_, _, rfl, h1⟩, h2⟩)
def T_slices_IndexFunc_api_ClockWatch_api_ClockWatch (W : World) (x1 : Option Addr) (l2 c3 : Nat) (v4 : Value) (R : Ending → Hp → Prop) : Hp → Prop :=
 L_slices_IndexFunc_api_ClockWatch_api_ClockWatch_0 W R x1 l2 c3 v4 (↑l2 : Int) 0 0
theorem does_slices_IndexFunc_api_ClockWatch_api_ClockWatch (W : World) (x1 : Option Addr) (l2 c3 : Nat) (v4 : Value) (R : Ending → Hp → Prop) (s : Hp) (h : T_slices_IndexFunc_api_ClockWatch_api_ClockWatch W x1 l2 c3 v4 R s) : Does Pg W F_slices_IndexFunc_api_ClockWatch_api_ClockWatch #[(.slice x1 l2 c3), v4] s R :=
  does_of_vfun Pg W an_111 Tryz.func111 rfl (by kernel_rfl) (Eq.mpr (by kernel_rfl) h)
def an_112 : Nat → Ann := fun b => match b with
 | 0 => { ms := [4, 8], ks := [.i .i64, .i .i64], us := [0, 1, 7, 19], rt := false, ex := [] }
 | _ => {}
abbrev rv_112 : List ResultVar := [.tmp 4]
abbrev rs_112 : List Nat := [19, 4]
def L_slices_IndexFunc_api_ClockReading_api_ClockReading_0 (W : World) (R : Ending → Hp → Prop) (zp0 : Option Addr) (zl1 zl2 : Nat) (zv3 : Value) (zn4 n5 n6 : Int) : Hp → Prop :=
 LOOPN [.i .i64, .i .i64] (fun ys next s => ∀ j : Tm, vc Pg W 19 rs_112 an_112 false (sub (bodyOf Tryz.f112) [1, 0, 1, 0, 0]) 0 (KLoop [4, 8] [0, 1, 7, 19] [(.slice zp0 zl1 zl2), zv3, (.int .i64 zn4), (.tuple #[])] next (KBlk 0 (KS Pg W 19 rs_112 an_112 false (sub (bodyOf Tryz.f112) [1, 1]) 0 (fin Pg W 19 rv_112 R)))) (known [4, 8] ys (known [0, 1, 7, 19] [(.slice zp0 zl1 zl2), zv3, (.int .i64 zn4), (.tuple #[])] j)) s) [(.int .i64 n5), (.int .i64 n6)]
def B_slices_IndexFunc_api_ClockReading_api_ClockReading_0 (W : World) (R : Ending → Hp → Prop) (zp0 : Option Addr) (zl1 zl2 : Nat) (zv3 : Value) (zn4 n5 n6 : Int) (nx0 : List Value → Hp → Prop) : Hp → Prop :=
 BR (decide (n6 < zn4))
 (IXS zp0 zl1 n6 3 fun a7 =>
 RDI .i64 (Addr.add a7 0) fun n8 =>
 RDI .i64 (Addr.add a7 1) fun n9 =>
 RDI .i64 (Addr.add a7 2) fun n10 =>
 CALLV Pg W zv3 [(.agg #[(.int .i64 n8), (.int .i64 n9), (.int .i64 n10)])]
 (fun v11 => TYB v11 fun b13 =>
 BR b13
 (R (.returned (.int .i64 n6)))
 (NX [(.slice zp0 zl1 zl2), zv3, (.int .i64 zn4), (.tuple #[])] [(.slice zp0 zl1 zl2), zv3, (.int .i64 zn4), (.tuple #[])] (nx0 [(.int .i64 n5), (.int .i64 (IntKind.wrap .i64 (n6 + 1)))])))
 (fun e12 => R (.panicked e12)))
 (R (.returned (.int .i64 (-1))))
theorem B_slices_IndexFunc_api_ClockReading_api_ClockReading_0_eq (W : World) (R : Ending → Hp → Prop) (zp0 : Option Addr) (zl1 zl2 : Nat) (zv3 : Value) (zn4 n5 n6 : Int) (nx0 : List Value → Hp → Prop) (j : Tm) : vc Pg W 19 rs_112 an_112 false (sub (bodyOf Tryz.f112) [1, 0, 1, 0, 0]) 0 (KLoop [4, 8] [0, 1, 7, 19] [(.slice zp0 zl1 zl2), zv3, (.int .i64 zn4), (.tuple #[])] nx0 (KBlk 0 (KS Pg W 19 rs_112 an_112 false (sub (bodyOf Tryz.f112) [1, 1]) 0 (fin Pg W 19 rv_112 R)))) (known [4, 8] [(.int .i64 n5), (.int .i64 n6)] (known [0, 1, 7, 19] [(.slice zp0 zl1 zl2), zv3, (.int .i64 zn4), (.tuple #[])] j)) = B_slices_IndexFunc_api_ClockReading_api_ClockReading_0 W R zp0 zl1 zl2 zv3 zn4 n5 n6 nx0 := by kernel_rfl
def N_slices_IndexFunc_api_ClockReading_api_ClockReading_0 (I : Int → Int → Hp → Prop) (μ : Int → Int → Hp → Nat) (n50 n60 : Int) (s : Hp) (vs : List Value) : Hp → Prop := fun s' => ∃ n5 n6, vs = [(.int .i64 n5), (.int .i64 n6)] ∧ I n5 n6 s' ∧ μ n5 n6 s' < μ n50 n60 s
theorem L_slices_IndexFunc_api_ClockReading_api_ClockReading_0_rule (W : World) (R : Ending → Hp → Prop) (zp0 : Option Addr) (zl1 zl2 : Nat) (zv3 : Value) (zn4 : Int) (I : Int → Int → Hp → Prop) (μ : Int → Int → Hp → Nat) (n50 n60 : Int) (s : Hp) (h0 : I n50 n60 s)
    (hr : ∀ (n5 : Int) (n6 : Int) (s : Hp), I n5 n6 s → B_slices_IndexFunc_api_ClockReading_api_ClockReading_0 W R zp0 zl1 zl2 zv3 zn4 n5 n6 (fun vs => N_slices_IndexFunc_api_ClockReading_api_ClockReading_0 I μ n5 n6 s vs) s) : L_slices_IndexFunc_api_ClockReading_api_ClockReading_0 W R zp0 zl1 zl2 zv3 zn4 n50 n60 s := by
  refine ⟨fun vs s => ∃ n5 n6, vs = [(.int .i64 n5), (.int .i64 n6)] ∧ I n5 n6 s, fun vs s => (match vs with | [.int _ n5, .int _ n6] => μ n5 n6 s | _ => 0), ⟨⟨⟨_, rfl⟩, ⟨⟨_, rfl⟩, trivial⟩⟩, ⟨_, _, rfl, h0⟩⟩, ?_⟩
  intro n5 n6 s hI j
  obtain ⟨n5', n6', hy, hI⟩ := hI
  have hI' : I n5 n6 s := by cases hy; exact hI
  have hh := hr n5 n6 s hI'
  rw [← B_slices_IndexFunc_api_ClockReading_api_ClockReading_0_eq W R zp0 zl1 zl2 zv3 zn4 n5 n6 _ j] at hh
  refine vc_mono ?_ _ _ hh
  exact KLoop_mono (fun vs s' h => by obtain ⟨n51, n61, rfl, h1, h2⟩ := h; exact ⟨⟨⟨_, rfl⟩, ⟨⟨_, rfl⟩, trivial⟩⟩, ⟨_, _, rfl, h1⟩, h2⟩)
def T_slices_IndexFunc_api_ClockReading_api_ClockReading (W : World) (x1 : Option Addr) (l2 c3 : Nat) (v4 : Value) (R : Ending → Hp → Prop) : Hp → Prop :=
 L_slices_IndexFunc_api_ClockReading_api_ClockReading_0 W R x1 l2 c3 v4 (↑l2 : Int) 0 0
theorem does_slices_IndexFunc_api_ClockReading_api_ClockReading (W : World) (x1 : Option Addr) (l2 c3 : Nat) (v4 : Value) (R : Ending → Hp → Prop) (s : Hp) (h : T_slices_IndexFunc_api_ClockReading_api_ClockReading W x1 l2 c3 v4 R s) : Does Pg W F_slices_IndexFunc_api_ClockReading_api_ClockReading #[(.slice x1 l2 c3), v4] s R :=
  does_of_vfun Pg W an_112 Tryz.func112 rfl (by kernel_rfl) (Eq.mpr (by kernel_rfl) h)
def an_113 : Nat → Ann := fun b => match b with
 | 0 => { ms := [4, 8], ks := [.i .i64, .i .i64], us := [0, 1, 7, 19], rt := false, ex := [] }
 | _ => {}
abbrev rv_113 : List ResultVar := [.tmp 4]
abbrev rs_113 : List Nat := [19, 4]
def L_slices_IndexFunc_api_ClockLink_api_ClockLink_0 (W : World) (R : Ending → Hp → Prop) (zp0 : Option Addr) (zl1 zl2 : Nat) (zv3 : Value) (zn4 n5 n6 : Int) : Hp → Prop :=
 LOOPN [.i .i64, .i .i64] (fun ys next s => ∀ j : Tm, vc Pg W 19 rs_113 an_113 false (sub (bodyOf Tryz.f113) [1, 0, 1, 0, 0]) 0 (KLoop [4, 8] [0, 1, 7, 19] [(.slice zp0 zl1 zl2), zv3, (.int .i64 zn4), (.tuple #[])] next (KBlk 0 (KS Pg W 19 rs_113 an_113 false (sub (bodyOf Tryz.f113) [1, 1]) 0 (fin Pg W 19 rv_113 R)))) (known [4, 8] ys (known [0, 1, 7, 19] [(.slice zp0 zl1 zl2), zv3, (.int .i64 zn4), (.tuple #[])] j)) s) [(.int .i64 n5), (.int .i64 n6)]
def B_slices_IndexFunc_api_ClockLink_api_ClockLink_0 (W : World) (R : Ending → Hp → Prop) (zp0 : Option Addr) (zl1 zl2 : Nat) (zv3 : Value) (zn4 n5 n6 : Int) (nx0 : List Value → Hp → Prop) : Hp → Prop :=
 BR (decide (n6 < zn4))
 (IXS zp0 zl1 n6 4 fun a7 =>
 RDI .i64 (Addr.add a7 0) fun n8 =>
 RDI .i64 (Addr.add a7 1) fun n9 =>
 RDI .i64 (Addr.add a7 2) fun n10 =>
 RDI .i64 (Addr.add a7 3) fun n11 =>
 CALLV Pg W zv3 [(.agg #[(.int .i64 n8), (.int .i64 n9), (.int .i64 n10), (.int .i64 n11)])]
 (fun v12 => TYB v12 fun b14 =>
 BR b14
 (R (.returned (.int .i64 n6)))
 (NX [(.slice zp0 zl1 zl2), zv3, (.int .i64 zn4), (.tuple #[])] [(.slice zp0 zl1 zl2), zv3, (.int .i64 zn4), (.tuple #[])] (nx0 [(.int .i64 n5), (.int .i64 (IntKind.wrap .i64 (n6 + 1)))])))
 (fun e13 => R (.panicked e13)))
 (R (.returned (.int .i64 (-1))))
theorem B_slices_IndexFunc_api_ClockLink_api_ClockLink_0_eq (W : World) (R : Ending → Hp → Prop) (zp0 : Option Addr) (zl1 zl2 : Nat) (zv3 : Value) (zn4 n5 n6 : Int) (nx0 : List Value → Hp → Prop) (j : Tm) : vc Pg W 19 rs_113 an_113 false (sub (bodyOf Tryz.f113) [1, 0, 1, 0, 0]) 0 (KLoop [4, 8] [0, 1, 7, 19] [(.slice zp0 zl1 zl2), zv3, (.int .i64 zn4), (.tuple #[])] nx0 (KBlk 0 (KS Pg W 19 rs_113 an_113 false (sub (bodyOf Tryz.f113) [1, 1]) 0 (fin Pg W 19 rv_113 R)))) (known [4, 8] [(.int .i64 n5), (.int .i64 n6)] (known [0, 1, 7, 19] [(.slice zp0 zl1 zl2), zv3, (.int .i64 zn4), (.tuple #[])] j)) = B_slices_IndexFunc_api_ClockLink_api_ClockLink_0 W R zp0 zl1 zl2 zv3 zn4 n5 n6 nx0 := by kernel_rfl
def N_slices_IndexFunc_api_ClockLink_api_ClockLink_0 (I : Int → Int → Hp → Prop) (μ : Int → Int → Hp → Nat) (n50 n60 : Int) (s : Hp) (vs : List Value) : Hp → Prop := fun s' => ∃ n5 n6, vs = [(.int .i64 n5), (.int .i64 n6)] ∧ I n5 n6 s' ∧ μ n5 n6 s' < μ n50 n60 s
theorem L_slices_IndexFunc_api_ClockLink_api_ClockLink_0_rule (W : World) (R : Ending → Hp → Prop) (zp0 : Option Addr) (zl1 zl2 : Nat) (zv3 : Value) (zn4 : Int) (I : Int → Int → Hp → Prop) (μ : Int → Int → Hp → Nat) (n50 n60 : Int) (s : Hp) (h0 : I n50 n60 s)
    (hr : ∀ (n5 : Int) (n6 : Int) (s : Hp), I n5 n6 s → B_slices_IndexFunc_api_ClockLink_api_ClockLink_0 W R zp0 zl1 zl2 zv3 zn4 n5 n6 (fun vs => N_slices_IndexFunc_api_ClockLink_api_ClockLink_0 I μ n5 n6 s vs) s) : L_slices_IndexFunc_api_ClockLink_api_ClockLink_0 W R zp0 zl1 zl2 zv3 zn4 n50 n60 s := by
  refine ⟨fun vs s => ∃ n5 n6, vs = [(.int .i64 n5), (.int .i64 n6)] ∧ I n5 n6 s, fun vs s => (match vs with | [.int _ n5, .int _ n6] => μ n5 n6 s | _ => 0), ⟨⟨⟨_, rfl⟩, ⟨⟨_, rfl⟩, trivial⟩⟩, ⟨_, _, rfl, h0⟩⟩, ?_⟩
  intro n5 n6 s hI j
  obtain ⟨n5', n6', hy, hI⟩ := hI
  have hI' : I n5 n6 s := by cases hy; exact hI
  have hh := hr n5 n6 s hI'
  rw [← B_slices_IndexFunc_api_ClockLink_api_ClockLink_0_eq W R zp0 zl1 zl2 zv3 zn4 n5 n6 _ j] at hh
  refine vc_mono ?_ _ _ hh
  exact KLoop_mono (fun vs s' h => by obtain ⟨n51, n61, rfl, h1, h2⟩ := h; exact ⟨⟨⟨_, rfl⟩, ⟨⟨_, rfl⟩, trivial⟩⟩, ⟨_, _, rfl, h1⟩, h2⟩)
def T_slices_IndexFunc_api_ClockLink_api_ClockLink (W : World) (x1 : Option Addr) (l2 c3 : Nat) (v4 : Value) (R : Ending → Hp → Prop) : Hp → Prop :=
 L_slices_IndexFunc_api_ClockLink_api_ClockLink_0 W R x1 l2 c3 v4 (↑l2 : Int) 0 0
theorem does_slices_IndexFunc_api_ClockLink_api_ClockLink (W : World) (x1 : Option Addr) (l2 c3 : Nat) (v4 : Value) (R : Ending → Hp → Prop) (s : Hp) (h : T_slices_IndexFunc_api_ClockLink_api_ClockLink W x1 l2 c3 v4 R s) : Does Pg W F_slices_IndexFunc_api_ClockLink_api_ClockLink #[(.slice x1 l2 c3), v4] s R :=
  does_of_vfun Pg W an_113 Tryz.func113 rfl (by kernel_rfl) (Eq.mpr (by kernel_rfl) h)
end Go.Proofs.YtpmldejcdaoljaaGreat.G
namespace Go.Proofs.YtpmldejcdaoljaaGreat.G.Ck
open Go.Proofs.YtpmldejcdaoljaaGreat.G Go.V
theorem zc_26 : zc Pg 93 = [.slice none 0 0, .int .i64 0, .slice none 0 0, .slice none 0 0] := by kernel_rfl
section
variable {W : World} {K : VK} {E : List PanicEntry → Hp → Prop} {s : Hp} {p : Addr} {c : Clk}
theorem idx_find {α : Type} {f : α → Bool} {l : List α} {k : Nat} (hk : k < l.length) (hf : f l[k] = true) : l.any f = true := List.any_eq_true.2 ⟨l[k], List.getElem_mem hk, hf⟩
theorem any_no {α : Type} {f : α → Bool} {l : List α} (h : ∀ i (hi : i < l.length), f l[i] = false) : l.any f = false := by
  rw [List.any_eq_false]
  intro x hx
  obtain ⟨i, hi, rfl⟩ := List.mem_iff_getElem.1 hx
  rw [h i hi]; simp
theorem c_cfW {x : Option Addr} {cap : Nat} {l : List Wt} {v : Value} {f : Wt → Bool} (hl : l.length ≤ 1000000) (hx : WtAt s x l) (hf : ∀ w s1 K E, Ext s s1 → (∀ s2, Ext s1 s2 → K (.bool (f w)) s2) → CALLV Pg W v [.agg #[.int .i64 w.zlo, .int .i64 w.zhi, .int .i64 w.rlo, .int .i64 w.rhi]] K E s1) (h : ∀ s', Ext s s' → K (.bool (l.any f)) s') :
    CALL Pg W F_slices_ContainsFunc_api_ClockWatch_api_ClockWatch [.slice x l.length cap, v] K E s := by
  refine does_slices_ContainsFunc_api_ClockWatch_api_ClockWatch W x _ cap v _ s ?_
  unfold T_slices_ContainsFunc_api_ClockWatch_api_ClockWatch
  refine does_slices_IndexFunc_api_ClockWatch_api_ClockWatch W x _ cap v _ s ?_
  unfold T_slices_IndexFunc_api_ClockWatch_api_ClockWatch
  refine L_slices_IndexFunc_api_ClockWatch_api_ClockWatch_0_rule W _ x _ cap v _ (fun _ n t => Ext s t ∧ ∃ k : Nat, n = k ∧ k ≤ l.length ∧ ∀ i (hi : i < l.length), i < k → f l[i] = false) (fun _ n _ => ((l.length : Int) - n).toNat) 0 0 s ⟨Ext.refl _, 0, rfl, by omega, fun i _ h => by omega⟩ ?_
  rintro n5 n t ⟨et, k, rfl, hk, hno⟩
  unfold B_slices_IndexFunc_api_ClockWatch_api_ClockWatch_0
  refine BR_dec (fun hlt => ?_) (fun hge => ?_)
  · have hkl : k < l.length := by omega
    obtain ⟨a, hx0, g1, g2, g3, g4⟩ := hx.ce (CE.ext et) k hkl
    subst hx0
    refine IXS_nat hkl ⟨_, g1, ⟨_, g2, ⟨_, g3, ⟨_, g4, ?_⟩⟩⟩⟩
    refine hf l[k] t _ _ et fun t2 e2 => ?_
    try simp only [nd_]
    refine BR_bool (fun hb => ?_) (fun hb => ?_)
    · try simp only [nd_]
      have hh := h t2 (et.trans e2)
      rw [idx_find hkl hb] at hh
      have : decide ((k : Int) ≥ 0) = true := decide_eq_true (by omega)
      rw [this]; exact hh
    · try simp only [nd_]
      refine ⟨_, _, rfl, ⟨et.trans e2, k + 1, wrap_succ (by omega), hkl, fun i hi hik => ?_⟩, ms_succ hkl (by omega)⟩
      by_cases e : i = k
      · subst e; exact hb
      · exact hno i hi (by omega)
  · try simp only [nd_]
    have hh := h t et
    rw [any_no fun i hi => hno i hi (by omega)] at hh
    exact hh
theorem c_cfR {x : Option Addr} {cap : Nat} {l : List Rd} {v : Value} {f : Rd → Bool} (hl : l.length ≤ 1000000) (hx : RdAt s x l) (hf : ∀ w s1 K E, Ext s s1 → (∀ s2, Ext s1 s2 → K (.bool (f w)) s2) → CALLV Pg W v [.agg #[.int .i64 w.ev, .int .i64 w.wa, .int .i64 w.sh]] K E s1) (h : ∀ s', Ext s s' → K (.bool (l.any f)) s') :
    CALL Pg W F_slices_ContainsFunc_api_ClockReading_api_ClockReading [.slice x l.length cap, v] K E s := by
  refine does_slices_ContainsFunc_api_ClockReading_api_ClockReading W x _ cap v _ s ?_
  unfold T_slices_ContainsFunc_api_ClockReading_api_ClockReading
  refine does_slices_IndexFunc_api_ClockReading_api_ClockReading W x _ cap v _ s ?_
  unfold T_slices_IndexFunc_api_ClockReading_api_ClockReading
  refine L_slices_IndexFunc_api_ClockReading_api_ClockReading_0_rule W _ x _ cap v _ (fun _ n t => Ext s t ∧ ∃ k : Nat, n = k ∧ k ≤ l.length ∧ ∀ i (hi : i < l.length), i < k → f l[i] = false) (fun _ n _ => ((l.length : Int) - n).toNat) 0 0 s ⟨Ext.refl _, 0, rfl, by omega, fun i _ h => by omega⟩ ?_
  rintro n5 n t ⟨et, k, rfl, hk, hno⟩
  unfold B_slices_IndexFunc_api_ClockReading_api_ClockReading_0
  refine BR_dec (fun hlt => ?_) (fun hge => ?_)
  · have hkl : k < l.length := by omega
    obtain ⟨a, hx0, g1, g2, g3⟩ := hx.ce (CE.ext et) k hkl
    subst hx0
    refine IXS_nat hkl ⟨_, g1, ⟨_, g2, ⟨_, g3, ?_⟩⟩⟩
    refine hf l[k] t _ _ et fun t2 e2 => ?_
    try simp only [nd_]
    refine BR_bool (fun hb => ?_) (fun hb => ?_)
    · try simp only [nd_]
      have hh := h t2 (et.trans e2)
      rw [idx_find hkl hb] at hh
      have : decide ((k : Int) ≥ 0) = true := decide_eq_true (by omega)
      rw [this]; exact hh
    · try simp only [nd_]
      refine ⟨_, _, rfl, ⟨et.trans e2, k + 1, wrap_succ (by omega), hkl, fun i hi hik => ?_⟩, ms_succ hkl (by omega)⟩
      by_cases e : i = k
      · subst e; exact hb
      · exact hno i hi (by omega)
  · try simp only [nd_]
    have hh := h t et
    rw [any_no fun i hi => hno i hi (by omega)] at hh
    exact hh
theorem c_cfL {x : Option Addr} {cap : Nat} {l : List Lk} {v : Value} {f : Lk → Bool} (hl : l.length ≤ 1000000) (hx : LkAt s x l) (hf : ∀ w s1 K E, Ext s s1 → (∀ s2, Ext s1 s2 → K (.bool (f w)) s2) → CALLV Pg W v [.agg #[.int .i64 w.a, .int .i64 w.b, .int .i64 w.lo, .int .i64 w.hi]] K E s1) (h : ∀ s', Ext s s' → K (.bool (l.any f)) s') :
    CALL Pg W F_slices_ContainsFunc_api_ClockLink_api_ClockLink [.slice x l.length cap, v] K E s := by
  refine does_slices_ContainsFunc_api_ClockLink_api_ClockLink W x _ cap v _ s ?_
  unfold T_slices_ContainsFunc_api_ClockLink_api_ClockLink
  refine does_slices_IndexFunc_api_ClockLink_api_ClockLink W x _ cap v _ s ?_
  unfold T_slices_IndexFunc_api_ClockLink_api_ClockLink
  refine L_slices_IndexFunc_api_ClockLink_api_ClockLink_0_rule W _ x _ cap v _ (fun _ n t => Ext s t ∧ ∃ k : Nat, n = k ∧ k ≤ l.length ∧ ∀ i (hi : i < l.length), i < k → f l[i] = false) (fun _ n _ => ((l.length : Int) - n).toNat) 0 0 s ⟨Ext.refl _, 0, rfl, by omega, fun i _ h => by omega⟩ ?_
  rintro n5 n t ⟨et, k, rfl, hk, hno⟩
  unfold B_slices_IndexFunc_api_ClockLink_api_ClockLink_0
  refine BR_dec (fun hlt => ?_) (fun hge => ?_)
  · have hkl : k < l.length := by omega
    obtain ⟨a, hx0, g1, g2, g3, g4⟩ := hx.ce (CE.ext et) k hkl
    subst hx0
    refine IXS_nat hkl ⟨_, g1, ⟨_, g2, ⟨_, g3, ⟨_, g4, ?_⟩⟩⟩⟩
    refine hf l[k] t _ _ et fun t2 e2 => ?_
    try simp only [nd_]
    refine BR_bool (fun hb => ?_) (fun hb => ?_)
    · try simp only [nd_]
      have hh := h t2 (et.trans e2)
      rw [idx_find hkl hb] at hh
      have : decide ((k : Int) ≥ 0) = true := decide_eq_true (by omega)
      rw [this]; exact hh
    · try simp only [nd_]
      refine ⟨_, _, rfl, ⟨et.trans e2, k + 1, wrap_succ (by omega), hkl, fun i hi hik => ?_⟩, ms_succ hkl (by omega)⟩
      by_cases e : i = k
      · subst e; exact hb
      · exact hno i hi (by omega)
  · try simp only [nd_]
    have hh := h t et
    rw [any_no fun i hi => hno i hi (by omega)] at hh
    exact hh
theorem c_isSpan {lo hi low high : Int} (h : ∀ s', Ext s s' → K (.bool (decide (low ≤ lo ∧ lo ≤ hi ∧ hi ≤ high))) s') : CALL Pg W F_clock_isSpan [.agg #[.int .i64 lo, .int .i64 hi], .int .i64 low, .int .i64 high] K E s := by
  refine does_clock_isSpan W lo hi low high _ s ?_
  unfold T_clock_isSpan
  refine ne2 fun s1 e1 z1 o1 o2 => ⟨_, o1.cell, ?_⟩
  have hh := h s1 e1
  refine BR_dec (fun h1 => ⟨_, o1.cell, ⟨_, o2.cell, ?_⟩⟩) (fun h1 => ?_)
  · refine BR_dec (fun h2 => ⟨_, o2.cell, ?_⟩) (fun h2 => ?_)
    · have : decide (low ≤ lo ∧ lo ≤ hi ∧ hi ≤ high) = decide (hi ≤ high) := by simp [h1, h2]
      rw [this] at hh; exact hh
    · have : decide (low ≤ lo ∧ lo ≤ hi ∧ hi ≤ high) = false := by simp [h2]
      rw [this] at hh; exact hh
  · have : decide (low ≤ lo ∧ lo ≤ hi ∧ hi ≤ high) = false := by simp [h1]
    rw [this] at hh; exact hh
theorem c_isEvent {x y z : Option Addr} {l1 l2 l3 c1 c2 c3 : Nat} {n e : Int} (h : ∀ s' b, Ext s s' → (0 ≤ n ∧ n ≤ 5 → b = decide (0 ≤ e ∧ e < n)) → K (.bool b) s') : CALL Pg W F_clock_isEvent [.agg #[.slice x l1 c1, .int .i64 n, .slice y l2 c2, .slice z l3 c3], .int .i64 e] K E s := by
  refine does_clock_isEvent W x l1 c1 n y l2 c2 z l3 c3 e _ s ?_
  unfold T_clock_isEvent
  refine ne4 fun s1 e1 z1 o1 o2 o3 o4 => ⟨_, o2.cell, ?_⟩
  refine c_within ?_
  try simp only [nd_]
  refine h s1 _ e1 fun hn => ?_
  rw [wrap_i64 (n := n - 1) (by omega) (by omega)]
  congr 1; apply propext; omega
theorem c_isWatch {x y z : Option Addr} {l1 l2 l3 c1 c2 c3 : Nat} {n e : Int} (hn : l1 ≤ 1000000000) (h : ∀ s', Ext s s' → K (.bool (decide (0 ≤ e ∧ e < l1))) s') : CALL Pg W F_clock_isWatch [.agg #[.slice x l1 c1, .int .i64 n, .slice y l2 c2, .slice z l3 c3], .int .i64 e] K E s := by
  refine does_clock_isWatch W x l1 c1 n y l2 c2 z l3 c3 e _ s ?_
  unfold T_clock_isWatch
  refine ne4 fun s1 e1 z1 o1 o2 o3 o4 => ⟨_, _, _, o1.cell, ?_⟩
  dsimp only
  rw [wrap_i64 (by omega) (by omega)]
  refine c_within ?_
  try simp only [nd_]
  have : decide (0 ≤ e ∧ e ≤ (l1 : Int) - 1) = decide (0 ≤ e ∧ e < l1) := by congr 1; apply propext; omega
  rw [this]; exact h s1 e1
theorem c_badW {w : Wt} (h : ∀ s', Ext s s' → K (.bool (badW w)) s') : CALLV Pg W (.func (.func 98) #[] #[]) [.agg #[.int .i64 w.zlo, .int .i64 w.zhi, .int .i64 w.rlo, .int .i64 w.rhi]] K E s := by
  refine CALLV_func ?_
  refine does_clock_isClock_c1 W _ _ _ _ _ s ?_
  unfold T_clock_isClock_c1
  refine ne4 fun s1 e1 z1 o1 o2 o3 o4 => ⟨_, o1.cell, ⟨_, o2.cell, ?_⟩⟩
  refine c_isSpan fun s2 e2 => ?_
  try simp only [nd_]
  have e12 := e1.trans e2
  have hJ : ∀ b s3, Ext s2 s3 → b = decide (0 ≤ w.zlo ∧ w.zlo ≤ w.zhi ∧ w.zhi ≤ 1000 ∧ w.zhi - w.zlo ≤ 6) → J_clock_isClock_c1_0 W (endK K E) b s.size s3 := by
    intro b s3 e3 hb
    have e13 := e2.trans e3
    unfold J_clock_isClock_c1_0
    refine BR_not (fun hf => ?_) (fun ht => ?_)
    · have hh := h s3 (e12.trans e3)
      have : badW w = true := by unfold badW; rw [← hb, hf]; rfl
      rw [this] at hh; exact hh
    · refine ⟨_, (e13.own o3).cell, ⟨_, (e13.own o4).cell, ?_⟩⟩
      refine c_isSpan fun s4 e4 => ?_
      try simp only [nd_]
      have e14 := e13.trans e4
      refine BR_not (fun hf => ?_) (fun ht2 => ?_)
      · have hh := h s4 (e1.trans e14)
        have : badW w = true := by unfold badW; rw [hf]; simp
        rw [this] at hh; exact hh
      · refine ⟨_, (e14.own o4).cell, ⟨_, (e14.own o3).cell, ?_⟩⟩
        have hr := of_decide_eq_true ht2
        have hh := h s4 (e1.trans e14)
        have : badW w = decide (IntKind.i64.wrap (w.rhi - w.rlo) > 4) := by
          unfold badW
          rw [← hb, ht, ht2, wrap_i64 (by omega) (by omega)]
          rfl
        rw [this] at hh; exact hh
  refine BR_bool (fun hb => ?_) (fun hb => ?_)
  · have hz := of_decide_eq_true hb
    refine ⟨_, (e2.own o2).cell, ⟨_, (e2.own o1).cell, ?_⟩⟩
    refine hJ _ s2 (Ext.refl _) ?_
    rw [wrap_i64 (by omega) (by omega)]
    congr 1; apply propext; omega
  · refine hJ false s2 (Ext.refl _) ?_
    have hz := of_decide_eq_false hb
    exact (decide_eq_false (by omega)).symm
theorem c_badR {w : Rd} {a : Addr} (hc : ClA s a c) (hs : sizesC c = true) (h : ∀ s', Ext s s' → K (.bool (badR c w)) s') : CALLV Pg W (.func (.func 100) #[] #[.pointer (some a)]) [.agg #[.int .i64 w.ev, .int .i64 w.wa, .int .i64 w.sh]] K E s := by
  refine CALLV_func ?_
  refine does_clock_isClock_c2 W _ _ _ a _ s ?_
  unfold T_clock_isClock_c2
  have hsz := of_decide_eq_true hs
  refine NEW_rule fun s1 e1 z1 n1 _ => ?_
  have o1 := n1 0 _ rfl
  have o2 := n1 1 _ rfl
  have o3 := n1 2 _ rfl
  obtain ⟨x1, cp1, g1, _⟩ := hc.ws
  obtain ⟨x2, cp2, g2, _⟩ := hc.rs
  obtain ⟨x3, cp3, g3, _⟩ := hc.ls
  refine ⟨_, _, _, e1.cell g1, ⟨_, e1.cell hc.n, ⟨_, _, _, e1.cell g2, ⟨_, _, _, e1.cell g3, ⟨_, o1.cell, ?_⟩⟩⟩⟩⟩
  refine c_isEvent fun s2 b e2 hb => ?_
  try simp only [nd_]
  have hb' := hb ⟨hsz.2.1, hsz.2.2.1⟩
  have e12 := e1.trans e2
  have hJ : ∀ b s3, Ext s2 s3 → b = (!(decide (0 ≤ w.ev ∧ w.ev < c.n)) || !(decide (0 ≤ w.wa ∧ w.wa < c.ws.length))) → J_clock_isClock_c2_0 W (endK K E) b s.size s3 := by
    intro b s3 e3 hb3
    have e13 := e2.trans e3
    unfold J_clock_isClock_c2_0
    refine BR_bool (fun ht => ?_) (fun hf => ?_)
    · have hh := h s3 (e12.trans e3)
      have : badR c w = true := by unfold badR; rw [← hb3, ht]; rfl
      rw [this] at hh; exact hh
    · refine ⟨_, (e13.own o3).cell, ?_⟩
      refine c_within ?_
      try simp only [nd_]
      have hh := h s3 (e12.trans e3)
      have : badR c w = !(decide (0 ≤ w.sh ∧ w.sh ≤ 2000)) := by unfold badR; rw [← hb3, hf]; rfl
      rw [this] at hh; exact hh
  refine BR_not (fun hf => ?_) (fun ht => ?_)
  · refine hJ true s2 (Ext.refl _) ?_
    rw [← hb', hf]; rfl
  · refine ⟨_, _, _, e12.cell g1, ⟨_, e12.cell hc.n, ⟨_, _, _, e12.cell g2, ⟨_, _, _, e12.cell g3, ⟨_, (e2.own o2).cell, ?_⟩⟩⟩⟩⟩
    refine c_isWatch (by omega) fun s3 e3 => ?_
    try simp only [nd_]
    refine hJ _ s3 e3 ?_
    rw [← hb', ht]; rfl
theorem c_badL {w : Lk} {a : Addr} (hc : ClA s a c) (hs : sizesC c = true) (h : ∀ s', Ext s s' → K (.bool (badL c w)) s') : CALLV Pg W (.func (.func 102) #[] #[.pointer (some a)]) [.agg #[.int .i64 w.a, .int .i64 w.b, .int .i64 w.lo, .int .i64 w.hi]] K E s := by
  refine CALLV_func ?_
  refine does_clock_isClock_c3 W _ _ _ _ a _ s ?_
  unfold T_clock_isClock_c3
  have hsz := of_decide_eq_true hs
  refine ne4 fun s1 e1 z1 o1 o2 o3 o4 => ?_
  obtain ⟨x1, cp1, g1, _⟩ := hc.ws
  obtain ⟨x2, cp2, g2, _⟩ := hc.rs
  obtain ⟨x3, cp3, g3, _⟩ := hc.ls
  refine ⟨_, _, _, e1.cell g1, ⟨_, e1.cell hc.n, ⟨_, _, _, e1.cell g2, ⟨_, _, _, e1.cell g3, ⟨_, o1.cell, ?_⟩⟩⟩⟩⟩
  refine c_isEvent fun s2 b e2 hb => ?_
  try simp only [nd_]
  have hb' := hb ⟨hsz.2.1, hsz.2.2.1⟩
  have e12 := e1.trans e2
  have hJ0 : ∀ b s3, Ext s2 s3 → b = (!(decide (0 ≤ w.a ∧ w.a < c.n)) || !(decide (0 ≤ w.b ∧ w.b < c.n)) || decide (w.a = w.b)) → J_clock_isClock_c3_0 W (endK K E) b s.size s3 := by
    intro b s3 e3 hb3
    have e13 := e2.trans e3
    unfold J_clock_isClock_c3_0
    refine BR_bool (fun ht => ?_) (fun hf => ?_)
    · have hh := h s3 (e12.trans e3)
      have : badL c w = true := by unfold badL; rw [← hb3, ht]; rfl
      rw [this] at hh; exact hh
    · refine ⟨_, (e13.own o3).cell, ⟨_, (e13.own o4).cell, ?_⟩⟩
      refine c_isSpan fun s4 e4 => ?_
      try simp only [nd_]
      have hh := h s4 ((e12.trans e3).trans e4)
      have : badL c w = !(decide (-600 ≤ w.lo ∧ w.lo ≤ w.hi ∧ w.hi ≤ 600)) := by unfold badL; rw [← hb3, hf]; rfl
      rw [this] at hh; exact hh
  have hJ : ∀ b s3, Ext s2 s3 → b = (!(decide (0 ≤ w.a ∧ w.a < c.n)) || !(decide (0 ≤ w.b ∧ w.b < c.n))) → J_clock_isClock_c3_1 W (endK K E) b s.size s3 := by
    intro b s3 e3 hb3
    have e13 := e2.trans e3
    unfold J_clock_isClock_c3_1
    refine BR_bool (fun ht => ?_) (fun hf => ?_)
    · refine hJ0 true s3 e3 ?_
      rw [← hb3, ht]; rfl
    · refine ⟨_, (e13.own o1).cell, ⟨_, (e13.own o2).cell, ?_⟩⟩
      refine hJ0 _ s3 e3 ?_
      rw [← hb3, hf]
      by_cases e : w.a = w.b <;> simp [e]
  refine BR_not (fun hf => ?_) (fun ht => ?_)
  · refine hJ true s2 (Ext.refl _) ?_
    rw [← hb', hf]; rfl
  · refine ⟨_, _, _, e12.cell g1, ⟨_, e12.cell hc.n, ⟨_, _, _, e12.cell g2, ⟨_, _, _, e12.cell g3, ⟨_, (e2.own o2).cell, ?_⟩⟩⟩⟩⟩
    refine c_isEvent fun s3 b3 e3 hb3 => ?_
    try simp only [nd_]
    refine hJ _ s3 e3 ?_
    rw [← hb', ht, hb3 ⟨hsz.2.1, hsz.2.2.1⟩]; rfl
def clkV (c : Clk) (x y z : Option Addr) (c1 c2 c3 : Nat) : Value := .agg #[.slice x c.ws.length c1, .int .i64 c.n, .slice y c.rs.length c2, .slice z c.ls.length c3]
structure ClV (s : Hp) (c : Clk) (x y z : Option Addr) : Prop where
  ws : WtAt s x c.ws
  rs : RdAt s y c.rs
  ls : LkAt s z c.ls
theorem ClV.ce {s s' : Hp} {x y z : Option Addr} (e : CE s s') (h : ClV s c x y z) : ClV s' c x y z := ⟨h.ws.ce e, h.rs.ce e, h.ls.ce e⟩
theorem ClV.ext {s s' : Hp} {x y z : Option Addr} (e : Ext s s') (h : ClV s c x y z) : ClV s' c x y z := h.ce (CE.ext e)
theorem c_isClock {x y z : Option Addr} {c1 c2 c3 : Nat} (hc : ClV s c x y z) (h : ∀ s', Ext s s' → K (.bool (okC c)) s') : CALL Pg W F_clock_isClock [clkV c x y z c1 c2 c3] K E s := by
  unfold clkV
  refine does_clock_isClock W x _ c1 c.n y _ c2 z _ c3 _ s ?_
  unfold T_clock_isClock
  refine ne4 fun s1 e1 z1 o1 o2 o3 o4 => ⟨_, _, _, o1.cell, ?_⟩
  have hA : ∀ t, Ext s1 t → ClA t ⟨s.size, 0, none⟩ c := fun t e => ⟨⟨x, c1, (e.own o1).cell, hc.ws.ce (CE.ext (e1.trans e))⟩, (e.own o2).cell, ⟨y, c2, (e.own o3).cell, hc.rs.ce (CE.ext (e1.trans e))⟩, ⟨z, c3, (e.own o4).cell, hc.ls.ce (CE.ext (e1.trans e))⟩⟩
  have hJ0 : ∀ b t, Ext s1 t → b = (sizesC c && !(c.ws.any badW) && !(c.rs.any (badR c))) → J_clock_isClock_0 W (endK K E) b s.size t := by
    intro b t et hb
    unfold J_clock_isClock_0
    refine BR_bool (fun ht => ?_) (fun hf => ?_)
    · have hs : sizesC c = true := by rw [ht] at hb; revert hb; cases sizesC c <;> simp
      have hsz := of_decide_eq_true hs
      refine ⟨_, _, _, (et.own o4).cell, ?_⟩
      refine c_cfL (f := badL c) (by omega) (hc.ls.ce (CE.ext (e1.trans et))) (fun w s2 K' E' e2 h' => c_badL (hA s2 (et.trans e2)) hs h') fun t2 e2 => ?_
      try simp only [nd_]
      have hh := h t2 ((e1.trans et).trans e2)
      have : okC c = !(c.ls.any (badL c)) := by unfold okC; rw [← hb, ht]; rfl
      rw [this] at hh; exact hh
    · have hh := h t (e1.trans et)
      have : okC c = false := by unfold okC; rw [← hb, hf]; rfl
      rw [this] at hh; exact hh
  have hJ1 : ∀ b t, Ext s1 t → b = (sizesC c && !(c.ws.any badW)) → J_clock_isClock_1 W (endK K E) b s.size t := by
    intro b t et hb
    unfold J_clock_isClock_1
    refine BR_bool (fun ht => ?_) (fun hf => ?_)
    · have hs : sizesC c = true := by rw [ht] at hb; revert hb; cases sizesC c <;> simp
      have hsz := of_decide_eq_true hs
      refine ⟨_, _, _, (et.own o3).cell, ?_⟩
      refine c_cfR (f := badR c) (by omega) (hc.rs.ce (CE.ext (e1.trans et))) (fun w s2 K' E' e2 h' => c_badR (hA s2 (et.trans e2)) hs h') fun t2 e2 => ?_
      try simp only [nd_]
      refine hJ0 _ t2 (et.trans e2) ?_
      rw [← hb, ht]; rfl
    · refine hJ0 false t et ?_
      rw [← hb, hf]; rfl
  have hJ2 : ∀ b t, Ext s1 t → b = sizesC c → J_clock_isClock_2 W (endK K E) b s.size t := by
    intro b t et hb
    unfold J_clock_isClock_2
    refine BR_bool (fun ht => ?_) (fun hf => ?_)
    · have hs : sizesC c = true := by rw [← hb, ht]
      have hsz := of_decide_eq_true hs
      refine ⟨_, _, _, (et.own o1).cell, ?_⟩
      refine c_cfW (f := badW) (by omega) (hc.ws.ce (CE.ext (e1.trans et))) (fun w s2 K' E' e2 h' => c_badW h') fun t2 e2 => ?_
      try simp only [nd_]
      refine hJ1 _ t2 (et.trans e2) ?_
      rw [← hb, ht]; rfl
    · refine hJ1 false t et ?_
      rw [← hb, hf]; rfl
  have hJ4 : ∀ b t, Ext s1 t → b = decide (c.ws.length ≤ 2 ∧ 0 ≤ c.n ∧ c.n ≤ 5) → J_clock_isClock_4 W (endK K E) b s.size t := by
    intro b t et hb
    unfold J_clock_isClock_4
    have hJ3 : ∀ b2, b2 = decide (c.ws.length ≤ 2 ∧ 0 ≤ c.n ∧ c.n ≤ 5 ∧ c.rs.length ≤ 8) → J_clock_isClock_3 W (endK K E) b2 s.size t := by
      intro b2 hb2
      unfold J_clock_isClock_3
      refine BR_bool (fun ht => ?_) (fun hf => ?_)
      · rw [ht] at hb2
        have h4 := of_decide_eq_true hb2.symm
        refine ⟨_, _, _, (et.own o4).cell, ?_⟩
        refine hJ2 _ t et ?_
        unfold sizesC
        congr 1; apply propext; omega
      · rw [hf] at hb2
        have h4 := of_decide_eq_false hb2.symm
        refine hJ2 false t et ?_
        unfold sizesC
        exact (decide_eq_false (by omega)).symm
    refine BR_bool (fun ht => ?_) (fun hf => ?_)
    · rw [ht] at hb
      have h4 := of_decide_eq_true hb.symm
      refine ⟨_, _, _, (et.own o3).cell, ?_⟩
      refine hJ3 _ ?_
      congr 1; apply propext; omega
    · rw [hf] at hb
      have h4 := of_decide_eq_false hb.symm
      refine hJ3 false ?_
      exact (decide_eq_false (by omega)).symm
  refine BR_dec (fun h1 => ?_) (fun h1 => ?_)
  · refine ⟨_, o2.cell, ?_⟩
    refine c_within ?_
    try simp only [nd_]
    refine hJ4 _ s1 (Ext.refl _) ?_
    congr 1; apply propext; omega
  · refine hJ4 false s1 (Ext.refl _) ?_
    exact (decide_eq_false (by omega)).symm
theorem c_open {x y z : Option Addr} {c1 c2 c3 : Nat} {is : Bool} (hc : ClV s c x y z) (h0 : ∀ s', Ext s s' → okC c = false → E (pn 1) s') (h1 : ∀ s', Ext s s' → okC c = true → is = false → E (pn 2) s') (h : ∀ s' b, Ext s s' → is = true → s.size ≤ b → ClO s' ⟨b, 0, none⟩ c → K (.pointer (some ⟨b, 0, none⟩)) s') : CALL Pg W F_clock_open [clkV c x y z c1 c2 c3, .bool is] K E s := by
  unfold clkV
  refine does_clock_open W x _ c1 c.n y _ c2 z _ c3 is _ s ?_
  unfold T_clock_open
  refine ne4 fun s1 e1 z1 o1 o2 o3 o4 => ⟨_, _, _, o1.cell, ⟨_, o2.cell, ⟨_, _, _, o3.cell, ⟨_, _, _, o4.cell, ?_⟩⟩⟩⟩
  refine c_isClock (hc.ext e1) fun s2 e2 => ?_
  try simp only [nd_]
  have e12 := e1.trans e2
  refine c_need (fun hok => ?_) (fun hok => h0 s2 e12 hok)
  try simp only [nd_]
  refine c_need (fun his => ?_) (fun his => h1 s2 e12 hok his)
  try simp only [nd_]
  refine ⟨_, _, _, (e2.own o1).cell, ⟨_, (e2.own o2).cell, ⟨_, _, _, (e2.own o3).cell, ⟨_, _, _, (e2.own o4).cell, ?_⟩⟩⟩⟩
  refine ne4 fun s3 e3 z3 q1 q2 q3 q4 => ?_
  have hcv := hc.ext (e12.trans e3)
  exact h s3 s2.size (e12.trans e3) his e12.1 ⟨⟨⟨x, c1, q1.cell, hcv.ws⟩, q2.cell, ⟨y, c2, q3.cell, hcv.rs⟩, ⟨z, c3, q4.cell, hcv.ls⟩⟩, okC_iff.1 hok⟩
end
open Go.Proofs.YtpmldejcdaoljaaGreat.G Go.V
def QR (c : Clk) (is : Bool) (val : List Go' → (Int → Int) → Int) (lo hi err : Int) : Prop :=
  (okC c = false ∧ lo = 0 ∧ hi = 0 ∧ err = 1) ∨ (okC c = true ∧ is = false ∧ lo = 0 ∧ hi = 0 ∧ err = 2) ∨ (okC c = true ∧ is = true ∧ ¬ CanC c (everyN c) ∧ lo = 0 ∧ hi = 0 ∧ err = 10) ∨
    (okC c = true ∧ is = true ∧ CanC c (everyN c) ∧ SpanC c (everyN c) val lo hi ∧ err = 0)
theorem SpanC.can {c : Clk} {S : Nat} {val : List Go' → (Int → Int) → Int} {lo hi : Int} (h : SpanC c S val lo hi) : CanC c S := by
  obtain ⟨⟨g, m, h, _⟩, _⟩ := h
  exact ⟨g, m, h⟩
section
variable {W : World} {K : VK} {E : List PanicEntry → Hp → Prop} {s : Hp} {c : Clk} {x y z : Option Addr} {c1 c2 c3 : Nat}
theorem ok_n (h : okC c = true) : 0 ≤ c.n ∧ c.n ≤ 5 := by have := okC_iff.1 h; exact ⟨this.n0, this.n5⟩
theorem fail2 {f : FuncId} {b15 b14 : Nat} {e : Int} {t : Hp} {R : Int → Int → Int → Hp → Prop} (hf : isTold f) (hs : Ext s t) (h15 : s.size ≤ b15) (hne : b14 ≠ b15) (o15 : Own t ⟨b15, 0, none⟩ (.int .i64 0)) (o14 : Own t ⟨b14, 0, none⟩ (.int .i64 0)) (o14' : Own t ⟨b14, 1, none⟩ (.int .i64 0)) (h : ∀ s', Ext s s' → R 0 0 e s') :
    DEF Pg W (.tuple #[(.func (.func f) #[] #[(.pointer (some ⟨b15, 0, none⟩))]), (.tuple #[])]) (some (pn e)) (RDI .i64 (Addr.add ⟨b14, 0, none⟩ 0) fun n69 => RDI .i64 (Addr.add ⟨b14, 0, none⟩ 1) fun n70 => RDI .i64 ⟨b15, 0, none⟩ fun n71 => R n69 n70 n71) t := by
  refine def_some hf o15 fun s' k o => ?_
  refine ⟨_, (k.own hne o14).cell, ⟨_, (k.own hne o14').cell, ⟨_, o.cell, ?_⟩⟩⟩
  exact h s' (kp_nil hs (fun b hb => by have : b = b15 := hb; omega) k)
theorem done2 {f : FuncId} {b15 b14 : Nat} {lo hi : Int} {t : Hp} {R : Int → Int → Int → Hp → Prop} (hf : isTold f) (hs : Ext s t) (h15 : s.size ≤ b15) (h14 : s.size ≤ b14) (hne : b14 ≠ b15) (o15 : Own t ⟨b15, 0, none⟩ (.int .i64 0)) (o14 : Own t ⟨b14, 0, none⟩ (.int .i64 0)) (o14' : Own t ⟨b14, 1, none⟩ (.int .i64 0)) (h : ∀ s', Ext s s' → R lo hi 0 s') :
    (WR (Addr.add ⟨b14, 0, none⟩ 0) (.int .i64 lo) <| WR (Addr.add ⟨b14, 0, none⟩ 1) (.int .i64 hi) <| WR (Addr.add ⟨b15, 0, none⟩ 0) (.int .i64 0) <|
      DEF Pg W (.tuple #[(.func (.func f) #[] #[(.pointer (some ⟨b15, 0, none⟩))]), (.tuple #[])]) none (RDI .i64 (Addr.add ⟨b14, 0, none⟩ 0) fun n69 => RDI .i64 (Addr.add ⟨b14, 0, none⟩ 1) fun n70 => RDI .i64 ⟨b15, 0, none⟩ fun n71 => R n69 n70 n71)) t := by
  refine wrB o14 o14' rfl rfl fun t1 k1 z1 q1 q2 => ?_
  have hne' : ¬ b15 = b14 := fun h => hne h.symm
  refine wr1 (a := ⟨b15, 0, none⟩) (k1.own hne' o15) rfl fun t2 k2 z2 w => ?_
  refine def_none hf ?_
  have hn : ¬ b14 = b15 := hne
  refine ⟨_, (k2.own hn q1).cell, ⟨_, (k2.own hn q2).cell, ⟨_, w.cell, ?_⟩⟩⟩
  exact h t2 (kp_nil (kp_nil hs (fun b hb => by have : b = b14 := hb; omega) k1) (fun b hb => by have : b = b15 := hb; omega) k2)
theorem c_Lasted {u v : Int} (hc : ClV s c x y z) (h : ∀ s' lo hi err, Ext s s' → QR c (decide (0 ≤ u ∧ u < c.n) && decide (0 ≤ v ∧ v < c.n)) (laterV u v) lo hi err → K (.tuple #[.agg #[.int .i64 lo, .int .i64 hi], .int .i64 err]) s') : CALL Pg W F_clock_Lasted [clkV c x y z c1 c2 c3, .int .i64 u, .int .i64 v] K E s := by
  unfold clkV
  refine does_clock_Lasted W x _ c1 c.n y _ c2 z _ c3 u v _ s ?_
  unfold T_clock_Lasted
  refine ne4 fun s1 e1 z1 o1 o2 o3 o4 => ?_
  refine ne1 fun s2 e2 z2 p1 => ?_
  refine ne1 fun s2' e2' z2' p2 => ?_
  refine nz2 zc_34 fun s3 e3 z3 a1 a2 => ?_
  refine nz1 zc_29 fun s4 e4 z4 er => ?_
  refine nw1 zc_96 ?_ fun s5 e5 z5 qv => ?_
  · rfl
  have e35 := (e3.trans e4).trans e5
  have e225 := e2'.trans e35
  have e25 := e2.trans e225
  have e05 := e1.trans e25
  have isv : isTold 60 := rfl
  refine ⟨_, _, _, (e25.own o1).cell, ⟨_, (e25.own o2).cell, ⟨_, _, _, (e25.own o3).cell, ⟨_, _, _, (e25.own o4).cell, ⟨_, _, _, (e25.own o1).cell, ⟨_, (e25.own o2).cell, ⟨_, _, _, (e25.own o3).cell, ⟨_, _, _, (e25.own o4).cell, ⟨_, (e225.own p1).cell, ⟨_, qv.cell, ?_⟩⟩⟩⟩⟩⟩⟩⟩⟩⟩
  refine c_isEvent fun s6 b1 e6 hb1 => ?_
  try simp only [nd_]
  have e26 := e25.trans e6
  refine ANDS_i ⟨_, (e6.own qv).cell, rfl⟩ (ANDS_i ⟨_, _, _, (e26.own o1).cell, ⟨_, (e26.own o2).cell, ⟨_, _, _, (e26.own o3).cell, ⟨_, _, _, (e26.own o4).cell, rfl⟩⟩⟩⟩ ?_)
  have e06 := e05.trans e6
  have own15 : ∀ t, Ext s6 t → Own t ⟨s3.size, 0, none⟩ (.int .i64 0) := fun t f => ((e5.trans e6).trans f).own er
  have own14 : ∀ t, Ext s6 t → Own t ⟨s2'.size, 0, none⟩ (.int .i64 0) := fun t f => (((e4.trans e5).trans e6).trans f).own a1
  have own14' : ∀ t, Ext s6 t → Own t ⟨s2'.size, 1, none⟩ (.int .i64 0) := fun t f => (((e4.trans e5).trans e6).trans f).own a2
  have hJ : ∀ b s7, Ext s6 s7 → (0 ≤ c.n ∧ c.n ≤ 5 → b = (decide (0 ≤ u ∧ u < c.n) && decide (0 ≤ v ∧ v < c.n))) → J_clock_Lasted_0 W (endK K E) x c.ws.length c1 c.n y c.rs.length c2 z c.ls.length c3 b s4.size (.func (.func 62) #[] #[.pointer (some ⟨s1.size, 0, none⟩), .pointer (some ⟨s2.size, 0, none⟩)]) s2'.size s3.size s7 := by
    intro b s7 e7 hb
    unfold J_clock_Lasted_0
    refine c_open (hc.ext (e06.trans e7)) (fun t f hok => ?_) (fun t f hok his => ?_) fun t b' f his hb' hcl => ?_
    · exact fail2 (R := fun a b d => K (.tuple #[.agg #[.int .i64 a, .int .i64 b], .int .i64 d])) isv ((e06.trans e7).trans f) (by omega) (by omega) (own15 t (e7.trans f)) (own14 t (e7.trans f)) (own14' t (e7.trans f)) fun s' es => h s' 0 0 1 es (.inl ⟨hok, rfl, rfl, rfl⟩)
    · exact fail2 (R := fun a b d => K (.tuple #[.agg #[.int .i64 a, .int .i64 b], .int .i64 d])) isv ((e06.trans e7).trans f) (by omega) (by omega) (own15 t (e7.trans f)) (own14 t (e7.trans f)) (own14' t (e7.trans f)) fun s' es => h s' 0 0 2 es (.inr (.inl ⟨hok, by rw [← hb (ok_n hok)]; exact his, rfl, rfl, rfl⟩))
    · try simp only [nd_]
      have hok : okC c = true := okC_iff.2 hcl.ok
      have hbe := hb (ok_n hok)
      rw [his] at hbe
      have hev := hbe.symm
      simp only [Bool.and_eq_true, decide_eq_true_eq] at hev
      refine ANDS_i ⟨_, (((e6.trans e7).trans f).own qv).cell, rfl⟩ ?_
      have e3t := ((e35.trans e6).trans e7).trans f
      have e2t := e2'.trans e3t
      refine c_ask hcl (q_lasted (a := ⟨s1.size, 0, none⟩) (b := ⟨s2.size, 0, none⟩) hcl.ok hev.1 hev.2) ⟨(e2t.own p1).cell, (e3t.own p2).cell⟩ (fun u1 u2 D hq eu k hD => ⟨k.cell (fun hd => by have := hD _ hd; have : t.size ≤ s1.size := this; have := e3t.1; omega) hq.1, k.cell (fun hd => by have := hD _ hd; have : t.size ≤ s2.size := this; have := e3t.1; omega) hq.2⟩) (fun t2 f2 hno => ?_) (fun t2 lo hi f2 hsp => ?_)
      · exact fail2 (R := fun a b d => K (.tuple #[.agg #[.int .i64 a, .int .i64 b], .int .i64 d])) isv (((e06.trans e7).trans f).trans f2) (by omega) (by omega) (own15 t2 ((e7.trans f).trans f2)) (own14 t2 ((e7.trans f).trans f2)) (own14' t2 ((e7.trans f).trans f2)) fun s' es => h s' 0 0 10 es (.inr (.inr (.inl ⟨hok, hbe.symm, hno, rfl, rfl, rfl⟩)))
      · try simp only [nd_]
        exact done2 (R := fun a b d => K (.tuple #[.agg #[.int .i64 a, .int .i64 b], .int .i64 d])) isv (((e06.trans e7).trans f).trans f2) (by omega) (by omega) (by omega) (own15 t2 ((e7.trans f).trans f2)) (own14 t2 ((e7.trans f).trans f2)) (own14' t2 ((e7.trans f).trans f2)) fun s' es => h s' lo hi 0 es (.inr (.inr (.inr ⟨hok, hbe.symm, hsp.can, hsp, rfl⟩)))
  refine BR_bool (fun hbt => ?_) (fun hbf => ?_)
  · refine ⟨_, _, _, (e26.own o1).cell, ⟨_, (e26.own o2).cell, ⟨_, _, _, (e26.own o3).cell, ⟨_, _, _, (e26.own o4).cell, ⟨_, ((e35.trans e6).own p2).cell, ?_⟩⟩⟩⟩⟩
    refine c_isEvent fun s7 b7 e7 hb7 => ?_
    try simp only [nd_]
    have e27 := e26.trans e7
    refine ANDS_i ⟨_, ((e6.trans e7).own qv).cell, rfl⟩ (ANDS_i ⟨_, _, _, (e27.own o1).cell, ⟨_, (e27.own o2).cell, ⟨_, _, _, (e27.own o3).cell, ⟨_, _, _, (e27.own o4).cell, rfl⟩⟩⟩⟩ ?_)
    refine hJ b7 s7 e7 fun hn => ?_
    rw [hb7 hn, ← hb1 hn, hbt]; rfl
  · refine hJ false s6 (Ext.refl _) fun hn => ?_
    rw [← hb1 hn, hbf]; rfl
end
open Go.Proofs.YtpmldejcdaoljaaGreat.G Go.V
def CL (last : Int) : Clk := ⟨[⟨0, 0, 1000, 1000⟩, ⟨5, 6, 998, 1002⟩], 3, [⟨0, 0, 10⟩, ⟨1, 1, 66⟩, ⟨2, 0, 130⟩, ⟨2, 1, last⟩], [⟨0, 1, 40, 60⟩, ⟨1, 2, 60, 70⟩]⟩
theorem cl_ok : okC (CL 136) = true ∧ okC (CL 140) = true := by decide
theorem cl_goes {l : Int} {g : List Go'} (h : GoesOk (CL l).ws g) : ∃ z r, g = [(0, 1000), (z, r)] ∧ (z = 5 ∨ z = 6) ∧ (r = 998 ∨ r = 999 ∨ r = 1000 ∨ r = 1001 ∨ r = 1002) := by
  cases h with
  | cons h t =>
    rename_i g0 gs
    cases t with
    | cons h2 t2 =>
      rename_i g1 gs2
      cases t2
      obtain ⟨a, b⟩ := g0
      obtain ⟨z, r⟩ := g1
      obtain ⟨x1, x2, x3, x4⟩ := h
      obtain ⟨y1, y2, y3, y4⟩ := h2
      simp only at x1 x2 x3 x4 y1 y2 y3 y4
      have e1 : a = 0 := by omega
      have e2 : b = 1000 := by omega
      subst e1; subst e2
      exact ⟨z, r, rfl, by omega, by omega⟩
theorem cl_mk {l z r : Int} (hz : z = 5 ∨ z = 6) (hr : 998 ≤ r ∧ r ≤ 1002) : GoesOk (CL l).ws [(0, 1000), (z, r)] :=
  .cons ⟨by decide, by decide, by decide, by decide⟩ (.cons ⟨by show 5 ≤ z; omega, by show z ≤ 6; omega, hr.1, hr.2⟩ .nil)
theorem cl_truth {l : Int} {S : Nat} {g : List Go'} {m : Int → Int} (h : Truth (CL l) S g m) : ∃ z r, g = [(0, 1000), (z, r)] ∧ (z = 5 ∨ z = 6) ∧ (r = 998 ∨ r = 999 ∨ r = 1000 ∨ r = 1001 ∨ r = 1002) ∧
    (0 ≤ m 0 ∧ m 0 ≤ 600) ∧ (0 ≤ m 1 ∧ m 1 ≤ 600) ∧ (0 ≤ m 2 ∧ m 2 ≤ 600) ∧ (S.testBit 0 = true → m 0 = 10) ∧ (S.testBit 1 = true → z + m 1 * r / 1000 = 66) ∧ (S.testBit 2 = true → m 2 = 130) ∧ (S.testBit 3 = true → z + m 2 * r / 1000 = l) ∧
    (40 ≤ m 1 - m 0 ∧ m 1 - m 0 ≤ 60) ∧ (60 ≤ m 2 - m 1 ∧ m 2 - m 1 ≤ 70) := by
  obtain ⟨z, r, rfl, hz, hr⟩ := cl_goes h.goes
  refine ⟨z, r, rfl, hz, hr, h.days 0 (by decide) (show (0 : Int) < 3 by decide), h.days 1 (by decide) (show (1 : Int) < 3 by decide), h.days 2 (by decide) (show (2 : Int) < 3 by decide), fun hb => ?_, fun hb => h.shows 1 (show 1 < 4 by decide) hb, fun hb => ?_, fun hb => h.shows 3 (show 3 < 4 by decide) hb, h.links ⟨0, 1, 40, 60⟩ (by simp [CL]), h.links ⟨1, 2, 60, 70⟩ (by simp [CL])⟩
  · have : 0 + m 0 * 1000 / 1000 = 10 := h.shows 0 (show 0 < 4 by decide) hb
    omega
  · have : 0 + m 2 * 1000 / 1000 = 130 := h.shows 2 (show 2 < 4 by decide) hb
    omega
def mm (a b c : Int) : Int → Int := fun e => if e = 0 then a else if e = 1 then b else if e = 2 then c else 0
theorem cl_made {l z r a b c : Int} {S : Nat} (hz : z = 5 ∨ z = 6) (hr : 998 ≤ r ∧ r ≤ 1002) (ha : 0 ≤ a ∧ a ≤ 600) (hb : 0 ≤ b ∧ b ≤ 600) (hc : 0 ≤ c ∧ c ≤ 600) (s0 : S.testBit 0 = true → a = 10) (s1 : S.testBit 1 = true → z + b * r / 1000 = 66) (s2 : S.testBit 2 = true → c = 130) (s3 : S.testBit 3 = true → z + c * r / 1000 = l)
    (l1 : 40 ≤ b - a ∧ b - a ≤ 60) (l2 : 60 ≤ c - b ∧ c - b ≤ 70) : Truth (CL l) S [(0, 1000), (z, r)] (mm a b c) where
  goes := cl_mk hz hr
  days := fun e h0 h1 => by
    have h1' : e < 3 := h1
    have : e = 0 ∨ e = 1 ∨ e = 2 := by omega
    rcases this with rfl | rfl | rfl
    · exact ha
    · exact hb
    · exact hc
  shows := fun i hi hs => by
    have hi' : i < 4 := hi
    have : i = 0 ∨ i = 1 ∨ i = 2 ∨ i = 3 := by omega
    rcases this with rfl | rfl | rfl | rfl
    · show 0 + a * 1000 / 1000 = 10
      have := s0 hs; omega
    · exact s1 hs
    · show 0 + c * 1000 / 1000 = 130
      have := s2 hs; omega
    · exact s3 hs
  links := fun q hq => by
    simp [CL] at hq
    rcases hq with rfl | rfl
    · exact l1
    · exact l2
theorem cl_136 {g : List Go'} {m : Int → Int} (h : Truth (CL 136) 15 g m) : m 0 = 10 ∧ m 1 = 60 ∧ m 2 = 130 ∧ ∃ r, 1000 ≤ r ∧ r ≤ 1002 ∧ g = [(0, 1000), (6, r)] := by
  obtain ⟨z, r, rfl, hz, hr, d0, d1, d2, s0, s1, s2, s3, l1, l2⟩ := cl_truth h
  have t0 := s0 (by decide)
  have t1 := s1 (by decide)
  have t2 := s2 (by decide)
  have t3 := s3 (by decide)
  rw [t2] at t3
  rcases hz with rfl | rfl <;> rcases hr with rfl | rfl | rfl | rfl | rfl <;> first | omega | exact ⟨t0, by omega, t2, _, by decide, by decide, rfl⟩
theorem cl_136' {r : Int} (hr : r = 1000 ∨ r = 1001 ∨ r = 1002) : Truth (CL 136) 15 [(0, 1000), (6, r)] (mm 10 60 130) := by
  rcases hr with rfl | rfl | rfl <;> exact cl_made (.inr rfl) (by decide) (by decide) (by decide) (by decide) (fun _ => rfl) (fun _ => by decide) (fun _ => rfl) (fun _ => by decide) (by decide) (by decide)
theorem cl_can : CanC (CL 136) 15 := ⟨_, _, cl_136' (.inl rfl)⟩
theorem span_one {c : Clk} {S : Nat} {val : List Go' → (Int → Int) → Int} {lo hi v : Int} (h : SpanC c S val lo hi) (hv : ∀ g m, Truth c S g m → val g m = v) : lo = v ∧ hi = v := by
  obtain ⟨⟨g1, m1, t1, v1⟩, ⟨g2, m2, t2, v2⟩, _⟩ := h
  exact ⟨by rw [← v1]; exact hv _ _ t1, by rw [← v2]; exact hv _ _ t2⟩
theorem qr_good {c : Clk} {is : Bool} {val : List Go' → (Int → Int) → Int} {lo hi err : Int} (h : QR c is val lo hi err) (ho : okC c = true) (hi' : is = true) (hc : CanC c (everyN c)) : SpanC c (everyN c) val lo hi ∧ err = 0 := by
  rcases h with ⟨h1, _⟩ | ⟨_, h1, _⟩ | ⟨_, _, h1, _⟩ | ⟨_, _, _, h1, h2⟩
  · rw [ho] at h1; cases h1
  · rw [hi'] at h1; cases h1
  · exact absurd hc h1
  · exact ⟨h1, h2⟩
theorem at_0 (m : Int → Int) : atM m 0 = m 0 := rfl
theorem at_1 (m : Int → Int) : atM m 1 = m 1 := rfl
theorem cl_lasted01 {lo hi err : Int} (h : QR (CL 136) (decide ((0 : Int) ≤ 0 ∧ (0 : Int) < (CL 136).n) && decide ((0 : Int) ≤ 1 ∧ (1 : Int) < (CL 136).n)) (laterV 0 1) lo hi err) : lo = 50 ∧ hi = 50 ∧ err = 0 := by
  obtain ⟨h1, h2⟩ := qr_good h cl_ok.1 rfl cl_can
  obtain ⟨h3, h4⟩ := span_one (v := 50) h1 fun g m t => by have := cl_136 t; show atM m 1 - atM m 0 = 50; rw [at_1, at_0]; omega
  exact ⟨h3, h4, h2⟩
end Go.Proofs.YtpmldejcdaoljaaGreat.G.Ck
