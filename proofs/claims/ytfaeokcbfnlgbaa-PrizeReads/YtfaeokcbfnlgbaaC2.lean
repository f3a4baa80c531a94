import Derived.Test.YtfaeokcbfnlgbaaC1
/- Lemmas: contracts over the visible heap, and that they are sound; no condition. -/
/- Prize: maps from numbers, as what is found in them. -/
set_option linter.unusedSimpArgs false
set_option linter.unusedVariables false
set_option maxRecDepth 20000
namespace Go.Proofs.Ytfaeokcbfnlgbaa.G
open Go.V
theorem und_3 : Pg.underlying 3 = some (.int .i64) := by kernel_rfl
theorem und_88 : ∃ e, Pg.underlying 88 = some (.map 3 e) ∧ ∀ (K : Value → Hp → Prop) (E : Value → Hp → Prop) (s : Hp), sp Pg (zeroValue e) K E s = K (.bool false) s := ⟨4, by kernel_rfl, fun K E s => by kernel_rfl⟩
theorem und_90 : ∃ e, Pg.underlying 90 = some (.map 3 e) ∧ ∀ (K : Value → Hp → Prop) (E : Value → Hp → Prop) (s : Hp), sp Pg (zeroValue e) K E s = K .nilFunc s := ⟨105, by kernel_rfl, fun K E s => by kernel_rfl⟩
theorem und_117 : ∃ e, Pg.underlying 117 = some (.map 3 e) ∧ ∀ (K : Value → Hp → Prop) (E : Value → Hp → Prop) (s : Hp), sp Pg (zeroValue e) K E s = K (.int .i64 0) s := ⟨3, by kernel_rfl, fun K E s => by kernel_rfl⟩
theorem check_int (b : Bool) (m : Int) (K : Unit → Hp → Prop) (E : Value → Hp → Prop) (s : Hp) : sp Pg (Instr.checkKey b 10000 3 (.int .i64 m)) K E s = K () s := by kernel_rfl
def kv (x : Int × Value) : Value × Value := (.int .i64 x.1, x.2)
def findV (k : Int) : List (Int × Value) → Nat → Option (Nat × Value)
  | [], _ => none
  | x :: r, i => if k = x.1 then some (i, x.2) else findV k r (i + 1)
def lookV (l : List (Int × Value)) (k : Int) : Option Value := (findV k l 0).map (·.2)
theorem findV_shift {k : Int} : ∀ (l : List (Int × Value)) (i : Nat), (findV k l i).map (·.2) = (findV k l 0).map (·.2)
  | [], _ => rfl
  | x :: r, i => by
    unfold findV
    by_cases h : k = x.1
    · rw [if_pos h, if_pos h]; rfl
    · rw [if_neg h, if_neg h, findV_shift r (i + 1), findV_shift r (0 + 1)]
theorem lookV_cons (x : Int × Value) (r : List (Int × Value)) (k : Int) : lookV (x :: r) k = if k = x.1 then some x.2 else lookV r k := by
  unfold lookV
  conv => lhs; unfold findV
  by_cases h : k = x.1
  · rw [if_pos h, if_pos h]; rfl
  · rw [if_neg h, if_neg h, findV_shift]
theorem findV_some {k : Int} : ∀ (l : List (Int × Value)) (i j : Nat) (v : Value), findV k l i = some (j, v) → ∃ n, j = i + n ∧ n < l.length ∧ l[n]? = some (k, v) ∧ ∀ w k', lookV (l.set n (k, w)) k' = if k' = k then some w else lookV l k'
  | [], _, _, _, h => by cases h
  | x :: r, i, j, v, h => by
    unfold findV at h
    by_cases he : k = x.1
    · rw [if_pos he] at h
      cases h
      refine ⟨0, rfl, by simp, by rw [he]; rfl, fun w k' => ?_⟩
      rw [List.set_cons_zero, lookV_cons, lookV_cons, ← he]
      by_cases h2 : k' = k
      · rw [if_pos h2, if_pos h2]
      · rw [if_neg h2, if_neg h2, if_neg h2]
    · rw [if_neg he] at h
      obtain ⟨n, h1, h2, h3, h4⟩ := findV_some r (i + 1) j v h
      refine ⟨n + 1, by omega, by simp; omega, by simpa using h3, fun w k' => ?_⟩
      rw [List.set_cons_succ, lookV_cons, lookV_cons, h4]
      by_cases h5 : k' = x.1
      · rw [if_pos h5, if_pos h5, if_neg (fun e => he (e.symm.trans h5))]
      · rw [if_neg h5, if_neg h5]
theorem findV_none {k : Int} : ∀ (l : List (Int × Value)) (i : Nat), findV k l i = none → ∀ w k', lookV (l ++ [(k, w)]) k' = if k' = k then some w else lookV l k'
  | [], _, _, w, k' => by
    rw [List.nil_append, lookV_cons]
  | x :: r, i, h, w, k' => by
    unfold findV at h
    by_cases he : k = x.1
    · rw [if_pos he] at h; cases h
    · rw [if_neg he] at h
      rw [List.cons_append, lookV_cons, lookV_cons, findV_none r (i + 1) h w k']
      by_cases h5 : k' = x.1
      · rw [if_pos h5, if_pos h5, if_neg (fun e => he (e.symm.trans h5))]
      · rw [if_neg h5, if_neg h5]
theorem find_now {k : Int} : ∀ (l : List (Int × Value)) (es : List MapEntry) (i : Nat), es.map (fun e => (e.key, e.val)) = l.map kv → Instr.findNow (.int .i64) (.int .i64 k) es i = some (findV k l i)
  | [], [], _, _ => rfl
  | [], e :: es, _, h => by simp at h
  | x :: l, [], _, h => by simp at h
  | x :: l, e :: es, i, h => by
    simp only [List.map_cons, List.cons.injEq, kv, Prod.mk.injEq] at h
    obtain ⟨⟨h1, h2⟩, h3⟩ := h
    unfold Instr.findNow findV
    rw [h1]
    show (match (if IntKind.i64 = IntKind.i64 then some (k == x.1) else none) with | some true => _ | some false => _ | none => _) = _
    rw [if_pos rfl]
    by_cases he : k = x.1
    · have hb : (k == x.1) = true := by simpa using he
      rw [hb, if_pos he, h2]
    · have hb : (k == x.1) = false := by simpa using he
      rw [hb, if_neg he]
      exact find_now l es (i + 1) h3
theorem find_key {k : Int} {K : Option (Nat × Value) → Hp → Prop} {E : Value → Hp → Prop} {s : Hp} {l : List (Int × Value)} {es : Array MapEntry} (h : es.toList.map (fun e => (e.key, e.val)) = l.map kv) (hk : K (findV k l 0) s) : sp Pg (Instr.findKey 3 (.int .i64 k) es.toList) K E s := by
  unfold Instr.findKey
  rw [sp_bind, sp_und und_3, find_now l es.toList 0 h]
  exact hk
theorem same_int {k : Int} : Instr.sameBits 10000 (.int .i64 k) (.int .i64 k) = true := by simp [Instr.sameBits]
theorem setO_get {s : Hp} {r : Nat} {o o' : Obj} (h : s[r]? = some o') : (s.setIfInBounds r o)[r]? = some o := by
  have := (Array.getElem?_eq_some_iff.1 h).1
  rw [Array.getElem?_setIfInBounds]
  simp [this]
theorem setO_kp {s : Hp} {r : Nat} {o : Obj} : Kp (· = r) s (s.setIfInBounds r o) := ⟨by simp, fun b _ hb => Array.getElem?_setIfInBounds_ne (fun e => hb e.symm)⟩
/-- A map in the heap, as what is found of each number. -/
def MapI (s : Hp) (r : Nat) (g : Int → Option Value) : Prop := ∃ es cl l, s[r]? = some (.map es cl) ∧ es.toList.map (fun e => (e.key, e.val)) = l.map kv ∧ ∀ k, lookV l k = g k
def updI (g : Int → Option Value) (k : Int) (v : Value) : Int → Option Value := fun k' => if k' = k then some v else g k'
section
variable {s s' : Hp} {r : Nat} {g : Int → Option Value}
theorem MapI.lt (h : MapI s r g) : r < s.size := by
  obtain ⟨es, cl, l, h1, _⟩ := h
  exact (Array.getElem?_eq_some_iff.1 h1).1
theorem MapI.ext (e : Ext s s') (h : MapI s r g) : MapI s' r g := by
  have hl := h.lt
  obtain ⟨es, cl, l, h1, h2⟩ := h
  exact ⟨es, cl, l, by rw [e.2 _ hl]; exact h1, h2⟩
theorem MapI.kp {D : Nat → Prop} (e : Kp D s s') (hd : ¬ D r) (h : MapI s r g) : MapI s' r g := by
  have hl := h.lt
  obtain ⟨es, cl, l, h1, h2⟩ := h
  exact ⟨es, cl, l, by rw [e.2 _ hl hd]; exact h1, h2⟩
theorem MapI.blind : Blind (fun s => MapI s r g) := fun s l o hl ho h => by
  obtain ⟨es, cl, l', h1, h2⟩ := h
  refine ⟨es, cl, l', ?_, h2⟩
  by_cases e : l = r
  · subst e
    have := setO_get (o := junk) hl
    rw [this] at h1; cases h1
  · rw [← h1]; exact (Array.getElem?_setIfInBounds_ne e).symm
theorem MapI.cell {a : Addr} {v : Value} (h : MapI s r g) (hc : cellAt s a = some v) : a.block ≠ r := fun e => by
  obtain ⟨c, t, f, hb⟩ := block_of_cell hc
  obtain ⟨es, cl, l, h1, _⟩ := h
  rw [e, h1] at hb
  cases hb
theorem MKM_rule {K : Nat → Hp → Prop} (h : ∀ s', Ext s s' → s'.size = s.size + 1 → MapI s' s.size (fun _ => none) → K s.size s') : MKM K s :=
  h _ (Ext.push (Ext.refl s)) (by simp) ⟨#[], 0, [], by simp, rfl, fun _ => rfl⟩
theorem LKP_v {t e : TypeId} {z : Value} {k : Int} {ok : Bool} {K : VK} (ht : Pg.underlying t = some (.map 3 e)) (hz : ∀ (K : Value → Hp → Prop) (E : Value → Hp → Prop) (s : Hp), sp Pg (zeroValue e) K E s = K z s) (h : MapI s r g)
    (h1 : ∀ v, g k = some v → K (match ok with | true => .tuple #[v, .bool true] | false => v) s) (h2 : g k = none → K (match ok with | true => .tuple #[z, .bool false] | false => z) s) : LKP Pg t (.map (some r)) (.int .i64 k) ok K s := by
  obtain ⟨es, cl, l, hs, ha, hg⟩ := h
  unfold LKP Instr.lookup
  rw [sp_bind, sp_und ht]
  simp only [sp_bind]
  refine ⟨_, hs, rfl, rfl, ?_⟩
  show sp Pg (Sem.pure (Obj.map es cl)) _ _ s
  simp only [sp, sp_bind, sp_pure]
  rw [check_int]
  refine find_key ha ?_
  have hk := hg k
  unfold lookV at hk
  cases hf : findV k l 0 with
  | some x =>
    rw [hf] at hk
    have := h1 x.2 (by rw [← hk]; rfl)
    cases ok <;> exact this
  | none =>
    rw [hf] at hk
    have := h2 (by rw [← hk]; rfl)
    simp only [sp_bind]
    rw [hz]
    cases ok <;> exact this
theorem MUP_v {t e : TypeId} {k : Int} {v : Value} {K : Hp → Prop} (ht : Pg.underlying t = some (.map 3 e)) (h : MapI s r g)
    (hk : ∀ s', Kp (· = r) s s' → s'.size = s.size → MapI s' r (updI g k v) → K s') : MUP Pg t (.map (some r)) (.int .i64 k) v K s := by
  obtain ⟨es, cl, l, hs, ha, hg⟩ := h
  unfold MUP Instr.mapUpdate
  rw [sp_bind, sp_und ht]
  simp only [sp_bind]
  refine ⟨_, hs, rfl, rfl, ?_⟩
  show sp Pg (Sem.pure (Obj.map es cl)) _ _ s
  simp only [sp, sp_bind]
  rw [check_int]
  refine find_key ha ?_
  have hlen : es.size = l.length := by have := congrArg List.length ha; simpa using this
  cases hf : findV k l 0 with
  | none =>
    refine ⟨⟨_, hs, rfl, rfl⟩, ?_⟩
    refine hk _ setO_kp (by simp) ⟨_, _, l ++ [(k, v)], setO_get hs, ?_, fun k' => ?_⟩
    · rw [Array.toList_push, List.map_append, List.map_append, ha]; rfl
    · rw [findV_none l 0 hf v k', hg]; rfl
  | some x =>
    obtain ⟨j, v0⟩ := x
    obtain ⟨n, hj, hn, hx, hset⟩ := findV_some l 0 j v0 hf
    have hjn : j = n := by omega
    subst hjn
    simp only [sp_bind]
    have hje : j < es.size := by omega
    have hkey : es[j].key = .int .i64 k := by
      have h2 : (es.toList.map (fun e => (e.key, e.val)))[j]? = (l.map kv)[j]? := by rw [ha]
      rw [List.getElem?_map, List.getElem?_map, hx] at h2
      rw [List.getElem?_eq_getElem (by simpa using hje)] at h2
      simp [kv] at h2
      exact h2.1
    have hold : (Option.map (fun x => x.key) es[j]?).getD (.int .i64 k) = .int .i64 k := by
      rw [Array.getElem?_eq_getElem hje]
      exact hkey
    rw [hold]
    unfold Instr.keyThatStays
    rw [if_pos same_int]
    simp only [sp_pure]
    refine ⟨⟨_, hs, rfl, rfl⟩, ?_⟩
    refine hk _ setO_kp (by simp) ⟨_, _, l.set j (k, v), setO_get hs, ?_, fun k' => ?_⟩
    · apply List.ext_getElem?
      intro i
      rw [List.getElem?_map, List.getElem?_map, Array.getElem?_toList, Array.getElem?_modify, List.getElem?_set]
      have h2 : (es.toList.map (fun e => (e.key, e.val)))[i]? = (l.map kv)[i]? := by rw [ha]
      rw [List.getElem?_map, List.getElem?_map, Array.getElem?_toList] at h2
      by_cases e : j = i
      · subst e
        rw [if_pos rfl, if_pos rfl, if_pos hn, Array.getElem?_eq_getElem hje]
        simp [kv, hkey]
      · rw [if_neg e, if_neg e]
        exact h2
    · rw [hset, hg]; rfl
end
end Go.Proofs.Ytfaeokcbfnlgbaa.G

/- Prize: what is told; what is asked of numbers. -/
set_option linter.unusedSimpArgs false
set_option linter.unusedVariables false
set_option maxRecDepth 20000
namespace Go.Proofs.Ytfaeokcbfnlgbaa.G
open Go.V
/-- A panic that tells an error. -/
def pn (e : Int) : List PanicEntry := [{ v := .iface 103 (.agg #[.int .i64 e]), recovered := false }]
theorem zc_103 : zc Pg 103 = [.int .i64 0] := by kernel_rfl
theorem told_vc_none (W : World) (a : Addr) (K : Hp → Prop) : vc Pg W 15 [15] (fun _ => {}) false (sub (bodyOf Try.f42) [1]) 0 (Kdone 15 K) (updo 15 (some 5) .nilIface (Go.V.start [.pointer (some a)] 0)) = (fun s => undef = undef ∧ K s) := by kernel_rfl
theorem told_vc_some (W : World) (a : Addr) (e : Int) (K : Hp → Prop) : vc Pg W 15 [15] (fun _ => {}) false (sub (bodyOf Try.f42) [1]) 0 (Kdone 15 K) (updo 15 (some 5) (.iface 103 (.agg #[.int .i64 e])) (Go.V.start [.pointer (some a)] 0)) =
    NEWZ Pg 103 fun B => WR (Addr.add ⟨B, 0, none⟩ 0) (.int .i64 e) <| RDI .i64 (Addr.add ⟨B, 0, none⟩ 0) fun n => WR (Addr.add a 0) (.int .i64 n) fun s => undef = undef ∧ K s := by kernel_rfl
theorem told_ok_fn : callable Pg 42 = true := by kernel_rfl
theorem told_code : codeOk 15 (sub (bodyOf Try.f42) [1]) = true := by kernel_rfl
theorem told_nr : hasR (sub (bodyOf Try.f42) [1]) = false := by kernel_rfl

section
variable {W : World} {K : Hp → Prop} {s : Hp}
theorem told_none {a : Addr} (h : K s) : DoesD Pg W 42 [.pointer (some a)] none s K := by
  refine told_ok (id := 0) (ty := 20) (pos := "prize.go:23") (d := 5) (an := fun _ => {}) (c := sub (bodyOf Try.f42) [1]) (v := .nilIface) Try.func42 told_ok_fn (by kernel_rfl) told_code told_nr rfl (show 1 ≤ 15 by decide) (.inl ⟨rfl, rfl⟩) ?_
  show vc Pg W 15 [15] _ false _ 0 (Kdone 15 K) (updo 15 (some 5) .nilIface (Go.V.start [.pointer (some a)] 0)) s
  rw [told_vc_none]
  exact ⟨rfl, h⟩
theorem told_some {a : Addr} {e : Int} {x : Value} (ho : Own s a x) (h : ∀ s', Kp (· = a.block) s s' → Own s' a (.int .i64 e) → K s') : DoesD Pg W 42 [.pointer (some a)] (some (pn e)) s K := by
  refine told_ok (id := 0) (ty := 20) (pos := "prize.go:23") (d := 5) (an := fun _ => {}) (c := sub (bodyOf Try.f42) [1]) (v := .iface 103 (.agg #[.int .i64 e])) Try.func42 told_ok_fn (by kernel_rfl) told_code told_nr rfl (show 1 ≤ 15 by decide) (.inr rfl) ?_
  show vc Pg W 15 [15] _ false _ 0 (Kdone 15 K) (updo 15 (some 5) (.iface 103 (.agg #[.int .i64 e])) (Go.V.start [.pointer (some a)] 0)) s
  rw [told_vc_some]
  unfold NEWZ
  rw [zc_103]
  refine WR_own (own_new (i := 0) rfl) rfl ⟨_, own_cell (own_set (own_new (i := 0) rfl)), ?_⟩
  generalize hs1 : s.push (.cells [Value.int .i64 0].toArray 103 (0, 0)) = s1
  have e1 : Ext s s1 := by rw [← hs1]; exact Ext.push (Ext.refl _)
  have hlt := ho.lt
  have o2 : Own (setC s1 (Addr.add ⟨s.size, 0, none⟩ 0) (.int .i64 e)) a x := own_set_ne (.inl (by show a.block ≠ s.size; omega)) (e1.own ho)
  refine WR_own o2 rfl ⟨rfl, h _ ?_ (own_set o2)⟩
  exact Kp.setC (Kp.setC e1.kp (.inr (Nat.le_refl _))) (.inl rfl)
theorem def_none {a : Addr} (h : K s) : DEF Pg W (.tuple #[.func (.func 42) #[] #[], .tuple #[.pointer (some a)]]) none K s := told_none h
theorem def_some {a : Addr} {e : Int} {x : Value} (ho : Own s a x) (h : ∀ s', Kp (· = a.block) s s' → Own s' a (.int .i64 e) → K s') : DEF Pg W (.tuple #[.func (.func 42) #[] #[], .tuple #[.pointer (some a)]]) (some (pn e)) K s := told_some ho h
end


/-- Numbers as values. -/
def ints (ds : List Int) : List Value := ds.map fun n => .int .i64 n
theorem ints_len (ds : List Int) : (ints ds).length = ds.length := by simp [ints]
theorem ints_get {ds : List Int} {i : Nat} (h : i < (ints ds).length) : (ints ds)[i] = .int .i64 (ds[i]'(by simpa [ints] using h)) := by simp [ints]
theorem ints_one (ds : List Int) : ∀ v ∈ ints ds, oneCell v = true := by
  intro v hv
  obtain ⟨n, _, rfl⟩ := List.mem_map.1 hv
  rfl
theorem ints_app (a b : List Int) : ints (a ++ b) = ints a ++ ints b := by unfold ints; rw [List.map_append]
theorem row_new {s' : Hp} {b : Nat} {vs : List Value} (n1 : ∀ i v, vs[i]? = some v → Own s' ⟨b, i, none⟩ v) : RowAt s' (some ⟨b, 0, none⟩) vs := fun i hi => by
  refine ⟨⟨b, 0, none⟩, rfl, ?_⟩
  have := (n1 i vs[i] (List.getElem?_eq_getElem hi)).cell
  rw [add_nil, Nat.mul_one, Nat.zero_add]
  exact this
theorem row_int {s : Hp} {y : Option Addr} {ds : List Int} {k : Nat} (hy : RowAt s y (ints ds)) (hk : k < ds.length) : ∃ a, y = some a ∧ cellAt s (a.add (k * 1)) = some (.int .i64 (ds.getD k 0)) := by
  have hkv : k < (ints ds).length := by rw [ints_len]; exact hk
  obtain ⟨a, ha, g⟩ := hy k hkv
  rw [ints_get hkv] at g
  have : ds.getD k 0 = ds[k] := by simp [List.getD, hk]
  rw [this]
  exact ⟨a, ha, g⟩
section
variable {W : World} {K : VK} {E : List PanicEntry → Hp → Prop} {s : Hp}
theorem c_within {a b c : Int} (h : K (.bool (decide (b ≤ a ∧ a ≤ c))) s) : CALL Pg W F_prize_within [.int .i64 a, .int .i64 b, .int .i64 c] K E s := by
  refine does_prize_within W a b c _ s ?_
  unfold T_prize_within
  refine BR_dec (fun h1 => ?_) (fun h1 => ?_)
  · have : decide (b ≤ a ∧ a ≤ c) = decide (a ≤ c) := by simp [h1]
    rw [← this]; exact h
  · have : decide (b ≤ a ∧ a ≤ c) = false := by simp [h1]
    rw [← this]; exact h
theorem c_must {b : Bool} {e : Int} (h1 : b = true → K (.tuple #[]) s) (h2 : b = false → E (pn e) s) : CALL Pg W F_prize_must [.bool b, .int .i64 e] K E s := by
  refine does_prize_must W b e _ s ?_
  unfold T_prize_must
  exact BR_not (fun h => h2 h) (fun h => h1 h)
theorem c_total {x : Option Addr} {c l : Nat} {ds : List Int} (hx : RowAt s x (ints ds)) (hl : l = ds.length) (hb : ∀ n ∈ ds, 0 ≤ n ∧ n ≤ 1000) (h8 : ds.length ≤ 1000) (h : K (.int .i64 ds.sum) s) : CALL Pg W F_prize_total [.slice x l c] K E s := by
  subst hl
  refine does_prize_total W x _ c _ s ?_
  unfold T_prize_total
  have hsum : ∀ k, k ≤ ds.length → 0 ≤ (ds.take k).sum ∧ (ds.take k).sum ≤ 1000 * k := by
    intro k
    induction k with
    | zero => intro _; simp
    | succ k ih =>
      intro hk
      have ih := ih (by omega)
      have hkl : k < ds.length := by omega
      rw [List.take_add_one, List.getElem?_eq_getElem hkl]
      have := hb _ (List.getElem_mem hkl)
      simp only [Option.toList_some, List.sum_append, List.sum_cons, List.sum_nil]
      omega
  refine L_prize_total_0_rule W _ x ds.length c ds.length (fun n4 n5 t => t = s ∧ ∃ k : Nat, k ≤ ds.length ∧ n5 = k ∧ n4 = (ds.take k).sum) (fun _ n5 _ => (ds.length - n5).toNat) 0 0 s ⟨rfl, 0, by omega, rfl, by simp⟩ ?_
  rintro n4 n5 t ⟨rfl, k, hk, rfl, rfl⟩
  unfold B_prize_total_0
  refine BR_dec (fun h1 => ?_) (fun h1 => ?_)
  · have hkl : k < ds.length := by omega
    obtain ⟨p, hp, g⟩ := row_int hx hkl
    have tk : ((k : Int)).toNat = k := by omega
    refine ⟨p, hp, ⟨by omega, by omega⟩, _, by rw [tk]; exact g, ?_⟩
    have hw : IntKind.i64.wrap ((k : Int) + 1) = ((k + 1 : Nat) : Int) := by rw [wrap_i64 (by omega) (by omega)]; rfl
    have hs := hsum (k + 1) (by omega)
    have e : (ds.take (k + 1)).sum = (ds.take k).sum + ds.getD k 0 := by
      have hg : ds.getD k 0 = ds[k] := by simp [List.getD, hkl]
      rw [hg, List.take_add_one, List.getElem?_eq_getElem hkl, List.sum_append]
      show (ds.take k).sum + ([ds[k]] : List Int).sum = _
      rw [List.sum_cons, List.sum_nil, Int.add_zero]
    rw [e] at hs
    refine ⟨rfl, _, _, rfl, ⟨rfl, k + 1, by omega, hw, ?_⟩, ?_⟩
    · rw [e, wrap_i64 (by omega) (by omega)]
    · show ((ds.length : Int) - IntKind.i64.wrap ((k : Int) + 1)).toNat < ((ds.length : Int) - k).toNat
      rw [hw]; omega
  · have hkl : k = ds.length := by omega
    subst hkl
    rw [List.take_length]
    exact h
end
end Go.Proofs.Ytfaeokcbfnlgbaa.G

/- Prize: the plain spec. -/
set_option linter.unusedSimpArgs false
set_option linter.unusedVariables false
set_option maxRecDepth 20000
namespace Go.Proofs.Ytfaeokcbfnlgbaa.G
open Go.V
structure Mn where
  place : Int
  club : Int
  nov : Bool
  hor : Bool
  deriving DecidableEq, Inhabited
structure Pz where
  kind : Int
  worth : Int
  deriving DecidableEq, Inhabited
structure PT where
  men : List Mn
  list : List Pz
def PT.n (T : PT) : Nat := T.men.length
def PT.z (T : PT) : Nat := T.list.length
def PT.man (T : PT) (i : Nat) : Mn := T.men.getD i default
def PT.pz (T : PT) (i : Nat) : Pz := T.list.getD i default
def okMn (n : Nat) (seen : List Mn) (m : Mn) : Bool := decide (1 ≤ m.place ∧ m.place ≤ n) && (seen.all (fun x => decide (x.place ≠ m.place)) && decide (0 ≤ m.club ∧ m.club ≤ 5))
def okMs (n : Nat) : List Mn → List Mn → Bool
  | _, [] => true
  | seen, m :: r => okMn n seen m && okMs n (seen ++ [m]) r
def okZ (z : Pz) : Bool := decide (0 ≤ z.kind ∧ z.kind ≤ 4) && decide (0 ≤ z.worth ∧ z.worth ≤ 1000)
/-- Are prizes valid? -/
def okP (T : PT) : Bool := decide (1 ≤ (T.n : Int) ∧ (T.n : Int) ≤ 8) && (decide (T.list.length ≤ 6) && (okMs T.n [] T.men && T.list.all okZ))
/-- Who is at a place. -/
def idx (T : PT) (pl : Int) : Nat := T.men.findIdx fun m => decide (m.place = pl)
def ordP (T : PT) : List Nat := (List.range T.n).map fun (k : Nat) => idx T ((k + 1 : Nat) : Int)
def canK (k : Int) (m : Mn) : Bool := if k = 1 then m.nov else if k = 2 then m.hor else if k = 3 then m.nov && m.hor else if k = 4 then decide (m.club ≠ 0) else true
def canP (T : PT) (m z : Nat) : Bool := canK (T.pz z).kind (T.man m)
theorem getD_lt {α : Type} {l : List α} {i : Nat} {d : α} (h : i < l.length) : l.getD i d = l[i] := by simp [List.getD, h]
/-- One list lies in another one. -/
theorem sub_len {α : Type} [BEq α] [LawfulBEq α] : ∀ (a b : List α), a.Nodup → (∀ x ∈ a, x ∈ b) → a.length ≤ b.length
  | [], b, _, _ => Nat.zero_le _
  | x :: a, b, hn, h => by
    rw [List.nodup_cons] at hn
    have hx := h x (by simp)
    have := sub_len a (b.erase x) hn.2 (fun y hy => by
      have hy2 := h y (by simp [hy])
      have hne : y ≠ x := fun e => hn.1 (e ▸ hy)
      exact (List.mem_erase_of_ne hne).2 hy2)
    rw [List.length_erase_of_mem hx] at this
    have hpos : 0 < b.length := List.length_pos_of_mem hx
    simp only [List.length_cons]
    omega
theorem sub_full {α : Type} [BEq α] [LawfulBEq α] {a b : List α} (hn : a.Nodup) (h : ∀ x ∈ a, x ∈ b) (hl : b.length ≤ a.length) {x : α} (hx : x ∈ b) : x ∈ a := by
  refine Classical.byContradiction fun hc => ?_
  have := sub_len a (b.erase x) hn (fun y hy => (List.mem_erase_of_ne (fun e => hc (by rw [← e]; exact hy))).2 (h y hy))
  rw [List.length_erase_of_mem hx] at this
  have hpos : 0 < b.length := List.length_pos_of_mem hx
  omega
theorem okMs_all {n : Nat} : ∀ (r seen : List Mn), okMs n seen r = true → (∀ m ∈ r, (1 ≤ m.place ∧ m.place ≤ n) ∧ (0 ≤ m.club ∧ m.club ≤ 5)) ∧ (r.map (·.place)).Nodup ∧ ∀ m ∈ r, ∀ x ∈ seen, x.place ≠ m.place
  | [], seen, _ => by simp
  | m :: r, seen, h => by
    unfold okMs okMn at h
    simp only [Bool.and_eq_true, decide_eq_true_eq, List.all_eq_true] at h
    obtain ⟨⟨h1, h2, h3⟩, h4⟩ := h
    obtain ⟨g1, g2, g3⟩ := okMs_all r (seen ++ [m]) h4
    refine ⟨fun x hx => ?_, ?_, fun x hx y hy => ?_⟩
    · rcases List.mem_cons.1 hx with rfl | hx
      · exact ⟨h1, h3⟩
      · exact g1 x hx
    · rw [List.map_cons, List.nodup_cons]
      refine ⟨fun hm => ?_, g2⟩
      obtain ⟨x, hx, e⟩ := List.mem_map.1 hm
      exact g3 x hx m (by simp) e.symm
    · rcases List.mem_cons.1 hx with rfl | hx
      · exact h2 y hy
      · exact g3 x hx y (by simp [hy])
/-- What holds of valid prizes. -/
structure VdP (T : PT) : Prop where
  n1 : 1 ≤ T.n
  n8 : T.n ≤ 8
  z6 : T.z ≤ 6
  pl : ∀ i, i < T.n → 1 ≤ (T.man i).place ∧ (T.man i).place ≤ T.n
  cl : ∀ i, i < T.n → 0 ≤ (T.man i).club ∧ (T.man i).club ≤ 5
  inj : ∀ i j, i < T.n → j < T.n → (T.man i).place = (T.man j).place → i = j
  kd : ∀ z, z < T.z → 0 ≤ (T.pz z).kind ∧ (T.pz z).kind ≤ 4
  wo : ∀ z, z < T.z → 0 ≤ (T.pz z).worth ∧ (T.pz z).worth ≤ 1000
  sur : ∀ k : Int, 1 ≤ k → k ≤ T.n → idx T k < T.n ∧ (T.man (idx T k)).place = k
theorem okP_iff {T : PT} : okP T = true ↔ (1 ≤ T.n ∧ T.n ≤ 8) ∧ T.z ≤ 6 ∧ okMs T.n [] T.men = true ∧ T.list.all okZ = true := by
  unfold okP PT.z
  simp only [Bool.and_eq_true, decide_eq_true_eq]
  constructor
  · rintro ⟨h1, h2⟩; exact ⟨by omega, h2⟩
  · rintro ⟨h1, h2⟩; exact ⟨by omega, h2⟩
theorem man_mem {T : PT} {i : Nat} (h : i < T.n) : T.man i ∈ T.men := by
  unfold PT.man; rw [getD_lt h]; exact List.getElem_mem h
theorem okP_vd {T : PT} (h : okP T = true) : VdP T := by
  obtain ⟨h1, h2, h3, h4⟩ := okP_iff.1 h
  obtain ⟨g1, g2, _⟩ := okMs_all _ _ h3
  have hz : ∀ z, z < T.z → okZ (T.pz z) = true := fun z hz => by
    unfold PT.pz; rw [getD_lt hz]
    exact List.all_eq_true.1 h4 _ (List.getElem_mem hz)
  refine ⟨h1.1, h1.2, h2, fun i hi => (g1 _ (man_mem hi)).1, fun i hi => (g1 _ (man_mem hi)).2, fun i j hi hj e => ?_, fun z h => ?_, fun z h => ?_, fun k k1 k2 => ?_⟩
  · unfold PT.man at e
    rw [getD_lt hi, getD_lt hj] at e
    have := (List.getElem_inj (h₀ := by rw [List.length_map]; exact hi) (h₁ := by rw [List.length_map]; exact hj) g2).1 (by rw [List.getElem_map, List.getElem_map]; exact e)
    exact this
  · have := hz z h; unfold okZ at this; simp only [Bool.and_eq_true, decide_eq_true_eq] at this; exact this.1
  · have := hz z h; unfold okZ at this; simp only [Bool.and_eq_true, decide_eq_true_eq] at this; exact this.2
  · have hmem : k ∈ T.men.map (·.place) := by
      refine sub_full (b := (List.range T.n).map fun (i : Nat) => ((i + 1 : Nat) : Int)) g2 (fun x hx => ?_) (by simp [PT.n]) ?_
      · obtain ⟨m, hm, rfl⟩ := List.mem_map.1 hx
        have := (g1 m hm).1
        exact List.mem_map.2 ⟨(m.place - 1).toNat, List.mem_range.2 (by omega), by omega⟩
      · exact List.mem_map.2 ⟨(k - 1).toNat, List.mem_range.2 (by omega), by omega⟩
    obtain ⟨m, hm, e⟩ := List.mem_map.1 hmem
    have hlt : idx T k < T.n := List.findIdx_lt_length_of_exists ⟨m, hm, by simpa using e⟩
    refine ⟨hlt, ?_⟩
    unfold PT.man
    rw [getD_lt hlt]
    have := List.findIdx_getElem (w := hlt)
    exact of_decide_eq_true this
theorem ord_get {T : PT} {k : Nat} (h : k < T.n) : (ordP T)[k]? = some (idx T ((k + 1 : Nat) : Int)) := by
  unfold ordP
  rw [List.getElem?_map, List.getElem?_range h]
  rfl
theorem ord_len (T : PT) : (ordP T).length = T.n := by simp [ordP]
theorem ord_mem {T : PT} (hv : VdP T) {m : Nat} : m ∈ ordP T ↔ m < T.n := by
  constructor
  · intro h
    obtain ⟨k, hk, rfl⟩ := List.mem_map.1 h
    have := List.mem_range.1 hk
    exact (hv.sur _ (by omega) (by omega)).1
  · intro h
    have hp := hv.pl m h
    obtain ⟨g1, g2⟩ := hv.sur _ hp.1 hp.2
    have e := hv.inj _ _ g1 h g2
    refine List.mem_map.2 ⟨((T.man m).place - 1).toNat, List.mem_range.2 (by omega), ?_⟩
    show idx T _ = m
    have e2 : ((((T.man m).place - 1).toNat + 1 : Nat) : Int) = (T.man m).place := by omega
    rw [e2]; exact e
end Go.Proofs.Ytfaeokcbfnlgbaa.G

/- Prize: how prizes lie; who can have one. -/
set_option linter.unusedSimpArgs false
set_option linter.unusedVariables false
set_option maxRecDepth 20000
namespace Go.Proofs.Ytfaeokcbfnlgbaa.G
open Go.V
def MnAt (s : Hp) (y : Option Addr) (l : List Mn) : Prop := ∀ i, (h : i < l.length) → ∃ a, y = some a ∧ cellAt s ((a.add (i * 4)).add 0) = some (.int .i64 l[i].place) ∧ cellAt s ((a.add (i * 4)).add 1) = some (.int .i64 l[i].club) ∧ cellAt s ((a.add (i * 4)).add 2) = some (.bool l[i].nov) ∧ cellAt s ((a.add (i * 4)).add 3) = some (.bool l[i].hor)
def PzAt (s : Hp) (y : Option Addr) (l : List Pz) : Prop := ∀ i, (h : i < l.length) → ∃ a, y = some a ∧ cellAt s ((a.add (i * 2)).add 0) = some (.int .i64 l[i].kind) ∧ cellAt s ((a.add (i * 2)).add 1) = some (.int .i64 l[i].worth)
def whoG (k : Int) : Option Value := if k = 4 then some (.func (.func 93) #[] #[]) else if k = 3 then some (.func (.func 92) #[] #[]) else if k = 2 then some (.func (.func 91) #[] #[]) else if k = 1 then some (.func (.func 90) #[] #[]) else if k = 0 then some (.func (.func 89) #[] #[]) else none
section
variable {s s' : Hp} {y : Option Addr}
theorem MnAt.ext {l : List Mn} (e : Ext s s') (h : MnAt s y l) : MnAt s' y l := fun i hi => by
  obtain ⟨a, h0, h1, h2, h3, h4⟩ := h i hi
  exact ⟨a, h0, e.cell h1, e.cell h2, e.cell h3, e.cell h4⟩
theorem PzAt.ext {l : List Pz} (e : Ext s s') (h : PzAt s y l) : PzAt s' y l := fun i hi => by
  obtain ⟨a, h0, h1, h2⟩ := h i hi
  exact ⟨a, h0, e.cell h1, e.cell h2⟩
theorem MnAt.map {D : Nat → Prop} {l : List Mn} (k : Kp D s s') (hd : ∀ a v, cellAt s a = some v → ¬ D a.block) (h : MnAt s y l) : MnAt s' y l := fun i hi => by
  obtain ⟨a, h0, h1, h2, h3, h4⟩ := h i hi
  exact ⟨a, h0, k.cell (hd _ _ h1) h1, k.cell (hd _ _ h2) h2, k.cell (hd _ _ h3) h3, k.cell (hd _ _ h4) h4⟩
theorem MnAt.blind {l : List Mn} : Blind (fun s => MnAt s y l) := fun s b o hl ho h i hi => by
  obtain ⟨a, h0, h1, h2, h3, h4⟩ := h i hi
  exact ⟨a, h0, cell_blind hl h1, cell_blind hl h2, cell_blind hl h3, cell_blind hl h4⟩
theorem PzAt.blind {l : List Pz} : Blind (fun s => PzAt s y l) := fun s b o hl ho h i hi => by
  obtain ⟨a, h0, h1, h2⟩ := h i hi
  exact ⟨a, h0, cell_blind hl h1, cell_blind hl h2⟩
end
/-- Prizes that are looked at. -/
structure PrO (s : Hp) (p : Addr) (T : PT) : Prop where
  ok : okP T = true
  men : ∃ x c, cellAt s ((p.add 0).add 0) = some (.slice x T.n c) ∧ MnAt s x T.men
  lst : ∃ x c, cellAt s ((p.add 0).add 1) = some (.slice x T.z c) ∧ PzAt s x T.list
  who : ∃ r, cellAt s (p.add 2) = some (.map (some r)) ∧ MapI s r whoG
  at' : ∀ k, k < T.n → cellAt s ((p.add 3).add (k + 1)) = some (.int .i64 (idx T ((k + 1 : Nat) : Int) : Nat))
section
variable {s s' : Hp} {p : Addr} {T : PT}
theorem PrO.ext (e : Ext s s') (h : PrO s p T) : PrO s' p T where
  ok := h.ok
  men := by obtain ⟨x, c, h1, h2⟩ := h.men; exact ⟨x, c, e.cell h1, h2.ext e⟩
  lst := by obtain ⟨x, c, h1, h2⟩ := h.lst; exact ⟨x, c, e.cell h1, h2.ext e⟩
  who := by obtain ⟨r, h1, h2⟩ := h.who; exact ⟨r, e.cell h1, h2.ext e⟩
  at' := fun k hk => e.cell (h.at' k hk)
theorem PrO.blind : Blind (fun s => PrO s p T) := fun s l o hl ho h => by
  refine ⟨h.ok, ?_, ?_, ?_, fun k hk => cell_blind hl (h.at' k hk)⟩
  · obtain ⟨x, c, h1, h2⟩ := h.men; exact ⟨x, c, cell_blind hl h1, MnAt.blind _ _ _ hl ho h2⟩
  · obtain ⟨x, c, h1, h2⟩ := h.lst; exact ⟨x, c, cell_blind hl h1, PzAt.blind _ _ _ hl ho h2⟩
  · obtain ⟨r, h1, h2⟩ := h.who; exact ⟨r, cell_blind hl h1, MapI.blind _ _ _ hl ho h2⟩
end
section
variable {W : World} {K : VK} {E : List PanicEntry → Hp → Prop} {s : Hp} {p : Addr} {T : PT}
theorem c_who (h : ∀ s' r, Ext s s' → MapI s' r whoG → K (.map (some r)) s') : CALL Pg W F_prize_who [] K E s := by
  refine does_prize_who W _ s ?_
  unfold T_prize_who
  obtain ⟨e, ht, _⟩ := und_90
  refine MKM_rule fun s1 e1 z1 m1 => ?_
  refine MUP_v ht m1 fun s2 k2 z2 m2 => ?_
  refine MUP_v ht m2 fun s3 k3 z3 m3 => ?_
  refine MUP_v ht m3 fun s4 k4 z4 m4 => ?_
  refine MUP_v ht m4 fun s5 k5 z5 m5 => ?_
  refine MUP_v ht m5 fun s6 k6 z6 m6 => ?_
  exact h s6 s.size (ext_kp (ext_kp (ext_kp (ext_kp (ext_kp e1 (Nat.le_refl _) k2) (Nat.le_refl _) k3) (Nat.le_refl _) k4) (Nat.le_refl _) k5) (Nat.le_refl _) k6) m6
theorem man_row {x : Option Addr} {i : Nat} (h : MnAt s x T.men) (hi : i < T.n) : ∃ a, x = some a ∧ cellAt s ((a.add (i * 4)).add 0) = some (.int .i64 (T.man i).place) ∧ cellAt s ((a.add (i * 4)).add 1) = some (.int .i64 (T.man i).club) ∧ cellAt s ((a.add (i * 4)).add 2) = some (.bool (T.man i).nov) ∧ cellAt s ((a.add (i * 4)).add 3) = some (.bool (T.man i).hor) := by
  unfold PT.man; rw [getD_lt hi]; exact h i hi
theorem pz_row {x : Option Addr} {i : Nat} (h : PzAt s x T.list) (hi : i < T.z) : ∃ a, x = some a ∧ cellAt s ((a.add (i * 2)).add 0) = some (.int .i64 (T.pz i).kind) ∧ cellAt s ((a.add (i * 2)).add 1) = some (.int .i64 (T.pz i).worth) := by
  unfold PT.pz; rw [getD_lt hi]; exact h i hi
theorem c_isMan {n : Int} (hp : PrO s p T) (h : K (.bool (decide (0 ≤ n ∧ n < T.n))) s) : CALL Pg W F_prize_prizes_isMan [.pointer (some p), .int .i64 n] K E s := by
  refine does_prize_prizes_isMan W (some p) n _ s ?_
  unfold T_prize_prizes_isMan
  have hv := okP_vd hp.ok
  have h8 := hv.n8
  obtain ⟨x, c, h1, _⟩ := hp.men
  refine ⟨_, _, _, h1, ?_⟩
  dsimp only
  rw [wrap_i64 (by omega) (by omega)]
  refine c_within ?_
  try simp only [TUP_mk, AGG_mk, HD_mk, NL_mk, TYI_mk, TYB_mk, TYP_mk, TYL_mk, TYS_mk, TYM_mk, SO_mk, NX_mk, endK_mk, endK_mk', add_0]
  have e : decide (0 ≤ n ∧ n ≤ (T.n : Int) - 1) = decide (0 ≤ n ∧ n < T.n) := by congr 1; apply propext; omega
  rw [e]; exact h
theorem c_isPrize {n : Int} (hp : PrO s p T) (h : K (.bool (decide (0 ≤ n ∧ n < T.z))) s) : CALL Pg W F_prize_prizes_isPrize [.pointer (some p), .int .i64 n] K E s := by
  refine does_prize_prizes_isPrize W (some p) n _ s ?_
  unfold T_prize_prizes_isPrize
  have hv := okP_vd hp.ok
  have h8 := hv.z6
  obtain ⟨x, c, h1, _⟩ := hp.lst
  refine ⟨_, _, _, h1, ?_⟩
  dsimp only
  rw [wrap_i64 (by omega) (by omega)]
  refine c_within ?_
  try simp only [TUP_mk, AGG_mk, HD_mk, NL_mk, TYI_mk, TYB_mk, TYP_mk, TYL_mk, TYS_mk, TYM_mk, SO_mk, NX_mk, endK_mk, endK_mk', add_0]
  have e : decide (0 ≤ n ∧ n ≤ (T.z : Int) - 1) = decide (0 ≤ n ∧ n < T.z) := by congr 1; apply propext; omega
  rw [e]; exact h
/-- What a kind's function says of somebody. -/
theorem c_kind {k : Int} {v : Value} {m : Mn} (hk : whoG k = some v) (h : ∀ s', Ext s s' → K (.bool (canK k m)) s') : CALLV Pg W v [.agg #[.int .i64 m.place, .int .i64 m.club, .bool m.nov, .bool m.hor]] K E s := by
  unfold whoG at hk
  split at hk
  · rename_i e; subst e; cases hk
    refine CALLV_func ?_
    refine does_prize_who_c5 W m.place m.club m.nov m.hor _ s ?_
    unfold T_prize_who_c5
    refine ne4 fun s1 e1 z1 o1 o2 o3 o4 => ?_
    refine ⟨_, o2.cell, ?_⟩
    have hh := h s1 e1
    have e : canK 4 m = (m.club != 0) := by
      unfold canK
      by_cases hc : m.club = 0 <;> simp [hc]
    rw [e] at hh
    exact hh
  split at hk
  · rename_i e; subst e; cases hk
    refine CALLV_func ?_
    refine does_prize_who_c4 W m.place m.club m.nov m.hor _ s ?_
    unfold T_prize_who_c4
    refine ne4 fun s1 e1 z1 o1 o2 o3 o4 => ?_
    refine ⟨_, o3.cell, ?_⟩
    have := h s1 e1
    unfold canK at this
    refine BR_bool (fun hb => ⟨_, o4.cell, ?_⟩) (fun hb => ?_)
    · rw [hb] at this; apply endK_ret; simpa using this
    · rw [hb] at this; apply endK_ret; simpa using this
  split at hk
  · rename_i e; subst e; cases hk
    refine CALLV_func ?_
    refine does_prize_who_c3 W m.place m.club m.nov m.hor _ s ?_
    unfold T_prize_who_c3
    refine ne4 fun s1 e1 z1 o1 o2 o3 o4 => ?_
    refine ⟨_, o4.cell, ?_⟩
    have := h s1 e1
    unfold canK at this
    apply endK_ret
    simpa using this
  split at hk
  · rename_i e; subst e; cases hk
    refine CALLV_func ?_
    refine does_prize_who_c2 W m.place m.club m.nov m.hor _ s ?_
    unfold T_prize_who_c2
    refine ne4 fun s1 e1 z1 o1 o2 o3 o4 => ?_
    refine ⟨_, o3.cell, ?_⟩
    have := h s1 e1
    unfold canK at this
    apply endK_ret
    simpa using this
  split at hk
  · rename_i e; subst e; cases hk
    refine CALLV_func ?_
    refine does_prize_who_c1 W m.place m.club m.nov m.hor _ s ?_
    unfold T_prize_who_c1
    refine ne4 fun s1 e1 z1 o1 o2 o3 o4 => ?_
    have := h s1 e1
    unfold canK at this
    apply endK_ret
    simpa using this
  · cases hk
theorem whoG_some {k : Int} (h0 : 0 ≤ k) (h4 : k ≤ 4) : ∃ v, whoG k = some v := by
  unfold whoG
  split
  · exact ⟨_, rfl⟩
  split
  · exact ⟨_, rfl⟩
  split
  · exact ⟨_, rfl⟩
  split
  · exact ⟨_, rfl⟩
  split
  · exact ⟨_, rfl⟩
  · omega
theorem c_can {m z : Nat} (hp : PrO s p T) (hm : m < T.n) (hz : z < T.z) (h : ∀ s', Ext s s' → K (.bool (canP T m z)) s') : CALL Pg W F_prize_prizes_can [.pointer (some p), .int .i64 (m : Nat), .int .i64 (z : Nat)] K E s := by
  refine does_prize_prizes_can W (some p) m z _ s ?_
  unfold T_prize_prizes_can
  obtain ⟨r, r1, r2⟩ := hp.who
  obtain ⟨y, cy, y1, y2⟩ := hp.lst
  obtain ⟨x, cx, x1, x2⟩ := hp.men
  obtain ⟨ay, q0, q1, q2⟩ := pz_row y2 hz
  obtain ⟨ax, w0, w1, w2, w3, w4⟩ := man_row x2 hm
  subst q0
  subst w0
  have hv := okP_vd hp.ok
  have hk := hv.kd z hz
  obtain ⟨v, hwho⟩ := whoG_some hk.1 hk.2
  obtain ⟨e, ht, hzr⟩ := und_90
  refine ⟨_, r1, _, _, _, y1, ?_⟩
  refine IXS_nat hz ?_
  refine ⟨_, q1, _, _, _, x1, ?_⟩
  refine IXS_nat hm ?_
  refine ⟨_, w1, _, w2, _, w3, _, w4, ?_⟩
  refine LKP_v ht hzr r2 (fun v' hv' => ?_) (fun hn => by rw [hwho] at hn; cases hn)
  rw [hwho] at hv'
  cases hv'
  refine ANDS_i ⟨_, w1, _, w2, _, w3, _, w4, rfl⟩ ?_
  refine ANDS_i ⟨_, _, _, x1, rfl⟩ ?_
  refine c_kind hwho fun s1 e1 => ?_
  try simp only [TUP_mk, AGG_mk, HD_mk, NL_mk, TYI_mk, TYB_mk, TYP_mk, TYL_mk, TYS_mk, TYM_mk, SO_mk, NX_mk, endK_mk, endK_mk', add_0]
  exact h s1 e1
end
end Go.Proofs.Ytfaeokcbfnlgbaa.G

/- Arguments by their types. -/
set_option linter.unusedVariables false
set_option linter.unusedSimpArgs false
set_option maxRecDepth 20000
namespace Go.Proofs.Ytfaeokcbfnlgbaa.G
open Go.V
def bytes (l : List Nat) : List Value := l.map fun (b : Nat) => .int .u8 (b : Int)
theorem bytes_len (l : List Nat) : (bytes l).length = l.length := by simp [bytes]
theorem bytes_get {l : List Nat} {i : Nat} (h : i < (bytes l).length) : (bytes l)[i] = .int .u8 ((l[i]'(by simpa [bytes] using h) : Nat) : Int) := by simp [bytes]
section
variable {s : Hp}
theorem rds_25 (n : Nat) (cs : List Value) : Rds Pg s (n + 1) 25 cs = (cs.length = 2 ∧ Rds Pg s n 22 ((cs.drop 0).take 1) ∧ Rds Pg s n 23 ((cs.drop 1).take 1) ∧ True) := by kernel_rfl
theorem rds_48 (n : Nat) (cs : List Value) : Rds Pg s (n + 1) 48 cs = (cs.length = 4 ∧ Rds Pg s n 3 ((cs.drop 0).take 1) ∧ Rds Pg s n 3 ((cs.drop 1).take 1) ∧ Rds Pg s n 4 ((cs.drop 2).take 1) ∧ Rds Pg s n 4 ((cs.drop 3).take 1) ∧ True) := by kernel_rfl
theorem rds_50 (n : Nat) (cs : List Value) : Rds Pg s (n + 1) 50 cs = (cs.length = 2 ∧ Rds Pg s n 3 ((cs.drop 0).take 1) ∧ Rds Pg s n 3 ((cs.drop 1).take 1) ∧ True) := by kernel_rfl
theorem rds_4 (n : Nat) (cs : List Value) : Rds Pg s (n + 1) 4 cs = (∃ b, cs = [.bool b]) := by kernel_rfl
theorem rds_3 (n : Nat) (cs : List Value) : Rds Pg s (n + 1) 3 cs = (∃ m, cs = [.int .i64 m] ∧ (Lit.int .i64 m).wf = true) := by kernel_rfl
theorem rds_5 (n : Nat) (cs : List Value) : Rds Pg s (n + 1) 5 cs = (∃ m, cs = [.int .u8 m] ∧ (Lit.int .u8 m).wf = true) := by kernel_rfl
theorem rds_64 (n : Nat) (cs : List Value) : Rds Pg s (n + 1) 64 cs = (∃ m, cs = [.int .u16 m] ∧ (Lit.int .u16 m).wf = true) := by kernel_rfl
theorem rds_22 (n : Nat) (cs : List Value) : Rds Pg s (n + 1) 22 cs = (∃ a l c, cs = [.slice a l c] ∧ l ≤ c ∧ c ≤ maxLen ∧ (a = none → l = 0 ∧ c = 0) ∧ ∀ i, i < l → ∃ b es, a = some b ∧ es.length = 4 ∧ (∀ j v, es[j]? = some v → cellAt s ((b.add (i * 4)).add j) = some v) ∧ Rds Pg s n 48 es) := by kernel_rfl
theorem rds_23 (n : Nat) (cs : List Value) : Rds Pg s (n + 1) 23 cs = (∃ a l c, cs = [.slice a l c] ∧ l ≤ c ∧ c ≤ maxLen ∧ (a = none → l = 0 ∧ c = 0) ∧ ∀ i, i < l → ∃ b es, a = some b ∧ es.length = 2 ∧ (∀ j v, es[j]? = some v → cellAt s ((b.add (i * 2)).add j) = some v) ∧ Rds Pg s n 50 es) := by kernel_rfl
theorem rds_26 (n : Nat) (cs : List Value) : Rds Pg s (n + 1) 26 cs = (∃ a l c, cs = [.slice a l c] ∧ l ≤ c ∧ c ≤ maxLen ∧ (a = none → l = 0 ∧ c = 0) ∧ ∀ i, i < l → ∃ b es, a = some b ∧ es.length = 1 ∧ (∀ j v, es[j]? = some v → cellAt s ((b.add (i * 1)).add j) = some v) ∧ Rds Pg s n 3 es) := by kernel_rfl
theorem rds_53 (n : Nat) (cs : List Value) : Rds Pg s (n + 1) 53 cs = (∃ a l c, cs = [.slice a l c] ∧ l ≤ c ∧ c ≤ maxLen ∧ (a = none → l = 0 ∧ c = 0) ∧ ∀ i, i < l → ∃ b es, a = some b ∧ es.length = 1 ∧ (∀ j v, es[j]? = some v → cellAt s ((b.add (i * 1)).add j) = some v) ∧ Rds Pg s n 5 es) := by kernel_rfl
theorem ag_25 : isAg Pg 25 = true := by kernel_rfl
theorem ag_3 : isAg Pg 3 = false := by kernel_rfl
theorem ag_4 : isAg Pg 4 = false := by kernel_rfl
theorem ag_5 : isAg Pg 5 = false := by kernel_rfl
theorem ag_64 : isAg Pg 64 = false := by kernel_rfl
theorem ag_26 : isAg Pg 26 = false := by kernel_rfl
theorem ag_53 : isAg Pg 53 = false := by kernel_rfl
theorem choose_of {α : Type} {P : Nat → α → Prop} : ∀ l : Nat, (∀ i, i < l → ∃ m, P i m) → ∃ ms : List α, ms.length = l ∧ ∀ i (h : i < ms.length), P i ms[i]
  | 0, _ => ⟨[], rfl, fun i h => by simp at h⟩
  | l + 1, h => by
    obtain ⟨ms, h1, h2⟩ := choose_of l (fun i hi => h i (by omega))
    obtain ⟨m, hm⟩ := h l (by omega)
    refine ⟨ms ++ [m], by simp [h1], fun i hi => ?_⟩
    by_cases hil : i < ms.length
    · rw [List.getElem_append_left hil]; exact h2 i hil
    · simp at hi
      have : i = ms.length := by omega
      subst this
      rw [List.getElem_append_right (Nat.le_refl _)]
      simp [h1]; exact hm
theorem mn_rds {n : Nat} {es : List Value} (h : Rds Pg s (n + 2) 48 es) : ∃ m : Mn, es = [.int .i64 m.place, .int .i64 m.club, .bool m.nov, .bool m.hor] := by
  rw [rds_48, rds_3, rds_3, rds_4, rds_4] at h
  obtain ⟨h0, ⟨a, h1, _⟩, ⟨b, h2, _⟩, ⟨c, h3⟩, ⟨d, h4⟩, _⟩ := h
  match es, h0 with
  | [p, q, u, w], _ =>
    simp at h1 h2 h3 h4
    subst h1; subst h2; subst h3; subst h4
    exact ⟨⟨a, b, c, d⟩, rfl⟩
theorem pz_rds {n : Nat} {es : List Value} (h : Rds Pg s (n + 2) 50 es) : ∃ m : Pz, es = [.int .i64 m.kind, .int .i64 m.worth] := by
  rw [rds_50, rds_3, rds_3] at h
  obtain ⟨h0, ⟨a, h1, _⟩, ⟨b, h2, _⟩, _⟩ := h
  match es, h0 with
  | [p, q], _ =>
    simp at h1 h2
    subst h1; subst h2
    exact ⟨⟨a, b⟩, rfl⟩
theorem prizes_rd {v : Value} (h : RdV Pg s 25 v) : ∃ x c y c' T, v = .agg #[.slice x (T : PT).n c, .slice y T.z c'] ∧ MnAt s x T.men ∧ PzAt s y T.list := by
  obtain ⟨cs, rfl, h⟩ := h
  rw [ag_25, rds_25, rds_22, rds_23] at *
  obtain ⟨h0, ⟨a, l, c, h3, _, _, _, h4⟩, ⟨b, k, c', h5, _, _, _, h6⟩, _⟩ := h
  match cs, h0 with
  | [u, w], _ =>
    simp at h3 h5
    subst h3; subst h5
    have key1 : ∀ i, i < l → ∃ z : Mn, ∃ d, a = some d ∧ cellAt s ((d.add (i * 4)).add 0) = some (.int .i64 z.place) ∧ cellAt s ((d.add (i * 4)).add 1) = some (.int .i64 z.club) ∧ cellAt s ((d.add (i * 4)).add 2) = some (.bool z.nov) ∧ cellAt s ((d.add (i * 4)).add 3) = some (.bool z.hor) := by
      intro i hi
      obtain ⟨d, es, hd, hes, hc, hr⟩ := h4 i hi
      obtain ⟨z, rfl⟩ := mn_rds (n := 4) hr
      exact ⟨z, d, hd, hc 0 _ rfl, hc 1 _ rfl, hc 2 _ rfl, hc 3 _ rfl⟩
    have key2 : ∀ i, i < k → ∃ z : Pz, ∃ d, b = some d ∧ cellAt s ((d.add (i * 2)).add 0) = some (.int .i64 z.kind) ∧ cellAt s ((d.add (i * 2)).add 1) = some (.int .i64 z.worth) := by
      intro i hi
      obtain ⟨d, es, hd, hes, hc, hr⟩ := h6 i hi
      obtain ⟨z, rfl⟩ := pz_rds (n := 4) hr
      exact ⟨z, d, hd, hc 0 _ rfl, hc 1 _ rfl⟩
    obtain ⟨os, hl, ho⟩ := choose_of l key1
    obtain ⟨ss, hk, hs⟩ := choose_of k key2
    subst hl
    subst hk
    exact ⟨a, c, b, c', ⟨os, ss⟩, rfl, fun i hi => ho i hi, fun i hi => hs i hi⟩
theorem ints_rd {v : Value} (h : RdV Pg s 26 v) : ∃ x c ds, v = .slice x (ds : List Int).length c ∧ RowAt s x (ints ds) ∧ ds.length ≤ c ∧ c ≤ maxLen := by
  obtain ⟨cs, rfl, h⟩ := h
  rw [ag_26, rds_26] at *
  obtain ⟨a, l, c, rfl, h2, h3, h4, h5⟩ := h
  have key : ∀ i, i < l → ∃ z : Int, ∃ d, a = some d ∧ cellAt s (d.add (i * 1)) = some (.int .i64 z) := by
    intro i hi
    obtain ⟨d, es, hd, hes, hc, hr⟩ := h5 i hi
    rw [rds_3] at hr
    obtain ⟨z, rfl, _⟩ := hr
    exact ⟨z, d, hd, hc 0 _ rfl⟩
  obtain ⟨os, hl, ho⟩ := choose_of l key
  subst hl
  refine ⟨a, c, os, rfl, fun i hi => ?_, h2, h3⟩
  have hi' : i < os.length := by rw [ints_len] at hi; exact hi
  rw [ints_get hi]
  exact ho i hi'
theorem bool_rd {v : Value} (h : RdV Pg s 4 v) : ∃ b, v = .bool b := by
  obtain ⟨cs, rfl, h⟩ := h
  rw [ag_4, rds_4] at *
  obtain ⟨b, rfl⟩ := h
  exact ⟨b, rfl⟩
theorem int_rd {v : Value} (h : RdV Pg s 3 v) : ∃ n, v = .int .i64 n := by
  obtain ⟨cs, rfl, h⟩ := h
  rw [ag_3, rds_3] at *
  obtain ⟨m, rfl, hw⟩ := h
  exact ⟨m, rfl⟩
theorem u8_wf {m : Int} (h : (Lit.int .u8 m).wf = true) : 0 ≤ m ∧ m ≤ 255 := by
  simp [Lit.wf, IntKind.min, IntKind.max, IntKind.bits, IntKind.signed] at h; omega
theorem u16_wf {m : Int} (h : (Lit.int .u16 m).wf = true) : 0 ≤ m ∧ m ≤ 65535 := by
  simp [Lit.wf, IntKind.min, IntKind.max, IntKind.bits, IntKind.signed] at h; omega
theorem i64_wf {m : Int} (h : (Lit.int .i64 m).wf = true) : -9223372036854775808 ≤ m ∧ m ≤ 9223372036854775807 := by
  simp [Lit.wf, IntKind.min, IntKind.max, IntKind.bits, IntKind.signed] at h; omega
theorem u8_rd {v : Value} (h : RdV Pg s 5 v) : ∃ n : Nat, v = .int .u8 n ∧ n < 256 := by
  obtain ⟨cs, rfl, h⟩ := h
  rw [ag_5, rds_5] at *
  obtain ⟨m, rfl, hw⟩ := h
  obtain ⟨h1, h2⟩ := u8_wf hw
  obtain ⟨n, rfl⟩ := Int.eq_ofNat_of_zero_le h1
  exact ⟨n, rfl, by omega⟩
theorem u16_rd {v : Value} (h : RdV Pg s 64 v) : ∃ n : Nat, v = .int .u16 n ∧ n < 65536 := by
  obtain ⟨cs, rfl, h⟩ := h
  rw [ag_64, rds_64] at *
  obtain ⟨m, rfl, hw⟩ := h
  obtain ⟨h1, h2⟩ := u16_wf hw
  obtain ⟨n, rfl⟩ := Int.eq_ofNat_of_zero_le h1
  exact ⟨n, rfl, by omega⟩
theorem u8s_rd {v : Value} (h : RdV Pg s 53 v) : ∃ x c bs, v = .slice x (bs : List Nat).length c ∧ RowAt s x (bytes bs) ∧ (∀ b ∈ bs, b < 256) ∧ bs.length ≤ maxLen := by
  obtain ⟨cs, rfl, h⟩ := h
  rw [ag_53, rds_53] at *
  obtain ⟨a, l, c, rfl, h2, h3, h4, h5⟩ := h
  have key : ∀ i, i < l → ∃ z : Nat, z < 256 ∧ ∃ d, a = some d ∧ cellAt s (d.add (i * 1)) = some (.int .u8 z) := by
    intro i hi
    obtain ⟨d, es, hd, hes, hc, hr⟩ := h5 i hi
    rw [rds_5] at hr
    obtain ⟨z, rfl, hw⟩ := hr
    obtain ⟨w1, w2⟩ := u8_wf hw
    obtain ⟨n, rfl⟩ := Int.eq_ofNat_of_zero_le w1
    exact ⟨n, by omega, d, hd, hc 0 _ rfl⟩
  obtain ⟨bs, hl, hb⟩ := choose_of l key
  subst hl
  refine ⟨a, c, bs, rfl, fun i hi => ?_, fun b hb' => ?_, Nat.le_trans h2 h3⟩
  · have hi' : i < bs.length := by rw [bytes_len] at hi; exact hi
    rw [bytes_get hi]
    exact (hb i hi').2
  · obtain ⟨i, hi, rfl⟩ := List.mem_iff_getElem.1 hb'
    exact (hb i hi).1
end
end Go.Proofs.Ytfaeokcbfnlgbaa.G

/- Prize: prizes are opened. -/
set_option linter.unusedSimpArgs false
set_option linter.unusedVariables false
set_option maxRecDepth 20000
namespace Go.Proofs.Ytfaeokcbfnlgbaa.G
open Go.V
theorem zc_48 : zc Pg 48 = [.int .i64 0, .int .i64 0, .bool false, .bool false] := by kernel_rfl
theorem zc_50 : zc Pg 50 = [.int .i64 0, .int .i64 0] := by kernel_rfl
/-- Who is at a place, of some. -/
def atL (l : List Mn) (j : Int) : Int := match l.findIdx? (fun m => decide (m.place = j)) with | some i => (i : Nat) | none => -1
theorem atL_none {l : List Mn} {j : Int} : (atL l j == -1) = l.all (fun x => decide (x.place ≠ j)) := by
  unfold atL
  cases h : l.findIdx? (fun m => decide (m.place = j)) with
  | some i =>
    have hne : (((i : Nat) : Int) == -1) = false := by
      have : ¬ ((i : Nat) : Int) = -1 := by omega
      simp
    show (((i : Nat) : Int) == -1) = _
    rw [hne]
    obtain ⟨h1, h2, _⟩ := List.findIdx?_eq_some_iff_getElem.1 h
    have : l.all (fun x => decide (x.place ≠ j)) = false := by
      rw [List.all_eq_false]
      exact ⟨l[i], List.getElem_mem h1, by simpa using h2⟩
    rw [this]
  | none =>
    show ((-1 : Int) == -1) = _
    have h2 := List.findIdx?_eq_none_iff.1 h
    have : l.all (fun x => decide (x.place ≠ j)) = true := by
      rw [List.all_eq_true]
      intro x hx
      have := h2 x hx
      simpa using this
    rw [this]; rfl
theorem atL_app {l : List Mn} {m : Mn} {j : Int} (h : l.all (fun x => decide (x.place ≠ m.place)) = true) : atL (l ++ [m]) j = if j = m.place then ((l.length : Nat) : Int) else atL l j := by
  unfold atL
  rw [List.findIdx?_append]
  by_cases hj : j = m.place
  · subst hj
    have : l.findIdx? (fun x => decide (x.place = m.place)) = none := by
      rw [List.findIdx?_eq_none_iff]
      intro x hx
      have := List.all_eq_true.1 h x hx
      simpa using this
    rw [this, if_pos rfl]
    simp [List.findIdx?_cons]
  · rw [if_neg hj]
    have : ([m] : List Mn).findIdx? (fun x => decide (x.place = j)) = none := by
      rw [List.findIdx?_eq_none_iff]
      intro x hx
      simp at hx; subst hx
      simpa using fun e => hj e.symm
    rw [this]
    cases l.findIdx? (fun x => decide (x.place = j)) <;> rfl
theorem atL_idx {T : PT} {j : Int} (h : idx T j < T.n) : atL T.men j = (idx T j : Nat) := by
  unfold atL idx
  have h1 : T.men.findIdx? (fun m => decide (m.place = j)) = some (T.men.findIdx fun m => decide (m.place = j)) := by
    rw [List.findIdx?_eq_some_iff_findIdx_eq]
    exact ⟨h, rfl⟩
  rw [h1]
theorem okMs_step {n k : Nat} {l : List Mn} (hk : k < l.length) : okMs n (l.take k) (l.drop k) = (okMn n (l.take k) l[k] && okMs n (l.take (k + 1)) (l.drop (k + 1))) := by
  rw [List.drop_eq_getElem_cons hk]
  conv => lhs; unfold okMs
  rw [List.take_add_one, List.getElem?_eq_getElem hk]
  rfl
section
variable {W : World} {K : VK} {E : List PanicEntry → Hp → Prop} {s : Hp} {T : PT}
theorem p3_ne {P : Addr} {i j : Nat} (h : i ≠ j) : ((P.add 3).add i).block ≠ ((P.add 3).add j).block ∨ ((P.add 3).add i).off ≠ ((P.add 3).add j).off := .inr (by simp only [add_of]; omega)
theorem p3_kp {P b : Addr} {i : Nat} {t : Hp} {v w : Value} (hb : b.block ≠ P.block ∨ b.off < P.off + 3) (ho : Own t b v) : Own (setC t ((P.add 3).add i) w) b v := by
  refine own_set_ne ?_ ho
  rw [add_blk, add_blk, add_of, add_of]
  rcases hb with h | h
  · exact .inl h
  · exact .inr (by omega)
theorem IXS_at {x : Option Addr} {a : Addr} {l i es : Nat} {K : Addr → Hp → Prop} {s : Hp} (hx : x = some a) (h : i < l) (hk : K (a.add (i * es)) s) : IXS x l (i : Int) es K s := by
  subst hx; exact IXS_nat h hk
theorem p3_blk {P : Addr} {n i : Nat} (hP : P.block = n) : n ≤ ((P.add 3).add i).block := by rw [add_blk, add_blk, hP]; exact Nat.le_refl _
theorem open_run {A P : Addr} {s0 : Hp} {x y : Option Addr} {c1 c2 r : Nat} (e : Ext s0 s) (hP : P.block = s0.size) (hA0 : cellAt s0 (A.add 0) = some (.slice x T.n c1)) (hA1 : cellAt s0 (A.add 1) = some (.slice y T.z c2))
    (hx : MnAt s0 x T.men) (hy : PzAt s0 y T.list) (hm : MapI s0 r whoG) (p0 : Own s (P.add 0) (.slice x T.n c1)) (p1 : Own s (P.add 1) (.slice y T.z c2)) (p2 : Own s (P.add 2) (.map (some r))) (p3 : ∀ k : Nat, k < 9 → ∃ v, Own s ((P.add 3).add k) v)
    (hn : 1 ≤ T.n ∧ T.n ≤ 8) (hz : T.z ≤ 6) (h1 : okP T = true → ∀ t, Ext s0 t → PrO t P T → K (.pointer (some P)) t) (h2 : okP T = false → ∀ t, Ext s0 t → E (pn 1) t) : L_prize_open_0 W (endK K E) A P T.n 0 s := by
  have low : ∀ j, j < 3 → (P.add j).block ≠ P.block ∨ (P.add j).off < P.off + 3 := fun j hj => .inr (by rw [add_of]; omega)
  refine L_prize_open_0_rule W _ A P T.n (fun n t => Ext s0 t ∧ Own t (P.add 0) (.slice x T.n c1) ∧ Own t (P.add 1) (.slice y T.z c2) ∧ Own t (P.add 2) (.map (some r)) ∧ ∃ k : Nat, k ≤ 9 ∧ n = k ∧ (∀ i, i < k → Own t ((P.add 3).add i) (.int .i64 (-1))) ∧ ∀ i, k ≤ i → i < 9 → ∃ v, Own t ((P.add 3).add i) v) (fun n _ => (9 - n).toNat) 0 s ⟨e, p0, p1, p2, 0, by omega, rfl, fun i hi => by omega, fun i _ hi => p3 i hi⟩ ?_
  rintro n t ⟨et, q0, q1, q2, k, hk, rfl, hdone, hrest⟩
  unfold B_prize_open_0
  refine BR_dec (fun hlt => ?_) (fun hlt => ?_)
  · have hk9 : k < 9 := by omega
    refine ⟨⟨by omega, by omega⟩, ?_⟩
    rw [toNat_nat, Nat.mul_one]
    obtain ⟨v, hv⟩ := hrest k (Nat.le_refl _) hk9
    refine WR_own hv rfl ?_
    refine ⟨rfl, _, rfl, ⟨Ext.setC et (p3_blk hP), p3_kp (low 0 (by omega)) q0, p3_kp (low 1 (by omega)) q1, p3_kp (low 2 (by omega)) q2, k + 1, hk9, wrap_succ (by omega), fun i hi => ?_, fun i hi1 hi2 => ?_⟩, ms_succ (n := 9) hk9 (by decide)⟩
    · by_cases h : i = k
      · subst h; exact own_set hv
      · exact own_set_ne (p3_ne h) (hdone i (by omega))
    · obtain ⟨v', hv'⟩ := hrest i (by omega) hi2
      exact ⟨v', own_set_ne (p3_ne (by omega)) hv'⟩
  have hk9 : k = 9 := by omega
  subst hk9
  refine ⟨_, _, _, et.cell hA0, ?_⟩
  have hokP : okP T = (okMs T.n [] T.men && T.list.all okZ) := by
    unfold okP
    rw [decide_eq_true (by omega : 1 ≤ (T.n : Int) ∧ (T.n : Int) ≤ 8), decide_eq_true (show T.list.length ≤ 6 from hz)]
    rfl
  refine L_prize_open_1_rule W _ A P T.n x T.n c1 T.n (fun n t => Ext s0 t ∧ Own t (P.add 0) (.slice x T.n c1) ∧ Own t (P.add 1) (.slice y T.z c2) ∧ Own t (P.add 2) (.map (some r)) ∧ ∃ k : Nat, k ≤ T.n ∧ n = k ∧ okMs T.n [] T.men = okMs T.n (T.men.take k) (T.men.drop k) ∧ ∀ i : Nat, i < 9 → Own t ((P.add 3).add i) (.int .i64 (atL (T.men.take k) i))) (fun n _ => (T.n - n).toNat) 0 t
    ⟨et, q0, q1, q2, 0, by omega, rfl, rfl, fun i hi => hdone i hi⟩ ?_
  rintro n t ⟨et, q0, q1, q2, k, hk, rfl, hok, hat⟩
  unfold B_prize_open_1
  refine BR_dec (fun hlt => ?_) (fun hlt => ?_)
  · have hkn : k < T.n := by omega
    obtain ⟨ax, w0, w1, w2, w3, w4⟩ := man_row (hx.ext et) hkn
    refine IXS_at w0 hkn ?_
    refine ⟨_, w1, _, w2, _, w3, _, w4, ?_⟩
    obtain ⟨m, hm'⟩ : ∃ m, T.man k = m := ⟨_, rfl⟩
    rw [hm'] at w1 w2 w3 w4
    rw [hm']
    have hmk : T.men[k]'hkn = m := by rw [← hm']; unfold PT.man; rw [getD_lt hkn]
    have hstep := okMs_step (n := T.n) (l := T.men) hkn
    rw [hmk] at hstep
    generalize hnx : (fun vs : List Value => _) = nx
    refine nw4 zc_48 rfl rfl rfl rfl fun t2 e2 z2 o1 o2 o3 o4 => ?_
    refine ⟨_, o1.cell, ?_⟩
    refine c_within ?_
    try simp only [TUP_mk, AGG_mk, HD_mk, NL_mk, TYI_mk, TYB_mk, TYP_mk, TYL_mk, TYS_mk, TYM_mk, SO_mk, NX_mk, endK_mk, endK_mk', add_0]
    have et2 := et.trans e2
    have fin : ∀ b, (b = true → okMn T.n (T.men.take k) m = true) → (b = false → okMn T.n (T.men.take k) m = false) → J_prize_open_1 W (endK K E) b t.size P k A T.n x T.n c1 T.n nx t2 := by
      intro b hb1 hb2
      unfold J_prize_open_1
      refine c_must (fun hb => ?_) (fun hb => h2 ?_ t2 et2)
      · try simp only [TUP_mk, AGG_mk, HD_mk, NL_mk, TYI_mk, TYB_mk, TYP_mk, TYL_mk, TYS_mk, TYM_mk, SO_mk, NX_mk, endK_mk, endK_mk', add_0]
        refine ⟨_, o1.cell, ?_⟩
        have hmn := hb1 hb
        have hmn' := hmn
        unfold okMn at hmn
        simp only [Bool.and_eq_true, decide_eq_true_eq] at hmn
        obtain ⟨g1, g2, g3⟩ := hmn
        refine ⟨⟨by omega, by omega⟩, ?_⟩
        obtain ⟨pl, hpl⟩ : ∃ pl : Nat, m.place = pl := ⟨m.place.toNat, by omega⟩
        rw [hpl, toNat_nat, Nat.mul_one]
        have hpl9 : pl < 9 := by omega
        refine WR_own (e2.own (hat pl hpl9)) rfl ?_
        rw [← hnx]
        refine ⟨_, rfl, ⟨Ext.setC et2 (p3_blk hP), p3_kp (low 0 (by omega)) (e2.own q0), p3_kp (low 1 (by omega)) (e2.own q1), p3_kp (low 2 (by omega)) (e2.own q2), k + 1, hkn, wrap_succ (by omega), ?_, fun i hi => ?_⟩, ms_succ hkn (by omega)⟩
        · rw [hok, hstep, hmn', Bool.true_and]
        · have htake : T.men.take (k + 1) = T.men.take k ++ [m] := by rw [List.take_add_one, List.getElem?_eq_getElem hkn, hmk]; rfl
          rw [htake, atL_app g2]
          have hlen : (T.men.take k).length = k := by rw [List.length_take]; exact Nat.min_eq_left hk
          rw [hlen]
          by_cases h : i = pl
          · subst h
            rw [if_pos hpl.symm]
            exact own_set (e2.own (hat i hi))
          · rw [if_neg (by omega)]
            exact own_set_ne (p3_ne h) (e2.own (hat i hi))
      · rw [hokP, hok, hstep, hb2 hb]; rfl
    have fin2 : ∀ b, decide (1 ≤ m.place ∧ m.place ≤ (T.n : Int)) = true → (b = (T.men.take k).all (fun x => decide (x.place ≠ m.place))) → J_prize_open_2 W (endK K E) b t.size P k A T.n x T.n c1 T.n nx t2 := by
      intro b hd hb
      unfold J_prize_open_2
      refine BR_bool (fun h => ?_) (fun h => ?_)
      · refine ⟨_, o2.cell, ?_⟩
        refine c_within ?_
        try simp only [TUP_mk, AGG_mk, HD_mk, NL_mk, TYI_mk, TYB_mk, TYP_mk, TYL_mk, TYS_mk, TYM_mk, SO_mk, NX_mk, endK_mk, endK_mk', add_0]
        refine fin _ (fun h3 => ?_) (fun h3 => ?_)
        · unfold okMn; rw [hd, ← hb, h, h3]; rfl
        · unfold okMn; rw [hd, ← hb, h, h3]; rfl
      · refine fin _ (fun h3 => by cases h3) (fun h3 => ?_)
        unfold okMn; rw [hd, ← hb, h]; rfl
    refine BR_bool (fun hd => ?_) (fun hd => ?_)
    · have hd' := of_decide_eq_true hd
      refine ⟨_, o1.cell, ?_⟩
      refine ⟨⟨by omega, by omega⟩, ?_⟩
      obtain ⟨pl, hpl⟩ : ∃ pl : Nat, m.place = pl := ⟨m.place.toNat, by omega⟩
      rw [hpl, toNat_nat, Nat.mul_one]
      refine ⟨_, (e2.own (hat pl (by omega))).cell, ?_⟩
      refine fin2 _ hd ?_
      rw [← hpl]; exact atL_none
    · unfold J_prize_open_2
      refine BR_ff rfl ?_
      refine fin _ (fun h3 => by cases h3) (fun h3 => ?_)
      unfold okMn; rw [hd]; rfl
  have hkn : k = T.n := by omega
  subst hkn
  refine ⟨_, _, _, et.cell hA1, ?_⟩
  have htl : T.men.take T.n = T.men := List.take_length
  have hdl : T.men.drop T.n = [] := List.drop_length
  rw [htl] at hok hat
  rw [hdl] at hok
  have hokM : okMs T.n [] T.men = true := hok
  refine L_prize_open_2_rule W _ P y T.z c2 T.z (fun n t => Ext s0 t ∧ Own t (P.add 0) (.slice x T.n c1) ∧ Own t (P.add 1) (.slice y T.z c2) ∧ Own t (P.add 2) (.map (some r)) ∧ (∀ i : Nat, i < 9 → Own t ((P.add 3).add i) (.int .i64 (atL T.men i))) ∧ ∃ k : Nat, k ≤ T.z ∧ n = k ∧ ∀ j, j < k → okZ (T.pz j) = true) (fun n _ => (T.z - n).toNat) 0 t
    ⟨et, q0, q1, q2, hat, 0, by omega, rfl, fun i hi => by omega⟩ ?_
  rintro n t ⟨et, q0, q1, q2, hat, k, hk, rfl, hall⟩
  unfold B_prize_open_2
  refine BR_dec (fun hlt => ?_) (fun hlt => ?_)
  · have hkz : k < T.z := by omega
    obtain ⟨ay, w0, w1, w2⟩ := pz_row (hy.ext et) hkz
    refine IXS_at w0 hkz ?_
    refine ⟨_, w1, _, w2, ?_⟩
    generalize hnx : (fun vs : List Value => _) = nx
    refine nw2 zc_50 rfl rfl fun t2 e2 z2 o1 o2 => ?_
    have et2 := et.trans e2
    refine ⟨_, (e2.own q2).cell, _, o1.cell, ?_⟩
    have hlist : okZ (T.pz k) = false → okP T = false := fun hf => by
      rw [hokP]
      have : T.list.all okZ = false := by
        rw [List.all_eq_false]
        refine ⟨T.pz k, ?_, by rw [hf]; simp⟩
        unfold PT.pz; rw [getD_lt hkz]; exact List.getElem_mem hkz
      rw [this, Bool.and_false]
    have fin : ∀ b, (b = okZ (T.pz k)) → J_prize_open_3 W (endK K E) b P y T.z c2 T.z nx k t2 := by
      intro b hb
      unfold J_prize_open_3
      refine c_must (fun h => ?_) (fun h => h2 (hlist (by rw [← hb]; exact h)) t2 et2)
      try simp only [TUP_mk, AGG_mk, HD_mk, NL_mk, TYI_mk, TYB_mk, TYP_mk, TYL_mk, TYS_mk, TYM_mk, SO_mk, NX_mk, endK_mk, endK_mk', add_0]
      rw [← hnx]
      refine ⟨_, rfl, ⟨et2, e2.own q0, e2.own q1, e2.own q2, fun i hi => e2.own (hat i hi), k + 1, hkz, wrap_succ (by omega), fun j hj => ?_⟩, ms_succ hkz (by omega)⟩
      by_cases h3 : j = k
      · subst h3; rw [← hb]; exact h
      · exact hall j (by omega)
    obtain ⟨e90, ht, hzr⟩ := und_90
    refine LKP_v ht hzr (hm.ext et2) (fun v hv => ?_) (fun hv => ?_)
    · try simp only [TUP_mk, AGG_mk, HD_mk, NL_mk, TYI_mk, TYB_mk, TYP_mk, TYL_mk, TYS_mk, TYM_mk, SO_mk, NX_mk, endK_mk, endK_mk', add_0]
      refine ⟨_, o2.cell, ?_⟩
      refine c_within ?_
      try simp only [TUP_mk, AGG_mk, HD_mk, NL_mk, TYI_mk, TYB_mk, TYP_mk, TYL_mk, TYS_mk, TYM_mk, SO_mk, NX_mk, endK_mk, endK_mk', add_0]
      refine fin _ ?_
      unfold okZ
      have : 0 ≤ (T.pz k).kind ∧ (T.pz k).kind ≤ 4 := by
        unfold whoG at hv
        split at hv
        · omega
        split at hv
        · omega
        split at hv
        · omega
        split at hv
        · omega
        split at hv
        · omega
        · cases hv
      rw [decide_eq_true this]; rfl
    · try simp only [TUP_mk, AGG_mk, HD_mk, NL_mk, TYI_mk, TYB_mk, TYP_mk, TYL_mk, TYS_mk, TYM_mk, SO_mk, NX_mk, endK_mk, endK_mk', add_0]
      refine fin _ ?_
      unfold okZ
      have : ¬ (0 ≤ (T.pz k).kind ∧ (T.pz k).kind ≤ 4) := fun hh => by
        obtain ⟨v, hv2⟩ := whoG_some hh.1 hh.2
        rw [hv] at hv2; cases hv2
      rw [decide_eq_false this]; rfl
  have hkz : k = T.z := by omega
  subst hkz
  have hokl : T.list.all okZ = true := by
    rw [List.all_eq_true]
    intro z hz'
    obtain ⟨j, hj, rfl⟩ := List.mem_iff_getElem.1 hz'
    have := hall j hj
    unfold PT.pz at this
    rwa [getD_lt hj] at this
  have hokT : okP T = true := by rw [hokP, hokM, hokl]; rfl
  have hv := okP_vd hokT
  refine h1 hokT t et ⟨hokT, ⟨x, c1, q0.cell, hx.ext et⟩, ⟨y, c2, q1.cell, hy.ext et⟩, ⟨r, q2.cell, hm.ext et⟩, fun k hk => ?_⟩
  have := (hat (k + 1) (by omega)).cell
  rw [atL_idx (hv.sur _ (by omega) (by omega)).1] at this
  exact this
theorem c_open {x y : Option Addr} {c1 c2 : Nat} (hx : MnAt s x T.men) (hy : PzAt s y T.list) (h1 : okP T = true → ∀ s' p, Ext s s' → PrO s' p T → K (.pointer (some p)) s') (h2 : okP T = false → ∀ s', Ext s s' → E (pn 1) s') :
    CALL Pg W F_prize_open [.agg #[.slice x T.n c1, .slice y T.z c2]] K E s := by
  refine does_prize_open W x T.n c1 y T.z c2 _ s ?_
  unfold T_prize_open
  refine ne2 fun s1 e1 z1 o1 o2 => ?_
  refine ⟨_, _, _, o1.cell, _, _, _, o2.cell, ?_⟩
  refine c_who fun s2 r e2 m2 => ?_
  try simp only [TUP_mk, AGG_mk, HD_mk, NL_mk, TYI_mk, TYB_mk, TYP_mk, TYL_mk, TYS_mk, TYM_mk, SO_mk, NX_mk, endK_mk, endK_mk', add_0]
  have e12 := e1.trans e2
  refine ANDS_i ⟨_, _, _, e2.cell o1.cell, _, _, _, e2.cell o2.cell, rfl⟩ ?_
  refine NEW_rule fun s3 e3 z3 n3 _ => ?_
  have e13 := e12.trans e3
  have e23 := e2.trans e3
  refine ⟨_, _, _, e23.cell o1.cell, ?_⟩
  dsimp only
  refine c_within ?_
  try simp only [TUP_mk, AGG_mk, HD_mk, NL_mk, TYI_mk, TYB_mk, TYP_mk, TYL_mk, TYS_mk, TYM_mk, SO_mk, NX_mk, endK_mk, endK_mk', add_0]
  have no : ¬ ((1 ≤ T.n ∧ T.n ≤ 8) ∧ T.z ≤ 6) → okP T = false := fun hn => by
    cases h : okP T with
    | false => rfl
    | true => exact absurd ⟨(okP_iff.1 h).1, (okP_iff.1 h).2.1⟩ hn
  have first : ∀ b, (b = decide ((1 ≤ T.n ∧ T.n ≤ 8) ∧ T.z ≤ 6)) → J_prize_open_0 W (endK K E) b s.size s2.size T.n s3 := by
    intro b hb
    unfold J_prize_open_0
    refine c_must (fun h => ?_) (fun h => h2 (no ?_) s3 e13)
    · rw [h] at hb
      have hb' := of_decide_eq_true hb.symm
      try simp only [TUP_mk, AGG_mk, HD_mk, NL_mk, TYI_mk, TYB_mk, TYP_mk, TYL_mk, TYS_mk, TYM_mk, SO_mk, NX_mk, endK_mk, endK_mk', add_0]
      refine open_run (s0 := s2) (x := x) (y := y) (c1 := c1) (c2 := c2) (r := r) e3 rfl (e2.cell o1.cell) (e2.cell o2.cell) (hx.ext e12) (hy.ext e12) m2 ?_ ?_ ?_ ?_ hb'.1 hb'.2 (fun hok t et hp => h1 hok t _ (e12.trans et) hp) (fun hok t et => h2 hok t (e12.trans et))
      · rw [add_nil]; exact n3 0 _ rfl
      · rw [add_nil]; exact n3 1 _ rfl
      · rw [add_nil]; exact n3 2 _ rfl
      · intro k hk
        refine ⟨.int .i64 0, ?_⟩
        rw [addr_add, add_nil]
        refine n3 (0 + (3 + k)) _ ?_
        have : k = 0 ∨ k = 1 ∨ k = 2 ∨ k = 3 ∨ k = 4 ∨ k = 5 ∨ k = 6 ∨ k = 7 ∨ k = 8 := by omega
        rcases this with rfl | rfl | rfl | rfl | rfl | rfl | rfl | rfl | rfl <;> rfl
    · intro hn
      rw [decide_eq_true hn] at hb
      rw [hb] at h; cases h
  refine BR_dec (fun hn => ?_) (fun hn => ?_)
  · refine ⟨_, _, _, e23.cell o2.cell, ?_⟩
    refine first _ ?_
    congr 1
    apply propext
    constructor
    · exact fun h => ⟨by omega, by omega⟩
    · exact fun h => by omega
  · refine first _ ?_
    exact (decide_eq_false (fun h => hn (by omega))).symm
end
end Go.Proofs.Ytfaeokcbfnlgbaa.G

/- Prize: all by their places; who gets a prize. -/
set_option linter.unusedSimpArgs false
set_option linter.unusedVariables false
set_option maxRecDepth 20000
namespace Go.Proofs.Ytfaeokcbfnlgbaa.G
open Go.V
theorem zc_3 : zc Pg 3 = [.int .i64 0] := by kernel_rfl
/-- A function that says who is wanted. -/
structure IsFn (W : World) (v : Value) (n : Nat) (R : Hp → Prop) (f : Nat → Bool) : Prop where
  one : oneCell v = true
  blind : Blind R
  ext : ∀ s s', R s → Ext s s' → R s'
  call : ∀ (s : Hp) (m : Nat), m < n → R s → ∀ (K : VK) (E : List PanicEntry → Hp → Prop), (∀ s', Ext s s' → K (.bool (f m)) s') → CALLV Pg W v [.int .i64 (m : Nat)] K E s
def ordF (T : PT) (f : Nat → Bool) : List Nat := (ordP T).filter f
def ordV (T : PT) (f : Nat → Bool) : List (List Value) := (ordF T f).map fun (m : Nat) => [.int .i64 (m : Int)]
def OrdR (p : Addr) (T : PT) (a b : Addr) (v : Value) (R : Hp → Prop) : Hp → Prop := fun s => PrO s p T ∧ cellAt s a = some (.pointer (some p)) ∧ cellAt s b = some v ∧ R s
def ordN (T : PT) (f : Nat → Bool) (k : Nat) : Nat := (((ordP T).take k).filter f).length
theorem ordN_succ {T : PT} {f : Nat → Bool} {k : Nat} (hk : k < T.n) : ordN T f (k + 1) = ordN T f k + (if f (idx T ((k + 1 : Nat) : Int)) then 1 else 0) := by
  unfold ordN
  rw [List.take_add_one, ord_get hk, List.filter_append, List.length_append]
  congr 1
  show (List.filter f [idx T ((k + 1 : Nat) : Int)]).length = _
  generalize idx T ((k + 1 : Nat) : Int) = i
  cases h : f i <;> simp [h]
theorem ordN_get {T : PT} {f : Nat → Bool} {k : Nat} (hk : k < T.n) (hf : f (idx T ((k + 1 : Nat) : Int)) = true) : (ordF T f)[ordN T f k]? = some (idx T ((k + 1 : Nat) : Int)) := by
  have hk' : k < (ordP T).length := by rw [ord_len]; exact hk
  have h := ord_get hk
  rw [List.getElem?_eq_getElem hk'] at h
  have h' := Option.some.inj h
  unfold ordF ordN
  have e : ordP T = (ordP T).take k ++ (idx T ((k + 1 : Nat) : Int) :: (ordP T).drop (k + 1)) := by
    rw [← h', ← List.drop_eq_getElem_cons hk', List.take_append_drop]
  generalize (ordP T).take k = A at *
  rw [e, List.filter_append, List.filter_cons, if_pos hf, List.getElem?_append_right (Nat.le_refl _), Nat.sub_self]
  rfl
section
variable {W : World} {K : VK} {E : List PanicEntry → Hp → Prop} {s : Hp} {p : Addr} {T : PT} {v : Value} {R : Hp → Prop} {f : Nat → Bool}
theorem c_order (hv : oneCell v = true) (h : ∀ s' a b, Ext s s' → s.size ≤ a.block → s.size ≤ b.block → cellAt s' a = some (.pointer (some p)) → cellAt s' b = some v → K (.func (.func 85) #[] #[.pointer (some a), .pointer (some b)]) s') : CALL Pg W F_prize_prizes_order [.pointer (some p), v] K E s := by
  refine does_prize_prizes_order W (some p) v _ s ?_
  unfold T_prize_prizes_order
  refine ne1 fun s1 e1 z1 o1 => ?_
  unfold ONE
  rw [hv]
  refine ne1 fun s2 e2 z2 o2 => ?_
  exact h s2 _ _ (e1.trans e2) (Nat.le_refl _) (by show s.size ≤ s1.size; omega) (e2.cell o1.cell) o2.cell
theorem OrdR.blind {a b : Addr} (hR : Blind R) : Blind (OrdR p T a b v R) := fun s l o hl ho h => ⟨PrO.blind s l o hl ho h.1, cell_blind hl h.2.1, cell_blind hl h.2.2.1, hR s l o hl ho h.2.2.2⟩
theorem it_order {a b : Addr} (hf : IsFn W v T.n R f) : IterC Pg W (.func (.func 85) #[] #[.pointer (some a), .pointer (some b)]) (ordV T f) (OrdR p T a b v R) := by
  refine ⟨⟨_, _, _, rfl⟩, fun y I J s hR hext hy h0 => ?_⟩
  refine does_prize_prizes_order_c1 W y a b _ s ?_
  have r0 := hR 0 s h0
  have hv := okP_vd r0.1.ok
  have h8 := hv.n8
  unfold T_prize_prizes_order_c1
  obtain ⟨x, c, x1, x2⟩ := r0.1.men
  refine ⟨_, r0.2.1, _, r0.2.1, _, _, _, x1, ?_⟩
  dsimp only
  rw [wrap_succ (by omega)]
  refine ⟨⟨by omega, by omega, by omega⟩, ?_⟩
  have e1 : (if (9 : Nat) = (1 : Int).toNat then some (p.add 3) else (some (p.add 3)).map (·.add ((1 : Int).toNat * 1))) = some ((p.add 3).add 1) := rfl
  rw [e1]
  have e2 : (((T.n + 1 : Nat) : Int)).toNat - (1 : Int).toNat = T.n := by rw [toNat_nat]; show T.n + 1 - 1 = T.n; omega
  rw [e2]
  refine L_prize_prizes_order_c1_0_rule W _ y b _ T.n _ T.n (fun n s' => ∃ k : Nat, k ≤ T.n ∧ n = k ∧ I (ordN T f k) s') (fun n _ => (T.n - n).toNat) 0 s ⟨0, by omega, rfl, h0⟩ ?_
  rintro n s1 ⟨k, hk, rfl, hI⟩
  have r1 := hR _ _ hI
  unfold B_prize_prizes_order_c1_0
  refine BR_dec (fun h2 => ?_) (fun h2 => ?_)
  · have hkn : k < T.n := by omega
    have hat := r1.1.at' k hkn
    have hm := (hv.sur ((k + 1 : Nat) : Int) (by omega) (by omega)).1
    refine IXS_nat hkn ?_
    rw [Nat.mul_one, addr_add, Nat.add_comm 1 k]
    refine ⟨_, hat, _, r1.2.2.1, ?_⟩
    refine hf.call s1 _ hm r1.2.2.2 _ _ fun s2 e2 => ?_
    have hI2 := hext _ _ _ hI e2
    try simp only [TUP_mk, AGG_mk, HD_mk, NL_mk, TYI_mk, TYB_mk, TYP_mk, TYL_mk, TYS_mk, TYM_mk, SO_mk, NX_mk, endK_mk, endK_mk', add_0]
    refine BR_not (fun h3 => ?_) (fun h3 => ?_)
    · refine ⟨_, rfl, ⟨k + 1, hkn, wrap_succ (by omega), ?_⟩, ms_succ hkn (by omega)⟩
      rw [ordN_succ hkn, h3]; exact hI2
    · have hx : (ordV T f)[ordN T f k]? = some [.int .i64 (idx T ((k + 1 : Nat) : Int) : Nat)] := by
        unfold ordV
        rw [List.getElem?_map, ordN_get hkn h3]
        rfl
      refine DoesV.mono (hy _ _ hx s2 hI2) ?_
      rintro e s3 (⟨rfl, hI3⟩ | ⟨rfl, hJ⟩)
      · refine ⟨_, rfl, ⟨k + 1, hkn, wrap_succ (by omega), ?_⟩, ms_succ hkn (by omega)⟩
        rw [ordN_succ hkn, h3]; exact hI3
      · exact ⟨⟨_, rfl⟩, .inr hJ⟩
  · have hkn : k = T.n := by omega
    subst hkn
    refine ⟨⟨_, rfl⟩, .inl ?_⟩
    have : (ordV T f).length = ordN T f T.n := by
      unfold ordV ordN ordF
      rw [← ord_len T, List.take_length]
      simp
    rw [this]; exact hI
/-- A range over all who are wanted. -/
theorem rng_order {a b : Addr} {B : List Value → (Option Code → Hp → Prop) → Hp → Prop} {A : Option Code → Hp → Prop} (hf : IsFn W v T.n R f) (I : Nat → Hp → Prop) (S : Code → Hp → Prop)
    (hR : ∀ k s, I k s → OrdR p T a b v R s) (hext : ∀ k s s', I k s → Ext s s' → I k s') (h0 : I 0 s)
    (hB : ∀ k m, (ordF T f)[k]? = some m → m < T.n → ∀ s, I k s → B [.int .i64 (m : Nat)] (fun j s' => match j with | none => I (k + 1) s' | some c => S c s') s)
    (hA : ∀ s, I (ordF T f).length s → A none s) (hS : ∀ c s, S c s → A (some c) s) : RNGN Pg W (.func (.func 85) #[] #[.pointer (some a), .pointer (some b)]) 1 B A s := by
  have hv := okP_vd (hR _ _ h0).1.ok
  refine ⟨ordV T f, OrdR p T a b v R, I, S, it_order hf, OrdR.blind hf.blind, hR, hext, hext _ _ _ h0 (Ext.push (Ext.push (Ext.refl _))), fun k x hx => ?_, fun s' h' => ?_, hS⟩
  · unfold ordV at hx
    rw [List.getElem?_map] at hx
    obtain ⟨m, hm, rfl⟩ := Option.map_eq_some_iff.1 hx
    have hmem : m ∈ ordP T := (List.mem_filter.1 (List.mem_of_getElem? hm)).1
    exact ⟨rfl, fun s' h' => hB k m hm ((ord_mem hv).1 hmem) s' h'⟩
  · refine hA s' ?_
    have : (ordV T f).length = (ordF T f).length := by simp [ordV]
    rw [← this]; exact h'
/-- Who gets a prize, as a number. -/
def manI (o : Option Nat) : Int := match o with | some m => (m : Nat) | none => -1
def givF (T : PT) (f : Nat → Bool) (z : Nat) : Option Nat := (ordF T f).find? fun m => canP T m z
theorem find_at {α : Type} {l : List α} {q : α → Bool} {k : Nat} {m : α} (hk : l[k]? = some m) (hq : q m = true) (hno : ∀ j x, j < k → l[j]? = some x → q x = false) : l.find? q = some m := by
  have hlt := (List.getElem?_eq_some_iff.1 hk).1
  rw [List.find?_eq_some_iff_getElem]
  refine ⟨hq, k, hlt, (List.getElem?_eq_some_iff.1 hk).2, fun j hj => ?_⟩
  rw [hno j l[j] hj (List.getElem?_eq_getElem (by omega))]; rfl
theorem find_no {α : Type} {l : List α} {q : α → Bool} (hno : ∀ j x, j < l.length → l[j]? = some x → q x = false) : l.find? q = none := by
  rw [List.find?_eq_none]
  intro x hx
  obtain ⟨j, hj, rfl⟩ := List.mem_iff_getElem.1 hx
  rw [hno j l[j] hj (List.getElem?_eq_getElem hj)]; simp
theorem c_plain {z : Nat} (hz : z < T.z) (hf : IsFn W v T.n R f) (hR : R s) (hp : PrO s p T) (h : ∀ s', Ext s s' → K (.int .i64 (manI (givF T f z))) s') : CALL Pg W F_prize_plain_gives [.agg #[.pointer (some p)], .int .i64 (z : Nat), v] K E s := by
  refine does_prize_plain_gives W (some p) z v _ s ?_
  unfold T_prize_plain_gives
  refine ne1 fun s1 e1 z1 o1 => ?_
  refine ne1 fun s2 e2 z2 o2 => ?_
  refine nz1 zc_3 fun s3 e3 z3 o3 => ?_
  refine ⟨_, e3.cell (e2.cell o1.cell), ?_⟩
  refine c_order hf.one fun s4 a b e4 _ _ ca cb => ?_
  have e34 := e3.trans e4
  have e24 := e2.trans e34
  have e04 := e1.trans e24
  have hb6 : s2.size < s4.size := by have := e4.1; omega
  refine rng_order hf (fun k t => Ext s4 t ∧ ∀ j x, j < k → (ordF T f)[j]? = some x → canP T x z = false) (fun c t => c = Code.ret ∧ Ext s t ∧ ∃ m, cellAt t ⟨s2.size, 0, none⟩ = some (.int .i64 (m : Nat)) ∧ givF T f z = some m)
    (fun k t ht => ⟨hp.ext (e04.trans ht.1), ht.1.cell ca, ht.1.cell cb, hf.ext _ _ hR (e04.trans ht.1)⟩) (fun k t t' ht e => ⟨ht.1.trans e, ht.2⟩) ⟨Ext.refl _, fun j x hj => by omega⟩ ?_ ?_ ?_
  · rintro k m hkm hmn t ⟨et, hno⟩
    have et4 := e04.trans et
    try simp only [TUP_mk, AGG_mk, HD_mk, NL_mk, TYI_mk, TYB_mk, TYP_mk, TYL_mk, TYS_mk, TYM_mk, SO_mk, NX_mk, endK_mk, endK_mk', add_0]
    refine ⟨_, et.cell (e24.cell o1.cell), _, et.cell (e34.cell o2.cell), ?_⟩
    refine c_can (hp.ext et4) hmn hz fun t2 e2' => ?_
    try simp only [TUP_mk, AGG_mk, HD_mk, NL_mk, TYI_mk, TYB_mk, TYP_mk, TYL_mk, TYS_mk, TYM_mk, SO_mk, NX_mk, endK_mk, endK_mk', add_0]
    refine BR_bool (fun hc => ?_) (fun hc => ?_)
    · have o6 := e2'.own (et.own (e4.own o3))
      refine WR_own o6 rfl ?_
      refine ⟨trivial, ?_, m, (own_set o6).cell, ?_⟩
      · exact Ext.setC (et4.trans e2') (by show s.size ≤ s2.size; omega)
      · exact find_at hkm hc hno
    · refine ⟨et.trans e2', fun j x hj hx => ?_⟩
      by_cases e : j = k
      · subst e; rw [hkm] at hx; cases hx; exact hc
      · exact hno j x (by omega) hx
  · rintro t ⟨et, hno⟩
    have o6 := et.own (e4.own o3)
    refine WR_own o6 rfl ?_
    refine ⟨_, (own_set o6).cell, ?_⟩
    have hg : givF T f z = none := find_no hno
    have := h (setC t ⟨s2.size, 0, none⟩ (.int .i64 (-1))) (Ext.setC (e04.trans et) (by show s.size ≤ s2.size; omega))
    rw [hg] at this
    exact this
  · rintro c t ⟨rfl, et, m, cm, hg⟩
    refine ⟨_, cm, ?_⟩
    have := h t et
    rw [hg] at this
    exact this
end
end Go.Proofs.Ytfaeokcbfnlgbaa.G

/- Prize: the first one of some clubs. -/
set_option linter.unusedSimpArgs false
set_option linter.unusedVariables false
set_option maxRecDepth 20000
namespace Go.Proofs.Ytfaeokcbfnlgbaa.G
open Go.V
theorem zc_80 : zc Pg 80 = [.int .i64 0, .int .i64 0] := by kernel_rfl
theorem zc_26 : zc Pg 26 = [.slice none 0 0] := by kernel_rfl
def places (T : PT) (c : Int) : List Int := (ordF T fun m => (T.man m).club == c).map fun m => (T.man m).place
def sumC (n : Nat) : List Int → Option Int
  | [] => none
  | [a] => some (a + n + 1)
  | a :: b :: _ => some (a + b)
def clubsL (T : PT) (k : Nat) : List (Int × Int) := (List.range k).filterMap fun (i : Nat) => (sumC T.n (places T ((i + 1 : Nat) : Int))).map fun x => (((i + 1 : Nat) : Int), x)
theorem clubsL_succ (T : PT) (k : Nat) : clubsL T (k + 1) = clubsL T k ++ (match sumC T.n (places T ((k + 1 : Nat) : Int)) with | some x => [(((k + 1 : Nat) : Int), x)] | none => []) := by
  unfold clubsL
  rw [List.range_succ, List.filterMap_append]
  congr 1
  rw [List.filterMap_cons, List.filterMap_nil]
  generalize sumC T.n (places T ((k + 1 : Nat) : Int)) = o
  cases o <;> rfl
def minC (b y : Int × Int) : Int × Int := if y.2 < b.2 then y else b
def firstL : List (Int × Int) → Int × Int
  | [] => (0, 0)
  | x :: r => r.foldl minC x
theorem firstL_snoc : ∀ (l : List (Int × Int)) (x : Int × Int), l ≠ [] → firstL (l ++ [x]) = minC (firstL l) x
  | [], _, h => absurd rfl h
  | y :: l, x, _ => by
    show (l ++ [x]).foldl minC y = _
    rw [List.foldl_append]; rfl
def bestP (T : PT) : Int × Int := firstL (clubsL T 5)
def clubV (l : List (Int × Int)) : List Value := l.flatMap fun c => [.int .i64 c.1, .int .i64 c.2]
theorem clubV_len (l : List (Int × Int)) : (clubV l).length = l.length * 2 := by
  induction l with
  | nil => rfl
  | cons x l ih => show (_ :: _ :: clubV l).length = _; simp only [List.length_cons, ih]; omega
theorem clubV_get : ∀ (l : List (Int × Int)) (k : Nat) (h : k < l.length), (clubV l)[k * 2]? = some (.int .i64 l[k].1) ∧ (clubV l)[k * 2 + 1]? = some (.int .i64 l[k].2)
  | [], k, h => by simp at h
  | x :: l, 0, h => ⟨rfl, rfl⟩
  | x :: l, k + 1, h => by
    have ih := clubV_get l k (by simpa using h)
    have e1 : (k + 1) * 2 = k * 2 + 2 := by omega
    rw [e1]
    exact ih
theorem clubV_one (l : List (Int × Int)) : ∀ v ∈ clubV l, oneCell v = true := by
  intro v hv
  obtain ⟨c, _, hc⟩ := List.mem_flatMap.1 hv
  simp at hc
  rcases hc with rfl | rfl <;> rfl
theorem row_get {s : Hp} {x : Option Addr} {vs : List Value} {i : Nat} {v : Value} (h : RowAt s x vs) (hi : vs[i]? = some v) : ∃ a, x = some a ∧ cellAt s (a.add i) = some v := by
  obtain ⟨hlt, he⟩ := List.getElem?_eq_some_iff.1 hi
  obtain ⟨a, h1, h2⟩ := h i hlt
  rw [Nat.mul_one, he] at h2
  exact ⟨a, h1, h2⟩
theorem club_row {s : Hp} {x : Option Addr} {l : List (Int × Int)} {k : Nat} (h : RowAt s x (clubV l)) (hk : k < l.length) : ∃ a, x = some a ∧ cellAt s ((a.add (k * 2)).add 0) = some (.int .i64 (l.getD k default).1) ∧ cellAt s ((a.add (k * 2)).add 1) = some (.int .i64 (l.getD k default).2) := by
  obtain ⟨g1, g2⟩ := clubV_get l k hk
  obtain ⟨a, h1, h2⟩ := row_get h g1
  obtain ⟨b, h3, h4⟩ := row_get h g2
  rw [h1] at h3; cases h3
  rw [getD_lt hk]
  refine ⟨a, h1, ?_, ?_⟩
  · rw [addr_add]; exact h2
  · rw [addr_add]; exact h4
section
variable {W : World} {K : VK} {E : List PanicEntry → Hp → Prop} {s : Hp}
theorem c_less {a b c d : Int} (h : ∀ s', Ext s s' → K (.bool (decide (b < d))) s') : CALLV Pg W (.func (.func 82) #[] #[]) [.agg #[.int .i64 a, .int .i64 b], .agg #[.int .i64 c, .int .i64 d]] K E s := by
  refine CALLV_func ?_
  refine does_prize_prizes_best_c2 W a b c d _ s ?_
  unfold T_prize_prizes_best_c2
  refine ne2 fun s1 e1 z1 o1 o2 => ?_
  refine ne2 fun s2 e2 z2 o3 o4 => ?_
  exact ⟨_, e2.cell o2.cell, _, o4.cell, h s2 (e1.trans e2)⟩
theorem c_first {x : Option Addr} {c n : Nat} {l : List (Int × Int)} (hx : RowAt s x (clubV l)) (hn : n = l.length) (h8 : l.length ≤ 1000) (h : ∀ s' b, Ext s s' → K (.tuple #[.agg #[.int .i64 (firstL l).1, .int .i64 (firstL l).2], .bool b]) s') : CALL Pg W F_prize_first_prize_club [.slice x n c, .func (.func 82) #[] #[]] K E s := by
  subst hn
  refine does_prize_first_prize_club W x _ c _ _ s ?_
  unfold T_prize_first_prize_club
  refine nz2 zc_80 fun s1 e1 z1 o1 o2 => ?_
  refine L_prize_first_prize_club_0_rule W _ _ ⟨s.size, 0, none⟩ x l.length c l.length (fun b n t => Ext s t ∧ ∃ k : Nat, k ≤ l.length ∧ n = k ∧ Own t ⟨s.size, 0, none⟩ (.int .i64 (firstL (l.take k)).1) ∧ Own t ⟨s.size, 1, none⟩ (.int .i64 (firstL (l.take k)).2)) (fun _ n _ => (l.length - n).toNat) false 0 s1 ⟨e1, 0, by omega, rfl, o1, o2⟩ ?_
  rintro b n t ⟨et, k, hk, rfl, p1, p2⟩
  unfold B_prize_first_prize_club_0
  have e0 : (Addr.add ⟨s.size, 0, none⟩ 0) = (⟨s.size, 0, none⟩ : Addr) := rfl
  have e1' : (Addr.add ⟨s.size, 0, none⟩ 1) = (⟨s.size, 1, none⟩ : Addr) := rfl
  refine BR_dec (fun hlt => ?_) (fun hlt => ?_)
  · have hkl : k < l.length := by omega
    obtain ⟨a, w0, w1, w2⟩ := club_row (hx.ext et) hkl
    refine ⟨a, w0, ⟨by omega, by omega⟩, ?_⟩
    rw [toNat_nat]
    refine ⟨_, w1, _, w2, ?_⟩
    generalize hy : l.getD k default = y
    have hyk : l[k] = y := by rw [← hy, getD_lt hkl]
    have htake : l.take (k + 1) = l.take k ++ [y] := by rw [List.take_add_one, List.getElem?_eq_getElem hkl, hyk]; rfl
    generalize hnx : (fun vs : List Value => _) = nx
    refine nw2 zc_80 rfl rfl fun t2 e2 z2 q1 q2 => ?_
    have et2 := et.trans e2
    have fin : ∀ t' d b', Ext t2 t' → (d = true → firstL (l.take (k + 1)) = y) → (d = false → firstL (l.take (k + 1)) = firstL (l.take k)) → J_prize_first_prize_club_0 W (endK K E) d t.size ⟨s.size, 0, none⟩ (.func (.func 82) #[] #[]) x l.length c l.length nx k b' t' := by
      intro t' d b' e' hd1 hd2
      have p1' := e'.own (e2.own p1)
      have p2' := e'.own (e2.own p2)
      have et2 := et2.trans e'
      unfold J_prize_first_prize_club_0
      refine BR_bool (fun hd => ?_) (fun hd => ?_)
      · refine ⟨_, e'.cell q1.cell, _, e'.cell q2.cell, ?_⟩
        refine WR_own p1' rfl ?_
        refine WR_own (own_set_ne (.inr (by show (1 : Nat) ≠ 0; omega)) p2') rfl ?_
        rw [← hnx]
        refine ⟨rfl, _, _, rfl, ⟨Ext.setC (Ext.setC et2 (Nat.le_refl _)) (Nat.le_refl _), k + 1, hkl, wrap_succ (by omega), ?_, ?_⟩, ms_succ hkl (by omega)⟩
        · rw [hd1 hd]
          exact own_set_ne (.inr (by show (0 : Nat) ≠ 1; omega)) (own_set p1')
        · rw [hd1 hd]
          exact own_set (own_set_ne (.inr (by show (1 : Nat) ≠ 0; omega)) p2')
      · rw [← hnx]
        refine ⟨rfl, _, _, rfl, ⟨et2, k + 1, hkl, wrap_succ (by omega), ?_, ?_⟩, ms_succ hkl (by omega)⟩
        · rw [hd2 hd]; exact p1'
        · rw [hd2 hd]; exact p2'
    refine BR_bool (fun hz => ?_) (fun hz => ?_)
    · have hk0 : k = 0 := by have : (k : Int) = 0 := by simpa using hz
                             omega
      subst hk0
      refine fin _ _ _ (Ext.refl _) (fun _ => ?_) (fun h => by cases h)
      rw [htake]; rfl
    · have hk0 : ¬ k = 0 := fun h0 => by subst h0; simp at hz
      refine ⟨_, q1.cell, _, q2.cell, _, (e2.own p1).cell, _, (e2.own p2).cell, ?_⟩
      refine c_less fun t3 e3 => ?_
      try simp only [TUP_mk, AGG_mk, HD_mk, NL_mk, TYI_mk, TYB_mk, TYP_mk, TYL_mk, TYS_mk, TYM_mk, SO_mk, NX_mk, endK_mk, endK_mk', add_0]
      have hne : l.take k ≠ [] := fun h => by
        have h1 := congrArg List.length h
        rw [List.length_take, Nat.min_eq_left (by omega)] at h1
        have h2 : k = 0 := h1
        exact hk0 h2
      have hs := firstL_snoc (l.take k) y hne
      rw [← htake] at hs
      refine fin t3 _ _ e3 (fun hd => ?_) (fun hd => ?_)
      · rw [hs]; unfold minC; rw [if_pos (of_decide_eq_true hd)]
      · rw [hs]; unfold minC; rw [if_neg (of_decide_eq_false hd)]
  · have hkl : k = l.length := by omega
    subst hkl
    rw [List.take_length] at p1 p2
    refine ⟨_, p1.cell, _, p2.cell, ?_⟩
    refine WR_own p1 rfl ?_
    have p2' := own_set_ne (a := ⟨s.size, 0, none⟩) (w := .int .i64 (firstL l).1) (.inr (by show (1 : Nat) ≠ 0; omega)) p2
    refine WR_own p2' rfl ?_
    refine ⟨_, (own_set_ne (.inr (by show (0 : Nat) ≠ 1; omega)) (own_set p1)).cell, _, (own_set p2').cell, ?_⟩
    exact h _ _ (Ext.setC (Ext.setC et (Nat.le_refl _)) (Nat.le_refl _))
end
end Go.Proofs.Ytfaeokcbfnlgbaa.G

/- Prize: the best club. -/
set_option linter.unusedSimpArgs false
set_option linter.unusedVariables false
set_option maxRecDepth 20000
namespace Go.Proofs.Ytfaeokcbfnlgbaa.G
open Go.V
theorem places_le {T : PT} {c : Int} : (places T c).length ≤ T.n := by
  unfold places ordF
  rw [List.length_map]
  exact Nat.le_trans (List.length_filter_le _ _) (by rw [ord_len]; exact Nat.le_refl _)
theorem places_mem {T : PT} (hv : VdP T) {c : Int} {x : Int} (h : x ∈ places T c) : 1 ≤ x ∧ x ≤ T.n := by
  unfold places at h
  obtain ⟨m, hm, rfl⟩ := List.mem_map.1 h
  exact hv.pl m ((ord_mem hv).1 (List.mem_filter.1 hm).1)
section
variable {W : World} {K : VK} {E : List PanicEntry → Hp → Prop} {s : Hp} {p : Addr} {T : PT}
def ClR (p : Addr) (T : PT) (a b : Addr) (c : Int) : Hp → Prop := fun s => PrO s p T ∧ cellAt s a = some (.pointer (some p)) ∧ cellAt s b = some (.int .i64 c)
theorem isClub {a b : Addr} {c : Int} : IsFn W (.func (.func 80) #[] #[.pointer (some a), .pointer (some b)]) T.n (ClR p T a b c) (fun m => (T.man m).club == c) where
  one := rfl
  blind := fun s l o hl ho h => ⟨PrO.blind s l o hl ho h.1, cell_blind hl h.2.1, cell_blind hl h.2.2⟩
  ext := fun s s' h e => ⟨h.1.ext e, e.cell h.2.1, e.cell h.2.2⟩
  call := fun s m hm h K E hk => by
    refine CALLV_func ?_
    refine does_prize_prizes_best_c1 W m a b _ s ?_
    unfold T_prize_prizes_best_c1
    obtain ⟨x, cx, x1, x2⟩ := h.1.men
    obtain ⟨ax, w0, w1, w2, w3, w4⟩ := man_row x2 hm
    refine ⟨_, h.2.1, _, _, _, x1, ?_⟩
    refine IXS_at w0 hm ?_
    exact ⟨_, w2, _, h.2.2, hk s (Ext.refl s)⟩
/-- The places so far. -/
def plK (T : PT) (c : Int) (k : Nat) : List Int := (places T c).take k
theorem plK_succ {T : PT} {c : Int} {k m : Nat} (h : (ordF T fun m => (T.man m).club == c)[k]? = some m) : plK T c (k + 1) = plK T c k ++ [(T.man m).place] := by
  unfold plK places
  rw [List.take_add_one, List.getElem?_map, h]
  rfl
theorem fr_lt {lo : Nat} {s : Hp} {x : Option Addr} {l c es : Nat} {vs : List Value} (h : Fr lo s x l c es vs) (hn : 0 < vs.length) {a : Addr} (hx : x = some a) : a.block < s.size := by
  obtain ⟨a', h1, y, h2, _⟩ := h.buf.own 0 (Nat.lt_of_lt_of_le hn h.buf.le)
  rw [hx] at h1; cases h1
  have := h2.lt
  rwa [add_blk] at this
theorem clubs_len (T : PT) (k : Nat) : (clubsL T k).length ≤ k := by
  unfold clubsL
  refine Nat.le_trans (List.length_filterMap_le _ _) (by simp)
/-- A sum of three, or of two. -/
theorem c_sum {x : Option Addr} {c l : Nat} {ds : List Int} {r : Int} (hx : RowAt s x (ints ds)) (hl : l = ds.length) (hb : ∀ n ∈ ds, 0 ≤ n ∧ n ≤ 1000) (h8 : ds.length ≤ 1000) (hr : ds.sum = r) (h : K (.int .i64 r) s) : CALL Pg W F_prize_total [.slice x l c] K E s :=
  c_total hx hl hb h8 (by rw [hr]; exact h)
theorem c_best (hp : PrO s p T) (h : ∀ s', Ext s s' → K (.agg #[.int .i64 (bestP T).1, .int .i64 (bestP T).2]) s') : CALL Pg W F_prize_prizes_best [.pointer (some p)] K E s := by
  have hv := okP_vd hp.ok
  have h8 := hv.n8
  refine does_prize_prizes_best W (some p) _ s ?_
  unfold T_prize_prizes_best
  refine ne1 fun s1 e1 z1 o1 => ?_
  refine nz2 zc_80 fun s2 e2 z2 o2 o2' => ?_
  refine nw1 zc_3 rfl fun s3 e3 z3 o3 => ?_
  have e13 := e2.trans e3
  have e03 := e1.trans e13
  refine L_prize_prizes_best_0_rule W _ ⟨s.size, 0, none⟩ ⟨s1.size, 0, none⟩ (fun x l c q t => Ext s3 t ∧ ∃ k a, k ≤ 5 ∧ q = some a ∧ cellAt t a = some (.int .i64 ((k + 1 : Nat) : Int)) ∧ Fr s3.size t x l c 2 (clubV (clubsL T k)) ∧ ∀ y, x = some y → y.block ≠ a.block ∧ y.block < t.size)
    (fun x l c q t => match q with | some a => (match cellAt t a with | some (.int _ n) => (6 - n).toNat | _ => 0) | none => 0) none 0 0 (some ⟨s2.size, 0, none⟩) s3
    ⟨Ext.refl _, 0, _, by omega, rfl, o3.cell, Fr.nil _ _ _, fun y hy => by cases hy⟩ ?_
  rintro x l c q t ⟨et, k, a, hk, rfl, ca, hfr, hxa⟩
  unfold B_prize_prizes_best_0
  have et0 := e03.trans et
  have hp1 := hp.ext et0
  have za := et.cell (e13.cell o1.cell)
  refine ⟨_, ca, ?_⟩
  have hms : ∀ (t' : Hp) (a' : Addr), cellAt t' a' = some (.int .i64 ((k + 1 + 1 : Nat) : Int)) → k < 5 → (match cellAt t' a' with | some (.int _ n) => (6 - n).toNat | _ => 0) < (match cellAt t a with | some (.int _ n) => (6 - n).toNat | _ => 0) := by
    intro t' a' h' hk5
    rw [h', ca]
    show (6 - ((k + 1 + 1 : Nat) : Int)).toNat < (6 - ((k + 1 : Nat) : Int)).toNat
    omega
  refine BR_dec (fun hle => ?_) (fun hle => ?_)
  · have hk5 : k < 5 := by omega
    generalize hcc : ((k + 1 : Nat) : Int) = cc at *
    generalize hnx : (fun vs : List Value => _) = nx
    -- the next round
    have next : ∀ (t' : Hp) (x' : Option Addr) (l' c' : Nat), Ext s3 t' → cellAt t' a = some (.int .i64 cc) → Fr s3.size t' x' l' c' 2 (clubV (clubsL T (k + 1))) → (∀ y, x' = some y → y.block < t'.size) → J_prize_prizes_best_0 W (endK K E) (some a) ⟨s.size, 0, none⟩ ⟨s1.size, 0, none⟩ nx x' l' c' t' := by
      intro t' x' l' c' e' ca' hfr' hx'
      unfold J_prize_prizes_best_0
      refine ⟨_, ca', ?_⟩
      refine nw1 zc_3 rfl fun t2 e2' z2' q2 => ?_
      refine ⟨_, q2.cell, ?_⟩
      refine wr1 (a := ⟨t'.size, 0, none⟩) q2 rfl fun t3 k3 z3' q3 => ?_
      have e3' : Ext t' t3 := ext_kp e2' (Nat.le_refl _) k3
      rw [← hnx]
      rw [← hcc] at q3
      rw [wrap_succ (by omega)] at q3
      refine ⟨rfl, _, _, _, _, rfl, ⟨e'.trans e3', k + 1, _, hk5, rfl, q3.cell, hfr'.ext e3', fun y hy => ?_⟩, hms _ _ q3.cell hk5⟩
      have := hx' y hy
      exact ⟨by show y.block ≠ t'.size; omega, by have := e3'.1; omega⟩
    refine nz1 zc_26 fun t1 f1 y1 b1 => ?_
    have hat1 : a.block < t1.size := by have := cell_lt ca; omega
    refine ⟨_, f1.cell za, ?_⟩
    refine c_order rfl fun t2 u v f2 gu gv cu cv => ?_
    have f12 := f1.trans f2
    have sz2 := f2.1
    refine rng_order (W := W) (isClub (p := p) (a := ⟨s.size, 0, none⟩) (b := a) (c := cc)) (fun k t' => Ext t t' ∧ Kp (· = t.size) t2 t' ∧ cellAt t' u = some (.pointer (some p)) ∧ cellAt t' v = some (.func (.func 80) #[] #[.pointer (some ⟨s.size, 0, none⟩), .pointer (some a)]) ∧ ∃ x l c, Own t' ⟨t.size, 0, none⟩ (.slice x l c) ∧ Fr t2.size t' x l c 1 (ints (plK T cc k))) (fun _ _ => False)
      (fun k t' ht => ⟨hp1.ext ht.1, ht.2.2.1, ht.2.2.2.1, hp1.ext ht.1, ht.1.cell za, ht.1.cell ca⟩) (fun k t' t'' ht e => ⟨ht.1.trans e, ht.2.1.ext e, e.cell ht.2.2.1, e.cell ht.2.2.2.1, by obtain ⟨x, l, c, g1, g2⟩ := ht.2.2.2.2; exact ⟨x, l, c, e.own g1, g2.ext e⟩⟩)
      ⟨f12, Kp.refl _, cu, cv, none, 0, 0, f2.own b1, Fr.nil _ _ _⟩ ?_ ?_ (fun _ _ h => h.elim)
    · rintro j m hjm hmn t' ⟨f', kk, cu', cv', px, pl, pc, g1, g2⟩
      try simp only [TUP_mk, AGG_mk, HD_mk, NL_mk, TYI_mk, TYB_mk, TYP_mk, TYL_mk, TYS_mk, TYM_mk, SO_mk, NX_mk, endK_mk, endK_mk', add_0]
      have hpt := hp1.ext f'
      obtain ⟨mx, mc, x1, x2⟩ := hpt.men
      obtain ⟨ax, w0, w1, w2, w3, w4⟩ := man_row x2 hmn
      refine ⟨_, _, _, g1.cell, _, f'.cell za, _, _, _, x1, ?_⟩
      refine IXS_at w0 hmn ?_
      refine ⟨_, w1, ?_⟩
      refine ne1 fun t3 e3' z3' q3 => ?_
      refine ANDS_i ⟨_, _, _, e3'.cell g1.cell, rfl⟩ ?_
      have hlen : pl = (plK T cc j).length := by have := g2.len; rw [ints_len] at this; omega
      have hjl := (List.getElem?_eq_some_iff.1 hjm).1
      have hpll : (plK T cc j).length ≤ 8 := by
        unfold plK
        rw [List.length_take]
        have := places_le (T := T) (c := cc)
        omega
      have hsz' : t2.size ≤ t'.size := kk.1
      refine APP_fr (lo := t2.size) (g2.ext e3') (by have := e3'.1; omega) (ws := [.int .i64 (T.man m).place]) (fun i hi => ⟨⟨t'.size, 0, none⟩, rfl, ?_⟩) rfl zc_3 rfl (by omega) (by simp [oneCell]) (by omega) fun t4 px' pc' k4 hpx' g4 => ?_
      · have hi0 : i = 0 := by simp at hi; omega
        subst hi0; exact q3.cell
      have hpxb : ∀ b, (∃ a, px = some a ∧ a.block = b) → t2.size ≤ b := by
        rintro b ⟨y, hy, rfl⟩; exact g2.fr y hy
      have e34 : Ext t t4 := kp_nil (f'.trans e3') (fun b hb => by have := hpxb b hb; omega) k4
      have o11 : Own t4 ⟨t.size, 0, none⟩ (.slice px pl pc) := k4.own (fun hb => by have := hpxb _ hb; have : t2.size ≤ t.size := this; omega) (e3'.own g1)
      refine WR_own o11 rfl ?_
      have hb : ∀ {y : Addr}, y.block ≠ t.size → y.block ≠ (Addr.add ⟨t.size, 0, none⟩ 0).block ∨ y.off ≠ (Addr.add ⟨t.size, 0, none⟩ 0).off := fun h => .inl h
      have hu2 := cell_lt cu
      have hv2 := cell_lt cv
      refine ⟨Ext.setC e34 (Nat.le_refl _), ?_, cell_set_ne (hb (by omega)) (k4.cell (fun hb => by have := hpxb _ hb; omega) (e3'.cell cu')), cell_set_ne (hb (by omega)) (k4.cell (fun hb => by have := hpxb _ hb; omega) (e3'.cell cv')), px', pl + 1, pc', own_set o11, ?_⟩
      · refine Kp.setC ?_ (.inl rfl)
        exact ⟨by have := k4.1; have := e3'.1; omega, fun b hb hne => by
          rw [k4.2 b (by have := e3'.1; omega) (fun hc => by have := hpxb b hc; omega), e3'.2 b (by omega)]
          exact kk.2 b hb hne⟩
      · rw [plK_succ hjm, ints_app]
        refine Fr.kp (D := (· = t.size)) (Kp.setC (Kp.refl _) (.inl rfl)) (fun y hy hb => ?_) g4
        have := g4.fr y hy
        have : y.block = t.size := hb
        omega
    · rintro t' ⟨f', kk, cu', cv', px, pl, pc, g1, g2⟩
      have hfull : plK T cc (ordF T fun m => (T.man m).club == cc).length = places T cc := by
        unfold plK places
        rw [← List.length_map (f := fun m => (T.man m).place)]
        exact List.take_length
      rw [hfull] at g2
      have hlen : pl = (places T cc).length := by have := g2.len; rw [ints_len] at this; omega
      have hpl8 := places_le (T := T) (c := cc)
      have hmem : ∀ y ∈ places T cc, 1 ≤ y ∧ y ≤ T.n := fun y hy => places_mem hv hy
      have hcl := clubsL_succ T k
      rw [hcc] at hcl
      have hfr' := hfr.ext f'
      have hs3 := et.1
      have hft := f'.1
      have hclen := clubs_len T k
      have hlc : l = (clubsL T k).length := by have := hfr.len; rw [clubV_len] at this; omega
      have caf := f'.cell ca
      have zaf := f'.cell za
      -- a club more
      have more : ∀ (t3 : Hp) (r : Int), Ext t' t3 → sumC T.n (places T cc) = some r →
          NEW 80 [(.int .i64 cc), (.int .i64 r)] (fun B60 => APP Pg 80 2 x l c (some ⟨B60, 0, none⟩) 1 fun x61 l62 c63 => J_prize_prizes_best_0 W (endK K E) (some a) ⟨s.size, 0, none⟩ ⟨s1.size, 0, none⟩ nx x61 l62 c63) t3 := by
        intro t3 r e3' hr
        refine ne2 fun t4 e4 z4 q4 q5 => ?_
        have e34 := e3'.trans e4
        refine APP_fr (lo := s3.size) (hfr'.ext e34) (by have := e34.1; omega) (ws := [.int .i64 cc, .int .i64 r]) (fun i hi => ⟨⟨t3.size, 0, none⟩, rfl, ?_⟩) rfl zc_80 rfl (by omega) (by simp [oneCell]) (by omega) fun t5 x5 c5 k5 hx5 g5 => ?_
        · have : i = 0 ∨ i = 1 := by simp at hi; omega
          rcases this with rfl | rfl
          · exact q4.cell
          · exact q5.cell
        have e5 : Ext s3 t5 := kp_nil (et.trans (f'.trans e34)) (fun b hb => by obtain ⟨y, hy, rfl⟩ := hb; exact hfr.fr y hy) k5
        have hcv : clubV (clubsL T k) ++ [.int .i64 cc, .int .i64 r] = clubV (clubsL T (k + 1)) := by
          rw [hcl, hr]
          unfold clubV
          rw [List.flatMap_append]
          rfl
        rw [hcv] at g5
        refine next t5 x5 (l + 1) c5 e5 ?_ g5 (fun y hy => ?_)
        · refine k5.cell (fun hb => ?_) (e34.cell caf)
          obtain ⟨y, hy, hyb⟩ := hb
          exact (hxa y hy).1 hyb
        · refine fr_lt g5 ?_ hy
          rw [← hcv]; simp
      refine ⟨_, _, _, g1.cell, ?_⟩
      refine BR_eq (fun h1 => ?_) (fun h1 => ?_)
      · obtain ⟨y, hy⟩ : ∃ y, places T cc = [y] := List.length_eq_one_iff.1 (by omega)
        rw [hy] at g2
        have hym := hmem y (by rw [hy]; simp)
        refine ⟨_, caf, _, _, _, g1.cell, ?_⟩
        obtain ⟨py, hpy, cy⟩ := row_get (i := 0) g2.row rfl
        refine ⟨py, hpy, ⟨by omega, by omega⟩, _, cy, ?_⟩
        refine ⟨_, zaf, ?_⟩
        obtain ⟨mx, mc, x1, x2⟩ := (hp1.ext f').men
        refine ⟨_, _, _, x1, ?_⟩
        refine NEW_rule fun t3 e3' z3' n3 _ => ?_
        refine ANDS_i ⟨_, e3'.cell caf, rfl⟩ ?_
        refine c_sum (ds := [y, (T.n : Int), 1]) (r := y + T.n + 1) (fun i hi => ⟨⟨t'.size, 0, none⟩, rfl, ?_⟩) rfl (fun n hn => ?_) (by simp) (by simp; omega) ?_
        · rw [Nat.mul_one, add_nil, Nat.zero_add]
          exact (n3 i _ (List.getElem?_eq_getElem hi)).cell
        · simp at hn
          rcases hn with rfl | rfl | rfl <;> omega
        try simp only [TUP_mk, AGG_mk, HD_mk, NL_mk, TYI_mk, TYB_mk, TYP_mk, TYL_mk, TYS_mk, TYM_mk, SO_mk, NX_mk, endK_mk, endK_mk', add_0]
        refine ANDS_i ⟨_, e3'.cell caf, rfl⟩ ?_
        exact more t3 _ e3' (by rw [hy]; rfl)
      · refine ⟨_, _, _, g1.cell, ?_⟩
        refine BR_dec (fun h2 => ?_) (fun h2 => ?_)
        · obtain ⟨y, y2, yr, hy⟩ : ∃ y y2 yr, places T cc = y :: y2 :: yr := by
            match hq : places T cc with
            | [] => rw [hq] at hlen; simp at hlen; omega
            | [_] => rw [hq] at hlen; simp at hlen; omega
            | y :: y2 :: yr => exact ⟨y, y2, yr, rfl⟩
          have hym := hmem y (by rw [hy]; simp)
          have hym2 := hmem y2 (by rw [hy]; simp)
          refine ⟨_, caf, _, _, _, g1.cell, ?_⟩
          have hcap := g2.buf.le
          rw [ints_len, Nat.mul_one] at hcap
          refine ⟨⟨by omega, by omega, by omega⟩, ?_⟩
          have hpc : ¬ pc = (0 : Int).toNat := by show ¬ pc = 0; omega
          rw [if_neg hpc]
          refine ANDS_i ⟨_, caf, rfl⟩ ?_
          have hrow : RowAt t' (px.map (·.add ((0 : Int).toNat * 1))) (ints [y, y2]) := fun i hi => by
            rw [ints_len] at hi
            have hi2 : i < 2 := hi
            have hg : (ints (places T cc))[i]? = some (ints [y, y2])[i] := by
              rw [hy]
              have : i = 0 ∨ i = 1 := by omega
              rcases this with rfl | rfl <;> rfl
            obtain ⟨q, hq1, hq2⟩ := row_get g2.row hg
            refine ⟨q, by rw [hq1]; rfl, ?_⟩
            rw [Nat.mul_one]; exact hq2
          refine c_sum (ds := [y, y2]) (r := y + y2) hrow rfl (fun n hn => ?_) (by simp) (by simp) ?_
          · simp at hn
            rcases hn with rfl | rfl <;> omega
          try simp only [TUP_mk, AGG_mk, HD_mk, NL_mk, TYI_mk, TYB_mk, TYP_mk, TYL_mk, TYS_mk, TYM_mk, SO_mk, NX_mk, endK_mk, endK_mk', add_0]
          refine ANDS_i ⟨_, caf, rfl⟩ ?_
          exact more t' _ (Ext.refl _) (by rw [hy]; rfl)
        · have hnil : places T cc = [] := List.eq_nil_of_length_eq_zero (by omega)
          rw [hnil] at hcl
          have hcl' : clubsL T (k + 1) = clubsL T k := by rw [hcl]; exact List.append_nil _
          refine next t' x l c (et.trans f') caf (by rw [hcl']; exact hfr') (fun y hy => by have := (hxa y hy).2; omega)
  · have hk5 : k = 5 := by omega
    subst hk5
    have hclen := clubs_len T 5
    have hlc : l = (clubsL T 5).length := by have := hfr.len; rw [clubV_len] at this; omega
    refine c_first hfr.row hlc (by omega) fun t2 b e2' => ?_
    try simp only [TUP_mk, AGG_mk, HD_mk, NL_mk, TYI_mk, TYB_mk, TYP_mk, TYL_mk, TYS_mk, TYM_mk, SO_mk, NX_mk, endK_mk, endK_mk', add_0]
    have ob := e2'.own (et.own (e3.own o2))
    have ob' := e2'.own (et.own (e3.own o2'))
    refine nw2 zc_80 rfl rfl fun t3 e3' z3' q1 q2 => ?_
    refine ⟨_, q1.cell, _, q2.cell, ?_⟩
    refine WR_own (e3'.own ob) rfl ?_
    have w2 := own_set_ne (a := ⟨s1.size, 0, none⟩) (w := .int .i64 (firstL (clubsL T 5)).1) (.inr (by show (1 : Nat) ≠ 0; omega)) (e3'.own ob')
    refine WR_own w2 rfl ?_
    refine ⟨_, (own_set_ne (.inr (by show (0 : Nat) ≠ 1; omega)) (own_set (e3'.own ob))).cell, _, (own_set w2).cell, ?_⟩
    exact h _ (Ext.setC (Ext.setC (et0.trans (e2'.trans e3')) (by show s.size ≤ s1.size; omega)) (by show s.size ≤ s1.size; omega))
end
end Go.Proofs.Ytfaeokcbfnlgbaa.G

/- Prize: who has one; who gets one. -/
set_option linter.unusedSimpArgs false
set_option linter.unusedVariables false
set_option maxRecDepth 20000
namespace Go.Proofs.Ytfaeokcbfnlgbaa.G
open Go.V
theorem CALLV_first {P : Program} {W : World} {f : FuncId} {args : List Value} {first : Array Value} {K : VK} {E : List PanicEntry → Hp → Prop} {s : Hp} (h : CALL P W f (first.toList ++ args) K E s) : CALLV P W (.func (.func f) first #[]) args K E s := by
  show Does P W f (first ++ args.toArray ++ #[]) s _
  have e : (first ++ args.toArray ++ #[] : Array Value) = (first.toList ++ args).toArray := Array.ext' (by simp)
  rw [e]; exact h
/-- Who has a prize. -/
def TkN (s : Hp) (r : Nat) (F : Nat → Bool) : Prop := ∃ g, MapI s r g ∧ ∀ m : Nat, (g (m : Int) = none ∧ F m = false) ∨ g (m : Int) = some (.bool (F m))
section
variable {s s' : Hp} {r : Nat} {F : Nat → Bool}
theorem TkN.ext (e : Ext s s') (h : TkN s r F) : TkN s' r F := by
  obtain ⟨g, h1, h2⟩ := h
  exact ⟨g, h1.ext e, h2⟩
theorem TkN.kp {D : Nat → Prop} (e : Kp D s s') (hd : ¬ D r) (h : TkN s r F) : TkN s' r F := by
  obtain ⟨g, h1, h2⟩ := h
  exact ⟨g, h1.kp e hd, h2⟩
theorem TkN.blind : Blind (fun s => TkN s r F) := fun s l o hl ho h => by
  obtain ⟨g, h1, h2⟩ := h
  exact ⟨g, MapI.blind s l o hl ho h1, h2⟩
theorem TkN.new (h : MapI s r (fun _ => none)) : TkN s r (fun _ => false) := ⟨_, h, fun m => .inl ⟨rfl, rfl⟩⟩
theorem TkN.lt (h : TkN s r F) : r < s.size := by obtain ⟨g, h1, _⟩ := h; exact h1.lt
theorem TkN.put {m : Nat} {b : Bool} {K : Hp → Prop} (h : TkN s r F) (hk : ∀ s', Kp (· = r) s s' → s'.size = s.size → TkN s' r (fun k => if k = m then b else F k) → K s') : MUP Pg 88 (.map (some r)) (.int .i64 (m : Nat)) (.bool b) K s := by
  obtain ⟨g, h1, h2⟩ := h
  obtain ⟨e, ht, _⟩ := und_88
  refine MUP_v ht h1 fun s1 k1 z1 m1 => hk s1 k1 z1 ⟨_, m1, fun k => ?_⟩
  unfold updI
  by_cases hkm : k = m
  · subst hkm
    rw [if_pos rfl]
    exact .inr (by simp)
  · rw [if_neg (by omega)]
    simp only [hkm, if_false]
    exact h2 k
theorem TkN.putNo {n : Int} {b : Bool} {K : Hp → Prop} (h : TkN s r F) (hn : n < 0) (hk : ∀ s', Kp (· = r) s s' → s'.size = s.size → TkN s' r F → K s') : MUP Pg 88 (.map (some r)) (.int .i64 n) (.bool b) K s := by
  obtain ⟨g, h1, h2⟩ := h
  obtain ⟨e, ht, _⟩ := und_88
  refine MUP_v ht h1 fun s1 k1 z1 m1 => hk s1 k1 z1 ⟨_, m1, fun k => ?_⟩
  unfold updI
  rw [if_neg (by omega)]
  exact h2 k
theorem TkN.get {m : Nat} {K : VK} (h : TkN s r F) (hk : K (.bool (F m)) s) : LKP Pg 88 (.map (some r)) (.int .i64 (m : Nat)) false K s := by
  obtain ⟨g, h1, h2⟩ := h
  obtain ⟨e, ht, hz⟩ := und_88
  refine LKP_v ht hz h1 (fun v hv => ?_) (fun hv => ?_)
  · rcases h2 m with ⟨h3, _⟩ | h3
    · rw [h3] at hv; cases hv
    · rw [h3] at hv; cases hv; exact hk
  · rcases h2 m with ⟨_, h3⟩ | h3
    · rw [h3] at hk; exact hk
    · rw [h3] at hv; cases hv
end
section
variable {W : World} {K : VK} {E : List PanicEntry → Hp → Prop} {s : Hp} {p : Addr} {T : PT} {v : Value} {R : Hp → Prop} {f : Nat → Bool}
theorem c_left {r m : Nat} {F : Nat → Bool} (h : TkN s r F) (hk : K (.bool (!F m)) s) : CALL Pg W F_prize_taken_left [.map (some r), .int .i64 (m : Nat)] K E s := by
  refine does_prize_taken_left W (some r) m _ s ?_
  unfold T_prize_taken_left
  refine h.get ?_
  try simp only [TUP_mk, AGG_mk, HD_mk, NL_mk, TYI_mk, TYB_mk, TYP_mk, TYL_mk, TYS_mk, TYM_mk, SO_mk, NX_mk, endK_mk, endK_mk', add_0]
  exact hk
theorem isLeft {r n : Nat} {F : Nat → Bool} : IsFn W (.func (.func 65) #[.map (some r)] #[]) n (fun s => TkN s r F) (fun m => !F m) where
  one := rfl
  blind := TkN.blind
  ext := fun s s' h e => h.ext e
  call := fun s m hm h K E hk => by
    refine CALLV_first ?_
    exact c_left h (hk s (Ext.refl s))
/-- Who gets a prize that is for a club within the best one. -/
def givB (T : PT) (b : Int × Int) (f : Nat → Bool) (z : Nat) : Option Nat := if (T.pz z).kind = 4 then (if b = (0, 0) then none else givF T (fun m => f m && ((T.man m).club == b.1)) z) else givF T f z
def InR (p : Addr) (T : PT) (a g : Addr) (v : Value) (n : Int) (R : Hp → Prop) : Hp → Prop := fun s => PrO s p T ∧ cellAt s a = some v ∧ cellAt s ((g.add 0).add 0) = some (.pointer (some p)) ∧ cellAt s ((g.add 1).add 0) = some (.int .i64 n) ∧ R s
theorem isIn {a g : Addr} {n : Int} (hf : IsFn W v T.n R f) : IsFn W (.func (.func 113) #[] #[.pointer (some a), .pointer (some g)]) T.n (InR p T a g v n R) (fun m => f m && ((T.man m).club == n)) where
  one := rfl
  blind := fun s l o hl ho h => ⟨PrO.blind s l o hl ho h.1, cell_blind hl h.2.1, cell_blind hl h.2.2.1, cell_blind hl h.2.2.2.1, hf.blind s l o hl ho h.2.2.2.2⟩
  ext := fun s s' h e => ⟨h.1.ext e, e.cell h.2.1, e.cell h.2.2.1, e.cell h.2.2.2.1, hf.ext _ _ h.2.2.2.2 e⟩
  call := fun s m hm h K E hk => by
    refine CALLV_func ?_
    refine does_prize_clubs_gives_c1 W m a g _ s ?_
    unfold T_prize_clubs_gives_c1
    refine ⟨_, h.2.1, ?_⟩
    refine hf.call s m hm h.2.2.2.2 _ _ fun s1 e1 => ?_
    try simp only [TUP_mk, AGG_mk, HD_mk, NL_mk, TYI_mk, TYB_mk, TYP_mk, TYL_mk, TYS_mk, TYM_mk, SO_mk, NX_mk, endK_mk, endK_mk', add_0]
    refine BR_bool (fun hb => ?_) (fun hb => ?_)
    · obtain ⟨x, cx, x1, x2⟩ := (h.1.ext e1).men
      obtain ⟨ax, w0, w1, w2, w3, w4⟩ := man_row x2 hm
      refine ⟨_, e1.cell h.2.2.1, _, _, _, x1, ?_⟩
      refine IXS_at w0 hm ?_
      refine ⟨_, w2, _, e1.cell h.2.2.2.1, ?_⟩
      have := hk s1 e1
      rw [hb, Bool.true_and] at this
      exact this
    · have := hk s1 e1
      rw [hb, Bool.false_and] at this
      exact this
theorem c_clubs {z : Nat} {b : Int × Int} (hz : z < T.z) (hf : IsFn W v T.n R f) (hR : R s) (hp : PrO s p T) (h : ∀ s', Ext s s' → K (.int .i64 (manI (givB T b f z))) s') : CALL Pg W F_prize_clubs_gives [.agg #[.pointer (some p), .int .i64 b.1, .int .i64 b.2], .int .i64 (z : Nat), v] K E s := by
  refine does_prize_clubs_gives W (some p) b.1 b.2 z v _ s ?_
  unfold T_prize_clubs_gives
  refine NEW_rule fun s1 e1 z1 n1 _ => ?_
  unfold ONE
  rw [hf.one]
  refine ne1 fun s2 e2 z2 o2 => ?_
  have e02 := e1.trans e2
  have g0 : cellAt s2 ((Addr.add ⟨s.size, 0, none⟩ 0).add 0) = some (.pointer (some p)) := e2.cell (n1 0 _ rfl).cell
  have g1 : cellAt s2 ((Addr.add ⟨s.size, 0, none⟩ 1).add 0) = some (.int .i64 b.1) := e2.cell (n1 1 _ rfl).cell
  have g2 : cellAt s2 ((Addr.add ⟨s.size, 0, none⟩ 1).add 1) = some (.int .i64 b.2) := e2.cell (n1 2 _ rfl).cell
  have hp2 := hp.ext e02
  obtain ⟨x, cx, x1, x2⟩ := hp2.lst
  obtain ⟨ax, w0, w1, w2⟩ := pz_row x2 hz
  refine ⟨_, g0, _, _, _, x1, ?_⟩
  refine IXS_at w0 hz ?_
  refine ⟨_, w1, ?_⟩
  refine BR_ne (fun h4 => ?_) (fun h4 => ?_)
  · refine ⟨_, g0, _, o2.cell, ?_⟩
    refine c_plain hz hf (hf.ext _ _ hR e02) hp2 fun s3 e3 => ?_
    try simp only [TUP_mk, AGG_mk, HD_mk, NL_mk, TYI_mk, TYB_mk, TYP_mk, TYL_mk, TYS_mk, TYM_mk, SO_mk, NX_mk, endK_mk, endK_mk', add_0]
    have := h s3 (e02.trans e3)
    unfold givB at this
    rw [if_neg h4] at this
    exact this
  · refine ⟨_, g1, _, g2, ?_⟩
    refine BR_bool (fun h0 => ?_) (fun h0 => ?_)
    · have hb : b = (0, 0) := by
        simp only [Bool.and_eq_true, beq_iff_eq] at h0
        exact Prod.ext h0.1 h0.2
      have := h s2 e02
      unfold givB at this
      rw [if_pos h4, if_pos hb] at this
      exact this
    · have hb : ¬ b = (0, 0) := fun hb => by rw [hb] at h0; simp at h0
      refine ⟨_, g0, ?_⟩
      refine c_plain (R := InR p T ⟨s1.size, 0, none⟩ ⟨s.size, 0, none⟩ v b.1 R) hz (isIn hf) ⟨hp2, o2.cell, g0, g1, hf.ext _ _ hR e02⟩ hp2 fun s3 e3 => ?_
      try simp only [TUP_mk, AGG_mk, HD_mk, NL_mk, TYI_mk, TYB_mk, TYP_mk, TYL_mk, TYS_mk, TYM_mk, SO_mk, NX_mk, endK_mk, endK_mk', add_0]
      have := h s3 (e02.trans e3)
      unfold givB at this
      rw [if_pos h4, if_neg hb] at this
      exact this
end
end Go.Proofs.Ytfaeokcbfnlgbaa.G

/- Prize: the due giving; givings; what everybody gets. -/
set_option linter.unusedSimpArgs false
set_option linter.unusedVariables false
set_option maxRecDepth 20000
namespace Go.Proofs.Ytfaeokcbfnlgbaa.G
open Go.V
theorem mth_clubs : mth Pg 110 "furrowworks/prize.gives" = some F_prize_clubs_gives := by kernel_rfl
def tkF (l : List (Option Nat)) (m : Nat) : Bool := decide (some m ∈ l)
theorem tkF_none (l : List (Option Nat)) : tkF (l ++ [none]) = tkF l := by
  funext m; unfold tkF; congr 1; simp
theorem tkF_some (l : List (Option Nat)) (m : Nat) : tkF (l ++ [some m]) = fun k => if k = m then true else tkF l k := by
  funext k
  unfold tkF
  by_cases h : k = m
  · subst h; simp
  · simp [h]
/-- Who is due the first so many prizes. -/
def dueL (T : PT) : Nat → List (Option Nat)
  | 0 => []
  | k + 1 => dueL T k ++ [givB T (bestP T) (fun m => !tkF (dueL T k) m) k]
theorem dueL_len (T : PT) : ∀ k, (dueL T k).length = k
  | 0 => rfl
  | k + 1 => by show (dueL T k ++ _).length = _; rw [List.length_append, dueL_len T k]; rfl
def dueP (T : PT) : List (Option Nat) := dueL T T.z
def manL (l : List (Option Nat)) : List Int := l.map manI
theorem manL_app (a b : List (Option Nat)) : manL (a ++ b) = manL a ++ manL b := by unfold manL; rw [List.map_append]
theorem MKS_cap {P : Program} {t : TypeId} {c : Nat} {z : Value} {K : Nat → Hp → Prop} {s : Hp} (hz : zc P t = [z]) (hn : c ≤ 100000) (h : ∀ s', Ext s s' → s'.size = s.size + 1 → Fr s.size s' (some ⟨s.size, 0, none⟩) 0 c 1 [] → K s.size s') : MKS P t 0 (c : Int) K s := by
  refine ⟨⟨by omega, by omega, by omega⟩, ?_⟩
  rw [hz, Int.toNat_natCast]
  refine h _ (Ext.push (Ext.refl _)) (by simp) ⟨?_, rfl, fun a ha => by cases ha; exact Nat.le_refl _, by omega⟩
  have := buf_new (s := s) (cs := repL c [z]) (vs := []) (ty := t) (by simp) (fun i hi => by simp at hi)
  rw [repL_length] at this
  rw [Nat.mul_one]; exact this
section
variable {W : World} {K : VK} {E : List PanicEntry → Hp → Prop} {s : Hp} {p : Addr} {T : PT}
theorem c_due (hp : PrO s p T) (h : ∀ s' x c, Ext s s' → Fr s.size s' x T.z c 1 (ints (manL (dueP T))) → K (.slice x T.z c) s') : CALL Pg W F_prize_prizes_due [.pointer (some p)] K E s := by
  have hv := okP_vd hp.ok
  have h8 := hv.n8
  have h6 := hv.z6
  refine does_prize_prizes_due W (some p) _ s ?_
  unfold T_prize_prizes_due
  refine c_best hp fun s1 e1 => ?_
  try simp only [TUP_mk, AGG_mk, HD_mk, NL_mk, TYI_mk, TYB_mk, TYP_mk, TYL_mk, TYS_mk, TYM_mk, SO_mk, NX_mk, endK_mk, endK_mk', add_0]
  refine MKM_rule fun s2 e2 z2 m2 => ?_
  have e02 := e1.trans e2
  obtain ⟨y, cy, y1, y2⟩ := (hp.ext e02).lst
  refine ⟨_, _, _, y1, ?_⟩
  dsimp only
  refine MKS_cap zc_3 (by omega) fun s3 e3 z3 f3 => ?_
  have e03 := e02.trans e3
  refine ⟨_, _, _, e3.cell y1, ?_⟩
  dsimp only
  rw [toNat_nat]
  have hr : s.size ≤ s1.size := e1.1
  refine L_prize_prizes_due_0_rule W _ (some p) (bestP T).1 (bestP T).2 (some s1.size) T.z (fun x l c n t => Ext s t ∧ ∃ k : Nat, k ≤ T.z ∧ n = k ∧ TkN t s1.size (tkF (dueL T k)) ∧ Fr s.size t x l c 1 (ints (manL (dueL T k))) ∧ ∀ y, x = some y → y.block ≠ s1.size)
    (fun _ _ _ n _ => (T.z - n).toNat) (some ⟨s2.size, 0, none⟩) 0 T.z 0 s3 ⟨e03, 0, by omega, rfl, ?_, ⟨f3.buf, f3.len, fun a ha => by cases ha; exact e02.1, f3.cap⟩, fun y hy => by cases hy; show s2.size ≠ s1.size; omega⟩ ?_
  · exact (TkN.new m2).ext e3
  rintro x l c n t ⟨et, k, hk, rfl, htk, hfr, hxr⟩
  unfold B_prize_prizes_due_0
  have hlen : l = k := by have := hfr.len; rw [ints_len] at this; unfold manL at this; rw [List.length_map, dueL_len] at this; omega
  refine BR_dec (fun hlt => ?_) (fun hlt => ?_)
  · have hkz : k < T.z := by omega
    unfold INV
    simp only [mth_clubs]
    generalize hnx : (fun vs : List Value => _) = nx
    refine c_clubs (b := bestP T) hkz isLeft htk (hp.ext et) fun t1 f1 => ?_
    try simp only [TUP_mk, AGG_mk, HD_mk, NL_mk, TYI_mk, TYB_mk, TYP_mk, TYL_mk, TYS_mk, TYM_mk, SO_mk, NX_mk, endK_mk, endK_mk', add_0]
    generalize hg : givB T (bestP T) (fun m => !tkF (dueL T k) m) k = g
    have hd : dueL T (k + 1) = dueL T k ++ [g] := by rw [← hg]; rfl
    have fin : ∀ t', Ext s t' → TkN t' s1.size (tkF (dueL T (k + 1))) → Fr s.size t' x l c 1 (ints (manL (dueL T k))) → J_prize_prizes_due_0 W (endK K E) (manI g) x l c (some p) (bestP T).1 (bestP T).2 (some s1.size) T.z nx k t' := by
      intro t' e' htk' hfr'
      unfold J_prize_prizes_due_0
      refine ne1 fun t3 e3' z3' q3 => ?_
      have et3 := e'.trans e3'
      refine APP_fr (lo := s.size) (hfr'.ext e3') et3.1 (ws := [.int .i64 (manI g)]) (fun i hi => ⟨⟨t'.size, 0, none⟩, rfl, ?_⟩) rfl zc_3 rfl (by omega) (by simp [oneCell]) (by omega) fun t4 x4 c4 k4 hx4 g4 => ?_
      · have hi0 : i = 0 := by simp at hi; omega
        subst hi0; exact q3.cell
      have e4 : Ext s t4 := kp_nil et3 (fun b hb => by obtain ⟨y, hy, rfl⟩ := hb; exact hfr'.fr y hy) k4
      have hrt := htk'.lt
      rw [← hnx]
      refine ⟨rfl, _, _, _, _, rfl, ⟨e4, k + 1, hkz, wrap_succ (by omega), ?_, ?_, fun y hy => ?_⟩, ms_succ hkz (by omega)⟩
      · refine (htk'.ext e3').kp k4 (fun hb => ?_)
        obtain ⟨y, hy, hyb⟩ := hb
        exact hxr y hy hyb
      · rw [hd, manL_app, ints_app]; exact g4
      · rcases hx4 y hy with ⟨y', hy', hyb⟩ | hyb
        · rw [← hyb]; exact hxr y' hy'
        · have := e3'.1; omega
    cases g with
    | none =>
      refine BR_ne (fun hh => absurd rfl hh) (fun _ => ?_)
      refine fin t1 (et.trans f1) ?_ (hfr.ext f1)
      rw [hd, tkF_none]; exact htk.ext f1
    | some m =>
      refine BR_ne (fun _ => ?_) (fun hh => ?_)
      · refine TkN.put (htk.ext f1) fun t2 k2 z2' htk2 => ?_
        refine fin t2 (ext_kp (et.trans f1) hr k2) ?_ ?_
        · rw [hd, tkF_some]; exact htk2
        · exact (hfr.ext f1).kp k2 (fun y hy => hxr y hy)
      · have : ((m : Nat) : Int) = -1 := hh
        omega
  · have hkz : k = T.z := by omega
    subst hkz
    subst hlen
    exact h t x c et hfr
end
end Go.Proofs.Ytfaeokcbfnlgbaa.G

/- Prize: givings; what everybody gets; Can, Due, Club. -/
set_option linter.unusedSimpArgs false
set_option linter.unusedVariables false
set_option maxRecDepth 20000
namespace Go.Proofs.Ytfaeokcbfnlgbaa.G
open Go.V
theorem zc_29 : zc Pg 29 = [.int .i64 0] := by kernel_rfl
theorem _root_.Go.V.Fr.le {lo lo' : Nat} {s : Hp} {x : Option Addr} {l c es : Nat} {vs : List Value} (h : Fr lo s x l c es vs) (hl : lo' ≤ lo) : Fr lo' s x l c es vs := ⟨h.buf, h.len, fun a ha => Nat.le_trans hl (h.fr a ha), h.cap⟩
/-- A row is made, and another one is copied into it. -/
theorem DUP_rule {P : Program} {t : TypeId} {n : Nat} {z : Value} {y : Option Addr} {vs : List Value} {K : Nat → Int → Hp → Prop} {s : Hp} (hz : zc P t = [z]) (hn : n ≤ 100000) (hy : RowAt s y vs) (hl : vs.length = n) (hv : ∀ v ∈ vs, oneCell v = true)
    (h : ∀ s', Ext s s' → Fr s.size s' (some ⟨s.size, 0, none⟩) n n 1 vs → K s.size n s') : MKS P t (n : Int) (n : Int) (fun B => COPY 1 (some ⟨B, 0, none⟩) n y n (K B)) s := by
  refine MKS_rule hz hn fun s1 e1 z1 o1 => ?_
  refine ⟨vs, ?_, ?_⟩
  · rw [Nat.min_self, Nat.mul_one, ← hl]; exact (hy.ext e1).cells
  · refine wrN_rule vs _ 0 _ s1 (fun i hi => ⟨z, ?_⟩) hv fun s2 k2 z2 o2 _ => ?_
    · rw [add_nil, Nat.zero_add, Nat.zero_add]; exact o1 i (by omega)
    · rw [Nat.min_self]
      refine h s2 (ext_kp e1 (Nat.le_refl _) k2) ⟨⟨by omega, fun i hi => ⟨_, rfl, ?_⟩⟩, by omega, fun a ha => by cases ha; exact Nat.le_refl _, by omega⟩
      have hi' : i < vs.length := by omega
      have := o2 i hi'
      rw [Nat.zero_add] at this
      exact ⟨vs[i], this, fun _ => rfl⟩
/-- Is a list a giving? -/
def gvS (T : PT) : List Int → List Int → Bool
  | _, [] => true
  | seen, d :: r => ((d == -1) || (decide (0 ≤ d ∧ d < T.n) && !decide (d ∈ seen))) && gvS T (seen ++ [d]) r
def gvP (T : PT) (l : List Int) : Bool := decide (l.length = T.z) && gvS T [] l
theorem gvS_step {T : PT} {l : List Int} {k : Nat} (hk : k < l.length) : gvS T (l.take k) (l.drop k) = (((l.getD k 0 == -1) || (decide (0 ≤ l.getD k 0 ∧ l.getD k 0 < T.n) && !decide (l.getD k 0 ∈ l.take k))) && gvS T (l.take (k + 1)) (l.drop (k + 1))) := by
  rw [List.drop_eq_getElem_cons hk, getD_lt hk]
  conv => lhs; unfold gvS
  rw [List.take_add_one, List.getElem?_eq_getElem hk]
  rfl
theorem gvS_all {T : PT} : ∀ (l seen : List Int), gvS T seen l = true → ∀ d ∈ l, d = -1 ∨ (0 ≤ d ∧ d < T.n)
  | [], _, _, d, hd => by cases hd
  | x :: r, seen, h, d, hd => by
    unfold gvS at h
    simp only [Bool.and_eq_true, Bool.or_eq_true, decide_eq_true_eq, beq_iff_eq] at h
    rcases List.mem_cons.1 hd with rfl | hd
    · rcases h.1 with h | h
      · exact .inl h
      · exact .inr h.1
    · exact gvS_all r _ h.2 d hd
/-- What everybody gets by the first so many. -/
def worL (T : PT) (l : List Int) : Nat → List Int
  | 0 => List.replicate T.n 0
  | k + 1 => if l.getD k 0 = -1 then worL T l k else (worL T l k).set (l.getD k 0).toNat (T.pz k).worth
theorem worL_len (T : PT) (l : List Int) : ∀ k, (worL T l k).length = T.n
  | 0 => by simp [worL]
  | k + 1 => by unfold worL; split <;> simp [worL_len T l k]
def worP (T : PT) (l : List Int) : List Int := worL T l l.length
theorem worL_bd {T : PT} (hv : VdP T) (l : List Int) : ∀ k, k ≤ T.z → ∀ x ∈ worL T l k, 0 ≤ x ∧ x ≤ 1000
  | 0, _, x, hx => by unfold worL at hx; rw [List.mem_replicate] at hx; omega
  | k + 1, hk, x, hx => by
    unfold worL at hx
    split at hx
    · exact worL_bd hv l k (by omega) x hx
    · rcases List.mem_or_eq_of_mem_set hx with hx | rfl
      · exact worL_bd hv l k (by omega) x hx
      · exact hv.wo k (by omega)
section
variable {W : World} {K : VK} {E : List PanicEntry → Hp → Prop} {s : Hp} {p : Addr} {T : PT}
theorem c_giving {x : Option Addr} {c : Nat} {ds : List Int} (hp : PrO s p T) (hx : RowAt s x (ints ds)) (h1 : gvP T ds = true → ∀ s' y c', Ext s s' → Fr s.size s' y ds.length c' 1 (ints ds) → K (.slice y ds.length c') s') (h2 : gvP T ds = false → ∀ s', Ext s s' → E (pn 2) s') :
    CALL Pg W F_prize_prizes_giving [.pointer (some p), .slice x ds.length c] K E s := by
  have hv := okP_vd hp.ok
  have h6 := hv.z6
  have h8 := hv.n8
  refine does_prize_prizes_giving W (some p) x ds.length c _ s ?_
  unfold T_prize_prizes_giving
  obtain ⟨y, cy, y1, y2⟩ := hp.lst
  refine ⟨_, _, _, y1, ?_⟩
  dsimp only
  have hno : ((ds.length : Int) == (T.z : Int)) = false → gvP T ds = false := fun hb => by
    unfold gvP
    have : ¬ ds.length = T.z := fun e => by rw [e] at hb; simp at hb
    rw [decide_eq_false this]; rfl
  refine c_must (fun hb => ?_) (fun hb => h2 (hno hb) s (Ext.refl s))
  have hlen : ds.length = T.z := by
    have : (ds.length : Int) = T.z := by simpa using hb
    omega
  try simp only [TUP_mk, AGG_mk, HD_mk, NL_mk, TYI_mk, TYB_mk, TYP_mk, TYL_mk, TYS_mk, TYM_mk, SO_mk, NX_mk, endK_mk, endK_mk', add_0]
  refine MKM_rule fun s1 e1 z1 m1 => ?_
  refine L_prize_prizes_giving_0_rule W _ (some p) x ds.length c (some s.size) ds.length (fun n t => Ext s t ∧ ∃ k : Nat, k ≤ ds.length ∧ n = k ∧ TkN t s.size (fun m => decide ((m : Int) ∈ ds.take k)) ∧ gvS T [] ds = gvS T (ds.take k) (ds.drop k)) (fun n _ => (ds.length - n).toNat) 0 s1
    ⟨e1, 0, by omega, rfl, TkN.new m1, rfl⟩ ?_
  rintro n t ⟨et, k, hk, rfl, htk, hgv⟩
  unfold B_prize_prizes_giving_0
  refine BR_dec (fun hlt => ?_) (fun hlt => ?_)
  · have hkl : k < ds.length := by omega
    obtain ⟨a, ha, g⟩ := row_int (hx.ext et) hkl
    refine IXS_at ha hkl ?_
    refine ⟨_, g, ?_⟩
    have hstep := gvS_step (T := T) hkl
    generalize hd : ds.getD k 0 = d at *
    have htake : ds.take (k + 1) = ds.take k ++ [d] := by rw [List.take_add_one, List.getElem?_eq_getElem hkl, ← hd, getD_lt hkl]; rfl
    generalize hnx : (fun vs : List Value => _) = nx
    have fin : ∀ b, b = ((d == -1) || (decide (0 ≤ d ∧ d < T.n) && !decide (d ∈ ds.take k))) → J_prize_prizes_giving_0 W (endK K E) b (some s.size) d (some p) x ds.length c ds.length nx k t := by
      intro b hb
      unfold J_prize_prizes_giving_0
      refine c_must (fun h => ?_) (fun h => h2 ?_ t et)
      · try simp only [TUP_mk, AGG_mk, HD_mk, NL_mk, TYI_mk, TYB_mk, TYP_mk, TYL_mk, TYS_mk, TYM_mk, SO_mk, NX_mk, endK_mk, endK_mk', add_0]
        have hrest : gvS T [] ds = gvS T (ds.take (k + 1)) (ds.drop (k + 1)) := by rw [hgv, hstep, ← hb, h, Bool.true_and]
        rw [hb] at h
        simp only [Bool.or_eq_true, Bool.and_eq_true, decide_eq_true_eq, beq_iff_eq] at h
        rcases h with h | h
        · subst h
          refine TkN.putNo htk (by omega) fun t2 k2 z2 htk2 => ?_
          rw [← hnx]
          refine ⟨_, rfl, ⟨ext_kp et (Nat.le_refl _) k2, k + 1, hkl, wrap_succ (by omega), ?_, hrest⟩, ms_succ hkl (by omega)⟩
          have e : (fun m : Nat => decide ((m : Int) ∈ ds.take (k + 1))) = fun m : Nat => decide ((m : Int) ∈ ds.take k) := by
            funext m
            congr 1
            rw [htake]
            apply propext
            constructor
            · intro hm
              rcases List.mem_append.1 hm with hm | hm
              · exact hm
              · simp at hm
            · exact fun hm => List.mem_append_left _ hm
          rw [e]; exact htk2
        · obtain ⟨⟨h3, h4⟩, h5⟩ := h
          obtain ⟨m, rfl⟩ := Int.eq_ofNat_of_zero_le h3
          have hne : ((m : Int) != -1) = true := by
            exact bne_iff_ne.2 (by omega)
          rw [hne]
          refine TkN.put htk fun t2 k2 z2 htk2 => ?_
          rw [← hnx]
          refine ⟨_, rfl, ⟨ext_kp et (Nat.le_refl _) k2, k + 1, hkl, wrap_succ (by omega), ?_, hrest⟩, ms_succ hkl (by omega)⟩
          have e : (fun q : Nat => decide ((q : Int) ∈ ds.take (k + 1))) = fun q : Nat => if q = m then true else decide ((q : Int) ∈ ds.take k) := by
            funext q
            rw [htake]
            by_cases hq : q = m
            · subst hq
              rw [if_pos rfl]
              exact decide_eq_true (by simp)
            · rw [if_neg hq]
              congr 1
              apply propext
              constructor
              · intro hm
                rcases List.mem_append.1 hm with hm | hm
                · exact hm
                · simp at hm; omega
              · exact fun hm => List.mem_append_left _ hm
          rw [e]; exact htk2
      · unfold gvP
        rw [decide_eq_true hlen, hgv, hstep, ← hb, h]; rfl
    refine BR_eq (fun h => ?_) (fun h => ?_)
    · refine fin _ ?_
      rw [h]; rfl
    · have hdn : (d == -1) = false := by simpa using h
      refine c_isMan (hp.ext et) ?_
      try simp only [TUP_mk, AGG_mk, HD_mk, NL_mk, TYI_mk, TYB_mk, TYP_mk, TYL_mk, TYS_mk, TYM_mk, SO_mk, NX_mk, endK_mk, endK_mk', add_0]
      refine BR_bool (fun h3 => ?_) (fun h3 => ?_)
      · have h3' := of_decide_eq_true h3
        obtain ⟨m, rfl⟩ := Int.eq_ofNat_of_zero_le h3'.1
        refine c_left htk ?_
        try simp only [TUP_mk, AGG_mk, HD_mk, NL_mk, TYI_mk, TYB_mk, TYP_mk, TYL_mk, TYS_mk, TYM_mk, SO_mk, NX_mk, endK_mk, endK_mk', add_0]
        refine fin _ ?_
        rw [hdn, h3]; rfl
      · refine fin _ ?_
        rw [hdn, h3]; rfl
  · have hkl : k = ds.length := by omega
    subst hkl
    rw [List.drop_length] at hgv
    have hgv' : gvP T ds = true := by
      unfold gvP
      rw [decide_eq_true hlen, hgv]; rfl
    rw [toNat_nat]
    refine DUP_rule zc_3 (by omega) (hx.ext et) (ints_len ds) (ints_one ds) fun s' e' f' => ?_
    exact h1 hgv' s' _ _ (et.trans e') (f'.le et.1)
theorem c_worths {x : Option Addr} {c : Nat} {ds : List Int} (hp : PrO s p T) (hx : RowAt s x (ints ds)) (hl : ds.length = T.z) (hd : ∀ d ∈ ds, d = -1 ∨ (0 ≤ d ∧ d < T.n)) (h : ∀ s' y c', Ext s s' → Fr s.size s' y T.n c' 1 (ints (worP T ds)) → K (.slice y T.n c') s') :
    CALL Pg W F_prize_prizes_worths [.pointer (some p), .slice x ds.length c] K E s := by
  have hv := okP_vd hp.ok
  have h6 := hv.z6
  have h8 := hv.n8
  refine does_prize_prizes_worths W (some p) x ds.length c _ s ?_
  unfold T_prize_prizes_worths
  obtain ⟨y, cy, y1, y2⟩ := hp.men
  refine ⟨_, _, _, y1, ?_⟩
  dsimp only
  rw [toNat_nat]
  refine MKS_rule zc_3 (by omega) fun s1 e1 z1 o1 => ?_
  refine L_prize_prizes_worths_0_rule W _ (some p) ⟨s.size, 0, none⟩ T.n x ds.length c ds.length (fun n t => Ext s t ∧ ∃ k : Nat, k ≤ ds.length ∧ n = k ∧ Buf t (some ⟨s.size, 0, none⟩) T.n (ints (worL T ds k))) (fun n _ => (ds.length - n).toNat) 0 s1
    ⟨e1, 0, by omega, rfl, ?_⟩ ?_
  · refine ⟨by rw [ints_len, worL_len]; exact Nat.le_refl _, fun i hi => ⟨_, rfl, .int .i64 0, ?_, fun hh => ?_⟩⟩
    · rw [add_nil, Nat.zero_add]; exact o1 i hi
    · rw [ints_get hh]; simp [worL]
  rintro n t ⟨et, k, hk, rfl, hb⟩
  unfold B_prize_prizes_worths_0
  refine BR_dec (fun hlt => ?_) (fun hlt => ?_)
  · have hkl : k < ds.length := by omega
    have hkz : k < T.z := by omega
    obtain ⟨a, ha, g⟩ := row_int (hx.ext et) hkl
    refine IXS_at ha hkl ?_
    refine ⟨_, g, ?_⟩
    have hdk := hd (ds.getD k 0) (by rw [getD_lt hkl]; exact List.getElem_mem hkl)
    generalize hdd : ds.getD k 0 = d at *
    refine BR_ne (fun h3 => ?_) (fun h3 => ?_)
    · have hdk' := hdk.resolve_left h3
      obtain ⟨m, rfl⟩ := Int.eq_ofNat_of_zero_le hdk'.1
      have hm : m < T.n := by omega
      obtain ⟨z, cz, q1, q2⟩ := (hp.ext et).lst
      obtain ⟨az, w0, w1, w2⟩ := pz_row q2 hkz
      refine ⟨_, _, _, q1, ?_⟩
      refine IXS_at w0 hkz ?_
      refine ⟨_, w2, ?_⟩
      refine IXS_nat hm ?_
      have hmi : m < (ints (worL T ds k)).length := by rw [ints_len, worL_len]; exact hm
      have hat := hb.at hmi
      have hset := hb.set (v := .int .i64 (T.pz k).worth) hmi
      rw [Nat.mul_one]
      refine WR_own hat rfl ?_
      unfold J_prize_prizes_worths_0
      refine ⟨rfl, _, rfl, ⟨Ext.setC et (by rw [add_0, add_blk]; exact Nat.le_refl _), k + 1, hkl, wrap_succ (by omega), ?_⟩, ms_succ hkl (by omega)⟩
      have e : ints (worL T ds (k + 1)) = (ints (worL T ds k)).set m (.int .i64 (T.pz k).worth) := by
        conv => lhs; unfold worL
        rw [hdd, if_neg h3, toNat_nat]
        unfold ints
        rw [List.map_set]
      rw [e]; exact hset
    · unfold J_prize_prizes_worths_0
      refine ⟨rfl, _, rfl, ⟨et, k + 1, hkl, wrap_succ (by omega), ?_⟩, ms_succ hkl (by omega)⟩
      have e : worL T ds (k + 1) = worL T ds k := by
        conv => lhs; unfold worL
        rw [hdd, if_pos h3]
      rw [e]; exact hb
  · have hkl : k = ds.length := by omega
    subst hkl
    refine h t _ _ et ⟨by rw [Nat.mul_one]; exact hb, by rw [ints_len, Nat.mul_one]; exact worL_len _ _ _, fun a ha => by cases ha; exact Nat.le_refl _, by omega⟩
end
end Go.Proofs.Ytfaeokcbfnlgbaa.G

/- Prize: Can, Due, Wrong, Club, Worth. -/
set_option linter.unusedSimpArgs false
set_option linter.unusedVariables false
set_option maxRecDepth 20000
namespace Go.Proofs.Ytfaeokcbfnlgbaa.G
open Go.V
def isM (T : PT) (i : Int) : Bool := decide (0 ≤ i ∧ i < T.n)
def isZ (T : PT) (i : Int) : Bool := decide (0 ≤ i ∧ i < T.z)
def canR (T : PT) (m z : Int) : Bool × Int := if okP T then (if isM T m && isZ T z then (canP T m.toNat z.toNat, 0) else (false, 2)) else (false, 1)
def dueR (T : PT) : List Int × Int := if okP T then (manL (dueP T), 0) else ([], 1)
def wrongP (T : PT) (l : List Int) : Int × Int × Int := match (List.range T.z).find? (fun i => l.getD i 0 != (manL (dueP T)).getD i 0) with | some i => (i, (manL (dueP T)).getD i 0, 0) | none => (0, 0, 4)
def wrongR (T : PT) (l : List Int) : Int × Int × Int := if okP T then (if gvP T l then wrongP T l else (0, 0, 2)) else (0, 0, 1)
def clubR (T : PT) : Int × Int × Int := if okP T then (if bestP T = (0, 0) then (0, 0, 4) else ((bestP T).1, (bestP T).2, 0)) else (0, 0, 1)
/-- Is a giving fair? -/
def fairP (T : PT) (l : List Int) : Bool := (List.range l.length).all fun i => (l.getD i 0 == -1) || canP T (l.getD i 0).toNat i
def worthR (T : PT) (l : List Int) : List Int × Int × Int := if okP T then (if gvP T l then (if fairP T l then (worP T l, (worP T l).sum, 0) else ([], 0, 4)) else ([], 0, 2)) else ([], 0, 1)
section
variable {W : World} {K : VK} {E : List PanicEntry → Hp → Prop} {s : Hp} {p : Addr} {T : PT}
theorem ep_ok {t : Hp} {C : Nat} {z : Value} {e : Int} {Kn : Int → Hp → Prop} (c0 : Own t ⟨C, 0, none⟩ z) (h : ∀ t', Kp (· = C) t t' → Kn e t') :
    (WR (Addr.add ⟨C, 0, none⟩ 0) (.int .i64 e) <| DEF Pg W (.tuple #[(.func (.func 42) #[] #[]), (.tuple #[(.pointer (some ⟨C, 0, none⟩))])]) none (RDI .i64 ⟨C, 0, none⟩ Kn)) t := by
  refine WR_own c0 rfl (def_none ?_)
  exact ⟨_, (own_set c0).cell, h _ (Kp.setC (Kp.refl _) (.inl rfl))⟩
theorem ep_err {t : Hp} {C : Nat} {z : Value} {e : Int} {Kn : Int → Hp → Prop} (c0 : Own t ⟨C, 0, none⟩ z) (h : ∀ t', Kp (· = C) t t' → Kn e t') :
    DEF Pg W (.tuple #[(.func (.func 42) #[] #[]), (.tuple #[(.pointer (some ⟨C, 0, none⟩))])]) (some (pn e)) (RDI .i64 ⟨C, 0, none⟩ Kn) t := by
  refine def_some c0 fun t' k o => ⟨_, o.cell, h t' k⟩
theorem c_Can {x y : Option Addr} {c c' : Nat} {m z : Int} (hx : MnAt s x T.men) (hy : PzAt s y T.list) (h : ∀ s', Ext s s' → K (.tuple #[.bool (canR T m z).1, .int .i64 (canR T m z).2]) s') :
    CALL Pg W F_prize_Can [.agg #[.slice x T.n c, .slice y T.z c'], .int .i64 m, .int .i64 z] K E s := by
  refine does_prize_Can W x T.n c y T.z c' m z _ s ?_
  unfold T_prize_Can
  refine ne2 fun s1 e1 z1 o1 o2 => ?_
  refine nz1 zc_29 fun s2 e2 z2 o3 => ?_
  have e02 := e1.trans e2
  refine ⟨_, _, _, e2.cell o1.cell, _, _, _, e2.cell o2.cell, ?_⟩
  have hs1 : s.size ≤ s1.size := e1.1
  refine c_open (hx.ext e02) (hy.ext e02) (fun hok s3 p e3 hp => ?_) (fun hok s3 e3 => ?_)
  · try simp only [TUP_mk, AGG_mk, HD_mk, NL_mk, TYI_mk, TYB_mk, TYP_mk, TYL_mk, TYS_mk, TYM_mk, SO_mk, NX_mk, endK_mk, endK_mk', add_0]
    have e03 := e02.trans e3
    refine c_isMan hp ?_
    try simp only [TUP_mk, AGG_mk, HD_mk, NL_mk, TYI_mk, TYB_mk, TYP_mk, TYL_mk, TYS_mk, TYM_mk, SO_mk, NX_mk, endK_mk, endK_mk', add_0]
    have fin : ∀ b, b = (isM T m && isZ T z) → J_prize_Can_0 W (endK K E) b (some p) m z s1.size s3 := by
      intro b hb
      unfold J_prize_Can_0
      refine c_must (fun h1 => ?_) (fun h1 => ?_)
      · try simp only [TUP_mk, AGG_mk, HD_mk, NL_mk, TYI_mk, TYB_mk, TYP_mk, TYL_mk, TYS_mk, TYM_mk, SO_mk, NX_mk, endK_mk, endK_mk', add_0]
        rw [hb] at h1
        have h2 := h1
        simp only [Bool.and_eq_true] at h1
        obtain ⟨g1, g2⟩ := h1
        obtain ⟨i, rfl⟩ := Int.eq_ofNat_of_zero_le (of_decide_eq_true g1).1
        obtain ⟨j, rfl⟩ := Int.eq_ofNat_of_zero_le (of_decide_eq_true g2).1
        have hi := (of_decide_eq_true g1).2
        have hj := (of_decide_eq_true g2).2
        refine c_can hp (by omega) (by omega) fun s4 e4 => ?_
        try simp only [TUP_mk, AGG_mk, HD_mk, NL_mk, TYI_mk, TYB_mk, TYP_mk, TYL_mk, TYS_mk, TYM_mk, SO_mk, NX_mk, endK_mk, endK_mk', add_0]
        refine ep_ok (e4.own (e3.own o3)) fun s5 k5 => ?_
        have := h s5 (ext_kp (e03.trans e4) hs1 k5)
        unfold canR at this
        rw [if_pos hok, h2] at this
        exact this
      · try simp only [TUP_mk, AGG_mk, HD_mk, NL_mk, TYI_mk, TYB_mk, TYP_mk, TYL_mk, TYS_mk, TYM_mk, SO_mk, NX_mk, endK_mk, endK_mk', add_0]
        refine ep_err (e3.own o3) fun s5 k5 => ?_
        have := h s5 (ext_kp e03 hs1 k5)
        unfold canR at this
        rw [if_pos hok, ← hb, h1] at this
        exact this
    refine BR_bool (fun h1 => ?_) (fun h1 => ?_)
    · refine c_isPrize hp ?_
      try simp only [TUP_mk, AGG_mk, HD_mk, NL_mk, TYI_mk, TYB_mk, TYP_mk, TYL_mk, TYS_mk, TYM_mk, SO_mk, NX_mk, endK_mk, endK_mk', add_0]
      refine fin _ ?_
      unfold isM isZ
      rw [h1]; rfl
    · refine fin _ ?_
      unfold isM
      rw [h1]; rfl
  · try simp only [TUP_mk, AGG_mk, HD_mk, NL_mk, TYI_mk, TYB_mk, TYP_mk, TYL_mk, TYS_mk, TYM_mk, SO_mk, NX_mk, endK_mk, endK_mk', add_0]
    refine ep_err (e3.own o3) fun s5 k5 => ?_
    have := h s5 (ext_kp (e02.trans e3) hs1 k5)
    unfold canR at this
    rw [hok] at this
    exact this
theorem c_Due {x y : Option Addr} {c c' : Nat} (hx : MnAt s x T.men) (hy : PzAt s y T.list) (h : ∀ s' q cq, Ext s s' → Fr s.size s' q (dueR T).1.length cq 1 (ints (dueR T).1) → K (.tuple #[.slice q (dueR T).1.length cq, .int .i64 (dueR T).2]) s') :
    CALL Pg W F_prize_Due [.agg #[.slice x T.n c, .slice y T.z c']] K E s := by
  refine does_prize_Due W x T.n c y T.z c' _ s ?_
  unfold T_prize_Due
  refine ne2 fun s1 e1 z1 o1 o2 => ?_
  refine nz1 zc_29 fun s2 e2 z2 o3 => ?_
  have e02 := e1.trans e2
  refine ⟨_, _, _, e2.cell o1.cell, _, _, _, e2.cell o2.cell, ?_⟩
  have hs1 : s.size ≤ s1.size := e1.1
  refine c_open (hx.ext e02) (hy.ext e02) (fun hok s3 p e3 hp => ?_) (fun hok s3 e3 => ?_)
  · try simp only [TUP_mk, AGG_mk, HD_mk, NL_mk, TYI_mk, TYB_mk, TYP_mk, TYL_mk, TYS_mk, TYM_mk, SO_mk, NX_mk, endK_mk, endK_mk', add_0]
    have e03 := e02.trans e3
    refine c_due hp fun s4 q cq e4 f4 => ?_
    try simp only [TUP_mk, AGG_mk, HD_mk, NL_mk, TYI_mk, TYB_mk, TYP_mk, TYL_mk, TYS_mk, TYM_mk, SO_mk, NX_mk, endK_mk, endK_mk', add_0]
    refine ep_ok (e4.own (e3.own o3)) fun s5 k5 => ?_
    have hlen : (dueR T).1.length = T.z := by unfold dueR manL dueP; rw [if_pos hok]; simp [dueL_len]
    have := h s5 q cq (ext_kp (e03.trans e4) hs1 k5) (by
      rw [hlen]
      unfold dueR
      rw [if_pos hok]
      have h3 : s1.size < s3.size := by have := e3.1; omega
      exact (f4.le e03.1).kp k5 (fun a ha hb => by have := f4.fr a ha; have : a.block = s1.size := hb; omega))
    rw [hlen] at this
    unfold dueR at this
    rw [if_pos hok] at this
    exact this
  · try simp only [TUP_mk, AGG_mk, HD_mk, NL_mk, TYI_mk, TYB_mk, TYP_mk, TYL_mk, TYS_mk, TYM_mk, SO_mk, NX_mk, endK_mk, endK_mk', add_0]
    refine ep_err (e3.own o3) fun s5 k5 => ?_
    have := h s5 none 0 (ext_kp (e02.trans e3) hs1 k5)
    unfold dueR at this
    rw [hok] at this
    exact this (Fr.nil _ _ _)
theorem c_Club {x y : Option Addr} {c c' : Nat} (hx : MnAt s x T.men) (hy : PzAt s y T.list) (h : ∀ s', Ext s s' → K (.tuple #[.int .i64 (clubR T).1, .int .i64 (clubR T).2.1, .int .i64 (clubR T).2.2]) s') :
    CALL Pg W F_prize_Club [.agg #[.slice x T.n c, .slice y T.z c']] K E s := by
  refine does_prize_Club W x T.n c y T.z c' _ s ?_
  unfold T_prize_Club
  refine ne2 fun s1 e1 z1 o1 o2 => ?_
  refine nz1 zc_29 fun s2 e2 z2 o3 => ?_
  have e02 := e1.trans e2
  refine ⟨_, _, _, e2.cell o1.cell, _, _, _, e2.cell o2.cell, ?_⟩
  have hs1 : s.size ≤ s1.size := e1.1
  refine c_open (hx.ext e02) (hy.ext e02) (fun hok s3 p e3 hp => ?_) (fun hok s3 e3 => ?_)
  · try simp only [TUP_mk, AGG_mk, HD_mk, NL_mk, TYI_mk, TYB_mk, TYP_mk, TYL_mk, TYS_mk, TYM_mk, SO_mk, NX_mk, endK_mk, endK_mk', add_0]
    have e03 := e02.trans e3
    refine c_best hp fun s4 e4 => ?_
    try simp only [TUP_mk, AGG_mk, HD_mk, NL_mk, TYI_mk, TYB_mk, TYP_mk, TYL_mk, TYS_mk, TYM_mk, SO_mk, NX_mk, endK_mk, endK_mk', add_0]
    refine nw2 zc_80 rfl rfl fun s5 e5 z5 q1 q2 => ?_
    refine ⟨_, q1.cell, _, q2.cell, ?_⟩
    have e05 := e03.trans (e4.trans e5)
    have o5 := e5.own (e4.own (e3.own o3))
    refine c_must (fun hb => ?_) (fun hb => ?_)
    · try simp only [TUP_mk, AGG_mk, HD_mk, NL_mk, TYI_mk, TYB_mk, TYP_mk, TYL_mk, TYS_mk, TYM_mk, SO_mk, NX_mk, endK_mk, endK_mk', add_0]
      refine ⟨_, q1.cell, _, q2.cell, ?_⟩
      refine ANDS_i ⟨_, q2.cell, rfl⟩ ?_
      refine ep_ok o5 fun s6 k6 => ?_
      have hne : ¬ bestP T = (0, 0) := fun hh => by rw [hh] at hb; simp at hb
      have := h s6 (ext_kp e05 hs1 k6)
      unfold clubR at this
      rw [if_pos hok, if_neg hne] at this
      exact this
    · try simp only [TUP_mk, AGG_mk, HD_mk, NL_mk, TYI_mk, TYB_mk, TYP_mk, TYL_mk, TYS_mk, TYM_mk, SO_mk, NX_mk, endK_mk, endK_mk', add_0]
      refine ep_err o5 fun s6 k6 => ?_
      have he : bestP T = (0, 0) := by
        simp only [Bool.not_eq_false', Bool.and_eq_true, beq_iff_eq] at hb
        exact Prod.ext hb.1 hb.2
      have := h s6 (ext_kp e05 hs1 k6)
      unfold clubR at this
      rw [if_pos hok, if_pos he] at this
      exact this
  · try simp only [TUP_mk, AGG_mk, HD_mk, NL_mk, TYI_mk, TYB_mk, TYP_mk, TYL_mk, TYS_mk, TYM_mk, SO_mk, NX_mk, endK_mk, endK_mk', add_0]
    refine ep_err (e3.own o3) fun s5 k5 => ?_
    have := h s5 (ext_kp (e02.trans e3) hs1 k5)
    unfold clubR at this
    rw [hok] at this
    exact this
theorem c_Wrong {x y q : Option Addr} {c c' cq : Nat} {ds : List Int} (hx : MnAt s x T.men) (hy : PzAt s y T.list) (hq : RowAt s q (ints ds)) (h : ∀ s', Ext s s' → K (.tuple #[.int .i64 (wrongR T ds).1, .int .i64 (wrongR T ds).2.1, .int .i64 (wrongR T ds).2.2]) s') :
    CALL Pg W F_prize_Wrong [.agg #[.slice x T.n c, .slice y T.z c'], .slice q ds.length cq] K E s := by
  refine does_prize_Wrong W x T.n c y T.z c' q ds.length cq _ s ?_
  unfold T_prize_Wrong
  refine ne2 fun s1 e1 z1 o1 o2 => ?_
  refine nz1 zc_29 fun s2 e2 z2 o3 => ?_
  have e02 := e1.trans e2
  refine ⟨_, _, _, e2.cell o1.cell, _, _, _, e2.cell o2.cell, ?_⟩
  have hs1 : s.size ≤ s1.size := e1.1
  refine c_open (hx.ext e02) (hy.ext e02) (fun hok s3 p e3 hp => ?_) (fun hok s3 e3 => ?_)
  · try simp only [TUP_mk, AGG_mk, HD_mk, NL_mk, TYI_mk, TYB_mk, TYP_mk, TYL_mk, TYS_mk, TYM_mk, SO_mk, NX_mk, endK_mk, endK_mk', add_0]
    have e03 := e02.trans e3
    refine c_giving hp (hq.ext e03) (fun hg s4 r cr e4 f4 => ?_) (fun hg s4 e4 => ?_)
    · try simp only [TUP_mk, AGG_mk, HD_mk, NL_mk, TYI_mk, TYB_mk, TYP_mk, TYL_mk, TYS_mk, TYM_mk, SO_mk, NX_mk, endK_mk, endK_mk', add_0]
      have e04 := e03.trans e4
      refine c_due (hp.ext e4) fun s5 w cw e5 f5 => ?_
      try simp only [TUP_mk, AGG_mk, HD_mk, NL_mk, TYI_mk, TYB_mk, TYP_mk, TYL_mk, TYS_mk, TYM_mk, SO_mk, NX_mk, endK_mk, endK_mk', add_0]
      have e05 := e04.trans e5
      have hz : ds.length = T.z := by unfold gvP at hg; simp only [Bool.and_eq_true, decide_eq_true_eq] at hg; exact hg.1
      have hv := okP_vd hok
      have h6 := hv.z6
      have hw : (manL (dueP T)).length = T.z := by unfold manL dueP; simp [dueL_len]
      have hR : wrongR T ds = wrongP T ds := by unfold wrongR; rw [if_pos hok, if_pos hg]
      rw [hR] at h
      have oB := e5.own (e4.own (e3.own o3))
      refine L_prize_Wrong_0_rule W _ ⟨s1.size, 0, none⟩ r ds.length cr w T.z cw T.z (fun n t => t = s5 ∧ ∃ k : Nat, k ≤ T.z ∧ n = k ∧ ∀ j, j < k → ds.getD j 0 = (manL (dueP T)).getD j 0) (fun n _ => (T.z - n).toNat) 0 s5 ⟨rfl, 0, by omega, rfl, fun j hj => by omega⟩ ?_
      rintro n t ⟨rfl, k, hk, rfl, hsame⟩
      unfold B_prize_Wrong_0
      refine BR_dec (fun hlt => ?_) (fun hlt => ?_)
      · have hkz : k < T.z := by omega
        obtain ⟨a, ha, g⟩ := row_int f5.row (by omega : k < (manL (dueP T)).length)
        refine IXS_at ha hkz ?_
        refine ⟨_, g, ?_⟩
        obtain ⟨b, hb, g'⟩ := row_int (f4.row.ext e5) (by omega : k < ds.length)
        refine IXS_at hb (by omega) ?_
        refine ⟨_, g', ?_⟩
        refine BR_ne (fun h3 => ?_) (fun h3 => ?_)
        · refine ep_ok oB fun t2 k2 => ?_
          have := h t2 (ext_kp e05 hs1 k2)
          have hf : (List.range T.z).find? (fun i => ds.getD i 0 != (manL (dueP T)).getD i 0) = some k := by
            refine find_at (k := k) (List.getElem?_range hkz) (bne_iff_ne.2 h3) fun j x hj hx => ?_
            have : x = j := by rw [List.getElem?_range (by omega)] at hx; exact (Option.some.inj hx).symm
            subst this
            rw [hsame x hj]; simp
          unfold wrongP at this
          rw [hf] at this
          exact this
        · refine ⟨rfl, _, rfl, ⟨rfl, k + 1, hkz, wrap_succ (by omega), fun j hj => ?_⟩, ms_succ hkz (by omega)⟩
          by_cases e : j = k
          · subst e; exact h3
          · exact hsame j (by omega)
      · have hkz : k = T.z := by omega
        subst hkz
        refine ep_ok oB fun t2 k2 => ?_
        have := h t2 (ext_kp e05 hs1 k2)
        have hf : (List.range T.z).find? (fun i => ds.getD i 0 != (manL (dueP T)).getD i 0) = none := by
          refine find_no fun j x hj hx => ?_
          rw [List.length_range] at hj
          have : x = j := by rw [List.getElem?_range hj] at hx; exact (Option.some.inj hx).symm
          subst this
          rw [hsame x hj]; simp
        unfold wrongP at this
        rw [hf] at this
        exact this
    · try simp only [TUP_mk, AGG_mk, HD_mk, NL_mk, TYI_mk, TYB_mk, TYP_mk, TYL_mk, TYS_mk, TYM_mk, SO_mk, NX_mk, endK_mk, endK_mk', add_0]
      refine ep_err (e4.own (e3.own o3)) fun s5 k5 => ?_
      have := h s5 (ext_kp (e03.trans e4) hs1 k5)
      unfold wrongR at this
      rw [if_pos hok, hg] at this
      exact this
  · try simp only [TUP_mk, AGG_mk, HD_mk, NL_mk, TYI_mk, TYB_mk, TYP_mk, TYL_mk, TYS_mk, TYM_mk, SO_mk, NX_mk, endK_mk, endK_mk', add_0]
    refine ep_err (e3.own o3) fun s5 k5 => ?_
    have := h s5 (ext_kp (e02.trans e3) hs1 k5)
    unfold wrongR at this
    rw [hok] at this
    exact this
theorem worP_bd (hok : okP T = true) {ds : List Int} (hl : ds.length = T.z) : ∀ x ∈ worP T ds, 0 ≤ x ∧ x ≤ 1000 := worL_bd (okP_vd hok) ds ds.length (by omega)
theorem worP_len {ds : List Int} : (worP T ds).length = T.n := worL_len _ _ _
theorem c_Worth {x y q : Option Addr} {c c' cq : Nat} {ds : List Int} (hx : MnAt s x T.men) (hy : PzAt s y T.list) (hq : RowAt s q (ints ds)) (h : ∀ s' w cw, Ext s s' → Fr s.size s' w (worthR T ds).1.length cw 1 (ints (worthR T ds).1) → K (.tuple #[.slice w (worthR T ds).1.length cw, .int .i64 (worthR T ds).2.1, .int .i64 (worthR T ds).2.2]) s') :
    CALL Pg W F_prize_Worth [.agg #[.slice x T.n c, .slice y T.z c'], .slice q ds.length cq] K E s := by
  refine does_prize_Worth W x T.n c y T.z c' q ds.length cq _ s ?_
  unfold T_prize_Worth
  refine ne2 fun s1 e1 z1 o1 o2 => ?_
  refine nz1 zc_29 fun s2 e2 z2 o3 => ?_
  have e02 := e1.trans e2
  refine ⟨_, _, _, e2.cell o1.cell, _, _, _, e2.cell o2.cell, ?_⟩
  have hs1 : s.size ≤ s1.size := e1.1
  refine c_open (hx.ext e02) (hy.ext e02) (fun hok s3 p e3 hp => ?_) (fun hok s3 e3 => ?_)
  · try simp only [TUP_mk, AGG_mk, HD_mk, NL_mk, TYI_mk, TYB_mk, TYP_mk, TYL_mk, TYS_mk, TYM_mk, SO_mk, NX_mk, endK_mk, endK_mk', add_0]
    have e03 := e02.trans e3
    have hs3 : s1.size < s3.size := by have := e3.1; omega
    refine c_giving hp (hq.ext e03) (fun hg s4 r cr e4 f4 => ?_) (fun hg s4 e4 => ?_)
    · try simp only [TUP_mk, AGG_mk, HD_mk, NL_mk, TYI_mk, TYB_mk, TYP_mk, TYL_mk, TYS_mk, TYM_mk, SO_mk, NX_mk, endK_mk, endK_mk', add_0]
      have e04 := e03.trans e4
      have hz : ds.length = T.z := by unfold gvP at hg; simp only [Bool.and_eq_true, decide_eq_true_eq] at hg; exact hg.1
      have hgs : gvS T [] ds = true := by unfold gvP at hg; simp only [Bool.and_eq_true, decide_eq_true_eq] at hg; exact hg.2
      have hall := gvS_all ds [] hgs
      have hv := okP_vd hok
      have h6 := hv.z6
      have h8 := hv.n8
      have hR : worthR T ds = if fairP T ds then (worP T ds, (worP T ds).sum, 0) else ([], 0, 4) := by unfold worthR; rw [if_pos hok, if_pos hg]
      refine L_prize_Worth_0_rule W _ ⟨s1.size, 0, none⟩ (some p) r ds.length cr ds.length (fun n t => Ext s4 t ∧ ∃ k : Nat, k ≤ ds.length ∧ n = k ∧ ∀ j, j < k → ((ds.getD j 0 == -1) || canP T (ds.getD j 0).toNat j) = true) (fun n _ => (ds.length - n).toNat) 0 s4 ⟨Ext.refl _, 0, by omega, rfl, fun j hj => by omega⟩ ?_
      rintro n t ⟨et, k, hk, rfl, hsame⟩
      unfold B_prize_Worth_0
      have oB := et.own (e4.own (e3.own o3))
      have e0t := e04.trans et
      refine BR_dec (fun hlt => ?_) (fun hlt => ?_)
      · have hkl : k < ds.length := by omega
        obtain ⟨a, ha, g⟩ := row_int (f4.row.ext et) hkl
        refine IXS_at ha hkl ?_
        refine ⟨_, g, ?_⟩
        have hdk := hall (ds.getD k 0) (by rw [getD_lt hkl]; exact List.getElem_mem hkl)
        generalize hnx : (fun vs : List Value => _) = nx
        have fin : ∀ t' b, Ext t t' → b = ((ds.getD k 0 == -1) || canP T (ds.getD k 0).toNat k) → J_prize_Worth_0 W (endK K E) b ⟨s1.size, 0, none⟩ (some p) r ds.length cr ds.length nx k t' := by
          intro t' b e' hb
          unfold J_prize_Worth_0
          refine c_must (fun h3 => ?_) (fun h3 => ?_)
          · try simp only [TUP_mk, AGG_mk, HD_mk, NL_mk, TYI_mk, TYB_mk, TYP_mk, TYL_mk, TYS_mk, TYM_mk, SO_mk, NX_mk, endK_mk, endK_mk', add_0]
            rw [← hnx]
            refine ⟨_, rfl, ⟨et.trans e', k + 1, hkl, wrap_succ (by omega), fun j hj => ?_⟩, ms_succ hkl (by omega)⟩
            by_cases e : j = k
            · subst e; rw [← hb]; exact h3
            · exact hsame j (by omega)
          · try simp only [TUP_mk, AGG_mk, HD_mk, NL_mk, TYI_mk, TYB_mk, TYP_mk, TYL_mk, TYS_mk, TYM_mk, SO_mk, NX_mk, endK_mk, endK_mk', add_0]
            refine ep_err (e'.own oB) fun t2 k2 => ?_
            have hf : fairP T ds = false := by
              unfold fairP
              rw [List.all_eq_false]
              exact ⟨k, List.mem_range.2 hkl, by rw [← hb, h3]; simp⟩
            have := h t2 none 0 (ext_kp (e0t.trans e') hs1 k2)
            rw [hR, hf] at this
            exact this (Fr.nil _ _ _)
        refine BR_eq (fun h3 => ?_) (fun h3 => ?_)
        · refine fin t _ (Ext.refl _) ?_
          rw [h3]; rfl
        · have hdk' := hdk.resolve_left h3
          have hb0 : (ds.getD k 0 == -1) = false := by simpa using h3
          generalize hdd : ds.getD k 0 = d at *
          obtain ⟨m, rfl⟩ := Int.eq_ofNat_of_zero_le hdk'.1
          refine c_can (hp.ext (e4.trans et)) (by omega) (by omega) fun t2 e2' => ?_
          try simp only [TUP_mk, AGG_mk, HD_mk, NL_mk, TYI_mk, TYB_mk, TYP_mk, TYL_mk, TYS_mk, TYM_mk, SO_mk, NX_mk, endK_mk, endK_mk', add_0]
          refine fin t2 _ e2' ?_
          rw [hb0]; rfl
      · have hkl : k = ds.length := by omega
        subst hkl
        have hf : fairP T ds = true := by
          unfold fairP
          rw [List.all_eq_true]
          intro j hj
          exact hsame j (List.mem_range.1 hj)
        refine c_worths (hp.ext (e4.trans et)) (f4.row.ext et) hz hall fun t2 w cw e2' f2 => ?_
        try simp only [TUP_mk, AGG_mk, HD_mk, NL_mk, TYI_mk, TYB_mk, TYP_mk, TYL_mk, TYS_mk, TYM_mk, SO_mk, NX_mk, endK_mk, endK_mk', add_0]
        refine c_total f2.row worP_len.symm (fun n hn => worP_bd hok hz n hn) (by rw [worP_len]; omega) ?_
        try simp only [TUP_mk, AGG_mk, HD_mk, NL_mk, TYI_mk, TYB_mk, TYP_mk, TYL_mk, TYS_mk, TYM_mk, SO_mk, NX_mk, endK_mk, endK_mk', add_0]
        refine ep_ok (e2'.own oB) fun t3 k3 => ?_
        rw [hR, hf] at h
        have := h t3 w cw (ext_kp (e0t.trans e2') hs1 k3)
        simp only [if_true] at this
        rw [worP_len] at this
        have h4 : s3.size ≤ t.size := Nat.le_trans e4.1 et.1
        refine this ((f2.le e0t.1).kp k3 (fun a ha hb => ?_))
        have := f2.fr a ha
        have : a.block = s1.size := hb
        omega
    · try simp only [TUP_mk, AGG_mk, HD_mk, NL_mk, TYI_mk, TYB_mk, TYP_mk, TYL_mk, TYS_mk, TYM_mk, SO_mk, NX_mk, endK_mk, endK_mk', add_0]
      refine ep_err (e4.own (e3.own o3)) fun s5 k5 => ?_
      have := h s5 none 0 (ext_kp (e03.trans e4) hs1 k5)
      unfold worthR at this
      rw [if_pos hok, hg] at this
      exact this (Fr.nil _ _ _)
  · try simp only [TUP_mk, AGG_mk, HD_mk, NL_mk, TYI_mk, TYB_mk, TYP_mk, TYL_mk, TYS_mk, TYM_mk, SO_mk, NX_mk, endK_mk, endK_mk', add_0]
    refine ep_err (e3.own o3) fun s5 k5 => ?_
    have := h s5 none 0 (ext_kp (e02.trans e3) hs1 k5)
    unfold worthR at this
    rw [hok] at this
    exact this (Fr.nil _ _ _)
end
end Go.Proofs.Ytfaeokcbfnlgbaa.G

/- More of the functions' shallow texts, by gen.py. -/
set_option linter.unusedVariables false
set_option maxRecDepth 100000
namespace Go.Proofs.Ytfaeokcbfnlgbaa.G
open Go.V
def an_67 : Nat → Ann := fun b => match b with
  | _ => {}
abbrev rv_67 : List ResultVar := [.tmp 6]
abbrev rs_67 : List Nat := [33, 6]
def T_slices_Delete_api_Winner_api_Winner (W : World) (x1 : Option Addr) (l2 : Nat) (c3 : Nat) (n4 : Int) (n5 : Int) (R : Ending → Hp → Prop) : Hp → Prop :=
  SL3 Pg 22 (.slice x1 l2 c3) (some (.int .i64 n4)) (some (.int .i64 n5)) (.int .i64 (↑l2 : Int)) fun x6 l7 c8 =>
    BR (n4 == n5)
      (R (.returned (.slice x1 l2 c3)))
      (CONJ [
        SLS x1 c3 0 n4 4 fun x9 l10 c11 =>
          SLS x1 c3 n5 ↑l2 4 fun x12 l13 c14 =>
            APP Pg 48 4 x9 l10 c11 x12 l13 fun x15 l16 c17 =>
              SLS x15 c17 (↑l16 : Int) (↑l2 : Int) 4 fun x18 l19 c20 =>
                CLR Pg [22] (.slice x18 l19 c20) <|
                  R (.returned (.slice x15 l16 c17)),
        SLS x1 c3 n5 ↑l2 4 fun x21 l22 c23 =>
          SLS x1 c3 0 n4 4 fun x24 l25 c26 =>
            APP Pg 48 4 x24 l25 c26 x21 l22 fun x27 l28 c29 =>
              SLS x27 c29 (↑l28 : Int) (↑l2 : Int) 4 fun x30 l31 c32 =>
                CLR Pg [22] (.slice x30 l31 c32) <|
                  R (.returned (.slice x27 l28 c29))])
theorem T_slices_Delete_api_Winner_api_Winner_eq (W : World) (x1 : Option Addr) (l2 : Nat) (c3 : Nat) (n4 : Int) (n5 : Int) (R : Ending → Hp → Prop) : vfun Pg W an_67 Try.f67 [(.slice x1 l2 c3), (.int .i64 n4), (.int .i64 n5)] R = T_slices_Delete_api_Winner_api_Winner W x1 l2 c3 n4 n5 R := by kernel_rfl
theorem does_slices_Delete_api_Winner_api_Winner (W : World) (x1 : Option Addr) (l2 : Nat) (c3 : Nat) (n4 : Int) (n5 : Int) (R : Ending → Hp → Prop) (s : Hp) (h : T_slices_Delete_api_Winner_api_Winner W x1 l2 c3 n4 n5 R s) : Does Pg W F_slices_Delete_api_Winner_api_Winner #[(.slice x1 l2 c3), (.int .i64 n4), (.int .i64 n5)] s R :=
  does_of_vfun Pg W an_67 Try.func67 rfl (by kernel_rfl) (by rw [T_slices_Delete_api_Winner_api_Winner_eq]; exact h)
def an_68 : Nat → Ann := fun b => match b with
  | _ => {}
abbrev rv_68 : List ResultVar := [.tmp 2]
abbrev rs_68 : List Nat := [8, 2]
def T_slices_Clone_api_Winner_api_Winner (W : World) (x1 : Option Addr) (l2 : Nat) (c3 : Nat) (R : Ending → Hp → Prop) : Hp → Prop :=
  BR (Option.isNone x1)
    (R (.returned (.slice none 0 0)))
    (NEW 48 [] fun B4 =>
      APP Pg 48 4 (some ⟨B4, 0, none⟩) 0 0 x1 l2 fun x5 l6 c7 =>
        R (.returned (.slice x5 l6 c7)))
theorem T_slices_Clone_api_Winner_api_Winner_eq (W : World) (x1 : Option Addr) (l2 : Nat) (c3 : Nat) (R : Ending → Hp → Prop) : vfun Pg W an_68 Try.f68 [(.slice x1 l2 c3)] R = T_slices_Clone_api_Winner_api_Winner W x1 l2 c3 R := by kernel_rfl
theorem does_slices_Clone_api_Winner_api_Winner (W : World) (x1 : Option Addr) (l2 : Nat) (c3 : Nat) (R : Ending → Hp → Prop) (s : Hp) (h : T_slices_Clone_api_Winner_api_Winner W x1 l2 c3 R s) : Does Pg W F_slices_Clone_api_Winner_api_Winner #[(.slice x1 l2 c3)] s R :=
  does_of_vfun Pg W an_68 Try.func68 rfl (by kernel_rfl) (by rw [T_slices_Clone_api_Winner_api_Winner_eq]; exact h)
def an_70 : Nat → Ann := fun b => match b with
  | _ => {}
abbrev rv_70 : List ResultVar := [.tmp 2]
abbrev rs_70 : List Nat := [5, 2]
def T_slices_Collect_int (W : World) (v1 : Value) (R : Ending → Hp → Prop) : Hp → Prop :=
  CALL Pg W F_slices_AppendSeq_int_int [(.slice none 0 0), v1]
    (fun v2 => TYL v2 fun x4 l5 c6 =>
      R (.returned (.slice x4 l5 c6)))
      (fun e3 => R (.panicked e3))
theorem T_slices_Collect_int_eq (W : World) (v1 : Value) (R : Ending → Hp → Prop) : vfun Pg W an_70 Try.f70 [v1] R = T_slices_Collect_int W v1 R := by kernel_rfl
theorem does_slices_Collect_int (W : World) (v1 : Value) (R : Ending → Hp → Prop) (s : Hp) (h : T_slices_Collect_int W v1 R s) : Does Pg W F_slices_Collect_int #[v1] s R :=
  does_of_vfun Pg W an_70 Try.func70 rfl (by kernel_rfl) (by rw [T_slices_Collect_int_eq]; exact h)
def an_73 : Nat → Ann := fun b => match b with
  | _ => {}
abbrev rv_73 : List ResultVar := [.tmp 6]
abbrev rs_73 : List Nat := [95, 6]
def T_slices_Insert_int_int (W : World) (x1 : Option Addr) (l2 : Nat) (c3 : Nat) (n4 : Int) (x5 : Option Addr) (l6 : Nat) (c7 : Nat) (R : Ending → Hp → Prop) : Hp → Prop :=
  SLS x1 c3 n4 ↑l2 1 fun x8 l9 c10 =>
    BR ((↑l6 : Int) == 0)
      (R (.returned (.slice x1 l2 c3)))
      (BR (n4 == (↑l2 : Int))
        (APP Pg 3 1 x1 l2 c3 x5 l6 fun x11 l12 c13 =>
          R (.returned (.slice x11 l12 c13)))
        (BR (decide ((IntKind.wrap .i64 ((↑l2 : Int) + (↑l6 : Int))) > (↑c3 : Int)))
          (SLS x1 c3 0 n4 1 fun x14 l15 c16 =>
            APPZ Pg [26, 3] (.slice x14 l15 c16) (.int .i64 (IntKind.wrap .i64 ((IntKind.wrap .i64 ((↑l2 : Int) + (↑l6 : Int))) - n4))) fun x17 l18 c19 =>
              SLS x17 c19 n4 ↑l18 1 fun x20 l21 c22 =>
                COPY 1 x20 l21 x5 l6 fun n23 =>
                  CONJ [
                    SLS x17 c19 (IntKind.wrap .i64 (n4 + (↑l6 : Int))) ↑l18 1 fun x24 l25 c26 =>
                      SLS x1 c3 n4 ↑l2 1 fun x27 l28 c29 =>
                        COPY 1 x24 l25 x27 l28 fun n30 =>
                          R (.returned (.slice x17 l18 c19)),
                    SLS x1 c3 n4 ↑l2 1 fun x31 l32 c33 =>
                      SLS x17 c19 (IntKind.wrap .i64 (n4 + (↑l6 : Int))) ↑l18 1 fun x34 l35 c36 =>
                        COPY 1 x34 l35 x31 l32 fun n37 =>
                          R (.returned (.slice x17 l18 c19))])
          (SLS x1 c3 0 (IntKind.wrap .i64 ((↑l2 : Int) + (↑l6 : Int))) 1 fun x38 l39 c40 =>
            SLS x38 c40 (IntKind.wrap .i64 (n4 + (↑l6 : Int))) ↑l39 1 fun x41 l42 c43 =>
              EXT Pg 86 [(.slice x5 l6 c7), (.slice x41 l42 c43)] fun v44 =>
                TYB v44 fun b45 =>
                  BR (!b45)
                    (CONJ [
                      SLS x38 c40 (IntKind.wrap .i64 (n4 + (↑l6 : Int))) ↑l39 1 fun x46 l47 c48 =>
                        SLS x38 c40 n4 ↑l39 1 fun x49 l50 c51 =>
                          COPY 1 x46 l47 x49 l50 fun n52 =>
                            SLS x38 c40 n4 ↑l39 1 fun x53 l54 c55 =>
                              COPY 1 x53 l54 x5 l6 fun n56 =>
                                R (.returned (.slice x38 l39 c40)),
                      SLS x38 c40 n4 ↑l39 1 fun x57 l58 c59 =>
                        SLS x38 c40 (IntKind.wrap .i64 (n4 + (↑l6 : Int))) ↑l39 1 fun x60 l61 c62 =>
                          COPY 1 x60 l61 x57 l58 fun n63 =>
                            SLS x38 c40 n4 ↑l39 1 fun x64 l65 c66 =>
                              COPY 1 x64 l65 x5 l6 fun n67 =>
                                R (.returned (.slice x38 l39 c40))])
                    (SLS x38 c40 (↑l2 : Int) ↑l39 1 fun x68 l69 c70 =>
                      COPY 1 x68 l69 x5 l6 fun n71 =>
                        SLS x38 c40 n4 ↑l39 1 fun x72 l73 c74 =>
                          CALL Pg W F_slices_rotateRight_int [(.slice x72 l73 c74), (.int .i64 (↑l6 : Int))]
                            (fun v75 => TUP v75 fun q77 => NL q77 <|
                              R (.returned (.slice x38 l39 c40)))
                              (fun e76 => R (.panicked e76))))))
theorem T_slices_Insert_int_int_eq (W : World) (x1 : Option Addr) (l2 : Nat) (c3 : Nat) (n4 : Int) (x5 : Option Addr) (l6 : Nat) (c7 : Nat) (R : Ending → Hp → Prop) : vfun Pg W an_73 Try.f73 [(.slice x1 l2 c3), (.int .i64 n4), (.slice x5 l6 c7)] R = T_slices_Insert_int_int W x1 l2 c3 n4 x5 l6 c7 R := by kernel_rfl
theorem does_slices_Insert_int_int (W : World) (x1 : Option Addr) (l2 : Nat) (c3 : Nat) (n4 : Int) (x5 : Option Addr) (l6 : Nat) (c7 : Nat) (R : Ending → Hp → Prop) (s : Hp) (h : T_slices_Insert_int_int W x1 l2 c3 n4 x5 l6 c7 R s) : Does Pg W F_slices_Insert_int_int #[(.slice x1 l2 c3), (.int .i64 n4), (.slice x5 l6 c7)] s R :=
  does_of_vfun Pg W an_73 Try.func73 rfl (by kernel_rfl) (by rw [T_slices_Insert_int_int_eq]; exact h)
def an_74 : Nat → Ann := fun b => match b with
  | _ => {}
abbrev rv_74 : List ResultVar := [.tmp 2]
abbrev rs_74 : List Nat := [8, 2]
def T_slices_Clone_int_int (W : World) (x1 : Option Addr) (l2 : Nat) (c3 : Nat) (R : Ending → Hp → Prop) : Hp → Prop :=
  BR (Option.isNone x1)
    (R (.returned (.slice none 0 0)))
    (NEW 3 [] fun B4 =>
      APP Pg 3 1 (some ⟨B4, 0, none⟩) 0 0 x1 l2 fun x5 l6 c7 =>
        R (.returned (.slice x5 l6 c7)))
theorem T_slices_Clone_int_int_eq (W : World) (x1 : Option Addr) (l2 : Nat) (c3 : Nat) (R : Ending → Hp → Prop) : vfun Pg W an_74 Try.f74 [(.slice x1 l2 c3)] R = T_slices_Clone_int_int W x1 l2 c3 R := by kernel_rfl
theorem does_slices_Clone_int_int (W : World) (x1 : Option Addr) (l2 : Nat) (c3 : Nat) (R : Ending → Hp → Prop) (s : Hp) (h : T_slices_Clone_int_int W x1 l2 c3 R s) : Does Pg W F_slices_Clone_int_int #[(.slice x1 l2 c3)] s R :=
  does_of_vfun Pg W an_74 Try.func74 rfl (by kernel_rfl) (by rw [T_slices_Clone_int_int_eq]; exact h)
def an_75 : Nat → Ann := fun b => match b with
  | _ => {}
abbrev rv_75 : List ResultVar := [.tmp 4]
abbrev rs_75 : List Nat := [9, 4]
def T_slices_Contains_int_int (W : World) (x1 : Option Addr) (l2 : Nat) (c3 : Nat) (n4 : Int) (R : Ending → Hp → Prop) : Hp → Prop :=
  CALL Pg W F_slices_Index_int_int [(.slice x1 l2 c3), (.int .i64 n4)]
    (fun v5 => TYI .i64 v5 fun n7 =>
      R (.returned (.bool (decide (n7 ≥ 0)))))
      (fun e6 => R (.panicked e6))
theorem T_slices_Contains_int_int_eq (W : World) (x1 : Option Addr) (l2 : Nat) (c3 : Nat) (n4 : Int) (R : Ending → Hp → Prop) : vfun Pg W an_75 Try.f75 [(.slice x1 l2 c3), (.int .i64 n4)] R = T_slices_Contains_int_int W x1 l2 c3 n4 R := by kernel_rfl
theorem does_slices_Contains_int_int (W : World) (x1 : Option Addr) (l2 : Nat) (c3 : Nat) (n4 : Int) (R : Ending → Hp → Prop) (s : Hp) (h : T_slices_Contains_int_int W x1 l2 c3 n4 R s) : Does Pg W F_slices_Contains_int_int #[(.slice x1 l2 c3), (.int .i64 n4)] s R :=
  does_of_vfun Pg W an_75 Try.func75 rfl (by kernel_rfl) (by rw [T_slices_Contains_int_int_eq]; exact h)
def an_84 : Nat → Ann := fun b => match b with
  | 0 => { ms := [], ks := [.i .i64], us := [], rt := false, ex := [] }
  | _ => {}
abbrev rv_84 : List ResultVar := [.tmp 4]
abbrev rs_84 : List Nat := [13, 4]
def T_slices_AppendSeq_int_int (W : World) (x1 : Option Addr) (l2 : Nat) (c3 : Nat) (v4 : Value) (R : Ending → Hp → Prop) : Hp → Prop :=
  NEW 26 [(.slice x1 l2 c3)] fun B5 =>
    RNGN Pg W v4 1
      (fun y6 fin7 => HD y6 fun v8 r9 => TYI .i64 v8 fun n10 =>
        NL r9 <|
          RDL ⟨B5, 0, none⟩ fun x11 l12 c13 =>
            NEW 3 [(.int .i64 n10)] fun B14 =>
              APP Pg 3 1 x11 l12 c13 (some ⟨B14, 0, none⟩) 1 fun x15 l16 c17 =>
                WR (Addr.add ⟨B5, 0, none⟩ 0) (.slice x15 l16 c17) <|
                  fin7 none)
      (AFT
        (RDL ⟨B5, 0, none⟩ fun x18 l19 c20 =>
          R (.returned (.slice x18 l19 c20))) (FF) (EXL [] fun _ => FF))
theorem T_slices_AppendSeq_int_int_eq (W : World) (x1 : Option Addr) (l2 : Nat) (c3 : Nat) (v4 : Value) (R : Ending → Hp → Prop) : vfun Pg W an_84 Try.f84 [(.slice x1 l2 c3), v4] R = T_slices_AppendSeq_int_int W x1 l2 c3 v4 R := by kernel_rfl
theorem does_slices_AppendSeq_int_int (W : World) (x1 : Option Addr) (l2 : Nat) (c3 : Nat) (v4 : Value) (R : Ending → Hp → Prop) (s : Hp) (h : T_slices_AppendSeq_int_int W x1 l2 c3 v4 R s) : Does Pg W F_slices_AppendSeq_int_int #[(.slice x1 l2 c3), v4] s R :=
  does_of_vfun Pg W an_84 Try.func84 rfl (by kernel_rfl) (by rw [T_slices_AppendSeq_int_int_eq]; exact h)
def an_87 : Nat → Ann := fun b => match b with
  | _ => {}
abbrev rv_87 : List ResultVar := []
abbrev rs_87 : List Nat := [10]
def T_slices_rotateRight_int (W : World) (x1 : Option Addr) (l2 : Nat) (c3 : Nat) (n4 : Int) (R : Ending → Hp → Prop) : Hp → Prop :=
  CALL Pg W F_slices_rotateLeft_int [(.slice x1 l2 c3), (.int .i64 (IntKind.wrap .i64 ((↑l2 : Int) - n4)))]
    (fun v5 => TUP v5 fun q7 => NL q7 <|
      R (.returned (.tuple #[])))
      (fun e6 => R (.panicked e6))
theorem T_slices_rotateRight_int_eq (W : World) (x1 : Option Addr) (l2 : Nat) (c3 : Nat) (n4 : Int) (R : Ending → Hp → Prop) : vfun Pg W an_87 Try.f87 [(.slice x1 l2 c3), (.int .i64 n4)] R = T_slices_rotateRight_int W x1 l2 c3 n4 R := by kernel_rfl
theorem does_slices_rotateRight_int (W : World) (x1 : Option Addr) (l2 : Nat) (c3 : Nat) (n4 : Int) (R : Ending → Hp → Prop) (s : Hp) (h : T_slices_rotateRight_int W x1 l2 c3 n4 R s) : Does Pg W F_slices_rotateRight_int #[(.slice x1 l2 c3), (.int .i64 n4)] s R :=
  does_of_vfun Pg W an_87 Try.func87 rfl (by kernel_rfl) (by rw [T_slices_rotateRight_int_eq]; exact h)
def an_88 : Nat → Ann := fun b => match b with
  | 0 => { ms := [8], ks := [.i .i64], us := [0, 1, 7, 19], rt := false, ex := [] }
  | _ => {}
abbrev rv_88 : List ResultVar := [.tmp 4]
abbrev rs_88 : List Nat := [19, 4]
def L_slices_Index_int_int_0 (W : World) (R : Ending → Hp → Prop) (zp0 : Option Addr) (zl1 : Nat) (zl2 : Nat) (zn3 : Int) (zn4 : Int) (n5 : Int) : Hp → Prop :=
  LOOPN [.i .i64] (fun ys next s => ∀ j : Tm, vc Pg W 19 rs_88 an_88 false (sub (bodyOf Try.f88) [1, 0, 1, 0, 0]) 0 (KLoop [8] [0, 1, 7, 19] [(.slice zp0 zl1 zl2), (.int .i64 zn3), (.int .i64 zn4), (.tuple #[])] next (KBlk 0 (KS Pg W 19 rs_88 an_88 false (sub (bodyOf Try.f88) [1, 1]) 0 (fin Pg W 19 rv_88 R)))) (known [8] ys (known [0, 1, 7, 19] [(.slice zp0 zl1 zl2), (.int .i64 zn3), (.int .i64 zn4), (.tuple #[])] j)) s) [(.int .i64 n5)]
def B_slices_Index_int_int_0 (W : World) (R : Ending → Hp → Prop) (zp0 : Option Addr) (zl1 : Nat) (zl2 : Nat) (zn3 : Int) (zn4 : Int) (n5 : Int) (nx0 : List Value → Hp → Prop) : Hp → Prop :=
  BR (decide (n5 < zn4))
    (IXS zp0 zl1 n5 1 fun a6 =>
      RDI .i64 a6 fun n7 =>
        BR (zn3 == n7)
          (R (.returned (.int .i64 n5)))
          (NX [(.slice zp0 zl1 zl2), (.int .i64 zn3), (.int .i64 zn4), (.tuple #[])] [(.slice zp0 zl1 zl2), (.int .i64 zn3), (.int .i64 zn4), (.tuple #[])] (nx0 [(.int .i64 (IntKind.wrap .i64 (n5 + 1)))])))
    (R (.returned (.int .i64 (-1))))
theorem B_slices_Index_int_int_0_eq (W : World) (R : Ending → Hp → Prop) (zp0 : Option Addr) (zl1 : Nat) (zl2 : Nat) (zn3 : Int) (zn4 : Int) (n5 : Int) (nx0 : List Value → Hp → Prop) (j : Tm) : vc Pg W 19 rs_88 an_88 false (sub (bodyOf Try.f88) [1, 0, 1, 0, 0]) 0 (KLoop [8] [0, 1, 7, 19] [(.slice zp0 zl1 zl2), (.int .i64 zn3), (.int .i64 zn4), (.tuple #[])] nx0 (KBlk 0 (KS Pg W 19 rs_88 an_88 false (sub (bodyOf Try.f88) [1, 1]) 0 (fin Pg W 19 rv_88 R)))) (known [8] [(.int .i64 n5)] (known [0, 1, 7, 19] [(.slice zp0 zl1 zl2), (.int .i64 zn3), (.int .i64 zn4), (.tuple #[])] j)) = B_slices_Index_int_int_0 W R zp0 zl1 zl2 zn3 zn4 n5 nx0 := by kernel_rfl
def N_slices_Index_int_int_0 (I : Int → Hp → Prop) (μ : Int → Hp → Nat) (n50 : Int) (s : Hp) (vs : List Value) : Hp → Prop := fun s' => ∃ n5, vs = [(.int .i64 n5)] ∧ I n5 s' ∧ μ n5 s' < μ n50 s
theorem L_slices_Index_int_int_0_rule (W : World) (R : Ending → Hp → Prop) (zp0 : Option Addr) (zl1 : Nat) (zl2 : Nat) (zn3 : Int) (zn4 : Int) (I : Int → Hp → Prop) (μ : Int → Hp → Nat) (n50 : Int) (s : Hp) (h0 : I n50 s)
    (hr : ∀ (n5 : Int) (s : Hp), I n5 s → B_slices_Index_int_int_0 W R zp0 zl1 zl2 zn3 zn4 n5 (fun vs => N_slices_Index_int_int_0 I μ n5 s vs) s) : L_slices_Index_int_int_0 W R zp0 zl1 zl2 zn3 zn4 n50 s := by
  refine ⟨fun vs s => ∃ n5, vs = [(.int .i64 n5)] ∧ I n5 s, fun vs s => (match vs with | [.int _ n5] => μ n5 s | _ => 0), ⟨⟨⟨_, rfl⟩, trivial⟩, ⟨_, rfl, h0⟩⟩, ?_⟩
  intro n5 s hI j
  obtain ⟨n5', hy, hI⟩ := hI
  have hI' : I n5 s := by cases hy; exact hI
  have hh := hr n5 s hI'
  rw [← B_slices_Index_int_int_0_eq W R zp0 zl1 zl2 zn3 zn4 n5 _ j] at hh
  refine vc_mono ?_ _ _ hh
  exact KLoop_mono (fun vs s' h => by obtain ⟨n51, rfl, h1, h2⟩ := h; exact ⟨⟨⟨_, rfl⟩, trivial⟩, ⟨_, rfl, h1⟩, h2⟩)
def T_slices_Index_int_int (W : World) (x1 : Option Addr) (l2 : Nat) (c3 : Nat) (n4 : Int) (R : Ending → Hp → Prop) : Hp → Prop :=
  L_slices_Index_int_int_0 W R x1 l2 c3 n4 (↑l2 : Int) 0
theorem T_slices_Index_int_int_eq (W : World) (x1 : Option Addr) (l2 : Nat) (c3 : Nat) (n4 : Int) (R : Ending → Hp → Prop) : vfun Pg W an_88 Try.f88 [(.slice x1 l2 c3), (.int .i64 n4)] R = T_slices_Index_int_int W x1 l2 c3 n4 R := by kernel_rfl
theorem does_slices_Index_int_int (W : World) (x1 : Option Addr) (l2 : Nat) (c3 : Nat) (n4 : Int) (R : Ending → Hp → Prop) (s : Hp) (h : T_slices_Index_int_int W x1 l2 c3 n4 R s) : Does Pg W F_slices_Index_int_int #[(.slice x1 l2 c3), (.int .i64 n4)] s R :=
  does_of_vfun Pg W an_88 Try.func88 rfl (by kernel_rfl) (by rw [T_slices_Index_int_int_eq]; exact h)
def an_94 : Nat → Ann := fun b => match b with
  | _ => {}
abbrev rv_94 : List ResultVar := []
abbrev rs_94 : List Nat := [14]
def T_slices_rotateLeft_int (W : World) (x1 : Option Addr) (l2 : Nat) (c3 : Nat) (n4 : Int) (R : Ending → Hp → Prop) : Hp → Prop :=
  SLS x1 c3 0 n4 1 fun x5 l6 c7 =>
    CALL Pg W F_slices_Reverse_int_int [(.slice x5 l6 c7)]
      (fun v8 => TUP v8 fun q10 => NL q10 <|
        SLS x1 c3 n4 ↑l2 1 fun x11 l12 c13 =>
          CALL Pg W F_slices_Reverse_int_int [(.slice x11 l12 c13)]
            (fun v14 => TUP v14 fun q16 => NL q16 <|
              CALL Pg W F_slices_Reverse_int_int [(.slice x1 l2 c3)]
                (fun v17 => TUP v17 fun q19 => NL q19 <|
                  R (.returned (.tuple #[])))
                  (fun e18 => R (.panicked e18)))
              (fun e15 => R (.panicked e15)))
        (fun e9 => R (.panicked e9))
theorem T_slices_rotateLeft_int_eq (W : World) (x1 : Option Addr) (l2 : Nat) (c3 : Nat) (n4 : Int) (R : Ending → Hp → Prop) : vfun Pg W an_94 Try.f94 [(.slice x1 l2 c3), (.int .i64 n4)] R = T_slices_rotateLeft_int W x1 l2 c3 n4 R := by kernel_rfl
theorem does_slices_rotateLeft_int (W : World) (x1 : Option Addr) (l2 : Nat) (c3 : Nat) (n4 : Int) (R : Ending → Hp → Prop) (s : Hp) (h : T_slices_rotateLeft_int W x1 l2 c3 n4 R s) : Does Pg W F_slices_rotateLeft_int #[(.slice x1 l2 c3), (.int .i64 n4)] s R :=
  does_of_vfun Pg W an_94 Try.func94 rfl (by kernel_rfl) (by rw [T_slices_rotateLeft_int_eq]; exact h)
def an_95 : Nat → Ann := fun b => match b with
  | 0 => { ms := [2, 3], ks := [.i .i64, .i .i64], us := [0, 28], rt := false, ex := [] }
  | _ => {}
abbrev rv_95 : List ResultVar := []
abbrev rs_95 : List Nat := [28]
def L_slices_Reverse_int_int_0 (W : World) (R : Ending → Hp → Prop) (zp0 : Option Addr) (zl1 : Nat) (zl2 : Nat) (n4 : Int) (n5 : Int) : Hp → Prop :=
  LOOPN [.i .i64, .i .i64] (fun ys next s => ∀ j : Tm, vc Pg W 28 rs_95 an_95 false (sub (bodyOf Try.f95) [1, 0, 0]) 0 (KLoop [2, 3] [0, 28] [(.slice zp0 zl1 zl2), (.tuple #[])] next (KBlk 0 (fin Pg W 28 rv_95 R))) (known [2, 3] ys (known [0, 28] [(.slice zp0 zl1 zl2), (.tuple #[])] j)) s) [(.int .i64 n4), (.int .i64 n5)]
def B_slices_Reverse_int_int_0 (W : World) (R : Ending → Hp → Prop) (zp0 : Option Addr) (zl1 : Nat) (zl2 : Nat) (n4 : Int) (n5 : Int) (nx0 : List Value → Hp → Prop) : Hp → Prop :=
  BR (decide (n4 < n5))
    (IXS zp0 zl1 n5 1 fun a6 =>
      RDI .i64 a6 fun n7 =>
        IXS zp0 zl1 n4 1 fun a8 =>
          RDI .i64 a8 fun n9 =>
            IXS zp0 zl1 n4 1 fun a10 =>
              WR (Addr.add a10 0) (.int .i64 n7) <|
                IXS zp0 zl1 n5 1 fun a11 =>
                  WR (Addr.add a11 0) (.int .i64 n9) <|
                    NX [(.slice zp0 zl1 zl2), (.tuple #[])] [(.slice zp0 zl1 zl2), (.tuple #[])] (nx0 [(.int .i64 (IntKind.wrap .i64 (n4 + 1))), (.int .i64 (IntKind.wrap .i64 (n5 - 1)))]))
    (R (.returned (.tuple #[])))
theorem B_slices_Reverse_int_int_0_eq (W : World) (R : Ending → Hp → Prop) (zp0 : Option Addr) (zl1 : Nat) (zl2 : Nat) (n4 : Int) (n5 : Int) (nx0 : List Value → Hp → Prop) (j : Tm) : vc Pg W 28 rs_95 an_95 false (sub (bodyOf Try.f95) [1, 0, 0]) 0 (KLoop [2, 3] [0, 28] [(.slice zp0 zl1 zl2), (.tuple #[])] nx0 (KBlk 0 (fin Pg W 28 rv_95 R))) (known [2, 3] [(.int .i64 n4), (.int .i64 n5)] (known [0, 28] [(.slice zp0 zl1 zl2), (.tuple #[])] j)) = B_slices_Reverse_int_int_0 W R zp0 zl1 zl2 n4 n5 nx0 := by kernel_rfl
def N_slices_Reverse_int_int_0 (I : Int → Int → Hp → Prop) (μ : Int → Int → Hp → Nat) (n40 : Int) (n50 : Int) (s : Hp) (vs : List Value) : Hp → Prop := fun s' => ∃ n4 n5, vs = [(.int .i64 n4), (.int .i64 n5)] ∧ I n4 n5 s' ∧ μ n4 n5 s' < μ n40 n50 s
theorem L_slices_Reverse_int_int_0_rule (W : World) (R : Ending → Hp → Prop) (zp0 : Option Addr) (zl1 : Nat) (zl2 : Nat) (I : Int → Int → Hp → Prop) (μ : Int → Int → Hp → Nat) (n40 : Int) (n50 : Int) (s : Hp) (h0 : I n40 n50 s)
    (hr : ∀ (n4 : Int) (n5 : Int) (s : Hp), I n4 n5 s → B_slices_Reverse_int_int_0 W R zp0 zl1 zl2 n4 n5 (fun vs => N_slices_Reverse_int_int_0 I μ n4 n5 s vs) s) : L_slices_Reverse_int_int_0 W R zp0 zl1 zl2 n40 n50 s := by
  refine ⟨fun vs s => ∃ n4 n5, vs = [(.int .i64 n4), (.int .i64 n5)] ∧ I n4 n5 s, fun vs s => (match vs with | [.int _ n4, .int _ n5] => μ n4 n5 s | _ => 0), ⟨⟨⟨_, rfl⟩, ⟨⟨_, rfl⟩, trivial⟩⟩, ⟨_, _, rfl, h0⟩⟩, ?_⟩
  intro n4 n5 s hI j
  obtain ⟨n4', n5', hy, hI⟩ := hI
  have hI' : I n4 n5 s := by cases hy; exact hI
  have hh := hr n4 n5 s hI'
  rw [← B_slices_Reverse_int_int_0_eq W R zp0 zl1 zl2 n4 n5 _ j] at hh
  refine vc_mono ?_ _ _ hh
  exact KLoop_mono (fun vs s' h => by obtain ⟨n41, n51, rfl, h1, h2⟩ := h; exact ⟨⟨⟨_, rfl⟩, ⟨⟨_, rfl⟩, trivial⟩⟩, ⟨_, _, rfl, h1⟩, h2⟩)
def T_slices_Reverse_int_int (W : World) (x1 : Option Addr) (l2 : Nat) (c3 : Nat) (R : Ending → Hp → Prop) : Hp → Prop :=
  L_slices_Reverse_int_int_0 W R x1 l2 c3 0 (IntKind.wrap .i64 ((↑l2 : Int) - 1))
theorem T_slices_Reverse_int_int_eq (W : World) (x1 : Option Addr) (l2 : Nat) (c3 : Nat) (R : Ending → Hp → Prop) : vfun Pg W an_95 Try.f95 [(.slice x1 l2 c3)] R = T_slices_Reverse_int_int W x1 l2 c3 R := by kernel_rfl
theorem does_slices_Reverse_int_int (W : World) (x1 : Option Addr) (l2 : Nat) (c3 : Nat) (R : Ending → Hp → Prop) (s : Hp) (h : T_slices_Reverse_int_int W x1 l2 c3 R s) : Does Pg W F_slices_Reverse_int_int #[(.slice x1 l2 c3)] s R :=
  does_of_vfun Pg W an_95 Try.func95 rfl (by kernel_rfl) (by rw [T_slices_Reverse_int_int_eq]; exact h)
end Go.Proofs.Ytfaeokcbfnlgbaa.G

/- Prize: copies of rows, without one. -/
set_option linter.unusedSimpArgs false
set_option linter.unusedVariables false
set_option maxRecDepth 20000
namespace Go.Proofs.Ytfaeokcbfnlgbaa.G
open Go.V
def mn4 (m : Mn) : List Value := [.int .i64 m.place, .int .i64 m.club, .bool m.nov, .bool m.hor]
def mnV (l : List Mn) : List Value := l.flatMap mn4
theorem mnV_len (l : List Mn) : (mnV l).length = l.length * 4 := by
  induction l with
  | nil => rfl
  | cons x l ih => show (_ :: _ :: _ :: _ :: mnV l).length = _; simp only [List.length_cons, ih]; omega
theorem mnV_get : ∀ (l : List Mn) (k : Nat) (h : k < l.length), (mnV l)[k * 4]? = some (.int .i64 l[k].place) ∧ (mnV l)[k * 4 + 1]? = some (.int .i64 l[k].club) ∧ (mnV l)[k * 4 + 2]? = some (.bool l[k].nov) ∧ (mnV l)[k * 4 + 3]? = some (.bool l[k].hor)
  | [], k, h => by simp at h
  | x :: l, 0, h => ⟨rfl, rfl, rfl, rfl⟩
  | x :: l, k + 1, h => by
    have ih := mnV_get l k (by simpa using h)
    have e1 : (k + 1) * 4 = k * 4 + 4 := by omega
    rw [e1]
    exact ih
theorem mnV_one (l : List Mn) : ∀ v ∈ mnV l, oneCell v = true := by
  intro v hv
  obtain ⟨c, _, hc⟩ := List.mem_flatMap.1 hv
  simp [mn4] at hc
  rcases hc with rfl | rfl | rfl | rfl <;> rfl
theorem mnV_take : ∀ (l : List Mn) (k : Nat), mnV (l.take k) = (mnV l).take (k * 4)
  | [], k => by simp [mnV]
  | x :: l, 0 => by simp [mnV]
  | x :: l, k + 1 => by
    show mn4 x ++ mnV (l.take k) = (mn4 x ++ mnV l).take ((k + 1) * 4)
    rw [mnV_take l k, show (k + 1) * 4 = 4 + k * 4 by omega, List.take_append]
    have e1 : (mn4 x).length = 4 := rfl
    have e2 : (mn4 x).take (4 + k * 4) = mn4 x := List.take_of_length_le (by rw [e1]; omega)
    rw [e1, Nat.add_sub_cancel_left, e2]
theorem mnV_drop : ∀ (l : List Mn) (k : Nat), mnV (l.drop k) = (mnV l).drop (k * 4)
  | [], k => by simp [mnV]
  | x :: l, 0 => by simp [mnV]
  | x :: l, k + 1 => by
    show mnV (l.drop k) = (mn4 x ++ mnV l).drop ((k + 1) * 4)
    rw [mnV_drop l k, show (k + 1) * 4 = 4 + k * 4 by omega, List.drop_append]
    have e1 : (mn4 x).length = 4 := rfl
    have e2 : (mn4 x).drop (4 + k * 4) = [] := List.drop_eq_nil_of_le (by rw [e1]; omega)
    rw [e1, Nat.add_sub_cancel_left, e2]
    rfl
theorem mn_row {s : Hp} {x : Option Addr} {l : List Mn} (h : MnAt s x l) : RowAt s x (mnV l) := fun i hi => by
  rw [mnV_len] at hi
  obtain ⟨a, h0, h1, h2, h3, h4⟩ := h (i / 4) (by omega)
  obtain ⟨g1, g2, g3, g4⟩ := mnV_get l (i / 4) (by omega)
  refine ⟨a, h0, ?_⟩
  rw [Nat.mul_one]
  have key : ∀ j v, j < 4 → i = i / 4 * 4 + j → (mnV l)[i / 4 * 4 + j]? = some v → cellAt s ((a.add (i / 4 * 4)).add j) = some v → cellAt s (a.add i) = some (mnV l)[i] := by
    intro j v hj hij hv hc
    rw [addr_add, ← hij] at hc
    rw [← hij] at hv
    rw [hc]
    have := (List.getElem?_eq_some_iff.1 hv).2
    rw [this]
  have hmod : i % 4 = 0 ∨ i % 4 = 1 ∨ i % 4 = 2 ∨ i % 4 = 3 := by omega
  rcases hmod with h | h | h | h
  · exact key 0 _ (by omega) (by omega) g1 h1
  · exact key 1 _ (by omega) (by omega) g2 h2
  · exact key 2 _ (by omega) (by omega) g3 h3
  · exact key 3 _ (by omega) (by omega) g4 h4
theorem row_mn {s : Hp} {x : Option Addr} {l : List Mn} (h : RowAt s x (mnV l)) : MnAt s x l := fun i hi => by
  obtain ⟨g1, g2, g3, g4⟩ := mnV_get l i hi
  obtain ⟨a, h0, h1⟩ := row_get h g1
  obtain ⟨a2, k2, h2⟩ := row_get h g2
  obtain ⟨a3, k3, h3⟩ := row_get h g3
  obtain ⟨a4, k4, h4⟩ := row_get h g4
  rw [h0] at k2 k3 k4
  cases k2; cases k3; cases k4
  refine ⟨a, h0, ?_, ?_, ?_, ?_⟩
  · rw [addr_add]; exact h1
  · rw [addr_add]; exact h2
  · rw [addr_add]; exact h3
  · rw [addr_add]; exact h4
theorem und_22 : Pg.underlying 22 = some (.slice 48) := by kernel_rfl
theorem inf_48 : ∃ i v, Pg.info? 48 = some i ∧ i.size = 4 ∧ i.zero = some v ∧ v.cells.toList = [.int .i64 0, .int .i64 0, .bool false, .bool false] := by
  obtain ⟨i, v, h1, h2, h3⟩ := zero_of (P := Pg) (t := 48) (by kernel_rfl)
  have hs : (Pg.info? 48).map (·.size) = some 4 := by kernel_rfl
  rw [h1] at hs
  refine ⟨i, v, h1, ?_, h2, ?_⟩
  · simpa using hs
  · rw [← h3]; kernel_rfl
section
variable {W : World} {K : VK} {E : List PanicEntry → Hp → Prop} {s : Hp}
theorem c_CloneW {x : Option Addr} {c : Nat} {l : List Mn} (hx : MnAt s x l) (h0 : 0 < l.length) (h8 : l.length ≤ 1000) (h : ∀ s' a c', Ext s s' → Fr s.size s' (some a) l.length c' 4 (mnV l) → K (.slice (some a) l.length c') s') : CALL Pg W F_slices_Clone_api_Winner_api_Winner [.slice x l.length c] K E s := by
  refine does_slices_Clone_api_Winner_api_Winner W x l.length c _ s ?_
  unfold T_slices_Clone_api_Winner_api_Winner
  obtain ⟨a, ha, _⟩ := hx 0 h0
  subst ha
  refine BR_ff rfl ?_
  refine NEW_rule fun s1 e1 z1 n1 _ => ?_
  have hf : Fr s.size s1 (some ⟨s.size, 0, none⟩) 0 0 4 [] := ⟨⟨Nat.le_refl _, fun i hi => by omega⟩, rfl, fun a ha => by cases ha; exact Nat.le_refl _, by omega⟩
  refine APP_fr (lo := s.size) hf e1.1 (ws := mnV l) (mn_row (hx.ext e1)) (mnV_len l) zc_48 rfl (by omega) (mnV_one l) (by omega) fun s2 x2 c2 k2 hx2 g2 => ?_
  rw [Nat.zero_add, List.nil_append] at g2
  rw [Nat.zero_add]
  have e2 : Ext s s2 := kp_nil e1 (fun b hb => by obtain ⟨y, hy, rfl⟩ := hb; cases hy; exact Nat.le_refl _) k2
  have hpos : 0 < (mnV l).length := by rw [mnV_len]; omega
  obtain ⟨a2, ha2, _⟩ := g2.row 0 hpos
  subst ha2
  exact h s2 a2 c2 e2 g2
end
theorem sb_spq {P : Program} {s : Hp} {y : Nat} {i : Nat} {code : BoundsCode} {K : Nat → Prop} (h1 : i ≤ y) (h : K i) : spq P (Instr.sliceBound (.int .i64 (i : Nat)) y code) K s := by
  unfold Instr.sliceBound asIntOf
  rw [spq_bind]
  show spq P (if 0 ≤ ((i : Nat) : Int) ∧ ((i : Nat) : Int) ≤ (y : Nat) then pure ((i : Nat) : Int).toNat else _) K s
  rw [if_pos (by omega), spq_pure, Int.toNat_natCast]
  exact h
theorem sbs_spq {P : Program} {s : Hp} {l c i j : Nat} {K : Nat × Nat × Nat → Prop} (h1 : i ≤ j) (h2 : j ≤ l) (h3 : l ≤ c) (h : K (i, j, l)) : spq P (Instr.sliceBounds true l c (some (.int .i64 (i : Nat))) (some (.int .i64 (j : Nat))) (some (.int .i64 (l : Nat)))) K s := by
  unfold Instr.sliceBounds
  rw [spq_bind]
  refine sb_spq h3 ?_
  rw [spq_bind]
  refine sb_spq h2 ?_
  rw [spq_bind]
  refine sb_spq h1 ?_
  rw [spq_pure]
  exact h
theorem SL3_gen {P : Program} {t e : TypeId} {d : TypeInfo} {s : Hp} {a : Option Addr} {l c i j : Nat} {K : Option Addr → Nat → Nat → Hp → Prop} (hu : P.underlying t = some (.slice e)) (hi : P.info? e = some d) (h1 : i ≤ j) (h2 : j ≤ l) (h3 : l ≤ c) (h : ∀ x l c, K x l c s) : SL3 P t (.slice a l c) (some (.int .i64 (i : Nat))) (some (.int .i64 (j : Nat))) (.int .i64 (l : Nat)) K s := by
  unfold SL3 SLV
  refine sp_of_spq P _ _ _ _ ?_
  unfold Instr.sliceAt
  rw [spq_bind, spq_und hu]
  unfold Instr.slice
  simp only []
  rw [spq_bind, spq_und hu]
  simp only []
  rw [spq_bind]
  refine sbs_spq h1 h2 h3 ?_
  simp only []
  rw [spq_bind, spq_size hi, spq_pure]
  exact ⟨_, _, _, rfl, h _ _ _⟩
theorem CLR_gen {P : Program} {t e : TypeId} {d : TypeInfo} {v : Value} {s : Hp} {a : Addr} {l c : Nat} {K : Hp → Prop} (hu : P.underlying t = some (.slice e)) (hi : P.info? e = some d) (hv : d.zero = some v) (hl : 0 < l) (h : wrN (Builtin.zeroCells v.cells l).toList a 0 K s) : CLR P [t] (.slice (some a) l c) K s := by
  unfold CLR Builtin.clear_
  simp only [List.getElem?_toArray, List.getElem?_cons_zero]
  show sp P (do let x ← underlying t; _) _ _ s
  rw [sp_bind, sp_und hu]
  cases l with
  | zero => omega
  | succ l =>
    simp only [sp_bind, sp_zero hi hv]
    exact sp_mono P _ (fun _ s h => ⟨rfl, h⟩) (fun v s h => h) _ (wrN_sp _ _ _ _ (fun _ _ => False) _ h)
end Go.Proofs.Ytfaeokcbfnlgbaa.G

/- Prize: a row without one. -/
set_option linter.unusedSimpArgs false
set_option linter.unusedVariables false
set_option maxRecDepth 20000
namespace Go.Proofs.Ytfaeokcbfnlgbaa.G
open Go.V
theorem mnV_erase (l : List Mn) (m : Nat) : mnV (l.eraseIdx m) = (mnV l).take (m * 4) ++ (mnV l).drop ((m + 1) * 4) := by
  rw [List.eraseIdx_eq_take_drop_succ, ← mnV_take, ← mnV_drop]
  unfold mnV
  rw [List.flatMap_append]
theorem zc48_a : (Builtin.zeroCells #[.int .i64 0, .int .i64 0, .bool false, .bool false] 1).toList = [.int .i64 0, .int .i64 0, .bool false, .bool false] := by simp [Builtin.zeroCells, Array.toList_range, List.range_succ]
theorem zc48_cells {v : Value} (h : v.cells.toList = [.int .i64 0, .int .i64 0, .bool false, .bool false]) : (Builtin.zeroCells v.cells 1).toList = [.int .i64 0, .int .i64 0, .bool false, .bool false] := by
  have : v.cells = #[.int .i64 0, .int .i64 0, .bool false, .bool false] := Array.ext' h
  rw [this]
  exact zc48_a
section
variable {W : World} {K : VK} {E : List PanicEntry → Hp → Prop} {s : Hp}
theorem c_Delete {lo c m : Nat} {a : Addr} {l : List Mn} (hf : Fr lo s (some a) l.length c 4 (mnV l)) (hm : m < l.length) (h8 : l.length ≤ 1000) (h : ∀ s', Kp (· = a.block) s s' → Fr lo s' (some a) (l.length - 1) c 4 (mnV (l.eraseIdx m)) → K (.slice (some a) (l.length - 1) c) s') :
    CALL Pg W F_slices_Delete_api_Winner_api_Winner [.slice (some a) l.length c, .int .i64 (m : Nat), .int .i64 ((m + 1 : Nat) : Int)] K E s := by
  refine does_slices_Delete_api_Winner_api_Winner W (some a) l.length c m ((m + 1 : Nat) : Int) _ s ?_
  unfold T_slices_Delete_api_Winner_api_Winner
  obtain ⟨d, v, hi, hsz, hv, hvc⟩ := inf_48
  have hcap : l.length ≤ c := by have := hf.buf.le; rw [mnV_len] at this; omega
  have hc63 := hf.cap
  refine SL3_gen und_22 hi (by omega) (by omega) (by omega) fun _ _ _ => ?_
  refine BR_eq (fun hh => by omega) (fun _ => ?_)
  generalize hvs : (mnV l).drop ((m + 1) * 4) = vs
  have hvl : vs.length = (l.length - (m + 1)) * 4 := by rw [← hvs, List.length_drop, mnV_len]; omega
  have hv1 : ∀ v ∈ vs, oneCell v = true := fun v hv => mnV_one l v (List.mem_of_mem_drop (by rw [hvs]; exact hv))
  have hrow := hf.row
  have hlen := mnV_len l
  have hrow2 : RowAt s (if c = (((m + 1 : Nat) : Int)).toNat then some a else (some a).map (·.add ((((m + 1 : Nat) : Int)).toNat * 4))) vs := fun i hi => by
    have hne : ¬ c = (((m + 1 : Nat) : Int)).toNat := by rw [toNat_nat]; omega
    rw [if_neg hne]
    have hg : (mnV l)[(m + 1) * 4 + i]? = some vs[i] := by
      have h1 : ((mnV l).drop ((m + 1) * 4))[i]? = some vs[i] := by rw [hvs]; exact List.getElem?_eq_getElem hi
      rw [List.getElem?_drop] at h1; exact h1
    obtain ⟨b, hb, hc⟩ := row_get hrow hg
    cases hb
    refine ⟨_, rfl, ?_⟩
    rw [Nat.mul_one, addr_add, toNat_nat]; exact hc
  have own : ∀ i, i < c * 4 → ∃ y, Own s (a.add i) y ∧ ∀ h : i < (mnV l).length, y = (mnV l)[i] := fun i hi => by
    obtain ⟨a', h1, y, h2, h3⟩ := hf.buf.own i hi
    cases h1; exact ⟨y, h2, h3⟩
  -- the cells are put in their places
  have fin : (APP Pg 48 4 (some (a.add 0)) m c (if c = (((m + 1 : Nat) : Int)).toNat then some a else (some a).map (·.add ((((m + 1 : Nat) : Int)).toNat * 4))) (l.length - (m + 1)) fun x15 l16 c17 =>
       SLS x15 c17 (↑l16 : Int) (↑l.length : Int) 4 fun x18 l19 c20 =>
        CLR Pg [22] (.slice x18 l19 c20) <|
         (endK K E) (.returned (.slice x15 l16 c17))) s := by
    refine ⟨⟨by omega, hc63⟩, vs, by rw [← hvl]; exact hrow2.cells, ?_⟩
    rw [if_pos (by omega)]
    show wrN vs (((a.add 0)).add (m * 4)) 0 _ s
    rw [add_0]
    refine wrN_rule vs _ 0 _ s (fun i hi => ?_) hv1 fun s1 k1 z1 o1 u1 => ?_
    · rw [Nat.zero_add, addr_add]
      obtain ⟨y, hy, _⟩ := own (m * 4 + i) (by omega)
      exact ⟨y, hy⟩
    have hmn : m + (l.length - (m + 1)) = l.length - 1 := by omega
    rw [hmn]
    refine ⟨⟨by omega, by omega, by omega⟩, ?_⟩
    rw [toNat_nat, toNat_nat, if_neg (by omega), show l.length - (l.length - 1) = 1 by omega]
    show CLR Pg [22] (.slice (some (a.add ((l.length - 1) * 4))) 1 _) _ s1
    refine CLR_gen und_22 hi hv (by omega) ?_
    rw [zc48_cells hvc]
    -- every cell of the row, after the first writes
    have own1 : ∀ i, i < c * 4 → ∃ y, Own s1 (a.add i) y ∧ (i < (l.length - 1) * 4 → (mnV (l.eraseIdx m))[i]? = some y) := by
      intro i hic
      by_cases hin : m * 4 ≤ i ∧ i < m * 4 + vs.length
      · refine ⟨vs[i - m * 4]'(by omega), ?_, fun hlt => ?_⟩
        · have := o1 (i - m * 4) (by omega)
          rw [Nat.zero_add, addr_add, show m * 4 + (i - m * 4) = i by omega] at this
          exact this
        · rw [mnV_erase, List.getElem?_append_right (by rw [List.length_take]; omega), hvs, List.length_take, Nat.min_eq_left (by omega)]
          exact List.getElem?_eq_getElem _
      · obtain ⟨y, hy, hyv⟩ := own i hic
        refine ⟨y, u1 _ y (by rw [add_of, add_of]; omega) hy, fun hlt => ?_⟩
        rw [mnV_erase, List.getElem?_append_left (by rw [List.length_take]; omega), List.getElem?_take_of_lt (by omega)]
        rw [hyv (by omega)]
        exact List.getElem?_eq_getElem _
    refine wrN_rule _ _ 0 _ s1 (fun i hi => ?_) (by simp [oneCell]) fun s2 k2 z2 o2 u2 => ?_
    · rw [Nat.zero_add, addr_add]
      have hi4 : i < 4 := hi
      obtain ⟨y, hy, _⟩ := own1 ((l.length - 1) * 4 + i) (by omega)
      exact ⟨y, hy⟩
    · have kk : Kp (· = a.block) s s2 := by
        have k2' : Kp (· = a.block) s1 s2 := k2.mono fun b hb => by rw [add_blk] at hb; exact hb
        exact (k1.mono fun b hb => by rw [add_blk] at hb; exact hb).trans k2'
      refine h s2 kk ⟨⟨?_, fun i hi => ⟨a, rfl, ?_⟩⟩, ?_, hf.fr, hc63⟩
      · rw [mnV_len, List.length_eraseIdx_of_lt hm]; omega
      · by_cases hin : (l.length - 1) * 4 ≤ i ∧ i < (l.length - 1) * 4 + 4
        · have hi4 : i - (l.length - 1) * 4 < 4 := by omega
          have := o2 (i - (l.length - 1) * 4) hi4
          rw [Nat.zero_add, addr_add, show (l.length - 1) * 4 + (i - (l.length - 1) * 4) = i by omega] at this
          refine ⟨_, this, fun hh => ?_⟩
          rw [mnV_len, List.length_eraseIdx_of_lt hm] at hh; omega
        · obtain ⟨y, hy, hyv⟩ := own1 i hi
          refine ⟨y, u2 _ y (by rw [add_of, add_of]; simp only [List.length_cons, List.length_nil]; omega) hy, fun hh => ?_⟩
          have hh2 := hh
          rw [mnV_len, List.length_eraseIdx_of_lt hm] at hh2
          have := hyv hh2
          rw [List.getElem?_eq_getElem hh] at this
          exact (Option.some.inj this).symm
      · rw [mnV_len, List.length_eraseIdx_of_lt hm]
  have e0 : (if c = ((0 : Int)).toNat then some a else (some a).map (·.add ((0 : Int).toNat * 4))) = some (a.add 0) := by
    have : ¬ c = ((0 : Int)).toNat := by show ¬ c = 0; omega
    rw [if_neg this]; rfl
  refine CONJ_two ?_ ?_
  · refine ⟨⟨by omega, by omega, by omega⟩, ?_⟩
    rw [e0]
    refine ⟨⟨by omega, by omega, by omega⟩, ?_⟩
    rw [toNat_nat, toNat_nat]
    rw [toNat_nat] at fin
    exact fin
  · refine ⟨⟨by omega, by omega, by omega⟩, ?_⟩
    refine ⟨⟨by omega, by omega, by omega⟩, ?_⟩
    rw [e0, toNat_nat, toNat_nat]
    rw [toNat_nat] at fin
    exact fin
end
end Go.Proofs.Ytfaeokcbfnlgbaa.G

/- Prize: plain: without somebody. -/
set_option linter.unusedSimpArgs false
set_option linter.unusedVariables false
set_option maxRecDepth 20000
namespace Go.Proofs.Ytfaeokcbfnlgbaa.G
open Go.V
theorem okMs_iff {n : Nat} : ∀ (r seen : List Mn), okMs n seen r = true ↔ (∀ m ∈ r, (1 ≤ m.place ∧ m.place ≤ n) ∧ (0 ≤ m.club ∧ m.club ≤ 5)) ∧ r.Pairwise (fun a b => a.place ≠ b.place) ∧ ∀ m ∈ r, ∀ x ∈ seen, x.place ≠ m.place
  | [], seen => by simp [okMs]
  | m :: r, seen => by
    unfold okMs okMn
    simp only [Bool.and_eq_true, decide_eq_true_eq, List.all_eq_true, okMs_iff r (seen ++ [m]), List.pairwise_cons, List.mem_cons, forall_eq_or_imp, List.mem_append]
    constructor
    · rintro ⟨⟨h1, h2, h3⟩, h4, h5, h6⟩
      exact ⟨⟨⟨h1, h3⟩, h4⟩, ⟨fun a ha => h6 a ha m (.inr (by simp)), h5⟩, h2, fun a ha x hx => h6 a ha x (.inl hx)⟩
    · rintro ⟨⟨⟨h1, h3⟩, h4⟩, ⟨h7, h5⟩, h2, h6⟩
      refine ⟨⟨h1, h2, h3⟩, h4, h5, fun a ha x hx => ?_⟩
      rcases hx with hx | hx
      · exact h6 a ha x hx
      · simp at hx; subst hx; exact h7 a ha
def decP (p : Int) (w : Mn) : Mn := if w.place > p then { w with place := w.place - 1 } else w
/-- Prizes without somebody. -/
def withoutP (T : PT) (m : Nat) : PT := ⟨(T.men.eraseIdx m).map (decP (T.man m).place), T.list⟩
theorem without_n {T : PT} {m : Nat} (h : m < T.n) : (withoutP T m).n = T.n - 1 := by
  unfold withoutP PT.n
  simp only [List.length_map]
  exact List.length_eraseIdx_of_lt h
theorem erase_ne {T : PT} (hv : VdP T) {m : Nat} (hm : m < T.n) {w : Mn} (hw : w ∈ T.men.eraseIdx m) : w.place ≠ (T.man m).place ∧ (1 ≤ w.place ∧ w.place ≤ T.n) ∧ (0 ≤ w.club ∧ w.club ≤ 5) := by
  obtain ⟨i, hi, e⟩ := List.mem_eraseIdx_iff_getElem.1 hw
  obtain ⟨hi2, e⟩ := e
  have hT : T.man i = w := by unfold PT.man; rw [getD_lt hi]; exact e
  subst hT
  exact ⟨fun h => hi2 (hv.inj i m hi hm h), hv.pl i hi, hv.cl i hi⟩
theorem ok_without {T : PT} (hok : okP T = true) {m : Nat} (hm : m < T.n) (h2 : 2 ≤ T.n) : okP (withoutP T m) = true := by
  have hv := okP_vd hok
  obtain ⟨h1, h6, h3, h4⟩ := okP_iff.1 hok
  have hp := ((okMs_iff _ _).1 h3).2.1
  rw [okP_iff, without_n hm]
  refine ⟨by omega, h6, ?_, h4⟩
  rw [okMs_iff]
  have hpm := hv.pl m hm
  refine ⟨fun w hw => ?_, ?_, fun _ _ x hx => by cases hx⟩
  · obtain ⟨u, hu, rfl⟩ := List.mem_map.1 hw
    obtain ⟨g1, g2, g3⟩ := erase_ne hv hm hu
    unfold decP
    split
    · exact ⟨⟨by show 1 ≤ u.place - 1; omega, by show u.place - 1 ≤ _; omega⟩, g3⟩
    · exact ⟨⟨g2.1, by omega⟩, g3⟩
  · unfold withoutP
    rw [List.pairwise_map]
    have hsub := hp.sublist (List.eraseIdx_sublist T.men m)
    refine hsub.imp_of_mem fun {a b} ha hb hab => ?_
    have ga := (erase_ne hv hm ha).1
    have gb := (erase_ne hv hm hb).1
    unfold decP
    split <;> split <;> (try simp only) <;> omega
/-- Who is who: a number without somebody, as one with him. -/
def upK (m k : Nat) : Nat := if k ≥ m then k + 1 else k
def gainB (T : PT) (m i : Nat) : Bool := !decide (i = m) && decide ((worP (withoutP T m) (manL (dueP (withoutP T m)))).getD (if i > m then i - 1 else i) 0 > (worP T (manL (dueP T))).getD i 0)
def setK (B : Nat → Bool) : Nat → Nat
  | 0 => 0
  | k + 1 => setK B k + if B k then 2 ^ k else 0
theorem setK_lt (B : Nat → Bool) : ∀ k, setK B k < 2 ^ k
  | 0 => Nat.one_pos
  | k + 1 => by
    have := setK_lt B k
    unfold setK
    rw [Nat.pow_succ]
    split <;> omega
theorem or_bit : ∀ x : Nat, x < 256 → ∀ i : Nat, i < 8 → x < 2 ^ i → orv .i64 (x : Int) (shlv .i64 1 (i : Int)) = ((x + 2 ^ i : Nat) : Int) := by
  have h : ((List.range 256).all fun (x : Nat) => (List.range 8).all fun (i : Nat) => !decide (x < 2 ^ i) || decide (orv .i64 (x : Int) (shlv .i64 1 (i : Int)) = ((x + 2 ^ i : Nat) : Int))) = true := by decide +kernel
  intro x hx i hi hb
  have h1 := List.all_eq_true.1 h x (by simpa using hx)
  have h2 := List.all_eq_true.1 h1 i (by simpa using hi)
  rw [decide_eq_true hb] at h2
  simpa using h2
def stayR (T : PT) (m : Int) : Int × Int := if okP T then (if isM T m then (if T.n = 1 then (0, 0) else ((setK (gainB T m.toNat) T.n : Nat), 0)) else (0, 2)) else (0, 1)
theorem giv_lt {T : PT} (hv : VdP T) {b : Int × Int} {f : Nat → Bool} {z m : Nat} (h : givB T b f z = some m) : m < T.n ∧ canP T m z = true := by
  have key : ∀ g : Nat → Bool, givF T g z = some m → m < T.n ∧ canP T m z = true := fun g hg => by
    unfold givF ordF at hg
    have h1 := List.mem_of_find?_eq_some hg
    exact ⟨(ord_mem hv).1 (List.mem_filter.1 h1).1, List.find?_some (p := fun m => canP T m z) hg⟩
  unfold givB at h
  split at h
  · split at h
    · cases h
    · exact key _ h
  · exact key _ h
theorem due_range {T : PT} (hv : VdP T) : ∀ k, ∀ d ∈ manL (dueL T k), d = -1 ∨ (0 ≤ d ∧ d < T.n)
  | 0, d, h => by cases h
  | k + 1, d, h => by
    have e : dueL T (k + 1) = dueL T k ++ [givB T (bestP T) (fun m => !tkF (dueL T k) m) k] := rfl
    rw [e, manL_app] at h
    rcases List.mem_append.1 h with h | h
    · exact due_range hv k d h
    · have hd : d = manI (givB T (bestP T) (fun m => !tkF (dueL T k) m) k) := by simpa [manL] using h
      cases hg : givB T (bestP T) (fun m => !tkF (dueL T k) m) k with
      | none => rw [hg] at hd; exact .inl hd
      | some m =>
        rw [hg] at hd
        have := (giv_lt hv hg).1
        have hd' : d = (m : Nat) := hd
        exact .inr ⟨by omega, by omega⟩
end Go.Proofs.Ytfaeokcbfnlgbaa.G

/- Prize: Stay. -/
set_option linter.unusedSimpArgs false
set_option linter.unusedVariables false
set_option maxRecDepth 20000
namespace Go.Proofs.Ytfaeokcbfnlgbaa.G
open Go.V
theorem zc_25 : zc Pg 25 = [.slice none 0 0, .slice none 0 0] := by kernel_rfl
def mixL (p : Int) (E : List Mn) (k : Nat) : List Mn := (E.take k).map (decP p) ++ E.drop k
theorem mixL_len (p : Int) (E : List Mn) (k : Nat) : (mixL p E k).length = E.length := by
  unfold mixL
  rw [List.length_append, List.length_map, List.length_take, List.length_drop]; omega
theorem mixL_at {p : Int} {E : List Mn} {k : Nat} (h : k < E.length) : (mixL p E k)[k]? = some E[k] := by
  unfold mixL
  rw [List.getElem?_append_right (by rw [List.length_map, List.length_take]; omega), List.length_map, List.length_take, Nat.min_eq_left (by omega), Nat.sub_self, List.getElem?_drop, Nat.add_zero, List.getElem?_eq_getElem h]
theorem mixL_succ {p : Int} {E : List Mn} {k : Nat} (h : k < E.length) : mixL p E (k + 1) = (mixL p E k).set k (decP p E[k]) := by
  unfold mixL
  rw [List.set_append_right _ _ (by rw [List.length_map, List.length_take]; omega), List.length_map, List.length_take, Nat.min_eq_left (by omega), Nat.sub_self, List.take_add_one, List.getElem?_eq_getElem h, List.map_append, List.append_assoc]
  congr 1
  rw [List.drop_eq_getElem_cons h]
  rfl
theorem mixL_same {p : Int} {E : List Mn} {k : Nat} (h : k < E.length) (hd : decP p E[k] = E[k]) : mixL p E (k + 1) = mixL p E k := by
  rw [mixL_succ h, hd]
  have h1 := mixL_at (p := p) h
  obtain ⟨h2, h3⟩ := List.getElem?_eq_some_iff.1 h1
  rw [← h3]
  exact List.set_getElem_self h2
theorem mnV_set : ∀ (l : List Mn) (k : Nat) (q : Int) (h : k < l.length), (mnV l).set (k * 4) (.int .i64 q) = mnV (l.set k { l[k] with place := q })
  | [], k, q, h => by simp at h
  | x :: l, 0, q, h => rfl
  | x :: l, k + 1, q, h => by
    have ih := mnV_set l k q (by simpa using h)
    show (mn4 x ++ mnV l).set ((k + 1) * 4) _ = mn4 x ++ mnV (l.set k { l[k]'(by simpa using h) with place := q })
    rw [← ih, show (k + 1) * 4 = 4 + k * 4 by omega, List.set_append_right _ _ (show (mn4 x).length ≤ 4 + k * 4 by show 4 ≤ _; omega)]
    congr 2
    show 4 + k * 4 - 4 = k * 4
    omega
def upT (m k : Nat) : Nat := if k ≤ m then k else k + 1
section
variable {W : World} {K : VK} {E : List PanicEntry → Hp → Prop} {s : Hp} {T : PT}
theorem c_Stay {x y : Option Addr} {c c' : Nat} {m : Int} (hx : MnAt s x T.men) (hy : PzAt s y T.list) (h : ∀ s', Ext s s' → K (.tuple #[.int .i64 (stayR T m).1, .int .i64 (stayR T m).2]) s') :
    CALL Pg W F_prize_Stay [.agg #[.slice x T.n c, .slice y T.z c'], .int .i64 m] K E s := by
  refine does_prize_Stay W x T.n c y T.z c' m _ s ?_
  unfold T_prize_Stay
  refine ne2 fun s1 e1 z1 o1 o2 => ?_
  refine nz1 zc_29 fun s2 e2 z2 o3 => ?_
  have e02 := e1.trans e2
  refine ⟨_, _, _, e2.cell o1.cell, _, _, _, e2.cell o2.cell, ?_⟩
  have hs1 : s.size ≤ s1.size := e1.1
  refine c_open (hx.ext e02) (hy.ext e02) (fun hok s3 p e3 hp => ?_) (fun hok s3 e3 => ?_)
  · try simp only [TUP_mk, AGG_mk, HD_mk, NL_mk, TYI_mk, TYB_mk, TYP_mk, TYL_mk, TYS_mk, TYM_mk, SO_mk, NX_mk, endK_mk, endK_mk', add_0]
    have e03 := e02.trans e3
    have hs3 : s1.size < s3.size := by have := e3.1; omega
    have hv := okP_vd hok
    have h8 := hv.n8
    have h6 := hv.z6
    have hn1 := hv.n1
    refine c_isMan hp ?_
    try simp only [TUP_mk, AGG_mk, HD_mk, NL_mk, TYI_mk, TYB_mk, TYP_mk, TYL_mk, TYS_mk, TYM_mk, SO_mk, NX_mk, endK_mk, endK_mk', add_0]
    refine c_must (fun hm => ?_) (fun hm => ?_)
    · try simp only [TUP_mk, AGG_mk, HD_mk, NL_mk, TYI_mk, TYB_mk, TYP_mk, TYL_mk, TYS_mk, TYM_mk, SO_mk, NX_mk, endK_mk, endK_mk', add_0]
      have hM : isM T m = true := hm
      have hm' := of_decide_eq_true hm
      obtain ⟨j, rfl⟩ := Int.eq_ofNat_of_zero_le hm'.1
      have hj : j < T.n := by omega
      have hR : stayR T (j : Int) = if T.n = 1 then (0, 0) else (((setK (gainB T j) T.n : Nat) : Int), 0) := by unfold stayR; rw [if_pos hok, if_pos hM, toNat_nat]
      refine c_due hp fun s4 dx dc e4 f4 => ?_
      try simp only [TUP_mk, AGG_mk, HD_mk, NL_mk, TYI_mk, TYB_mk, TYP_mk, TYL_mk, TYS_mk, TYM_mk, SO_mk, NX_mk, endK_mk, endK_mk', add_0]
      have hdl : (manL (dueP T)).length = T.z := by unfold manL dueP; simp [dueL_len]
      have hdr := due_range hv T.z
      refine (fun hh => by rw [← hdl]; exact hh : CALL Pg W F_prize_prizes_worths [.pointer (some p), .slice dx (manL (dueP T)).length dc] _ _ s4 → CALL Pg W F_prize_prizes_worths [.pointer (some p), .slice dx T.z dc] _ _ s4) ?_
      refine c_worths (hp.ext e4) f4.row hdl hdr fun s5 wx wc e5 f5 => ?_
      try simp only [TUP_mk, AGG_mk, HD_mk, NL_mk, TYI_mk, TYB_mk, TYP_mk, TYL_mk, TYS_mk, TYM_mk, SO_mk, NX_mk, endK_mk, endK_mk', add_0]
      have e25 := e3.trans (e4.trans e5)
      have e15 := e2.trans e25
      have e05 := e1.trans e15
      have oB := e25.own o3
      have hs5 : s3.size ≤ s5.size := (e4.trans e5).1
      refine ⟨_, _, _, e15.cell o1.cell, ?_⟩
      refine BR_eq (fun h1 => ?_) (fun h1 => ?_)
      · have h1' : T.n = 1 := by omega
        refine ep_ok oB fun t k => ?_
        have := h t (ext_kp e05 hs1 k)
        rw [hR, if_pos h1'] at this
        exact this
      have hnn : ¬ T.n = 1 := fun e => h1 (by rw [e]; rfl)
      have h2 : 2 ≤ T.n := by omega
      have hne1 : ¬ T.n = 1 := by omega
      rw [if_neg hne1] at hR
      refine ⟨_, _, _, e15.cell o1.cell, _, _, _, e15.cell o2.cell, ?_⟩
      refine nw2 zc_25 rfl rfl fun s6 e6 z6 q1 q2 => ?_
      have e16 := e15.trans e6
      have e06 := e1.trans e16
      refine ⟨_, _, _, e16.cell o1.cell, ?_⟩
      refine c_CloneW (l := T.men) (hx.ext e06) (by show 0 < T.n; omega) (by show T.n ≤ 1000; omega) fun s7 a ac e7 f7 => ?_
      try simp only [TUP_mk, AGG_mk, HD_mk, NL_mk, TYI_mk, TYB_mk, TYP_mk, TYL_mk, TYS_mk, TYM_mk, SO_mk, NX_mk, endK_mk, endK_mk', add_0]
      rw [wrap_succ (by omega)]
      have hda : s6.size ≤ a.block := f7.fr a rfl
      refine c_Delete (lo := s6.size) (m := j) f7 hj (by show T.n ≤ 1000; omega) fun s8 k8 f8 => ?_
      try simp only [TUP_mk, AGG_mk, HD_mk, NL_mk, TYI_mk, TYB_mk, TYP_mk, TYL_mk, TYS_mk, TYM_mk, SO_mk, NX_mk, endK_mk, endK_mk', add_0]
      have e68 : Ext s6 s8 := ext_kp e7 hda k8
      have q1' := e68.own q1
      have q2' := e68.own q2
      refine WR_own q1' rfl ?_
      have q1w := own_set (v := .slice (some a) (T.men.length - 1) ac) q1'
      have q2w : Own (setC s8 ⟨s5.size, 0, none⟩ (.slice (some a) (T.men.length - 1) ac)) ⟨s5.size, 1, none⟩ (.slice y T.z c') := own_set_ne (.inr (by show (1 : Nat) ≠ 0; omega)) q2'
      have e58 : Ext s5 (setC s8 ⟨s5.size, 0, none⟩ (.slice (some a) (T.men.length - 1) ac)) := Ext.setC (e6.trans e68) (Nat.le_refl _)
      have f8w : Fr s6.size (setC s8 ⟨s5.size, 0, none⟩ (.slice (some a) (T.men.length - 1) ac)) (some a) (T.men.length - 1) ac 4 (mnV (T.men.eraseIdx j)) := f8.kp (D := (· = s5.size)) (Kp.setC (Kp.refl _) (.inl rfl)) (fun b hb he => by cases hb; have : a.block = s5.size := he; omega)
      generalize hs9 : setC s8 ⟨s5.size, 0, none⟩ (.slice (some a) (T.men.length - 1) ac) = s9 at *
      refine ⟨_, _, _, q1w.cell, ?_⟩
      have hEl : (T.men.eraseIdx j).length = T.n - 1 := List.length_eraseIdx_of_lt hj
      have hTl : T.men.length - 1 = T.n - 1 := rfl
      rw [hTl] at *
      generalize hE : T.men.eraseIdx j = EE at *
      generalize hpl : (T.man j).place = pl at *
      refine L_prize_Stay_0_rule W _ j ⟨s.size, 0, none⟩ ⟨s1.size, 0, none⟩ wx T.n wc ⟨s5.size, 0, none⟩ ((T.n - 1 : Nat) : Int) (fun n t => Ext s5 t ∧ Own t ⟨s5.size, 0, none⟩ (.slice (some a) (T.n - 1) ac) ∧ Own t ⟨s5.size, 1, none⟩ (.slice y T.z c') ∧ ∃ k : Nat, k ≤ T.n - 1 ∧ n = k ∧ Fr s6.size t (some a) (T.n - 1) ac 4 (mnV (mixL pl EE k))) (fun n _ => (((T.n - 1 : Nat) : Int) - n).toNat) 0 s9
        ⟨e58, q1w, q2w, 0, by omega, rfl, (show mnV EE = mnV (mixL pl EE 0) from rfl) ▸ f8w⟩ ?_
      rintro n t ⟨et, p1, p2, k, hk, rfl, hfr⟩
      unfold B_prize_Stay_0
      have e1t := e15.trans et
      refine BR_dec (fun hlt => ?_) (fun hlt => ?_)
      · have hkn : k < T.n - 1 := by omega
        have hkE : k < EE.length := by omega
        have hml := mixL_len pl EE k
        have hkm : k < (mixL pl EE k).length := by omega
        have hat := (List.getElem?_eq_some_iff.1 (mixL_at (p := pl) hkE)).2
        obtain ⟨b, hb, cb⟩ := row_get hfr.row (mnV_get (mixL pl EE k) k hkm).1
        cases hb
        have hEp := erase_ne hv hj (w := EE[k]) (by rw [hE]; exact List.getElem_mem hkE)
        rw [hat] at cb
        refine ⟨_, _, _, p1.cell, ?_⟩
        refine IXS_nat hkn ?_
        refine ⟨_, cb, ?_⟩
        refine ⟨_, _, _, e1t.cell o1.cell, ?_⟩
        obtain ⟨ax, w0, w1, w2, w3, w4⟩ := man_row (hx.ext (e1.trans e1t)) hj
        refine IXS_at w0 hj ?_
        refine ⟨_, w1, ?_⟩
        rw [hpl]
        refine BR_dec (fun h3 => ?_) (fun h3 => ?_)
        · refine ⟨_, _, _, p1.cell, ?_⟩
          refine IXS_nat hkn ?_
          refine ⟨_, cb, ?_⟩
          refine IXS_nat hkn ?_
          rw [wrap_i64 (by omega) (by omega)]
          have hi4 : k * 4 < (mnV (mixL pl EE k)).length := by rw [mnV_len]; omega
          have hown := hfr.buf.at hi4
          have hset := hfr.buf.set (v := .int .i64 (EE[k].place - 1)) hi4
          refine WR_own hown rfl ?_
          unfold J_prize_Stay_0
          have hb6 : s6.size ≤ (a.add (k * 4)).block := by rw [add_blk]; exact hda
          have hne6 : (⟨s5.size, 0, none⟩ : Addr).block ≠ (a.add (k * 4)).block := by show s5.size ≠ _; omega
          refine ⟨rfl, _, rfl, ⟨Ext.setC et (by show s5.size ≤ (a.add (k * 4)).block; omega), own_set_ne (.inl hne6) p1, own_set_ne (.inl hne6) p2, k + 1, hkn, wrap_succ (by omega), ?_⟩, ms_succ hkn (by omega)⟩
          have hmm : mnV (mixL pl EE (k + 1)) = (mnV (mixL pl EE k)).set (k * 4) (.int .i64 (EE[k].place - 1)) := by
            rw [mnV_set _ _ _ hkm, mixL_succ hkE, hat]
            unfold decP
            rw [if_pos h3]
          rw [hmm]
          exact ⟨hset, by rw [List.length_set]; exact hfr.len, hfr.fr, hfr.cap⟩
        · unfold J_prize_Stay_0
          refine ⟨rfl, _, rfl, ⟨et, p1, p2, k + 1, hkn, wrap_succ (by omega), ?_⟩, ms_succ hkn (by omega)⟩
          rw [mixL_same hkE (by unfold decP; rw [if_neg h3])]
          exact hfr
      · have hkn : k = T.n - 1 := by omega
        subst hkn
        have hmix : mixL pl EE (T.n - 1) = (withoutP T j).men := by
          unfold mixL withoutP
          rw [hE, hpl, ← hEl, List.take_length, List.drop_length, List.append_nil]
        rw [hmix] at hfr
        have hokW := ok_without hok hj h2
        have hvW := okP_vd hokW
        have hnW : (withoutP T j).n = T.n - 1 := without_n hj
        have h6W := hvW.z6
        have h8W := hvW.n8
        have e0t := e1.trans e1t
        refine ⟨_, _, _, p1.cell, _, _, _, p2.cell, ?_⟩
        dsimp only
        rw [← hnW]
        refine c_open (T := withoutP T j) (row_mn hfr.row) (hy.ext e0t) (fun _ t1 p' f1 hp' => ?_) (fun hbad => by rw [hokW] at hbad; cases hbad)
        try simp only [TUP_mk, AGG_mk, HD_mk, NL_mk, TYI_mk, TYB_mk, TYP_mk, TYL_mk, TYS_mk, TYM_mk, SO_mk, NX_mk, endK_mk, endK_mk', add_0]
        refine c_due hp' fun t2 dx' dc' f2 g2 => ?_
        try simp only [TUP_mk, AGG_mk, HD_mk, NL_mk, TYI_mk, TYB_mk, TYP_mk, TYL_mk, TYS_mk, TYM_mk, SO_mk, NX_mk, endK_mk, endK_mk', add_0]
        have hdl' : (manL (dueP (withoutP T j))).length = (withoutP T j).z := by unfold manL dueP; simp [dueL_len]
        have hdr' := due_range hvW (withoutP T j).z
        refine (fun hh => by rw [← hdl']; exact hh : CALL Pg W F_prize_prizes_worths [.pointer (some p'), .slice dx' (manL (dueP (withoutP T j))).length dc'] _ _ t2 → CALL Pg W F_prize_prizes_worths [.pointer (some p'), .slice dx' (withoutP T j).z dc'] _ _ t2) ?_
        refine c_worths (hp'.ext f2) g2.row hdl' hdr' fun t3 wx' wc' f3 g3 => ?_
        try simp only [TUP_mk, AGG_mk, HD_mk, NL_mk, TYI_mk, TYB_mk, TYP_mk, TYL_mk, TYS_mk, TYM_mk, SO_mk, NX_mk, endK_mk, endK_mk', add_0]
        have ft := f1.trans (f2.trans f3)
        have e5t3 := et.trans ft
        have f5t := f5.ext e5t3
        have oB3 := e5t3.own oB
        have hwl : (worP T (manL (dueP T))).length = T.n := worP_len
        have hwl' : (worP (withoutP T j) (manL (dueP (withoutP T j)))).length = T.n - 1 := by rw [worP_len, hnW]
        rw [hnW]
        rw [hnW] at g3
        generalize hB : gainB T j = B at *
        have hBj : B j = false := by rw [← hB]; unfold gainB; simp
        refine L_prize_Stay_1_rule W _ j ⟨s1.size, 0, none⟩ wx T.n wc wx' (T.n - 1) wc' ((T.n - 1 : Nat) : Int) (fun n8 n9 t => t = t3 ∧ ∃ k : Nat, k ≤ T.n - 1 ∧ n9 = k ∧ n8 = (setK B (upT j k) : Nat)) (fun _ n9 _ => (((T.n - 1 : Nat) : Int) - n9).toNat) 0 0 t3 ⟨rfl, 0, by omega, rfl, by unfold upT; rw [if_pos (by omega)]; rfl⟩ ?_
        rintro n8 n9 t4 ⟨rfl, k, hk, rfl, rfl⟩
        unfold B_prize_Stay_1
        refine BR_dec (fun hlt2 => ?_) (fun hlt2 => ?_)
        · have hkn : k < T.n - 1 := by omega
          obtain ⟨b1, hb1, g1⟩ := row_int g3.row (by omega : k < (worP (withoutP T j) (manL (dueP (withoutP T j)))).length)
          refine IXS_at hb1 hkn ?_
          refine ⟨_, g1, ?_⟩
          generalize hnx : (fun vs : List Value => _) = nx
          have step : ∀ i : Nat, i = upK j k → J_prize_Stay_2 W (endK K E) wx T.n i ((worP (withoutP T j) (manL (dueP (withoutP T j)))).getD k 0) j ⟨s1.size, 0, none⟩ wc wx' (T.n - 1) wc' ((T.n - 1 : Nat) : Int) nx (setK B (upT j k) : Nat) k t4 := by
            intro i hi
            have hin : i < T.n := by rw [hi]; unfold upK; split <;> omega
            have hij : ¬ i = j := by rw [hi]; unfold upK; split <;> omega
            have hidx : (if i > j then i - 1 else i) = k := by rw [hi]; unfold upK; split <;> split <;> omega
            have hgain : B i = decide ((worP (withoutP T j) (manL (dueP (withoutP T j)))).getD k 0 > (worP T (manL (dueP T))).getD i 0) := by
              rw [← hB]; unfold gainB
              rw [decide_eq_false hij, hidx]; rfl
            have hset : setK B (upT j (k + 1)) = setK B (upT j k) + if B i then 2 ^ i else 0 := by
              rw [hi]
              unfold upT upK
              rcases Nat.lt_trichotomy k j with hl | hl | hl
              · have a1 : k + 1 ≤ j := hl
                have a2 : k ≤ j := by omega
                have a3 : ¬ k ≥ j := by omega
                simp only [a1, a2, a3, if_true, if_false]
                rfl
              · subst hl
                have a1 : ¬ k + 1 ≤ k := by omega
                have a2 : k ≥ k := Nat.le_refl _
                simp only [a1, a2, Nat.le_refl, if_true, if_false]
                show setK B (k + 1) + _ = _
                have : setK B (k + 1) = setK B k := by show setK B k + _ = _; rw [hBj]; simp
                rw [this]
              · have a1 : ¬ k + 1 ≤ j := by omega
                have a2 : ¬ k ≤ j := by omega
                have a3 : k ≥ j := by omega
                simp only [a1, a2, a3, if_true, if_false]
                rfl
            have hup : upT j k ≤ i := by rw [hi]; unfold upT upK; split <;> split <;> omega
            have hlt3 : setK B (upT j k) < 2 ^ i := Nat.lt_of_lt_of_le (setK_lt B _) (Nat.pow_le_pow_right (by omega) hup)
            have h256 : (2 : Nat) ^ i ≤ 2 ^ 8 := Nat.pow_le_pow_right (by omega) (by omega)
            unfold J_prize_Stay_2
            obtain ⟨b2, hb2, g2'⟩ := row_int f5t.row (by omega : i < (worP T (manL (dueP T))).length)
            refine IXS_at hb2 hin ?_
            refine ⟨_, g2', ?_⟩
            refine BR_dec (fun h4 => ?_) (fun h4 => ?_)
            · rw [decide_eq_true h4] at hgain
              refine NNI_of (by omega) ?_
              unfold J_prize_Stay_1
              rw [or_bit _ (by omega) i (by omega) hlt3, ← hnx]
              refine ⟨rfl, _, _, rfl, ⟨rfl, k + 1, hkn, wrap_succ (by omega), ?_⟩, ms_succ hkn (by omega)⟩
              rw [hset, hgain]; rfl
            · rw [decide_eq_false h4] at hgain
              unfold J_prize_Stay_1
              rw [← hnx]
              refine ⟨rfl, _, _, rfl, ⟨rfl, k + 1, hkn, wrap_succ (by omega), ?_⟩, ms_succ hkn (by omega)⟩
              rw [hset, hgain]; rfl
          refine BR_dec (fun h4 => ?_) (fun h4 => ?_)
          · rw [wrap_succ (by omega)]
            exact step (k + 1) (by unfold upK; rw [if_pos (by omega)])
          · exact step k (by unfold upK; rw [if_neg (by omega)])
        · have hkn : k = T.n - 1 := by omega
          subst hkn
          have hfin : setK B (upT j (T.n - 1)) = setK B T.n := by
            unfold upT
            by_cases hl : T.n - 1 ≤ j
            · rw [if_pos hl]
              have hjn : j = T.n - 1 := by omega
              have : setK B (T.n - 1 + 1) = setK B (T.n - 1) := by
                show setK B (T.n - 1) + _ = _
                rw [← hjn, hBj]; simp
              rw [← this, show T.n - 1 + 1 = T.n by omega]
            · rw [if_neg hl, show T.n - 1 + 1 = T.n by omega]
          rw [hfin]
          refine ep_ok oB3 fun t5 k5 => ?_
          have := h t5 (ext_kp (e05.trans e5t3) hs1 k5)
          rw [hR] at this
          exact this
    · try simp only [TUP_mk, AGG_mk, HD_mk, NL_mk, TYI_mk, TYB_mk, TYP_mk, TYL_mk, TYS_mk, TYM_mk, SO_mk, NX_mk, endK_mk, endK_mk', add_0]
      refine ep_err (e3.own o3) fun s5 k5 => ?_
      have := h s5 (ext_kp e03 hs1 k5)
      unfold stayR at this
      have hM : isM T m = false := hm
      rw [if_pos hok, hM] at this
      exact this
  · try simp only [TUP_mk, AGG_mk, HD_mk, NL_mk, TYI_mk, TYB_mk, TYP_mk, TYL_mk, TYS_mk, TYM_mk, SO_mk, NX_mk, endK_mk, endK_mk', add_0]
    refine ep_err (e3.own o3) fun s5 k5 => ?_
    have := h s5 (ext_kp (e02.trans e3) hs1 k5)
    unfold stayR at this
    rw [hok] at this
    exact this
end
end Go.Proofs.Ytfaeokcbfnlgbaa.G

/- Prize: rows of numbers: copies, what is in them, what an iterator yields. -/
set_option linter.unusedSimpArgs false
set_option linter.unusedVariables false
set_option maxRecDepth 20000
namespace Go.Proofs.Ytfaeokcbfnlgbaa.G
open Go.V
def nats (l : List Nat) : List Int := l.map fun (m : Nat) => (m : Int)
section
variable {W : World} {K : VK} {E : List PanicEntry → Hp → Prop} {s : Hp} {p : Addr} {T : PT} {R : Hp → Prop} {f : Nat → Bool} {v : Value}
theorem c_Contains {x : Option Addr} {c l : Nat} {ds : List Int} {n : Int} (hx : RowAt s x (ints ds)) (hl : l = ds.length) (h8 : ds.length ≤ 100000) (h : K (.bool (decide (n ∈ ds))) s) : CALL Pg W F_slices_Contains_int_int [.slice x l c, .int .i64 n] K E s := by
  subst hl
  refine does_slices_Contains_int_int W x _ c n _ s ?_
  unfold T_slices_Contains_int_int
  refine does_slices_Index_int_int W x _ c n _ s ?_
  unfold T_slices_Index_int_int
  refine L_slices_Index_int_int_0_rule W _ x ds.length c n ds.length (fun i t => t = s ∧ ∃ k : Nat, k ≤ ds.length ∧ i = k ∧ ∀ j, j < k → ds.getD j 0 ≠ n) (fun i _ => (ds.length - i).toNat) 0 s ⟨rfl, 0, by omega, rfl, fun j hj => by omega⟩ ?_
  rintro i t ⟨rfl, k, hk, rfl, hno⟩
  unfold B_slices_Index_int_int_0
  refine BR_dec (fun h1 => ?_) (fun h1 => ?_)
  · have hkl : k < ds.length := by omega
    obtain ⟨a, ha, g⟩ := row_int hx hkl
    refine IXS_at ha hkl ?_
    refine ⟨_, g, ?_⟩
    refine BR_eq (fun h2 => ?_) (fun h2 => ?_)
    · have hm : n ∈ ds := by rw [h2, getD_lt hkl]; exact List.getElem_mem hkl
      try simp only [TUP_mk, AGG_mk, HD_mk, NL_mk, TYI_mk, TYB_mk, TYP_mk, TYL_mk, TYS_mk, TYM_mk, SO_mk, NX_mk, endK_mk, endK_mk', add_0]
      rw [decide_eq_true hm] at h
      have : decide ((k : Int) ≥ 0) = true := decide_eq_true (by omega)
      rw [this]; exact h
    · refine ⟨rfl, _, rfl, ⟨rfl, k + 1, hkl, wrap_succ (by omega), fun j hj => ?_⟩, ms_succ hkl (by omega)⟩
      by_cases e : j = k
      · subst e; exact fun hh => h2 hh.symm
      · exact hno j (by omega)
  · have hm : ¬ n ∈ ds := fun hm => by
      obtain ⟨j, hj, e⟩ := List.mem_iff_getElem.1 hm
      exact hno j (by omega) (by rw [getD_lt hj]; exact e)
    try simp only [TUP_mk, AGG_mk, HD_mk, NL_mk, TYI_mk, TYB_mk, TYP_mk, TYL_mk, TYS_mk, TYM_mk, SO_mk, NX_mk, endK_mk, endK_mk', add_0]
    rw [decide_eq_false hm] at h
    exact h
theorem c_CloneI {x : Option Addr} {c l : Nat} {ds : List Int} (hx : RowAt s x (ints ds)) (hl : l = ds.length) (h8 : ds.length ≤ 1000) (h : ∀ s' x' c', Ext s s' → Fr s.size s' x' ds.length c' 1 (ints ds) → K (.slice x' ds.length c') s') : CALL Pg W F_slices_Clone_int_int [.slice x l c] K E s := by
  subst hl
  refine does_slices_Clone_int_int W x ds.length c _ s ?_
  unfold T_slices_Clone_int_int
  cases x with
  | none =>
    have hd : ds = [] := by
      cases hq : ds with
      | nil => rfl
      | cons d r =>
        obtain ⟨a, ha, _⟩ := hx 0 (by rw [ints_len, hq]; simp)
        cases ha
    subst hd
    refine BR_tt rfl ?_
    exact h s none 0 (Ext.refl _) (Fr.nil _ _ _)
  | some a =>
    refine BR_ff rfl ?_
    refine NEW_rule fun s1 e1 z1 n1 _ => ?_
    have hf : Fr s.size s1 (some ⟨s.size, 0, none⟩) 0 0 1 [] := ⟨⟨Nat.le_refl _, fun i hi => by omega⟩, rfl, fun a ha => by cases ha; exact Nat.le_refl _, by omega⟩
    refine APP_fr (lo := s.size) hf e1.1 (ws := ints ds) (hx.ext e1) (by rw [ints_len, Nat.mul_one]) zc_3 rfl (by omega) (ints_one ds) (by omega) fun s2 x2 c2 k2 hx2 g2 => ?_
    rw [Nat.zero_add, List.nil_append] at g2
    rw [Nat.zero_add]
    have e2 : Ext s s2 := kp_nil e1 (fun b hb => by obtain ⟨y, hy, rfl⟩ := hb; cases hy; exact Nat.le_refl _) k2
    exact h s2 x2 c2 e2 g2
/-- All who are wanted, as a row. -/
theorem c_Collect {a b : Addr} (hp : PrO s p T) (hf : IsFn W v T.n R f) (hR : R s) (ca : cellAt s a = some (.pointer (some p))) (cb : cellAt s b = some v) (h : ∀ s' x c, Ext s s' → Fr s.size s' x (ordF T f).length c 1 (ints (nats (ordF T f))) → K (.slice x (ordF T f).length c) s') :
    CALL Pg W F_slices_Collect_int [.func (.func 85) #[] #[.pointer (some a), .pointer (some b)]] K E s := by
  have hvd := okP_vd hp.ok
  have h8 := hvd.n8
  refine does_slices_Collect_int W _ _ s ?_
  unfold T_slices_Collect_int
  refine does_slices_AppendSeq_int_int W none 0 0 _ _ s ?_
  unfold T_slices_AppendSeq_int_int
  refine ne1 fun s1 e1 z1 o1 => ?_
  have hlen : (ordF T f).length ≤ 8 := by unfold ordF; exact Nat.le_trans (List.length_filter_le _ _) (by rw [ord_len]; exact h8)
  refine rng_order (W := W) (p := p) hf (fun k t => Ext s t ∧ ∃ x l c, Own t ⟨s.size, 0, none⟩ (.slice x l c) ∧ Fr (s.size + 1) t x l c 1 (ints (nats ((ordF T f).take k))) ∧ s.size + 1 ≤ t.size) (fun _ _ => False)
    (fun k t ht => ⟨hp.ext ht.1, ht.1.cell ca, ht.1.cell cb, hf.ext _ _ hR ht.1⟩) (fun k t t' ht e => ⟨ht.1.trans e, by obtain ⟨x, l, c, g1, g2, g3⟩ := ht.2; exact ⟨x, l, c, e.own g1, g2.ext e, Nat.le_trans g3 e.1⟩⟩)
    ⟨e1, none, 0, 0, o1, Fr.nil _ _ _, by omega⟩ ?_ ?_ (fun _ _ h => h.elim)
  · rintro k m hkm hmn t ⟨et, x, l, c, g1, g2, g3⟩
    try simp only [TUP_mk, AGG_mk, HD_mk, NL_mk, TYI_mk, TYB_mk, TYP_mk, TYL_mk, TYS_mk, TYM_mk, SO_mk, NX_mk, endK_mk, endK_mk', add_0]
    refine ⟨_, _, _, g1.cell, ?_⟩
    refine ne1 fun t2 f2 y2 q2 => ?_
    have hkl := (List.getElem?_eq_some_iff.1 hkm).1
    have hl : l = k := by have := g2.len; unfold nats at this; rw [ints_len, List.length_map, List.length_take] at this; omega
    refine APP_fr (lo := s.size + 1) (g2.ext f2) (by have := f2.1; omega) (ws := [.int .i64 (m : Nat)]) (fun i hi => ⟨⟨t.size, 0, none⟩, rfl, ?_⟩) rfl zc_3 rfl (by omega) (by simp [oneCell]) (by omega) fun t3 x3 c3 k3 hx3 g4 => ?_
    · have hi0 : i = 0 := by simp at hi; omega
      subst hi0; exact q2.cell
    have o3 : Own t3 ⟨s.size, 0, none⟩ (.slice x l c) := k3.own (fun hb => by obtain ⟨y, hy, hyb⟩ := hb; have := g2.fr y hy; have : y.block = s.size := hyb; omega) (f2.own g1)
    refine WR_own o3 rfl ?_
    have e3 : Ext s t3 := kp_nil (et.trans f2) (fun b hb => by obtain ⟨y, hy, rfl⟩ := hb; have := g2.fr y hy; omega) k3
    refine ⟨Ext.setC e3 (Nat.le_refl _), x3, l + 1, c3, own_set o3, ?_, by have h1 := f2.1; have h2 := k3.1; rw [setC_size]; omega⟩
    have ht : nats ((ordF T f).take (k + 1)) = nats ((ordF T f).take k) ++ [(m : Int)] := by
      unfold nats
      rw [List.take_add_one, hkm, List.map_append]; rfl
    rw [ht, ints_app]
    refine g4.kp (D := (· = s.size)) (Kp.setC (Kp.refl _) (.inl rfl)) (fun y hy hb => ?_)
    have := g4.fr y hy
    have : y.block = s.size := hb
    omega
  · rintro t ⟨et, x, l, c, g1, g2, g3⟩
    rw [List.take_length] at g2
    have hl : l = (ordF T f).length := by have := g2.len; unfold nats at this; rw [ints_len, List.length_map] at this; omega
    subst hl
    refine ⟨_, _, _, g1.cell, ?_⟩
    try simp only [TUP_mk, AGG_mk, HD_mk, NL_mk, TYI_mk, TYB_mk, TYP_mk, TYL_mk, TYS_mk, TYM_mk, SO_mk, NX_mk, endK_mk, endK_mk', add_0]
    exact h t x c et (g2.le (by omega))
end
end Go.Proofs.Ytfaeokcbfnlgbaa.G

/- Prize: a row that grows by zeros; rows that do not overlap. -/
set_option linter.unusedSimpArgs false
set_option linter.unusedVariables false
set_option maxRecDepth 20000
namespace Go.Proofs.Ytfaeokcbfnlgbaa.G
open Go.V
theorem APPZ_gen {P : Program} {t0 t1 e : TypeId} {k1 : IntKind} {i : TypeInfo} {v : Value} {x : Option Addr} {l c m : Nat} {ws : List Value} {s : Hp} {K : Option Addr → Nat → Nat → Hp → Prop} (hu : P.underlying t0 = some (.slice e)) (hu1 : P.underlying t1 = some (.int k1)) (hi : P.info? e = some i) (hv : i.zero = some v) (hz : zc P e = v.cells.toList) (hs1 : i.size = 1) (hby : i.bytes ≤ 1000) (hby1 : 1 ≤ i.bytes)
    (hm : 0 < m) (hgt : c < l + m) (hlm : l + m ≤ 1000000) (hws : cellsOpt s x l = some ws) (h : ∀ c', l + m ≤ c' → c' < 9223372036854775808 → K (some ⟨s.size, 0, none⟩) (l + m) c' (s.push (.cells (ws ++ repL m (zc P e) ++ repL (c' - (l + m)) (zc P e)).toArray e (0, 0)))) :
    APPZ P [t0, t1] (.slice x l c) (.int .i64 (m : Nat)) K s := by
  unfold APPZ SLV
  simp only [Builtin.append_, List.getElem?_toArray, List.getElem?_cons_zero, List.getElem?_cons_succ]
  rw [sp_bind, sp_und hu]
  simp only []
  rw [sp_bind, sp_size hi, sp_bind, sp_und hu1, sp_bind]
  simp only [sp_pure, if_true, asInt, sp_bind]
  have hw : IntKind.i64.wrap ((m : Nat) : Int) = (m : Int) := wrap_i64 (by omega) (by omega)
  simp only [asIntOf, sp_pure]
  rw [hw, if_neg (by omega)]
  have hmbN : m * i.bytes ≤ 1000000 * 1000 := Nat.mul_le_mul (by omega) hby
  have hmb : ¬ ((m : Int) * (i.bytes : Int) > 2 ^ 48) := by
    have : ((m * i.bytes : Nat) : Int) ≤ 1000000000 := by omega
    rw [Int.natCast_mul] at this
    omega
  simp only [sp_pure, sp_bind, sp_info hi]
  rw [if_neg hmb]
  simp only [sp_pure, sp_bind, Int.toNat_natCast]
  have hcap := nextcap_le (l + m) c (by omega)
  have hmul : Builtin.nextslicecap (l + m) c * i.bytes ≤ (1000 + 2 * (l + m)) * 1000 := Nat.mul_le_mul hcap hby
  rw [if_neg (by omega)]
  have hg : ¬ (((l + m : Nat) : Int) > IntKind.i64.max ∧ (True ∨ i.bytes = 0)) := by
    rintro ⟨hh, _⟩
    have e : IntKind.i64.max = 9223372036854775807 := rfl
    omega
  simp only [sp_bind, sp_info hi]
  rw [if_neg hg]
  simp only [sp_pure, sp_bind, sp_info hi]
  rw [if_neg (by omega)]
  simp only [sp_pure, sp_bind, sp_info hi]
  show sp P (choose (.appendCap (l + m) c e)) _ _ s
  simp only [choose, sp, Question.forced]
  intro q
  have hq : ∃ c', c' = (Question.appendCap (l + m) c e).cut q ∧ l + m ≤ c' ∧ c' < 9223372036854775808 := by
    refine ⟨_, rfl, ?_, ?_⟩
    · simp only [Question.cut]; omega
    · simp only [Question.cut]
      have := Nat.mod_lt q (show 0 < 2 ^ 63 - (l + m) by omega)
      omega
  obtain ⟨c', hc', hc1, hc2⟩ := hq
  rw [← hc']
  simp only [sp_bind, sp_askRoom]
  rw [hs1]
  refine firstCells_sp (by rw [Nat.mul_one]; exact hws) ?_
  simp only [Bool.not_true, Bool.false_eq_true, if_false]
  rw [if_neg (by omega)]
  simp only [sp_bind, sp_zero hi hv, newRow, sp_new, sp_pure]
  have hrow : ∀ n, Builtin.zeroCells v.cells n = (repL n (zc P e)).toArray := fun n => by rw [hz]; exact rowOf v.cells n
  rw [hrow, hrow]
  have := h c' hc1 hc2
  refine ⟨_, _, _, rfl, ?_⟩
  simpa using this
end Go.Proofs.Ytfaeokcbfnlgbaa.G

/- Prize: rows that do not overlap. -/
set_option linter.unusedSimpArgs false
set_option linter.unusedVariables false
set_option maxRecDepth 20000
namespace Go.Proofs.Ytfaeokcbfnlgbaa.G
open Go.V
theorem ov_gen {P : Program} {tS tR e : TypeId} {i : TypeInfo} {a b : Addr} {la ca lb cb : Nat} {s : Hp} {K : Value → Hp → Prop} {E : Value → Hp → Prop} {tA tB : TypeId} {kA kB : Nat} (ht : P.underlying tS = some (.slice e)) (hi : P.info? e = some i) (hne : a.block ≠ b.block)
    (hsa : shapeAt s a.block = some (tA, kA)) (hsb : shapeAt s b.block = some (tB, kB)) (hkB : kB ≠ 0) (hfa : frozenAt s a = false) (hfe : frozenAt s { block := a.block, off := kA } = false) (h : K (.bool false) s) :
    sp P (Extern.SlicesOverlaps.overlaps #[tS, tS] #[tR] #[.slice (some a) la ca, .slice (some b) lb cb]) K E s := by
  refine (id ?_ : sp P (underlying tS >>= _) K E s)
  rw [sp_bind, sp_und ht]
  refine (id ?_ : sp P (sizeOf e >>= _) K E s)
  rw [sp_bind, sp_size hi]
  have hnb : (a.block != b.block) = true := by simpa using hne
  by_cases h0 : la = 0 ∨ lb = 0 ∨ i.size = 0
  · refine (id ?_ : sp P (if la = 0 ∨ lb = 0 ∨ i.size = 0 then _ else _) K E s)
    rw [if_pos h0]; exact h
  · refine (id ?_ : sp P (if la = 0 ∨ lb = 0 ∨ i.size = 0 then _ else _) K E s)
    rw [if_neg h0]
    cases kB with
    | zero => exact absurd rfl hkB
    | succ kB =>
      have hnb' : (a.block == b.block) = false := by simpa using hne
      simp only [hnb, hnb', Bool.false_and, Bool.true_and, if_true]
      simp only [sp_bind, frozen, sp, hfa, Bool.and_false, Bool.false_and, Bool.false_eq_true, if_false, noView, viewAt, shape, hsa, hsb, Option.isSome_some, if_true, sp_pure, Option.isSome_none, mayBeOne, stringish, hfe]
      by_cases hb : frozenAt s b = true
      · rw [if_pos hb]
        simp only [sp_pure, hsb, Bool.and_false, Bool.or_false, Bool.false_eq_true, if_false]
        exact h
      · rw [if_neg hb]
        simp only [sp_bind, sp, hsb, sp_pure, Bool.and_false, Bool.or_false, Bool.false_eq_true, if_false]
        exact h
theorem fn_86 : Pg.funcs[86]? = some Try.f86 := Try.func86
theorem nm_86 : (Try.f86.name == "runtime.NumGoroutine") = false := by kernel_rfl
theorem bd_86 : Try.f86.body.isNone = true := by kernel_rfl
theorem fx_86 : (Extern.findNext Try.f86).isNone = true := by kernel_rfl
theorem fd_86 : Extern.find Try.f86 = some (Extern.SlicesOverlaps.overlaps #[26, 26] #[4]) := by kernel_rfl
theorem und_26 : Pg.underlying 26 = some (.slice 3) := by kernel_rfl
theorem inf_3 : ∃ i v, Pg.info? 3 = some i ∧ i.size = 1 ∧ (1 ≤ i.bytes ∧ i.bytes ≤ 1000) ∧ i.zero = some v ∧ v.cells.toList = [.int .i64 0] := by
  obtain ⟨i, v, h1, h2, h3⟩ := zero_of (P := Pg) (t := 3) (by kernel_rfl)
  have hs : (Pg.info? 3).map (·.size) = some 1 := by kernel_rfl
  have hb : (Pg.info? 3).map (·.bytes) = some 8 := by kernel_rfl
  rw [h1] at hs hb
  have hb' : i.bytes = 8 := by simpa using hb
  exact ⟨i, v, h1, by simpa using hs, by omega, h2, by rw [← h3]; exact zc_3⟩
theorem ext_gen {P : Program} {f : FuncId} {fn : Func} {e : Array Value → Sem Value} {args : List Value} {s : Hp} {K : VK} (hf : P.funcs[f]? = some fn) (hn : (fn.name == "runtime.NumGoroutine") = false) (hb : fn.body.isNone = true) (hx : Extern.findNext fn = none) (hd : Extern.find fn = some e) (h : sp P (e args.toArray) K (fun _ _ => False) s) : EXT P f args K s := by
  unfold EXT callFunc
  simp only [sp_bind, sp_program, hf, hn, hb, Bool.false_eq_true, if_false, if_true, hx, hd]
  refine (id ?_ : sp P (.mark _ _) _ _ s)
  simp only [sp, sp_bind, sp_pure]
  exact sp_mono P _ (fun v s h => ⟨v, rfl, h⟩) (fun v s h => h) _ h
/-- Two rows in two blocks do not overlap. -/
theorem c_overlaps {a b : Addr} {la ca lb cb : Nat} {s : Hp} {K : VK} {tA tB : TypeId} {kA kB : Nat} (hne : a.block ≠ b.block) (hsa : shapeAt s a.block = some (tA, kA)) (hsb : shapeAt s b.block = some (tB, kB)) (hkB : kB ≠ 0) (hfa : frozenAt s a = false) (hfe : frozenAt s { block := a.block, off := kA } = false) (h : K (.bool false) s) :
    EXT Pg 86 [.slice (some a) la ca, .slice (some b) lb cb] K s := by
  obtain ⟨i, v, hi, _⟩ := inf_3
  have hx : Extern.findNext Try.f86 = none := by
    cases h : Extern.findNext Try.f86 with
    | none => rfl
    | some e => have := fx_86; rw [h] at this; cases this
  exact ext_gen fn_86 nm_86 bd_86 hx fd_86 (ov_gen und_26 hi hne hsa hsb hkB hfa hfe h)
end Go.Proofs.Ytfaeokcbfnlgbaa.G

/- Prize: somebody is put into a row. -/
set_option linter.unusedSimpArgs false
set_option linter.unusedVariables false
set_option maxRecDepth 20000
namespace Go.Proofs.Ytfaeokcbfnlgbaa.G
open Go.V
def insL (os : List Int) (i : Nat) (m : Int) : List Int := os.take i ++ m :: os.drop i
theorem insL_len {os : List Int} {i : Nat} {m : Int} (h : i ≤ os.length) : (insL os i m).length = os.length + 1 := by
  unfold insL; simp; omega
theorem insL_at {os : List Int} {i : Nat} {m : Int} (h : i ≤ os.length) (j : Nat) : (insL os i m)[j]? = if j < i then os[j]? else if j = i then some m else os[j - 1]? := by
  unfold insL
  by_cases h1 : j < i
  · rw [if_pos h1, List.getElem?_append_left (by rw [List.length_take]; omega), List.getElem?_take_of_lt h1]
  · rw [if_neg h1, List.getElem?_append_right (by rw [List.length_take]; omega), List.length_take, Nat.min_eq_left h]
    by_cases h2 : j = i
    · rw [if_pos h2, h2, Nat.sub_self]; rfl
    · rw [if_neg h2]
      obtain ⟨q, hq⟩ : ∃ q, j - i = q + 1 := ⟨j - i - 1, by omega⟩
      rw [hq, List.getElem?_cons_succ, List.getElem?_drop]
      congr 1; omega
section
variable {s : Hp} {K : Hp → Prop}
/-- The cells behind are moved by one, and one is put before them. -/
theorem ins_row {a : Addr} {os : List Int} {i : Nat} {m : Int} (hi : i ≤ os.length) (h1 : ∀ j, j < i → ∃ v, os[j]? = some v ∧ cellAt s (a.add j) = some (.int .i64 v)) (h2 : cellAt s (a.add i) = some (.int .i64 m)) (h3 : ∀ j, j < os.length - i → ∃ v, os[i + j]? = some v ∧ cellAt s (a.add (i + 1 + j)) = some (.int .i64 v)) : RowAt s (some a) (ints (insL os i m)) := fun j hj => by
  rw [ints_len, insL_len hi] at hj
  refine ⟨a, rfl, ?_⟩
  rw [Nat.mul_one]
  have hj' : j < (insL os i m).length := by rw [insL_len hi]; exact hj
  have hg : ∀ v, (insL os i m)[j]? = some v → (ints (insL os i m))[j]'(by rw [ints_len]; exact hj') = .int .i64 v := fun v hv => by
    rw [ints_get]
    congr 1
    exact (List.getElem?_eq_some_iff.1 hv).2
  have hat := insL_at (m := m) hi j
  by_cases q1 : j < i
  · obtain ⟨v, hv, hc⟩ := h1 j q1
    rw [if_pos q1, hv] at hat
    rw [hg v hat]; exact hc
  · rw [if_neg q1] at hat
    by_cases q2 : j = i
    · rw [if_pos q2] at hat
      rw [hg m hat, q2]; exact h2
    · rw [if_neg q2] at hat
      obtain ⟨v, hv, hc⟩ := h3 (j - 1 - i) (by omega)
      rw [show i + (j - 1 - i) = j - 1 by omega] at hv
      rw [show i + 1 + (j - 1 - i) = j by omega] at hc
      rw [hv] at hat
      rw [hg v hat]; exact hc
theorem COPY_rule {x : Addr} {y : Option Addr} {l m n : Nat} {vs : List Value} {K : Int → Hp → Prop} (hn : min m l = n) (hy : RowAt s y vs) (hv : vs.length = n) (h1 : ∀ v ∈ vs, oneCell v = true) (ho : ∀ i, i < n → ∃ v, Own s (x.add i) v)
    (h : ∀ s', Kp (· = x.block) s s' → s'.size = s.size → (∀ i (h : i < vs.length), Own s' (x.add i) vs[i]) → (∀ b y, (b.off < x.off ∨ x.off + n ≤ b.off) → Own s b y → Own s' b y) → K (n : Nat) s') : COPY 1 (some x) l y m K s := by
  refine ⟨vs, by rw [hn, Nat.mul_one, ← hv]; exact hy.cells, ?_⟩
  show wrN vs x 0 (K (min m l : Nat)) s
  rw [hn]
  refine wrN_rule vs x 0 _ s (fun i hi => ?_) h1 fun s1 k1 z1 o1 u1 => ?_
  · rw [Nat.zero_add]; exact ho i (by omega)
  · refine h s1 k1 z1 (fun i hi => ?_) (fun b y hb hy => u1 b y (by omega) hy)
    have := o1 i hi
    rwa [Nat.zero_add] at this
end
end Go.Proofs.Ytfaeokcbfnlgbaa.G

/- Prize: somebody is put into a row. -/
set_option linter.unusedSimpArgs false
set_option linter.unusedVariables false
set_option maxRecDepth 20000
namespace Go.Proofs.Ytfaeokcbfnlgbaa.G
open Go.V
section
variable {W : World} {K : VK} {E : List PanicEntry → Hp → Prop} {s : Hp}
theorem c_Insert {lo l c i : Nat} {x : Option Addr} {os : List Int} {m : Int} {B : Nat} {t : TypeId} (hf : Fr lo s x l c 1 (ints os)) (hlo : lo ≤ s.size) (hi : i ≤ l) (h8 : l ≤ 1000) (hvb : s[B]? = some (.cells #[.int .i64 m] t (0, 0))) (hxB : ∀ a, x = some a → 0 < l → a.block ≠ B)
    (h : ∀ s' x' c', Kp (fun b => lo ≤ b) s s' → (∀ a, x' = some a → lo ≤ a.block) → RowAt s' x' (ints (insL os i m)) → K (.slice x' (l + 1) c') s') :
    CALL Pg W F_slices_Insert_int_int [.slice x l c, .int .i64 (i : Nat), .slice (some ⟨B, 0, none⟩) 1 1] K E s := by
  refine does_slices_Insert_int_int W x l c i (some ⟨B, 0, none⟩) 1 1 _ s ?_
  unfold T_slices_Insert_int_int
  have hol : os.length = l := by have := hf.len; rw [ints_len] at this; omega
  have hcap : l ≤ c := by have := hf.buf.le; rw [ints_len] at this; omega
  have cv : ∀ {s' : Hp}, s'[B]? = s[B]? → cellAt s' ⟨B, 0, none⟩ = some (.int .i64 m) := fun {s'} e => by
    unfold cellAt; rw [e, hvb]; rfl
  have rv : ∀ {s' : Hp}, s'[B]? = s[B]? → RowAt s' (some ⟨B, 0, none⟩) [.int .i64 m] := fun {s'} e j hj => by
    have hj0 : j = 0 := by simp at hj; omega
    subst hj0
    exact ⟨_, rfl, cv e⟩
  have hBlt : B < s.size := (Array.getElem?_eq_some_iff.1 hvb).1
  have hw : IntKind.i64.wrap ((l : Int) + ((1 : Nat) : Int)) = ((l + 1 : Nat) : Int) := by rw [wrap_i64 (by omega) (by omega)]; rfl
  have hwi : IntKind.i64.wrap ((i : Int) + ((1 : Nat) : Int)) = ((i + 1 : Nat) : Int) := by rw [wrap_i64 (by omega) (by omega)]; rfl
  refine ⟨⟨by omega, by omega, by omega⟩, ?_⟩
  refine BR_ff rfl ?_
  refine BR_eq (fun h1 => ?_) (fun h1 => ?_)
  · have hil : i = l := by omega
    refine APP_fr (lo := lo) hf hlo (ws := [.int .i64 m]) (rv rfl) rfl zc_3 rfl (by omega) (by simp [oneCell]) (by omega) fun s2 x2 c2 k2 hx2 g2 => ?_
    refine h s2 x2 c2 (k2.mono fun b hb => by obtain ⟨y, hy, rfl⟩ := hb; exact hf.fr y hy) g2.fr ?_
    have e : ints (insL os i m) = ints os ++ [.int .i64 m] := by
      unfold insL
      rw [hil, ← hol, List.take_length, List.drop_length, ints_app]; rfl
    rw [e]; exact g2.row
  have hil : i < l := by omega
  obtain ⟨a, ha, _⟩ := hf.row 0 (by rw [ints_len]; omega)
  subst ha
  have own : ∀ j, j < c → ∃ y, Own s (a.add j) y ∧ ∀ h : j < os.length, y = .int .i64 os[j] := fun j hj => by
    obtain ⟨a', h1, y, h2, h3⟩ := hf.buf.own j (by omega)
    cases h1
    refine ⟨y, h2, fun hh => ?_⟩
    rw [h3 (by rw [ints_len]; exact hh), ints_get]
  have hla := hf.fr a rfl
  have haB := hxB a rfl (by omega)
  have e0 : (if c = ((0 : Int)).toNat then some a else (some a).map (·.add ((0 : Int).toNat * 1))) = some (a.add 0) := by
    have : ¬ c = ((0 : Int)).toNat := by show ¬ c = 0; omega
    rw [if_neg this]; rfl
  rw [hw]
  refine BR_dec (fun h2 => ?_) (fun h2 => ?_)
  · have hgt : c < l + 1 := by omega
    obtain ⟨d3, v3, hi3, hs3, hb3, hv3, hvc3⟩ := inf_3
    refine ⟨⟨by omega, by omega, by omega⟩, ?_⟩
    rw [e0, hwi]
    have hw2 : IntKind.i64.wrap (((l + 1 : Nat) : Int) - ((i : Nat) : Int)) = ((l + 1 - i : Nat) : Int) := by rw [wrap_i64 (by omega) (by omega)]; omega
    rw [hw2, toNat_nat]
    have ho : ∀ j, j < l → ∃ v, os[j]? = some v ∧ cellAt s (a.add j) = some (.int .i64 v) := fun j hj => by
      obtain ⟨y, hy, hyv⟩ := own j (by omega)
      have hj' : j < os.length := by omega
      rw [hyv hj'] at hy
      exact ⟨os[j], List.getElem?_eq_getElem hj', hy.cell⟩
    have hrow : RowAt s (some (a.add (i * 1))) (ints (os.drop i)) := fun j hj => by
      rw [ints_len, List.length_drop] at hj
      obtain ⟨v, hv, hc⟩ := ho (i + j) (by omega)
      refine ⟨_, rfl, ?_⟩
      rw [ints_get, Nat.mul_one, Nat.mul_one, addr_add, hc, List.getElem_drop]
      rw [List.getElem?_eq_getElem (by omega)] at hv
      rw [Option.some.inj hv]
    have hpre : RowAt s (some (a.add 0)) (ints (os.take i)) := fun j hj => by
      rw [ints_len, List.length_take] at hj
      obtain ⟨v, hv, hc⟩ := ho j (by omega)
      refine ⟨_, rfl, ?_⟩
      rw [ints_get, Nat.mul_one, add_0, hc, List.getElem_take]
      rw [List.getElem?_eq_getElem (by omega)] at hv
      rw [Option.some.inj hv]
    have hpl : (ints (os.take i)).length = i := by rw [ints_len, List.length_take]; omega
    refine APPZ_gen (l := i) (m := l + 1 - i) und_26 und_3 hi3 hv3 (by rw [zc_3, hvc3]) hs3 hb3.2 hb3.1 (by omega) (by show c - 0 < _; omega) (by omega) (by have := hpre.cells; rw [hpl] at this; exact this) fun c' hc1 hc2 => ?_
    rw [zc_3]
    generalize hcs : (ints (os.take i) ++ repL (l + 1 - i) [Value.int .i64 0] ++ repL (c' - (i + (l + 1 - i))) [Value.int .i64 0]) = cs
    have hcl : cs.length = c' := by rw [← hcs, List.length_append, List.length_append, hpl, repL_length, repL_length]; omega
    have hcj : ∀ j, j < i → cs[j]? = some (.int .i64 (os.getD j 0)) := fun j hj => by
      have hj' : j < os.length := by omega
      rw [← hcs, List.append_assoc, List.getElem?_append_left (by omega), List.getElem?_eq_getElem (by omega), ints_get, List.getElem_take, getD_lt hj']
    have e1 : Ext s (s.push (.cells cs.toArray 3 (0, 0))) := Ext.push (Ext.refl s)
    have n1 : ∀ j, j < c' → ∃ y, Own (s.push (.cells cs.toArray 3 (0, 0))) ⟨s.size, j, none⟩ y ∧ (j < i → y = .int .i64 (os.getD j 0)) := fun j hj => by
      refine ⟨cs[j]'(by omega), own_new (List.getElem?_eq_getElem (by omega)), fun hji => ?_⟩
      have := hcj j hji
      rw [List.getElem?_eq_getElem (by omega)] at this
      exact Option.some.inj this
    generalize s.push (.cells cs.toArray 3 (0, 0)) = s1 at *
    have hil1 : i + (l + 1 - i) = l + 1 := by omega
    rw [hil1] at hc1 ⊢
    have hni : ¬ c' = ((i : Nat) : Int).toNat := by rw [toNat_nat]; omega
    have hni1 : ¬ c' = ((i + 1 : Nat) : Int).toNat := by rw [toNat_nat]; omega
    have hnc : ¬ c = ((i : Nat) : Int).toNat := by rw [toNat_nat]; omega
    refine ⟨⟨by omega, by omega, by omega⟩, ?_⟩
    rw [if_neg hni, toNat_nat, toNat_nat]
    show COPY 1 (some ((⟨s.size, 0, none⟩ : Addr).add (i * 1))) _ _ 1 _ s1
    rw [Nat.mul_one, add_nil, Nat.zero_add]
    have hB1 : s1[B]? = s[B]? := e1.2 B hBlt
    refine COPY_rule (n := 1) (by omega) (rv hB1) rfl (by simp [oneCell]) (fun j hj => ?_) fun s2 k2 z2 o2 u2 => ?_
    · have hj0 : j = 0 := by omega
      subst hj0
      obtain ⟨y, hy, _⟩ := n1 i (by omega)
      exact ⟨y, hy⟩
    have k2' : Kp (· = s.size) s1 s2 := k2
    have e2 : Ext s s2 := ext_kp e1 (Nat.le_refl _) k2'
    have fin : (COPY 1 (some ⟨s.size, i + 1, none⟩) (l + 1 - (i + 1)) (some (a.add (i * 1))) (l - i) fun n52 => K (.slice (some ⟨s.size, 0, none⟩) (l + 1) c')) s2 := by
      refine COPY_rule (n := l - i) (by omega) (hrow.ext e2) (by rw [ints_len, List.length_drop]; omega) (ints_one _) (fun j hj => ?_) fun s3 k3 z3 o3 u3 => ?_
      · obtain ⟨y, hy, _⟩ := n1 (i + 1 + j) (by omega)
        rw [add_nil]
        exact ⟨y, u2 _ y (.inr (by show i + 1 ≤ i + 1 + j; omega)) hy⟩
      · have e3 : Ext s s3 := ext_kp e2 (Nat.le_refl _) (k3 : Kp (· = s.size) s2 s3)
        refine h s3 _ _ e3.kp (fun a' h' => by cases h'; exact hlo) ?_
        refine ins_row (by omega) (fun j hj => ?_) ?_ (fun j hj => ?_)
        · obtain ⟨y, hy, hyv⟩ := n1 j (by omega)
          have hj' : j < os.length := by omega
          rw [hyv hj, getD_lt hj'] at hy
          refine ⟨os[j], List.getElem?_eq_getElem hj', ?_⟩
          rw [add_nil, Nat.zero_add]
          exact (u3 _ _ (.inl (by show j < i + 1; omega)) (u2 _ _ (.inl (by show j < i; omega)) hy)).cell
        · have := o2 0 (by simp)
          rw [add_nil, Nat.add_zero] at this
          rw [add_nil, Nat.zero_add]
          exact (u3 _ _ (.inl (by show i < i + 1; omega)) this).cell
        · have hj2 : j < (ints (os.drop i)).length := by rw [ints_len, List.length_drop]; omega
          have := o3 j hj2
          rw [add_nil, ints_get, List.getElem_drop] at this
          refine ⟨os[i + j]'(by omega), List.getElem?_eq_getElem _, ?_⟩
          rw [add_nil, Nat.zero_add]
          exact this.cell
    have e4 : ((some (⟨s.size, 0, none⟩ : Addr)).map (·.add ((i + 1) * 1))) = some ⟨s.size, i + 1, none⟩ := by
      show some ((⟨s.size, 0, none⟩ : Addr).add ((i + 1) * 1)) = _
      rw [Nat.mul_one, add_nil, Nat.zero_add]
    refine CONJ_two ?_ ?_
    · refine ⟨⟨by omega, by omega, by omega⟩, ?_⟩
      refine ⟨⟨by omega, by omega, by omega⟩, ?_⟩
      rw [if_neg hni1, if_neg hnc, toNat_nat, toNat_nat, toNat_nat, toNat_nat, e4]
      exact fin
    · refine ⟨⟨by omega, by omega, by omega⟩, ?_⟩
      refine ⟨⟨by omega, by omega, by omega⟩, ?_⟩
      rw [if_neg hni1, if_neg hnc, toNat_nat, toNat_nat, toNat_nat, toNat_nat, e4]
      exact fin
  · -- in place
    have hfit : l + 1 ≤ c := by omega
    refine ⟨⟨by omega, by omega, by omega⟩, ?_⟩
    rw [e0, hwi]
    refine ⟨⟨by omega, by omega, by omega⟩, ?_⟩
    have hc0 : c - ((0 : Int)).toNat = c := rfl
    have hl0 : ((l + 1 : Nat) : Int).toNat - ((0 : Int)).toNat = l + 1 := rfl
    rw [hc0, hl0]
    have hne1 : ¬ c = ((i + 1 : Nat) : Int).toNat := by rw [toNat_nat]; omega
    have hnei : ¬ c = ((i : Nat) : Int).toNat := by rw [toNat_nat]; omega
    rw [if_neg hne1]
    obtain ⟨y0, hy0, _⟩ := own 0 (by omega)
    obtain ⟨cc, tt, ff, hblk⟩ := block_of_cell hy0.cell
    have hblk' : s[a.block]? = some (.cells cc tt ff) := by rw [add_blk] at hblk; exact hblk
    refine c_overlaps (tA := t) (kA := 1) (tB := tt) (kB := cc.size) (by show B ≠ ((a.add 0).add _).block; rw [add_blk, add_blk]; exact fun e => haB e.symm) (by unfold shapeAt; rw [hvb]; rfl) (by show shapeAt s ((a.add 0).add _).block = _; rw [add_blk, add_blk]; unfold shapeAt; rw [hblk']) (fun hz => ?_) (by unfold frozenAt; rw [hvb]; rfl) (by unfold frozenAt; rw [hvb]; rfl) ?_
    · have hcell := hy0.cell
      unfold cellAt at hcell
      rw [hblk] at hcell
      simp only at hcell
      split at hcell
      · cases hcell
      · have := (Array.getElem?_eq_some_iff.1 hcell).1; omega
    try simp only [TUP_mk, AGG_mk, HD_mk, NL_mk, TYI_mk, TYB_mk, TYP_mk, TYL_mk, TYS_mk, TYM_mk, SO_mk, NX_mk, endK_mk, endK_mk', add_0]
    refine BR_tt rfl ?_
    have ho : ∀ j, j < l → ∃ v, os[j]? = some v ∧ cellAt s (a.add j) = some (.int .i64 v) := fun j hj => by
      obtain ⟨y, hy, hyv⟩ := own j (by omega)
      have hj' : j < os.length := by omega
      rw [hyv hj'] at hy
      exact ⟨os[j], List.getElem?_eq_getElem hj', hy.cell⟩
    have hrow : RowAt s (some ((a.add 0).add (i * 1))) (ints (os.drop i)) := fun j hj => by
      rw [ints_len, List.length_drop] at hj
      obtain ⟨v, hv, hc⟩ := ho (i + j) (by omega)
      refine ⟨_, rfl, ?_⟩
      rw [ints_get, Nat.mul_one, Nat.mul_one, add_0, addr_add, hc, List.getElem_drop]
      rw [List.getElem?_eq_getElem (by omega)] at hv
      rw [Option.some.inj hv]
    have fin : (COPY 1 (some ((a.add 0).add ((i + 1) * 1))) (l + 1 - (i + 1)) (some ((a.add 0).add (i * 1))) (l + 1 - i) fun n52 =>
              SLS (some (a.add 0)) c (i : Nat) ((l + 1 : Nat) : Int) 1 fun x53 l54 c55 =>
               COPY 1 x53 l54 (some ⟨B, 0, none⟩) 1 fun n56 =>
                K (.slice (some (a.add 0)) (l + 1) c)) s := by
      refine COPY_rule (n := l - i) (by omega) hrow (by rw [ints_len, List.length_drop]; omega) (ints_one _) (fun j hj => ?_) fun s1 k1 z1 o1 u1 => ?_
      · rw [add_0, addr_add]
        obtain ⟨y, hy, _⟩ := own ((i + 1) * 1 + j) (by omega)
        exact ⟨y, hy⟩
      · have kb1 : Kp (· = a.block) s s1 := k1.mono fun b hb => by rw [add_blk, add_blk] at hb; exact hb
        refine ⟨⟨by omega, by omega, by omega⟩, ?_⟩
        rw [if_neg hnei, toNat_nat, toNat_nat]
        show COPY 1 (some ((a.add 0).add (i * 1))) _ _ 1 _ s1
        refine COPY_rule (n := 1) (by omega) (rv (kb1.2 B hBlt (fun e => haB e.symm))) rfl (by simp [oneCell]) (fun j hj => ?_) fun s2 k2 z2 o2 u2 => ?_
        · have hj0 : j = 0 := by omega
          subst hj0
          rw [add_0, add_0, Nat.mul_one]
          obtain ⟨y, hy, _⟩ := own i (by omega)
          exact ⟨y, u1 _ y (by rw [add_of, add_of, add_of]; omega) hy⟩
        · have kb2 : Kp (· = a.block) s s2 := kb1.trans (k2.mono fun b hb => by rw [add_blk, add_blk] at hb; exact hb)
          refine h s2 _ _ (kb2.mono fun b hb => by have hb' : b = a.block := hb; omega) (fun a' h' => by cases h'; rw [add_blk]; exact hla) ?_
          rw [add_0]
          refine ins_row (by omega) (fun j hj => ?_) ?_ (fun j hj => ?_)
          · obtain ⟨y, hy, hyv⟩ := own j (by omega)
            have hj' : j < os.length := by omega
            rw [hyv hj'] at hy
            refine ⟨os[j], List.getElem?_eq_getElem hj', ?_⟩
            exact (u2 _ _ (by rw [add_of, add_of, add_of]; omega) (u1 _ _ (by rw [add_of, add_of, add_of]; omega) hy)).cell
          · have := o2 0 (by simp)
            rw [add_0, add_0, Nat.mul_one] at this
            exact this.cell
          · have hj2 : j < (ints (os.drop i)).length := by rw [ints_len, List.length_drop]; omega
            have := o1 j hj2
            rw [add_0, Nat.mul_one, addr_add, ints_get, List.getElem_drop] at this
            refine ⟨os[i + j]'(by omega), List.getElem?_eq_getElem _, ?_⟩
            exact (u2 _ _ (by rw [add_of, add_of, add_of]; omega) this).cell
    refine CONJ_two ?_ ?_
    · refine ⟨⟨by omega, by omega, by omega⟩, ?_⟩
      refine ⟨⟨by omega, by omega, by omega⟩, ?_⟩
      rw [if_neg hne1, if_neg hnei]
      exact fin
    · refine ⟨⟨by omega, by omega, by omega⟩, ?_⟩
      refine ⟨⟨by omega, by omega, by omega⟩, ?_⟩
      rw [if_neg hne1, if_neg hnei]
      exact fin
end
end Go.Proofs.Ytfaeokcbfnlgbaa.G

/- Prize: plain: somebody at another place. -/
set_option linter.unusedSimpArgs false
set_option linter.unusedVariables false
set_option maxRecDepth 20000
namespace Go.Proofs.Ytfaeokcbfnlgbaa.G
open Go.V
def movN (old pl n : Int) : Int := if n > old ∧ n ≤ pl then n - 1 else if n < old ∧ n ≥ pl then n + 1 else n
def newP (T : PT) (m : Nat) (pl : Int) (i : Nat) : Int := if i = m then pl else movN (T.man m).place pl (T.man i).place
/-- Prizes with somebody at another place. -/
def movedP (T : PT) (m : Nat) (pl : Int) : PT := ⟨(List.range T.n).map fun i => { T.man i with place := newP T m pl i }, T.list⟩
theorem moved_n (T : PT) (m : Nat) (pl : Int) : (movedP T m pl).n = T.n := by simp [movedP, PT.n]
theorem moved_man {T : PT} {m i : Nat} {pl : Int} (h : i < T.n) : (movedP T m pl).man i = { T.man i with place := newP T m pl i } := by
  unfold PT.man movedP
  rw [getD_lt (by simpa using h), List.getElem_map, List.getElem_range]
  rfl
theorem newP_rng {T : PT} (hv : VdP T) {m i : Nat} {pl : Int} (hm : m < T.n) (hi : i < T.n) (h1 : 1 ≤ pl) (h2 : pl ≤ T.n) : 1 ≤ newP T m pl i ∧ newP T m pl i ≤ T.n := by
  have g1 := hv.pl m hm
  have g2 := hv.pl i hi
  unfold newP movN
  split
  · exact ⟨h1, h2⟩
  · split
    · omega
    · split <;> omega
theorem newP_inj {T : PT} (hv : VdP T) {m i j : Nat} {pl : Int} (hm : m < T.n) (hi : i < T.n) (hj : j < T.n) (h : newP T m pl i = newP T m pl j) : i = j := by
  have e1 := hv.inj i m hi hm
  have e2 := hv.inj j m hj hm
  have e3 := hv.inj i j hi hj
  unfold newP movN at h
  by_cases a1 : i = m
  · by_cases a2 : j = m
    · omega
    · rw [if_pos a1, if_neg a2] at h
      have : ¬ (T.man j).place = (T.man m).place := fun e => a2 (e2 e)
      split at h
      · omega
      · split at h <;> omega
  · by_cases a2 : j = m
    · rw [if_neg a1, if_pos a2] at h
      have : ¬ (T.man i).place = (T.man m).place := fun e => a1 (e1 e)
      split at h
      · omega
      · split at h <;> omega
    · rw [if_neg a1, if_neg a2] at h
      have b1 : ¬ (T.man j).place = (T.man m).place := fun e => a2 (e2 e)
      have b2 : ¬ (T.man i).place = (T.man m).place := fun e => a1 (e1 e)
      apply e3
      split at h <;> split at h <;> (try split at h) <;> (try split at h) <;> omega
theorem ok_moved {T : PT} (hok : okP T = true) {m : Nat} {pl : Int} (hm : m < T.n) (h1 : 1 ≤ pl) (h2 : pl ≤ T.n) : okP (movedP T m pl) = true := by
  have hv := okP_vd hok
  obtain ⟨g1, g2, _, g4⟩ := okP_iff.1 hok
  rw [okP_iff, moved_n]
  refine ⟨g1, g2, ?_, g4⟩
  rw [okMs_iff]
  refine ⟨fun w hw => ?_, ?_, fun _ _ x hx => by cases hx⟩
  · obtain ⟨i, hi, rfl⟩ := List.mem_map.1 hw
    have hi := List.mem_range.1 hi
    exact ⟨newP_rng hv hm hi h1 h2, hv.cl i hi⟩
  · unfold movedP
    rw [List.pairwise_map]
    refine (List.nodup_range (n := T.n)).imp_of_mem fun {a b} ha hb hab => ?_
    exact fun e => hab (newP_inj hv hm (List.mem_range.1 ha) (List.mem_range.1 hb) e)
end Go.Proofs.Ytfaeokcbfnlgbaa.G

/- Prize: plain: the order with somebody at another place. -/
set_option linter.unusedSimpArgs false
set_option linter.unusedVariables false
set_option maxRecDepth 20000
namespace Go.Proofs.Ytfaeokcbfnlgbaa.G
open Go.V
theorem ord_at {T : PT} {k : Nat} (h : k < (ordP T).length) : (ordP T)[k] = idx T ((k + 1 : Nat) : Int) := by
  have h1 := ord_get (T := T) (k := k) (by rw [← ord_len T]; exact h)
  rw [List.getElem?_eq_getElem h] at h1
  exact Option.some.inj h1
theorem ord_nd {T : PT} (hv : VdP T) : (ordP T).Nodup := by
  unfold ordP
  refine List.pairwise_map.2 ((List.nodup_range (n := T.n)).imp_of_mem fun {a b} ha hb hab e => hab ?_)
  have ha := List.mem_range.1 ha
  have hb := List.mem_range.1 hb
  have h1 := (hv.sur ((a + 1 : Nat) : Int) (by omega) (by omega)).2
  have h2 := (hv.sur ((b + 1 : Nat) : Int) (by omega) (by omega)).2
  rw [e, h2] at h1
  omega
def othL (T : PT) (m : Nat) : List Nat := ordF T fun k => !decide (k = m)
theorem oth_eq {T : PT} (hv : VdP T) {m : Nat} (hm : m < T.n) : othL T m = (ordP T).eraseIdx ((T.man m).place - 1).toNat := by
  have hp := hv.pl m hm
  have hl : ((T.man m).place - 1).toNat < (ordP T).length := by rw [ord_len]; omega
  have hat : (ordP T)[((T.man m).place - 1).toNat] = m := by
    rw [ord_at hl]
    have e : ((((T.man m).place - 1).toNat + 1 : Nat) : Int) = (T.man m).place := by omega
    rw [e]
    obtain ⟨g1, g2⟩ := hv.sur _ hp.1 hp.2
    exact hv.inj _ _ g1 hm g2
  have h1 : othL T m = (ordP T).erase m := by
    rw [(ord_nd hv).erase_eq_filter]
    unfold othL ordF
    congr 1
  rw [h1, List.erase_eq_eraseIdx_of_idxOf]
  conv => lhs; rw [← hat]
  exact (ord_nd hv).idxOf_getElem _ hl
theorem oth_len {T : PT} (hv : VdP T) {m : Nat} (hm : m < T.n) : (othL T m).length = T.n - 1 := by
  have hp := hv.pl m hm
  rw [oth_eq hv hm, List.length_eraseIdx_of_lt (by rw [ord_len]; omega), ord_len]
theorem oth_get {T : PT} (hv : VdP T) {m q : Nat} (hm : m < T.n) (hq : q < T.n - 1) : (othL T m)[q]? = some (idx T (if ((q + 1 : Nat) : Int) < (T.man m).place then ((q + 1 : Nat) : Int) else ((q + 2 : Nat) : Int))) := by
  have hp := hv.pl m hm
  rw [oth_eq hv hm, List.getElem?_eraseIdx]
  by_cases h : ((q + 1 : Nat) : Int) < (T.man m).place
  · rw [if_pos h, if_pos (by omega), ord_get (by omega)]
  · rw [if_neg h, if_neg (by omega), ord_get (by omega)]
/-- The new order: who is at each new place. -/
theorem new_order {T : PT} (hv : VdP T) {m j : Nat} {pl : Nat} (hm : m < T.n) (h1 : 1 ≤ pl) (h2 : pl ≤ T.n) (hj : j < T.n) : ∃ i, i < T.n ∧ (insL (nats (othL T m)) (pl - 1) (m : Int))[j]? = some (i : Int) ∧ newP T m pl i = ((j + 1 : Nat) : Int) := by
  have hlen := oth_len hv hm
  have hnl : (nats (othL T m)).length = T.n - 1 := by unfold nats; rw [List.length_map]; exact hlen
  have hp := hv.pl m hm
  have key : ∀ q : Nat, q < T.n - 1 → ∃ i, i < T.n ∧ (nats (othL T m))[q]? = some (i : Int) ∧ i ≠ m ∧ (T.man i).place = (if ((q + 1 : Nat) : Int) < (T.man m).place then ((q + 1 : Nat) : Int) else ((q + 2 : Nat) : Int)) := by
    intro q hq
    have hg := oth_get hv hm hq
    generalize hk : (if ((q + 1 : Nat) : Int) < (T.man m).place then ((q + 1 : Nat) : Int) else ((q + 2 : Nat) : Int)) = k at *
    have hkr : 1 ≤ k ∧ k ≤ T.n ∧ k ≠ (T.man m).place := by rw [← hk]; split <;> omega
    obtain ⟨g1, g2⟩ := hv.sur k hkr.1 hkr.2.1
    refine ⟨idx T k, g1, ?_, fun e => hkr.2.2 (by rw [← g2, e]), g2⟩
    unfold nats
    rw [List.getElem?_map, hg]; rfl
  rw [insL_at (by omega)]
  by_cases q1 : j < pl - 1
  · obtain ⟨i, g1, g2, g3, g4⟩ := key j (by omega)
    refine ⟨i, g1, by rw [if_pos q1]; exact g2, ?_⟩
    unfold newP movN
    rw [if_neg g3, g4]
    split <;> (try split) <;> (try split) <;> omega
  · by_cases q2 : j = pl - 1
    · refine ⟨m, hm, by rw [if_neg q1, if_pos q2], ?_⟩
      unfold newP
      rw [if_pos rfl]; omega
    · obtain ⟨i, g1, g2, g3, g4⟩ := key (j - 1) (by omega)
      refine ⟨i, g1, by rw [if_neg q1, if_neg q2]; exact g2, ?_⟩
      unfold newP movN
      rw [if_neg g3, g4]
      split <;> (try split) <;> (try split) <;> omega
end Go.Proofs.Ytfaeokcbfnlgbaa.G

/- Prize: For. -/
set_option linter.unusedSimpArgs false
set_option linter.unusedVariables false
set_option maxRecDepth 20000
namespace Go.Proofs.Ytfaeokcbfnlgbaa.G
open Go.V
def getsP (T : PT) (m pl : Nat) : Bool := decide ((m : Int) ∈ manL (dueP (movedP T m (pl : Int))))
def forL (T : PT) (m : Nat) : Nat → Int × Int
  | 0 => (0, 4)
  | k + 1 => if getsP T m (k + 1) then (((k + 1 : Nat) : Int), 0) else forL T m k
def forR (T : PT) (m : Int) : Int × Int := if okP T then (if isM T m then forL T m.toNat T.n else (0, 2)) else (0, 1)
def partL (T : PT) (m : Nat) (pl : Int) (k : Nat) : List Mn := (List.range T.n).map fun i => if newP T m pl i ≤ k then { T.man i with place := newP T m pl i } else T.man i
theorem partL_len (T : PT) (m : Nat) (pl : Int) (k : Nat) : (partL T m pl k).length = T.n := by simp [partL]
theorem partL_get (T : PT) (m : Nat) (pl : Int) (k i : Nat) (h : i < (partL T m pl k).length) : (partL T m pl k)[i] = if newP T m pl i ≤ k then { T.man i with place := newP T m pl i } else T.man i := by simp [partL]
theorem partL_0 {T : PT} (hv : VdP T) {m : Nat} {pl : Int} (hm : m < T.n) (h1 : 1 ≤ pl) (h2 : pl ≤ T.n) : partL T m pl 0 = T.men := by
  refine List.ext_getElem (partL_len T m pl 0) fun i g1 g2 => ?_
  have hr := newP_rng hv hm (i := i) g2 h1 h2
  rw [partL_get, if_neg (by omega)]
  exact getD_lt g2
theorem partL_n {T : PT} (hv : VdP T) {m : Nat} {pl : Int} (hm : m < T.n) (h1 : 1 ≤ pl) (h2 : pl ≤ T.n) : partL T m pl T.n = (movedP T m pl).men := by
  unfold partL movedP
  refine List.map_congr_left fun i hi => ?_
  rw [if_pos (newP_rng hv hm (List.mem_range.1 hi) h1 h2).2]
theorem partL_succ {T : PT} (hv : VdP T) {m i k : Nat} {pl : Int} (hm : m < T.n) (hi : i < T.n) (he : newP T m pl i = ((k + 1 : Nat) : Int)) (hl : i < (partL T m pl k).length) : partL T m pl (k + 1) = (partL T m pl k).set i { (partL T m pl k)[i] with place := ((k + 1 : Nat) : Int) } := by
  refine List.ext_getElem (by rw [List.length_set, partL_len, partL_len]) fun j g1 g2 => ?_
  have hj : j < T.n := by rw [partL_len] at g1; exact g1
  rw [List.getElem_set]
  by_cases e : i = j
  · subst e
    rw [if_pos rfl]
    rw [partL_get, partL_get, he, if_pos (Int.le_refl _), if_neg (by omega)]
  · rw [if_neg e]
    have hne : newP T m pl j ≠ ((k + 1 : Nat) : Int) := fun h => e (newP_inj hv hm hi hj (he.trans h.symm))
    rw [partL_get, partL_get]
    by_cases q : newP T m pl j ≤ k
    · rw [if_pos (by omega), if_pos q]
    · rw [if_neg (by omega), if_neg q]
theorem NEW_mk {t : TypeId} {cs : List Value} {K : Nat → Hp → Prop} {s : Hp} (h : K s.size (s.push (.cells cs.toArray t (0, 0)))) : NEW t cs K s := h
section
variable {W : World} {K : VK} {E : List PanicEntry → Hp → Prop} {s : Hp} {T : PT}
theorem isOther {b : Addr} {m n : Nat} : IsFn W (.func (.func 72) #[] #[.pointer (some b)]) n (fun s => cellAt s b = some (.int .i64 (m : Nat))) (fun k => !decide (k = m)) where
  one := rfl
  blind := fun s l o hl ho h => cell_blind hl h
  ext := fun s s' h e => e.cell h
  call := fun s k hk hR K E h => by
    refine CALLV_func ?_
    refine does_prize_For_c1 W k b _ s ?_
    unfold T_prize_For_c1
    refine ⟨_, hR, ?_⟩
    have := h s (Ext.refl s)
    have e : ((k : Int) != (m : Int)) = !decide (k = m) := by
      by_cases hkm : k = m
      · subst hkm; simp
      · have : ((k : Nat) : Int) ≠ (m : Int) := by omega
        simp [hkm, this]
    show K (.bool ((k : Int) != (m : Int))) s
    rw [e]
    exact this
theorem c_For {x y : Option Addr} {c c' : Nat} {m : Int} (hx : MnAt s x T.men) (hy : PzAt s y T.list) (h : ∀ s', Ext s s' → K (.tuple #[.int .i64 (forR T m).1, .int .i64 (forR T m).2]) s') :
    CALL Pg W F_prize_For [.agg #[.slice x T.n c, .slice y T.z c'], .int .i64 m] K E s := by
  refine does_prize_For W x T.n c y T.z c' m _ s ?_
  unfold T_prize_For
  refine ne2 fun s1 e1 z1 o1 o2 => ?_
  refine ne1 fun s2 e2 z2 om => ?_
  refine nz1 zc_29 fun s3 e3 z3 o3 => ?_
  have e23 := e2.trans e3
  have e03 := e1.trans e23
  refine ⟨_, _, _, e23.cell o1.cell, _, _, _, e23.cell o2.cell, ?_⟩
  have hs1 : s.size ≤ s1.size := e1.1
  refine c_open (hx.ext e03) (hy.ext e03) (fun hok s4 p e4 hp => ?_) (fun hok s4 e4 => ?_)
  · try simp only [TUP_mk, AGG_mk, HD_mk, NL_mk, TYI_mk, TYB_mk, TYP_mk, TYL_mk, TYS_mk, TYM_mk, SO_mk, NX_mk, endK_mk, endK_mk', add_0]
    have e04 := e03.trans e4
    have hv := okP_vd hok
    have h8 := hv.n8
    have h6 := hv.z6
    have hn1 := hv.n1
    refine ⟨_, (e3.trans e4).cell om.cell, ?_⟩
    refine c_isMan hp ?_
    try simp only [TUP_mk, AGG_mk, HD_mk, NL_mk, TYI_mk, TYB_mk, TYP_mk, TYL_mk, TYS_mk, TYM_mk, SO_mk, NX_mk, endK_mk, endK_mk', add_0]
    refine c_must (fun hm => ?_) (fun hm => ?_)
    · try simp only [TUP_mk, AGG_mk, HD_mk, NL_mk, TYI_mk, TYB_mk, TYP_mk, TYL_mk, TYS_mk, TYM_mk, SO_mk, NX_mk, endK_mk, endK_mk', add_0]
      have hM : isM T m = true := hm
      have hm' := of_decide_eq_true hm
      obtain ⟨j, rfl⟩ := Int.eq_ofNat_of_zero_le hm'.1
      have hj : j < T.n := by omega
      have hR : forR T (j : Int) = forL T j T.n := by unfold forR; rw [if_pos hok, if_pos hM, toNat_nat]
      rw [hR] at h
      refine c_order (W := W) (p := p) rfl fun s5 a b e5 ha hb ca cb => ?_
      try simp only [TUP_mk, AGG_mk, HD_mk, NL_mk, TYI_mk, TYB_mk, TYP_mk, TYL_mk, TYS_mk, TYM_mk, SO_mk, NX_mk, endK_mk, endK_mk', add_0]
      refine c_Collect (hp.ext e5) (isOther (b := ⟨s1.size, 0, none⟩) (m := j)) ((e3.trans (e4.trans e5)).cell om.cell) ca cb fun s6 xo co e6 f6 => ?_
      try simp only [TUP_mk, AGG_mk, HD_mk, NL_mk, TYI_mk, TYB_mk, TYP_mk, TYL_mk, TYS_mk, TYM_mk, SO_mk, NX_mk, endK_mk, endK_mk', add_0]
      have e36 := e4.trans (e5.trans e6)
      have e26 := e3.trans e36
      have e16 := e2.trans e26
      have e06 := e1.trans e16
      refine ⟨_, _, _, e16.cell o1.cell, ?_⟩
      have hfo : ordF T (fun k => !decide (k = j)) = othL T j := rfl
      rw [hfo] at f6 ⊢
      have hol := oth_len hv hj
      have hnl : (nats (othL T j)).length = T.n - 1 := by unfold nats; rw [List.length_map]; exact hol
      have hno : (nats (othL T j)).length = (othL T j).length := by unfold nats; rw [List.length_map]
      refine L_prize_For_0_rule W _ ⟨s.size, 0, none⟩ ⟨s1.size, 0, none⟩ ⟨s2.size, 0, none⟩ xo _ co (fun n42 n43 t => n42 = 0 ∧ Ext s6 t ∧ ∃ k : Nat, k ≤ T.n ∧ n43 = k ∧ forL T j T.n = forL T j k) (fun _ n43 _ => n43.toNat) 0 T.n s6 ⟨rfl, Ext.refl _, T.n, Nat.le_refl _, rfl, rfl⟩ ?_
      rintro n42 n43 t ⟨rfl, et, k, hk, rfl, hfl⟩
      unfold B_prize_For_0
      have e1t := e16.trans et
      have e2t := e26.trans et
      have e3t := e36.trans et
      have e0t := e1.trans e1t
      refine BR_dec (fun h1 => ?_) (fun h1 => ?_)
      · obtain ⟨q, rfl⟩ : ∃ q, k = q + 1 := ⟨k - 1, by omega⟩
        have hqn : q < T.n := by omega
        refine ⟨_, _, _, e1t.cell o1.cell, _, _, _, e1t.cell o2.cell, ?_⟩
        refine nw2 zc_25 rfl rfl fun t1 f1 y1 q1 q2 => ?_
        refine ⟨_, _, _, (e1t.trans f1).cell o1.cell, ?_⟩
        generalize hnx : (fun vs => N_prize_For_0 _ _ _ _ t vs) = nx
        have hnx' : ∀ u, Ext s6 u → getsP T j (q + 1) = false → nx [.int .i64 0, .int .i64 (q : Nat)] u := fun u eu hg => by
          rw [← hnx]
          refine ⟨_, _, rfl, ⟨rfl, eu, q, by omega, rfl, ?_⟩, by show (q : Int).toNat < ((q + 1 : Nat) : Int).toNat; omega⟩
          rw [hfl]
          show (if getsP T j (q + 1) then _ else _) = _
          rw [hg]; rfl
        refine c_CloneW (l := T.men) (hx.ext (e0t.trans f1)) (by show 0 < T.n; omega) (by show T.n ≤ 1000; omega) fun t2 a2 ac f2 g2 => ?_
        try simp only [TUP_mk, AGG_mk, HD_mk, NL_mk, TYI_mk, TYB_mk, TYP_mk, TYL_mk, TYS_mk, TYM_mk, SO_mk, NX_mk, endK_mk, endK_mk', add_0]
        have q1' := f2.own q1
        have q2' := f2.own q2
        refine WR_own q1' rfl ?_
        have hda : t1.size ≤ a2.block := g2.fr a2 rfl
        have q1w := own_set (v := .slice (some a2) T.men.length ac) q1'
        have q2w : Own (setC t2 ⟨t.size, 0, none⟩ (.slice (some a2) T.men.length ac)) ⟨t.size, 1, none⟩ (.slice y T.z c') := own_set_ne (.inr (by show (1 : Nat) ≠ 0; omega)) q2'
        have ef : Ext t (setC t2 ⟨t.size, 0, none⟩ (.slice (some a2) T.men.length ac)) := Ext.setC (f1.trans f2) (Nat.le_refl _)
        have g2w : Fr t1.size (setC t2 ⟨t.size, 0, none⟩ (.slice (some a2) T.men.length ac)) (some a2) T.men.length ac 4 (mnV T.men) := g2.kp (D := (· = t.size)) (Kp.setC (Kp.refl _) (.inl rfl)) (fun b hb he => by cases hb; have : a2.block = t.size := he; omega)
        generalize hs9 : setC t2 ⟨t.size, 0, none⟩ (.slice (some a2) T.men.length ac) = t3 at *
        have hmn : T.men.length = T.n := rfl
        rw [hmn] at q1w g2w
        have hpos4 : 0 < (mnV T.men).length := by rw [mnV_len, hmn]; omega
        have ha3 : a2.block < t3.size := by
          obtain ⟨a', h', c0⟩ := g2w.row 0 hpos4
          cases h'
          have := cell_lt c0
          rw [add_blk] at this; exact this
        refine ⟨_, (e2t.trans ef).cell om.cell, ?_⟩
        have hw : IntKind.i64.wrap (((q + 1 : Nat) : Int) - 1) = (q : Nat) := by rw [wrap_i64 (by omega) (by omega)]; omega
        rw [hw]
        have fin : ∀ (u : Hp) (xi : Option Addr) (l ci : Nat), l = T.n → Ext t3 u → (∀ a, xi = some a → t3.size ≤ a.block) → RowAt u xi (ints (insL (nats (othL T j)) q j)) →
            J_prize_For_0 W (endK K E) nx ⟨s.size, 0, none⟩ ⟨s1.size, 0, none⟩ 0 ⟨s2.size, 0, none⟩ xo (othL T j).length co ((q + 1 : Nat) : Int) t.size xi l ci (l : Int) 0 u := by
          intro u xi l ci hl eu hxi hrow
          subst hl
          unfold J_prize_For_0
          refine L_prize_For_1_rule W _ nx ⟨s.size, 0, none⟩ ⟨s1.size, 0, none⟩ 0 ⟨s2.size, 0, none⟩ xo _ co _ ⟨t.size, 0, none⟩ xi T.n ci T.n
            (fun n95 v => Ext t v ∧ Own v ⟨t.size, 0, none⟩ (.slice (some a2) T.n ac) ∧ Own v ⟨t.size, 1, none⟩ (.slice y T.z c') ∧ RowAt v xi (ints (insL (nats (othL T j)) q j)) ∧ ∃ k : Nat, k ≤ T.n ∧ n95 = k ∧ Fr t1.size v (some a2) T.n ac 4 (mnV (partL T j ((q + 1 : Nat) : Int) k)))
            (fun n95 _ => ((T.n : Int) - n95).toNat) 0 u ⟨ef.trans eu, eu.own q1w, eu.own q2w, hrow, 0, by omega, rfl, ?_⟩ ?_
          · rw [partL_0 hv hj (by omega) (by omega)]
            exact g2w.ext eu
          rintro n95 v ⟨ev, p1, p2, prow, k, hk, rfl, hfr⟩
          have e0v := e0t.trans ev
          have e1v := e1t.trans ev
          have e2v := e2t.trans ev
          unfold B_prize_For_1
          refine BR_dec (fun h2 => ?_) (fun h2 => ?_)
          · have hkn : k < T.n := by omega
            obtain ⟨i, hi, hget, hnew⟩ := new_order hv hj (pl := q + 1) (by omega) (by omega) hkn
            have hget' : (insL (nats (othL T j)) q (j : Int))[k]? = some (i : Int) := hget
            obtain ⟨hil, hig⟩ := List.getElem?_eq_some_iff.1 hget'
            obtain ⟨b1, hb1, c1⟩ := row_int prow hil
            rw [getD_lt hil, hig] at c1
            refine IXS_at hb1 hkn ?_
            refine ⟨_, c1, ?_⟩
            refine ⟨_, _, _, p1.cell, ?_⟩
            refine IXS_nat hi ?_
            rw [wrap_succ (by omega)]
            have hi4 : i * 4 < (mnV (partL T j ((q + 1 : Nat) : Int) k)).length := by rw [mnV_len, partL_len]; omega
            have hip : i < (partL T j ((q + 1 : Nat) : Int) k).length := by rw [partL_len]; exact hi
            have hown := hfr.buf.at hi4
            have hset := hfr.buf.set (v := .int .i64 ((k + 1 : Nat) : Int)) hi4
            refine WR_own hown rfl ?_
            have hb6 : (a2.add (i * 4)).block = a2.block := add_blk _ _
            have hne6 : (⟨t.size, 0, none⟩ : Addr).block ≠ (a2.add (i * 4)).block := by rw [hb6]; show t.size ≠ _; omega
            refine ⟨rfl, _, rfl, ⟨Ext.setC ev (by show t.size ≤ (a2.add (i * 4)).block; rw [hb6]; omega), own_set_ne (.inl hne6) p1, own_set_ne (.inl hne6) p2, ?_, k + 1, hkn, rfl, ?_⟩, ?_⟩
            · refine prow.keep (D := (· = a2.block)) (Kp.setC (Kp.refl _) (.inl hb6)) fun a' ha' hb' => ?_
              have := hxi a' ha'
              have hb'' : a'.block = a2.block := hb'
              omega
            · have hmm : mnV (partL T j ((q + 1 : Nat) : Int) (k + 1)) = (mnV (partL T j ((q + 1 : Nat) : Int) k)).set (i * 4) (.int .i64 ((k + 1 : Nat) : Int)) := by
                rw [mnV_set _ _ _ hip, partL_succ hv hj hi hnew hip]
              rw [hmm]
              exact ⟨hset, by rw [List.length_set]; exact hfr.len, hfr.fr, hfr.cap⟩
            · show ((T.n : Int) - ((k + 1 : Nat) : Int)).toNat < ((T.n : Int) - k).toNat
              omega
          · have hkn : k = T.n := by omega
            subst hkn
            rw [partL_n hv hj (by omega) (by omega)] at hfr
            have hokM := ok_moved (pl := ((q + 1 : Nat) : Int)) hok hj (by omega) (by omega)
            have hvM := okP_vd hokM
            have hnM : (movedP T j ((q + 1 : Nat) : Int)).n = T.n := moved_n _ _ _
            have h6M := hvM.z6
            refine ⟨_, _, _, p1.cell, _, _, _, p2.cell, ?_⟩
            refine ⟨_, e2v.cell om.cell, ?_⟩
            dsimp only
            refine (fun hh => by rw [← hnM]; exact hh : CALL Pg W F_prize_open [.agg #[.slice (some a2) (movedP T j ((q + 1 : Nat) : Int)).n ac, .slice y (movedP T j ((q + 1 : Nat) : Int)).z c']] _ _ v → CALL Pg W F_prize_open [.agg #[.slice (some a2) T.n ac, .slice y T.z c']] _ _ v) ?_
            refine c_open (T := movedP T j ((q + 1 : Nat) : Int)) (row_mn hfr.row) (hy.ext e0v) (fun _ v1 p' g1 hp' => ?_) (fun hbad => by rw [hokM] at hbad; cases hbad)
            try simp only [TUP_mk, AGG_mk, HD_mk, NL_mk, TYI_mk, TYB_mk, TYP_mk, TYL_mk, TYS_mk, TYM_mk, SO_mk, NX_mk, endK_mk, endK_mk', add_0]
            refine ANDS_i ⟨_, (e2v.trans g1).cell om.cell, rfl⟩ ?_
            refine c_due hp' fun v2 dx dc g2' h2' => ?_
            try simp only [TUP_mk, AGG_mk, HD_mk, NL_mk, TYI_mk, TYB_mk, TYP_mk, TYL_mk, TYS_mk, TYM_mk, SO_mk, NX_mk, endK_mk, endK_mk', add_0]
            have gv := g1.trans g2'
            refine ANDS_i ⟨_, (e2v.trans gv).cell om.cell, rfl⟩ ?_
            have hdl : (manL (dueP (movedP T j ((q + 1 : Nat) : Int)))).length = (movedP T j ((q + 1 : Nat) : Int)).z := by unfold manL dueP; simp [dueL_len]
            refine c_Contains h2'.row hdl.symm (by omega) ?_
            try simp only [TUP_mk, AGG_mk, HD_mk, NL_mk, TYI_mk, TYB_mk, TYP_mk, TYL_mk, TYS_mk, TYM_mk, SO_mk, NX_mk, endK_mk, endK_mk', add_0]
            have oB := (e3t.trans (ev.trans gv)).own o3
            refine BR_bool (fun hg => ?_) (fun hg => ?_)
            · refine ep_ok oB fun v3 k3 => ?_
              have := h v3 (ext_kp (e0v.trans gv) (by have := e2.1; omega) k3)
              rw [hfl] at this
              have e : forL T j (q + 1) = (((q + 1 : Nat) : Int), 0) := by
                show (if getsP T j (q + 1) then _ else _) = _
                rw [if_pos (show getsP T j (q + 1) = true from hg)]
              rw [e] at this
              exact this
            · rw [hw]
              exact hnx' v2 (et.trans (ev.trans gv)) hg
        have rowm : ∀ u : Hp, Ext t3 u → cellAt u ⟨s1.size, 0, none⟩ = some (.int .i64 (j : Nat)) := fun u eu => (e2t.trans (ef.trans eu)).cell om.cell
        have rowo : ∀ u : Hp, Ext t3 u → RowAt u xo (ints (nats (othL T j))) := fun u eu => f6.row.ext (et.trans (ef.trans eu))
        refine CONJ_two ?_ ?_
        · refine c_CloneI (rowo t3 (Ext.refl _)) hno.symm (by omega) fun u xc cc eu fu => ?_
          try simp only [TUP_mk, AGG_mk, HD_mk, NL_mk, TYI_mk, TYB_mk, TYP_mk, TYL_mk, TYS_mk, TYM_mk, SO_mk, NX_mk, endK_mk, endK_mk', add_0]
          refine ANDS_i ⟨_, rowm u eu, rfl⟩ ?_
          refine NEW_mk ?_
          have ep : Ext u (u.push (.cells #[.int .i64 (j : Nat)] 3 (0, 0))) := Ext.push (Ext.refl _)
          refine c_Insert (lo := t3.size) (m := (j : Nat)) (i := q) (B := u.size) (t := 3) (fu.ext ep) (by have := eu.1; have := ep.1; omega) (by omega) (by omega) (by rw [Array.getElem?_push, if_pos rfl]) (fun a ha hl => ?_) fun u2 xi ci k2 hfx hrow => ?_
          · obtain ⟨a', h', c0⟩ := fu.row 0 (by rw [ints_len]; exact hl)
            rw [ha] at h'; cases h'
            have := cell_lt c0
            rw [add_blk] at this; omega
          · try simp only [TUP_mk, AGG_mk, HD_mk, NL_mk, TYI_mk, TYB_mk, TYP_mk, TYL_mk, TYS_mk, TYM_mk, SO_mk, NX_mk, endK_mk, endK_mk', add_0]
            exact fin u2 xi _ ci (by omega) (kp_nil (eu.trans ep) (fun b hb => hb) k2) hfx hrow
        · refine NEW_mk ?_
          have ep : Ext t3 (t3.push (.cells #[.int .i64 (j : Nat)] 3 (0, 0))) := Ext.push (Ext.refl _)
          have hB : (t3.push (.cells #[.int .i64 (j : Nat)] 3 (0, 0)))[t3.size]? = some (.cells #[.int .i64 (j : Nat)] 3 (0, 0)) := by rw [Array.getElem?_push, if_pos rfl]
          have hsz : (t3.push (.cells #[.int .i64 (j : Nat)] 3 (0, 0))).size = t3.size + 1 := by simp
          show CALL Pg W _ _ _ _ (t3.push (.cells #[.int .i64 (j : Nat)] 3 (0, 0)))
          generalize t3.push (.cells #[.int .i64 (j : Nat)] 3 (0, 0)) = t4 at ep hB hsz
          refine c_CloneI (rowo t4 ep) hno.symm (by omega) fun u xc cc eu fu => ?_
          try simp only [TUP_mk, AGG_mk, HD_mk, NL_mk, TYI_mk, TYB_mk, TYP_mk, TYL_mk, TYS_mk, TYM_mk, SO_mk, NX_mk, endK_mk, endK_mk', add_0]
          refine ANDS_i ⟨_, rowm u (ep.trans eu), rfl⟩ ?_
          refine c_Insert (lo := t4.size) (m := (j : Nat)) (i := q) (B := t3.size) (t := 3) fu eu.1 (by omega) (by omega) ((eu.2 t3.size (by omega)).trans hB) (fun a ha hl => ?_) fun u2 xi ci k2 hfx hrow => ?_
          · have := fu.fr a ha
            omega
          · try simp only [TUP_mk, AGG_mk, HD_mk, NL_mk, TYI_mk, TYB_mk, TYP_mk, TYL_mk, TYS_mk, TYM_mk, SO_mk, NX_mk, endK_mk, endK_mk', add_0]
            exact fin u2 xi _ ci (by omega) (ep.trans (kp_nil eu (fun b hb => hb) k2)) (fun a ha => by have := hfx a ha; omega) hrow
      · have hk0 : k = 0 := by omega
        subst hk0
        refine ep_ok ((e3t).own o3) fun v3 k3 => ?_
        have := h v3 (ext_kp e0t (by have := e2.1; omega) k3)
        rw [hfl] at this
        exact this
    · try simp only [TUP_mk, AGG_mk, HD_mk, NL_mk, TYI_mk, TYB_mk, TYP_mk, TYL_mk, TYS_mk, TYM_mk, SO_mk, NX_mk, endK_mk, endK_mk', add_0]
      refine ep_err (e4.own o3) fun s5 k5 => ?_
      have := h s5 (ext_kp e04 (by have := e2.1; omega) k5)
      unfold forR at this
      have hM : isM T m = false := hm
      rw [if_pos hok, hM] at this
      exact this
  · try simp only [TUP_mk, AGG_mk, HD_mk, NL_mk, TYI_mk, TYB_mk, TYP_mk, TYL_mk, TYS_mk, TYM_mk, SO_mk, NX_mk, endK_mk, endK_mk', add_0]
    refine ep_err (e4.own o3) fun s5 k5 => ?_
    have := h s5 (ext_kp (e03.trans e4) (by have := e2.1; omega) k5)
    unfold forR at this
    rw [hok] at this
    exact this
end
end Go.Proofs.Ytfaeokcbfnlgbaa.G

/- Prize: plain laws of matchings, for Most. -/
set_option linter.unusedSimpArgs false
set_option linter.unusedVariables false
set_option maxRecDepth 20000
namespace Go.Proofs.Ytfaeokcbfnlgbaa.G
open Go.V
/-- How many of those who are not seen have a prize. -/
def cnt (n : Nat) (S : Nat → Bool) (M : Nat → Option Nat) (q : Nat) : Nat := ((List.range n).filter fun m => !S m && decide (M m = some q)).length
def updM (M : Nat → Option Nat) (m : Nat) (z : Nat) : Nat → Option Nat := fun k => if k = m then some z else M k
def one1 (b : Prop) [Decidable b] : Nat := if b then 1 else 0
theorem cnt_succ (n : Nat) (S : Nat → Bool) (M : Nat → Option Nat) (q : Nat) : cnt (n + 1) S M q = cnt n S M q + one1 (S n = false ∧ M n = some q) := by
  unfold cnt one1
  rw [List.range_succ, List.filter_append, List.length_append]
  congr 1
  cases h : S n <;> by_cases h2 : M n = some q <;> simp [h, h2]
theorem cnt_same {n : Nat} {S : Nat → Bool} {M M' : Nat → Option Nat} (h : ∀ m, m < n → S m = false → M' m = M m) (q : Nat) : cnt n S M' q = cnt n S M q := by
  induction n with
  | zero => rfl
  | succ n ih =>
    rw [cnt_succ, cnt_succ, ih (fun m hm => h m (by omega))]
    congr 1
    unfold one1
    cases hs : S n with
    | true => simp
    | false => rw [h n (by omega) hs]
theorem cnt_upd {n : Nat} {S : Nat → Bool} {M : Nat → Option Nat} {m z : Nat} (hm : m < n) (hs : S m = false) (q : Nat) : cnt n S (updM M m z) q + one1 (M m = some q) = cnt n S M q + one1 (q = z) := by
  induction n with
  | zero => omega
  | succ n ih =>
    rw [cnt_succ, cnt_succ]
    by_cases h : m = n
    · subst h
      have h1 : cnt m S (updM M m z) q = cnt m S M q := cnt_same (fun k hk _ => by unfold updM; rw [if_neg (by omega)]) q
      rw [h1]
      have e1 : one1 (S m = false ∧ updM M m z m = some q) = one1 (q = z) := by
        unfold one1 updM
        simp only [hs, true_and, if_true, Option.some.injEq]
        by_cases hq : q = z
        · rw [if_pos hq, if_pos hq.symm]
        · rw [if_neg hq, if_neg (fun e => hq e.symm)]
      have e2 : one1 (S m = false ∧ M m = some q) = one1 (M m = some q) := by unfold one1; simp only [hs, true_and]
      rw [e1, e2]; omega
    · have := ih (by omega)
      have e1 : one1 (S n = false ∧ updM M m z n = some q) = one1 (S n = false ∧ M n = some q) := by
        unfold updM; rw [if_neg (fun e => h e.symm)]
      rw [e1]; omega
theorem cnt_split {n : Nat} {S S2 : Nat → Bool} {M M1 : Nat → Option Nat} (hs : ∀ m, S m = true → S2 m = true) (h : ∀ m, S2 m = true → M1 m = M m) (q : Nat) : cnt n S M1 q + cnt n S2 M q = cnt n S M q + cnt n S2 M1 q := by
  induction n with
  | zero => rfl
  | succ n ih =>
    rw [cnt_succ, cnt_succ, cnt_succ, cnt_succ]
    have : one1 (S n = false ∧ M1 n = some q) + one1 (S2 n = false ∧ M n = some q) = one1 (S n = false ∧ M n = some q) + one1 (S2 n = false ∧ M1 n = some q) := by
      cases h2 : S2 n with
      | true => rw [h n h2]
      | false =>
        have h1 : S n = false := by cases h1 : S n with
          | false => rfl
          | true => rw [hs n h1] at h2; cases h2
        rw [h1]
        unfold one1
        simp only [true_and]
        exact Nat.add_comm _ _
    omega
theorem cnt_pos {n : Nat} {S : Nat → Bool} {M : Nat → Option Nat} {m q : Nat} (hm : m < n) (hs : S m = false) (h : M m = some q) : 0 < cnt n S M q := by
  unfold cnt
  refine List.length_pos_of_mem (a := m) ?_
  rw [List.mem_filter]
  exact ⟨List.mem_range.2 hm, by simp [hs, h]⟩
theorem cnt_zero {n : Nat} {S : Nat → Bool} {M : Nat → Option Nat} {q : Nat} (h : ∀ m, m < n → M m ≠ some q) : cnt n S M q = 0 := by
  unfold cnt
  rw [List.length_eq_zero_iff, List.filter_eq_nil_iff]
  intro m hm
  simp [h m (List.mem_range.1 hm)]
theorem cnt_two : ∀ {n : Nat} {S : Nat → Bool} {M : Nat → Option Nat} {a b q : Nat}, a < b → b < n → S a = false → S b = false → M a = some q → M b = some q → 2 ≤ cnt n S M q
  | 0, _, _, _, _, _, _, h, _, _, _, _ => by omega
  | n + 1, S, M, a, b, q, hab, hb, ha', hb', h1, h2 => by
    rw [cnt_succ]
    by_cases e : b = n
    · subst e
      have := cnt_pos (n := b) hab ha' h1
      have e1 : one1 (S b = false ∧ M b = some q) = 1 := by unfold one1; rw [if_pos ⟨hb', h2⟩]
      omega
    · have := cnt_two (n := n) hab (by omega) ha' hb' h1 h2
      omega
section
variable (T : PT) (f : Nat → Bool)
/-- Somebody who is left can have a prize. -/
def Cand (q m : Nat) : Prop := m < T.n ∧ f m = true ∧ canP T m q = true
/-- Whoever is of a set has a prize, and so whoever else could have it. -/
def Closed (M : Nat → Option Nat) (C : Nat → Prop) : Prop := ∀ m, C m → ∃ q, M m = some q ∧ ∀ m', Cand T f q m' → C m'
structure Tr (S : Nat → Bool) (M : Nat → Option Nat) (z : Nat) (M' : Nat → Option Nat) : Prop where
  cn : ∀ q, cnt T.n S M' q = cnt T.n S M q + one1 (q = z)
  ed : ∀ m q, M' m = some q → M m = some q ∨ Cand T f q m ∧ (q = z ∨ ∃ k, M k = some q)
  un : ∀ m, S m = true → M' m = M m
  cl : ∀ C : Nat → Prop, Closed T f M C → ¬ (∀ m, Cand T f z m → C m) ∧ ∀ m, C m → M' m = M m
structure Fa (S : Nat → Bool) (M : Nat → Option Nat) (z : Nat) (S' : Nat → Bool) : Prop where
  le : ∀ m, S m = true → S' m = true
  all : ∀ m, Cand T f z m → S' m = true
  cl : ∀ m, S' m = true → S m = false → ∃ q, M m = some q ∧ ∀ m', Cand T f q m' → S' m' = true
variable {T f}
theorem Tr.free {S S2 : Nat → Bool} {M : Nat → Option Nat} {z m : Nat} (hc : Cand T f z m) (hm : M m = none) (hs : S m = false) : Tr T f S M z (updM M m z) where
  cn := fun q => by
    have := cnt_upd (M := M) (z := z) hc.1 hs q
    have e : one1 (M m = some q) = 0 := by unfold one1; rw [hm, if_neg (by simp)]
    omega
  ed := fun k q h => by
    unfold updM at h
    split at h
    · rename_i e; cases h; rw [e]; exact .inr ⟨hc, .inl rfl⟩
    · exact .inl h
  un := fun k hk => by
    unfold updM
    rw [if_neg (fun e => by rw [e, hs] at hk; cases hk)]
  cl := fun C hC => by
    have hnm : ¬ C m := fun h => by
      obtain ⟨q, hq, _⟩ := hC m h
      rw [hm] at hq; cases hq
    refine ⟨fun h => hnm (h m hc), fun k hk => ?_⟩
    unfold updM
    rw [if_neg (fun (e : k = m) => hnm (by rw [← e]; exact hk))]
theorem Tr.next {S S2 : Nat → Bool} {M M1 : Nat → Option Nat} {z old m : Nat} (hc : Cand T f z m) (hm : M m = some old) (hs : S m = false) (hle : ∀ k, S k = true → S2 k = true) (h2 : S2 m = true) (h : Tr T f S2 M old M1) : Tr T f S M z (updM M1 m z) where
  cn := fun q => by
    have h1 := cnt_split (n := T.n) hle h.un q
    have h3 := h.cn q
    have h4 := cnt_upd (M := M1) (z := z) hc.1 hs q
    rw [h.un m h2, hm] at h4
    have e : one1 (some old = some q) = one1 (q = old) := by
      unfold one1
      by_cases he : q = old
      · rw [if_pos he, if_pos (by rw [he])]
      · rw [if_neg he, if_neg (fun e => he (Option.some.inj e).symm)]
    omega
  ed := fun k q hk => by
    unfold updM at hk
    split at hk
    · rename_i e; cases hk; rw [e]; exact .inr ⟨hc, .inl rfl⟩
    · rcases h.ed k q hk with h5 | ⟨h5, h6⟩
      · exact .inl h5
      · refine .inr ⟨h5, .inr ?_⟩
        rcases h6 with rfl | h6
        · exact ⟨m, hm⟩
        · exact h6
  un := fun k hk => by
    have hne : k ≠ m := fun e => by rw [e, hs] at hk; cases hk
    unfold updM
    rw [if_neg hne]
    exact h.un k (hle k hk)
  cl := fun C hC => by
    obtain ⟨g1, g2⟩ := h.cl C hC
    have hnm : ¬ C m := fun hh => by
      obtain ⟨q, hq, hq2⟩ := hC m hh
      rw [hm] at hq; cases hq
      exact g1 hq2
    refine ⟨fun hh => hnm (hh m hc), fun k hk => ?_⟩
    unfold updM
    rw [if_neg (fun (e : k = m) => hnm (by rw [← e]; exact hk))]
    exact g2 k hk
end
end Go.Proofs.Ytfaeokcbfnlgbaa.G
