import Derived.Test.YtfaeokcbfnlgbaaC1
/- Lemmas: contracts over the visible heap, and that they are sound; no condition. -/
/- Prize: maps from numbers, as what is found in them. -/
set_option linter.unusedSimpArgs false
set_option linter.unusedVariables false
set_option maxRecDepth 20000
namespace Go.Proofs.Ytfaeokcbfnlgbaa.G
open Go.V
theorem und_3 : Pg.underlying 3 = some (.int .i64) := by kernel_rfl
theorem und_88 : ∃ e, Pg.underlying 88 = some (.map 3 e) ∧ ∀ (K : Value → Hp → Prop) (E : Value → Hp → Prop) (s : Hp), sp Pg (zeroValue e) K E s = K (.bool false) s := ⟨4, by kernel_rfl, fun K E s => by kernel_rfl⟩
theorem und_90 : ∃ e, Pg.underlying 90 = some (.map 3 e) ∧ ∀ (K : Value → Hp → Prop) (E : Value → Hp → Prop) (s : Hp), sp Pg (zeroValue e) K E s = K .nilFunc s := ⟨105, by kernel_rfl, fun K E s => by kernel_rfl⟩
theorem und_117 : ∃ e, Pg.underlying 117 = some (.map 3 e) ∧ ∀ (K : Value → Hp → Prop) (E : Value → Hp → Prop) (s : Hp), sp Pg (zeroValue e) K E s = K (.int .i64 0) s := ⟨3, by kernel_rfl, fun K E s => by kernel_rfl⟩
theorem check_int (b : Bool) (m : Int) (K : Unit → Hp → Prop) (E : Value → Hp → Prop) (s : Hp) : sp Pg (Instr.checkKey b 10000 3 (.int .i64 m)) K E s = K () s := by kernel_rfl
def kv (x : Int × Value) : Value × Value := (.int .i64 x.1, x.2)
def findV (k : Int) : List (Int × Value) → Nat → Option (Nat × Value)
  | [], _ => none
  | x :: r, i => if k = x.1 then some (i, x.2) else findV k r (i + 1)
def lookV (l : List (Int × Value)) (k : Int) : Option Value := (findV k l 0).map (·.2)
theorem findV_shift {k : Int} : ∀ (l : List (Int × Value)) (i : Nat), (findV k l i).map (·.2) = (findV k l 0).map (·.2)
  | [], _ => rfl
  | x :: r, i => by
    unfold findV
    by_cases h : k = x.1
    · rw [if_pos h, if_pos h]; rfl
    · rw [if_neg h, if_neg h, findV_shift r (i + 1), findV_shift r (0 + 1)]
theorem lookV_cons (x : Int × Value) (r : List (Int × Value)) (k : Int) : lookV (x :: r) k = if k = x.1 then some x.2 else lookV r k := by
  unfold lookV
  conv => lhs; unfold findV
  by_cases h : k = x.1
  · rw [if_pos h, if_pos h]; rfl
  · rw [if_neg h, if_neg h, findV_shift]
theorem findV_some {k : Int} : ∀ (l : List (Int × Value)) (i j : Nat) (v : Value), findV k l i = some (j, v) → ∃ n, j = i + n ∧ n < l.length ∧ l[n]? = some (k, v) ∧ ∀ w k', lookV (l.set n (k, w)) k' = if k' = k then some w else lookV l k'
  | [], _, _, _, h => by cases h
  | x :: r, i, j, v, h => by
    unfold findV at h
    by_cases he : k = x.1
    · rw [if_pos he] at h
      cases h
      refine ⟨0, rfl, by simp, by rw [he]; rfl, fun w k' => ?_⟩
      rw [List.set_cons_zero, lookV_cons, lookV_cons, ← he]
      by_cases h2 : k' = k
      · rw [if_pos h2, if_pos h2]
      · rw [if_neg h2, if_neg h2, if_neg h2]
    · rw [if_neg he] at h
      obtain ⟨n, h1, h2, h3, h4⟩ := findV_some r (i + 1) j v h
      refine ⟨n + 1, by omega, by simp; omega, by simpa using h3, fun w k' => ?_⟩
      rw [List.set_cons_succ, lookV_cons, lookV_cons, h4]
      by_cases h5 : k' = x.1
      · rw [if_pos h5, if_pos h5, if_neg (fun e => he (e.symm.trans h5))]
      · rw [if_neg h5, if_neg h5]
theorem findV_none {k : Int} : ∀ (l : List (Int × Value)) (i : Nat), findV k l i = none → ∀ w k', lookV (l ++ [(k, w)]) k' = if k' = k then some w else lookV l k'
  | [], _, _, w, k' => by
    rw [List.nil_append, lookV_cons]
  | x :: r, i, h, w, k' => by
    unfold findV at h
    by_cases he : k = x.1
    · rw [if_pos he] at h; cases h
    · rw [if_neg he] at h
      rw [List.cons_append, lookV_cons, lookV_cons, findV_none r (i + 1) h w k']
      by_cases h5 : k' = x.1
      · rw [if_pos h5, if_pos h5, if_neg (fun e => he (e.symm.trans h5))]
      · rw [if_neg h5, if_neg h5]
theorem find_now {k : Int} : ∀ (l : List (Int × Value)) (es : List MapEntry) (i : Nat), es.map (fun e => (e.key, e.val)) = l.map kv → Instr.findNow (.int .i64) (.int .i64 k) es i = some (findV k l i)
  | [], [], _, _ => rfl
  | [], e :: es, _, h => by simp at h
  | x :: l, [], _, h => by simp at h
  | x :: l, e :: es, i, h => by
    simp only [List.map_cons, List.cons.injEq, kv, Prod.mk.injEq] at h
    obtain ⟨⟨h1, h2⟩, h3⟩ := h
    unfold Instr.findNow findV
    rw [h1]
    show (match (if IntKind.i64 = IntKind.i64 then some (k == x.1) else none) with | some true => _ | some false => _ | none => _) = _
    rw [if_pos rfl]
    by_cases he : k = x.1
    · have hb : (k == x.1) = true := by simpa using he
      rw [hb, if_pos he, h2]
    · have hb : (k == x.1) = false := by simpa using he
      rw [hb, if_neg he]
      exact find_now l es (i + 1) h3
theorem find_key {k : Int} {K : Option (Nat × Value) → Hp → Prop} {E : Value → Hp → Prop} {s : Hp} {l : List (Int × Value)} {es : Array MapEntry} (h : es.toList.map (fun e => (e.key, e.val)) = l.map kv) (hk : K (findV k l 0) s) : sp Pg (Instr.findKey 3 (.int .i64 k) es.toList) K E s := by
  unfold Instr.findKey
  rw [sp_bind, sp_und und_3, find_now l es.toList 0 h]
  exact hk
theorem same_int {k : Int} : Instr.sameBits 10000 (.int .i64 k) (.int .i64 k) = true := by simp [Instr.sameBits]
theorem setO_get {s : Hp} {r : Nat} {o o' : Obj} (h : s[r]? = some o') : (s.setIfInBounds r o)[r]? = some o := by
  have := (Array.getElem?_eq_some_iff.1 h).1
  rw [Array.getElem?_setIfInBounds]
  simp [this]
theorem setO_kp {s : Hp} {r : Nat} {o : Obj} : Kp (· = r) s (s.setIfInBounds r o) := ⟨by simp, fun b _ hb => Array.getElem?_setIfInBounds_ne (fun e => hb e.symm)⟩
/-- A map in the heap, as what is found of each number. -/
def MapI (s : Hp) (r : Nat) (g : Int → Option Value) : Prop := ∃ es cl l, s[r]? = some (.map es cl) ∧ es.toList.map (fun e => (e.key, e.val)) = l.map kv ∧ ∀ k, lookV l k = g k
def updI (g : Int → Option Value) (k : Int) (v : Value) : Int → Option Value := fun k' => if k' = k then some v else g k'
section
variable {s s' : Hp} {r : Nat} {g : Int → Option Value}
theorem MapI.lt (h : MapI s r g) : r < s.size := by
  obtain ⟨es, cl, l, h1, _⟩ := h
  exact (Array.getElem?_eq_some_iff.1 h1).1
theorem MapI.ext (e : Ext s s') (h : MapI s r g) : MapI s' r g := by
  have hl := h.lt
  obtain ⟨es, cl, l, h1, h2⟩ := h
  exact ⟨es, cl, l, by rw [e.2 _ hl]; exact h1, h2⟩
theorem MapI.kp {D : Nat → Prop} (e : Kp D s s') (hd : ¬ D r) (h : MapI s r g) : MapI s' r g := by
  have hl := h.lt
  obtain ⟨es, cl, l, h1, h2⟩ := h
  exact ⟨es, cl, l, by rw [e.2 _ hl hd]; exact h1, h2⟩
theorem MapI.blind : Blind (fun s => MapI s r g) := fun s l o hl ho h => by
  obtain ⟨es, cl, l', h1, h2⟩ := h
  refine ⟨es, cl, l', ?_, h2⟩
  by_cases e : l = r
  · subst e
    have := setO_get (o := junk) hl
    rw [this] at h1; cases h1
  · rw [← h1]; exact (Array.getElem?_setIfInBounds_ne e).symm
theorem MapI.cell {a : Addr} {v : Value} (h : MapI s r g) (hc : cellAt s a = some v) : a.block ≠ r := fun e => by
  obtain ⟨c, t, f, hb⟩ := block_of_cell hc
  obtain ⟨es, cl, l, h1, _⟩ := h
  rw [e, h1] at hb
  cases hb
theorem MKM_rule {K : Nat → Hp → Prop} (h : ∀ s', Ext s s' → s'.size = s.size + 1 → MapI s' s.size (fun _ => none) → K s.size s') : MKM K s :=
  h _ (Ext.push (Ext.refl s)) (by simp) ⟨#[], 0, [], by simp, rfl, fun _ => rfl⟩
theorem LKP_v {t e : TypeId} {z : Value} {k : Int} {ok : Bool} {K : VK} (ht : Pg.underlying t = some (.map 3 e)) (hz : ∀ (K : Value → Hp → Prop) (E : Value → Hp → Prop) (s : Hp), sp Pg (zeroValue e) K E s = K z s) (h : MapI s r g)
    (h1 : ∀ v, g k = some v → K (match ok with | true => .tuple #[v, .bool true] | false => v) s) (h2 : g k = none → K (match ok with | true => .tuple #[z, .bool false] | false => z) s) : LKP Pg t (.map (some r)) (.int .i64 k) ok K s := by
  obtain ⟨es, cl, l, hs, ha, hg⟩ := h
  unfold LKP Instr.lookup
  rw [sp_bind, sp_und ht]
  simp only [sp_bind]
  refine ⟨_, hs, rfl, rfl, ?_⟩
  show sp Pg (Sem.pure (Obj.map es cl)) _ _ s
  simp only [sp, sp_bind, sp_pure]
  rw [check_int]
  refine find_key ha ?_
  have hk := hg k
  unfold lookV at hk
  cases hf : findV k l 0 with
  | some x =>
    rw [hf] at hk
    have := h1 x.2 (by rw [← hk]; rfl)
    cases ok <;> exact this
  | none =>
    rw [hf] at hk
    have := h2 (by rw [← hk]; rfl)
    simp only [sp_bind]
    rw [hz]
    cases ok <;> exact this
theorem MUP_v {t e : TypeId} {k : Int} {v : Value} {K : Hp → Prop} (ht : Pg.underlying t = some (.map 3 e)) (h : MapI s r g)
    (hk : ∀ s', Kp (· = r) s s' → s'.size = s.size → MapI s' r (updI g k v) → K s') : MUP Pg t (.map (some r)) (.int .i64 k) v K s := by
  obtain ⟨es, cl, l, hs, ha, hg⟩ := h
  unfold MUP Instr.mapUpdate
  rw [sp_bind, sp_und ht]
  simp only [sp_bind]
  refine ⟨_, hs, rfl, rfl, ?_⟩
  show sp Pg (Sem.pure (Obj.map es cl)) _ _ s
  simp only [sp, sp_bind]
  rw [check_int]
  refine find_key ha ?_
  have hlen : es.size = l.length := by have := congrArg List.length ha; simpa using this
  cases hf : findV k l 0 with
  | none =>
    refine ⟨⟨_, hs, rfl, rfl⟩, ?_⟩
    refine hk _ setO_kp (by simp) ⟨_, _, l ++ [(k, v)], setO_get hs, ?_, fun k' => ?_⟩
    · rw [Array.toList_push, List.map_append, List.map_append, ha]; rfl
    · rw [findV_none l 0 hf v k', hg]; rfl
  | some x =>
    obtain ⟨j, v0⟩ := x
    obtain ⟨n, hj, hn, hx, hset⟩ := findV_some l 0 j v0 hf
    have hjn : j = n := by omega
    subst hjn
    simp only [sp_bind]
    have hje : j < es.size := by omega
    have hkey : es[j].key = .int .i64 k := by
      have h2 : (es.toList.map (fun e => (e.key, e.val)))[j]? = (l.map kv)[j]? := by rw [ha]
      rw [List.getElem?_map, List.getElem?_map, hx] at h2
      rw [List.getElem?_eq_getElem (by simpa using hje)] at h2
      simp [kv] at h2
      exact h2.1
    have hold : (Option.map (fun x => x.key) es[j]?).getD (.int .i64 k) = .int .i64 k := by
      rw [Array.getElem?_eq_getElem hje]
      exact hkey
    rw [hold]
    unfold Instr.keyThatStays
    rw [if_pos same_int]
    simp only [sp_pure]
    refine ⟨⟨_, hs, rfl, rfl⟩, ?_⟩
    refine hk _ setO_kp (by simp) ⟨_, _, l.set j (k, v), setO_get hs, ?_, fun k' => ?_⟩
    · apply List.ext_getElem?
      intro i
      rw [List.getElem?_map, List.getElem?_map, Array.getElem?_toList, Array.getElem?_modify, List.getElem?_set]
      have h2 : (es.toList.map (fun e => (e.key, e.val)))[i]? = (l.map kv)[i]? := by rw [ha]
      rw [List.getElem?_map, List.getElem?_map, Array.getElem?_toList] at h2
      by_cases e : j = i
      · subst e
        rw [if_pos rfl, if_pos rfl, if_pos hn, Array.getElem?_eq_getElem hje]
        simp [kv, hkey]
      · rw [if_neg e, if_neg e]
        exact h2
    · rw [hset, hg]; rfl
end
end Go.Proofs.Ytfaeokcbfnlgbaa.G

/- Prize: what is told; what is asked of numbers. -/
set_option linter.unusedSimpArgs false
set_option linter.unusedVariables false
set_option maxRecDepth 20000
namespace Go.Proofs.Ytfaeokcbfnlgbaa.G
open Go.V
/-- A panic that tells an error. -/
def pn (e : Int) : List PanicEntry := [{ v := .iface 103 (.agg #[.int .i64 e]), recovered := false }]
theorem zc_103 : zc Pg 103 = [.int .i64 0] := by kernel_rfl
theorem told_vc_none (W : World) (a : Addr) (K : Hp → Prop) : vc Pg W 15 [15] (fun _ => {}) false (sub (bodyOf Try.f42) [1]) 0 (Kdone 15 K) (updo 15 (some 5) .nilIface (Go.V.start [.pointer (some a)] 0)) = (fun s => undef = undef ∧ K s) := by kernel_rfl
theorem told_vc_some (W : World) (a : Addr) (e : Int) (K : Hp → Prop) : vc Pg W 15 [15] (fun _ => {}) false (sub (bodyOf Try.f42) [1]) 0 (Kdone 15 K) (updo 15 (some 5) (.iface 103 (.agg #[.int .i64 e])) (Go.V.start [.pointer (some a)] 0)) =
    NEWZ Pg 103 fun B => WR (Addr.add ⟨B, 0, none⟩ 0) (.int .i64 e) <| RDI .i64 (Addr.add ⟨B, 0, none⟩ 0) fun n => WR (Addr.add a 0) (.int .i64 n) fun s => undef = undef ∧ K s := by kernel_rfl
theorem told_ok_fn : callable Pg 42 = true := by kernel_rfl
theorem told_code : codeOk 15 (sub (bodyOf Try.f42) [1]) = true := by kernel_rfl
theorem told_nr : hasR (sub (bodyOf Try.f42) [1]) = false := by kernel_rfl

section
variable {W : World} {K : Hp → Prop} {s : Hp}
theorem told_none {a : Addr} (h : K s) : DoesD Pg W 42 [.pointer (some a)] none s K := by
  refine told_ok (id := 0) (ty := 20) (pos := "prize.go:23") (d := 5) (an := fun _ => {}) (c := sub (bodyOf Try.f42) [1]) (v := .nilIface) Try.func42 told_ok_fn (by kernel_rfl) told_code told_nr rfl (show 1 ≤ 15 by decide) (.inl ⟨rfl, rfl⟩) ?_
  show vc Pg W 15 [15] _ false _ 0 (Kdone 15 K) (updo 15 (some 5) .nilIface (Go.V.start [.pointer (some a)] 0)) s
  rw [told_vc_none]
  exact ⟨rfl, h⟩
theorem told_some {a : Addr} {e : Int} {x : Value} (ho : Own s a x) (h : ∀ s', Kp (· = a.block) s s' → Own s' a (.int .i64 e) → K s') : DoesD Pg W 42 [.pointer (some a)] (some (pn e)) s K := by
  refine told_ok (id := 0) (ty := 20) (pos := "prize.go:23") (d := 5) (an := fun _ => {}) (c := sub (bodyOf Try.f42) [1]) (v := .iface 103 (.agg #[.int .i64 e])) Try.func42 told_ok_fn (by kernel_rfl) told_code told_nr rfl (show 1 ≤ 15 by decide) (.inr rfl) ?_
  show vc Pg W 15 [15] _ false _ 0 (Kdone 15 K) (updo 15 (some 5) (.iface 103 (.agg #[.int .i64 e])) (Go.V.start [.pointer (some a)] 0)) s
  rw [told_vc_some]
  unfold NEWZ
  rw [zc_103]
  refine WR_own (own_new (i := 0) rfl) rfl ⟨_, own_cell (own_set (own_new (i := 0) rfl)), ?_⟩
  generalize hs1 : s.push (.cells [Value.int .i64 0].toArray 103 (0, 0)) = s1
  have e1 : Ext s s1 := by rw [← hs1]; exact Ext.push (Ext.refl _)
  have hlt := ho.lt
  have o2 : Own (setC s1 (Addr.add ⟨s.size, 0, none⟩ 0) (.int .i64 e)) a x := own_set_ne (.inl (by show a.block ≠ s.size; omega)) (e1.own ho)
  refine WR_own o2 rfl ⟨rfl, h _ ?_ (own_set o2)⟩
  exact Kp.setC (Kp.setC e1.kp (.inr (Nat.le_refl _))) (.inl rfl)
theorem def_none {a : Addr} (h : K s) : DEF Pg W (.tuple #[.func (.func 42) #[] #[], .tuple #[.pointer (some a)]]) none K s := told_none h
theorem def_some {a : Addr} {e : Int} {x : Value} (ho : Own s a x) (h : ∀ s', Kp (· = a.block) s s' → Own s' a (.int .i64 e) → K s') : DEF Pg W (.tuple #[.func (.func 42) #[] #[], .tuple #[.pointer (some a)]]) (some (pn e)) K s := told_some ho h
end


/-- Numbers as values. -/
def ints (ds : List Int) : List Value := ds.map fun n => .int .i64 n
theorem ints_len (ds : List Int) : (ints ds).length = ds.length := by simp [ints]
theorem ints_get {ds : List Int} {i : Nat} (h : i < (ints ds).length) : (ints ds)[i] = .int .i64 (ds[i]'(by simpa [ints] using h)) := by simp [ints]
theorem ints_one (ds : List Int) : ∀ v ∈ ints ds, oneCell v = true := by
  intro v hv
  obtain ⟨n, _, rfl⟩ := List.mem_map.1 hv
  rfl
theorem ints_app (a b : List Int) : ints (a ++ b) = ints a ++ ints b := by unfold ints; rw [List.map_append]
theorem row_new {s' : Hp} {b : Nat} {vs : List Value} (n1 : ∀ i v, vs[i]? = some v → Own s' ⟨b, i, none⟩ v) : RowAt s' (some ⟨b, 0, none⟩) vs := fun i hi => by
  refine ⟨⟨b, 0, none⟩, rfl, ?_⟩
  have := (n1 i vs[i] (List.getElem?_eq_getElem hi)).cell
  rw [add_nil, Nat.mul_one, Nat.zero_add]
  exact this
theorem row_int {s : Hp} {y : Option Addr} {ds : List Int} {k : Nat} (hy : RowAt s y (ints ds)) (hk : k < ds.length) : ∃ a, y = some a ∧ cellAt s (a.add (k * 1)) = some (.int .i64 (ds.getD k 0)) := by
  have hkv : k < (ints ds).length := by rw [ints_len]; exact hk
  obtain ⟨a, ha, g⟩ := hy k hkv
  rw [ints_get hkv] at g
  have : ds.getD k 0 = ds[k] := by simp [List.getD, hk]
  rw [this]
  exact ⟨a, ha, g⟩
section
variable {W : World} {K : VK} {E : List PanicEntry → Hp → Prop} {s : Hp}
theorem c_within {a b c : Int} (h : K (.bool (decide (b ≤ a ∧ a ≤ c))) s) : CALL Pg W F_prize_within [.int .i64 a, .int .i64 b, .int .i64 c] K E s := by
  refine does_prize_within W a b c _ s ?_
  unfold T_prize_within
  refine BR_dec (fun h1 => ?_) (fun h1 => ?_)
  · have : decide (b ≤ a ∧ a ≤ c) = decide (a ≤ c) := by simp [h1]
    rw [← this]; exact h
  · have : decide (b ≤ a ∧ a ≤ c) = false := by simp [h1]
    rw [← this]; exact h
theorem c_must {b : Bool} {e : Int} (h1 : b = true → K (.tuple #[]) s) (h2 : b = false → E (pn e) s) : CALL Pg W F_prize_must [.bool b, .int .i64 e] K E s := by
  refine does_prize_must W b e _ s ?_
  unfold T_prize_must
  exact BR_not (fun h => h2 h) (fun h => h1 h)
theorem c_total {x : Option Addr} {c l : Nat} {ds : List Int} (hx : RowAt s x (ints ds)) (hl : l = ds.length) (hb : ∀ n ∈ ds, 0 ≤ n ∧ n ≤ 1000) (h8 : ds.length ≤ 1000) (h : K (.int .i64 ds.sum) s) : CALL Pg W F_prize_total [.slice x l c] K E s := by
  subst hl
  refine does_prize_total W x _ c _ s ?_
  unfold T_prize_total
  have hsum : ∀ k, k ≤ ds.length → 0 ≤ (ds.take k).sum ∧ (ds.take k).sum ≤ 1000 * k := by
    intro k
    induction k with
    | zero => intro _; simp
    | succ k ih =>
      intro hk
      have ih := ih (by omega)
      have hkl : k < ds.length := by omega
      rw [List.take_add_one, List.getElem?_eq_getElem hkl]
      have := hb _ (List.getElem_mem hkl)
      simp only [Option.toList_some, List.sum_append, List.sum_cons, List.sum_nil]
      omega
  refine L_prize_total_0_rule W _ x ds.length c ds.length (fun n4 n5 t => t = s ∧ ∃ k : Nat, k ≤ ds.length ∧ n5 = k ∧ n4 = (ds.take k).sum) (fun _ n5 _ => (ds.length - n5).toNat) 0 0 s ⟨rfl, 0, by omega, rfl, by simp⟩ ?_
  rintro n4 n5 t ⟨rfl, k, hk, rfl, rfl⟩
  unfold B_prize_total_0
  refine BR_dec (fun h1 => ?_) (fun h1 => ?_)
  · have hkl : k < ds.length := by omega
    obtain ⟨p, hp, g⟩ := row_int hx hkl
    have tk : ((k : Int)).toNat = k := by omega
    refine ⟨p, hp, ⟨by omega, by omega⟩, _, by rw [tk]; exact g, ?_⟩
    have hw : IntKind.i64.wrap ((k : Int) + 1) = ((k + 1 : Nat) : Int) := by rw [wrap_i64 (by omega) (by omega)]; rfl
    have hs := hsum (k + 1) (by omega)
    have e : (ds.take (k + 1)).sum = (ds.take k).sum + ds.getD k 0 := by
      have hg : ds.getD k 0 = ds[k] := by simp [List.getD, hkl]
      rw [hg, List.take_add_one, List.getElem?_eq_getElem hkl, List.sum_append]
      show (ds.take k).sum + ([ds[k]] : List Int).sum = _
      rw [List.sum_cons, List.sum_nil, Int.add_zero]
    rw [e] at hs
    refine ⟨rfl, _, _, rfl, ⟨rfl, k + 1, by omega, hw, ?_⟩, ?_⟩
    · rw [e, wrap_i64 (by omega) (by omega)]
    · show ((ds.length : Int) - IntKind.i64.wrap ((k : Int) + 1)).toNat < ((ds.length : Int) - k).toNat
      rw [hw]; omega
  · have hkl : k = ds.length := by omega
    subst hkl
    rw [List.take_length]
    exact h
end
end Go.Proofs.Ytfaeokcbfnlgbaa.G

/- Prize: the plain spec. -/
set_option linter.unusedSimpArgs false
set_option linter.unusedVariables false
set_option maxRecDepth 20000
namespace Go.Proofs.Ytfaeokcbfnlgbaa.G
open Go.V
structure Mn where
  place : Int
  club : Int
  nov : Bool
  hor : Bool
  deriving DecidableEq, Inhabited
structure Pz where
  kind : Int
  worth : Int
  deriving DecidableEq, Inhabited
structure PT where
  men : List Mn
  list : List Pz
def PT.n (T : PT) : Nat := T.men.length
def PT.z (T : PT) : Nat := T.list.length
def PT.man (T : PT) (i : Nat) : Mn := T.men.getD i default
def PT.pz (T : PT) (i : Nat) : Pz := T.list.getD i default
def okMn (n : Nat) (seen : List Mn) (m : Mn) : Bool := decide (1 ≤ m.place ∧ m.place ≤ n) && (seen.all (fun x => decide (x.place ≠ m.place)) && decide (0 ≤ m.club ∧ m.club ≤ 5))
def okMs (n : Nat) : List Mn → List Mn → Bool
  | _, [] => true
  | seen, m :: r => okMn n seen m && okMs n (seen ++ [m]) r
def okZ (z : Pz) : Bool := decide (0 ≤ z.kind ∧ z.kind ≤ 4) && decide (0 ≤ z.worth ∧ z.worth ≤ 1000)
/-- Are prizes valid? -/
def okP (T : PT) : Bool := decide (1 ≤ (T.n : Int) ∧ (T.n : Int) ≤ 8) && (decide (T.list.length ≤ 6) && (okMs T.n [] T.men && T.list.all okZ))
/-- Who is at a place. -/
def idx (T : PT) (pl : Int) : Nat := T.men.findIdx fun m => decide (m.place = pl)
def ordP (T : PT) : List Nat := (List.range T.n).map fun (k : Nat) => idx T ((k + 1 : Nat) : Int)
def canK (k : Int) (m : Mn) : Bool := if k = 1 then m.nov else if k = 2 then m.hor else if k = 3 then m.nov && m.hor else if k = 4 then decide (m.club ≠ 0) else true
def canP (T : PT) (m z : Nat) : Bool := canK (T.pz z).kind (T.man m)
theorem getD_lt {α : Type} {l : List α} {i : Nat} {d : α} (h : i < l.length) : l.getD i d = l[i] := by simp [List.getD, h]
/-- One list lies in another one. -/
theorem sub_len {α : Type} [BEq α] [LawfulBEq α] : ∀ (a b : List α), a.Nodup → (∀ x ∈ a, x ∈ b) → a.length ≤ b.length
  | [], b, _, _ => Nat.zero_le _
  | x :: a, b, hn, h => by
    rw [List.nodup_cons] at hn
    have hx := h x (by simp)
    have := sub_len a (b.erase x) hn.2 (fun y hy => by
      have hy2 := h y (by simp [hy])
      have hne : y ≠ x := fun e => hn.1 (e ▸ hy)
      exact (List.mem_erase_of_ne hne).2 hy2)
    rw [List.length_erase_of_mem hx] at this
    have hpos : 0 < b.length := List.length_pos_of_mem hx
    simp only [List.length_cons]
    omega
theorem sub_full {α : Type} [BEq α] [LawfulBEq α] {a b : List α} (hn : a.Nodup) (h : ∀ x ∈ a, x ∈ b) (hl : b.length ≤ a.length) {x : α} (hx : x ∈ b) : x ∈ a := by
  refine Classical.byContradiction fun hc => ?_
  have := sub_len a (b.erase x) hn (fun y hy => (List.mem_erase_of_ne (fun e => hc (by rw [← e]; exact hy))).2 (h y hy))
  rw [List.length_erase_of_mem hx] at this
  have hpos : 0 < b.length := List.length_pos_of_mem hx
  omega
theorem okMs_all {n : Nat} : ∀ (r seen : List Mn), okMs n seen r = true → (∀ m ∈ r, (1 ≤ m.place ∧ m.place ≤ n) ∧ (0 ≤ m.club ∧ m.club ≤ 5)) ∧ (r.map (·.place)).Nodup ∧ ∀ m ∈ r, ∀ x ∈ seen, x.place ≠ m.place
  | [], seen, _ => by simp
  | m :: r, seen, h => by
    unfold okMs okMn at h
    simp only [Bool.and_eq_true, decide_eq_true_eq, List.all_eq_true] at h
    obtain ⟨⟨h1, h2, h3⟩, h4⟩ := h
    obtain ⟨g1, g2, g3⟩ := okMs_all r (seen ++ [m]) h4
    refine ⟨fun x hx => ?_, ?_, fun x hx y hy => ?_⟩
    · rcases List.mem_cons.1 hx with rfl | hx
      · exact ⟨h1, h3⟩
      · exact g1 x hx
    · rw [List.map_cons, List.nodup_cons]
      refine ⟨fun hm => ?_, g2⟩
      obtain ⟨x, hx, e⟩ := List.mem_map.1 hm
      exact g3 x hx m (by simp) e.symm
    · rcases List.mem_cons.1 hx with rfl | hx
      · exact h2 y hy
      · exact g3 x hx y (by simp [hy])
/-- What holds of valid prizes. -/
structure VdP (T : PT) : Prop where
  n1 : 1 ≤ T.n
  n8 : T.n ≤ 8
  z6 : T.z ≤ 6
  pl : ∀ i, i < T.n → 1 ≤ (T.man i).place ∧ (T.man i).place ≤ T.n
  cl : ∀ i, i < T.n → 0 ≤ (T.man i).club ∧ (T.man i).club ≤ 5
  inj : ∀ i j, i < T.n → j < T.n → (T.man i).place = (T.man j).place → i = j
  kd : ∀ z, z < T.z → 0 ≤ (T.pz z).kind ∧ (T.pz z).kind ≤ 4
  wo : ∀ z, z < T.z → 0 ≤ (T.pz z).worth ∧ (T.pz z).worth ≤ 1000
  sur : ∀ k : Int, 1 ≤ k → k ≤ T.n → idx T k < T.n ∧ (T.man (idx T k)).place = k
theorem okP_iff {T : PT} : okP T = true ↔ (1 ≤ T.n ∧ T.n ≤ 8) ∧ T.z ≤ 6 ∧ okMs T.n [] T.men = true ∧ T.list.all okZ = true := by
  unfold okP PT.z
  simp only [Bool.and_eq_true, decide_eq_true_eq]
  constructor
  · rintro ⟨h1, h2⟩; exact ⟨by omega, h2⟩
  · rintro ⟨h1, h2⟩; exact ⟨by omega, h2⟩
theorem man_mem {T : PT} {i : Nat} (h : i < T.n) : T.man i ∈ T.men := by
  unfold PT.man; rw [getD_lt h]; exact List.getElem_mem h
theorem okP_vd {T : PT} (h : okP T = true) : VdP T := by
  obtain ⟨h1, h2, h3, h4⟩ := okP_iff.1 h
  obtain ⟨g1, g2, _⟩ := okMs_all _ _ h3
  have hz : ∀ z, z < T.z → okZ (T.pz z) = true := fun z hz => by
    unfold PT.pz; rw [getD_lt hz]
    exact List.all_eq_true.1 h4 _ (List.getElem_mem hz)
  refine ⟨h1.1, h1.2, h2, fun i hi => (g1 _ (man_mem hi)).1, fun i hi => (g1 _ (man_mem hi)).2, fun i j hi hj e => ?_, fun z h => ?_, fun z h => ?_, fun k k1 k2 => ?_⟩
  · unfold PT.man at e
    rw [getD_lt hi, getD_lt hj] at e
    have := (List.getElem_inj (h₀ := by rw [List.length_map]; exact hi) (h₁ := by rw [List.length_map]; exact hj) g2).1 (by rw [List.getElem_map, List.getElem_map]; exact e)
    exact this
  · have := hz z h; unfold okZ at this; simp only [Bool.and_eq_true, decide_eq_true_eq] at this; exact this.1
  · have := hz z h; unfold okZ at this; simp only [Bool.and_eq_true, decide_eq_true_eq] at this; exact this.2
  · have hmem : k ∈ T.men.map (·.place) := by
      refine sub_full (b := (List.range T.n).map fun (i : Nat) => ((i + 1 : Nat) : Int)) g2 (fun x hx => ?_) (by simp [PT.n]) ?_
      · obtain ⟨m, hm, rfl⟩ := List.mem_map.1 hx
        have := (g1 m hm).1
        exact List.mem_map.2 ⟨(m.place - 1).toNat, List.mem_range.2 (by omega), by omega⟩
      · exact List.mem_map.2 ⟨(k - 1).toNat, List.mem_range.2 (by omega), by omega⟩
    obtain ⟨m, hm, e⟩ := List.mem_map.1 hmem
    have hlt : idx T k < T.n := List.findIdx_lt_length_of_exists ⟨m, hm, by simpa using e⟩
    refine ⟨hlt, ?_⟩
    unfold PT.man
    rw [getD_lt hlt]
    have := List.findIdx_getElem (w := hlt)
    exact of_decide_eq_true this
theorem ord_get {T : PT} {k : Nat} (h : k < T.n) : (ordP T)[k]? = some (idx T ((k + 1 : Nat) : Int)) := by
  unfold ordP
  rw [List.getElem?_map, List.getElem?_range h]
  rfl
theorem ord_len (T : PT) : (ordP T).length = T.n := by simp [ordP]
theorem ord_mem {T : PT} (hv : VdP T) {m : Nat} : m ∈ ordP T ↔ m < T.n := by
  constructor
  · intro h
    obtain ⟨k, hk, rfl⟩ := List.mem_map.1 h
    have := List.mem_range.1 hk
    exact (hv.sur _ (by omega) (by omega)).1
  · intro h
    have hp := hv.pl m h
    obtain ⟨g1, g2⟩ := hv.sur _ hp.1 hp.2
    have e := hv.inj _ _ g1 h g2
    refine List.mem_map.2 ⟨((T.man m).place - 1).toNat, List.mem_range.2 (by omega), ?_⟩
    show idx T _ = m
    have e2 : ((((T.man m).place - 1).toNat + 1 : Nat) : Int) = (T.man m).place := by omega
    rw [e2]; exact e
end Go.Proofs.Ytfaeokcbfnlgbaa.G

/- Prize: how prizes lie; who can have one. -/
set_option linter.unusedSimpArgs false
set_option linter.unusedVariables false
set_option maxRecDepth 20000
namespace Go.Proofs.Ytfaeokcbfnlgbaa.G
open Go.V
def MnAt (s : Hp) (y : Option Addr) (l : List Mn) : Prop := ∀ i, (h : i < l.length) → ∃ a, y = some a ∧ cellAt s ((a.add (i * 4)).add 0) = some (.int .i64 l[i].place) ∧ cellAt s ((a.add (i * 4)).add 1) = some (.int .i64 l[i].club) ∧ cellAt s ((a.add (i * 4)).add 2) = some (.bool l[i].nov) ∧ cellAt s ((a.add (i * 4)).add 3) = some (.bool l[i].hor)
def PzAt (s : Hp) (y : Option Addr) (l : List Pz) : Prop := ∀ i, (h : i < l.length) → ∃ a, y = some a ∧ cellAt s ((a.add (i * 2)).add 0) = some (.int .i64 l[i].kind) ∧ cellAt s ((a.add (i * 2)).add 1) = some (.int .i64 l[i].worth)
def whoG (k : Int) : Option Value := if k = 4 then some (.func (.func 93) #[] #[]) else if k = 3 then some (.func (.func 92) #[] #[]) else if k = 2 then some (.func (.func 91) #[] #[]) else if k = 1 then some (.func (.func 90) #[] #[]) else if k = 0 then some (.func (.func 89) #[] #[]) else none
section
variable {s s' : Hp} {y : Option Addr}
theorem MnAt.ext {l : List Mn} (e : Ext s s') (h : MnAt s y l) : MnAt s' y l := fun i hi => by
  obtain ⟨a, h0, h1, h2, h3, h4⟩ := h i hi
  exact ⟨a, h0, e.cell h1, e.cell h2, e.cell h3, e.cell h4⟩
theorem PzAt.ext {l : List Pz} (e : Ext s s') (h : PzAt s y l) : PzAt s' y l := fun i hi => by
  obtain ⟨a, h0, h1, h2⟩ := h i hi
  exact ⟨a, h0, e.cell h1, e.cell h2⟩
theorem MnAt.map {D : Nat → Prop} {l : List Mn} (k : Kp D s s') (hd : ∀ a v, cellAt s a = some v → ¬ D a.block) (h : MnAt s y l) : MnAt s' y l := fun i hi => by
  obtain ⟨a, h0, h1, h2, h3, h4⟩ := h i hi
  exact ⟨a, h0, k.cell (hd _ _ h1) h1, k.cell (hd _ _ h2) h2, k.cell (hd _ _ h3) h3, k.cell (hd _ _ h4) h4⟩
theorem MnAt.blind {l : List Mn} : Blind (fun s => MnAt s y l) := fun s b o hl ho h i hi => by
  obtain ⟨a, h0, h1, h2, h3, h4⟩ := h i hi
  exact ⟨a, h0, cell_blind hl h1, cell_blind hl h2, cell_blind hl h3, cell_blind hl h4⟩
theorem PzAt.blind {l : List Pz} : Blind (fun s => PzAt s y l) := fun s b o hl ho h i hi => by
  obtain ⟨a, h0, h1, h2⟩ := h i hi
  exact ⟨a, h0, cell_blind hl h1, cell_blind hl h2⟩
end
/-- Prizes that are looked at. -/
structure PrO (s : Hp) (p : Addr) (T : PT) : Prop where
  ok : okP T = true
  men : ∃ x c, cellAt s ((p.add 0).add 0) = some (.slice x T.n c) ∧ MnAt s x T.men
  lst : ∃ x c, cellAt s ((p.add 0).add 1) = some (.slice x T.z c) ∧ PzAt s x T.list
  who : ∃ r, cellAt s (p.add 2) = some (.map (some r)) ∧ MapI s r whoG
  at' : ∀ k, k < T.n → cellAt s ((p.add 3).add (k + 1)) = some (.int .i64 (idx T ((k + 1 : Nat) : Int) : Nat))
section
variable {s s' : Hp} {p : Addr} {T : PT}
theorem PrO.ext (e : Ext s s') (h : PrO s p T) : PrO s' p T where
  ok := h.ok
  men := by obtain ⟨x, c, h1, h2⟩ := h.men; exact ⟨x, c, e.cell h1, h2.ext e⟩
  lst := by obtain ⟨x, c, h1, h2⟩ := h.lst; exact ⟨x, c, e.cell h1, h2.ext e⟩
  who := by obtain ⟨r, h1, h2⟩ := h.who; exact ⟨r, e.cell h1, h2.ext e⟩
  at' := fun k hk => e.cell (h.at' k hk)
theorem PrO.blind : Blind (fun s => PrO s p T) := fun s l o hl ho h => by
  refine ⟨h.ok, ?_, ?_, ?_, fun k hk => cell_blind hl (h.at' k hk)⟩
  · obtain ⟨x, c, h1, h2⟩ := h.men; exact ⟨x, c, cell_blind hl h1, MnAt.blind _ _ _ hl ho h2⟩
  · obtain ⟨x, c, h1, h2⟩ := h.lst; exact ⟨x, c, cell_blind hl h1, PzAt.blind _ _ _ hl ho h2⟩
  · obtain ⟨r, h1, h2⟩ := h.who; exact ⟨r, cell_blind hl h1, MapI.blind _ _ _ hl ho h2⟩
end
section
variable {W : World} {K : VK} {E : List PanicEntry → Hp → Prop} {s : Hp} {p : Addr} {T : PT}
theorem c_who (h : ∀ s' r, Ext s s' → MapI s' r whoG → K (.map (some r)) s') : CALL Pg W F_prize_who [] K E s := by
  refine does_prize_who W _ s ?_
  unfold T_prize_who
  obtain ⟨e, ht, _⟩ := und_90
  refine MKM_rule fun s1 e1 z1 m1 => ?_
  refine MUP_v ht m1 fun s2 k2 z2 m2 => ?_
  refine MUP_v ht m2 fun s3 k3 z3 m3 => ?_
  refine MUP_v ht m3 fun s4 k4 z4 m4 => ?_
  refine MUP_v ht m4 fun s5 k5 z5 m5 => ?_
  refine MUP_v ht m5 fun s6 k6 z6 m6 => ?_
  exact h s6 s.size (ext_kp (ext_kp (ext_kp (ext_kp (ext_kp e1 (Nat.le_refl _) k2) (Nat.le_refl _) k3) (Nat.le_refl _) k4) (Nat.le_refl _) k5) (Nat.le_refl _) k6) m6
theorem man_row {x : Option Addr} {i : Nat} (h : MnAt s x T.men) (hi : i < T.n) : ∃ a, x = some a ∧ cellAt s ((a.add (i * 4)).add 0) = some (.int .i64 (T.man i).place) ∧ cellAt s ((a.add (i * 4)).add 1) = some (.int .i64 (T.man i).club) ∧ cellAt s ((a.add (i * 4)).add 2) = some (.bool (T.man i).nov) ∧ cellAt s ((a.add (i * 4)).add 3) = some (.bool (T.man i).hor) := by
  unfold PT.man; rw [getD_lt hi]; exact h i hi
theorem pz_row {x : Option Addr} {i : Nat} (h : PzAt s x T.list) (hi : i < T.z) : ∃ a, x = some a ∧ cellAt s ((a.add (i * 2)).add 0) = some (.int .i64 (T.pz i).kind) ∧ cellAt s ((a.add (i * 2)).add 1) = some (.int .i64 (T.pz i).worth) := by
  unfold PT.pz; rw [getD_lt hi]; exact h i hi
theorem c_isMan {n : Int} (hp : PrO s p T) (h : K (.bool (decide (0 ≤ n ∧ n < T.n))) s) : CALL Pg W F_prize_prizes_isMan [.pointer (some p), .int .i64 n] K E s := by
  refine does_prize_prizes_isMan W (some p) n _ s ?_
  unfold T_prize_prizes_isMan
  have hv := okP_vd hp.ok
  have h8 := hv.n8
  obtain ⟨x, c, h1, _⟩ := hp.men
  refine ⟨_, _, _, h1, ?_⟩
  dsimp only
  rw [wrap_i64 (by omega) (by omega)]
  refine c_within ?_
  try simp only [TUP_mk, AGG_mk, HD_mk, NL_mk, TYI_mk, TYB_mk, TYP_mk, TYL_mk, TYS_mk, TYM_mk, SO_mk, NX_mk, endK_mk, endK_mk', add_0]
  have e : decide (0 ≤ n ∧ n ≤ (T.n : Int) - 1) = decide (0 ≤ n ∧ n < T.n) := by congr 1; apply propext; omega
  rw [e]; exact h
theorem c_isPrize {n : Int} (hp : PrO s p T) (h : K (.bool (decide (0 ≤ n ∧ n < T.z))) s) : CALL Pg W F_prize_prizes_isPrize [.pointer (some p), .int .i64 n] K E s := by
  refine does_prize_prizes_isPrize W (some p) n _ s ?_
  unfold T_prize_prizes_isPrize
  have hv := okP_vd hp.ok
  have h8 := hv.z6
  obtain ⟨x, c, h1, _⟩ := hp.lst
  refine ⟨_, _, _, h1, ?_⟩
  dsimp only
  rw [wrap_i64 (by omega) (by omega)]
  refine c_within ?_
  try simp only [TUP_mk, AGG_mk, HD_mk, NL_mk, TYI_mk, TYB_mk, TYP_mk, TYL_mk, TYS_mk, TYM_mk, SO_mk, NX_mk, endK_mk, endK_mk', add_0]
  have e : decide (0 ≤ n ∧ n ≤ (T.z : Int) - 1) = decide (0 ≤ n ∧ n < T.z) := by congr 1; apply propext; omega
  rw [e]; exact h
/-- What a kind's function says of somebody. -/
theorem c_kind {k : Int} {v : Value} {m : Mn} (hk : whoG k = some v) (h : ∀ s', Ext s s' → K (.bool (canK k m)) s') : CALLV Pg W v [.agg #[.int .i64 m.place, .int .i64 m.club, .bool m.nov, .bool m.hor]] K E s := by
  unfold whoG at hk
  split at hk
  · rename_i e; subst e; cases hk
    refine CALLV_func ?_
    refine does_prize_who_c5 W m.place m.club m.nov m.hor _ s ?_
    unfold T_prize_who_c5
    refine ne4 fun s1 e1 z1 o1 o2 o3 o4 => ?_
    refine ⟨_, o2.cell, ?_⟩
    have hh := h s1 e1
    have e : canK 4 m = (m.club != 0) := by
      unfold canK
      by_cases hc : m.club = 0 <;> simp [hc]
    rw [e] at hh
    exact hh
  split at hk
  · rename_i e; subst e; cases hk
    refine CALLV_func ?_
    refine does_prize_who_c4 W m.place m.club m.nov m.hor _ s ?_
    unfold T_prize_who_c4
    refine ne4 fun s1 e1 z1 o1 o2 o3 o4 => ?_
    refine ⟨_, o3.cell, ?_⟩
    have := h s1 e1
    unfold canK at this
    refine BR_bool (fun hb => ⟨_, o4.cell, ?_⟩) (fun hb => ?_)
    · rw [hb] at this; apply endK_ret; simpa using this
    · rw [hb] at this; apply endK_ret; simpa using this
  split at hk
  · rename_i e; subst e; cases hk
    refine CALLV_func ?_
    refine does_prize_who_c3 W m.place m.club m.nov m.hor _ s ?_
    unfold T_prize_who_c3
    refine ne4 fun s1 e1 z1 o1 o2 o3 o4 => ?_
    refine ⟨_, o4.cell, ?_⟩
    have := h s1 e1
    unfold canK at this
    apply endK_ret
    simpa using this
  split at hk
  · rename_i e; subst e; cases hk
    refine CALLV_func ?_
    refine does_prize_who_c2 W m.place m.club m.nov m.hor _ s ?_
    unfold T_prize_who_c2
    refine ne4 fun s1 e1 z1 o1 o2 o3 o4 => ?_
    refine ⟨_, o3.cell, ?_⟩
    have := h s1 e1
    unfold canK at this
    apply endK_ret
    simpa using this
  split at hk
  · rename_i e; subst e; cases hk
    refine CALLV_func ?_
    refine does_prize_who_c1 W m.place m.club m.nov m.hor _ s ?_
    unfold T_prize_who_c1
    refine ne4 fun s1 e1 z1 o1 o2 o3 o4 => ?_
    have := h s1 e1
    unfold canK at this
    apply endK_ret
    simpa using this
  · cases hk
theorem whoG_some {k : Int} (h0 : 0 ≤ k) (h4 : k ≤ 4) : ∃ v, whoG k = some v := by
  unfold whoG
  split
  · exact ⟨_, rfl⟩
  split
  · exact ⟨_, rfl⟩
  split
  · exact ⟨_, rfl⟩
  split
  · exact ⟨_, rfl⟩
  split
  · exact ⟨_, rfl⟩
  · omega
theorem c_can {m z : Nat} (hp : PrO s p T) (hm : m < T.n) (hz : z < T.z) (h : ∀ s', Ext s s' → K (.bool (canP T m z)) s') : CALL Pg W F_prize_prizes_can [.pointer (some p), .int .i64 (m : Nat), .int .i64 (z : Nat)] K E s := by
  refine does_prize_prizes_can W (some p) m z _ s ?_
  unfold T_prize_prizes_can
  obtain ⟨r, r1, r2⟩ := hp.who
  obtain ⟨y, cy, y1, y2⟩ := hp.lst
  obtain ⟨x, cx, x1, x2⟩ := hp.men
  obtain ⟨ay, q0, q1, q2⟩ := pz_row y2 hz
  obtain ⟨ax, w0, w1, w2, w3, w4⟩ := man_row x2 hm
  subst q0
  subst w0
  have hv := okP_vd hp.ok
  have hk := hv.kd z hz
  obtain ⟨v, hwho⟩ := whoG_some hk.1 hk.2
  obtain ⟨e, ht, hzr⟩ := und_90
  refine ⟨_, r1, _, _, _, y1, ?_⟩
  refine IXS_nat hz ?_
  refine ⟨_, q1, _, _, _, x1, ?_⟩
  refine IXS_nat hm ?_
  refine ⟨_, w1, _, w2, _, w3, _, w4, ?_⟩
  refine LKP_v ht hzr r2 (fun v' hv' => ?_) (fun hn => by rw [hwho] at hn; cases hn)
  rw [hwho] at hv'
  cases hv'
  refine ANDS_i ⟨_, w1, _, w2, _, w3, _, w4, rfl⟩ ?_
  refine ANDS_i ⟨_, _, _, x1, rfl⟩ ?_
  refine c_kind hwho fun s1 e1 => ?_
  try simp only [TUP_mk, AGG_mk, HD_mk, NL_mk, TYI_mk, TYB_mk, TYP_mk, TYL_mk, TYS_mk, TYM_mk, SO_mk, NX_mk, endK_mk, endK_mk', add_0]
  exact h s1 e1
end
end Go.Proofs.Ytfaeokcbfnlgbaa.G

/- Arguments by their types. -/
set_option linter.unusedVariables false
set_option linter.unusedSimpArgs false
set_option maxRecDepth 20000
namespace Go.Proofs.Ytfaeokcbfnlgbaa.G
open Go.V
def bytes (l : List Nat) : List Value := l.map fun (b : Nat) => .int .u8 (b : Int)
theorem bytes_len (l : List Nat) : (bytes l).length = l.length := by simp [bytes]
theorem bytes_get {l : List Nat} {i : Nat} (h : i < (bytes l).length) : (bytes l)[i] = .int .u8 ((l[i]'(by simpa [bytes] using h) : Nat) : Int) := by simp [bytes]
section
variable {s : Hp}
theorem rds_25 (n : Nat) (cs : List Value) : Rds Pg s (n + 1) 25 cs = (cs.length = 2 ∧ Rds Pg s n 22 ((cs.drop 0).take 1) ∧ Rds Pg s n 23 ((cs.drop 1).take 1) ∧ True) := by kernel_rfl
theorem rds_48 (n : Nat) (cs : List Value) : Rds Pg s (n + 1) 48 cs = (cs.length = 4 ∧ Rds Pg s n 3 ((cs.drop 0).take 1) ∧ Rds Pg s n 3 ((cs.drop 1).take 1) ∧ Rds Pg s n 4 ((cs.drop 2).take 1) ∧ Rds Pg s n 4 ((cs.drop 3).take 1) ∧ True) := by kernel_rfl
theorem rds_50 (n : Nat) (cs : List Value) : Rds Pg s (n + 1) 50 cs = (cs.length = 2 ∧ Rds Pg s n 3 ((cs.drop 0).take 1) ∧ Rds Pg s n 3 ((cs.drop 1).take 1) ∧ True) := by kernel_rfl
theorem rds_4 (n : Nat) (cs : List Value) : Rds Pg s (n + 1) 4 cs = (∃ b, cs = [.bool b]) := by kernel_rfl
theorem rds_3 (n : Nat) (cs : List Value) : Rds Pg s (n + 1) 3 cs = (∃ m, cs = [.int .i64 m] ∧ (Lit.int .i64 m).wf = true) := by kernel_rfl
theorem rds_5 (n : Nat) (cs : List Value) : Rds Pg s (n + 1) 5 cs = (∃ m, cs = [.int .u8 m] ∧ (Lit.int .u8 m).wf = true) := by kernel_rfl
theorem rds_64 (n : Nat) (cs : List Value) : Rds Pg s (n + 1) 64 cs = (∃ m, cs = [.int .u16 m] ∧ (Lit.int .u16 m).wf = true) := by kernel_rfl
theorem rds_22 (n : Nat) (cs : List Value) : Rds Pg s (n + 1) 22 cs = (∃ a l c, cs = [.slice a l c] ∧ l ≤ c ∧ c ≤ maxLen ∧ (a = none → l = 0 ∧ c = 0) ∧ ∀ i, i < l → ∃ b es, a = some b ∧ es.length = 4 ∧ (∀ j v, es[j]? = some v → cellAt s ((b.add (i * 4)).add j) = some v) ∧ Rds Pg s n 48 es) := by kernel_rfl
theorem rds_23 (n : Nat) (cs : List Value) : Rds Pg s (n + 1) 23 cs = (∃ a l c, cs = [.slice a l c] ∧ l ≤ c ∧ c ≤ maxLen ∧ (a = none → l = 0 ∧ c = 0) ∧ ∀ i, i < l → ∃ b es, a = some b ∧ es.length = 2 ∧ (∀ j v, es[j]? = some v → cellAt s ((b.add (i * 2)).add j) = some v) ∧ Rds Pg s n 50 es) := by kernel_rfl
theorem rds_26 (n : Nat) (cs : List Value) : Rds Pg s (n + 1) 26 cs = (∃ a l c, cs = [.slice a l c] ∧ l ≤ c ∧ c ≤ maxLen ∧ (a = none → l = 0 ∧ c = 0) ∧ ∀ i, i < l → ∃ b es, a = some b ∧ es.length = 1 ∧ (∀ j v, es[j]? = some v → cellAt s ((b.add (i * 1)).add j) = some v) ∧ Rds Pg s n 3 es) := by kernel_rfl
theorem rds_53 (n : Nat) (cs : List Value) : Rds Pg s (n + 1) 53 cs = (∃ a l c, cs = [.slice a l c] ∧ l ≤ c ∧ c ≤ maxLen ∧ (a = none → l = 0 ∧ c = 0) ∧ ∀ i, i < l → ∃ b es, a = some b ∧ es.length = 1 ∧ (∀ j v, es[j]? = some v → cellAt s ((b.add (i * 1)).add j) = some v) ∧ Rds Pg s n 5 es) := by kernel_rfl
theorem ag_25 : isAg Pg 25 = true := by kernel_rfl
theorem ag_3 : isAg Pg 3 = false := by kernel_rfl
theorem ag_4 : isAg Pg 4 = false := by kernel_rfl
theorem ag_5 : isAg Pg 5 = false := by kernel_rfl
theorem ag_64 : isAg Pg 64 = false := by kernel_rfl
theorem ag_26 : isAg Pg 26 = false := by kernel_rfl
theorem ag_53 : isAg Pg 53 = false := by kernel_rfl
theorem choose_of {α : Type} {P : Nat → α → Prop} : ∀ l : Nat, (∀ i, i < l → ∃ m, P i m) → ∃ ms : List α, ms.length = l ∧ ∀ i (h : i < ms.length), P i ms[i]
  | 0, _ => ⟨[], rfl, fun i h => by simp at h⟩
  | l + 1, h => by
    obtain ⟨ms, h1, h2⟩ := choose_of l (fun i hi => h i (by omega))
    obtain ⟨m, hm⟩ := h l (by omega)
    refine ⟨ms ++ [m], by simp [h1], fun i hi => ?_⟩
    by_cases hil : i < ms.length
    · rw [List.getElem_append_left hil]; exact h2 i hil
    · simp at hi
      have : i = ms.length := by omega
      subst this
      rw [List.getElem_append_right (Nat.le_refl _)]
      simp [h1]; exact hm
theorem mn_rds {n : Nat} {es : List Value} (h : Rds Pg s (n + 2) 48 es) : ∃ m : Mn, es = [.int .i64 m.place, .int .i64 m.club, .bool m.nov, .bool m.hor] := by
  rw [rds_48, rds_3, rds_3, rds_4, rds_4] at h
  obtain ⟨h0, ⟨a, h1, _⟩, ⟨b, h2, _⟩, ⟨c, h3⟩, ⟨d, h4⟩, _⟩ := h
  match es, h0 with
  | [p, q, u, w], _ =>
    simp at h1 h2 h3 h4
    subst h1; subst h2; subst h3; subst h4
    exact ⟨⟨a, b, c, d⟩, rfl⟩
theorem pz_rds {n : Nat} {es : List Value} (h : Rds Pg s (n + 2) 50 es) : ∃ m : Pz, es = [.int .i64 m.kind, .int .i64 m.worth] := by
  rw [rds_50, rds_3, rds_3] at h
  obtain ⟨h0, ⟨a, h1, _⟩, ⟨b, h2, _⟩, _⟩ := h
  match es, h0 with
  | [p, q], _ =>
    simp at h1 h2
    subst h1; subst h2
    exact ⟨⟨a, b⟩, rfl⟩
theorem prizes_rd {v : Value} (h : RdV Pg s 25 v) : ∃ x c y c' T, v = .agg #[.slice x (T : PT).n c, .slice y T.z c'] ∧ MnAt s x T.men ∧ PzAt s y T.list := by
  obtain ⟨cs, rfl, h⟩ := h
  rw [ag_25, rds_25, rds_22, rds_23] at *
  obtain ⟨h0, ⟨a, l, c, h3, _, _, _, h4⟩, ⟨b, k, c', h5, _, _, _, h6⟩, _⟩ := h
  match cs, h0 with
  | [u, w], _ =>
    simp at h3 h5
    subst h3; subst h5
    have key1 : ∀ i, i < l → ∃ z : Mn, ∃ d, a = some d ∧ cellAt s ((d.add (i * 4)).add 0) = some (.int .i64 z.place) ∧ cellAt s ((d.add (i * 4)).add 1) = some (.int .i64 z.club) ∧ cellAt s ((d.add (i * 4)).add 2) = some (.bool z.nov) ∧ cellAt s ((d.add (i * 4)).add 3) = some (.bool z.hor) := by
      intro i hi
      obtain ⟨d, es, hd, hes, hc, hr⟩ := h4 i hi
      obtain ⟨z, rfl⟩ := mn_rds (n := 4) hr
      exact ⟨z, d, hd, hc 0 _ rfl, hc 1 _ rfl, hc 2 _ rfl, hc 3 _ rfl⟩
    have key2 : ∀ i, i < k → ∃ z : Pz, ∃ d, b = some d ∧ cellAt s ((d.add (i * 2)).add 0) = some (.int .i64 z.kind) ∧ cellAt s ((d.add (i * 2)).add 1) = some (.int .i64 z.worth) := by
      intro i hi
      obtain ⟨d, es, hd, hes, hc, hr⟩ := h6 i hi
      obtain ⟨z, rfl⟩ := pz_rds (n := 4) hr
      exact ⟨z, d, hd, hc 0 _ rfl, hc 1 _ rfl⟩
    obtain ⟨os, hl, ho⟩ := choose_of l key1
    obtain ⟨ss, hk, hs⟩ := choose_of k key2
    subst hl
    subst hk
    exact ⟨a, c, b, c', ⟨os, ss⟩, rfl, fun i hi => ho i hi, fun i hi => hs i hi⟩
theorem ints_rd {v : Value} (h : RdV Pg s 26 v) : ∃ x c ds, v = .slice x (ds : List Int).length c ∧ RowAt s x (ints ds) ∧ ds.length ≤ c ∧ c ≤ maxLen := by
  obtain ⟨cs, rfl, h⟩ := h
  rw [ag_26, rds_26] at *
  obtain ⟨a, l, c, rfl, h2, h3, h4, h5⟩ := h
  have key : ∀ i, i < l → ∃ z : Int, ∃ d, a = some d ∧ cellAt s (d.add (i * 1)) = some (.int .i64 z) := by
    intro i hi
    obtain ⟨d, es, hd, hes, hc, hr⟩ := h5 i hi
    rw [rds_3] at hr
    obtain ⟨z, rfl, _⟩ := hr
    exact ⟨z, d, hd, hc 0 _ rfl⟩
  obtain ⟨os, hl, ho⟩ := choose_of l key
  subst hl
  refine ⟨a, c, os, rfl, fun i hi => ?_, h2, h3⟩
  have hi' : i < os.length := by rw [ints_len] at hi; exact hi
  rw [ints_get hi]
  exact ho i hi'
theorem bool_rd {v : Value} (h : RdV Pg s 4 v) : ∃ b, v = .bool b := by
  obtain ⟨cs, rfl, h⟩ := h
  rw [ag_4, rds_4] at *
  obtain ⟨b, rfl⟩ := h
  exact ⟨b, rfl⟩
theorem int_rd {v : Value} (h : RdV Pg s 3 v) : ∃ n, v = .int .i64 n := by
  obtain ⟨cs, rfl, h⟩ := h
  rw [ag_3, rds_3] at *
  obtain ⟨m, rfl, hw⟩ := h
  exact ⟨m, rfl⟩
theorem u8_wf {m : Int} (h : (Lit.int .u8 m).wf = true) : 0 ≤ m ∧ m ≤ 255 := by
  simp [Lit.wf, IntKind.min, IntKind.max, IntKind.bits, IntKind.signed] at h; omega
theorem u16_wf {m : Int} (h : (Lit.int .u16 m).wf = true) : 0 ≤ m ∧ m ≤ 65535 := by
  simp [Lit.wf, IntKind.min, IntKind.max, IntKind.bits, IntKind.signed] at h; omega
theorem i64_wf {m : Int} (h : (Lit.int .i64 m).wf = true) : -9223372036854775808 ≤ m ∧ m ≤ 9223372036854775807 := by
  simp [Lit.wf, IntKind.min, IntKind.max, IntKind.bits, IntKind.signed] at h; omega
theorem u8_rd {v : Value} (h : RdV Pg s 5 v) : ∃ n : Nat, v = .int .u8 n ∧ n < 256 := by
  obtain ⟨cs, rfl, h⟩ := h
  rw [ag_5, rds_5] at *
  obtain ⟨m, rfl, hw⟩ := h
  obtain ⟨h1, h2⟩ := u8_wf hw
  obtain ⟨n, rfl⟩ := Int.eq_ofNat_of_zero_le h1
  exact ⟨n, rfl, by omega⟩
theorem u16_rd {v : Value} (h : RdV Pg s 64 v) : ∃ n : Nat, v = .int .u16 n ∧ n < 65536 := by
  obtain ⟨cs, rfl, h⟩ := h
  rw [ag_64, rds_64] at *
  obtain ⟨m, rfl, hw⟩ := h
  obtain ⟨h1, h2⟩ := u16_wf hw
  obtain ⟨n, rfl⟩ := Int.eq_ofNat_of_zero_le h1
  exact ⟨n, rfl, by omega⟩
theorem u8s_rd {v : Value} (h : RdV Pg s 53 v) : ∃ x c bs, v = .slice x (bs : List Nat).length c ∧ RowAt s x (bytes bs) ∧ (∀ b ∈ bs, b < 256) ∧ bs.length ≤ maxLen := by
  obtain ⟨cs, rfl, h⟩ := h
  rw [ag_53, rds_53] at *
  obtain ⟨a, l, c, rfl, h2, h3, h4, h5⟩ := h
  have key : ∀ i, i < l → ∃ z : Nat, z < 256 ∧ ∃ d, a = some d ∧ cellAt s (d.add (i * 1)) = some (.int .u8 z) := by
    intro i hi
    obtain ⟨d, es, hd, hes, hc, hr⟩ := h5 i hi
    rw [rds_5] at hr
    obtain ⟨z, rfl, hw⟩ := hr
    obtain ⟨w1, w2⟩ := u8_wf hw
    obtain ⟨n, rfl⟩ := Int.eq_ofNat_of_zero_le w1
    exact ⟨n, by omega, d, hd, hc 0 _ rfl⟩
  obtain ⟨bs, hl, hb⟩ := choose_of l key
  subst hl
  refine ⟨a, c, bs, rfl, fun i hi => ?_, fun b hb' => ?_, Nat.le_trans h2 h3⟩
  · have hi' : i < bs.length := by rw [bytes_len] at hi; exact hi
    rw [bytes_get hi]
    exact (hb i hi').2
  · obtain ⟨i, hi, rfl⟩ := List.mem_iff_getElem.1 hb'
    exact (hb i hi).1
end
end Go.Proofs.Ytfaeokcbfnlgbaa.G

/- Prize: prizes are opened. -/
set_option linter.unusedSimpArgs false
set_option linter.unusedVariables false
set_option maxRecDepth 20000
namespace Go.Proofs.Ytfaeokcbfnlgbaa.G
open Go.V
theorem zc_48 : zc Pg 48 = [.int .i64 0, .int .i64 0, .bool false, .bool false] := by kernel_rfl
theorem zc_50 : zc Pg 50 = [.int .i64 0, .int .i64 0] := by kernel_rfl
/-- Who is at a place, of some. -/
def atL (l : List Mn) (j : Int) : Int := match l.findIdx? (fun m => decide (m.place = j)) with | some i => (i : Nat) | none => -1
theorem atL_none {l : List Mn} {j : Int} : (atL l j == -1) = l.all (fun x => decide (x.place ≠ j)) := by
  unfold atL
  cases h : l.findIdx? (fun m => decide (m.place = j)) with
  | some i =>
    have hne : (((i : Nat) : Int) == -1) = false := by
      have : ¬ ((i : Nat) : Int) = -1 := by omega
      simp
    show (((i : Nat) : Int) == -1) = _
    rw [hne]
    obtain ⟨h1, h2, _⟩ := List.findIdx?_eq_some_iff_getElem.1 h
    have : l.all (fun x => decide (x.place ≠ j)) = false := by
      rw [List.all_eq_false]
      exact ⟨l[i], List.getElem_mem h1, by simpa using h2⟩
    rw [this]
  | none =>
    show ((-1 : Int) == -1) = _
    have h2 := List.findIdx?_eq_none_iff.1 h
    have : l.all (fun x => decide (x.place ≠ j)) = true := by
      rw [List.all_eq_true]
      intro x hx
      have := h2 x hx
      simpa using this
    rw [this]; rfl
theorem atL_app {l : List Mn} {m : Mn} {j : Int} (h : l.all (fun x => decide (x.place ≠ m.place)) = true) : atL (l ++ [m]) j = if j = m.place then ((l.length : Nat) : Int) else atL l j := by
  unfold atL
  rw [List.findIdx?_append]
  by_cases hj : j = m.place
  · subst hj
    have : l.findIdx? (fun x => decide (x.place = m.place)) = none := by
      rw [List.findIdx?_eq_none_iff]
      intro x hx
      have := List.all_eq_true.1 h x hx
      simpa using this
    rw [this, if_pos rfl]
    simp [List.findIdx?_cons]
  · rw [if_neg hj]
    have : ([m] : List Mn).findIdx? (fun x => decide (x.place = j)) = none := by
      rw [List.findIdx?_eq_none_iff]
      intro x hx
      simp at hx; subst hx
      simpa using fun e => hj e.symm
    rw [this]
    cases l.findIdx? (fun x => decide (x.place = j)) <;> rfl
theorem atL_idx {T : PT} {j : Int} (h : idx T j < T.n) : atL T.men j = (idx T j : Nat) := by
  unfold atL idx
  have h1 : T.men.findIdx? (fun m => decide (m.place = j)) = some (T.men.findIdx fun m => decide (m.place = j)) := by
    rw [List.findIdx?_eq_some_iff_findIdx_eq]
    exact ⟨h, rfl⟩
  rw [h1]
theorem okMs_step {n k : Nat} {l : List Mn} (hk : k < l.length) : okMs n (l.take k) (l.drop k) = (okMn n (l.take k) l[k] && okMs n (l.take (k + 1)) (l.drop (k + 1))) := by
  rw [List.drop_eq_getElem_cons hk]
  conv => lhs; unfold okMs
  rw [List.take_add_one, List.getElem?_eq_getElem hk]
  rfl
section
variable {W : World} {K : VK} {E : List PanicEntry → Hp → Prop} {s : Hp} {T : PT}
theorem p3_ne {P : Addr} {i j : Nat} (h : i ≠ j) : ((P.add 3).add i).block ≠ ((P.add 3).add j).block ∨ ((P.add 3).add i).off ≠ ((P.add 3).add j).off := .inr (by simp only [add_of]; omega)
theorem p3_kp {P b : Addr} {i : Nat} {t : Hp} {v w : Value} (hb : b.block ≠ P.block ∨ b.off < P.off + 3) (ho : Own t b v) : Own (setC t ((P.add 3).add i) w) b v := by
  refine own_set_ne ?_ ho
  rw [add_blk, add_blk, add_of, add_of]
  rcases hb with h | h
  · exact .inl h
  · exact .inr (by omega)
theorem IXS_at {x : Option Addr} {a : Addr} {l i es : Nat} {K : Addr → Hp → Prop} {s : Hp} (hx : x = some a) (h : i < l) (hk : K (a.add (i * es)) s) : IXS x l (i : Int) es K s := by
  subst hx; exact IXS_nat h hk
theorem p3_blk {P : Addr} {n i : Nat} (hP : P.block = n) : n ≤ ((P.add 3).add i).block := by rw [add_blk, add_blk, hP]; exact Nat.le_refl _
theorem open_run {A P : Addr} {s0 : Hp} {x y : Option Addr} {c1 c2 r : Nat} (e : Ext s0 s) (hP : P.block = s0.size) (hA0 : cellAt s0 (A.add 0) = some (.slice x T.n c1)) (hA1 : cellAt s0 (A.add 1) = some (.slice y T.z c2))
    (hx : MnAt s0 x T.men) (hy : PzAt s0 y T.list) (hm : MapI s0 r whoG) (p0 : Own s (P.add 0) (.slice x T.n c1)) (p1 : Own s (P.add 1) (.slice y T.z c2)) (p2 : Own s (P.add 2) (.map (some r))) (p3 : ∀ k : Nat, k < 9 → ∃ v, Own s ((P.add 3).add k) v)
    (hn : 1 ≤ T.n ∧ T.n ≤ 8) (hz : T.z ≤ 6) (h1 : okP T = true → ∀ t, Ext s0 t → PrO t P T → K (.pointer (some P)) t) (h2 : okP T = false → ∀ t, Ext s0 t → E (pn 1) t) : L_prize_open_0 W (endK K E) A P T.n 0 s := by
  have low : ∀ j, j < 3 → (P.add j).block ≠ P.block ∨ (P.add j).off < P.off + 3 := fun j hj => .inr (by rw [add_of]; omega)
  refine L_prize_open_0_rule W _ A P T.n (fun n t => Ext s0 t ∧ Own t (P.add 0) (.slice x T.n c1) ∧ Own t (P.add 1) (.slice y T.z c2) ∧ Own t (P.add 2) (.map (some r)) ∧ ∃ k : Nat, k ≤ 9 ∧ n = k ∧ (∀ i, i < k → Own t ((P.add 3).add i) (.int .i64 (-1))) ∧ ∀ i, k ≤ i → i < 9 → ∃ v, Own t ((P.add 3).add i) v) (fun n _ => (9 - n).toNat) 0 s ⟨e, p0, p1, p2, 0, by omega, rfl, fun i hi => by omega, fun i _ hi => p3 i hi⟩ ?_
  rintro n t ⟨et, q0, q1, q2, k, hk, rfl, hdone, hrest⟩
  unfold B_prize_open_0
  refine BR_dec (fun hlt => ?_) (fun hlt => ?_)
  · have hk9 : k < 9 := by omega
    refine ⟨⟨by omega, by omega⟩, ?_⟩
    rw [toNat_nat, Nat.mul_one]
    obtain ⟨v, hv⟩ := hrest k (Nat.le_refl _) hk9
    refine WR_own hv rfl ?_
    refine ⟨rfl, _, rfl, ⟨Ext.setC et (p3_blk hP), p3_kp (low 0 (by omega)) q0, p3_kp (low 1 (by omega)) q1, p3_kp (low 2 (by omega)) q2, k + 1, hk9, wrap_succ (by omega), fun i hi => ?_, fun i hi1 hi2 => ?_⟩, ms_succ (n := 9) hk9 (by decide)⟩
    · by_cases h : i = k
      · subst h; exact own_set hv
      · exact own_set_ne (p3_ne h) (hdone i (by omega))
    · obtain ⟨v', hv'⟩ := hrest i (by omega) hi2
      exact ⟨v', own_set_ne (p3_ne (by omega)) hv'⟩
  have hk9 : k = 9 := by omega
  subst hk9
  refine ⟨_, _, _, et.cell hA0, ?_⟩
  have hokP : okP T = (okMs T.n [] T.men && T.list.all okZ) := by
    unfold okP
    rw [decide_eq_true (by omega : 1 ≤ (T.n : Int) ∧ (T.n : Int) ≤ 8), decide_eq_true (show T.list.length ≤ 6 from hz)]
    rfl
  refine L_prize_open_1_rule W _ A P T.n x T.n c1 T.n (fun n t => Ext s0 t ∧ Own t (P.add 0) (.slice x T.n c1) ∧ Own t (P.add 1) (.slice y T.z c2) ∧ Own t (P.add 2) (.map (some r)) ∧ ∃ k : Nat, k ≤ T.n ∧ n = k ∧ okMs T.n [] T.men = okMs T.n (T.men.take k) (T.men.drop k) ∧ ∀ i : Nat, i < 9 → Own t ((P.add 3).add i) (.int .i64 (atL (T.men.take k) i))) (fun n _ => (T.n - n).toNat) 0 t
    ⟨et, q0, q1, q2, 0, by omega, rfl, rfl, fun i hi => hdone i hi⟩ ?_
  rintro n t ⟨et, q0, q1, q2, k, hk, rfl, hok, hat⟩
  unfold B_prize_open_1
  refine BR_dec (fun hlt => ?_) (fun hlt => ?_)
  · have hkn : k < T.n := by omega
    obtain ⟨ax, w0, w1, w2, w3, w4⟩ := man_row (hx.ext et) hkn
    refine IXS_at w0 hkn ?_
    refine ⟨_, w1, _, w2, _, w3, _, w4, ?_⟩
    obtain ⟨m, hm'⟩ : ∃ m, T.man k = m := ⟨_, rfl⟩
    rw [hm'] at w1 w2 w3 w4
    rw [hm']
    have hmk : T.men[k]'hkn = m := by rw [← hm']; unfold PT.man; rw [getD_lt hkn]
    have hstep := okMs_step (n := T.n) (l := T.men) hkn
    rw [hmk] at hstep
    generalize hnx : (fun vs : List Value => _) = nx
    refine nw4 zc_48 rfl rfl rfl rfl fun t2 e2 z2 o1 o2 o3 o4 => ?_
    refine ⟨_, o1.cell, ?_⟩
    refine c_within ?_
    try simp only [TUP_mk, AGG_mk, HD_mk, NL_mk, TYI_mk, TYB_mk, TYP_mk, TYL_mk, TYS_mk, TYM_mk, SO_mk, NX_mk, endK_mk, endK_mk', add_0]
    have et2 := et.trans e2
    have fin : ∀ b, (b = true → okMn T.n (T.men.take k) m = true) → (b = false → okMn T.n (T.men.take k) m = false) → J_prize_open_1 W (endK K E) b t.size P k A T.n x T.n c1 T.n nx t2 := by
      intro b hb1 hb2
      unfold J_prize_open_1
      refine c_must (fun hb => ?_) (fun hb => h2 ?_ t2 et2)
      · try simp only [TUP_mk, AGG_mk, HD_mk, NL_mk, TYI_mk, TYB_mk, TYP_mk, TYL_mk, TYS_mk, TYM_mk, SO_mk, NX_mk, endK_mk, endK_mk', add_0]
        refine ⟨_, o1.cell, ?_⟩
        have hmn := hb1 hb
        have hmn' := hmn
        unfold okMn at hmn
        simp only [Bool.and_eq_true, decide_eq_true_eq] at hmn
        obtain ⟨g1, g2, g3⟩ := hmn
        refine ⟨⟨by omega, by omega⟩, ?_⟩
        obtain ⟨pl, hpl⟩ : ∃ pl : Nat, m.place = pl := ⟨m.place.toNat, by omega⟩
        rw [hpl, toNat_nat, Nat.mul_one]
        have hpl9 : pl < 9 := by omega
        refine WR_own (e2.own (hat pl hpl9)) rfl ?_
        rw [← hnx]
        refine ⟨_, rfl, ⟨Ext.setC et2 (p3_blk hP), p3_kp (low 0 (by omega)) (e2.own q0), p3_kp (low 1 (by omega)) (e2.own q1), p3_kp (low 2 (by omega)) (e2.own q2), k + 1, hkn, wrap_succ (by omega), ?_, fun i hi => ?_⟩, ms_succ hkn (by omega)⟩
        · rw [hok, hstep, hmn', Bool.true_and]
        · have htake : T.men.take (k + 1) = T.men.take k ++ [m] := by rw [List.take_add_one, List.getElem?_eq_getElem hkn, hmk]; rfl
          rw [htake, atL_app g2]
          have hlen : (T.men.take k).length = k := by rw [List.length_take]; exact Nat.min_eq_left hk
          rw [hlen]
          by_cases h : i = pl
          · subst h
            rw [if_pos hpl.symm]
            exact own_set (e2.own (hat i hi))
          · rw [if_neg (by omega)]
            exact own_set_ne (p3_ne h) (e2.own (hat i hi))
      · rw [hokP, hok, hstep, hb2 hb]; rfl
    have fin2 : ∀ b, decide (1 ≤ m.place ∧ m.place ≤ (T.n : Int)) = true → (b = (T.men.take k).all (fun x => decide (x.place ≠ m.place))) → J_prize_open_2 W (endK K E) b t.size P k A T.n x T.n c1 T.n nx t2 := by
      intro b hd hb
      unfold J_prize_open_2
      refine BR_bool (fun h => ?_) (fun h => ?_)
      · refine ⟨_, o2.cell, ?_⟩
        refine c_within ?_
        try simp only [TUP_mk, AGG_mk, HD_mk, NL_mk, TYI_mk, TYB_mk, TYP_mk, TYL_mk, TYS_mk, TYM_mk, SO_mk, NX_mk, endK_mk, endK_mk', add_0]
        refine fin _ (fun h3 => ?_) (fun h3 => ?_)
        · unfold okMn; rw [hd, ← hb, h, h3]; rfl
        · unfold okMn; rw [hd, ← hb, h, h3]; rfl
      · refine fin _ (fun h3 => by cases h3) (fun h3 => ?_)
        unfold okMn; rw [hd, ← hb, h]; rfl
    refine BR_bool (fun hd => ?_) (fun hd => ?_)
    · have hd' := of_decide_eq_true hd
      refine ⟨_, o1.cell, ?_⟩
      refine ⟨⟨by omega, by omega⟩, ?_⟩
      obtain ⟨pl, hpl⟩ : ∃ pl : Nat, m.place = pl := ⟨m.place.toNat, by omega⟩
      rw [hpl, toNat_nat, Nat.mul_one]
      refine ⟨_, (e2.own (hat pl (by omega))).cell, ?_⟩
      refine fin2 _ hd ?_
      rw [← hpl]; exact atL_none
    · unfold J_prize_open_2
      refine BR_ff rfl ?_
      refine fin _ (fun h3 => by cases h3) (fun h3 => ?_)
      unfold okMn; rw [hd]; rfl
  have hkn : k = T.n := by omega
  subst hkn
  refine ⟨_, _, _, et.cell hA1, ?_⟩
  have htl : T.men.take T.n = T.men := List.take_length
  have hdl : T.men.drop T.n = [] := List.drop_length
  rw [htl] at hok hat
  rw [hdl] at hok
  have hokM : okMs T.n [] T.men = true := hok
  refine L_prize_open_2_rule W _ P y T.z c2 T.z (fun n t => Ext s0 t ∧ Own t (P.add 0) (.slice x T.n c1) ∧ Own t (P.add 1) (.slice y T.z c2) ∧ Own t (P.add 2) (.map (some r)) ∧ (∀ i : Nat, i < 9 → Own t ((P.add 3).add i) (.int .i64 (atL T.men i))) ∧ ∃ k : Nat, k ≤ T.z ∧ n = k ∧ ∀ j, j < k → okZ (T.pz j) = true) (fun n _ => (T.z - n).toNat) 0 t
    ⟨et, q0, q1, q2, hat, 0, by omega, rfl, fun i hi => by omega⟩ ?_
  rintro n t ⟨et, q0, q1, q2, hat, k, hk, rfl, hall⟩
  unfold B_prize_open_2
  refine BR_dec (fun hlt => ?_) (fun hlt => ?_)
  · have hkz : k < T.z := by omega
    obtain ⟨ay, w0, w1, w2⟩ := pz_row (hy.ext et) hkz
    refine IXS_at w0 hkz ?_
    refine ⟨_, w1, _, w2, ?_⟩
    generalize hnx : (fun vs : List Value => _) = nx
    refine nw2 zc_50 rfl rfl fun t2 e2 z2 o1 o2 => ?_
    have et2 := et.trans e2
    refine ⟨_, (e2.own q2).cell, _, o1.cell, ?_⟩
    have hlist : okZ (T.pz k) = false → okP T = false := fun hf => by
      rw [hokP]
      have : T.list.all okZ = false := by
        rw [List.all_eq_false]
        refine ⟨T.pz k, ?_, by rw [hf]; simp⟩
        unfold PT.pz; rw [getD_lt hkz]; exact List.getElem_mem hkz
      rw [this, Bool.and_false]
    have fin : ∀ b, (b = okZ (T.pz k)) → J_prize_open_3 W (endK K E) b P y T.z c2 T.z nx k t2 := by
      intro b hb
      unfold J_prize_open_3
      refine c_must (fun h => ?_) (fun h => h2 (hlist (by rw [← hb]; exact h)) t2 et2)
      try simp only [TUP_mk, AGG_mk, HD_mk, NL_mk, TYI_mk, TYB_mk, TYP_mk, TYL_mk, TYS_mk, TYM_mk, SO_mk, NX_mk, endK_mk, endK_mk', add_0]
      rw [← hnx]
      refine ⟨_, rfl, ⟨et2, e2.own q0, e2.own q1, e2.own q2, fun i hi => e2.own (hat i hi), k + 1, hkz, wrap_succ (by omega), fun j hj => ?_⟩, ms_succ hkz (by omega)⟩
      by_cases h3 : j = k
      · subst h3; rw [← hb]; exact h
      · exact hall j (by omega)
    obtain ⟨e90, ht, hzr⟩ := und_90
    refine LKP_v ht hzr (hm.ext et2) (fun v hv => ?_) (fun hv => ?_)
    · try simp only [TUP_mk, AGG_mk, HD_mk, NL_mk, TYI_mk, TYB_mk, TYP_mk, TYL_mk, TYS_mk, TYM_mk, SO_mk, NX_mk, endK_mk, endK_mk', add_0]
      refine ⟨_, o2.cell, ?_⟩
      refine c_within ?_
      try simp only [TUP_mk, AGG_mk, HD_mk, NL_mk, TYI_mk, TYB_mk, TYP_mk, TYL_mk, TYS_mk, TYM_mk, SO_mk, NX_mk, endK_mk, endK_mk', add_0]
      refine fin _ ?_
      unfold okZ
      have : 0 ≤ (T.pz k).kind ∧ (T.pz k).kind ≤ 4 := by
        unfold whoG at hv
        split at hv
        · omega
        split at hv
        · omega
        split at hv
        · omega
        split at hv
        · omega
        split at hv
        · omega
        · cases hv
      rw [decide_eq_true this]; rfl
    · try simp only [TUP_mk, AGG_mk, HD_mk, NL_mk, TYI_mk, TYB_mk, TYP_mk, TYL_mk, TYS_mk, TYM_mk, SO_mk, NX_mk, endK_mk, endK_mk', add_0]
      refine fin _ ?_
      unfold okZ
      have : ¬ (0 ≤ (T.pz k).kind ∧ (T.pz k).kind ≤ 4) := fun hh => by
        obtain ⟨v, hv2⟩ := whoG_some hh.1 hh.2
        rw [hv] at hv2; cases hv2
      rw [decide_eq_false this]; rfl
  have hkz : k = T.z := by omega
  subst hkz
  have hokl : T.list.all okZ = true := by
    rw [List.all_eq_true]
    intro z hz'
    obtain ⟨j, hj, rfl⟩ := List.mem_iff_getElem.1 hz'
    have := hall j hj
    unfold PT.pz at this
    rwa [getD_lt hj] at this
  have hokT : okP T = true := by rw [hokP, hokM, hokl]; rfl
  have hv := okP_vd hokT
  refine h1 hokT t et ⟨hokT, ⟨x, c1, q0.cell, hx.ext et⟩, ⟨y, c2, q1.cell, hy.ext et⟩, ⟨r, q2.cell, hm.ext et⟩, fun k hk => ?_⟩
  have := (hat (k + 1) (by omega)).cell
  rw [atL_idx (hv.sur _ (by omega) (by omega)).1] at this
  exact this
theorem c_open {x y : Option Addr} {c1 c2 : Nat} (hx : MnAt s x T.men) (hy : PzAt s y T.list) (h1 : okP T = true → ∀ s' p, Ext s s' → PrO s' p T → K (.pointer (some p)) s') (h2 : okP T = false → ∀ s', Ext s s' → E (pn 1) s') :
    CALL Pg W F_prize_open [.agg #[.slice x T.n c1, .slice y T.z c2]] K E s := by
  refine does_prize_open W x T.n c1 y T.z c2 _ s ?_
  unfold T_prize_open
  refine ne2 fun s1 e1 z1 o1 o2 => ?_
  refine ⟨_, _, _, o1.cell, _, _, _, o2.cell, ?_⟩
  refine c_who fun s2 r e2 m2 => ?_
  try simp only [TUP_mk, AGG_mk, HD_mk, NL_mk, TYI_mk, TYB_mk, TYP_mk, TYL_mk, TYS_mk, TYM_mk, SO_mk, NX_mk, endK_mk, endK_mk', add_0]
  have e12 := e1.trans e2
  refine ANDS_i ⟨_, _, _, e2.cell o1.cell, _, _, _, e2.cell o2.cell, rfl⟩ ?_
  refine NEW_rule fun s3 e3 z3 n3 _ => ?_
  have e13 := e12.trans e3
  have e23 := e2.trans e3
  refine ⟨_, _, _, e23.cell o1.cell, ?_⟩
  dsimp only
  refine c_within ?_
  try simp only [TUP_mk, AGG_mk, HD_mk, NL_mk, TYI_mk, TYB_mk, TYP_mk, TYL_mk, TYS_mk, TYM_mk, SO_mk, NX_mk, endK_mk, endK_mk', add_0]
  have no : ¬ ((1 ≤ T.n ∧ T.n ≤ 8) ∧ T.z ≤ 6) → okP T = false := fun hn => by
    cases h : okP T with
    | false => rfl
    | true => exact absurd ⟨(okP_iff.1 h).1, (okP_iff.1 h).2.1⟩ hn
  have first : ∀ b, (b = decide ((1 ≤ T.n ∧ T.n ≤ 8) ∧ T.z ≤ 6)) → J_prize_open_0 W (endK K E) b s.size s2.size T.n s3 := by
    intro b hb
    unfold J_prize_open_0
    refine c_must (fun h => ?_) (fun h => h2 (no ?_) s3 e13)
    · rw [h] at hb
      have hb' := of_decide_eq_true hb.symm
      try simp only [TUP_mk, AGG_mk, HD_mk, NL_mk, TYI_mk, TYB_mk, TYP_mk, TYL_mk, TYS_mk, TYM_mk, SO_mk, NX_mk, endK_mk, endK_mk', add_0]
      refine open_run (s0 := s2) (x := x) (y := y) (c1 := c1) (c2 := c2) (r := r) e3 rfl (e2.cell o1.cell) (e2.cell o2.cell) (hx.ext e12) (hy.ext e12) m2 ?_ ?_ ?_ ?_ hb'.1 hb'.2 (fun hok t et hp => h1 hok t _ (e12.trans et) hp) (fun hok t et => h2 hok t (e12.trans et))
      · rw [add_nil]; exact n3 0 _ rfl
      · rw [add_nil]; exact n3 1 _ rfl
      · rw [add_nil]; exact n3 2 _ rfl
      · intro k hk
        refine ⟨.int .i64 0, ?_⟩
        rw [addr_add, add_nil]
        refine n3 (0 + (3 + k)) _ ?_
        have : k = 0 ∨ k = 1 ∨ k = 2 ∨ k = 3 ∨ k = 4 ∨ k = 5 ∨ k = 6 ∨ k = 7 ∨ k = 8 := by omega
        rcases this with rfl | rfl | rfl | rfl | rfl | rfl | rfl | rfl | rfl <;> rfl
    · intro hn
      rw [decide_eq_true hn] at hb
      rw [hb] at h; cases h
  refine BR_dec (fun hn => ?_) (fun hn => ?_)
  · refine ⟨_, _, _, e23.cell o2.cell, ?_⟩
    refine first _ ?_
    congr 1
    apply propext
    constructor
    · exact fun h => ⟨by omega, by omega⟩
    · exact fun h => by omega
  · refine first _ ?_
    exact (decide_eq_false (fun h => hn (by omega))).symm
end
end Go.Proofs.Ytfaeokcbfnlgbaa.G

/- Prize: all by their places; who gets a prize. -/
set_option linter.unusedSimpArgs false
set_option linter.unusedVariables false
set_option maxRecDepth 20000
namespace Go.Proofs.Ytfaeokcbfnlgbaa.G
open Go.V
theorem zc_3 : zc Pg 3 = [.int .i64 0] := by kernel_rfl
/-- A function that says who is wanted. -/
structure IsFn (W : World) (v : Value) (n : Nat) (R : Hp → Prop) (f : Nat → Bool) : Prop where
  one : oneCell v = true
  blind : Blind R
  ext : ∀ s s', R s → Ext s s' → R s'
  call : ∀ (s : Hp) (m : Nat), m < n → R s → ∀ (K : VK) (E : List PanicEntry → Hp → Prop), (∀ s', Ext s s' → K (.bool (f m)) s') → CALLV Pg W v [.int .i64 (m : Nat)] K E s
def ordF (T : PT) (f : Nat → Bool) : List Nat := (ordP T).filter f
def ordV (T : PT) (f : Nat → Bool) : List (List Value) := (ordF T f).map fun (m : Nat) => [.int .i64 (m : Int)]
def OrdR (p : Addr) (T : PT) (a b : Addr) (v : Value) (R : Hp → Prop) : Hp → Prop := fun s => PrO s p T ∧ cellAt s a = some (.pointer (some p)) ∧ cellAt s b = some v ∧ R s
def ordN (T : PT) (f : Nat → Bool) (k : Nat) : Nat := (((ordP T).take k).filter f).length
theorem ordN_succ {T : PT} {f : Nat → Bool} {k : Nat} (hk : k < T.n) : ordN T f (k + 1) = ordN T f k + (if f (idx T ((k + 1 : Nat) : Int)) then 1 else 0) := by
  unfold ordN
  rw [List.take_add_one, ord_get hk, List.filter_append, List.length_append]
  congr 1
  show (List.filter f [idx T ((k + 1 : Nat) : Int)]).length = _
  generalize idx T ((k + 1 : Nat) : Int) = i
  cases h : f i <;> simp [h]
theorem ordN_get {T : PT} {f : Nat → Bool} {k : Nat} (hk : k < T.n) (hf : f (idx T ((k + 1 : Nat) : Int)) = true) : (ordF T f)[ordN T f k]? = some (idx T ((k + 1 : Nat) : Int)) := by
  have hk' : k < (ordP T).length := by rw [ord_len]; exact hk
  have h := ord_get hk
  rw [List.getElem?_eq_getElem hk'] at h
  have h' := Option.some.inj h
  unfold ordF ordN
  have e : ordP T = (ordP T).take k ++ (idx T ((k + 1 : Nat) : Int) :: (ordP T).drop (k + 1)) := by
    rw [← h', ← List.drop_eq_getElem_cons hk', List.take_append_drop]
  generalize (ordP T).take k = A at *
  rw [e, List.filter_append, List.filter_cons, if_pos hf, List.getElem?_append_right (Nat.le_refl _), Nat.sub_self]
  rfl
section
variable {W : World} {K : VK} {E : List PanicEntry → Hp → Prop} {s : Hp} {p : Addr} {T : PT} {v : Value} {R : Hp → Prop} {f : Nat → Bool}
theorem c_order (hv : oneCell v = true) (h : ∀ s' a b, Ext s s' → s.size ≤ a.block → s.size ≤ b.block → cellAt s' a = some (.pointer (some p)) → cellAt s' b = some v → K (.func (.func 85) #[] #[.pointer (some a), .pointer (some b)]) s') : CALL Pg W F_prize_prizes_order [.pointer (some p), v] K E s := by
  refine does_prize_prizes_order W (some p) v _ s ?_
  unfold T_prize_prizes_order
  refine ne1 fun s1 e1 z1 o1 => ?_
  unfold ONE
  rw [hv]
  refine ne1 fun s2 e2 z2 o2 => ?_
  exact h s2 _ _ (e1.trans e2) (Nat.le_refl _) (by show s.size ≤ s1.size; omega) (e2.cell o1.cell) o2.cell
theorem OrdR.blind {a b : Addr} (hR : Blind R) : Blind (OrdR p T a b v R) := fun s l o hl ho h => ⟨PrO.blind s l o hl ho h.1, cell_blind hl h.2.1, cell_blind hl h.2.2.1, hR s l o hl ho h.2.2.2⟩
theorem it_order {a b : Addr} (hf : IsFn W v T.n R f) : IterC Pg W (.func (.func 85) #[] #[.pointer (some a), .pointer (some b)]) (ordV T f) (OrdR p T a b v R) := by
  refine ⟨⟨_, _, _, rfl⟩, fun y I J s hR hext hy h0 => ?_⟩
  refine does_prize_prizes_order_c1 W y a b _ s ?_
  have r0 := hR 0 s h0
  have hv := okP_vd r0.1.ok
  have h8 := hv.n8
  unfold T_prize_prizes_order_c1
  obtain ⟨x, c, x1, x2⟩ := r0.1.men
  refine ⟨_, r0.2.1, _, r0.2.1, _, _, _, x1, ?_⟩
  dsimp only
  rw [wrap_succ (by omega)]
  refine ⟨⟨by omega, by omega, by omega⟩, ?_⟩
  have e1 : (if (9 : Nat) = (1 : Int).toNat then some (p.add 3) else (some (p.add 3)).map (·.add ((1 : Int).toNat * 1))) = some ((p.add 3).add 1) := rfl
  rw [e1]
  have e2 : (((T.n + 1 : Nat) : Int)).toNat - (1 : Int).toNat = T.n := by rw [toNat_nat]; show T.n + 1 - 1 = T.n; omega
  rw [e2]
  refine L_prize_prizes_order_c1_0_rule W _ y b _ T.n _ T.n (fun n s' => ∃ k : Nat, k ≤ T.n ∧ n = k ∧ I (ordN T f k) s') (fun n _ => (T.n - n).toNat) 0 s ⟨0, by omega, rfl, h0⟩ ?_
  rintro n s1 ⟨k, hk, rfl, hI⟩
  have r1 := hR _ _ hI
  unfold B_prize_prizes_order_c1_0
  refine BR_dec (fun h2 => ?_) (fun h2 => ?_)
  · have hkn : k < T.n := by omega
    have hat := r1.1.at' k hkn
    have hm := (hv.sur ((k + 1 : Nat) : Int) (by omega) (by omega)).1
    refine IXS_nat hkn ?_
    rw [Nat.mul_one, addr_add, Nat.add_comm 1 k]
    refine ⟨_, hat, _, r1.2.2.1, ?_⟩
    refine hf.call s1 _ hm r1.2.2.2 _ _ fun s2 e2 => ?_
    have hI2 := hext _ _ _ hI e2
    try simp only [TUP_mk, AGG_mk, HD_mk, NL_mk, TYI_mk, TYB_mk, TYP_mk, TYL_mk, TYS_mk, TYM_mk, SO_mk, NX_mk, endK_mk, endK_mk', add_0]
    refine BR_not (fun h3 => ?_) (fun h3 => ?_)
    · refine ⟨_, rfl, ⟨k + 1, hkn, wrap_succ (by omega), ?_⟩, ms_succ hkn (by omega)⟩
      rw [ordN_succ hkn, h3]; exact hI2
    · have hx : (ordV T f)[ordN T f k]? = some [.int .i64 (idx T ((k + 1 : Nat) : Int) : Nat)] := by
        unfold ordV
        rw [List.getElem?_map, ordN_get hkn h3]
        rfl
      refine DoesV.mono (hy _ _ hx s2 hI2) ?_
      rintro e s3 (⟨rfl, hI3⟩ | ⟨rfl, hJ⟩)
      · refine ⟨_, rfl, ⟨k + 1, hkn, wrap_succ (by omega), ?_⟩, ms_succ hkn (by omega)⟩
        rw [ordN_succ hkn, h3]; exact hI3
      · exact ⟨⟨_, rfl⟩, .inr hJ⟩
  · have hkn : k = T.n := by omega
    subst hkn
    refine ⟨⟨_, rfl⟩, .inl ?_⟩
    have : (ordV T f).length = ordN T f T.n := by
      unfold ordV ordN ordF
      rw [← ord_len T, List.take_length]
      simp
    rw [this]; exact hI
/-- A range over all who are wanted. -/
theorem rng_order {a b : Addr} {B : List Value → (Option Code → Hp → Prop) → Hp → Prop} {A : Option Code → Hp → Prop} (hf : IsFn W v T.n R f) (I : Nat → Hp → Prop) (S : Code → Hp → Prop)
    (hR : ∀ k s, I k s → OrdR p T a b v R s) (hext : ∀ k s s', I k s → Ext s s' → I k s') (h0 : I 0 s)
    (hB : ∀ k m, (ordF T f)[k]? = some m → m < T.n → ∀ s, I k s → B [.int .i64 (m : Nat)] (fun j s' => match j with | none => I (k + 1) s' | some c => S c s') s)
    (hA : ∀ s, I (ordF T f).length s → A none s) (hS : ∀ c s, S c s → A (some c) s) : RNGN Pg W (.func (.func 85) #[] #[.pointer (some a), .pointer (some b)]) 1 B A s := by
  have hv := okP_vd (hR _ _ h0).1.ok
  refine ⟨ordV T f, OrdR p T a b v R, I, S, it_order hf, OrdR.blind hf.blind, hR, hext, hext _ _ _ h0 (Ext.push (Ext.push (Ext.refl _))), fun k x hx => ?_, fun s' h' => ?_, hS⟩
  · unfold ordV at hx
    rw [List.getElem?_map] at hx
    obtain ⟨m, hm, rfl⟩ := Option.map_eq_some_iff.1 hx
    have hmem : m ∈ ordP T := (List.mem_filter.1 (List.mem_of_getElem? hm)).1
    exact ⟨rfl, fun s' h' => hB k m hm ((ord_mem hv).1 hmem) s' h'⟩
  · refine hA s' ?_
    have : (ordV T f).length = (ordF T f).length := by simp [ordV]
    rw [← this]; exact h'
/-- Who gets a prize, as a number. -/
def manI (o : Option Nat) : Int := match o with | some m => (m : Nat) | none => -1
def givF (T : PT) (f : Nat → Bool) (z : Nat) : Option Nat := (ordF T f).find? fun m => canP T m z
theorem find_at {α : Type} {l : List α} {q : α → Bool} {k : Nat} {m : α} (hk : l[k]? = some m) (hq : q m = true) (hno : ∀ j x, j < k → l[j]? = some x → q x = false) : l.find? q = some m := by
  have hlt := (List.getElem?_eq_some_iff.1 hk).1
  rw [List.find?_eq_some_iff_getElem]
  refine ⟨hq, k, hlt, (List.getElem?_eq_some_iff.1 hk).2, fun j hj => ?_⟩
  rw [hno j l[j] hj (List.getElem?_eq_getElem (by omega))]; rfl
theorem find_no {α : Type} {l : List α} {q : α → Bool} (hno : ∀ j x, j < l.length → l[j]? = some x → q x = false) : l.find? q = none := by
  rw [List.find?_eq_none]
  intro x hx
  obtain ⟨j, hj, rfl⟩ := List.mem_iff_getElem.1 hx
  rw [hno j l[j] hj (List.getElem?_eq_getElem hj)]; simp
theorem c_plain {z : Nat} (hz : z < T.z) (hf : IsFn W v T.n R f) (hR : R s) (hp : PrO s p T) (h : ∀ s', Ext s s' → K (.int .i64 (manI (givF T f z))) s') : CALL Pg W F_prize_plain_gives [.agg #[.pointer (some p)], .int .i64 (z : Nat), v] K E s := by
  refine does_prize_plain_gives W (some p) z v _ s ?_
  unfold T_prize_plain_gives
  refine ne1 fun s1 e1 z1 o1 => ?_
  refine ne1 fun s2 e2 z2 o2 => ?_
  refine nz1 zc_3 fun s3 e3 z3 o3 => ?_
  refine ⟨_, e3.cell (e2.cell o1.cell), ?_⟩
  refine c_order hf.one fun s4 a b e4 _ _ ca cb => ?_
  have e34 := e3.trans e4
  have e24 := e2.trans e34
  have e04 := e1.trans e24
  have hb6 : s2.size < s4.size := by have := e4.1; omega
  refine rng_order hf (fun k t => Ext s4 t ∧ ∀ j x, j < k → (ordF T f)[j]? = some x → canP T x z = false) (fun c t => c = Code.ret ∧ Ext s t ∧ ∃ m, cellAt t ⟨s2.size, 0, none⟩ = some (.int .i64 (m : Nat)) ∧ givF T f z = some m)
    (fun k t ht => ⟨hp.ext (e04.trans ht.1), ht.1.cell ca, ht.1.cell cb, hf.ext _ _ hR (e04.trans ht.1)⟩) (fun k t t' ht e => ⟨ht.1.trans e, ht.2⟩) ⟨Ext.refl _, fun j x hj => by omega⟩ ?_ ?_ ?_
  · rintro k m hkm hmn t ⟨et, hno⟩
    have et4 := e04.trans et
    try simp only [TUP_mk, AGG_mk, HD_mk, NL_mk, TYI_mk, TYB_mk, TYP_mk, TYL_mk, TYS_mk, TYM_mk, SO_mk, NX_mk, endK_mk, endK_mk', add_0]
    refine ⟨_, et.cell (e24.cell o1.cell), _, et.cell (e34.cell o2.cell), ?_⟩
    refine c_can (hp.ext et4) hmn hz fun t2 e2' => ?_
    try simp only [TUP_mk, AGG_mk, HD_mk, NL_mk, TYI_mk, TYB_mk, TYP_mk, TYL_mk, TYS_mk, TYM_mk, SO_mk, NX_mk, endK_mk, endK_mk', add_0]
    refine BR_bool (fun hc => ?_) (fun hc => ?_)
    · have o6 := e2'.own (et.own (e4.own o3))
      refine WR_own o6 rfl ?_
      refine ⟨trivial, ?_, m, (own_set o6).cell, ?_⟩
      · exact Ext.setC (et4.trans e2') (by show s.size ≤ s2.size; omega)
      · exact find_at hkm hc hno
    · refine ⟨et.trans e2', fun j x hj hx => ?_⟩
      by_cases e : j = k
      · subst e; rw [hkm] at hx; cases hx; exact hc
      · exact hno j x (by omega) hx
  · rintro t ⟨et, hno⟩
    have o6 := et.own (e4.own o3)
    refine WR_own o6 rfl ?_
    refine ⟨_, (own_set o6).cell, ?_⟩
    have hg : givF T f z = none := find_no hno
    have := h (setC t ⟨s2.size, 0, none⟩ (.int .i64 (-1))) (Ext.setC (e04.trans et) (by show s.size ≤ s2.size; omega))
    rw [hg] at this
    exact this
  · rintro c t ⟨rfl, et, m, cm, hg⟩
    refine ⟨_, cm, ?_⟩
    have := h t et
    rw [hg] at this
    exact this
end
end Go.Proofs.Ytfaeokcbfnlgbaa.G

/- Prize: the first one of some clubs. -/
set_option linter.unusedSimpArgs false
set_option linter.unusedVariables false
set_option maxRecDepth 20000
namespace Go.Proofs.Ytfaeokcbfnlgbaa.G
open Go.V
theorem zc_80 : zc Pg 80 = [.int .i64 0, .int .i64 0] := by kernel_rfl
theorem zc_26 : zc Pg 26 = [.slice none 0 0] := by kernel_rfl
def places (T : PT) (c : Int) : List Int := (ordF T fun m => (T.man m).club == c).map fun m => (T.man m).place
def sumC (n : Nat) : List Int → Option Int
  | [] => none
  | [a] => some (a + n + 1)
  | a :: b :: _ => some (a + b)
def clubsL (T : PT) (k : Nat) : List (Int × Int) := (List.range k).filterMap fun (i : Nat) => (sumC T.n (places T ((i + 1 : Nat) : Int))).map fun x => (((i + 1 : Nat) : Int), x)
theorem clubsL_succ (T : PT) (k : Nat) : clubsL T (k + 1) = clubsL T k ++ (match sumC T.n (places T ((k + 1 : Nat) : Int)) with | some x => [(((k + 1 : Nat) : Int), x)] | none => []) := by
  unfold clubsL
  rw [List.range_succ, List.filterMap_append]
  congr 1
  rw [List.filterMap_cons, List.filterMap_nil]
  generalize sumC T.n (places T ((k + 1 : Nat) : Int)) = o
  cases o <;> rfl
def minC (b y : Int × Int) : Int × Int := if y.2 < b.2 then y else b
def firstL : List (Int × Int) → Int × Int
  | [] => (0, 0)
  | x :: r => r.foldl minC x
theorem firstL_snoc : ∀ (l : List (Int × Int)) (x : Int × Int), l ≠ [] → firstL (l ++ [x]) = minC (firstL l) x
  | [], _, h => absurd rfl h
  | y :: l, x, _ => by
    show (l ++ [x]).foldl minC y = _
    rw [List.foldl_append]; rfl
def bestP (T : PT) : Int × Int := firstL (clubsL T 5)
def clubV (l : List (Int × Int)) : List Value := l.flatMap fun c => [.int .i64 c.1, .int .i64 c.2]
theorem clubV_len (l : List (Int × Int)) : (clubV l).length = l.length * 2 := by
  induction l with
  | nil => rfl
  | cons x l ih => show (_ :: _ :: clubV l).length = _; simp only [List.length_cons, ih]; omega
theorem clubV_get : ∀ (l : List (Int × Int)) (k : Nat) (h : k < l.length), (clubV l)[k * 2]? = some (.int .i64 l[k].1) ∧ (clubV l)[k * 2 + 1]? = some (.int .i64 l[k].2)
  | [], k, h => by simp at h
  | x :: l, 0, h => ⟨rfl, rfl⟩
  | x :: l, k + 1, h => by
    have ih := clubV_get l k (by simpa using h)
    have e1 : (k + 1) * 2 = k * 2 + 2 := by omega
    rw [e1]
    exact ih
theorem clubV_one (l : List (Int × Int)) : ∀ v ∈ clubV l, oneCell v = true := by
  intro v hv
  obtain ⟨c, _, hc⟩ := List.mem_flatMap.1 hv
  simp at hc
  rcases hc with rfl | rfl <;> rfl
theorem row_get {s : Hp} {x : Option Addr} {vs : List Value} {i : Nat} {v : Value} (h : RowAt s x vs) (hi : vs[i]? = some v) : ∃ a, x = some a ∧ cellAt s (a.add i) = some v := by
  obtain ⟨hlt, he⟩ := List.getElem?_eq_some_iff.1 hi
  obtain ⟨a, h1, h2⟩ := h i hlt
  rw [Nat.mul_one, he] at h2
  exact ⟨a, h1, h2⟩
theorem club_row {s : Hp} {x : Option Addr} {l : List (Int × Int)} {k : Nat} (h : RowAt s x (clubV l)) (hk : k < l.length) : ∃ a, x = some a ∧ cellAt s ((a.add (k * 2)).add 0) = some (.int .i64 (l.getD k default).1) ∧ cellAt s ((a.add (k * 2)).add 1) = some (.int .i64 (l.getD k default).2) := by
  obtain ⟨g1, g2⟩ := clubV_get l k hk
  obtain ⟨a, h1, h2⟩ := row_get h g1
  obtain ⟨b, h3, h4⟩ := row_get h g2
  rw [h1] at h3; cases h3
  rw [getD_lt hk]
  refine ⟨a, h1, ?_, ?_⟩
  · rw [addr_add]; exact h2
  · rw [addr_add]; exact h4
section
variable {W : World} {K : VK} {E : List PanicEntry → Hp → Prop} {s : Hp}
theorem c_less {a b c d : Int} (h : ∀ s', Ext s s' → K (.bool (decide (b < d))) s') : CALLV Pg W (.func (.func 82) #[] #[]) [.agg #[.int .i64 a, .int .i64 b], .agg #[.int .i64 c, .int .i64 d]] K E s := by
  refine CALLV_func ?_
  refine does_prize_prizes_best_c2 W a b c d _ s ?_
  unfold T_prize_prizes_best_c2
  refine ne2 fun s1 e1 z1 o1 o2 => ?_
  refine ne2 fun s2 e2 z2 o3 o4 => ?_
  exact ⟨_, e2.cell o2.cell, _, o4.cell, h s2 (e1.trans e2)⟩
theorem c_first {x : Option Addr} {c n : Nat} {l : List (Int × Int)} (hx : RowAt s x (clubV l)) (hn : n = l.length) (h8 : l.length ≤ 1000) (h : ∀ s' b, Ext s s' → K (.tuple #[.agg #[.int .i64 (firstL l).1, .int .i64 (firstL l).2], .bool b]) s') : CALL Pg W F_prize_first_prize_club [.slice x n c, .func (.func 82) #[] #[]] K E s := by
  subst hn
  refine does_prize_first_prize_club W x _ c _ _ s ?_
  unfold T_prize_first_prize_club
  refine nz2 zc_80 fun s1 e1 z1 o1 o2 => ?_
  refine L_prize_first_prize_club_0_rule W _ _ ⟨s.size, 0, none⟩ x l.length c l.length (fun b n t => Ext s t ∧ ∃ k : Nat, k ≤ l.length ∧ n = k ∧ Own t ⟨s.size, 0, none⟩ (.int .i64 (firstL (l.take k)).1) ∧ Own t ⟨s.size, 1, none⟩ (.int .i64 (firstL (l.take k)).2)) (fun _ n _ => (l.length - n).toNat) false 0 s1 ⟨e1, 0, by omega, rfl, o1, o2⟩ ?_
  rintro b n t ⟨et, k, hk, rfl, p1, p2⟩
  unfold B_prize_first_prize_club_0
  have e0 : (Addr.add ⟨s.size, 0, none⟩ 0) = (⟨s.size, 0, none⟩ : Addr) := rfl
  have e1' : (Addr.add ⟨s.size, 0, none⟩ 1) = (⟨s.size, 1, none⟩ : Addr) := rfl
  refine BR_dec (fun hlt => ?_) (fun hlt => ?_)
  · have hkl : k < l.length := by omega
    obtain ⟨a, w0, w1, w2⟩ := club_row (hx.ext et) hkl
    refine ⟨a, w0, ⟨by omega, by omega⟩, ?_⟩
    rw [toNat_nat]
    refine ⟨_, w1, _, w2, ?_⟩
    generalize hy : l.getD k default = y
    have hyk : l[k] = y := by rw [← hy, getD_lt hkl]
    have htake : l.take (k + 1) = l.take k ++ [y] := by rw [List.take_add_one, List.getElem?_eq_getElem hkl, hyk]; rfl
    generalize hnx : (fun vs : List Value => _) = nx
    refine nw2 zc_80 rfl rfl fun t2 e2 z2 q1 q2 => ?_
    have et2 := et.trans e2
    have fin : ∀ t' d b', Ext t2 t' → (d = true → firstL (l.take (k + 1)) = y) → (d = false → firstL (l.take (k + 1)) = firstL (l.take k)) → J_prize_first_prize_club_0 W (endK K E) d t.size ⟨s.size, 0, none⟩ (.func (.func 82) #[] #[]) x l.length c l.length nx k b' t' := by
      intro t' d b' e' hd1 hd2
      have p1' := e'.own (e2.own p1)
      have p2' := e'.own (e2.own p2)
      have et2 := et2.trans e'
      unfold J_prize_first_prize_club_0
      refine BR_bool (fun hd => ?_) (fun hd => ?_)
      · refine ⟨_, e'.cell q1.cell, _, e'.cell q2.cell, ?_⟩
        refine WR_own p1' rfl ?_
        refine WR_own (own_set_ne (.inr (by show (1 : Nat) ≠ 0; omega)) p2') rfl ?_
        rw [← hnx]
        refine ⟨rfl, _, _, rfl, ⟨Ext.setC (Ext.setC et2 (Nat.le_refl _)) (Nat.le_refl _), k + 1, hkl, wrap_succ (by omega), ?_, ?_⟩, ms_succ hkl (by omega)⟩
        · rw [hd1 hd]
          exact own_set_ne (.inr (by show (0 : Nat) ≠ 1; omega)) (own_set p1')
        · rw [hd1 hd]
          exact own_set (own_set_ne (.inr (by show (1 : Nat) ≠ 0; omega)) p2')
      · rw [← hnx]
        refine ⟨rfl, _, _, rfl, ⟨et2, k + 1, hkl, wrap_succ (by omega), ?_, ?_⟩, ms_succ hkl (by omega)⟩
        · rw [hd2 hd]; exact p1'
        · rw [hd2 hd]; exact p2'
    refine BR_bool (fun hz => ?_) (fun hz => ?_)
    · have hk0 : k = 0 := by have : (k : Int) = 0 := by simpa using hz
                             omega
      subst hk0
      refine fin _ _ _ (Ext.refl _) (fun _ => ?_) (fun h => by cases h)
      rw [htake]; rfl
    · have hk0 : ¬ k = 0 := fun h0 => by subst h0; simp at hz
      refine ⟨_, q1.cell, _, q2.cell, _, (e2.own p1).cell, _, (e2.own p2).cell, ?_⟩
      refine c_less fun t3 e3 => ?_
      try simp only [TUP_mk, AGG_mk, HD_mk, NL_mk, TYI_mk, TYB_mk, TYP_mk, TYL_mk, TYS_mk, TYM_mk, SO_mk, NX_mk, endK_mk, endK_mk', add_0]
      have hne : l.take k ≠ [] := fun h => by
        have h1 := congrArg List.length h
        rw [List.length_take, Nat.min_eq_left (by omega)] at h1
        have h2 : k = 0 := h1
        exact hk0 h2
      have hs := firstL_snoc (l.take k) y hne
      rw [← htake] at hs
      refine fin t3 _ _ e3 (fun hd => ?_) (fun hd => ?_)
      · rw [hs]; unfold minC; rw [if_pos (of_decide_eq_true hd)]
      · rw [hs]; unfold minC; rw [if_neg (of_decide_eq_false hd)]
  · have hkl : k = l.length := by omega
    subst hkl
    rw [List.take_length] at p1 p2
    refine ⟨_, p1.cell, _, p2.cell, ?_⟩
    refine WR_own p1 rfl ?_
    have p2' := own_set_ne (a := ⟨s.size, 0, none⟩) (w := .int .i64 (firstL l).1) (.inr (by show (1 : Nat) ≠ 0; omega)) p2
    refine WR_own p2' rfl ?_
    refine ⟨_, (own_set_ne (.inr (by show (0 : Nat) ≠ 1; omega)) (own_set p1)).cell, _, (own_set p2').cell, ?_⟩
    exact h _ _ (Ext.setC (Ext.setC et (Nat.le_refl _)) (Nat.le_refl _))
end
end Go.Proofs.Ytfaeokcbfnlgbaa.G

/- Prize: the best club. -/
set_option linter.unusedSimpArgs false
set_option linter.unusedVariables false
set_option maxRecDepth 20000
namespace Go.Proofs.Ytfaeokcbfnlgbaa.G
open Go.V
theorem places_le {T : PT} {c : Int} : (places T c).length ≤ T.n := by
  unfold places ordF
  rw [List.length_map]
  exact Nat.le_trans (List.length_filter_le _ _) (by rw [ord_len]; exact Nat.le_refl _)
theorem places_mem {T : PT} (hv : VdP T) {c : Int} {x : Int} (h : x ∈ places T c) : 1 ≤ x ∧ x ≤ T.n := by
  unfold places at h
  obtain ⟨m, hm, rfl⟩ := List.mem_map.1 h
  exact hv.pl m ((ord_mem hv).1 (List.mem_filter.1 hm).1)
section
variable {W : World} {K : VK} {E : List PanicEntry → Hp → Prop} {s : Hp} {p : Addr} {T : PT}
def ClR (p : Addr) (T : PT) (a b : Addr) (c : Int) : Hp → Prop := fun s => PrO s p T ∧ cellAt s a = some (.pointer (some p)) ∧ cellAt s b = some (.int .i64 c)
theorem isClub {a b : Addr} {c : Int} : IsFn W (.func (.func 80) #[] #[.pointer (some a), .pointer (some b)]) T.n (ClR p T a b c) (fun m => (T.man m).club == c) where
  one := rfl
  blind := fun s l o hl ho h => ⟨PrO.blind s l o hl ho h.1, cell_blind hl h.2.1, cell_blind hl h.2.2⟩
  ext := fun s s' h e => ⟨h.1.ext e, e.cell h.2.1, e.cell h.2.2⟩
  call := fun s m hm h K E hk => by
    refine CALLV_func ?_
    refine does_prize_prizes_best_c1 W m a b _ s ?_
    unfold T_prize_prizes_best_c1
    obtain ⟨x, cx, x1, x2⟩ := h.1.men
    obtain ⟨ax, w0, w1, w2, w3, w4⟩ := man_row x2 hm
    refine ⟨_, h.2.1, _, _, _, x1, ?_⟩
    refine IXS_at w0 hm ?_
    exact ⟨_, w2, _, h.2.2, hk s (Ext.refl s)⟩
/-- The places so far. -/
def plK (T : PT) (c : Int) (k : Nat) : List Int := (places T c).take k
theorem plK_succ {T : PT} {c : Int} {k m : Nat} (h : (ordF T fun m => (T.man m).club == c)[k]? = some m) : plK T c (k + 1) = plK T c k ++ [(T.man m).place] := by
  unfold plK places
  rw [List.take_add_one, List.getElem?_map, h]
  rfl
theorem fr_lt {lo : Nat} {s : Hp} {x : Option Addr} {l c es : Nat} {vs : List Value} (h : Fr lo s x l c es vs) (hn : 0 < vs.length) {a : Addr} (hx : x = some a) : a.block < s.size := by
  obtain ⟨a', h1, y, h2, _⟩ := h.buf.own 0 (Nat.lt_of_lt_of_le hn h.buf.le)
  rw [hx] at h1; cases h1
  have := h2.lt
  rwa [add_blk] at this
theorem clubs_len (T : PT) (k : Nat) : (clubsL T k).length ≤ k := by
  unfold clubsL
  refine Nat.le_trans (List.length_filterMap_le _ _) (by simp)
/-- A sum of three, or of two. -/
theorem c_sum {x : Option Addr} {c l : Nat} {ds : List Int} {r : Int} (hx : RowAt s x (ints ds)) (hl : l = ds.length) (hb : ∀ n ∈ ds, 0 ≤ n ∧ n ≤ 1000) (h8 : ds.length ≤ 1000) (hr : ds.sum = r) (h : K (.int .i64 r) s) : CALL Pg W F_prize_total [.slice x l c] K E s :=
  c_total hx hl hb h8 (by rw [hr]; exact h)
theorem c_best (hp : PrO s p T) (h : ∀ s', Ext s s' → K (.agg #[.int .i64 (bestP T).1, .int .i64 (bestP T).2]) s') : CALL Pg W F_prize_prizes_best [.pointer (some p)] K E s := by
  have hv := okP_vd hp.ok
  have h8 := hv.n8
  refine does_prize_prizes_best W (some p) _ s ?_
  unfold T_prize_prizes_best
  refine ne1 fun s1 e1 z1 o1 => ?_
  refine nz2 zc_80 fun s2 e2 z2 o2 o2' => ?_
  refine nw1 zc_3 rfl fun s3 e3 z3 o3 => ?_
  have e13 := e2.trans e3
  have e03 := e1.trans e13
  refine L_prize_prizes_best_0_rule W _ ⟨s.size, 0, none⟩ ⟨s1.size, 0, none⟩ (fun x l c q t => Ext s3 t ∧ ∃ k a, k ≤ 5 ∧ q = some a ∧ cellAt t a = some (.int .i64 ((k + 1 : Nat) : Int)) ∧ Fr s3.size t x l c 2 (clubV (clubsL T k)) ∧ ∀ y, x = some y → y.block ≠ a.block ∧ y.block < t.size)
    (fun x l c q t => match q with | some a => (match cellAt t a with | some (.int _ n) => (6 - n).toNat | _ => 0) | none => 0) none 0 0 (some ⟨s2.size, 0, none⟩) s3
    ⟨Ext.refl _, 0, _, by omega, rfl, o3.cell, Fr.nil _ _ _, fun y hy => by cases hy⟩ ?_
  rintro x l c q t ⟨et, k, a, hk, rfl, ca, hfr, hxa⟩
  unfold B_prize_prizes_best_0
  have et0 := e03.trans et
  have hp1 := hp.ext et0
  have za := et.cell (e13.cell o1.cell)
  refine ⟨_, ca, ?_⟩
  have hms : ∀ (t' : Hp) (a' : Addr), cellAt t' a' = some (.int .i64 ((k + 1 + 1 : Nat) : Int)) → k < 5 → (match cellAt t' a' with | some (.int _ n) => (6 - n).toNat | _ => 0) < (match cellAt t a with | some (.int _ n) => (6 - n).toNat | _ => 0) := by
    intro t' a' h' hk5
    rw [h', ca]
    show (6 - ((k + 1 + 1 : Nat) : Int)).toNat < (6 - ((k + 1 : Nat) : Int)).toNat
    omega
  refine BR_dec (fun hle => ?_) (fun hle => ?_)
  · have hk5 : k < 5 := by omega
    generalize hcc : ((k + 1 : Nat) : Int) = cc at *
    generalize hnx : (fun vs : List Value => _) = nx
    -- the next round
    have next : ∀ (t' : Hp) (x' : Option Addr) (l' c' : Nat), Ext s3 t' → cellAt t' a = some (.int .i64 cc) → Fr s3.size t' x' l' c' 2 (clubV (clubsL T (k + 1))) → (∀ y, x' = some y → y.block < t'.size) → J_prize_prizes_best_0 W (endK K E) (some a) ⟨s.size, 0, none⟩ ⟨s1.size, 0, none⟩ nx x' l' c' t' := by
      intro t' x' l' c' e' ca' hfr' hx'
      unfold J_prize_prizes_best_0
      refine ⟨_, ca', ?_⟩
      refine nw1 zc_3 rfl fun t2 e2' z2' q2 => ?_
      refine ⟨_, q2.cell, ?_⟩
      refine wr1 (a := ⟨t'.size, 0, none⟩) q2 rfl fun t3 k3 z3' q3 => ?_
      have e3' : Ext t' t3 := ext_kp e2' (Nat.le_refl _) k3
      rw [← hnx]
      rw [← hcc] at q3
      rw [wrap_succ (by omega)] at q3
      refine ⟨rfl, _, _, _, _, rfl, ⟨e'.trans e3', k + 1, _, hk5, rfl, q3.cell, hfr'.ext e3', fun y hy => ?_⟩, hms _ _ q3.cell hk5⟩
      have := hx' y hy
      exact ⟨by show y.block ≠ t'.size; omega, by have := e3'.1; omega⟩
    refine nz1 zc_26 fun t1 f1 y1 b1 => ?_
    have hat1 : a.block < t1.size := by have := cell_lt ca; omega
    refine ⟨_, f1.cell za, ?_⟩
    refine c_order rfl fun t2 u v f2 gu gv cu cv => ?_
    have f12 := f1.trans f2
    have sz2 := f2.1
    refine rng_order (W := W) (isClub (p := p) (a := ⟨s.size, 0, none⟩) (b := a) (c := cc)) (fun k t' => Ext t t' ∧ Kp (· = t.size) t2 t' ∧ cellAt t' u = some (.pointer (some p)) ∧ cellAt t' v = some (.func (.func 80) #[] #[.pointer (some ⟨s.size, 0, none⟩), .pointer (some a)]) ∧ ∃ x l c, Own t' ⟨t.size, 0, none⟩ (.slice x l c) ∧ Fr t2.size t' x l c 1 (ints (plK T cc k))) (fun _ _ => False)
      (fun k t' ht => ⟨hp1.ext ht.1, ht.2.2.1, ht.2.2.2.1, hp1.ext ht.1, ht.1.cell za, ht.1.cell ca⟩) (fun k t' t'' ht e => ⟨ht.1.trans e, ht.2.1.ext e, e.cell ht.2.2.1, e.cell ht.2.2.2.1, by obtain ⟨x, l, c, g1, g2⟩ := ht.2.2.2.2; exact ⟨x, l, c, e.own g1, g2.ext e⟩⟩)
      ⟨f12, Kp.refl _, cu, cv, none, 0, 0, f2.own b1, Fr.nil _ _ _⟩ ?_ ?_ (fun _ _ h => h.elim)
    · rintro j m hjm hmn t' ⟨f', kk, cu', cv', px, pl, pc, g1, g2⟩
      try simp only [TUP_mk, AGG_mk, HD_mk, NL_mk, TYI_mk, TYB_mk, TYP_mk, TYL_mk, TYS_mk, TYM_mk, SO_mk, NX_mk, endK_mk, endK_mk', add_0]
      have hpt := hp1.ext f'
      obtain ⟨mx, mc, x1, x2⟩ := hpt.men
      obtain ⟨ax, w0, w1, w2, w3, w4⟩ := man_row x2 hmn
      refine ⟨_, _, _, g1.cell, _, f'.cell za, _, _, _, x1, ?_⟩
      refine IXS_at w0 hmn ?_
      refine ⟨_, w1, ?_⟩
      refine ne1 fun t3 e3' z3' q3 => ?_
      refine ANDS_i ⟨_, _, _, e3'.cell g1.cell, rfl⟩ ?_
      have hlen : pl = (plK T cc j).length := by have := g2.len; rw [ints_len] at this; omega
      have hjl := (List.getElem?_eq_some_iff.1 hjm).1
      have hpll : (plK T cc j).length ≤ 8 := by
        unfold plK
        rw [List.length_take]
        have := places_le (T := T) (c := cc)
        omega
      have hsz' : t2.size ≤ t'.size := kk.1
      refine APP_fr (lo := t2.size) (g2.ext e3') (by have := e3'.1; omega) (ws := [.int .i64 (T.man m).place]) (fun i hi => ⟨⟨t'.size, 0, none⟩, rfl, ?_⟩) rfl zc_3 rfl (by omega) (by simp [oneCell]) (by omega) fun t4 px' pc' k4 hpx' g4 => ?_
      · have hi0 : i = 0 := by simp at hi; omega
        subst hi0; exact q3.cell
      have hpxb : ∀ b, (∃ a, px = some a ∧ a.block = b) → t2.size ≤ b := by
        rintro b ⟨y, hy, rfl⟩; exact g2.fr y hy
      have e34 : Ext t t4 := kp_nil (f'.trans e3') (fun b hb => by have := hpxb b hb; omega) k4
      have o11 : Own t4 ⟨t.size, 0, none⟩ (.slice px pl pc) := k4.own (fun hb => by have := hpxb _ hb; have : t2.size ≤ t.size := this; omega) (e3'.own g1)
      refine WR_own o11 rfl ?_
      have hb : ∀ {y : Addr}, y.block ≠ t.size → y.block ≠ (Addr.add ⟨t.size, 0, none⟩ 0).block ∨ y.off ≠ (Addr.add ⟨t.size, 0, none⟩ 0).off := fun h => .inl h
      have hu2 := cell_lt cu
      have hv2 := cell_lt cv
      refine ⟨Ext.setC e34 (Nat.le_refl _), ?_, cell_set_ne (hb (by omega)) (k4.cell (fun hb => by have := hpxb _ hb; omega) (e3'.cell cu')), cell_set_ne (hb (by omega)) (k4.cell (fun hb => by have := hpxb _ hb; omega) (e3'.cell cv')), px', pl + 1, pc', own_set o11, ?_⟩
      · refine Kp.setC ?_ (.inl rfl)
        exact ⟨by have := k4.1; have := e3'.1; omega, fun b hb hne => by
          rw [k4.2 b (by have := e3'.1; omega) (fun hc => by have := hpxb b hc; omega), e3'.2 b (by omega)]
          exact kk.2 b hb hne⟩
      · rw [plK_succ hjm, ints_app]
        refine Fr.kp (D := (· = t.size)) (Kp.setC (Kp.refl _) (.inl rfl)) (fun y hy hb => ?_) g4
        have := g4.fr y hy
        have : y.block = t.size := hb
        omega
    · rintro t' ⟨f', kk, cu', cv', px, pl, pc, g1, g2⟩
      have hfull : plK T cc (ordF T fun m => (T.man m).club == cc).length = places T cc := by
        unfold plK places
        rw [← List.length_map (f := fun m => (T.man m).place)]
        exact List.take_length
      rw [hfull] at g2
      have hlen : pl = (places T cc).length := by have := g2.len; rw [ints_len] at this; omega
      have hpl8 := places_le (T := T) (c := cc)
      have hmem : ∀ y ∈ places T cc, 1 ≤ y ∧ y ≤ T.n := fun y hy => places_mem hv hy
      have hcl := clubsL_succ T k
      rw [hcc] at hcl
      have hfr' := hfr.ext f'
      have hs3 := et.1
      have hft := f'.1
      have hclen := clubs_len T k
      have hlc : l = (clubsL T k).length := by have := hfr.len; rw [clubV_len] at this; omega
      have caf := f'.cell ca
      have zaf := f'.cell za
      -- a club more
      have more : ∀ (t3 : Hp) (r : Int), Ext t' t3 → sumC T.n (places T cc) = some r →
          NEW 80 [(.int .i64 cc), (.int .i64 r)] (fun B60 => APP Pg 80 2 x l c (some ⟨B60, 0, none⟩) 1 fun x61 l62 c63 => J_prize_prizes_best_0 W (endK K E) (some a) ⟨s.size, 0, none⟩ ⟨s1.size, 0, none⟩ nx x61 l62 c63) t3 := by
        intro t3 r e3' hr
        refine ne2 fun t4 e4 z4 q4 q5 => ?_
        have e34 := e3'.trans e4
        refine APP_fr (lo := s3.size) (hfr'.ext e34) (by have := e34.1; omega) (ws := [.int .i64 cc, .int .i64 r]) (fun i hi => ⟨⟨t3.size, 0, none⟩, rfl, ?_⟩) rfl zc_80 rfl (by omega) (by simp [oneCell]) (by omega) fun t5 x5 c5 k5 hx5 g5 => ?_
        · have : i = 0 ∨ i = 1 := by simp at hi; omega
          rcases this with rfl | rfl
          · exact q4.cell
          · exact q5.cell
        have e5 : Ext s3 t5 := kp_nil (et.trans (f'.trans e34)) (fun b hb => by obtain ⟨y, hy, rfl⟩ := hb; exact hfr.fr y hy) k5
        have hcv : clubV (clubsL T k) ++ [.int .i64 cc, .int .i64 r] = clubV (clubsL T (k + 1)) := by
          rw [hcl, hr]
          unfold clubV
          rw [List.flatMap_append]
          rfl
        rw [hcv] at g5
        refine next t5 x5 (l + 1) c5 e5 ?_ g5 (fun y hy => ?_)
        · refine k5.cell (fun hb => ?_) (e34.cell caf)
          obtain ⟨y, hy, hyb⟩ := hb
          exact (hxa y hy).1 hyb
        · refine fr_lt g5 ?_ hy
          rw [← hcv]; simp
      refine ⟨_, _, _, g1.cell, ?_⟩
      refine BR_eq (fun h1 => ?_) (fun h1 => ?_)
      · obtain ⟨y, hy⟩ : ∃ y, places T cc = [y] := List.length_eq_one_iff.1 (by omega)
        rw [hy] at g2
        have hym := hmem y (by rw [hy]; simp)
        refine ⟨_, caf, _, _, _, g1.cell, ?_⟩
        obtain ⟨py, hpy, cy⟩ := row_get (i := 0) g2.row rfl
        refine ⟨py, hpy, ⟨by omega, by omega⟩, _, cy, ?_⟩
        refine ⟨_, zaf, ?_⟩
        obtain ⟨mx, mc, x1, x2⟩ := (hp1.ext f').men
        refine ⟨_, _, _, x1, ?_⟩
        refine NEW_rule fun t3 e3' z3' n3 _ => ?_
        refine ANDS_i ⟨_, e3'.cell caf, rfl⟩ ?_
        refine c_sum (ds := [y, (T.n : Int), 1]) (r := y + T.n + 1) (fun i hi => ⟨⟨t'.size, 0, none⟩, rfl, ?_⟩) rfl (fun n hn => ?_) (by simp) (by simp; omega) ?_
        · rw [Nat.mul_one, add_nil, Nat.zero_add]
          exact (n3 i _ (List.getElem?_eq_getElem hi)).cell
        · simp at hn
          rcases hn with rfl | rfl | rfl <;> omega
        try simp only [TUP_mk, AGG_mk, HD_mk, NL_mk, TYI_mk, TYB_mk, TYP_mk, TYL_mk, TYS_mk, TYM_mk, SO_mk, NX_mk, endK_mk, endK_mk', add_0]
        refine ANDS_i ⟨_, e3'.cell caf, rfl⟩ ?_
        exact more t3 _ e3' (by rw [hy]; rfl)
      · refine ⟨_, _, _, g1.cell, ?_⟩
        refine BR_dec (fun h2 => ?_) (fun h2 => ?_)
        · obtain ⟨y, y2, yr, hy⟩ : ∃ y y2 yr, places T cc = y :: y2 :: yr := by
            match hq : places T cc with
            | [] => rw [hq] at hlen; simp at hlen; omega
            | [_] => rw [hq] at hlen; simp at hlen; omega
            | y :: y2 :: yr => exact ⟨y, y2, yr, rfl⟩
          have hym := hmem y (by rw [hy]; simp)
          have hym2 := hmem y2 (by rw [hy]; simp)
          refine ⟨_, caf, _, _, _, g1.cell, ?_⟩
          have hcap := g2.buf.le
          rw [ints_len, Nat.mul_one] at hcap
          refine ⟨⟨by omega, by omega, by omega⟩, ?_⟩
          have hpc : ¬ pc = (0 : Int).toNat := by show ¬ pc = 0; omega
          rw [if_neg hpc]
          refine ANDS_i ⟨_, caf, rfl⟩ ?_
          have hrow : RowAt t' (px.map (·.add ((0 : Int).toNat * 1))) (ints [y, y2]) := fun i hi => by
            rw [ints_len] at hi
            have hi2 : i < 2 := hi
            have hg : (ints (places T cc))[i]? = some (ints [y, y2])[i] := by
              rw [hy]
              have : i = 0 ∨ i = 1 := by omega
              rcases this with rfl | rfl <;> rfl
            obtain ⟨q, hq1, hq2⟩ := row_get g2.row hg
            refine ⟨q, by rw [hq1]; rfl, ?_⟩
            rw [Nat.mul_one]; exact hq2
          refine c_sum (ds := [y, y2]) (r := y + y2) hrow rfl (fun n hn => ?_) (by simp) (by simp) ?_
          · simp at hn
            rcases hn with rfl | rfl <;> omega
          try simp only [TUP_mk, AGG_mk, HD_mk, NL_mk, TYI_mk, TYB_mk, TYP_mk, TYL_mk, TYS_mk, TYM_mk, SO_mk, NX_mk, endK_mk, endK_mk', add_0]
          refine ANDS_i ⟨_, caf, rfl⟩ ?_
          exact more t' _ (Ext.refl _) (by rw [hy]; rfl)
        · have hnil : places T cc = [] := List.eq_nil_of_length_eq_zero (by omega)
          rw [hnil] at hcl
          have hcl' : clubsL T (k + 1) = clubsL T k := by rw [hcl]; exact List.append_nil _
          refine next t' x l c (et.trans f') caf (by rw [hcl']; exact hfr') (fun y hy => by have := (hxa y hy).2; omega)
  · have hk5 : k = 5 := by omega
    subst hk5
    have hclen := clubs_len T 5
    have hlc : l = (clubsL T 5).length := by have := hfr.len; rw [clubV_len] at this; omega
    refine c_first hfr.row hlc (by omega) fun t2 b e2' => ?_
    try simp only [TUP_mk, AGG_mk, HD_mk, NL_mk, TYI_mk, TYB_mk, TYP_mk, TYL_mk, TYS_mk, TYM_mk, SO_mk, NX_mk, endK_mk, endK_mk', add_0]
    have ob := e2'.own (et.own (e3.own o2))
    have ob' := e2'.own (et.own (e3.own o2'))
    refine nw2 zc_80 rfl rfl fun t3 e3' z3' q1 q2 => ?_
    refine ⟨_, q1.cell, _, q2.cell, ?_⟩
    refine WR_own (e3'.own ob) rfl ?_
    have w2 := own_set_ne (a := ⟨s1.size, 0, none⟩) (w := .int .i64 (firstL (clubsL T 5)).1) (.inr (by show (1 : Nat) ≠ 0; omega)) (e3'.own ob')
    refine WR_own w2 rfl ?_
    refine ⟨_, (own_set_ne (.inr (by show (0 : Nat) ≠ 1; omega)) (own_set (e3'.own ob))).cell, _, (own_set w2).cell, ?_⟩
    exact h _ (Ext.setC (Ext.setC (et0.trans (e2'.trans e3')) (by show s.size ≤ s1.size; omega)) (by show s.size ≤ s1.size; omega))
end
end Go.Proofs.Ytfaeokcbfnlgbaa.G

/- Prize: who has one; who gets one. -/
set_option linter.unusedSimpArgs false
set_option linter.unusedVariables false
set_option maxRecDepth 20000
namespace Go.Proofs.Ytfaeokcbfnlgbaa.G
open Go.V
theorem CALLV_first {P : Program} {W : World} {f : FuncId} {args : List Value} {first : Array Value} {K : VK} {E : List PanicEntry → Hp → Prop} {s : Hp} (h : CALL P W f (first.toList ++ args) K E s) : CALLV P W (.func (.func f) first #[]) args K E s := by
  show Does P W f (first ++ args.toArray ++ #[]) s _
  have e : (first ++ args.toArray ++ #[] : Array Value) = (first.toList ++ args).toArray := Array.ext' (by simp)
  rw [e]; exact h
/-- Who has a prize. -/
def TkN (s : Hp) (r : Nat) (F : Nat → Bool) : Prop := ∃ g, MapI s r g ∧ ∀ m : Nat, (g (m : Int) = none ∧ F m = false) ∨ g (m : Int) = some (.bool (F m))
section
variable {s s' : Hp} {r : Nat} {F : Nat → Bool}
theorem TkN.ext (e : Ext s s') (h : TkN s r F) : TkN s' r F := by
  obtain ⟨g, h1, h2⟩ := h
  exact ⟨g, h1.ext e, h2⟩
theorem TkN.kp {D : Nat → Prop} (e : Kp D s s') (hd : ¬ D r) (h : TkN s r F) : TkN s' r F := by
  obtain ⟨g, h1, h2⟩ := h
  exact ⟨g, h1.kp e hd, h2⟩
theorem TkN.blind : Blind (fun s => TkN s r F) := fun s l o hl ho h => by
  obtain ⟨g, h1, h2⟩ := h
  exact ⟨g, MapI.blind s l o hl ho h1, h2⟩
theorem TkN.new (h : MapI s r (fun _ => none)) : TkN s r (fun _ => false) := ⟨_, h, fun m => .inl ⟨rfl, rfl⟩⟩
theorem TkN.lt (h : TkN s r F) : r < s.size := by obtain ⟨g, h1, _⟩ := h; exact h1.lt
theorem TkN.put {m : Nat} {b : Bool} {K : Hp → Prop} (h : TkN s r F) (hk : ∀ s', Kp (· = r) s s' → s'.size = s.size → TkN s' r (fun k => if k = m then b else F k) → K s') : MUP Pg 88 (.map (some r)) (.int .i64 (m : Nat)) (.bool b) K s := by
  obtain ⟨g, h1, h2⟩ := h
  obtain ⟨e, ht, _⟩ := und_88
  refine MUP_v ht h1 fun s1 k1 z1 m1 => hk s1 k1 z1 ⟨_, m1, fun k => ?_⟩
  unfold updI
  by_cases hkm : k = m
  · subst hkm
    rw [if_pos rfl]
    exact .inr (by simp)
  · rw [if_neg (by omega)]
    simp only [hkm, if_false]
    exact h2 k
theorem TkN.putNo {n : Int} {b : Bool} {K : Hp → Prop} (h : TkN s r F) (hn : n < 0) (hk : ∀ s', Kp (· = r) s s' → s'.size = s.size → TkN s' r F → K s') : MUP Pg 88 (.map (some r)) (.int .i64 n) (.bool b) K s := by
  obtain ⟨g, h1, h2⟩ := h
  obtain ⟨e, ht, _⟩ := und_88
  refine MUP_v ht h1 fun s1 k1 z1 m1 => hk s1 k1 z1 ⟨_, m1, fun k => ?_⟩
  unfold updI
  rw [if_neg (by omega)]
  exact h2 k
theorem TkN.get {m : Nat} {K : VK} (h : TkN s r F) (hk : K (.bool (F m)) s) : LKP Pg 88 (.map (some r)) (.int .i64 (m : Nat)) false K s := by
  obtain ⟨g, h1, h2⟩ := h
  obtain ⟨e, ht, hz⟩ := und_88
  refine LKP_v ht hz h1 (fun v hv => ?_) (fun hv => ?_)
  · rcases h2 m with ⟨h3, _⟩ | h3
    · rw [h3] at hv; cases hv
    · rw [h3] at hv; cases hv; exact hk
  · rcases h2 m with ⟨_, h3⟩ | h3
    · rw [h3] at hk; exact hk
    · rw [h3] at hv; cases hv
end
section
variable {W : World} {K : VK} {E : List PanicEntry → Hp → Prop} {s : Hp} {p : Addr} {T : PT} {v : Value} {R : Hp → Prop} {f : Nat → Bool}
theorem c_left {r m : Nat} {F : Nat → Bool} (h : TkN s r F) (hk : K (.bool (!F m)) s) : CALL Pg W F_prize_taken_left [.map (some r), .int .i64 (m : Nat)] K E s := by
  refine does_prize_taken_left W (some r) m _ s ?_
  unfold T_prize_taken_left
  refine h.get ?_
  try simp only [TUP_mk, AGG_mk, HD_mk, NL_mk, TYI_mk, TYB_mk, TYP_mk, TYL_mk, TYS_mk, TYM_mk, SO_mk, NX_mk, endK_mk, endK_mk', add_0]
  exact hk
theorem isLeft {r n : Nat} {F : Nat → Bool} : IsFn W (.func (.func 65) #[.map (some r)] #[]) n (fun s => TkN s r F) (fun m => !F m) where
  one := rfl
  blind := TkN.blind
  ext := fun s s' h e => h.ext e
  call := fun s m hm h K E hk => by
    refine CALLV_first ?_
    exact c_left h (hk s (Ext.refl s))
/-- Who gets a prize that is for a club within the best one. -/
def givB (T : PT) (b : Int × Int) (f : Nat → Bool) (z : Nat) : Option Nat := if (T.pz z).kind = 4 then (if b = (0, 0) then none else givF T (fun m => f m && ((T.man m).club == b.1)) z) else givF T f z
def InR (p : Addr) (T : PT) (a g : Addr) (v : Value) (n : Int) (R : Hp → Prop) : Hp → Prop := fun s => PrO s p T ∧ cellAt s a = some v ∧ cellAt s ((g.add 0).add 0) = some (.pointer (some p)) ∧ cellAt s ((g.add 1).add 0) = some (.int .i64 n) ∧ R s
theorem isIn {a g : Addr} {n : Int} (hf : IsFn W v T.n R f) : IsFn W (.func (.func 113) #[] #[.pointer (some a), .pointer (some g)]) T.n (InR p T a g v n R) (fun m => f m && ((T.man m).club == n)) where
  one := rfl
  blind := fun s l o hl ho h => ⟨PrO.blind s l o hl ho h.1, cell_blind hl h.2.1, cell_blind hl h.2.2.1, cell_blind hl h.2.2.2.1, hf.blind s l o hl ho h.2.2.2.2⟩
  ext := fun s s' h e => ⟨h.1.ext e, e.cell h.2.1, e.cell h.2.2.1, e.cell h.2.2.2.1, hf.ext _ _ h.2.2.2.2 e⟩
  call := fun s m hm h K E hk => by
    refine CALLV_func ?_
    refine does_prize_clubs_gives_c1 W m a g _ s ?_
    unfold T_prize_clubs_gives_c1
    refine ⟨_, h.2.1, ?_⟩
    refine hf.call s m hm h.2.2.2.2 _ _ fun s1 e1 => ?_
    try simp only [TUP_mk, AGG_mk, HD_mk, NL_mk, TYI_mk, TYB_mk, TYP_mk, TYL_mk, TYS_mk, TYM_mk, SO_mk, NX_mk, endK_mk, endK_mk', add_0]
    refine BR_bool (fun hb => ?_) (fun hb => ?_)
    · obtain ⟨x, cx, x1, x2⟩ := (h.1.ext e1).men
      obtain ⟨ax, w0, w1, w2, w3, w4⟩ := man_row x2 hm
      refine ⟨_, e1.cell h.2.2.1, _, _, _, x1, ?_⟩
      refine IXS_at w0 hm ?_
      refine ⟨_, w2, _, e1.cell h.2.2.2.1, ?_⟩
      have := hk s1 e1
      rw [hb, Bool.true_and] at this
      exact this
    · have := hk s1 e1
      rw [hb, Bool.false_and] at this
      exact this
theorem c_clubs {z : Nat} {b : Int × Int} (hz : z < T.z) (hf : IsFn W v T.n R f) (hR : R s) (hp : PrO s p T) (h : ∀ s', Ext s s' → K (.int .i64 (manI (givB T b f z))) s') : CALL Pg W F_prize_clubs_gives [.agg #[.pointer (some p), .int .i64 b.1, .int .i64 b.2], .int .i64 (z : Nat), v] K E s := by
  refine does_prize_clubs_gives W (some p) b.1 b.2 z v _ s ?_
  unfold T_prize_clubs_gives
  refine NEW_rule fun s1 e1 z1 n1 _ => ?_
  unfold ONE
  rw [hf.one]
  refine ne1 fun s2 e2 z2 o2 => ?_
  have e02 := e1.trans e2
  have g0 : cellAt s2 ((Addr.add ⟨s.size, 0, none⟩ 0).add 0) = some (.pointer (some p)) := e2.cell (n1 0 _ rfl).cell
  have g1 : cellAt s2 ((Addr.add ⟨s.size, 0, none⟩ 1).add 0) = some (.int .i64 b.1) := e2.cell (n1 1 _ rfl).cell
  have g2 : cellAt s2 ((Addr.add ⟨s.size, 0, none⟩ 1).add 1) = some (.int .i64 b.2) := e2.cell (n1 2 _ rfl).cell
  have hp2 := hp.ext e02
  obtain ⟨x, cx, x1, x2⟩ := hp2.lst
  obtain ⟨ax, w0, w1, w2⟩ := pz_row x2 hz
  refine ⟨_, g0, _, _, _, x1, ?_⟩
  refine IXS_at w0 hz ?_
  refine ⟨_, w1, ?_⟩
  refine BR_ne (fun h4 => ?_) (fun h4 => ?_)
  · refine ⟨_, g0, _, o2.cell, ?_⟩
    refine c_plain hz hf (hf.ext _ _ hR e02) hp2 fun s3 e3 => ?_
    try simp only [TUP_mk, AGG_mk, HD_mk, NL_mk, TYI_mk, TYB_mk, TYP_mk, TYL_mk, TYS_mk, TYM_mk, SO_mk, NX_mk, endK_mk, endK_mk', add_0]
    have := h s3 (e02.trans e3)
    unfold givB at this
    rw [if_neg h4] at this
    exact this
  · refine ⟨_, g1, _, g2, ?_⟩
    refine BR_bool (fun h0 => ?_) (fun h0 => ?_)
    · have hb : b = (0, 0) := by
        simp only [Bool.and_eq_true, beq_iff_eq] at h0
        exact Prod.ext h0.1 h0.2
      have := h s2 e02
      unfold givB at this
      rw [if_pos h4, if_pos hb] at this
      exact this
    · have hb : ¬ b = (0, 0) := fun hb => by rw [hb] at h0; simp at h0
      refine ⟨_, g0, ?_⟩
      refine c_plain (R := InR p T ⟨s1.size, 0, none⟩ ⟨s.size, 0, none⟩ v b.1 R) hz (isIn hf) ⟨hp2, o2.cell, g0, g1, hf.ext _ _ hR e02⟩ hp2 fun s3 e3 => ?_
      try simp only [TUP_mk, AGG_mk, HD_mk, NL_mk, TYI_mk, TYB_mk, TYP_mk, TYL_mk, TYS_mk, TYM_mk, SO_mk, NX_mk, endK_mk, endK_mk', add_0]
      have := h s3 (e02.trans e3)
      unfold givB at this
      rw [if_pos h4, if_neg hb] at this
      exact this
end
end Go.Proofs.Ytfaeokcbfnlgbaa.G

/- Prize: the due giving; givings; what everybody gets. -/
set_option linter.unusedSimpArgs false
set_option linter.unusedVariables false
set_option maxRecDepth 20000
namespace Go.Proofs.Ytfaeokcbfnlgbaa.G
open Go.V
theorem mth_clubs : mth Pg 110 "furrowworks/prize.gives" = some F_prize_clubs_gives := by kernel_rfl
def tkF (l : List (Option Nat)) (m : Nat) : Bool := decide (some m ∈ l)
theorem tkF_none (l : List (Option Nat)) : tkF (l ++ [none]) = tkF l := by
  funext m; unfold tkF; congr 1; simp
theorem tkF_some (l : List (Option Nat)) (m : Nat) : tkF (l ++ [some m]) = fun k => if k = m then true else tkF l k := by
  funext k
  unfold tkF
  by_cases h : k = m
  · subst h; simp
  · simp [h]
/-- Who is due the first so many prizes. -/
def dueL (T : PT) : Nat → List (Option Nat)
  | 0 => []
  | k + 1 => dueL T k ++ [givB T (bestP T) (fun m => !tkF (dueL T k) m) k]
theorem dueL_len (T : PT) : ∀ k, (dueL T k).length = k
  | 0 => rfl
  | k + 1 => by show (dueL T k ++ _).length = _; rw [List.length_append, dueL_len T k]; rfl
def dueP (T : PT) : List (Option Nat) := dueL T T.z
def manL (l : List (Option Nat)) : List Int := l.map manI
theorem manL_app (a b : List (Option Nat)) : manL (a ++ b) = manL a ++ manL b := by unfold manL; rw [List.map_append]
theorem MKS_cap {P : Program} {t : TypeId} {c : Nat} {z : Value} {K : Nat → Hp → Prop} {s : Hp} (hz : zc P t = [z]) (hn : c ≤ 100000) (h : ∀ s', Ext s s' → s'.size = s.size + 1 → Fr s.size s' (some ⟨s.size, 0, none⟩) 0 c 1 [] → K s.size s') : MKS P t 0 (c : Int) K s := by
  refine ⟨⟨by omega, by omega, by omega⟩, ?_⟩
  rw [hz, Int.toNat_natCast]
  refine h _ (Ext.push (Ext.refl _)) (by simp) ⟨?_, rfl, fun a ha => by cases ha; exact Nat.le_refl _, by omega⟩
  have := buf_new (s := s) (cs := repL c [z]) (vs := []) (ty := t) (by simp) (fun i hi => by simp at hi)
  rw [repL_length] at this
  rw [Nat.mul_one]; exact this
section
variable {W : World} {K : VK} {E : List PanicEntry → Hp → Prop} {s : Hp} {p : Addr} {T : PT}
theorem c_due (hp : PrO s p T) (h : ∀ s' x c, Ext s s' → Fr s.size s' x T.z c 1 (ints (manL (dueP T))) → K (.slice x T.z c) s') : CALL Pg W F_prize_prizes_due [.pointer (some p)] K E s := by
  have hv := okP_vd hp.ok
  have h8 := hv.n8
  have h6 := hv.z6
  refine does_prize_prizes_due W (some p) _ s ?_
  unfold T_prize_prizes_due
  refine c_best hp fun s1 e1 => ?_
  try simp only [TUP_mk, AGG_mk, HD_mk, NL_mk, TYI_mk, TYB_mk, TYP_mk, TYL_mk, TYS_mk, TYM_mk, SO_mk, NX_mk, endK_mk, endK_mk', add_0]
  refine MKM_rule fun s2 e2 z2 m2 => ?_
  have e02 := e1.trans e2
  obtain ⟨y, cy, y1, y2⟩ := (hp.ext e02).lst
  refine ⟨_, _, _, y1, ?_⟩
  dsimp only
  refine MKS_cap zc_3 (by omega) fun s3 e3 z3 f3 => ?_
  have e03 := e02.trans e3
  refine ⟨_, _, _, e3.cell y1, ?_⟩
  dsimp only
  rw [toNat_nat]
  have hr : s.size ≤ s1.size := e1.1
  refine L_prize_prizes_due_0_rule W _ (some p) (bestP T).1 (bestP T).2 (some s1.size) T.z (fun x l c n t => Ext s t ∧ ∃ k : Nat, k ≤ T.z ∧ n = k ∧ TkN t s1.size (tkF (dueL T k)) ∧ Fr s.size t x l c 1 (ints (manL (dueL T k))) ∧ ∀ y, x = some y → y.block ≠ s1.size)
    (fun _ _ _ n _ => (T.z - n).toNat) (some ⟨s2.size, 0, none⟩) 0 T.z 0 s3 ⟨e03, 0, by omega, rfl, ?_, ⟨f3.buf, f3.len, fun a ha => by cases ha; exact e02.1, f3.cap⟩, fun y hy => by cases hy; show s2.size ≠ s1.size; omega⟩ ?_
  · exact (TkN.new m2).ext e3
  rintro x l c n t ⟨et, k, hk, rfl, htk, hfr, hxr⟩
  unfold B_prize_prizes_due_0
  have hlen : l = k := by have := hfr.len; rw [ints_len] at this; unfold manL at this; rw [List.length_map, dueL_len] at this; omega
  refine BR_dec (fun hlt => ?_) (fun hlt => ?_)
  · have hkz : k < T.z := by omega
    unfold INV
    simp only [mth_clubs]
    generalize hnx : (fun vs : List Value => _) = nx
    refine c_clubs (b := bestP T) hkz isLeft htk (hp.ext et) fun t1 f1 => ?_
    try simp only [TUP_mk, AGG_mk, HD_mk, NL_mk, TYI_mk, TYB_mk, TYP_mk, TYL_mk, TYS_mk, TYM_mk, SO_mk, NX_mk, endK_mk, endK_mk', add_0]
    generalize hg : givB T (bestP T) (fun m => !tkF (dueL T k) m) k = g
    have hd : dueL T (k + 1) = dueL T k ++ [g] := by rw [← hg]; rfl
    have fin : ∀ t', Ext s t' → TkN t' s1.size (tkF (dueL T (k + 1))) → Fr s.size t' x l c 1 (ints (manL (dueL T k))) → J_prize_prizes_due_0 W (endK K E) (manI g) x l c (some p) (bestP T).1 (bestP T).2 (some s1.size) T.z nx k t' := by
      intro t' e' htk' hfr'
      unfold J_prize_prizes_due_0
      refine ne1 fun t3 e3' z3' q3 => ?_
      have et3 := e'.trans e3'
      refine APP_fr (lo := s.size) (hfr'.ext e3') et3.1 (ws := [.int .i64 (manI g)]) (fun i hi => ⟨⟨t'.size, 0, none⟩, rfl, ?_⟩) rfl zc_3 rfl (by omega) (by simp [oneCell]) (by omega) fun t4 x4 c4 k4 hx4 g4 => ?_
      · have hi0 : i = 0 := by simp at hi; omega
        subst hi0; exact q3.cell
      have e4 : Ext s t4 := kp_nil et3 (fun b hb => by obtain ⟨y, hy, rfl⟩ := hb; exact hfr'.fr y hy) k4
      have hrt := htk'.lt
      rw [← hnx]
      refine ⟨rfl, _, _, _, _, rfl, ⟨e4, k + 1, hkz, wrap_succ (by omega), ?_, ?_, fun y hy => ?_⟩, ms_succ hkz (by omega)⟩
      · refine (htk'.ext e3').kp k4 (fun hb => ?_)
        obtain ⟨y, hy, hyb⟩ := hb
        exact hxr y hy hyb
      · rw [hd, manL_app, ints_app]; exact g4
      · rcases hx4 y hy with ⟨y', hy', hyb⟩ | hyb
        · rw [← hyb]; exact hxr y' hy'
        · have := e3'.1; omega
    cases g with
    | none =>
      refine BR_ne (fun hh => absurd rfl hh) (fun _ => ?_)
      refine fin t1 (et.trans f1) ?_ (hfr.ext f1)
      rw [hd, tkF_none]; exact htk.ext f1
    | some m =>
      refine BR_ne (fun _ => ?_) (fun hh => ?_)
      · refine TkN.put (htk.ext f1) fun t2 k2 z2' htk2 => ?_
        refine fin t2 (ext_kp (et.trans f1) hr k2) ?_ ?_
        · rw [hd, tkF_some]; exact htk2
        · exact (hfr.ext f1).kp k2 (fun y hy => hxr y hy)
      · have : ((m : Nat) : Int) = -1 := hh
        omega
  · have hkz : k = T.z := by omega
    subst hkz
    subst hlen
    exact h t x c et hfr
end
end Go.Proofs.Ytfaeokcbfnlgbaa.G

/- Prize: givings; what everybody gets; Can, Due, Club. -/
set_option linter.unusedSimpArgs false
set_option linter.unusedVariables false
set_option maxRecDepth 20000
namespace Go.Proofs.Ytfaeokcbfnlgbaa.G
open Go.V
theorem zc_29 : zc Pg 29 = [.int .i64 0] := by kernel_rfl
theorem _root_.Go.V.Fr.le {lo lo' : Nat} {s : Hp} {x : Option Addr} {l c es : Nat} {vs : List Value} (h : Fr lo s x l c es vs) (hl : lo' ≤ lo) : Fr lo' s x l c es vs := ⟨h.buf, h.len, fun a ha => Nat.le_trans hl (h.fr a ha), h.cap⟩
/-- A row is made, and another one is copied into it. -/
theorem DUP_rule {P : Program} {t : TypeId} {n : Nat} {z : Value} {y : Option Addr} {vs : List Value} {K : Nat → Int → Hp → Prop} {s : Hp} (hz : zc P t = [z]) (hn : n ≤ 100000) (hy : RowAt s y vs) (hl : vs.length = n) (hv : ∀ v ∈ vs, oneCell v = true)
    (h : ∀ s', Ext s s' → Fr s.size s' (some ⟨s.size, 0, none⟩) n n 1 vs → K s.size n s') : MKS P t (n : Int) (n : Int) (fun B => COPY 1 (some ⟨B, 0, none⟩) n y n (K B)) s := by
  refine MKS_rule hz hn fun s1 e1 z1 o1 => ?_
  refine ⟨vs, ?_, ?_⟩
  · rw [Nat.min_self, Nat.mul_one, ← hl]; exact (hy.ext e1).cells
  · refine wrN_rule vs _ 0 _ s1 (fun i hi => ⟨z, ?_⟩) hv fun s2 k2 z2 o2 _ => ?_
    · rw [add_nil, Nat.zero_add, Nat.zero_add]; exact o1 i (by omega)
    · rw [Nat.min_self]
      refine h s2 (ext_kp e1 (Nat.le_refl _) k2) ⟨⟨by omega, fun i hi => ⟨_, rfl, ?_⟩⟩, by omega, fun a ha => by cases ha; exact Nat.le_refl _, by omega⟩
      have hi' : i < vs.length := by omega
      have := o2 i hi'
      rw [Nat.zero_add] at this
      exact ⟨vs[i], this, fun _ => rfl⟩
/-- Is a list a giving? -/
def gvS (T : PT) : List Int → List Int → Bool
  | _, [] => true
  | seen, d :: r => ((d == -1) || (decide (0 ≤ d ∧ d < T.n) && !decide (d ∈ seen))) && gvS T (seen ++ [d]) r
def gvP (T : PT) (l : List Int) : Bool := decide (l.length = T.z) && gvS T [] l
theorem gvS_step {T : PT} {l : List Int} {k : Nat} (hk : k < l.length) : gvS T (l.take k) (l.drop k) = (((l.getD k 0 == -1) || (decide (0 ≤ l.getD k 0 ∧ l.getD k 0 < T.n) && !decide (l.getD k 0 ∈ l.take k))) && gvS T (l.take (k + 1)) (l.drop (k + 1))) := by
  rw [List.drop_eq_getElem_cons hk, getD_lt hk]
  conv => lhs; unfold gvS
  rw [List.take_add_one, List.getElem?_eq_getElem hk]
  rfl
theorem gvS_all {T : PT} : ∀ (l seen : List Int), gvS T seen l = true → ∀ d ∈ l, d = -1 ∨ (0 ≤ d ∧ d < T.n)
  | [], _, _, d, hd => by cases hd
  | x :: r, seen, h, d, hd => by
    unfold gvS at h
    simp only [Bool.and_eq_true, Bool.or_eq_true, decide_eq_true_eq, beq_iff_eq] at h
    rcases List.mem_cons.1 hd with rfl | hd
    · rcases h.1 with h | h
      · exact .inl h
      · exact .inr h.1
    · exact gvS_all r _ h.2 d hd
/-- What everybody gets by the first so many. -/
def worL (T : PT) (l : List Int) : Nat → List Int
  | 0 => List.replicate T.n 0
  | k + 1 => if l.getD k 0 = -1 then worL T l k else (worL T l k).set (l.getD k 0).toNat (T.pz k).worth
theorem worL_len (T : PT) (l : List Int) : ∀ k, (worL T l k).length = T.n
  | 0 => by simp [worL]
  | k + 1 => by unfold worL; split <;> simp [worL_len T l k]
def worP (T : PT) (l : List Int) : List Int := worL T l l.length
theorem worL_bd {T : PT} (hv : VdP T) (l : List Int) : ∀ k, k ≤ T.z → ∀ x ∈ worL T l k, 0 ≤ x ∧ x ≤ 1000
  | 0, _, x, hx => by unfold worL at hx; rw [List.mem_replicate] at hx; omega
  | k + 1, hk, x, hx => by
    unfold worL at hx
    split at hx
    · exact worL_bd hv l k (by omega) x hx
    · rcases List.mem_or_eq_of_mem_set hx with hx | rfl
      · exact worL_bd hv l k (by omega) x hx
      · exact hv.wo k (by omega)
section
variable {W : World} {K : VK} {E : List PanicEntry → Hp → Prop} {s : Hp} {p : Addr} {T : PT}
theorem c_giving {x : Option Addr} {c : Nat} {ds : List Int} (hp : PrO s p T) (hx : RowAt s x (ints ds)) (h1 : gvP T ds = true → ∀ s' y c', Ext s s' → Fr s.size s' y ds.length c' 1 (ints ds) → K (.slice y ds.length c') s') (h2 : gvP T ds = false → ∀ s', Ext s s' → E (pn 2) s') :
    CALL Pg W F_prize_prizes_giving [.pointer (some p), .slice x ds.length c] K E s := by
  have hv := okP_vd hp.ok
  have h6 := hv.z6
  have h8 := hv.n8
  refine does_prize_prizes_giving W (some p) x ds.length c _ s ?_
  unfold T_prize_prizes_giving
  obtain ⟨y, cy, y1, y2⟩ := hp.lst
  refine ⟨_, _, _, y1, ?_⟩
  dsimp only
  have hno : ((ds.length : Int) == (T.z : Int)) = false → gvP T ds = false := fun hb => by
    unfold gvP
    have : ¬ ds.length = T.z := fun e => by rw [e] at hb; simp at hb
    rw [decide_eq_false this]; rfl
  refine c_must (fun hb => ?_) (fun hb => h2 (hno hb) s (Ext.refl s))
  have hlen : ds.length = T.z := by
    have : (ds.length : Int) = T.z := by simpa using hb
    omega
  try simp only [TUP_mk, AGG_mk, HD_mk, NL_mk, TYI_mk, TYB_mk, TYP_mk, TYL_mk, TYS_mk, TYM_mk, SO_mk, NX_mk, endK_mk, endK_mk', add_0]
  refine MKM_rule fun s1 e1 z1 m1 => ?_
  refine L_prize_prizes_giving_0_rule W _ (some p) x ds.length c (some s.size) ds.length (fun n t => Ext s t ∧ ∃ k : Nat, k ≤ ds.length ∧ n = k ∧ TkN t s.size (fun m => decide ((m : Int) ∈ ds.take k)) ∧ gvS T [] ds = gvS T (ds.take k) (ds.drop k)) (fun n _ => (ds.length - n).toNat) 0 s1
    ⟨e1, 0, by omega, rfl, TkN.new m1, rfl⟩ ?_
  rintro n t ⟨et, k, hk, rfl, htk, hgv⟩
  unfold B_prize_prizes_giving_0
  refine BR_dec (fun hlt => ?_) (fun hlt => ?_)
  · have hkl : k < ds.length := by omega
    obtain ⟨a, ha, g⟩ := row_int (hx.ext et) hkl
    refine IXS_at ha hkl ?_
    refine ⟨_, g, ?_⟩
    have hstep := gvS_step (T := T) hkl
    generalize hd : ds.getD k 0 = d at *
    have htake : ds.take (k + 1) = ds.take k ++ [d] := by rw [List.take_add_one, List.getElem?_eq_getElem hkl, ← hd, getD_lt hkl]; rfl
    generalize hnx : (fun vs : List Value => _) = nx
    have fin : ∀ b, b = ((d == -1) || (decide (0 ≤ d ∧ d < T.n) && !decide (d ∈ ds.take k))) → J_prize_prizes_giving_0 W (endK K E) b (some s.size) d (some p) x ds.length c ds.length nx k t := by
      intro b hb
      unfold J_prize_prizes_giving_0
      refine c_must (fun h => ?_) (fun h => h2 ?_ t et)
      · try simp only [TUP_mk, AGG_mk, HD_mk, NL_mk, TYI_mk, TYB_mk, TYP_mk, TYL_mk, TYS_mk, TYM_mk, SO_mk, NX_mk, endK_mk, endK_mk', add_0]
        have hrest : gvS T [] ds = gvS T (ds.take (k + 1)) (ds.drop (k + 1)) := by rw [hgv, hstep, ← hb, h, Bool.true_and]
        rw [hb] at h
        simp only [Bool.or_eq_true, Bool.and_eq_true, decide_eq_true_eq, beq_iff_eq] at h
        rcases h with h | h
        · subst h
          refine TkN.putNo htk (by omega) fun t2 k2 z2 htk2 => ?_
          rw [← hnx]
          refine ⟨_, rfl, ⟨ext_kp et (Nat.le_refl _) k2, k + 1, hkl, wrap_succ (by omega), ?_, hrest⟩, ms_succ hkl (by omega)⟩
          have e : (fun m : Nat => decide ((m : Int) ∈ ds.take (k + 1))) = fun m : Nat => decide ((m : Int) ∈ ds.take k) := by
            funext m
            congr 1
            rw [htake]
            apply propext
            constructor
            · intro hm
              rcases List.mem_append.1 hm with hm | hm
              · exact hm
              · simp at hm
            · exact fun hm => List.mem_append_left _ hm
          rw [e]; exact htk2
        · obtain ⟨⟨h3, h4⟩, h5⟩ := h
          obtain ⟨m, rfl⟩ := Int.eq_ofNat_of_zero_le h3
          have hne : ((m : Int) != -1) = true := by
            exact bne_iff_ne.2 (by omega)
          rw [hne]
          refine TkN.put htk fun t2 k2 z2 htk2 => ?_
          rw [← hnx]
          refine ⟨_, rfl, ⟨ext_kp et (Nat.le_refl _) k2, k + 1, hkl, wrap_succ (by omega), ?_, hrest⟩, ms_succ hkl (by omega)⟩
          have e : (fun q : Nat => decide ((q : Int) ∈ ds.take (k + 1))) = fun q : Nat => if q = m then true else decide ((q : Int) ∈ ds.take k) := by
            funext q
            rw [htake]
            by_cases hq : q = m
            · subst hq
              rw [if_pos rfl]
              exact decide_eq_true (by simp)
            · rw [if_neg hq]
              congr 1
              apply propext
              constructor
              · intro hm
                rcases List.mem_append.1 hm with hm | hm
                · exact hm
                · simp at hm; omega
              · exact fun hm => List.mem_append_left _ hm
          rw [e]; exact htk2
      · unfold gvP
        rw [decide_eq_true hlen, hgv, hstep, ← hb, h]; rfl
    refine BR_eq (fun h => ?_) (fun h => ?_)
    · refine fin _ ?_
      rw [h]; rfl
    · have hdn : (d == -1) = false := by simpa using h
      refine c_isMan (hp.ext et) ?_
      try simp only [TUP_mk, AGG_mk, HD_mk, NL_mk, TYI_mk, TYB_mk, TYP_mk, TYL_mk, TYS_mk, TYM_mk, SO_mk, NX_mk, endK_mk, endK_mk', add_0]
      refine BR_bool (fun h3 => ?_) (fun h3 => ?_)
      · have h3' := of_decide_eq_true h3
        obtain ⟨m, rfl⟩ := Int.eq_ofNat_of_zero_le h3'.1
        refine c_left htk ?_
        try simp only [TUP_mk, AGG_mk, HD_mk, NL_mk, TYI_mk, TYB_mk, TYP_mk, TYL_mk, TYS_mk, TYM_mk, SO_mk, NX_mk, endK_mk, endK_mk', add_0]
        refine fin _ ?_
        rw [hdn, h3]; rfl
      · refine fin _ ?_
        rw [hdn, h3]; rfl
  · have hkl : k = ds.length := by omega
    subst hkl
    rw [List.drop_length] at hgv
    have hgv' : gvP T ds = true := by
      unfold gvP
      rw [decide_eq_true hlen, hgv]; rfl
    rw [toNat_nat]
    refine DUP_rule zc_3 (by omega) (hx.ext et) (ints_len ds) (ints_one ds) fun s' e' f' => ?_
    exact h1 hgv' s' _ _ (et.trans e') (f'.le et.1)
theorem c_worths {x : Option Addr} {c : Nat} {ds : List Int} (hp : PrO s p T) (hx : RowAt s x (ints ds)) (hl : ds.length = T.z) (hd : ∀ d ∈ ds, d = -1 ∨ (0 ≤ d ∧ d < T.n)) (h : ∀ s' y c', Ext s s' → Fr s.size s' y T.n c' 1 (ints (worP T ds)) → K (.slice y T.n c') s') :
    CALL Pg W F_prize_prizes_worths [.pointer (some p), .slice x ds.length c] K E s := by
  have hv := okP_vd hp.ok
  have h6 := hv.z6
  have h8 := hv.n8
  refine does_prize_prizes_worths W (some p) x ds.length c _ s ?_
  unfold T_prize_prizes_worths
  obtain ⟨y, cy, y1, y2⟩ := hp.men
  refine ⟨_, _, _, y1, ?_⟩
  dsimp only
  rw [toNat_nat]
  refine MKS_rule zc_3 (by omega) fun s1 e1 z1 o1 => ?_
  refine L_prize_prizes_worths_0_rule W _ (some p) ⟨s.size, 0, none⟩ T.n x ds.length c ds.length (fun n t => Ext s t ∧ ∃ k : Nat, k ≤ ds.length ∧ n = k ∧ Buf t (some ⟨s.size, 0, none⟩) T.n (ints (worL T ds k))) (fun n _ => (ds.length - n).toNat) 0 s1
    ⟨e1, 0, by omega, rfl, ?_⟩ ?_
  · refine ⟨by rw [ints_len, worL_len]; exact Nat.le_refl _, fun i hi => ⟨_, rfl, .int .i64 0, ?_, fun hh => ?_⟩⟩
    · rw [add_nil, Nat.zero_add]; exact o1 i hi
    · rw [ints_get hh]; simp [worL]
  rintro n t ⟨et, k, hk, rfl, hb⟩
  unfold B_prize_prizes_worths_0
  refine BR_dec (fun hlt => ?_) (fun hlt => ?_)
  · have hkl : k < ds.length := by omega
    have hkz : k < T.z := by omega
    obtain ⟨a, ha, g⟩ := row_int (hx.ext et) hkl
    refine IXS_at ha hkl ?_
    refine ⟨_, g, ?_⟩
    have hdk := hd (ds.getD k 0) (by rw [getD_lt hkl]; exact List.getElem_mem hkl)
    generalize hdd : ds.getD k 0 = d at *
    refine BR_ne (fun h3 => ?_) (fun h3 => ?_)
    · have hdk' := hdk.resolve_left h3
      obtain ⟨m, rfl⟩ := Int.eq_ofNat_of_zero_le hdk'.1
      have hm : m < T.n := by omega
      obtain ⟨z, cz, q1, q2⟩ := (hp.ext et).lst
      obtain ⟨az, w0, w1, w2⟩ := pz_row q2 hkz
      refine ⟨_, _, _, q1, ?_⟩
      refine IXS_at w0 hkz ?_
      refine ⟨_, w2, ?_⟩
      refine IXS_nat hm ?_
      have hmi : m < (ints (worL T ds k)).length := by rw [ints_len, worL_len]; exact hm
      have hat := hb.at hmi
      have hset := hb.set (v := .int .i64 (T.pz k).worth) hmi
      rw [Nat.mul_one]
      refine WR_own hat rfl ?_
      unfold J_prize_prizes_worths_0
      refine ⟨rfl, _, rfl, ⟨Ext.setC et (by rw [add_0, add_blk]; exact Nat.le_refl _), k + 1, hkl, wrap_succ (by omega), ?_⟩, ms_succ hkl (by omega)⟩
      have e : ints (worL T ds (k + 1)) = (ints (worL T ds k)).set m (.int .i64 (T.pz k).worth) := by
        conv => lhs; unfold worL
        rw [hdd, if_neg h3, toNat_nat]
        unfold ints
        rw [List.map_set]
      rw [e]; exact hset
    · unfold J_prize_prizes_worths_0
      refine ⟨rfl, _, rfl, ⟨et, k + 1, hkl, wrap_succ (by omega), ?_⟩, ms_succ hkl (by omega)⟩
      have e : worL T ds (k + 1) = worL T ds k := by
        conv => lhs; unfold worL
        rw [hdd, if_pos h3]
      rw [e]; exact hb
  · have hkl : k = ds.length := by omega
    subst hkl
    refine h t _ _ et ⟨by rw [Nat.mul_one]; exact hb, by rw [ints_len, Nat.mul_one]; exact worL_len _ _ _, fun a ha => by cases ha; exact Nat.le_refl _, by omega⟩
end
end Go.Proofs.Ytfaeokcbfnlgbaa.G

/- More of the functions' shallow texts, by gen.py. -/
set_option linter.unusedVariables false
set_option maxRecDepth 100000
namespace Go.Proofs.Ytfaeokcbfnlgbaa.G
open Go.V
def an_25 : Nat → Ann := fun b => match b with
  | 0 => { ms := [4, 5], ks := [.b, .i .i64], us := [0, 1, 26], rt := false, ex := [] }
  | _ => {}
abbrev rv_25 : List ResultVar := [.tmp 4]
abbrev rs_25 : List Nat := [26, 4]
def L_ref13_Ints_0 (W : World) (R : Ending → Hp → Prop) (zp0 : Option Addr) (zl1 : Nat) (zl2 : Nat) (zp3 : Option Addr) (zl4 : Nat) (zl5 : Nat) (b7 : Bool) (n8 : Int) : Hp → Prop :=
  LOOPN [.b, .i .i64] (fun ys next s => ∀ j : Tm, vc Pg W 26 rs_25 an_25 false (sub (bodyOf Try.f25) [1, 1, 0, 1, 0, 0]) 0 (KLoop [4, 5] [0, 1, 26] [(.slice zp0 zl1 zl2), (.slice zp3 zl4 zl5), (.tuple #[])] next (KBlk 0 (KS Pg W 26 rs_25 an_25 false (sub (bodyOf Try.f25) [1, 1, 1]) 0 (fin Pg W 26 rv_25 R)))) (known [4, 5] ys (known [0, 1, 26] [(.slice zp0 zl1 zl2), (.slice zp3 zl4 zl5), (.tuple #[])] j)) s) [(.bool b7), (.int .i64 n8)]
def B_ref13_Ints_0 (W : World) (R : Ending → Hp → Prop) (zp0 : Option Addr) (zl1 : Nat) (zl2 : Nat) (zp3 : Option Addr) (zl4 : Nat) (zl5 : Nat) (b7 : Bool) (n8 : Int) (nx0 : List Value → Hp → Prop) : Hp → Prop :=
  BR (decide (n8 < (↑zl1 : Int)))
    (IXS zp0 zl1 n8 1 fun a9 =>
      RDI .i64 a9 fun n10 =>
        IXS zp3 zl4 n8 1 fun a11 =>
          RDI .i64 a11 fun n12 =>
            BR (n10 != n12)
              (R (.returned (.bool false)))
              (NX [(.slice zp0 zl1 zl2), (.slice zp3 zl4 zl5), (.tuple #[])] [(.slice zp0 zl1 zl2), (.slice zp3 zl4 zl5), (.tuple #[])] (nx0 [(.bool b7), (.int .i64 (IntKind.wrap .i64 (n8 + 1)))])))
    (R (.returned (.bool true)))
theorem B_ref13_Ints_0_eq (W : World) (R : Ending → Hp → Prop) (zp0 : Option Addr) (zl1 : Nat) (zl2 : Nat) (zp3 : Option Addr) (zl4 : Nat) (zl5 : Nat) (b7 : Bool) (n8 : Int) (nx0 : List Value → Hp → Prop) (j : Tm) : vc Pg W 26 rs_25 an_25 false (sub (bodyOf Try.f25) [1, 1, 0, 1, 0, 0]) 0 (KLoop [4, 5] [0, 1, 26] [(.slice zp0 zl1 zl2), (.slice zp3 zl4 zl5), (.tuple #[])] nx0 (KBlk 0 (KS Pg W 26 rs_25 an_25 false (sub (bodyOf Try.f25) [1, 1, 1]) 0 (fin Pg W 26 rv_25 R)))) (known [4, 5] [(.bool b7), (.int .i64 n8)] (known [0, 1, 26] [(.slice zp0 zl1 zl2), (.slice zp3 zl4 zl5), (.tuple #[])] j)) = B_ref13_Ints_0 W R zp0 zl1 zl2 zp3 zl4 zl5 b7 n8 nx0 := by kernel_rfl
def N_ref13_Ints_0 (I : Bool → Int → Hp → Prop) (μ : Bool → Int → Hp → Nat) (b70 : Bool) (n80 : Int) (s : Hp) (vs : List Value) : Hp → Prop := fun s' => ∃ b7 n8, vs = [(.bool b7), (.int .i64 n8)] ∧ I b7 n8 s' ∧ μ b7 n8 s' < μ b70 n80 s
theorem L_ref13_Ints_0_rule (W : World) (R : Ending → Hp → Prop) (zp0 : Option Addr) (zl1 : Nat) (zl2 : Nat) (zp3 : Option Addr) (zl4 : Nat) (zl5 : Nat) (I : Bool → Int → Hp → Prop) (μ : Bool → Int → Hp → Nat) (b70 : Bool) (n80 : Int) (s : Hp) (h0 : I b70 n80 s)
    (hr : ∀ (b7 : Bool) (n8 : Int) (s : Hp), I b7 n8 s → B_ref13_Ints_0 W R zp0 zl1 zl2 zp3 zl4 zl5 b7 n8 (fun vs => N_ref13_Ints_0 I μ b7 n8 s vs) s) : L_ref13_Ints_0 W R zp0 zl1 zl2 zp3 zl4 zl5 b70 n80 s := by
  refine ⟨fun vs s => ∃ b7 n8, vs = [(.bool b7), (.int .i64 n8)] ∧ I b7 n8 s, fun vs s => (match vs with | [.bool b7, .int _ n8] => μ b7 n8 s | _ => 0), ⟨⟨⟨_, rfl⟩, ⟨⟨_, rfl⟩, trivial⟩⟩, ⟨_, _, rfl, h0⟩⟩, ?_⟩
  intro b7 n8 s hI j
  obtain ⟨b7', n8', hy, hI⟩ := hI
  have hI' : I b7 n8 s := by cases hy; exact hI
  have hh := hr b7 n8 s hI'
  rw [← B_ref13_Ints_0_eq W R zp0 zl1 zl2 zp3 zl4 zl5 b7 n8 _ j] at hh
  refine vc_mono ?_ _ _ hh
  exact KLoop_mono (fun vs s' h => by obtain ⟨b71, n81, rfl, h1, h2⟩ := h; exact ⟨⟨⟨_, rfl⟩, ⟨⟨_, rfl⟩, trivial⟩⟩, ⟨_, _, rfl, h1⟩, h2⟩)
def T_ref13_Ints (W : World) (x1 : Option Addr) (l2 : Nat) (c3 : Nat) (x4 : Option Addr) (l5 : Nat) (c6 : Nat) (R : Ending → Hp → Prop) : Hp → Prop :=
  BR ((↑l2 : Int) != (↑l5 : Int))
    (R (.returned (.bool false)))
    (L_ref13_Ints_0 W R x1 l2 c3 x4 l5 c6 false 0)
theorem T_ref13_Ints_eq (W : World) (x1 : Option Addr) (l2 : Nat) (c3 : Nat) (x4 : Option Addr) (l5 : Nat) (c6 : Nat) (R : Ending → Hp → Prop) : vfun Pg W an_25 Try.f25 [(.slice x1 l2 c3), (.slice x4 l5 c6)] R = T_ref13_Ints W x1 l2 c3 x4 l5 c6 R := by kernel_rfl
theorem does_ref13_Ints (W : World) (x1 : Option Addr) (l2 : Nat) (c3 : Nat) (x4 : Option Addr) (l5 : Nat) (c6 : Nat) (R : Ending → Hp → Prop) (s : Hp) (h : T_ref13_Ints W x1 l2 c3 x4 l5 c6 R s) : Does Pg W F_ref13_Ints #[(.slice x1 l2 c3), (.slice x4 l5 c6)] s R :=
  does_of_vfun Pg W an_25 Try.func25 rfl (by kernel_rfl) (by rw [T_ref13_Ints_eq]; exact h)
def an_26 : Nat → Ann := fun b => match b with
  | 0 => { ms := [2, 3], ks := [.b, .i .i64], us := [1, 82], rt := false, ex := [] }
  | 2 => { ms := [2, 5], ks := [.b, .i .i64], us := [1, 3, 4, 82], rt := false, ex := [] }
  | 4 => { ms := [2, 6], ks := [.b, .i .i64], us := [1, 82], rt := false, ex := [] }
  | _ => {}
abbrev rv_26 : List ResultVar := [.tmp 2]
abbrev rs_26 : List Nat := [82, 2]
def L_ref13_Prizes_0 (W : World) (R : Ending → Hp → Prop) (za0 : Addr) (b18 : Bool) (n19 : Int) : Hp → Prop :=
  LOOPN [.b, .i .i64] (fun ys next s => ∀ j : Tm, vc Pg W 82 rs_26 an_26 false (sub (bodyOf Try.f26) [1, 1, 0, 1, 0, 0]) 0 (KLoop [2, 3] [1, 82] [(.pointer (some za0)), (.tuple #[])] next (KBlk 0 (KS Pg W 82 rs_26 an_26 false (sub (bodyOf Try.f26) [1, 1, 1]) 0 (fin Pg W 82 rv_26 R)))) (known [2, 3] ys (known [1, 82] [(.pointer (some za0)), (.tuple #[])] j)) s) [(.bool b18), (.int .i64 n19)]
def L_ref13_Prizes_1 (W : World) (R : Ending → Hp → Prop) (nx0 : List Value → Hp → Prop) (za0 : Addr) (zn1 : Int) (za2 : Addr) (b44 : Bool) (n45 : Int) : Hp → Prop :=
  LOOPN [.b, .i .i64] (fun ys next s => ∀ j : Tm, vc Pg W 82 rs_26 an_26 false (sub (bodyOf Try.f26) [1, 1, 0, 1, 0, 0, 1, 0, 0, 1, 1, 1, 0, 0]) 2 (KLoop [2, 5] [1, 3, 4, 82] [(.pointer (some za0)), (.int .i64 zn1), (.pointer (some za2)), (.tuple #[])] next (KBlk 2 (KBlk 1 (KS Pg W 82 rs_26 an_26 false (sub (bodyOf Try.f26) [1, 1, 0, 1, 0, 0, 1, 1]) 0 (KLoop [2, 3] [1, 82] [(.pointer (some za0)), (.tuple #[])] nx0 (KBlk 0 (KS Pg W 82 rs_26 an_26 false (sub (bodyOf Try.f26) [1, 1, 1]) 0 (fin Pg W 82 rv_26 R)))))))) (known [2, 5] ys (known [1, 3, 4, 82] [(.pointer (some za0)), (.int .i64 zn1), (.pointer (some za2)), (.tuple #[])] j)) s) [(.bool b44), (.int .i64 n45)]
def L_ref13_Prizes_2 (W : World) (R : Ending → Hp → Prop) (za0 : Addr) (b52 : Bool) (n53 : Int) : Hp → Prop :=
  LOOPN [.b, .i .i64] (fun ys next s => ∀ j : Tm, vc Pg W 82 rs_26 an_26 false (sub (bodyOf Try.f26) [1, 1, 1, 0, 1, 0, 0]) 4 (KLoop [2, 6] [1, 82] [(.pointer (some za0)), (.tuple #[])] next (KBlk 4 (KS Pg W 82 rs_26 an_26 false (sub (bodyOf Try.f26) [1, 1, 1, 1]) 0 (fin Pg W 82 rv_26 R)))) (known [2, 6] ys (known [1, 82] [(.pointer (some za0)), (.tuple #[])] j)) s) [(.bool b52), (.int .i64 n53)]
def J_ref13_Prizes_0 (W : World) (R : Ending → Hp → Prop) (b14 : Bool) (B7 : Nat) : Hp → Prop :=
  BR b14
    (R (.returned (.bool false)))
    (L_ref13_Prizes_0 W R ⟨B7, 0, none⟩ false 0)
def J_ref13_Prizes_1 (W : World) (R : Ending → Hp → Prop) (b39 : Bool) (nx0 : List Value → Hp → Prop) (za0 : Addr) (n19 : Int) (B31 : Nat) (b18 : Bool) : Hp → Prop :=
  BR b39
    (R (.returned (.bool false)))
    (L_ref13_Prizes_1 W R nx0 za0 n19 ⟨B31, 0, none⟩ b18 0)
def B_ref13_Prizes_0 (W : World) (R : Ending → Hp → Prop) (za0 : Addr) (b18 : Bool) (n19 : Int) (nx0 : List Value → Hp → Prop) : Hp → Prop :=
  RDL (Addr.add za0 0) fun x20 l21 c22 =>
    BR (decide (n19 < (↑l21 : Int)))
      (RDL (Addr.add za0 0) fun x23 l24 c25 =>
        IXS x23 l24 n19 4 fun a26 =>
          RDI .i64 (Addr.add a26 0) fun n27 =>
            RDI .i64 (Addr.add a26 1) fun n28 =>
              RDB (Addr.add a26 2) fun b29 =>
                RDB (Addr.add a26 3) fun b30 =>
                  NEWZ Pg 48 fun B31 =>
                    WR (Addr.add ⟨B31, 0, none⟩ 0) (.int .i64 n27) <|
                      WR (Addr.add ⟨B31, 0, none⟩ 1) (.int .i64 n28) <|
                        WR (Addr.add ⟨B31, 0, none⟩ 2) (.bool b29) <|
                          WR (Addr.add ⟨B31, 0, none⟩ 3) (.bool b30) <|
                            RDI .i64 (Addr.add ⟨B31, 0, none⟩ 0) fun n32 =>
                              RDL (Addr.add za0 0) fun x33 l34 c35 =>
                                CALL Pg W F_ref13_in [(.int .i64 n32), (.int .i64 1), (.int .i64 (↑l34 : Int))]
                                  (fun v36 => TYB v36 fun b38 =>
                                    BR (!b38)
                                      (J_ref13_Prizes_1 W R true nx0 za0 n19 B31 b18)
                                      (RDI .i64 (Addr.add ⟨B31, 0, none⟩ 1) fun n40 =>
                                        CALL Pg W F_ref13_in [(.int .i64 n40), (.int .i64 0), (.int .i64 5)]
                                          (fun v41 => TYB v41 fun b43 =>
                                            J_ref13_Prizes_1 W R (!b43) nx0 za0 n19 B31 b18)
                                            (fun e42 => R (.panicked e42))))
                                    (fun e37 => R (.panicked e37)))
      (L_ref13_Prizes_2 W R za0 b18 0)
theorem B_ref13_Prizes_0_eq (W : World) (R : Ending → Hp → Prop) (za0 : Addr) (b18 : Bool) (n19 : Int) (nx0 : List Value → Hp → Prop) (j : Tm) : vc Pg W 82 rs_26 an_26 false (sub (bodyOf Try.f26) [1, 1, 0, 1, 0, 0]) 0 (KLoop [2, 3] [1, 82] [(.pointer (some za0)), (.tuple #[])] nx0 (KBlk 0 (KS Pg W 82 rs_26 an_26 false (sub (bodyOf Try.f26) [1, 1, 1]) 0 (fin Pg W 82 rv_26 R)))) (known [2, 3] [(.bool b18), (.int .i64 n19)] (known [1, 82] [(.pointer (some za0)), (.tuple #[])] j)) = B_ref13_Prizes_0 W R za0 b18 n19 nx0 := by kernel_rfl
def N_ref13_Prizes_0 (I : Bool → Int → Hp → Prop) (μ : Bool → Int → Hp → Nat) (b180 : Bool) (n190 : Int) (s : Hp) (vs : List Value) : Hp → Prop := fun s' => ∃ b18 n19, vs = [(.bool b18), (.int .i64 n19)] ∧ I b18 n19 s' ∧ μ b18 n19 s' < μ b180 n190 s
theorem L_ref13_Prizes_0_rule (W : World) (R : Ending → Hp → Prop) (za0 : Addr) (I : Bool → Int → Hp → Prop) (μ : Bool → Int → Hp → Nat) (b180 : Bool) (n190 : Int) (s : Hp) (h0 : I b180 n190 s)
    (hr : ∀ (b18 : Bool) (n19 : Int) (s : Hp), I b18 n19 s → B_ref13_Prizes_0 W R za0 b18 n19 (fun vs => N_ref13_Prizes_0 I μ b18 n19 s vs) s) : L_ref13_Prizes_0 W R za0 b180 n190 s := by
  refine ⟨fun vs s => ∃ b18 n19, vs = [(.bool b18), (.int .i64 n19)] ∧ I b18 n19 s, fun vs s => (match vs with | [.bool b18, .int _ n19] => μ b18 n19 s | _ => 0), ⟨⟨⟨_, rfl⟩, ⟨⟨_, rfl⟩, trivial⟩⟩, ⟨_, _, rfl, h0⟩⟩, ?_⟩
  intro b18 n19 s hI j
  obtain ⟨b18', n19', hy, hI⟩ := hI
  have hI' : I b18 n19 s := by cases hy; exact hI
  have hh := hr b18 n19 s hI'
  rw [← B_ref13_Prizes_0_eq W R za0 b18 n19 _ j] at hh
  refine vc_mono ?_ _ _ hh
  exact KLoop_mono (fun vs s' h => by obtain ⟨b181, n191, rfl, h1, h2⟩ := h; exact ⟨⟨⟨_, rfl⟩, ⟨⟨_, rfl⟩, trivial⟩⟩, ⟨_, _, rfl, h1⟩, h2⟩)
def B_ref13_Prizes_1 (W : World) (R : Ending → Hp → Prop) (nx0 : List Value → Hp → Prop) (za0 : Addr) (zn1 : Int) (za2 : Addr) (b44 : Bool) (n45 : Int) (nx1 : List Value → Hp → Prop) : Hp → Prop :=
  BR (decide (n45 < zn1))
    (RDL (Addr.add za0 0) fun x46 l47 c48 =>
      IXS x46 l47 n45 4 fun a49 =>
        RDI .i64 (Addr.add a49 0) fun n50 =>
          RDI .i64 (Addr.add za2 0) fun n51 =>
            BR (n50 == n51)
              (R (.returned (.bool false)))
              (NX [(.pointer (some za0)), (.int .i64 zn1), (.pointer (some za2)), (.tuple #[])] [(.pointer (some za0)), (.int .i64 zn1), (.pointer (some za2)), (.tuple #[])] (nx1 [(.bool b44), (.int .i64 (IntKind.wrap .i64 (n45 + 1)))])))
    (NX [(.pointer (some za0)), (.tuple #[])] [(.pointer (some za0)), (.tuple #[])] (nx0 [(.bool b44), (.int .i64 (IntKind.wrap .i64 (zn1 + 1)))]))
theorem B_ref13_Prizes_1_eq (W : World) (R : Ending → Hp → Prop) (nx0 : List Value → Hp → Prop) (za0 : Addr) (zn1 : Int) (za2 : Addr) (b44 : Bool) (n45 : Int) (nx1 : List Value → Hp → Prop) (j : Tm) : vc Pg W 82 rs_26 an_26 false (sub (bodyOf Try.f26) [1, 1, 0, 1, 0, 0, 1, 0, 0, 1, 1, 1, 0, 0]) 2 (KLoop [2, 5] [1, 3, 4, 82] [(.pointer (some za0)), (.int .i64 zn1), (.pointer (some za2)), (.tuple #[])] nx1 (KBlk 2 (KBlk 1 (KS Pg W 82 rs_26 an_26 false (sub (bodyOf Try.f26) [1, 1, 0, 1, 0, 0, 1, 1]) 0 (KLoop [2, 3] [1, 82] [(.pointer (some za0)), (.tuple #[])] nx0 (KBlk 0 (KS Pg W 82 rs_26 an_26 false (sub (bodyOf Try.f26) [1, 1, 1]) 0 (fin Pg W 82 rv_26 R)))))))) (known [2, 5] [(.bool b44), (.int .i64 n45)] (known [1, 3, 4, 82] [(.pointer (some za0)), (.int .i64 zn1), (.pointer (some za2)), (.tuple #[])] j)) = B_ref13_Prizes_1 W R nx0 za0 zn1 za2 b44 n45 nx1 := by kernel_rfl
def N_ref13_Prizes_1 (I : Bool → Int → Hp → Prop) (μ : Bool → Int → Hp → Nat) (b440 : Bool) (n450 : Int) (s : Hp) (vs : List Value) : Hp → Prop := fun s' => ∃ b44 n45, vs = [(.bool b44), (.int .i64 n45)] ∧ I b44 n45 s' ∧ μ b44 n45 s' < μ b440 n450 s
theorem L_ref13_Prizes_1_rule (W : World) (R : Ending → Hp → Prop) (nx0 : List Value → Hp → Prop) (za0 : Addr) (zn1 : Int) (za2 : Addr) (I : Bool → Int → Hp → Prop) (μ : Bool → Int → Hp → Nat) (b440 : Bool) (n450 : Int) (s : Hp) (h0 : I b440 n450 s)
    (hr : ∀ (b44 : Bool) (n45 : Int) (s : Hp), I b44 n45 s → B_ref13_Prizes_1 W R nx0 za0 zn1 za2 b44 n45 (fun vs => N_ref13_Prizes_1 I μ b44 n45 s vs) s) : L_ref13_Prizes_1 W R nx0 za0 zn1 za2 b440 n450 s := by
  refine ⟨fun vs s => ∃ b44 n45, vs = [(.bool b44), (.int .i64 n45)] ∧ I b44 n45 s, fun vs s => (match vs with | [.bool b44, .int _ n45] => μ b44 n45 s | _ => 0), ⟨⟨⟨_, rfl⟩, ⟨⟨_, rfl⟩, trivial⟩⟩, ⟨_, _, rfl, h0⟩⟩, ?_⟩
  intro b44 n45 s hI j
  obtain ⟨b44', n45', hy, hI⟩ := hI
  have hI' : I b44 n45 s := by cases hy; exact hI
  have hh := hr b44 n45 s hI'
  rw [← B_ref13_Prizes_1_eq W R nx0 za0 zn1 za2 b44 n45 _ j] at hh
  refine vc_mono ?_ _ _ hh
  exact KLoop_mono (fun vs s' h => by obtain ⟨b441, n451, rfl, h1, h2⟩ := h; exact ⟨⟨⟨_, rfl⟩, ⟨⟨_, rfl⟩, trivial⟩⟩, ⟨_, _, rfl, h1⟩, h2⟩)
def B_ref13_Prizes_2 (W : World) (R : Ending → Hp → Prop) (za0 : Addr) (b52 : Bool) (n53 : Int) (nx2 : List Value → Hp → Prop) : Hp → Prop :=
  RDL (Addr.add za0 1) fun x54 l55 c56 =>
    BR (decide (n53 < (↑l55 : Int)))
      (RDL (Addr.add za0 1) fun x57 l58 c59 =>
        IXS x57 l58 n53 2 fun a60 =>
          RDI .i64 (Addr.add a60 0) fun n61 =>
            CALL Pg W F_ref13_in [(.int .i64 n61), (.int .i64 0), (.int .i64 4)]
              (fun v62 => TYB v62 fun b64 =>
                BR (!b64)
                  (R (.returned (.bool false)))
                  (RDL (Addr.add za0 1) fun x65 l66 c67 =>
                    IXS x65 l66 n53 2 fun a68 =>
                      RDI .i64 (Addr.add a68 1) fun n69 =>
                        CALL Pg W F_ref13_in [(.int .i64 n69), (.int .i64 0), (.int .i64 1000)]
                          (fun v70 => TYB v70 fun b72 =>
                            BR (!b72)
                              (R (.returned (.bool false)))
                              (NX [(.pointer (some za0)), (.tuple #[])] [(.pointer (some za0)), (.tuple #[])] (nx2 [(.bool b52), (.int .i64 (IntKind.wrap .i64 (n53 + 1)))])))
                            (fun e71 => R (.panicked e71))))
                (fun e63 => R (.panicked e63)))
      (R (.returned (.bool true)))
theorem B_ref13_Prizes_2_eq (W : World) (R : Ending → Hp → Prop) (za0 : Addr) (b52 : Bool) (n53 : Int) (nx2 : List Value → Hp → Prop) (j : Tm) : vc Pg W 82 rs_26 an_26 false (sub (bodyOf Try.f26) [1, 1, 1, 0, 1, 0, 0]) 4 (KLoop [2, 6] [1, 82] [(.pointer (some za0)), (.tuple #[])] nx2 (KBlk 4 (KS Pg W 82 rs_26 an_26 false (sub (bodyOf Try.f26) [1, 1, 1, 1]) 0 (fin Pg W 82 rv_26 R)))) (known [2, 6] [(.bool b52), (.int .i64 n53)] (known [1, 82] [(.pointer (some za0)), (.tuple #[])] j)) = B_ref13_Prizes_2 W R za0 b52 n53 nx2 := by kernel_rfl
def N_ref13_Prizes_2 (I : Bool → Int → Hp → Prop) (μ : Bool → Int → Hp → Nat) (b520 : Bool) (n530 : Int) (s : Hp) (vs : List Value) : Hp → Prop := fun s' => ∃ b52 n53, vs = [(.bool b52), (.int .i64 n53)] ∧ I b52 n53 s' ∧ μ b52 n53 s' < μ b520 n530 s
theorem L_ref13_Prizes_2_rule (W : World) (R : Ending → Hp → Prop) (za0 : Addr) (I : Bool → Int → Hp → Prop) (μ : Bool → Int → Hp → Nat) (b520 : Bool) (n530 : Int) (s : Hp) (h0 : I b520 n530 s)
    (hr : ∀ (b52 : Bool) (n53 : Int) (s : Hp), I b52 n53 s → B_ref13_Prizes_2 W R za0 b52 n53 (fun vs => N_ref13_Prizes_2 I μ b52 n53 s vs) s) : L_ref13_Prizes_2 W R za0 b520 n530 s := by
  refine ⟨fun vs s => ∃ b52 n53, vs = [(.bool b52), (.int .i64 n53)] ∧ I b52 n53 s, fun vs s => (match vs with | [.bool b52, .int _ n53] => μ b52 n53 s | _ => 0), ⟨⟨⟨_, rfl⟩, ⟨⟨_, rfl⟩, trivial⟩⟩, ⟨_, _, rfl, h0⟩⟩, ?_⟩
  intro b52 n53 s hI j
  obtain ⟨b52', n53', hy, hI⟩ := hI
  have hI' : I b52 n53 s := by cases hy; exact hI
  have hh := hr b52 n53 s hI'
  rw [← B_ref13_Prizes_2_eq W R za0 b52 n53 _ j] at hh
  refine vc_mono ?_ _ _ hh
  exact KLoop_mono (fun vs s' h => by obtain ⟨b521, n531, rfl, h1, h2⟩ := h; exact ⟨⟨⟨_, rfl⟩, ⟨⟨_, rfl⟩, trivial⟩⟩, ⟨_, _, rfl, h1⟩, h2⟩)
def T_ref13_Prizes (W : World) (x1 : Option Addr) (l2 : Nat) (c3 : Nat) (x4 : Option Addr) (l5 : Nat) (c6 : Nat) (R : Ending → Hp → Prop) : Hp → Prop :=
  NEW 25 [(.slice x1 l2 c3), (.slice x4 l5 c6)] fun B7 =>
    RDL (Addr.add ⟨B7, 0, none⟩ 0) fun x8 l9 c10 =>
      CALL Pg W F_ref13_in [(.int .i64 (↑l9 : Int)), (.int .i64 1), (.int .i64 8)]
        (fun v11 => TYB v11 fun b13 =>
          BR (!b13)
            (J_ref13_Prizes_0 W R true B7)
            (RDL (Addr.add ⟨B7, 0, none⟩ 1) fun x15 l16 c17 =>
              J_ref13_Prizes_0 W R (decide ((↑l16 : Int) > 6)) B7))
          (fun e12 => R (.panicked e12))
theorem T_ref13_Prizes_eq (W : World) (x1 : Option Addr) (l2 : Nat) (c3 : Nat) (x4 : Option Addr) (l5 : Nat) (c6 : Nat) (R : Ending → Hp → Prop) : vfun Pg W an_26 Try.f26 [(.agg #[(.slice x1 l2 c3), (.slice x4 l5 c6)])] R = T_ref13_Prizes W x1 l2 c3 x4 l5 c6 R := by kernel_rfl
theorem does_ref13_Prizes (W : World) (x1 : Option Addr) (l2 : Nat) (c3 : Nat) (x4 : Option Addr) (l5 : Nat) (c6 : Nat) (R : Ending → Hp → Prop) (s : Hp) (h : T_ref13_Prizes W x1 l2 c3 x4 l5 c6 R s) : Does Pg W F_ref13_Prizes #[(.agg #[(.slice x1 l2 c3), (.slice x4 l5 c6)])] s R :=
  does_of_vfun Pg W an_26 Try.func26 rfl (by kernel_rfl) (by rw [T_ref13_Prizes_eq]; exact h)
def an_48 : Nat → Ann := fun b => match b with
  | _ => {}
abbrev rv_48 : List ResultVar := [.tmp 4]
abbrev rs_48 : List Nat := [10, 4]
def T_ref13_check (W : World) (x1 : Option Addr) (l2 : Nat) (c3 : Nat) (x4 : Option Addr) (l5 : Nat) (c6 : Nat) (b7 : Bool) (R : Ending → Hp → Prop) : Hp → Prop :=
  NEW 25 [(.slice x1 l2 c3), (.slice x4 l5 c6)] fun B8 =>
    RDL (Addr.add ⟨B8, 0, none⟩ 0) fun x9 l10 c11 =>
      RDL (Addr.add ⟨B8, 0, none⟩ 1) fun x12 l13 c14 =>
        CALL Pg W F_ref13_Prizes [(.agg #[(.slice x9 l10 c11), (.slice x12 l13 c14)])]
          (fun v15 => TYB v15 fun b17 =>
            BR (!b17)
              (R (.returned (.int .i64 1)))
              (BR (!b7)
                (R (.returned (.int .i64 2)))
                (R (.returned (.int .i64 0)))))
            (fun e16 => R (.panicked e16))
theorem T_ref13_check_eq (W : World) (x1 : Option Addr) (l2 : Nat) (c3 : Nat) (x4 : Option Addr) (l5 : Nat) (c6 : Nat) (b7 : Bool) (R : Ending → Hp → Prop) : vfun Pg W an_48 Try.f48 [(.agg #[(.slice x1 l2 c3), (.slice x4 l5 c6)]), (.bool b7)] R = T_ref13_check W x1 l2 c3 x4 l5 c6 b7 R := by kernel_rfl
theorem does_ref13_check (W : World) (x1 : Option Addr) (l2 : Nat) (c3 : Nat) (x4 : Option Addr) (l5 : Nat) (c6 : Nat) (b7 : Bool) (R : Ending → Hp → Prop) (s : Hp) (h : T_ref13_check W x1 l2 c3 x4 l5 c6 b7 R s) : Does Pg W F_ref13_check #[(.agg #[(.slice x1 l2 c3), (.slice x4 l5 c6)]), (.bool b7)] s R :=
  does_of_vfun Pg W an_48 Try.func48 rfl (by kernel_rfl) (by rw [T_ref13_check_eq]; exact h)
def an_49 : Nat → Ann := fun b => match b with
  | _ => {}
abbrev rv_49 : List ResultVar := [.tmp 4]
abbrev rs_49 : List Nat := [11, 4]
def T_ref13_Man (W : World) (x1 : Option Addr) (l2 : Nat) (c3 : Nat) (x4 : Option Addr) (l5 : Nat) (c6 : Nat) (n7 : Int) (R : Ending → Hp → Prop) : Hp → Prop :=
  NEW 25 [(.slice x1 l2 c3), (.slice x4 l5 c6)] fun B8 =>
    RDL (Addr.add ⟨B8, 0, none⟩ 0) fun x9 l10 c11 =>
      CALL Pg W F_ref13_in [(.int .i64 n7), (.int .i64 0), (.int .i64 (IntKind.wrap .i64 ((↑l10 : Int) - 1)))]
        (fun v12 => TYB v12 fun b14 =>
          R (.returned (.bool b14)))
          (fun e13 => R (.panicked e13))
theorem T_ref13_Man_eq (W : World) (x1 : Option Addr) (l2 : Nat) (c3 : Nat) (x4 : Option Addr) (l5 : Nat) (c6 : Nat) (n7 : Int) (R : Ending → Hp → Prop) : vfun Pg W an_49 Try.f49 [(.agg #[(.slice x1 l2 c3), (.slice x4 l5 c6)]), (.int .i64 n7)] R = T_ref13_Man W x1 l2 c3 x4 l5 c6 n7 R := by kernel_rfl
theorem does_ref13_Man (W : World) (x1 : Option Addr) (l2 : Nat) (c3 : Nat) (x4 : Option Addr) (l5 : Nat) (c6 : Nat) (n7 : Int) (R : Ending → Hp → Prop) (s : Hp) (h : T_ref13_Man W x1 l2 c3 x4 l5 c6 n7 R s) : Does Pg W F_ref13_Man #[(.agg #[(.slice x1 l2 c3), (.slice x4 l5 c6)]), (.int .i64 n7)] s R :=
  does_of_vfun Pg W an_49 Try.func49 rfl (by kernel_rfl) (by rw [T_ref13_Man_eq]; exact h)
def an_50 : Nat → Ann := fun b => match b with
  | _ => {}
abbrev rv_50 : List ResultVar := [.tmp 4]
abbrev rs_50 : List Nat := [11, 4]
def T_ref13_Prize (W : World) (x1 : Option Addr) (l2 : Nat) (c3 : Nat) (x4 : Option Addr) (l5 : Nat) (c6 : Nat) (n7 : Int) (R : Ending → Hp → Prop) : Hp → Prop :=
  NEW 25 [(.slice x1 l2 c3), (.slice x4 l5 c6)] fun B8 =>
    RDL (Addr.add ⟨B8, 0, none⟩ 1) fun x9 l10 c11 =>
      CALL Pg W F_ref13_in [(.int .i64 n7), (.int .i64 0), (.int .i64 (IntKind.wrap .i64 ((↑l10 : Int) - 1)))]
        (fun v12 => TYB v12 fun b14 =>
          R (.returned (.bool b14)))
          (fun e13 => R (.panicked e13))
theorem T_ref13_Prize_eq (W : World) (x1 : Option Addr) (l2 : Nat) (c3 : Nat) (x4 : Option Addr) (l5 : Nat) (c6 : Nat) (n7 : Int) (R : Ending → Hp → Prop) : vfun Pg W an_50 Try.f50 [(.agg #[(.slice x1 l2 c3), (.slice x4 l5 c6)]), (.int .i64 n7)] R = T_ref13_Prize W x1 l2 c3 x4 l5 c6 n7 R := by kernel_rfl
theorem does_ref13_Prize (W : World) (x1 : Option Addr) (l2 : Nat) (c3 : Nat) (x4 : Option Addr) (l5 : Nat) (c6 : Nat) (n7 : Int) (R : Ending → Hp → Prop) (s : Hp) (h : T_ref13_Prize W x1 l2 c3 x4 l5 c6 n7 R s) : Does Pg W F_ref13_Prize #[(.agg #[(.slice x1 l2 c3), (.slice x4 l5 c6)]), (.int .i64 n7)] s R :=
  does_of_vfun Pg W an_50 Try.func50 rfl (by kernel_rfl) (by rw [T_ref13_Prize_eq]; exact h)
def an_51 : Nat → Ann := fun b => match b with
  | _ => {}
abbrev rv_51 : List ResultVar := [.tmp 6]
abbrev rs_51 : List Nat := [40, 6]
def T_ref13_can (W : World) (x1 : Option Addr) (l2 : Nat) (c3 : Nat) (x4 : Option Addr) (l5 : Nat) (c6 : Nat) (n7 : Int) (n8 : Int) (R : Ending → Hp → Prop) : Hp → Prop :=
  NEW 25 [(.slice x1 l2 c3), (.slice x4 l5 c6)] fun B9 =>
    RDL (Addr.add ⟨B9, 0, none⟩ 0) fun x10 l11 c12 =>
      IXS x10 l11 n7 4 fun a13 =>
        RDI .i64 (Addr.add a13 0) fun n14 =>
          RDI .i64 (Addr.add a13 1) fun n15 =>
            RDB (Addr.add a13 2) fun b16 =>
              RDB (Addr.add a13 3) fun b17 =>
                NEWZ Pg 48 fun B18 =>
                  WR (Addr.add ⟨B18, 0, none⟩ 0) (.int .i64 n14) <|
                    WR (Addr.add ⟨B18, 0, none⟩ 1) (.int .i64 n15) <|
                      WR (Addr.add ⟨B18, 0, none⟩ 2) (.bool b16) <|
                        WR (Addr.add ⟨B18, 0, none⟩ 3) (.bool b17) <|
                          RDL (Addr.add ⟨B9, 0, none⟩ 1) fun x19 l20 c21 =>
                            IXS x19 l20 n8 2 fun a22 =>
                              RDI .i64 (Addr.add a22 0) fun n23 =>
                                BR (n23 == 1)
                                  (RDB (Addr.add ⟨B18, 0, none⟩ 2) fun b24 =>
                                    R (.returned (.bool b24)))
                                  (BR (n23 == 2)
                                    (RDB (Addr.add ⟨B18, 0, none⟩ 3) fun b25 =>
                                      R (.returned (.bool b25)))
                                    (BR (n23 == 3)
                                      (RDB (Addr.add ⟨B18, 0, none⟩ 2) fun b26 =>
                                        BR b26
                                          (RDB (Addr.add ⟨B18, 0, none⟩ 3) fun b27 =>
                                            R (.returned (.bool b27)))
                                          (R (.returned (.bool false))))
                                      (BR (n23 == 4)
                                        (RDI .i64 (Addr.add ⟨B18, 0, none⟩ 1) fun n28 =>
                                          R (.returned (.bool (n28 != 0))))
                                        (R (.returned (.bool true))))))
theorem T_ref13_can_eq (W : World) (x1 : Option Addr) (l2 : Nat) (c3 : Nat) (x4 : Option Addr) (l5 : Nat) (c6 : Nat) (n7 : Int) (n8 : Int) (R : Ending → Hp → Prop) : vfun Pg W an_51 Try.f51 [(.agg #[(.slice x1 l2 c3), (.slice x4 l5 c6)]), (.int .i64 n7), (.int .i64 n8)] R = T_ref13_can W x1 l2 c3 x4 l5 c6 n7 n8 R := by kernel_rfl
theorem does_ref13_can (W : World) (x1 : Option Addr) (l2 : Nat) (c3 : Nat) (x4 : Option Addr) (l5 : Nat) (c6 : Nat) (n7 : Int) (n8 : Int) (R : Ending → Hp → Prop) (s : Hp) (h : T_ref13_can W x1 l2 c3 x4 l5 c6 n7 n8 R s) : Does Pg W F_ref13_can #[(.agg #[(.slice x1 l2 c3), (.slice x4 l5 c6)]), (.int .i64 n7), (.int .i64 n8)] s R :=
  does_of_vfun Pg W an_51 Try.func51 rfl (by kernel_rfl) (by rw [T_ref13_can_eq]; exact h)
def an_53 : Nat → Ann := fun b => match b with
  | 0 => { ms := [3, 4], ks := [.l, .i .i64], us := [1, 2, 67], rt := false, ex := [] }
  | 2 => { ms := [5, 6], ks := [.i .i64, .i .i64], us := [1, 2, 3, 4, 67], rt := false, ex := [] }
  | _ => {}
abbrev rv_53 : List ResultVar := [.tmp 2]
abbrev rs_53 : List Nat := [67, 2]
def L_ref13_due_0 (W : World) (R : Ending → Hp → Prop) (za0 : Addr) (x8 : Option Addr) (l9 : Nat) (c10 : Nat) (n11 : Int) : Hp → Prop :=
  LOOPN [.l, .i .i64] (fun ys next s => ∀ j : Tm, vc Pg W 67 rs_53 an_53 false (sub (bodyOf Try.f53) [1, 1, 0, 1, 0, 0]) 0 (KLoop [3, 4] [1, 2, 67] [(.pointer (some za0)), (.slice none 0 0), (.tuple #[])] next (KBlk 0 (KS Pg W 67 rs_53 an_53 false (sub (bodyOf Try.f53) [1, 1, 1]) 0 (fin Pg W 67 rv_53 R)))) (known [3, 4] ys (known [1, 2, 67] [(.pointer (some za0)), (.slice none 0 0), (.tuple #[])] j)) s) [(.slice x8 l9 c10), (.int .i64 n11)]
def L_ref13_due_1 (W : World) (R : Ending → Hp → Prop) (nx0 : List Value → Hp → Prop) (za0 : Addr) (zp1 : Option Addr) (zl2 : Nat) (zl3 : Nat) (zn4 : Int) (n15 : Int) (n16 : Int) : Hp → Prop :=
  LOOPN [.i .i64, .i .i64] (fun ys next s => ∀ j : Tm, vc Pg W 67 rs_53 an_53 false (sub (bodyOf Try.f53) [1, 1, 0, 1, 0, 0, 1, 0, 0, 1, 0, 1, 0, 0]) 2 (KLoop [5, 6] [1, 2, 3, 4, 67] [(.pointer (some za0)), (.slice none 0 0), (.slice zp1 zl2 zl3), (.int .i64 zn4), (.tuple #[])] next (KBlk 2 (KS Pg W 67 rs_53 an_53 false (sub (bodyOf Try.f53) [1, 1, 0, 1, 0, 0, 1, 0, 0, 1, 1]) 1 (KBlk 1 (KS Pg W 67 rs_53 an_53 false (sub (bodyOf Try.f53) [1, 1, 0, 1, 0, 0, 1, 1]) 0 (KLoop [3, 4] [1, 2, 67] [(.pointer (some za0)), (.slice none 0 0), (.tuple #[])] nx0 (KBlk 0 (KS Pg W 67 rs_53 an_53 false (sub (bodyOf Try.f53) [1, 1, 1]) 0 (fin Pg W 67 rv_53 R))))))))) (known [5, 6] ys (known [1, 2, 3, 4, 67] [(.pointer (some za0)), (.slice none 0 0), (.slice zp1 zl2 zl3), (.int .i64 zn4), (.tuple #[])] j)) s) [(.int .i64 n15), (.int .i64 n16)]
def J_ref13_due_0 (W : World) (R : Ending → Hp → Prop) (za0 : Addr) (zp1 : Option Addr) (zl2 : Nat) (zl3 : Nat) (zn4 : Int) (nx1 : List Value → Hp → Prop) (n50 : Int) (n16 : Int) : Hp → Prop :=
  NX [(.pointer (some za0)), (.slice none 0 0), (.slice zp1 zl2 zl3), (.int .i64 zn4), (.tuple #[])] [(.pointer (some za0)), (.slice none 0 0), (.slice zp1 zl2 zl3), (.int .i64 zn4), (.tuple #[])] (nx1 [(.int .i64 n50), (.int .i64 (IntKind.wrap .i64 (n16 + 1)))])
def J_ref13_due_1 (W : World) (R : Ending → Hp → Prop) (b49 : Bool) (za0 : Addr) (zp1 : Option Addr) (zl2 : Nat) (zl3 : Nat) (zn4 : Int) (nx1 : List Value → Hp → Prop) (n29 : Int) (n16 : Int) (n15 : Int) : Hp → Prop :=
  BR b49
    (J_ref13_due_0 W R za0 zp1 zl2 zl3 zn4 nx1 n29 n16)
    (J_ref13_due_0 W R za0 zp1 zl2 zl3 zn4 nx1 n15 n16)
def J_ref13_due_2 (W : World) (R : Ending → Hp → Prop) (b45 : Bool) (zp1 : Option Addr) (zl2 : Nat) (zl3 : Nat) (n29 : Int) (za0 : Addr) (zn4 : Int) (nx1 : List Value → Hp → Prop) (n16 : Int) (n15 : Int) : Hp → Prop :=
  BR b45
    (CALL Pg W F_ref13_has [(.slice zp1 zl2 zl3), (.int .i64 n29)]
      (fun v46 => TYB v46 fun b48 =>
        J_ref13_due_1 W R (!b48) za0 zp1 zl2 zl3 zn4 nx1 n29 n16 n15)
        (fun e47 => R (.panicked e47)))
    (J_ref13_due_1 W R false za0 zp1 zl2 zl3 zn4 nx1 n29 n16 n15)
def J_ref13_due_3 (W : World) (R : Ending → Hp → Prop) (za0 : Addr) (n29 : Int) (zn4 : Int) (b35 : Bool) (zp1 : Option Addr) (zl2 : Nat) (zl3 : Nat) (nx1 : List Value → Hp → Prop) (n16 : Int) (n15 : Int) : Hp → Prop :=
  RDL (Addr.add za0 0) fun x36 l37 c38 =>
    RDL (Addr.add za0 1) fun x39 l40 c41 =>
      CALL Pg W F_ref13_can [(.agg #[(.slice x36 l37 c38), (.slice x39 l40 c41)]), (.int .i64 n29), (.int .i64 zn4)]
        (fun v42 => TYB v42 fun b44 =>
          BR b44
            (J_ref13_due_2 W R b35 zp1 zl2 zl3 n29 za0 zn4 nx1 n16 n15)
            (J_ref13_due_2 W R false zp1 zl2 zl3 n29 za0 zn4 nx1 n16 n15))
          (fun e43 => R (.panicked e43))
def J_ref13_due_4 (W : World) (R : Ending → Hp → Prop) (b20 : Bool) (za0 : Addr) (n16 : Int) (zn4 : Int) (zp1 : Option Addr) (zl2 : Nat) (zl3 : Nat) (nx1 : List Value → Hp → Prop) (n15 : Int) (nx0 : List Value → Hp → Prop) : Hp → Prop :=
  BR b20
    (RDL (Addr.add za0 0) fun x21 l22 c23 =>
      RDL (Addr.add za0 1) fun x24 l25 c26 =>
        CALL Pg W F_ref13_at [(.agg #[(.slice x21 l22 c23), (.slice x24 l25 c26)]), (.int .i64 n16)]
          (fun v27 => TYI .i64 v27 fun n29 =>
            RDL (Addr.add za0 1) fun x30 l31 c32 =>
              IXS x30 l31 zn4 2 fun a33 =>
                RDI .i64 (Addr.add a33 0) fun n34 =>
                  BR (n34 != 4)
                    (J_ref13_due_3 W R za0 n29 zn4 true zp1 zl2 zl3 nx1 n16 n15)
                    (RDL (Addr.add za0 0) fun x51 l52 c53 =>
                      IXS x51 l52 n29 4 fun a54 =>
                        RDI .i64 (Addr.add a54 1) fun n55 =>
                          RDL (Addr.add za0 0) fun x56 l57 c58 =>
                            RDL (Addr.add za0 1) fun x59 l60 c61 =>
                              CALL Pg W F_ref13_best [(.agg #[(.slice x56 l57 c58), (.slice x59 l60 c61)])]
                                (fun v62 => TYI .i64 v62 fun n64 =>
                                  ANDS (RDI .i64 (Addr.add a54 1) fun n66 =>
                                    fun _ => ((.int .i64 n66) : Value) = (.int .i64 n55)) <|
                                    ANDS (RDL (Addr.add za0 0) fun x70 l71 c72 =>
                                      fun _ => ((.slice x70 l71 c72) : Value) = (.slice x51 l52 c53)) <|
                                      J_ref13_due_3 W R za0 n29 zn4 (n55 == n64) zp1 zl2 zl3 nx1 n16 n15)
                                  (fun e63 => R (.panicked e63))))
            (fun e28 => R (.panicked e28)))
    (NEW 3 [(.int .i64 n15)] fun B73 =>
      APP Pg 3 1 zp1 zl2 zl3 (some ⟨B73, 0, none⟩) 1 fun x74 l75 c76 =>
        NX [(.pointer (some za0)), (.slice none 0 0), (.tuple #[])] [(.pointer (some za0)), (.slice none 0 0), (.tuple #[])] (nx0 [(.slice x74 l75 c76), (.int .i64 (IntKind.wrap .i64 (zn4 + 1)))]))
def B_ref13_due_0 (W : World) (R : Ending → Hp → Prop) (za0 : Addr) (x8 : Option Addr) (l9 : Nat) (c10 : Nat) (n11 : Int) (nx0 : List Value → Hp → Prop) : Hp → Prop :=
  RDL (Addr.add za0 1) fun x12 l13 c14 =>
    BR (decide (n11 < (↑l13 : Int)))
      (L_ref13_due_1 W R nx0 za0 x8 l9 c10 n11 (-1) 1)
      (R (.returned (.slice x8 l9 c10)))
theorem B_ref13_due_0_eq (W : World) (R : Ending → Hp → Prop) (za0 : Addr) (x8 : Option Addr) (l9 : Nat) (c10 : Nat) (n11 : Int) (nx0 : List Value → Hp → Prop) (j : Tm) : vc Pg W 67 rs_53 an_53 false (sub (bodyOf Try.f53) [1, 1, 0, 1, 0, 0]) 0 (KLoop [3, 4] [1, 2, 67] [(.pointer (some za0)), (.slice none 0 0), (.tuple #[])] nx0 (KBlk 0 (KS Pg W 67 rs_53 an_53 false (sub (bodyOf Try.f53) [1, 1, 1]) 0 (fin Pg W 67 rv_53 R)))) (known [3, 4] [(.slice x8 l9 c10), (.int .i64 n11)] (known [1, 2, 67] [(.pointer (some za0)), (.slice none 0 0), (.tuple #[])] j)) = B_ref13_due_0 W R za0 x8 l9 c10 n11 nx0 := by kernel_rfl
def N_ref13_due_0 (I : Option Addr → Nat → Nat → Int → Hp → Prop) (μ : Option Addr → Nat → Nat → Int → Hp → Nat) (x80 : Option Addr) (l90 : Nat) (c100 : Nat) (n110 : Int) (s : Hp) (vs : List Value) : Hp → Prop := fun s' => ∃ x8 l9 c10 n11, vs = [(.slice x8 l9 c10), (.int .i64 n11)] ∧ I x8 l9 c10 n11 s' ∧ μ x8 l9 c10 n11 s' < μ x80 l90 c100 n110 s
theorem L_ref13_due_0_rule (W : World) (R : Ending → Hp → Prop) (za0 : Addr) (I : Option Addr → Nat → Nat → Int → Hp → Prop) (μ : Option Addr → Nat → Nat → Int → Hp → Nat) (x80 : Option Addr) (l90 : Nat) (c100 : Nat) (n110 : Int) (s : Hp) (h0 : I x80 l90 c100 n110 s)
    (hr : ∀ (x8 : Option Addr) (l9 : Nat) (c10 : Nat) (n11 : Int) (s : Hp), I x8 l9 c10 n11 s → B_ref13_due_0 W R za0 x8 l9 c10 n11 (fun vs => N_ref13_due_0 I μ x8 l9 c10 n11 s vs) s) : L_ref13_due_0 W R za0 x80 l90 c100 n110 s := by
  refine ⟨fun vs s => ∃ x8 l9 c10 n11, vs = [(.slice x8 l9 c10), (.int .i64 n11)] ∧ I x8 l9 c10 n11 s, fun vs s => (match vs with | [.slice x8 l9 c10, .int _ n11] => μ x8 l9 c10 n11 s | _ => 0), ⟨⟨⟨_, _, _, rfl⟩, ⟨⟨_, rfl⟩, trivial⟩⟩, ⟨_, _, _, _, rfl, h0⟩⟩, ?_⟩
  intro x8 l9 c10 n11 s hI j
  obtain ⟨x8', l9', c10', n11', hy, hI⟩ := hI
  have hI' : I x8 l9 c10 n11 s := by cases hy; exact hI
  have hh := hr x8 l9 c10 n11 s hI'
  rw [← B_ref13_due_0_eq W R za0 x8 l9 c10 n11 _ j] at hh
  refine vc_mono ?_ _ _ hh
  exact KLoop_mono (fun vs s' h => by obtain ⟨x81, l91, c101, n111, rfl, h1, h2⟩ := h; exact ⟨⟨⟨_, _, _, rfl⟩, ⟨⟨_, rfl⟩, trivial⟩⟩, ⟨_, _, _, _, rfl, h1⟩, h2⟩)
def B_ref13_due_1 (W : World) (R : Ending → Hp → Prop) (nx0 : List Value → Hp → Prop) (za0 : Addr) (zp1 : Option Addr) (zl2 : Nat) (zl3 : Nat) (zn4 : Int) (n15 : Int) (n16 : Int) (nx1 : List Value → Hp → Prop) : Hp → Prop :=
  RDL (Addr.add za0 0) fun x17 l18 c19 =>
    BR (decide (n16 ≤ (↑l18 : Int)))
      (J_ref13_due_4 W R (decide (n15 < 0)) za0 n16 zn4 zp1 zl2 zl3 nx1 n15 nx0)
      (J_ref13_due_4 W R false za0 n16 zn4 zp1 zl2 zl3 nx1 n15 nx0)
theorem B_ref13_due_1_eq (W : World) (R : Ending → Hp → Prop) (nx0 : List Value → Hp → Prop) (za0 : Addr) (zp1 : Option Addr) (zl2 : Nat) (zl3 : Nat) (zn4 : Int) (n15 : Int) (n16 : Int) (nx1 : List Value → Hp → Prop) (j : Tm) : vc Pg W 67 rs_53 an_53 false (sub (bodyOf Try.f53) [1, 1, 0, 1, 0, 0, 1, 0, 0, 1, 0, 1, 0, 0]) 2 (KLoop [5, 6] [1, 2, 3, 4, 67] [(.pointer (some za0)), (.slice none 0 0), (.slice zp1 zl2 zl3), (.int .i64 zn4), (.tuple #[])] nx1 (KBlk 2 (KS Pg W 67 rs_53 an_53 false (sub (bodyOf Try.f53) [1, 1, 0, 1, 0, 0, 1, 0, 0, 1, 1]) 1 (KBlk 1 (KS Pg W 67 rs_53 an_53 false (sub (bodyOf Try.f53) [1, 1, 0, 1, 0, 0, 1, 1]) 0 (KLoop [3, 4] [1, 2, 67] [(.pointer (some za0)), (.slice none 0 0), (.tuple #[])] nx0 (KBlk 0 (KS Pg W 67 rs_53 an_53 false (sub (bodyOf Try.f53) [1, 1, 1]) 0 (fin Pg W 67 rv_53 R))))))))) (known [5, 6] [(.int .i64 n15), (.int .i64 n16)] (known [1, 2, 3, 4, 67] [(.pointer (some za0)), (.slice none 0 0), (.slice zp1 zl2 zl3), (.int .i64 zn4), (.tuple #[])] j)) = B_ref13_due_1 W R nx0 za0 zp1 zl2 zl3 zn4 n15 n16 nx1 := by kernel_rfl
def N_ref13_due_1 (I : Int → Int → Hp → Prop) (μ : Int → Int → Hp → Nat) (n150 : Int) (n160 : Int) (s : Hp) (vs : List Value) : Hp → Prop := fun s' => ∃ n15 n16, vs = [(.int .i64 n15), (.int .i64 n16)] ∧ I n15 n16 s' ∧ μ n15 n16 s' < μ n150 n160 s
theorem L_ref13_due_1_rule (W : World) (R : Ending → Hp → Prop) (nx0 : List Value → Hp → Prop) (za0 : Addr) (zp1 : Option Addr) (zl2 : Nat) (zl3 : Nat) (zn4 : Int) (I : Int → Int → Hp → Prop) (μ : Int → Int → Hp → Nat) (n150 : Int) (n160 : Int) (s : Hp) (h0 : I n150 n160 s)
    (hr : ∀ (n15 : Int) (n16 : Int) (s : Hp), I n15 n16 s → B_ref13_due_1 W R nx0 za0 zp1 zl2 zl3 zn4 n15 n16 (fun vs => N_ref13_due_1 I μ n15 n16 s vs) s) : L_ref13_due_1 W R nx0 za0 zp1 zl2 zl3 zn4 n150 n160 s := by
  refine ⟨fun vs s => ∃ n15 n16, vs = [(.int .i64 n15), (.int .i64 n16)] ∧ I n15 n16 s, fun vs s => (match vs with | [.int _ n15, .int _ n16] => μ n15 n16 s | _ => 0), ⟨⟨⟨_, rfl⟩, ⟨⟨_, rfl⟩, trivial⟩⟩, ⟨_, _, rfl, h0⟩⟩, ?_⟩
  intro n15 n16 s hI j
  obtain ⟨n15', n16', hy, hI⟩ := hI
  have hI' : I n15 n16 s := by cases hy; exact hI
  have hh := hr n15 n16 s hI'
  rw [← B_ref13_due_1_eq W R nx0 za0 zp1 zl2 zl3 zn4 n15 n16 _ j] at hh
  refine vc_mono ?_ _ _ hh
  exact KLoop_mono (fun vs s' h => by obtain ⟨n151, n161, rfl, h1, h2⟩ := h; exact ⟨⟨⟨_, rfl⟩, ⟨⟨_, rfl⟩, trivial⟩⟩, ⟨_, _, rfl, h1⟩, h2⟩)
def T_ref13_due (W : World) (x1 : Option Addr) (l2 : Nat) (c3 : Nat) (x4 : Option Addr) (l5 : Nat) (c6 : Nat) (R : Ending → Hp → Prop) : Hp → Prop :=
  NEW 25 [(.slice x1 l2 c3), (.slice x4 l5 c6)] fun B7 =>
    L_ref13_due_0 W R ⟨B7, 0, none⟩ none 0 0 0
theorem T_ref13_due_eq (W : World) (x1 : Option Addr) (l2 : Nat) (c3 : Nat) (x4 : Option Addr) (l5 : Nat) (c6 : Nat) (R : Ending → Hp → Prop) : vfun Pg W an_53 Try.f53 [(.agg #[(.slice x1 l2 c3), (.slice x4 l5 c6)])] R = T_ref13_due W x1 l2 c3 x4 l5 c6 R := by kernel_rfl
theorem does_ref13_due (W : World) (x1 : Option Addr) (l2 : Nat) (c3 : Nat) (x4 : Option Addr) (l5 : Nat) (c6 : Nat) (R : Ending → Hp → Prop) (s : Hp) (h : T_ref13_due W x1 l2 c3 x4 l5 c6 R s) : Does Pg W F_ref13_due #[(.agg #[(.slice x1 l2 c3), (.slice x4 l5 c6)])] s R :=
  does_of_vfun Pg W an_53 Try.func53 rfl (by kernel_rfl) (by rw [T_ref13_due_eq]; exact h)
def an_57 : Nat → Ann := fun b => match b with
  | 0 => { ms := [3, 4], ks := [.i .i64, .i .i64], us := [1, 2, 28], rt := false, ex := [] }
  | _ => {}
abbrev rv_57 : List ResultVar := [.tmp 2]
abbrev rs_57 : List Nat := [28, 2]
def L_ref13_best_0 (W : World) (R : Ending → Hp → Prop) (za0 : Addr) (n8 : Int) (n9 : Int) : Hp → Prop :=
  LOOPN [.i .i64, .i .i64] (fun ys next s => ∀ j : Tm, vc Pg W 28 rs_57 an_57 false (sub (bodyOf Try.f57) [1, 1, 0, 1, 0, 0]) 0 (KLoop [3, 4] [1, 2, 28] [(.pointer (some za0)), (.int .i64 0), (.tuple #[])] next (KBlk 0 (KS Pg W 28 rs_57 an_57 false (sub (bodyOf Try.f57) [1, 1, 1]) 0 (fin Pg W 28 rv_57 R)))) (known [3, 4] ys (known [1, 2, 28] [(.pointer (some za0)), (.int .i64 0), (.tuple #[])] j)) s) [(.int .i64 n8), (.int .i64 n9)]
def J_ref13_best_0 (W : World) (R : Ending → Hp → Prop) (b19 : Bool) (za0 : Addr) (nx0 : List Value → Hp → Prop) (n9 : Int) (n8 : Int) : Hp → Prop :=
  BR b19
    (NX [(.pointer (some za0)), (.int .i64 0), (.tuple #[])] [(.pointer (some za0)), (.int .i64 0), (.tuple #[])] (nx0 [(.int .i64 n9), (.int .i64 (IntKind.wrap .i64 (n9 + 1)))]))
    (NX [(.pointer (some za0)), (.int .i64 0), (.tuple #[])] [(.pointer (some za0)), (.int .i64 0), (.tuple #[])] (nx0 [(.int .i64 n8), (.int .i64 (IntKind.wrap .i64 (n9 + 1)))]))
def B_ref13_best_0 (W : World) (R : Ending → Hp → Prop) (za0 : Addr) (n8 : Int) (n9 : Int) (nx0 : List Value → Hp → Prop) : Hp → Prop :=
  BR (decide (n9 ≤ 5))
    (RDL (Addr.add za0 0) fun x10 l11 c12 =>
      RDL (Addr.add za0 1) fun x13 l14 c15 =>
        CALL Pg W F_ref13_sum [(.agg #[(.slice x10 l11 c12), (.slice x13 l14 c15)]), (.int .i64 n9)]
          (fun v16 => TYI .i64 v16 fun n18 =>
            BR (decide (n18 > 0))
              (BR (n8 == 0)
                (J_ref13_best_0 W R true za0 nx0 n9 n8)
                (RDL (Addr.add za0 0) fun x20 l21 c22 =>
                  RDL (Addr.add za0 1) fun x23 l24 c25 =>
                    RDL (Addr.add za0 0) fun x26 l27 c28 =>
                      RDL (Addr.add za0 1) fun x29 l30 c31 =>
                        CALL Pg W F_ref13_sum [(.agg #[(.slice x20 l21 c22), (.slice x23 l24 c25)]), (.int .i64 n9)]
                          (fun v32 => TYI .i64 v32 fun n34 =>
                            ANDS (RDL (Addr.add za0 0) fun x41 l42 c43 =>
                              RDL (Addr.add za0 1) fun x44 l45 c46 =>
                                fun _ => ((.agg #[(.slice x41 l42 c43), (.slice x44 l45 c46)]) : Value) = (.agg #[(.slice x26 l27 c28), (.slice x29 l30 c31)])) <|
                              CALL Pg W F_ref13_sum [(.agg #[(.slice x26 l27 c28), (.slice x29 l30 c31)]), (.int .i64 n8)]
                                (fun v47 => TYI .i64 v47 fun n49 =>
                                  J_ref13_best_0 W R (decide (n34 < n49)) za0 nx0 n9 n8)
                                  (fun e48 => R (.panicked e48)))
                            (fun e33 => R (.panicked e33))))
              (J_ref13_best_0 W R false za0 nx0 n9 n8))
            (fun e17 => R (.panicked e17)))
    (R (.returned (.int .i64 n8)))
theorem B_ref13_best_0_eq (W : World) (R : Ending → Hp → Prop) (za0 : Addr) (n8 : Int) (n9 : Int) (nx0 : List Value → Hp → Prop) (j : Tm) : vc Pg W 28 rs_57 an_57 false (sub (bodyOf Try.f57) [1, 1, 0, 1, 0, 0]) 0 (KLoop [3, 4] [1, 2, 28] [(.pointer (some za0)), (.int .i64 0), (.tuple #[])] nx0 (KBlk 0 (KS Pg W 28 rs_57 an_57 false (sub (bodyOf Try.f57) [1, 1, 1]) 0 (fin Pg W 28 rv_57 R)))) (known [3, 4] [(.int .i64 n8), (.int .i64 n9)] (known [1, 2, 28] [(.pointer (some za0)), (.int .i64 0), (.tuple #[])] j)) = B_ref13_best_0 W R za0 n8 n9 nx0 := by kernel_rfl
def N_ref13_best_0 (I : Int → Int → Hp → Prop) (μ : Int → Int → Hp → Nat) (n80 : Int) (n90 : Int) (s : Hp) (vs : List Value) : Hp → Prop := fun s' => ∃ n8 n9, vs = [(.int .i64 n8), (.int .i64 n9)] ∧ I n8 n9 s' ∧ μ n8 n9 s' < μ n80 n90 s
theorem L_ref13_best_0_rule (W : World) (R : Ending → Hp → Prop) (za0 : Addr) (I : Int → Int → Hp → Prop) (μ : Int → Int → Hp → Nat) (n80 : Int) (n90 : Int) (s : Hp) (h0 : I n80 n90 s)
    (hr : ∀ (n8 : Int) (n9 : Int) (s : Hp), I n8 n9 s → B_ref13_best_0 W R za0 n8 n9 (fun vs => N_ref13_best_0 I μ n8 n9 s vs) s) : L_ref13_best_0 W R za0 n80 n90 s := by
  refine ⟨fun vs s => ∃ n8 n9, vs = [(.int .i64 n8), (.int .i64 n9)] ∧ I n8 n9 s, fun vs s => (match vs with | [.int _ n8, .int _ n9] => μ n8 n9 s | _ => 0), ⟨⟨⟨_, rfl⟩, ⟨⟨_, rfl⟩, trivial⟩⟩, ⟨_, _, rfl, h0⟩⟩, ?_⟩
  intro n8 n9 s hI j
  obtain ⟨n8', n9', hy, hI⟩ := hI
  have hI' : I n8 n9 s := by cases hy; exact hI
  have hh := hr n8 n9 s hI'
  rw [← B_ref13_best_0_eq W R za0 n8 n9 _ j] at hh
  refine vc_mono ?_ _ _ hh
  exact KLoop_mono (fun vs s' h => by obtain ⟨n81, n91, rfl, h1, h2⟩ := h; exact ⟨⟨⟨_, rfl⟩, ⟨⟨_, rfl⟩, trivial⟩⟩, ⟨_, _, rfl, h1⟩, h2⟩)
def T_ref13_best (W : World) (x1 : Option Addr) (l2 : Nat) (c3 : Nat) (x4 : Option Addr) (l5 : Nat) (c6 : Nat) (R : Ending → Hp → Prop) : Hp → Prop :=
  NEW 25 [(.slice x1 l2 c3), (.slice x4 l5 c6)] fun B7 =>
    L_ref13_best_0 W R ⟨B7, 0, none⟩ 0 1
theorem T_ref13_best_eq (W : World) (x1 : Option Addr) (l2 : Nat) (c3 : Nat) (x4 : Option Addr) (l5 : Nat) (c6 : Nat) (R : Ending → Hp → Prop) : vfun Pg W an_57 Try.f57 [(.agg #[(.slice x1 l2 c3), (.slice x4 l5 c6)])] R = T_ref13_best W x1 l2 c3 x4 l5 c6 R := by kernel_rfl
theorem does_ref13_best (W : World) (x1 : Option Addr) (l2 : Nat) (c3 : Nat) (x4 : Option Addr) (l5 : Nat) (c6 : Nat) (R : Ending → Hp → Prop) (s : Hp) (h : T_ref13_best W x1 l2 c3 x4 l5 c6 R s) : Does Pg W F_ref13_best #[(.agg #[(.slice x1 l2 c3), (.slice x4 l5 c6)])] s R :=
  does_of_vfun Pg W an_57 Try.func57 rfl (by kernel_rfl) (by rw [T_ref13_best_eq]; exact h)
def an_58 : Nat → Ann := fun b => match b with
  | 0 => { ms := [5, 6, 7], ks := [.i .i64, .i .i64, .i .i64], us := [1, 2, 4, 43], rt := false, ex := [] }
  | _ => {}
abbrev rv_58 : List ResultVar := [.tmp 4]
abbrev rs_58 : List Nat := [43, 4]
def L_ref13_sum_0 (W : World) (R : Ending → Hp → Prop) (zn0 : Int) (za1 : Addr) (n9 : Int) (n10 : Int) (n11 : Int) : Hp → Prop :=
  LOOPN [.i .i64, .i .i64, .i .i64] (fun ys next s => ∀ j : Tm, vc Pg W 43 rs_58 an_58 false (sub (bodyOf Try.f58) [1, 1, 0, 1, 0, 0]) 0 (KLoop [5, 6, 7] [1, 2, 4, 43] [(.int .i64 zn0), (.pointer (some za1)), (.int .i64 0), (.tuple #[])] next (KBlk 0 (KS Pg W 43 rs_58 an_58 false (sub (bodyOf Try.f58) [1, 1, 1]) 0 (fin Pg W 43 rv_58 R)))) (known [5, 6, 7] ys (known [1, 2, 4, 43] [(.int .i64 zn0), (.pointer (some za1)), (.int .i64 0), (.tuple #[])] j)) s) [(.int .i64 n9), (.int .i64 n10), (.int .i64 n11)]
def J_ref13_sum_0 (W : World) (R : Ending → Hp → Prop) (b32 : Bool) (zn0 : Int) (za1 : Addr) (nx0 : List Value → Hp → Prop) (n9 : Int) (n10 : Int) (n11 : Int) : Hp → Prop :=
  BR b32
    (NX [(.int .i64 zn0), (.pointer (some za1)), (.int .i64 0), (.tuple #[])] [(.int .i64 zn0), (.pointer (some za1)), (.int .i64 0), (.tuple #[])] (nx0 [(.int .i64 (IntKind.wrap .i64 (n9 + 1))), (.int .i64 (IntKind.wrap .i64 (n10 + n11))), (.int .i64 (IntKind.wrap .i64 (n11 + 1)))]))
    (NX [(.int .i64 zn0), (.pointer (some za1)), (.int .i64 0), (.tuple #[])] [(.int .i64 zn0), (.pointer (some za1)), (.int .i64 0), (.tuple #[])] (nx0 [(.int .i64 n9), (.int .i64 n10), (.int .i64 (IntKind.wrap .i64 (n11 + 1)))]))
def B_ref13_sum_0 (W : World) (R : Ending → Hp → Prop) (zn0 : Int) (za1 : Addr) (n9 : Int) (n10 : Int) (n11 : Int) (nx0 : List Value → Hp → Prop) : Hp → Prop :=
  RDL (Addr.add za1 0) fun x12 l13 c14 =>
    BR (decide (n11 ≤ (↑l13 : Int)))
      (RDL (Addr.add za1 0) fun x15 l16 c17 =>
        RDL (Addr.add za1 0) fun x18 l19 c20 =>
          RDL (Addr.add za1 1) fun x21 l22 c23 =>
            CALL Pg W F_ref13_at [(.agg #[(.slice x18 l19 c20), (.slice x21 l22 c23)]), (.int .i64 n11)]
              (fun v24 => TYI .i64 v24 fun n26 =>
                ANDS (RDL (Addr.add za1 0) fun x27 l28 c29 =>
                  fun _ => ((.slice x27 l28 c29) : Value) = (.slice x15 l16 c17)) <|
                  IXS x15 l16 n26 4 fun a30 =>
                    RDI .i64 (Addr.add a30 1) fun n31 =>
                      BR (n31 == zn0)
                        (J_ref13_sum_0 W R (decide (n9 < 2)) zn0 za1 nx0 n9 n10 n11)
                        (J_ref13_sum_0 W R false zn0 za1 nx0 n9 n10 n11))
                (fun e25 => R (.panicked e25)))
      (BR (n9 == 1)
        (RDL (Addr.add za1 0) fun x33 l34 c35 =>
          R (.returned (.int .i64 (IntKind.wrap .i64 ((IntKind.wrap .i64 (n10 + (↑l34 : Int))) + 1)))))
        (R (.returned (.int .i64 n10))))
theorem B_ref13_sum_0_eq (W : World) (R : Ending → Hp → Prop) (zn0 : Int) (za1 : Addr) (n9 : Int) (n10 : Int) (n11 : Int) (nx0 : List Value → Hp → Prop) (j : Tm) : vc Pg W 43 rs_58 an_58 false (sub (bodyOf Try.f58) [1, 1, 0, 1, 0, 0]) 0 (KLoop [5, 6, 7] [1, 2, 4, 43] [(.int .i64 zn0), (.pointer (some za1)), (.int .i64 0), (.tuple #[])] nx0 (KBlk 0 (KS Pg W 43 rs_58 an_58 false (sub (bodyOf Try.f58) [1, 1, 1]) 0 (fin Pg W 43 rv_58 R)))) (known [5, 6, 7] [(.int .i64 n9), (.int .i64 n10), (.int .i64 n11)] (known [1, 2, 4, 43] [(.int .i64 zn0), (.pointer (some za1)), (.int .i64 0), (.tuple #[])] j)) = B_ref13_sum_0 W R zn0 za1 n9 n10 n11 nx0 := by kernel_rfl
def N_ref13_sum_0 (I : Int → Int → Int → Hp → Prop) (μ : Int → Int → Int → Hp → Nat) (n90 : Int) (n100 : Int) (n110 : Int) (s : Hp) (vs : List Value) : Hp → Prop := fun s' => ∃ n9 n10 n11, vs = [(.int .i64 n9), (.int .i64 n10), (.int .i64 n11)] ∧ I n9 n10 n11 s' ∧ μ n9 n10 n11 s' < μ n90 n100 n110 s
theorem L_ref13_sum_0_rule (W : World) (R : Ending → Hp → Prop) (zn0 : Int) (za1 : Addr) (I : Int → Int → Int → Hp → Prop) (μ : Int → Int → Int → Hp → Nat) (n90 : Int) (n100 : Int) (n110 : Int) (s : Hp) (h0 : I n90 n100 n110 s)
    (hr : ∀ (n9 : Int) (n10 : Int) (n11 : Int) (s : Hp), I n9 n10 n11 s → B_ref13_sum_0 W R zn0 za1 n9 n10 n11 (fun vs => N_ref13_sum_0 I μ n9 n10 n11 s vs) s) : L_ref13_sum_0 W R zn0 za1 n90 n100 n110 s := by
  refine ⟨fun vs s => ∃ n9 n10 n11, vs = [(.int .i64 n9), (.int .i64 n10), (.int .i64 n11)] ∧ I n9 n10 n11 s, fun vs s => (match vs with | [.int _ n9, .int _ n10, .int _ n11] => μ n9 n10 n11 s | _ => 0), ⟨⟨⟨_, rfl⟩, ⟨⟨_, rfl⟩, ⟨⟨_, rfl⟩, trivial⟩⟩⟩, ⟨_, _, _, rfl, h0⟩⟩, ?_⟩
  intro n9 n10 n11 s hI j
  obtain ⟨n9', n10', n11', hy, hI⟩ := hI
  have hI' : I n9 n10 n11 s := by cases hy; exact hI
  have hh := hr n9 n10 n11 s hI'
  rw [← B_ref13_sum_0_eq W R zn0 za1 n9 n10 n11 _ j] at hh
  refine vc_mono ?_ _ _ hh
  exact KLoop_mono (fun vs s' h => by obtain ⟨n91, n101, n111, rfl, h1, h2⟩ := h; exact ⟨⟨⟨_, rfl⟩, ⟨⟨_, rfl⟩, ⟨⟨_, rfl⟩, trivial⟩⟩⟩, ⟨_, _, _, rfl, h1⟩, h2⟩)
def T_ref13_sum (W : World) (x1 : Option Addr) (l2 : Nat) (c3 : Nat) (x4 : Option Addr) (l5 : Nat) (c6 : Nat) (n7 : Int) (R : Ending → Hp → Prop) : Hp → Prop :=
  NEW 25 [(.slice x1 l2 c3), (.slice x4 l5 c6)] fun B8 =>
    L_ref13_sum_0 W R n7 ⟨B8, 0, none⟩ 0 0 1
theorem T_ref13_sum_eq (W : World) (x1 : Option Addr) (l2 : Nat) (c3 : Nat) (x4 : Option Addr) (l5 : Nat) (c6 : Nat) (n7 : Int) (R : Ending → Hp → Prop) : vfun Pg W an_58 Try.f58 [(.agg #[(.slice x1 l2 c3), (.slice x4 l5 c6)]), (.int .i64 n7)] R = T_ref13_sum W x1 l2 c3 x4 l5 c6 n7 R := by kernel_rfl
theorem does_ref13_sum (W : World) (x1 : Option Addr) (l2 : Nat) (c3 : Nat) (x4 : Option Addr) (l5 : Nat) (c6 : Nat) (n7 : Int) (R : Ending → Hp → Prop) (s : Hp) (h : T_ref13_sum W x1 l2 c3 x4 l5 c6 n7 R s) : Does Pg W F_ref13_sum #[(.agg #[(.slice x1 l2 c3), (.slice x4 l5 c6)]), (.int .i64 n7)] s R :=
  does_of_vfun Pg W an_58 Try.func58 rfl (by kernel_rfl) (by rw [T_ref13_sum_eq]; exact h)
def an_63 : Nat → Ann := fun b => match b with
  | _ => {}
abbrev rv_63 : List ResultVar := [.tmp 6]
abbrev rs_63 : List Nat := [15, 6]
def T_ref13_in (W : World) (n1 : Int) (n2 : Int) (n3 : Int) (R : Ending → Hp → Prop) : Hp → Prop :=
  BR (decide (n2 ≤ n1))
    (R (.returned (.bool (decide (n1 ≤ n3)))))
    (R (.returned (.bool false)))
theorem T_ref13_in_eq (W : World) (n1 : Int) (n2 : Int) (n3 : Int) (R : Ending → Hp → Prop) : vfun Pg W an_63 Try.f63 [(.int .i64 n1), (.int .i64 n2), (.int .i64 n3)] R = T_ref13_in W n1 n2 n3 R := by kernel_rfl
theorem does_ref13_in (W : World) (n1 : Int) (n2 : Int) (n3 : Int) (R : Ending → Hp → Prop) (s : Hp) (h : T_ref13_in W n1 n2 n3 R s) : Does Pg W F_ref13_in #[(.int .i64 n1), (.int .i64 n2), (.int .i64 n3)] s R :=
  does_of_vfun Pg W an_63 Try.func63 rfl (by kernel_rfl) (by rw [T_ref13_in_eq]; exact h)
def an_76 : Nat → Ann := fun b => match b with
  | 0 => { ms := [4, 5], ks := [.b, .i .i64], us := [0, 1, 18], rt := false, ex := [] }
  | _ => {}
abbrev rv_76 : List ResultVar := [.tmp 4]
abbrev rs_76 : List Nat := [18, 4]
def L_ref13_has_0 (W : World) (R : Ending → Hp → Prop) (zp0 : Option Addr) (zl1 : Nat) (zl2 : Nat) (zn3 : Int) (b5 : Bool) (n6 : Int) : Hp → Prop :=
  LOOPN [.b, .i .i64] (fun ys next s => ∀ j : Tm, vc Pg W 18 rs_76 an_76 false (sub (bodyOf Try.f76) [1, 0, 1, 0, 0]) 0 (KLoop [4, 5] [0, 1, 18] [(.slice zp0 zl1 zl2), (.int .i64 zn3), (.tuple #[])] next (KBlk 0 (KS Pg W 18 rs_76 an_76 false (sub (bodyOf Try.f76) [1, 1]) 0 (fin Pg W 18 rv_76 R)))) (known [4, 5] ys (known [0, 1, 18] [(.slice zp0 zl1 zl2), (.int .i64 zn3), (.tuple #[])] j)) s) [(.bool b5), (.int .i64 n6)]
def B_ref13_has_0 (W : World) (R : Ending → Hp → Prop) (zp0 : Option Addr) (zl1 : Nat) (zl2 : Nat) (zn3 : Int) (b5 : Bool) (n6 : Int) (nx0 : List Value → Hp → Prop) : Hp → Prop :=
  BR (decide (n6 < (↑zl1 : Int)))
    (IXS zp0 zl1 n6 1 fun a7 =>
      RDI .i64 a7 fun n8 =>
        BR (n8 == zn3)
          (R (.returned (.bool true)))
          (NX [(.slice zp0 zl1 zl2), (.int .i64 zn3), (.tuple #[])] [(.slice zp0 zl1 zl2), (.int .i64 zn3), (.tuple #[])] (nx0 [(.bool b5), (.int .i64 (IntKind.wrap .i64 (n6 + 1)))])))
    (R (.returned (.bool false)))
theorem B_ref13_has_0_eq (W : World) (R : Ending → Hp → Prop) (zp0 : Option Addr) (zl1 : Nat) (zl2 : Nat) (zn3 : Int) (b5 : Bool) (n6 : Int) (nx0 : List Value → Hp → Prop) (j : Tm) : vc Pg W 18 rs_76 an_76 false (sub (bodyOf Try.f76) [1, 0, 1, 0, 0]) 0 (KLoop [4, 5] [0, 1, 18] [(.slice zp0 zl1 zl2), (.int .i64 zn3), (.tuple #[])] nx0 (KBlk 0 (KS Pg W 18 rs_76 an_76 false (sub (bodyOf Try.f76) [1, 1]) 0 (fin Pg W 18 rv_76 R)))) (known [4, 5] [(.bool b5), (.int .i64 n6)] (known [0, 1, 18] [(.slice zp0 zl1 zl2), (.int .i64 zn3), (.tuple #[])] j)) = B_ref13_has_0 W R zp0 zl1 zl2 zn3 b5 n6 nx0 := by kernel_rfl
def N_ref13_has_0 (I : Bool → Int → Hp → Prop) (μ : Bool → Int → Hp → Nat) (b50 : Bool) (n60 : Int) (s : Hp) (vs : List Value) : Hp → Prop := fun s' => ∃ b5 n6, vs = [(.bool b5), (.int .i64 n6)] ∧ I b5 n6 s' ∧ μ b5 n6 s' < μ b50 n60 s
theorem L_ref13_has_0_rule (W : World) (R : Ending → Hp → Prop) (zp0 : Option Addr) (zl1 : Nat) (zl2 : Nat) (zn3 : Int) (I : Bool → Int → Hp → Prop) (μ : Bool → Int → Hp → Nat) (b50 : Bool) (n60 : Int) (s : Hp) (h0 : I b50 n60 s)
    (hr : ∀ (b5 : Bool) (n6 : Int) (s : Hp), I b5 n6 s → B_ref13_has_0 W R zp0 zl1 zl2 zn3 b5 n6 (fun vs => N_ref13_has_0 I μ b5 n6 s vs) s) : L_ref13_has_0 W R zp0 zl1 zl2 zn3 b50 n60 s := by
  refine ⟨fun vs s => ∃ b5 n6, vs = [(.bool b5), (.int .i64 n6)] ∧ I b5 n6 s, fun vs s => (match vs with | [.bool b5, .int _ n6] => μ b5 n6 s | _ => 0), ⟨⟨⟨_, rfl⟩, ⟨⟨_, rfl⟩, trivial⟩⟩, ⟨_, _, rfl, h0⟩⟩, ?_⟩
  intro b5 n6 s hI j
  obtain ⟨b5', n6', hy, hI⟩ := hI
  have hI' : I b5 n6 s := by cases hy; exact hI
  have hh := hr b5 n6 s hI'
  rw [← B_ref13_has_0_eq W R zp0 zl1 zl2 zn3 b5 n6 _ j] at hh
  refine vc_mono ?_ _ _ hh
  exact KLoop_mono (fun vs s' h => by obtain ⟨b51, n61, rfl, h1, h2⟩ := h; exact ⟨⟨⟨_, rfl⟩, ⟨⟨_, rfl⟩, trivial⟩⟩, ⟨_, _, rfl, h1⟩, h2⟩)
def T_ref13_has (W : World) (x1 : Option Addr) (l2 : Nat) (c3 : Nat) (n4 : Int) (R : Ending → Hp → Prop) : Hp → Prop :=
  L_ref13_has_0 W R x1 l2 c3 n4 false 0
theorem T_ref13_has_eq (W : World) (x1 : Option Addr) (l2 : Nat) (c3 : Nat) (n4 : Int) (R : Ending → Hp → Prop) : vfun Pg W an_76 Try.f76 [(.slice x1 l2 c3), (.int .i64 n4)] R = T_ref13_has W x1 l2 c3 n4 R := by kernel_rfl
theorem does_ref13_has (W : World) (x1 : Option Addr) (l2 : Nat) (c3 : Nat) (n4 : Int) (R : Ending → Hp → Prop) (s : Hp) (h : T_ref13_has W x1 l2 c3 n4 R s) : Does Pg W F_ref13_has #[(.slice x1 l2 c3), (.int .i64 n4)] s R :=
  does_of_vfun Pg W an_76 Try.func76 rfl (by kernel_rfl) (by rw [T_ref13_has_eq]; exact h)
def an_79 : Nat → Ann := fun b => match b with
  | 0 => { ms := [4, 5], ks := [.i .i64, .i .i64], us := [1, 2, 22], rt := false, ex := [] }
  | _ => {}
abbrev rv_79 : List ResultVar := [.tmp 4]
abbrev rs_79 : List Nat := [22, 4]
def L_ref13_at_0 (W : World) (R : Ending → Hp → Prop) (zn0 : Int) (za1 : Addr) (n9 : Int) (n10 : Int) : Hp → Prop :=
  LOOPN [.i .i64, .i .i64] (fun ys next s => ∀ j : Tm, vc Pg W 22 rs_79 an_79 false (sub (bodyOf Try.f79) [1, 0, 1, 0, 0]) 0 (KLoop [4, 5] [1, 2, 22] [(.int .i64 zn0), (.pointer (some za1)), (.tuple #[])] next (KBlk 0 (KS Pg W 22 rs_79 an_79 false (sub (bodyOf Try.f79) [1, 1]) 0 (fin Pg W 22 rv_79 R)))) (known [4, 5] ys (known [1, 2, 22] [(.int .i64 zn0), (.pointer (some za1)), (.tuple #[])] j)) s) [(.int .i64 n9), (.int .i64 n10)]
def B_ref13_at_0 (W : World) (R : Ending → Hp → Prop) (zn0 : Int) (za1 : Addr) (n9 : Int) (n10 : Int) (nx0 : List Value → Hp → Prop) : Hp → Prop :=
  RDL (Addr.add za1 0) fun x11 l12 c13 =>
    BR (decide (n10 < (↑l12 : Int)))
      (RDL (Addr.add za1 0) fun x14 l15 c16 =>
        IXS x14 l15 n10 4 fun a17 =>
          RDI .i64 (Addr.add a17 0) fun n18 =>
            BR (n18 == zn0)
              (R (.returned (.int .i64 n10)))
              (NX [(.int .i64 zn0), (.pointer (some za1)), (.tuple #[])] [(.int .i64 zn0), (.pointer (some za1)), (.tuple #[])] (nx0 [(.int .i64 n9), (.int .i64 (IntKind.wrap .i64 (n10 + 1)))])))
      (R (.returned (.int .i64 (-1))))
theorem B_ref13_at_0_eq (W : World) (R : Ending → Hp → Prop) (zn0 : Int) (za1 : Addr) (n9 : Int) (n10 : Int) (nx0 : List Value → Hp → Prop) (j : Tm) : vc Pg W 22 rs_79 an_79 false (sub (bodyOf Try.f79) [1, 0, 1, 0, 0]) 0 (KLoop [4, 5] [1, 2, 22] [(.int .i64 zn0), (.pointer (some za1)), (.tuple #[])] nx0 (KBlk 0 (KS Pg W 22 rs_79 an_79 false (sub (bodyOf Try.f79) [1, 1]) 0 (fin Pg W 22 rv_79 R)))) (known [4, 5] [(.int .i64 n9), (.int .i64 n10)] (known [1, 2, 22] [(.int .i64 zn0), (.pointer (some za1)), (.tuple #[])] j)) = B_ref13_at_0 W R zn0 za1 n9 n10 nx0 := by kernel_rfl
def N_ref13_at_0 (I : Int → Int → Hp → Prop) (μ : Int → Int → Hp → Nat) (n90 : Int) (n100 : Int) (s : Hp) (vs : List Value) : Hp → Prop := fun s' => ∃ n9 n10, vs = [(.int .i64 n9), (.int .i64 n10)] ∧ I n9 n10 s' ∧ μ n9 n10 s' < μ n90 n100 s
theorem L_ref13_at_0_rule (W : World) (R : Ending → Hp → Prop) (zn0 : Int) (za1 : Addr) (I : Int → Int → Hp → Prop) (μ : Int → Int → Hp → Nat) (n90 : Int) (n100 : Int) (s : Hp) (h0 : I n90 n100 s)
    (hr : ∀ (n9 : Int) (n10 : Int) (s : Hp), I n9 n10 s → B_ref13_at_0 W R zn0 za1 n9 n10 (fun vs => N_ref13_at_0 I μ n9 n10 s vs) s) : L_ref13_at_0 W R zn0 za1 n90 n100 s := by
  refine ⟨fun vs s => ∃ n9 n10, vs = [(.int .i64 n9), (.int .i64 n10)] ∧ I n9 n10 s, fun vs s => (match vs with | [.int _ n9, .int _ n10] => μ n9 n10 s | _ => 0), ⟨⟨⟨_, rfl⟩, ⟨⟨_, rfl⟩, trivial⟩⟩, ⟨_, _, rfl, h0⟩⟩, ?_⟩
  intro n9 n10 s hI j
  obtain ⟨n9', n10', hy, hI⟩ := hI
  have hI' : I n9 n10 s := by cases hy; exact hI
  have hh := hr n9 n10 s hI'
  rw [← B_ref13_at_0_eq W R zn0 za1 n9 n10 _ j] at hh
  refine vc_mono ?_ _ _ hh
  exact KLoop_mono (fun vs s' h => by obtain ⟨n91, n101, rfl, h1, h2⟩ := h; exact ⟨⟨⟨_, rfl⟩, ⟨⟨_, rfl⟩, trivial⟩⟩, ⟨_, _, rfl, h1⟩, h2⟩)
def T_ref13_at (W : World) (x1 : Option Addr) (l2 : Nat) (c3 : Nat) (x4 : Option Addr) (l5 : Nat) (c6 : Nat) (n7 : Int) (R : Ending → Hp → Prop) : Hp → Prop :=
  NEW 25 [(.slice x1 l2 c3), (.slice x4 l5 c6)] fun B8 =>
    L_ref13_at_0 W R n7 ⟨B8, 0, none⟩ 0 0
theorem T_ref13_at_eq (W : World) (x1 : Option Addr) (l2 : Nat) (c3 : Nat) (x4 : Option Addr) (l5 : Nat) (c6 : Nat) (n7 : Int) (R : Ending → Hp → Prop) : vfun Pg W an_79 Try.f79 [(.agg #[(.slice x1 l2 c3), (.slice x4 l5 c6)]), (.int .i64 n7)] R = T_ref13_at W x1 l2 c3 x4 l5 c6 n7 R := by kernel_rfl
theorem does_ref13_at (W : World) (x1 : Option Addr) (l2 : Nat) (c3 : Nat) (x4 : Option Addr) (l5 : Nat) (c6 : Nat) (n7 : Int) (R : Ending → Hp → Prop) (s : Hp) (h : T_ref13_at W x1 l2 c3 x4 l5 c6 n7 R s) : Does Pg W F_ref13_at #[(.agg #[(.slice x1 l2 c3), (.slice x4 l5 c6)]), (.int .i64 n7)] s R :=
  does_of_vfun Pg W an_79 Try.func79 rfl (by kernel_rfl) (by rw [T_ref13_at_eq]; exact h)
end Go.Proofs.Ytfaeokcbfnlgbaa.G

/- The document's functions of layer 13: are prizes valid; who can have one. -/
set_option linter.unusedSimpArgs false
set_option linter.unusedVariables false
set_option maxRecDepth 20000
namespace Go.Proofs.Ytfaeokcbfnlgbaa.G
open Go.V
/-- Prizes as an argument lie. -/
structure PtA (s : Hp) (za : Addr) (T : PT) : Prop where
  men : ∃ x c, cellAt s (za.add 0) = some (.slice x T.n c) ∧ MnAt s x T.men
  lst : ∃ x c, cellAt s (za.add 1) = some (.slice x T.z c) ∧ PzAt s x T.list
theorem PtA.ext {s s' : Hp} {za : Addr} {T : PT} (e : Ext s s') (h : PtA s za T) : PtA s' za T where
  men := by obtain ⟨x, c, h1, h2⟩ := h.men; exact ⟨x, c, e.cell h1, h2.ext e⟩
  lst := by obtain ⟨x, c, h1, h2⟩ := h.lst; exact ⟨x, c, e.cell h1, h2.ext e⟩
theorem ptA_new {s s1 : Hp} {b : Nat} {T : PT} {x y : Option Addr} {c c' : Nat} (e : Ext s s1) (hx : MnAt s x T.men) (hy : PzAt s y T.list) (o1 : Own s1 ⟨b, 0, none⟩ (.slice x T.n c)) (o2 : Own s1 ⟨b, 1, none⟩ (.slice y T.z c')) : PtA s1 ⟨b, 0, none⟩ T :=
  ⟨⟨x, c, o1.cell, hx.ext e⟩, ⟨y, c', o2.cell, hy.ext e⟩⟩
section
variable {W : World} {K : VK} {E : List PanicEntry → Hp → Prop} {s : Hp} {T : PT}
theorem f_in {a b c : Int} (h : K (.bool (decide (b ≤ a ∧ a ≤ c))) s) : CALL Pg W F_ref13_in [.int .i64 a, .int .i64 b, .int .i64 c] K E s := by
  refine does_ref13_in W a b c _ s ?_
  unfold T_ref13_in
  refine BR_dec (fun h1 => ?_) (fun h1 => ?_)
  · have : decide (b ≤ a ∧ a ≤ c) = decide (a ≤ c) := by simp [h1]
    rw [← this]; exact h
  · have : decide (b ≤ a ∧ a ≤ c) = false := by simp [h1]
    rw [← this]; exact h
theorem f_Prizes {x y : Option Addr} {c c' : Nat} (hx : MnAt s x T.men) (hy : PzAt s y T.list) (h : ∀ s', Ext s s' → K (.bool (okP T)) s') :
    CALL Pg W F_ref13_Prizes [.agg #[.slice x T.n c, .slice y T.z c']] K E s := by
  refine does_ref13_Prizes W x T.n c y T.z c' _ s ?_
  unfold T_ref13_Prizes
  refine ne2 fun s1 e1 z1 o1 o2 => ?_
  have no : okP T = false → ∀ t, Ext s1 t → (endK K E) (.returned (.bool false)) t := fun hf t et => by
    have := h t (e1.trans et)
    rw [hf] at this; exact this
  refine ⟨_, _, _, o1.cell, ?_⟩
  dsimp only
  refine f_in ?_
  try simp only [TUP_mk, AGG_mk, HD_mk, NL_mk, TYI_mk, TYB_mk, TYP_mk, TYL_mk, TYS_mk, TYM_mk, SO_mk, NX_mk, endK_mk, endK_mk', add_0]
  have bad : ¬ ((1 ≤ T.n ∧ T.n ≤ 8) ∧ T.z ≤ 6) → okP T = false := fun hn => by
    cases h : okP T with
    | false => rfl
    | true => exact absurd ⟨(okP_iff.1 h).1, (okP_iff.1 h).2.1⟩ hn
  refine BR_not (fun h1 => ?_) (fun h1 => ?_)
  · unfold J_ref13_Prizes_0
    refine BR_tt rfl (no (bad ?_) _ (Ext.refl _))
    have := of_decide_eq_false h1
    omega
  have hn := of_decide_eq_true h1
  refine ⟨_, _, _, o2.cell, ?_⟩
  dsimp only
  unfold J_ref13_Prizes_0
  refine BR_dec (fun h2 => no (bad (by omega)) _ (Ext.refl _)) (fun h2 => ?_)
  have hz : T.z ≤ 6 := by omega
  have hokP : okP T = (okMs T.n [] T.men && T.list.all okZ) := by
    unfold okP
    rw [decide_eq_true (by omega : 1 ≤ (T.n : Int) ∧ (T.n : Int) ≤ 8), decide_eq_true (show T.list.length ≤ 6 from hz)]
    rfl
  refine L_ref13_Prizes_0_rule W _ ⟨s.size, 0, none⟩ (fun _ n t => Ext s1 t ∧ ∃ k : Nat, k ≤ T.n ∧ n = k ∧ okMs T.n [] T.men = okMs T.n (T.men.take k) (T.men.drop k)) (fun _ n _ => (T.n - n).toNat) false 0 s1 ⟨Ext.refl _, 0, by omega, rfl, rfl⟩ ?_
  rintro b n t ⟨et, k, hk, rfl, hok⟩
  unfold B_ref13_Prizes_0
  have hA : ∀ {t'}, Ext s1 t' → cellAt t' (Addr.add ⟨s.size, 0, none⟩ 0) = some (.slice x T.n c) := fun e => e.cell o1.cell
  have hB : ∀ {t'}, Ext s1 t' → cellAt t' (Addr.add ⟨s.size, 0, none⟩ 1) = some (.slice y T.z c') := fun e => e.cell o2.cell
  refine ⟨_, _, _, hA et, ?_⟩
  refine BR_dec (fun hlt => ?_) (fun hlt => ?_)
  · have hkn : k < T.n := by omega
    obtain ⟨ax, w0, w1, w2, w3, w4⟩ := man_row (hx.ext (e1.trans et)) hkn
    refine ⟨_, _, _, hA et, ?_⟩
    refine IXS_at w0 hkn ?_
    obtain ⟨m, hm'⟩ : ∃ m, T.man k = m := ⟨_, rfl⟩
    rw [hm'] at w1 w2 w3 w4
    have hmk : T.men[k]'hkn = m := by rw [← hm']; unfold PT.man; rw [getD_lt hkn]
    have hstep := okMs_step (n := T.n) (l := T.men) hkn
    rw [hmk] at hstep
    refine ⟨_, w1, _, w2, _, w3, _, w4, ?_⟩
    generalize hnx : (fun vs : List Value => _) = nx
    refine nw4 zc_48 rfl rfl rfl rfl fun t2 e2 z2 q1 q2 q3 q4 => ?_
    have et2 := et.trans e2
    refine ⟨_, q1.cell, _, _, _, hA et2, ?_⟩
    dsimp only
    refine f_in ?_
    try simp only [TUP_mk, AGG_mk, HD_mk, NL_mk, TYI_mk, TYB_mk, TYP_mk, TYL_mk, TYS_mk, TYM_mk, SO_mk, NX_mk, endK_mk, endK_mk', add_0]
    have step : okMn T.n (T.men.take k) m = false → okP T = false := fun hf => by rw [hokP, hok, hstep, hf]; rfl
    refine BR_not (fun h3 => ?_) (fun h3 => ?_)
    · unfold J_ref13_Prizes_1
      refine BR_tt rfl (no (step ?_) _ et2)
      unfold okMn
      rw [h3]; rfl
    · refine ⟨_, q2.cell, ?_⟩
      refine f_in ?_
      try simp only [TUP_mk, AGG_mk, HD_mk, NL_mk, TYI_mk, TYB_mk, TYP_mk, TYL_mk, TYS_mk, TYM_mk, SO_mk, NX_mk, endK_mk, endK_mk', add_0]
      unfold J_ref13_Prizes_1
      refine BR_not (fun h4 => no (step ?_) _ et2) (fun h4 => ?_)
      · unfold okMn
        rw [h3, h4, Bool.and_false]; rfl
      refine L_ref13_Prizes_1_rule W _ nx ⟨s.size, 0, none⟩ k ⟨t.size, 0, none⟩ (fun _ n t' => Ext t2 t' ∧ ∃ j : Nat, j ≤ k ∧ n = j ∧ ∀ i, i < j → (T.man i).place ≠ m.place) (fun _ n _ => (k - n).toNat) _ 0 t2 ⟨Ext.refl _, 0, by omega, rfl, fun i hi => by omega⟩ ?_
      rintro b' n' t3 ⟨e3, j, hj, rfl, hall⟩
      unfold B_ref13_Prizes_1
      have et3 := et2.trans e3
      refine BR_dec (fun h5 => ?_) (fun h5 => ?_)
      · have hjk : j < k := by omega
        obtain ⟨a2, v0, v1, v2, v3, v4⟩ := man_row (hx.ext (e1.trans et3)) (show j < T.n by omega)
        refine ⟨_, _, _, hA et3, ?_⟩
        refine IXS_at v0 (by omega) ?_
        refine ⟨_, v1, _, e3.cell q1.cell, ?_⟩
        refine BR_eq (fun h6 => no (step ?_) _ et3) (fun h6 => ?_)
        · unfold okMn
          have : (T.men.take k).all (fun x => decide (x.place ≠ m.place)) = false := by
            rw [List.all_eq_false]
            refine ⟨T.man j, ?_, by simpa using h6⟩
            unfold PT.man
            rw [getD_lt (show j < T.men.length by have := hkn; unfold PT.n at this; omega)]
            exact List.mem_take_iff_getElem.2 ⟨j, by have : k < T.men.length := hkn
                                                     omega, rfl⟩
          rw [this, Bool.false_and, Bool.and_false]
        · refine ⟨rfl, _, _, rfl, ⟨e3, j + 1, hjk, wrap_succ (by omega), fun i hi => ?_⟩, ms_succ hjk (by omega)⟩
          by_cases e : i = j
          · subst e; exact h6
          · exact hall i (by omega)
      · have hjk : j = k := by omega
        subst hjk
        rw [← hnx]
        refine ⟨rfl, _, _, rfl, ⟨et3, j + 1, hkn, wrap_succ (by omega), ?_⟩, ms_succ hkn (by omega)⟩
        have : okMn T.n (T.men.take j) m = true := by
          unfold okMn
          have hall' : (T.men.take j).all (fun x => decide (x.place ≠ m.place)) = true := by
            rw [List.all_eq_true]
            intro z hz
            obtain ⟨i, hi, rfl⟩ := List.mem_take_iff_getElem.1 hz
            have := hall i (by omega)
            unfold PT.man at this
            rw [getD_lt (by omega)] at this
            simpa using this
          rw [h3, h4, hall']; rfl
        rw [hok, hstep, this, Bool.true_and]
  · have hkn : k = T.n := by omega
    subst hkn
    have hdl : T.men.drop T.n = [] := List.drop_length
    rw [hdl] at hok
    have hokM : okMs T.n [] T.men = true := hok
    refine L_ref13_Prizes_2_rule W _ ⟨s.size, 0, none⟩ (fun _ n t => Ext s1 t ∧ ∃ k : Nat, k ≤ T.z ∧ n = k ∧ ∀ j, j < k → okZ (T.pz j) = true) (fun _ n _ => (T.z - n).toNat) _ 0 t ⟨et, 0, by omega, rfl, fun i hi => by omega⟩ ?_
    rintro b' n' t3 ⟨e3, j, hj, rfl, hall⟩
    unfold B_ref13_Prizes_2
    refine ⟨_, _, _, hB e3, ?_⟩
    refine BR_dec (fun h5 => ?_) (fun h5 => ?_)
    · have hjz : j < T.z := by omega
      obtain ⟨a2, v0, v1, v2⟩ := pz_row (hy.ext (e1.trans e3)) hjz
      have hlist : okZ (T.pz j) = false → okP T = false := fun hf => by
        rw [hokP]
        have : T.list.all okZ = false := by
          rw [List.all_eq_false]
          refine ⟨T.pz j, ?_, by rw [hf]; simp⟩
          unfold PT.pz; rw [getD_lt hjz]; exact List.getElem_mem hjz
        rw [this, Bool.and_false]
      refine ⟨_, _, _, hB e3, ?_⟩
      refine IXS_at v0 hjz ?_
      refine ⟨_, v1, ?_⟩
      refine f_in ?_
      try simp only [TUP_mk, AGG_mk, HD_mk, NL_mk, TYI_mk, TYB_mk, TYP_mk, TYL_mk, TYS_mk, TYM_mk, SO_mk, NX_mk, endK_mk, endK_mk', add_0]
      refine BR_not (fun h6 => no (hlist ?_) _ e3) (fun h6 => ?_)
      · unfold okZ; rw [h6]; rfl
      refine ⟨_, _, _, hB e3, ?_⟩
      refine IXS_at v0 hjz ?_
      refine ⟨_, v2, ?_⟩
      refine f_in ?_
      try simp only [TUP_mk, AGG_mk, HD_mk, NL_mk, TYI_mk, TYB_mk, TYP_mk, TYL_mk, TYS_mk, TYM_mk, SO_mk, NX_mk, endK_mk, endK_mk', add_0]
      refine BR_not (fun h7 => no (hlist ?_) _ e3) (fun h7 => ?_)
      · unfold okZ; rw [h6, h7]; rfl
      refine ⟨_, _, rfl, ⟨e3, j + 1, hjz, wrap_succ (by omega), fun i hi => ?_⟩, ms_succ hjz (by omega)⟩
      by_cases e : i = j
      · subst e; unfold okZ; rw [h6, h7]; rfl
      · exact hall i (by omega)
    · have hjz : j = T.z := by omega
      subst hjz
      have hokl : T.list.all okZ = true := by
        rw [List.all_eq_true]
        intro z hz'
        obtain ⟨i, hi, rfl⟩ := List.mem_iff_getElem.1 hz'
        have := hall i hi
        unfold PT.pz at this
        rwa [getD_lt hi] at this
      have := h t3 (e1.trans e3)
      rw [hokP, hokM, hokl] at this
      exact this
theorem f_check {x y : Option Addr} {c c' : Nat} {v : Bool} (hx : MnAt s x T.men) (hy : PzAt s y T.list) (h : ∀ s', Ext s s' → K (.int .i64 (if okP T then (if v then 0 else 2) else 1)) s') :
    CALL Pg W F_ref13_check [.agg #[.slice x T.n c, .slice y T.z c'], .bool v] K E s := by
  refine does_ref13_check W x T.n c y T.z c' v _ s ?_
  unfold T_ref13_check
  refine ne2 fun s1 e1 z1 o1 o2 => ?_
  refine ⟨_, _, _, o1.cell, _, _, _, o2.cell, ?_⟩
  refine f_Prizes (hx.ext e1) (hy.ext e1) fun s2 e2 => ?_
  try simp only [TUP_mk, AGG_mk, HD_mk, NL_mk, TYI_mk, TYB_mk, TYP_mk, TYL_mk, TYS_mk, TYM_mk, SO_mk, NX_mk, endK_mk, endK_mk', add_0]
  have := h s2 (e1.trans e2)
  refine BR_not (fun h1 => ?_) (fun h1 => ?_)
  · rw [h1] at this; exact this
  · rw [h1] at this
    refine BR_not (fun h2 => ?_) (fun h2 => ?_)
    · rw [h2] at this; exact this
    · rw [h2] at this; exact this
theorem f_Man {x y : Option Addr} {c c' : Nat} {n : Int} (h4 : T.n ≤ 100000) (h : ∀ s', Ext s s' → K (.bool (decide (0 ≤ n ∧ n < T.n))) s') : CALL Pg W F_ref13_Man [.agg #[.slice x T.n c, .slice y T.z c'], .int .i64 n] K E s := by
  refine does_ref13_Man W x T.n c y T.z c' n _ s ?_
  unfold T_ref13_Man
  refine ne2 fun s1 e1 z1 o1 o2 => ?_
  refine ⟨_, _, _, o1.cell, ?_⟩
  dsimp only
  rw [wrap_i64 (by omega) (by omega)]
  refine f_in ?_
  try simp only [TUP_mk, AGG_mk, HD_mk, NL_mk, TYI_mk, TYB_mk, TYP_mk, TYL_mk, TYS_mk, TYM_mk, SO_mk, NX_mk, endK_mk, endK_mk', add_0]
  have e : decide (0 ≤ n ∧ n ≤ (T.n : Int) - 1) = decide (0 ≤ n ∧ n < T.n) := by congr 1; apply propext; omega
  rw [e]; exact h s1 e1
theorem f_Prize {x y : Option Addr} {c c' : Nat} {n : Int} (h4 : T.z ≤ 100000) (h : ∀ s', Ext s s' → K (.bool (decide (0 ≤ n ∧ n < T.z))) s') : CALL Pg W F_ref13_Prize [.agg #[.slice x T.n c, .slice y T.z c'], .int .i64 n] K E s := by
  refine does_ref13_Prize W x T.n c y T.z c' n _ s ?_
  unfold T_ref13_Prize
  refine ne2 fun s1 e1 z1 o1 o2 => ?_
  refine ⟨_, _, _, o2.cell, ?_⟩
  dsimp only
  rw [wrap_i64 (by omega) (by omega)]
  refine f_in ?_
  try simp only [TUP_mk, AGG_mk, HD_mk, NL_mk, TYI_mk, TYB_mk, TYP_mk, TYL_mk, TYS_mk, TYM_mk, SO_mk, NX_mk, endK_mk, endK_mk', add_0]
  have e : decide (0 ≤ n ∧ n ≤ (T.z : Int) - 1) = decide (0 ≤ n ∧ n < T.z) := by congr 1; apply propext; omega
  rw [e]; exact h s1 e1
theorem f_can {x y : Option Addr} {c c' m z : Nat} (hx : MnAt s x T.men) (hy : PzAt s y T.list) (hm : m < T.n) (hz : z < T.z) (h : ∀ s', Ext s s' → K (.bool (canP T m z)) s') :
    CALL Pg W F_ref13_can [.agg #[.slice x T.n c, .slice y T.z c'], .int .i64 (m : Nat), .int .i64 (z : Nat)] K E s := by
  refine does_ref13_can W x T.n c y T.z c' m z _ s ?_
  unfold T_ref13_can
  refine ne2 fun s1 e1 z1 o1 o2 => ?_
  obtain ⟨ax, w0, w1, w2, w3, w4⟩ := man_row (hx.ext e1) hm
  obtain ⟨ay, v0, v1, v2⟩ := pz_row (hy.ext e1) hz
  refine ⟨_, _, _, o1.cell, ?_⟩
  refine IXS_at w0 hm ?_
  refine ⟨_, w1, _, w2, _, w3, _, w4, ?_⟩
  refine nw4 zc_48 rfl rfl rfl rfl fun t e z2 q1 q2 q3 q4 => ?_
  refine ⟨_, _, _, e.cell o2.cell, ?_⟩
  refine IXS_at v0 hz ?_
  refine ⟨_, e.cell v1, ?_⟩
  have hh := h t (e1.trans e)
  unfold canP canK at hh
  refine BR_eq (fun h1 => ⟨_, q3.cell, ?_⟩) (fun h1 => ?_)
  · rw [if_pos h1] at hh; exact hh
  rw [if_neg h1] at hh
  refine BR_eq (fun h2 => ⟨_, q4.cell, ?_⟩) (fun h2 => ?_)
  · rw [if_pos h2] at hh; exact hh
  rw [if_neg h2] at hh
  refine BR_eq (fun h3 => ⟨_, q3.cell, ?_⟩) (fun h3 => ?_)
  · rw [if_pos h3] at hh
    refine BR_bool (fun h5 => ⟨_, q4.cell, ?_⟩) (fun h5 => ?_)
    · rw [h5, Bool.true_and] at hh; exact hh
    · rw [h5, Bool.false_and] at hh; exact hh
  rw [if_neg h3] at hh
  refine BR_eq (fun h4 => ⟨_, q2.cell, ?_⟩) (fun h4 => ?_)
  · rw [if_pos h4] at hh
    have e : ((T.man m).club != 0) = decide ((T.man m).club ≠ 0) := by by_cases hc : (T.man m).club = 0 <;> simp [hc]
    rw [← e] at hh; exact hh
  · rw [if_neg h4] at hh; exact hh
end
end Go.Proofs.Ytfaeokcbfnlgbaa.G

/- The document's functions of layer 13: who is at a place; sums of clubs, the best one. -/
set_option linter.unusedSimpArgs false
set_option linter.unusedVariables false
set_option maxRecDepth 20000
namespace Go.Proofs.Ytfaeokcbfnlgbaa.G
open Go.V
def plT (T : PT) (c : Int) (k : Nat) : List Int := (((ordP T).take k).filter fun m => (T.man m).club == c).map fun m => (T.man m).place
theorem plT_full (T : PT) (c : Int) : plT T c T.n = places T c := by
  unfold plT places ordF
  rw [← ord_len T, List.take_length]
theorem plT_succ {T : PT} (hv : VdP T) {c : Int} {k : Nat} (hk : k < T.n) : plT T c (k + 1) = plT T c k ++ (if (T.man (idx T ((k + 1 : Nat) : Int))).club = c then [((k + 1 : Nat) : Int)] else []) := by
  have hs := (hv.sur ((k + 1 : Nat) : Int) (by omega) (by omega)).2
  unfold plT
  rw [List.take_add_one, ord_get hk, List.filter_append, List.map_append]
  congr 1
  show List.map _ (List.filter _ [idx T ((k + 1 : Nat) : Int)]) = _
  generalize idx T ((k + 1 : Nat) : Int) = i at *
  by_cases h : (T.man i).club = c
  · rw [if_pos h]; simp [h, hs]
  · rw [if_neg h]; simp [h]
theorem plT_len {T : PT} {c : Int} {k : Nat} : (plT T c k).length ≤ k := by
  unfold plT
  rw [List.length_map]
  exact Nat.le_trans (List.length_filter_le _ _) (by rw [List.length_take]; omega)
theorem plT_mem {T : PT} (hv : VdP T) {c : Int} {k : Nat} {x : Int} (h : x ∈ plT T c k) : 1 ≤ x ∧ x ≤ T.n := by
  unfold plT at h
  obtain ⟨m, hm, rfl⟩ := List.mem_map.1 h
  exact hv.pl m ((ord_mem hv).1 (List.mem_of_mem_take (List.mem_filter.1 hm).1))
theorem sumC_pos {T : PT} (hv : VdP T) {c r : Int} (h : sumC T.n (places T c) = some r) : 0 < r ∧ r ≤ 20 := by
  have hm : ∀ x ∈ places T c, 1 ≤ x ∧ x ≤ T.n := fun x hx => places_mem hv hx
  have h8 := hv.n8
  unfold sumC at h
  split at h
  · cases h
  · rename_i a e
    have := hm a (by rw [e]; simp)
    cases h; omega
  · rename_i a b r' e
    have := hm a (by rw [e]; simp)
    have := hm b (by rw [e]; simp)
    cases h; omega
theorem clubs_mem {T : PT} {k : Nat} {x : Int × Int} (h : x ∈ clubsL T k) : (1 ≤ x.1 ∧ x.1 ≤ k) ∧ sumC T.n (places T x.1) = some x.2 := by
  unfold clubsL at h
  obtain ⟨i, hi, e⟩ := List.mem_filterMap.1 h
  have := List.mem_range.1 hi
  cases hs : sumC T.n (places T ((i + 1 : Nat) : Int)) with
  | none => rw [hs] at e; cases e
  | some r =>
    rw [hs] at e
    cases e
    exact ⟨⟨by show (1 : Int) ≤ ((i + 1 : Nat) : Int); omega, by show ((i + 1 : Nat) : Int) ≤ k; omega⟩, hs⟩
theorem firstL_mem : ∀ (l : List (Int × Int)), l ≠ [] → firstL l ∈ l
  | [], h => absurd rfl h
  | x :: r, _ => by
    have key : ∀ (r : List (Int × Int)) (b : Int × Int), r.foldl minC b = b ∨ r.foldl minC b ∈ r := by
      intro r
      induction r with
      | nil => exact fun b => .inl rfl
      | cons y r ih =>
        intro b
        rw [List.foldl_cons]
        rcases ih (minC b y) with h | h
        · unfold minC at h ⊢
          split at h
          · rw [if_pos (by assumption)]; rw [h]; exact .inr (by simp)
          · rw [if_neg (by assumption)]; exact .inl h
        · exact .inr (by simp [h])
    rcases key r x with h | h
    · show r.foldl minC x ∈ _; rw [h]; simp
    · exact List.mem_cons_of_mem _ h
section
variable {W : World} {K : VK} {E : List PanicEntry → Hp → Prop} {s : Hp} {T : PT}
theorem f_has {x : Option Addr} {c l : Nat} {ds : List Int} {n : Int} (hx : RowAt s x (ints ds)) (hl : l = ds.length) (h8 : ds.length ≤ 100000) (h : K (.bool (decide (n ∈ ds))) s) : CALL Pg W F_ref13_has [.slice x l c, .int .i64 n] K E s := by
  subst hl
  refine does_ref13_has W x _ c n _ s ?_
  unfold T_ref13_has
  refine L_ref13_has_0_rule W _ x ds.length c n (fun _ i t => t = s ∧ ∃ k : Nat, k ≤ ds.length ∧ i = k ∧ ∀ j, j < k → ds.getD j 0 ≠ n) (fun _ i _ => (ds.length - i).toNat) false 0 s ⟨rfl, 0, by omega, rfl, fun j hj => by omega⟩ ?_
  rintro b i t ⟨rfl, k, hk, rfl, hno⟩
  unfold B_ref13_has_0
  refine BR_dec (fun h1 => ?_) (fun h1 => ?_)
  · have hkl : k < ds.length := by omega
    obtain ⟨a, ha, g⟩ := row_int hx hkl
    refine IXS_at ha hkl ?_
    refine ⟨_, g, ?_⟩
    refine BR_eq (fun h2 => ?_) (fun h2 => ?_)
    · have : n ∈ ds := by rw [← h2, getD_lt hkl]; exact List.getElem_mem hkl
      rw [decide_eq_true this] at h
      exact h
    · refine ⟨rfl, _, _, rfl, ⟨rfl, k + 1, hkl, wrap_succ (by omega), fun j hj => ?_⟩, ms_succ hkl (by omega)⟩
      by_cases e : j = k
      · subst e; exact h2
      · exact hno j (by omega)
  · have : ¬ n ∈ ds := fun hm => by
      obtain ⟨j, hj, e⟩ := List.mem_iff_getElem.1 hm
      exact hno j (by omega) (by rw [getD_lt hj]; exact e)
    rw [decide_eq_false this] at h
    exact h
theorem f_at {x y : Option Addr} {c c' : Nat} {n : Int} (hx : MnAt s x T.men) (hy : PzAt s y T.list) (h4 : T.n ≤ 100000) (h : ∀ s', Ext s s' → K (.int .i64 (atL T.men n)) s') : CALL Pg W F_ref13_at [.agg #[.slice x T.n c, .slice y T.z c'], .int .i64 n] K E s := by
  refine does_ref13_at W x T.n c y T.z c' n _ s ?_
  unfold T_ref13_at
  refine ne2 fun s1 e1 z1 o1 o2 => ?_
  refine L_ref13_at_0_rule W _ n ⟨s.size, 0, none⟩ (fun _ i t => t = s1 ∧ ∃ k : Nat, k ≤ T.n ∧ i = k ∧ ∀ j, j < k → (T.man j).place ≠ n) (fun _ i _ => (T.n - i).toNat) 0 0 s1 ⟨rfl, 0, by omega, rfl, fun j hj => by omega⟩ ?_
  rintro b i t ⟨rfl, k, hk, rfl, hno⟩
  unfold B_ref13_at_0
  refine ⟨_, _, _, o1.cell, ?_⟩
  have hh := h t e1
  refine BR_dec (fun h1 => ?_) (fun h1 => ?_)
  · have hkn : k < T.n := by omega
    obtain ⟨ax, w0, w1, w2, w3, w4⟩ := man_row (hx.ext e1) hkn
    refine ⟨_, _, _, o1.cell, ?_⟩
    refine IXS_at w0 hkn ?_
    refine ⟨_, w1, ?_⟩
    refine BR_eq (fun h2 => ?_) (fun h2 => ?_)
    · have hf : T.men.findIdx? (fun m => decide (m.place = n)) = some k := by
        rw [List.findIdx?_eq_some_iff_getElem]
        refine ⟨hkn, ?_, fun j hj => ?_⟩
        · unfold PT.man at h2; rw [getD_lt hkn] at h2; simpa using h2
        · have := hno j hj
          have hjn : j < T.men.length := by have : k < T.men.length := hkn
                                            omega
          unfold PT.man at this; rw [getD_lt hjn] at this; simpa using this
      unfold atL at hh
      rw [hf] at hh
      exact hh
    · refine ⟨rfl, _, _, rfl, ⟨rfl, k + 1, hkn, wrap_succ (by omega), fun j hj => ?_⟩, ms_succ hkn (by omega)⟩
      by_cases e : j = k
      · subst e; exact h2
      · exact hno j (by omega)
  · have hf : T.men.findIdx? (fun m => decide (m.place = n)) = none := by
      rw [List.findIdx?_eq_none_iff]
      intro m hm
      obtain ⟨j, hj, rfl⟩ := List.mem_iff_getElem.1 hm
      have hjn : j < T.n := hj
      have := hno j (by omega)
      unfold PT.man at this; rw [getD_lt hj] at this
      simpa using this
    unfold atL at hh
    rw [hf] at hh
    exact hh
theorem take2_sum {l : List Int} {x : Int} : (l ++ [x]).length ≤ 100 → ((l ++ [x]).take 2).sum = (l.take 2).sum + (if l.length < 2 then x else 0) := by
  intro _
  match l with
  | [] => simp
  | [a] => simp
  | a :: b :: r => rw [if_neg (by simp)]; simp
theorem f_sum {x y : Option Addr} {c c' : Nat} {n : Int} (hok : okP T = true) (hx : MnAt s x T.men) (hy : PzAt s y T.list) (h : ∀ s', Ext s s' → K (.int .i64 ((sumC T.n (places T n)).getD 0)) s') : CALL Pg W F_ref13_sum [.agg #[.slice x T.n c, .slice y T.z c'], .int .i64 n] K E s := by
  have hv := okP_vd hok
  have h8 := hv.n8
  refine does_ref13_sum W x T.n c y T.z c' n _ s ?_
  unfold T_ref13_sum
  refine ne2 fun s1 e1 z1 o1 o2 => ?_
  have bd : ∀ k, k ≤ T.n → 0 ≤ ((plT T n k).take 2).sum ∧ ((plT T n k).take 2).sum ≤ 16 := by
    intro k hk
    have hm : ∀ x ∈ plT T n k, 1 ≤ x ∧ x ≤ T.n := fun x hx => plT_mem hv hx
    match plT T n k, hm with
    | [], _ => simp
    | [a], hm => have := hm a (by simp); simp; omega
    | a :: b :: r, hm => have := hm a (by simp); have := hm b (by simp); simp; omega
  refine L_ref13_sum_0_rule W _ n ⟨s.size, 0, none⟩ (fun a b i t => Ext s1 t ∧ ∃ k : Nat, k ≤ T.n ∧ i = ((k + 1 : Nat) : Int) ∧ a = ((min 2 (plT T n k).length : Nat) : Int) ∧ b = ((plT T n k).take 2).sum) (fun _ _ i _ => (T.n + 1 - i).toNat) 0 0 1 s1 ⟨Ext.refl _, 0, by omega, rfl, by simp [plT], by simp [plT]⟩ ?_
  rintro a b i t ⟨et, k, hk, rfl, rfl, rfl⟩
  unfold B_ref13_sum_0
  have hA := et.cell o1.cell
  have hB := et.cell o2.cell
  refine ⟨_, _, _, hA, ?_⟩
  refine BR_dec (fun h1 => ?_) (fun h1 => ?_)
  · have hkn : k < T.n := by omega
    refine ⟨_, _, _, hA, _, _, _, hA, _, _, _, hB, ?_⟩
    refine f_at (hx.ext (e1.trans et)) (hy.ext (e1.trans et)) (by omega) fun t2 e2 => ?_
    try simp only [TUP_mk, AGG_mk, HD_mk, NL_mk, TYI_mk, TYB_mk, TYP_mk, TYL_mk, TYS_mk, TYM_mk, SO_mk, NX_mk, endK_mk, endK_mk', add_0]
    have et2 := et.trans e2
    have hs := hv.sur ((k + 1 : Nat) : Int) (by omega) (by omega)
    refine ANDS_i ⟨_, _, _, e2.cell hA, rfl⟩ ?_
    rw [atL_idx hs.1]
    have hsucc := plT_succ hv (c := n) hkn
    have hbd := bd (k + 1) hkn
    have hlen := plT_len (T := T) (c := n) (k := k)
    generalize hi : idx T ((k + 1 : Nat) : Int) = m at *
    obtain ⟨ax, w0, w1, w2, w3, w4⟩ := man_row (hx.ext (e1.trans et2)) hs.1
    refine IXS_at w0 hs.1 ?_
    refine ⟨_, w2, ?_⟩
    have hms : (T.n + 1 - (IntKind.i64.wrap (((k + 1 : Nat) : Int) + 1))).toNat < ((T.n : Int) + 1 - ((k + 1 : Nat) : Int)).toNat := by rw [wrap_succ (by omega)]; omega
    refine BR_eq (fun h2 => ?_) (fun h2 => ?_)
    · rw [if_pos h2] at hsucc
      have hts := take2_sum (l := plT T n k) (x := ((k + 1 : Nat) : Int)) (by simp; omega)
      rw [← hsucc] at hts
      unfold J_ref13_sum_0
      refine BR_dec (fun h3 => ?_) (fun h3 => ?_)
      · have hl2 : (plT T n k).length < 2 := by omega
        rw [if_pos hl2] at hts
        refine ⟨rfl, _, _, _, rfl, ⟨et2, k + 1, hkn, ?_, ?_, ?_⟩, ?_⟩
        · exact wrap_succ (by omega)
        · rw [wrap_succ (by omega), hsucc, List.length_append]
          have : (min 2 (plT T n k).length + 1) = min 2 ((plT T n k).length + [((k + 1 : Nat) : Int)].length) := by simp; omega
          rw [this]
        · rw [hts, wrap_i64 (by omega) (by omega)]
        · exact hms
      · have hl2 : ¬ (plT T n k).length < 2 := by omega
        rw [if_neg hl2] at hts
        refine ⟨rfl, _, _, _, rfl, ⟨et2, k + 1, hkn, ?_, ?_, ?_⟩, ?_⟩
        · exact wrap_succ (by omega)
        · rw [hsucc, List.length_append]
          have : min 2 (plT T n k).length = min 2 ((plT T n k).length + [((k + 1 : Nat) : Int)].length) := by simp; omega
          rw [this]
        · rw [hts]; omega
        · exact hms
    · rw [if_neg h2, List.append_nil] at hsucc
      unfold J_ref13_sum_0
      refine BR_ff rfl ?_
      refine ⟨rfl, _, _, _, rfl, ⟨et2, k + 1, hkn, ?_, ?_, ?_⟩, ?_⟩
      · exact wrap_succ (by omega)
      · rw [hsucc]
      · rw [hsucc]
      · exact hms
  · have hkn : k = T.n := by omega
    subst hkn
    have hh := h t (e1.trans et)
    have hbd := bd T.n (Nat.le_refl _)
    rw [plT_full] at hbd ⊢
    unfold sumC at hh
    refine BR_eq (fun h2 => ?_) (fun h2 => ?_)
    · refine ⟨_, _, _, hA, ?_⟩
      have hl1 : (places T n).length = 1 := by omega
      obtain ⟨a, ha⟩ := List.length_eq_one_iff.1 hl1
      rw [ha] at hh hbd ⊢
      have e1' : ((([a] : List Int).take 2).sum) = a := by simp
      rw [e1'] at hbd ⊢
      dsimp only
      rw [wrap_i64 (n := a + T.n) (by omega) (by omega), wrap_i64 (by omega) (by omega)]
      exact hh
    · match hq : places T n with
      | [] => rw [hq] at hh; exact hh
      | [a] => rw [hq] at h2; exact absurd rfl h2
      | a :: b :: r =>
        rw [hq] at hh
        have e1' : (((a :: b :: r).take 2).sum) = a + b := by simp
        rw [e1']; exact hh
theorem f_best {x y : Option Addr} {c c' : Nat} (hok : okP T = true) (hx : MnAt s x T.men) (hy : PzAt s y T.list) (h : ∀ s', Ext s s' → K (.int .i64 (bestP T).1) s') : CALL Pg W F_ref13_best [.agg #[.slice x T.n c, .slice y T.z c']] K E s := by
  have hv := okP_vd hok
  refine does_ref13_best W x T.n c y T.z c' _ s ?_
  unfold T_ref13_best
  refine ne2 fun s1 e1 z1 o1 o2 => ?_
  refine L_ref13_best_0_rule W _ ⟨s.size, 0, none⟩ (fun a i t => Ext s1 t ∧ ∃ k : Nat, k ≤ 5 ∧ i = ((k + 1 : Nat) : Int) ∧ a = (firstL (clubsL T k)).1) (fun _ i _ => (6 - i).toNat) 0 1 s1 ⟨Ext.refl _, 0, by omega, rfl, rfl⟩ ?_
  rintro a i t ⟨et, k, hk, rfl, rfl⟩
  unfold B_ref13_best_0
  refine BR_dec (fun h1 => ?_) (fun h1 => ?_)
  · have hk5 : k < 5 := by omega
    have hA : ∀ {t'}, Ext t t' → cellAt t' (Addr.add ⟨s.size, 0, none⟩ 0) = some (.slice x T.n c) := fun e => (et.trans e).cell o1.cell
    have hB : ∀ {t'}, Ext t t' → cellAt t' (Addr.add ⟨s.size, 0, none⟩ 1) = some (.slice y T.z c') := fun e => (et.trans e).cell o2.cell
    have ex := e1.trans et
    generalize hnx : (fun vs : List Value => _) = nx
    have hms : (6 - (IntKind.i64.wrap (((k + 1 : Nat) : Int) + 1))).toNat < (6 - ((k + 1 : Nat) : Int)).toNat := by rw [wrap_succ (by omega)]; omega
    have hcl := clubsL_succ T k
    have fin : ∀ t' b, Ext t t' → (b = true → (firstL (clubsL T (k + 1))).1 = ((k + 1 : Nat) : Int)) → (b = false → (firstL (clubsL T (k + 1))).1 = (firstL (clubsL T k)).1) → J_ref13_best_0 W (endK K E) b ⟨s.size, 0, none⟩ nx ((k + 1 : Nat) : Int) (firstL (clubsL T k)).1 t' := by
      intro t' b e' hb1 hb2
      unfold J_ref13_best_0
      rw [← hnx]
      refine BR_bool (fun hb => ?_) (fun hb => ?_)
      · refine ⟨rfl, _, _, rfl, ⟨et.trans e', k + 1, hk5, wrap_succ (by omega), (hb1 hb).symm⟩, hms⟩
      · refine ⟨rfl, _, _, rfl, ⟨et.trans e', k + 1, hk5, wrap_succ (by omega), (hb2 hb).symm⟩, hms⟩
    refine ⟨_, _, _, hA (Ext.refl _), _, _, _, hB (Ext.refl _), ?_⟩
    refine f_sum hok (hx.ext ex) (hy.ext ex) fun t2 e2 => ?_
    try simp only [TUP_mk, AGG_mk, HD_mk, NL_mk, TYI_mk, TYB_mk, TYP_mk, TYL_mk, TYS_mk, TYM_mk, SO_mk, NX_mk, endK_mk, endK_mk', add_0]
    cases hsc : sumC T.n (places T ((k + 1 : Nat) : Int)) with
    | none =>
      rw [hsc] at hcl
      have hcl' : clubsL T (k + 1) = clubsL T k := by rw [hcl]; exact List.append_nil _
      refine BR_dec (fun h2 => ?_) (fun h2 => ?_)
      · exact absurd h2 (by show ¬ (0 : Int) > 0; omega)
      · refine fin t2 _ e2 (fun h3 => by cases h3) (fun _ => by rw [hcl'])
    | some r =>
      rw [hsc] at hcl
      have hr := sumC_pos hv hsc
      refine BR_dec (fun h2 => ?_) (fun h2 => absurd hr.1 h2)
      have hmemk : ∀ hne : clubsL T k ≠ [], (1 ≤ (firstL (clubsL T k)).1) ∧ sumC T.n (places T (firstL (clubsL T k)).1) = some (firstL (clubsL T k)).2 := fun hne => by
        have := clubs_mem (firstL_mem _ hne)
        exact ⟨this.1.1, this.2⟩
      refine BR_eq (fun h3 => ?_) (fun h3 => ?_)
      · have hnil : clubsL T k = [] := Classical.byContradiction fun hne => by have := (hmemk hne).1; omega
        refine fin t2 _ e2 (fun _ => ?_) (fun h4 => by cases h4)
        rw [hcl, hnil]; rfl
      · have hne : clubsL T k ≠ [] := fun hnil => h3 (by rw [hnil]; rfl)
        have hb := (hmemk hne).2
        have hs := firstL_snoc (clubsL T k) (((k + 1 : Nat) : Int), r) hne
        refine ⟨_, _, _, hA e2, _, _, _, hB e2, _, _, _, hA e2, _, _, _, hB e2, ?_⟩
        refine f_sum hok (hx.ext (ex.trans e2)) (hy.ext (ex.trans e2)) fun t3 e3 => ?_
        try simp only [TUP_mk, AGG_mk, HD_mk, NL_mk, TYI_mk, TYB_mk, TYP_mk, TYL_mk, TYS_mk, TYM_mk, SO_mk, NX_mk, endK_mk, endK_mk', add_0]
        have e23 := e2.trans e3
        refine ANDS_i ⟨_, _, _, hA e23, _, _, _, hB e23, rfl⟩ ?_
        refine f_sum hok (hx.ext (ex.trans e23)) (hy.ext (ex.trans e23)) fun t4 e4 => ?_
        try simp only [TUP_mk, AGG_mk, HD_mk, NL_mk, TYI_mk, TYB_mk, TYP_mk, TYL_mk, TYS_mk, TYM_mk, SO_mk, NX_mk, endK_mk, endK_mk', add_0]
        rw [hsc, hb]
        refine fin t4 _ (e23.trans e4) (fun h4 => ?_) (fun h4 => ?_)
        · have : r < (firstL (clubsL T k)).2 := of_decide_eq_true h4
          rw [hcl, hs]; unfold minC; rw [if_pos this]
        · have : ¬ r < (firstL (clubsL T k)).2 := of_decide_eq_false h4
          rw [hcl, hs]; unfold minC; rw [if_neg this]
  · have hk5 : k = 5 := by omega
    subst hk5
    exact h t (e1.trans et)
end
end Go.Proofs.Ytfaeokcbfnlgbaa.G

/- The document's functions of layer 13: who is due which prize. -/
set_option linter.unusedSimpArgs false
set_option linter.unusedVariables false
set_option maxRecDepth 20000
namespace Go.Proofs.Ytfaeokcbfnlgbaa.G
open Go.V
def qP (T : PT) (k m : Nat) : Bool := canP T m k && ((decide ((T.pz k).kind ≠ 4) || ((T.man m).club == (bestP T).1)) && !tkF (dueL T k) m)
theorem giv_find (T : PT) (k : Nat) : givB T (bestP T) (fun m => !tkF (dueL T k) m) k = (ordP T).find? (qP T k) := by
  unfold givB
  by_cases h4 : (T.pz k).kind = 4
  · rw [if_pos h4]
    by_cases hb : bestP T = (0, 0)
    · rw [if_pos hb]
      symm
      rw [List.find?_eq_none]
      intro m hm
      have hz : (bestP T).1 = 0 := by rw [hb]
      unfold qP canP canK
      rw [h4, hz]
      by_cases hc : (T.man m).club = 0 <;> simp [hc]
    · rw [if_neg hb]
      unfold givF ordF
      rw [List.find?_filter]
      congr 1
      funext m
      unfold qP
      rw [h4]
      have key : ∀ a b c : Bool, decide ((!a && b) = true ∧ c = true) = (c && ((decide ((4 : Int) ≠ 4) || b) && !a)) := by
        intro a b c; cases a <;> cases b <;> cases c <;> rfl
      exact key _ _ _
  · rw [if_neg h4]
    unfold givF ordF
    rw [List.find?_filter]
    congr 1
    funext m
    unfold qP
    rw [decide_eq_true h4]
    have key : ∀ a b c : Bool, decide ((!a) = true ∧ c = true) = (c && ((true || b) && !a)) := by
      intro a b c; cases a <;> cases b <;> cases c <;> rfl
    exact key _ _ _
theorem mem_manL {l : List (Option Nat)} {m : Nat} : decide (((m : Nat) : Int) ∈ manL l) = tkF l m := by
  unfold tkF manL
  congr 1
  apply propext
  constructor
  · intro h
    obtain ⟨o, ho, e⟩ := List.mem_map.1 h
    cases o with
    | none => have : (-1 : Int) = (m : Nat) := e; omega
    | some i => have : ((i : Nat) : Int) = (m : Nat) := e
                have : i = m := by omega
                subst this; exact ho
  · exact fun h => List.mem_map.2 ⟨_, h, rfl⟩
section
variable {W : World} {K : VK} {E : List PanicEntry → Hp → Prop} {s : Hp} {T : PT}
theorem f_due {x y : Option Addr} {c c' : Nat} (hok : okP T = true) (hx : MnAt s x T.men) (hy : PzAt s y T.list) (h : ∀ s' q cq, Ext s s' → Fr s.size s' q T.z cq 1 (ints (manL (dueP T))) → K (.slice q T.z cq) s') : CALL Pg W F_ref13_due [.agg #[.slice x T.n c, .slice y T.z c']] K E s := by
  have hv := okP_vd hok
  have h8 := hv.n8
  have h6 := hv.z6
  refine does_ref13_due W x T.n c y T.z c' _ s ?_
  unfold T_ref13_due
  refine ne2 fun s1 e1 z1 o1 o2 => ?_
  have hA : ∀ {t'}, Ext s1 t' → cellAt t' (Addr.add ⟨s.size, 0, none⟩ 0) = some (.slice x T.n c) := fun e => e.cell o1.cell
  have hB : ∀ {t'}, Ext s1 t' → cellAt t' (Addr.add ⟨s.size, 0, none⟩ 1) = some (.slice y T.z c') := fun e => e.cell o2.cell
  refine L_ref13_due_0_rule W _ ⟨s.size, 0, none⟩ (fun x l c n t => Ext s1 t ∧ ∃ k : Nat, k ≤ T.z ∧ n = k ∧ Fr s1.size t x l c 1 (ints (manL (dueL T k)))) (fun _ _ _ n _ => (T.z - n).toNat) none 0 0 0 s1 ⟨Ext.refl _, 0, by omega, rfl, Fr.nil _ _ _⟩ ?_
  rintro qx ql qc n t ⟨et, k, hk, rfl, hfr⟩
  have hlen : ql = k := by have := hfr.len; rw [ints_len] at this; unfold manL at this; rw [List.length_map, dueL_len] at this; omega
  unfold B_ref13_due_0
  refine ⟨_, _, _, hB et, ?_⟩
  generalize hnx : (fun vs : List Value => _) = nx
  refine BR_dec (fun h1 => ?_) (fun h1 => ?_)
  · have hkz : k < T.z := by omega
    have hfull : ∀ w t', Ext t t' → (w = manI ((ordP T).find? (qP T k))) → (NEW 3 [(.int .i64 w)] fun B73 => APP Pg 3 1 qx ql qc (some ⟨B73, 0, none⟩) 1 fun x74 l75 c76 => NX [(.pointer (some ⟨s.size, 0, none⟩)), (.slice none 0 0), (.tuple #[])] [(.pointer (some ⟨s.size, 0, none⟩)), (.slice none 0 0), (.tuple #[])] (nx [(.slice x74 l75 c76), (.int .i64 (IntKind.wrap .i64 ((k : Int) + 1)))])) t' := by
      intro w t' e' hw
      refine ne1 fun t3 e3' z3' q3 => ?_
      have et3 := et.trans (e'.trans e3')
      refine APP_fr (lo := s1.size) (hfr.ext (e'.trans e3')) et3.1 (ws := [.int .i64 w]) (fun i hi => ⟨⟨t'.size, 0, none⟩, rfl, ?_⟩) rfl zc_3 rfl (by omega) (by simp [oneCell]) (by omega) fun t4 x4 c4 k4 hx4 g4 => ?_
      · have hi0 : i = 0 := by simp at hi; omega
        subst hi0; exact q3.cell
      have e4 : Ext s1 t4 := kp_nil et3 (fun b hb => by obtain ⟨y, hy, rfl⟩ := hb; exact hfr.fr y hy) k4
      rw [← hnx]
      refine ⟨rfl, _, _, _, _, rfl, ⟨e4, k + 1, hkz, wrap_succ (by omega), ?_⟩, ms_succ hkz (by omega)⟩
      have hd : dueL T (k + 1) = dueL T k ++ [(ordP T).find? (qP T k)] := by rw [← giv_find]; rfl
      rw [hd, manL_app, ints_app]
      have : manL [(ordP T).find? (qP T k)] = [w] := by rw [hw]; rfl
      rw [this]; exact g4
    have exh : ∀ t', Ext t t' → (∀ i, i < T.n → qP T k (idx T ((i + 1 : Nat) : Int)) = false) → (ordP T).find? (qP T k) = none := fun t' e' hno => by
      refine find_no fun j m hj hm => ?_
      rw [ord_len] at hj
      rw [ord_get hj] at hm
      cases hm
      exact hno j hj
    refine L_ref13_due_1_rule W _ nx ⟨s.size, 0, none⟩ qx ql qc k (fun w i t' => Ext t t' ∧ ∃ j : Nat, j ≤ T.n ∧ i = ((j + 1 : Nat) : Int) ∧ ((w = -1 ∧ ∀ i, i < j → qP T k (idx T ((i + 1 : Nat) : Int)) = false) ∨ ∃ m : Nat, w = (m : Nat) ∧ (ordP T).find? (qP T k) = some m)) (fun _ i _ => (T.n + 1 - i).toNat) (-1) 1 t ⟨Ext.refl _, 0, by omega, rfl, .inl ⟨rfl, fun i hi => by omega⟩⟩ ?_
    rintro w i t' ⟨e', j, hj, rfl, hw⟩
    unfold B_ref13_due_1
    have et' := et.trans e'
    refine ⟨_, _, _, hA et', ?_⟩
    -- it is over
    have over : (w < 0 → j = T.n) → J_ref13_due_4 W (endK K E) false ⟨s.size, 0, none⟩ ((j + 1 : Nat) : Int) k qx ql qc (fun vs => N_ref13_due_1 (fun w i t' => Ext t t' ∧ ∃ j : Nat, j ≤ T.n ∧ i = ((j + 1 : Nat) : Int) ∧ ((w = -1 ∧ ∀ i, i < j → qP T k (idx T ((i + 1 : Nat) : Int)) = false) ∨ ∃ m : Nat, w = (m : Nat) ∧ (ordP T).find? (qP T k) = some m)) (fun _ i _ => (T.n + 1 - i).toNat) w ((j + 1 : Nat) : Int) t' vs) w nx t' := by
      intro hov
      unfold J_ref13_due_4
      refine BR_ff rfl ?_
      refine hfull w t' e' ?_
      rcases hw with ⟨rfl, hno⟩ | ⟨m, rfl, hf⟩
      · have hjn := hov (by omega)
        subst hjn
        rw [exh t' e' hno]; rfl
      · rw [hf]; rfl
    refine BR_dec (fun h2 => ?_) (fun h2 => ?_)
    · have hjn : j < T.n := by omega
      rcases hw with ⟨rfl, hno⟩ | ⟨m, rfl, hf⟩
      · have hs := hv.sur ((j + 1 : Nat) : Int) (by omega) (by omega)
        generalize hnx1 : (fun vs : List Value => N_ref13_due_1 _ _ _ _ _ vs) = nx1
        unfold J_ref13_due_4
        refine BR_tt rfl ?_
        refine ⟨_, _, _, hA et', _, _, _, hB et', ?_⟩
        refine f_at (hx.ext (e1.trans et')) (hy.ext (e1.trans et')) (by omega) fun t2 e2 => ?_
        try simp only [TUP_mk, AGG_mk, HD_mk, NL_mk, TYI_mk, TYB_mk, TYP_mk, TYL_mk, TYS_mk, TYM_mk, SO_mk, NX_mk, endK_mk, endK_mk', add_0]
        rw [atL_idx hs.1]
        have hget := ord_get hjn
        generalize hm : idx T ((j + 1 : Nat) : Int) = m at *
        have et2 := et'.trans e2
        obtain ⟨ay, v0, v1, v2⟩ := pz_row (hy.ext (e1.trans et2)) hkz
        refine ⟨_, _, _, hB et2, ?_⟩
        refine IXS_at v0 hkz ?_
        refine ⟨_, v1, ?_⟩
        have hms : (T.n + 1 - (IntKind.i64.wrap (((j + 1 : Nat) : Int) + 1))).toNat < ((T.n : Int) + 1 - ((j + 1 : Nat) : Int)).toNat := by rw [wrap_succ (by omega)]; omega
        have yes : ∀ t3, Ext t' t3 → qP T k m = true → J_ref13_due_0 W (endK K E) ⟨s.size, 0, none⟩ qx ql qc k nx1 (m : Nat) ((j + 1 : Nat) : Int) t3 := by
          intro t3 e3 hq
          unfold J_ref13_due_0
          rw [← hnx1]
          refine ⟨rfl, _, _, rfl, ⟨e'.trans e3, j + 1, hjn, wrap_succ (by omega), .inr ⟨m, rfl, ?_⟩⟩, hms⟩
          refine find_at hget hq fun a x ha hx' => ?_
          rw [ord_get (by omega)] at hx'
          cases hx'
          exact hno a ha
        have nay : ∀ t3, Ext t' t3 → qP T k m = false → J_ref13_due_0 W (endK K E) ⟨s.size, 0, none⟩ qx ql qc k nx1 (-1) ((j + 1 : Nat) : Int) t3 := by
          intro t3 e3 hq
          unfold J_ref13_due_0
          rw [← hnx1]
          refine ⟨rfl, _, _, rfl, ⟨e'.trans e3, j + 1, hjn, wrap_succ (by omega), .inl ⟨rfl, fun i hi => ?_⟩⟩, hms⟩
          by_cases e : i = j
          · subst e; rw [hm]; exact hq
          · exact hno i (by omega)
        have clubs : ∀ t3 b, Ext t' t3 → b = (decide ((T.pz k).kind ≠ 4) || ((T.man m).club == (bestP T).1)) → J_ref13_due_3 W (endK K E) ⟨s.size, 0, none⟩ (m : Nat) k b qx ql qc nx1 ((j + 1 : Nat) : Int) (-1) t3 := by
          intro t3 b e3 hb
          unfold J_ref13_due_3
          have et3 := et'.trans e3
          refine ⟨_, _, _, hA et3, _, _, _, hB et3, ?_⟩
          refine f_can (hx.ext (e1.trans et3)) (hy.ext (e1.trans et3)) hs.1 hkz fun t4 e4 => ?_
          try simp only [TUP_mk, AGG_mk, HD_mk, NL_mk, TYI_mk, TYB_mk, TYP_mk, TYL_mk, TYS_mk, TYM_mk, SO_mk, NX_mk, endK_mk, endK_mk', add_0]
          have e34 := e3.trans e4
          refine BR_bool (fun h3 => ?_) (fun h3 => ?_)
          · unfold J_ref13_due_2
            refine BR_bool (fun h4 => ?_) (fun h4 => ?_)
            · refine f_has (hfr.ext (e'.trans e34)).row (by unfold manL; rw [List.length_map, dueL_len]; exact hlen) (by unfold manL; rw [List.length_map, dueL_len]; omega) ?_
              try simp only [TUP_mk, AGG_mk, HD_mk, NL_mk, TYI_mk, TYB_mk, TYP_mk, TYL_mk, TYS_mk, TYM_mk, SO_mk, NX_mk, endK_mk, endK_mk', add_0]
              rw [mem_manL]
              unfold J_ref13_due_1
              refine BR_not (fun h5 => ?_) (fun h5 => ?_)
              · refine yes t4 e34 ?_
                unfold qP; rw [h3, ← hb, h4, h5]; rfl
              · refine nay t4 e34 ?_
                unfold qP; rw [h3, ← hb, h4, h5]; rfl
            · unfold J_ref13_due_1
              refine BR_ff rfl (nay t4 e34 ?_)
              unfold qP; rw [h3, ← hb, h4]; rfl
          · unfold J_ref13_due_2
            refine BR_ff rfl ?_
            unfold J_ref13_due_1
            refine BR_ff rfl (nay t4 e34 ?_)
            unfold qP; rw [h3]; rfl
        refine BR_ne (fun h3 => ?_) (fun h3 => ?_)
        · refine clubs t2 _ e2 ?_
          rw [decide_eq_true h3]; rfl
        · obtain ⟨ax, w0, w1, w2, w3, w4⟩ := man_row (hx.ext (e1.trans et2)) hs.1
          refine ⟨_, _, _, hA et2, ?_⟩
          refine IXS_at w0 hs.1 ?_
          refine ⟨_, w2, _, _, _, hA et2, _, _, _, hB et2, ?_⟩
          refine f_best hok (hx.ext (e1.trans et2)) (hy.ext (e1.trans et2)) fun t3 e3 => ?_
          try simp only [TUP_mk, AGG_mk, HD_mk, NL_mk, TYI_mk, TYB_mk, TYP_mk, TYL_mk, TYS_mk, TYM_mk, SO_mk, NX_mk, endK_mk, endK_mk', add_0]
          refine ANDS_i ⟨_, e3.cell w2, rfl⟩ ?_
          refine ANDS_i ⟨_, _, _, hA (et2.trans e3), rfl⟩ ?_
          refine clubs t3 _ (e2.trans e3) ?_
          have : ¬ (T.pz k).kind ≠ 4 := fun hh => hh h3
          rw [decide_eq_false this, Bool.false_or]
      · have : decide (((m : Nat) : Int) < 0) = false := decide_eq_false (by omega)
        rw [this]
        exact over (fun hh => by omega)
    · exact over (fun _ => by omega)
  · have hkz : k = T.z := by omega
    subst hkz
    subst hlen
    exact h t qx qc (e1.trans et) (hfr.le e1.1)
end
end Go.Proofs.Ytfaeokcbfnlgbaa.G

/- Prize: Can, Due, Wrong, Club, Worth. -/
set_option linter.unusedSimpArgs false
set_option linter.unusedVariables false
set_option maxRecDepth 20000
namespace Go.Proofs.Ytfaeokcbfnlgbaa.G
open Go.V
def isM (T : PT) (i : Int) : Bool := decide (0 ≤ i ∧ i < T.n)
def isZ (T : PT) (i : Int) : Bool := decide (0 ≤ i ∧ i < T.z)
def canR (T : PT) (m z : Int) : Bool × Int := if okP T then (if isM T m && isZ T z then (canP T m.toNat z.toNat, 0) else (false, 2)) else (false, 1)
def dueR (T : PT) : List Int × Int := if okP T then (manL (dueP T), 0) else ([], 1)
def wrongP (T : PT) (l : List Int) : Int × Int × Int := match (List.range T.z).find? (fun i => l.getD i 0 != (manL (dueP T)).getD i 0) with | some i => (i, (manL (dueP T)).getD i 0, 0) | none => (0, 0, 4)
def wrongR (T : PT) (l : List Int) : Int × Int × Int := if okP T then (if gvP T l then wrongP T l else (0, 0, 2)) else (0, 0, 1)
def clubR (T : PT) : Int × Int × Int := if okP T then (if bestP T = (0, 0) then (0, 0, 4) else ((bestP T).1, (bestP T).2, 0)) else (0, 0, 1)
/-- Is a giving fair? -/
def fairP (T : PT) (l : List Int) : Bool := (List.range l.length).all fun i => (l.getD i 0 == -1) || canP T (l.getD i 0).toNat i
def worthR (T : PT) (l : List Int) : List Int × Int × Int := if okP T then (if gvP T l then (if fairP T l then (worP T l, (worP T l).sum, 0) else ([], 0, 4)) else ([], 0, 2)) else ([], 0, 1)
section
variable {W : World} {K : VK} {E : List PanicEntry → Hp → Prop} {s : Hp} {p : Addr} {T : PT}
theorem ep_ok {t : Hp} {C : Nat} {z : Value} {e : Int} {Kn : Int → Hp → Prop} (c0 : Own t ⟨C, 0, none⟩ z) (h : ∀ t', Kp (· = C) t t' → Kn e t') :
    (WR (Addr.add ⟨C, 0, none⟩ 0) (.int .i64 e) <| DEF Pg W (.tuple #[(.func (.func 42) #[] #[]), (.tuple #[(.pointer (some ⟨C, 0, none⟩))])]) none (RDI .i64 ⟨C, 0, none⟩ Kn)) t := by
  refine WR_own c0 rfl (def_none ?_)
  exact ⟨_, (own_set c0).cell, h _ (Kp.setC (Kp.refl _) (.inl rfl))⟩
theorem ep_err {t : Hp} {C : Nat} {z : Value} {e : Int} {Kn : Int → Hp → Prop} (c0 : Own t ⟨C, 0, none⟩ z) (h : ∀ t', Kp (· = C) t t' → Kn e t') :
    DEF Pg W (.tuple #[(.func (.func 42) #[] #[]), (.tuple #[(.pointer (some ⟨C, 0, none⟩))])]) (some (pn e)) (RDI .i64 ⟨C, 0, none⟩ Kn) t := by
  refine def_some c0 fun t' k o => ⟨_, o.cell, h t' k⟩
theorem c_Can {x y : Option Addr} {c c' : Nat} {m z : Int} (hx : MnAt s x T.men) (hy : PzAt s y T.list) (h : ∀ s', Ext s s' → K (.tuple #[.bool (canR T m z).1, .int .i64 (canR T m z).2]) s') :
    CALL Pg W F_prize_Can [.agg #[.slice x T.n c, .slice y T.z c'], .int .i64 m, .int .i64 z] K E s := by
  refine does_prize_Can W x T.n c y T.z c' m z _ s ?_
  unfold T_prize_Can
  refine ne2 fun s1 e1 z1 o1 o2 => ?_
  refine nz1 zc_29 fun s2 e2 z2 o3 => ?_
  have e02 := e1.trans e2
  refine ⟨_, _, _, e2.cell o1.cell, _, _, _, e2.cell o2.cell, ?_⟩
  have hs1 : s.size ≤ s1.size := e1.1
  refine c_open (hx.ext e02) (hy.ext e02) (fun hok s3 p e3 hp => ?_) (fun hok s3 e3 => ?_)
  · try simp only [TUP_mk, AGG_mk, HD_mk, NL_mk, TYI_mk, TYB_mk, TYP_mk, TYL_mk, TYS_mk, TYM_mk, SO_mk, NX_mk, endK_mk, endK_mk', add_0]
    have e03 := e02.trans e3
    refine c_isMan hp ?_
    try simp only [TUP_mk, AGG_mk, HD_mk, NL_mk, TYI_mk, TYB_mk, TYP_mk, TYL_mk, TYS_mk, TYM_mk, SO_mk, NX_mk, endK_mk, endK_mk', add_0]
    have fin : ∀ b, b = (isM T m && isZ T z) → J_prize_Can_0 W (endK K E) b (some p) m z s1.size s3 := by
      intro b hb
      unfold J_prize_Can_0
      refine c_must (fun h1 => ?_) (fun h1 => ?_)
      · try simp only [TUP_mk, AGG_mk, HD_mk, NL_mk, TYI_mk, TYB_mk, TYP_mk, TYL_mk, TYS_mk, TYM_mk, SO_mk, NX_mk, endK_mk, endK_mk', add_0]
        rw [hb] at h1
        have h2 := h1
        simp only [Bool.and_eq_true] at h1
        obtain ⟨g1, g2⟩ := h1
        obtain ⟨i, rfl⟩ := Int.eq_ofNat_of_zero_le (of_decide_eq_true g1).1
        obtain ⟨j, rfl⟩ := Int.eq_ofNat_of_zero_le (of_decide_eq_true g2).1
        have hi := (of_decide_eq_true g1).2
        have hj := (of_decide_eq_true g2).2
        refine c_can hp (by omega) (by omega) fun s4 e4 => ?_
        try simp only [TUP_mk, AGG_mk, HD_mk, NL_mk, TYI_mk, TYB_mk, TYP_mk, TYL_mk, TYS_mk, TYM_mk, SO_mk, NX_mk, endK_mk, endK_mk', add_0]
        refine ep_ok (e4.own (e3.own o3)) fun s5 k5 => ?_
        have := h s5 (ext_kp (e03.trans e4) hs1 k5)
        unfold canR at this
        rw [if_pos hok, h2] at this
        exact this
      · try simp only [TUP_mk, AGG_mk, HD_mk, NL_mk, TYI_mk, TYB_mk, TYP_mk, TYL_mk, TYS_mk, TYM_mk, SO_mk, NX_mk, endK_mk, endK_mk', add_0]
        refine ep_err (e3.own o3) fun s5 k5 => ?_
        have := h s5 (ext_kp e03 hs1 k5)
        unfold canR at this
        rw [if_pos hok, ← hb, h1] at this
        exact this
    refine BR_bool (fun h1 => ?_) (fun h1 => ?_)
    · refine c_isPrize hp ?_
      try simp only [TUP_mk, AGG_mk, HD_mk, NL_mk, TYI_mk, TYB_mk, TYP_mk, TYL_mk, TYS_mk, TYM_mk, SO_mk, NX_mk, endK_mk, endK_mk', add_0]
      refine fin _ ?_
      unfold isM isZ
      rw [h1]; rfl
    · refine fin _ ?_
      unfold isM
      rw [h1]; rfl
  · try simp only [TUP_mk, AGG_mk, HD_mk, NL_mk, TYI_mk, TYB_mk, TYP_mk, TYL_mk, TYS_mk, TYM_mk, SO_mk, NX_mk, endK_mk, endK_mk', add_0]
    refine ep_err (e3.own o3) fun s5 k5 => ?_
    have := h s5 (ext_kp (e02.trans e3) hs1 k5)
    unfold canR at this
    rw [hok] at this
    exact this
theorem c_Due {x y : Option Addr} {c c' : Nat} (hx : MnAt s x T.men) (hy : PzAt s y T.list) (h : ∀ s' q cq, Ext s s' → Fr s.size s' q (dueR T).1.length cq 1 (ints (dueR T).1) → K (.tuple #[.slice q (dueR T).1.length cq, .int .i64 (dueR T).2]) s') :
    CALL Pg W F_prize_Due [.agg #[.slice x T.n c, .slice y T.z c']] K E s := by
  refine does_prize_Due W x T.n c y T.z c' _ s ?_
  unfold T_prize_Due
  refine ne2 fun s1 e1 z1 o1 o2 => ?_
  refine nz1 zc_29 fun s2 e2 z2 o3 => ?_
  have e02 := e1.trans e2
  refine ⟨_, _, _, e2.cell o1.cell, _, _, _, e2.cell o2.cell, ?_⟩
  have hs1 : s.size ≤ s1.size := e1.1
  refine c_open (hx.ext e02) (hy.ext e02) (fun hok s3 p e3 hp => ?_) (fun hok s3 e3 => ?_)
  · try simp only [TUP_mk, AGG_mk, HD_mk, NL_mk, TYI_mk, TYB_mk, TYP_mk, TYL_mk, TYS_mk, TYM_mk, SO_mk, NX_mk, endK_mk, endK_mk', add_0]
    have e03 := e02.trans e3
    refine c_due hp fun s4 q cq e4 f4 => ?_
    try simp only [TUP_mk, AGG_mk, HD_mk, NL_mk, TYI_mk, TYB_mk, TYP_mk, TYL_mk, TYS_mk, TYM_mk, SO_mk, NX_mk, endK_mk, endK_mk', add_0]
    refine ep_ok (e4.own (e3.own o3)) fun s5 k5 => ?_
    have hlen : (dueR T).1.length = T.z := by unfold dueR manL dueP; rw [if_pos hok]; simp [dueL_len]
    have := h s5 q cq (ext_kp (e03.trans e4) hs1 k5) (by
      rw [hlen]
      unfold dueR
      rw [if_pos hok]
      have h3 : s1.size < s3.size := by have := e3.1; omega
      exact (f4.le e03.1).kp k5 (fun a ha hb => by have := f4.fr a ha; have : a.block = s1.size := hb; omega))
    rw [hlen] at this
    unfold dueR at this
    rw [if_pos hok] at this
    exact this
  · try simp only [TUP_mk, AGG_mk, HD_mk, NL_mk, TYI_mk, TYB_mk, TYP_mk, TYL_mk, TYS_mk, TYM_mk, SO_mk, NX_mk, endK_mk, endK_mk', add_0]
    refine ep_err (e3.own o3) fun s5 k5 => ?_
    have := h s5 none 0 (ext_kp (e02.trans e3) hs1 k5)
    unfold dueR at this
    rw [hok] at this
    exact this (Fr.nil _ _ _)
theorem c_Club {x y : Option Addr} {c c' : Nat} (hx : MnAt s x T.men) (hy : PzAt s y T.list) (h : ∀ s', Ext s s' → K (.tuple #[.int .i64 (clubR T).1, .int .i64 (clubR T).2.1, .int .i64 (clubR T).2.2]) s') :
    CALL Pg W F_prize_Club [.agg #[.slice x T.n c, .slice y T.z c']] K E s := by
  refine does_prize_Club W x T.n c y T.z c' _ s ?_
  unfold T_prize_Club
  refine ne2 fun s1 e1 z1 o1 o2 => ?_
  refine nz1 zc_29 fun s2 e2 z2 o3 => ?_
  have e02 := e1.trans e2
  refine ⟨_, _, _, e2.cell o1.cell, _, _, _, e2.cell o2.cell, ?_⟩
  have hs1 : s.size ≤ s1.size := e1.1
  refine c_open (hx.ext e02) (hy.ext e02) (fun hok s3 p e3 hp => ?_) (fun hok s3 e3 => ?_)
  · try simp only [TUP_mk, AGG_mk, HD_mk, NL_mk, TYI_mk, TYB_mk, TYP_mk, TYL_mk, TYS_mk, TYM_mk, SO_mk, NX_mk, endK_mk, endK_mk', add_0]
    have e03 := e02.trans e3
    refine c_best hp fun s4 e4 => ?_
    try simp only [TUP_mk, AGG_mk, HD_mk, NL_mk, TYI_mk, TYB_mk, TYP_mk, TYL_mk, TYS_mk, TYM_mk, SO_mk, NX_mk, endK_mk, endK_mk', add_0]
    refine nw2 zc_80 rfl rfl fun s5 e5 z5 q1 q2 => ?_
    refine ⟨_, q1.cell, _, q2.cell, ?_⟩
    have e05 := e03.trans (e4.trans e5)
    have o5 := e5.own (e4.own (e3.own o3))
    refine c_must (fun hb => ?_) (fun hb => ?_)
    · try simp only [TUP_mk, AGG_mk, HD_mk, NL_mk, TYI_mk, TYB_mk, TYP_mk, TYL_mk, TYS_mk, TYM_mk, SO_mk, NX_mk, endK_mk, endK_mk', add_0]
      refine ⟨_, q1.cell, _, q2.cell, ?_⟩
      refine ANDS_i ⟨_, q2.cell, rfl⟩ ?_
      refine ep_ok o5 fun s6 k6 => ?_
      have hne : ¬ bestP T = (0, 0) := fun hh => by rw [hh] at hb; simp at hb
      have := h s6 (ext_kp e05 hs1 k6)
      unfold clubR at this
      rw [if_pos hok, if_neg hne] at this
      exact this
    · try simp only [TUP_mk, AGG_mk, HD_mk, NL_mk, TYI_mk, TYB_mk, TYP_mk, TYL_mk, TYS_mk, TYM_mk, SO_mk, NX_mk, endK_mk, endK_mk', add_0]
      refine ep_err o5 fun s6 k6 => ?_
      have he : bestP T = (0, 0) := by
        simp only [Bool.not_eq_false', Bool.and_eq_true, beq_iff_eq] at hb
        exact Prod.ext hb.1 hb.2
      have := h s6 (ext_kp e05 hs1 k6)
      unfold clubR at this
      rw [if_pos hok, if_pos he] at this
      exact this
  · try simp only [TUP_mk, AGG_mk, HD_mk, NL_mk, TYI_mk, TYB_mk, TYP_mk, TYL_mk, TYS_mk, TYM_mk, SO_mk, NX_mk, endK_mk, endK_mk', add_0]
    refine ep_err (e3.own o3) fun s5 k5 => ?_
    have := h s5 (ext_kp (e02.trans e3) hs1 k5)
    unfold clubR at this
    rw [hok] at this
    exact this
theorem c_Wrong {x y q : Option Addr} {c c' cq : Nat} {ds : List Int} (hx : MnAt s x T.men) (hy : PzAt s y T.list) (hq : RowAt s q (ints ds)) (h : ∀ s', Ext s s' → K (.tuple #[.int .i64 (wrongR T ds).1, .int .i64 (wrongR T ds).2.1, .int .i64 (wrongR T ds).2.2]) s') :
    CALL Pg W F_prize_Wrong [.agg #[.slice x T.n c, .slice y T.z c'], .slice q ds.length cq] K E s := by
  refine does_prize_Wrong W x T.n c y T.z c' q ds.length cq _ s ?_
  unfold T_prize_Wrong
  refine ne2 fun s1 e1 z1 o1 o2 => ?_
  refine nz1 zc_29 fun s2 e2 z2 o3 => ?_
  have e02 := e1.trans e2
  refine ⟨_, _, _, e2.cell o1.cell, _, _, _, e2.cell o2.cell, ?_⟩
  have hs1 : s.size ≤ s1.size := e1.1
  refine c_open (hx.ext e02) (hy.ext e02) (fun hok s3 p e3 hp => ?_) (fun hok s3 e3 => ?_)
  · try simp only [TUP_mk, AGG_mk, HD_mk, NL_mk, TYI_mk, TYB_mk, TYP_mk, TYL_mk, TYS_mk, TYM_mk, SO_mk, NX_mk, endK_mk, endK_mk', add_0]
    have e03 := e02.trans e3
    refine c_giving hp (hq.ext e03) (fun hg s4 r cr e4 f4 => ?_) (fun hg s4 e4 => ?_)
    · try simp only [TUP_mk, AGG_mk, HD_mk, NL_mk, TYI_mk, TYB_mk, TYP_mk, TYL_mk, TYS_mk, TYM_mk, SO_mk, NX_mk, endK_mk, endK_mk', add_0]
      have e04 := e03.trans e4
      refine c_due (hp.ext e4) fun s5 w cw e5 f5 => ?_
      try simp only [TUP_mk, AGG_mk, HD_mk, NL_mk, TYI_mk, TYB_mk, TYP_mk, TYL_mk, TYS_mk, TYM_mk, SO_mk, NX_mk, endK_mk, endK_mk', add_0]
      have e05 := e04.trans e5
      have hz : ds.length = T.z := by unfold gvP at hg; simp only [Bool.and_eq_true, decide_eq_true_eq] at hg; exact hg.1
      have hv := okP_vd hok
      have h6 := hv.z6
      have hw : (manL (dueP T)).length = T.z := by unfold manL dueP; simp [dueL_len]
      have hR : wrongR T ds = wrongP T ds := by unfold wrongR; rw [if_pos hok, if_pos hg]
      rw [hR] at h
      have oB := e5.own (e4.own (e3.own o3))
      refine L_prize_Wrong_0_rule W _ ⟨s1.size, 0, none⟩ r ds.length cr w T.z cw T.z (fun n t => t = s5 ∧ ∃ k : Nat, k ≤ T.z ∧ n = k ∧ ∀ j, j < k → ds.getD j 0 = (manL (dueP T)).getD j 0) (fun n _ => (T.z - n).toNat) 0 s5 ⟨rfl, 0, by omega, rfl, fun j hj => by omega⟩ ?_
      rintro n t ⟨rfl, k, hk, rfl, hsame⟩
      unfold B_prize_Wrong_0
      refine BR_dec (fun hlt => ?_) (fun hlt => ?_)
      · have hkz : k < T.z := by omega
        obtain ⟨a, ha, g⟩ := row_int f5.row (by omega : k < (manL (dueP T)).length)
        refine IXS_at ha hkz ?_
        refine ⟨_, g, ?_⟩
        obtain ⟨b, hb, g'⟩ := row_int (f4.row.ext e5) (by omega : k < ds.length)
        refine IXS_at hb (by omega) ?_
        refine ⟨_, g', ?_⟩
        refine BR_ne (fun h3 => ?_) (fun h3 => ?_)
        · refine ep_ok oB fun t2 k2 => ?_
          have := h t2 (ext_kp e05 hs1 k2)
          have hf : (List.range T.z).find? (fun i => ds.getD i 0 != (manL (dueP T)).getD i 0) = some k := by
            refine find_at (k := k) (List.getElem?_range hkz) (bne_iff_ne.2 h3) fun j x hj hx => ?_
            have : x = j := by rw [List.getElem?_range (by omega)] at hx; exact (Option.some.inj hx).symm
            subst this
            rw [hsame x hj]; simp
          unfold wrongP at this
          rw [hf] at this
          exact this
        · refine ⟨rfl, _, rfl, ⟨rfl, k + 1, hkz, wrap_succ (by omega), fun j hj => ?_⟩, ms_succ hkz (by omega)⟩
          by_cases e : j = k
          · subst e; exact h3
          · exact hsame j (by omega)
      · have hkz : k = T.z := by omega
        subst hkz
        refine ep_ok oB fun t2 k2 => ?_
        have := h t2 (ext_kp e05 hs1 k2)
        have hf : (List.range T.z).find? (fun i => ds.getD i 0 != (manL (dueP T)).getD i 0) = none := by
          refine find_no fun j x hj hx => ?_
          rw [List.length_range] at hj
          have : x = j := by rw [List.getElem?_range hj] at hx; exact (Option.some.inj hx).symm
          subst this
          rw [hsame x hj]; simp
        unfold wrongP at this
        rw [hf] at this
        exact this
    · try simp only [TUP_mk, AGG_mk, HD_mk, NL_mk, TYI_mk, TYB_mk, TYP_mk, TYL_mk, TYS_mk, TYM_mk, SO_mk, NX_mk, endK_mk, endK_mk', add_0]
      refine ep_err (e4.own (e3.own o3)) fun s5 k5 => ?_
      have := h s5 (ext_kp (e03.trans e4) hs1 k5)
      unfold wrongR at this
      rw [if_pos hok, hg] at this
      exact this
  · try simp only [TUP_mk, AGG_mk, HD_mk, NL_mk, TYI_mk, TYB_mk, TYP_mk, TYL_mk, TYS_mk, TYM_mk, SO_mk, NX_mk, endK_mk, endK_mk', add_0]
    refine ep_err (e3.own o3) fun s5 k5 => ?_
    have := h s5 (ext_kp (e02.trans e3) hs1 k5)
    unfold wrongR at this
    rw [hok] at this
    exact this
theorem worP_bd (hok : okP T = true) {ds : List Int} (hl : ds.length = T.z) : ∀ x ∈ worP T ds, 0 ≤ x ∧ x ≤ 1000 := worL_bd (okP_vd hok) ds ds.length (by omega)
theorem worP_len {ds : List Int} : (worP T ds).length = T.n := worL_len _ _ _
theorem c_Worth {x y q : Option Addr} {c c' cq : Nat} {ds : List Int} (hx : MnAt s x T.men) (hy : PzAt s y T.list) (hq : RowAt s q (ints ds)) (h : ∀ s' w cw, Ext s s' → Fr s.size s' w (worthR T ds).1.length cw 1 (ints (worthR T ds).1) → K (.tuple #[.slice w (worthR T ds).1.length cw, .int .i64 (worthR T ds).2.1, .int .i64 (worthR T ds).2.2]) s') :
    CALL Pg W F_prize_Worth [.agg #[.slice x T.n c, .slice y T.z c'], .slice q ds.length cq] K E s := by
  refine does_prize_Worth W x T.n c y T.z c' q ds.length cq _ s ?_
  unfold T_prize_Worth
  refine ne2 fun s1 e1 z1 o1 o2 => ?_
  refine nz1 zc_29 fun s2 e2 z2 o3 => ?_
  have e02 := e1.trans e2
  refine ⟨_, _, _, e2.cell o1.cell, _, _, _, e2.cell o2.cell, ?_⟩
  have hs1 : s.size ≤ s1.size := e1.1
  refine c_open (hx.ext e02) (hy.ext e02) (fun hok s3 p e3 hp => ?_) (fun hok s3 e3 => ?_)
  · try simp only [TUP_mk, AGG_mk, HD_mk, NL_mk, TYI_mk, TYB_mk, TYP_mk, TYL_mk, TYS_mk, TYM_mk, SO_mk, NX_mk, endK_mk, endK_mk', add_0]
    have e03 := e02.trans e3
    have hs3 : s1.size < s3.size := by have := e3.1; omega
    refine c_giving hp (hq.ext e03) (fun hg s4 r cr e4 f4 => ?_) (fun hg s4 e4 => ?_)
    · try simp only [TUP_mk, AGG_mk, HD_mk, NL_mk, TYI_mk, TYB_mk, TYP_mk, TYL_mk, TYS_mk, TYM_mk, SO_mk, NX_mk, endK_mk, endK_mk', add_0]
      have e04 := e03.trans e4
      have hz : ds.length = T.z := by unfold gvP at hg; simp only [Bool.and_eq_true, decide_eq_true_eq] at hg; exact hg.1
      have hgs : gvS T [] ds = true := by unfold gvP at hg; simp only [Bool.and_eq_true, decide_eq_true_eq] at hg; exact hg.2
      have hall := gvS_all ds [] hgs
      have hv := okP_vd hok
      have h6 := hv.z6
      have h8 := hv.n8
      have hR : worthR T ds = if fairP T ds then (worP T ds, (worP T ds).sum, 0) else ([], 0, 4) := by unfold worthR; rw [if_pos hok, if_pos hg]
      refine L_prize_Worth_0_rule W _ ⟨s1.size, 0, none⟩ (some p) r ds.length cr ds.length (fun n t => Ext s4 t ∧ ∃ k : Nat, k ≤ ds.length ∧ n = k ∧ ∀ j, j < k → ((ds.getD j 0 == -1) || canP T (ds.getD j 0).toNat j) = true) (fun n _ => (ds.length - n).toNat) 0 s4 ⟨Ext.refl _, 0, by omega, rfl, fun j hj => by omega⟩ ?_
      rintro n t ⟨et, k, hk, rfl, hsame⟩
      unfold B_prize_Worth_0
      have oB := et.own (e4.own (e3.own o3))
      have e0t := e04.trans et
      refine BR_dec (fun hlt => ?_) (fun hlt => ?_)
      · have hkl : k < ds.length := by omega
        obtain ⟨a, ha, g⟩ := row_int (f4.row.ext et) hkl
        refine IXS_at ha hkl ?_
        refine ⟨_, g, ?_⟩
        have hdk := hall (ds.getD k 0) (by rw [getD_lt hkl]; exact List.getElem_mem hkl)
        generalize hnx : (fun vs : List Value => _) = nx
        have fin : ∀ t' b, Ext t t' → b = ((ds.getD k 0 == -1) || canP T (ds.getD k 0).toNat k) → J_prize_Worth_0 W (endK K E) b ⟨s1.size, 0, none⟩ (some p) r ds.length cr ds.length nx k t' := by
          intro t' b e' hb
          unfold J_prize_Worth_0
          refine c_must (fun h3 => ?_) (fun h3 => ?_)
          · try simp only [TUP_mk, AGG_mk, HD_mk, NL_mk, TYI_mk, TYB_mk, TYP_mk, TYL_mk, TYS_mk, TYM_mk, SO_mk, NX_mk, endK_mk, endK_mk', add_0]
            rw [← hnx]
            refine ⟨_, rfl, ⟨et.trans e', k + 1, hkl, wrap_succ (by omega), fun j hj => ?_⟩, ms_succ hkl (by omega)⟩
            by_cases e : j = k
            · subst e; rw [← hb]; exact h3
            · exact hsame j (by omega)
          · try simp only [TUP_mk, AGG_mk, HD_mk, NL_mk, TYI_mk, TYB_mk, TYP_mk, TYL_mk, TYS_mk, TYM_mk, SO_mk, NX_mk, endK_mk, endK_mk', add_0]
            refine ep_err (e'.own oB) fun t2 k2 => ?_
            have hf : fairP T ds = false := by
              unfold fairP
              rw [List.all_eq_false]
              exact ⟨k, List.mem_range.2 hkl, by rw [← hb, h3]; simp⟩
            have := h t2 none 0 (ext_kp (e0t.trans e') hs1 k2)
            rw [hR, hf] at this
            exact this (Fr.nil _ _ _)
        refine BR_eq (fun h3 => ?_) (fun h3 => ?_)
        · refine fin t _ (Ext.refl _) ?_
          rw [h3]; rfl
        · have hdk' := hdk.resolve_left h3
          have hb0 : (ds.getD k 0 == -1) = false := by simpa using h3
          generalize hdd : ds.getD k 0 = d at *
          obtain ⟨m, rfl⟩ := Int.eq_ofNat_of_zero_le hdk'.1
          refine c_can (hp.ext (e4.trans et)) (by omega) (by omega) fun t2 e2' => ?_
          try simp only [TUP_mk, AGG_mk, HD_mk, NL_mk, TYI_mk, TYB_mk, TYP_mk, TYL_mk, TYS_mk, TYM_mk, SO_mk, NX_mk, endK_mk, endK_mk', add_0]
          refine fin t2 _ e2' ?_
          rw [hb0]; rfl
      · have hkl : k = ds.length := by omega
        subst hkl
        have hf : fairP T ds = true := by
          unfold fairP
          rw [List.all_eq_true]
          intro j hj
          exact hsame j (List.mem_range.1 hj)
        refine c_worths (hp.ext (e4.trans et)) (f4.row.ext et) hz hall fun t2 w cw e2' f2 => ?_
        try simp only [TUP_mk, AGG_mk, HD_mk, NL_mk, TYI_mk, TYB_mk, TYP_mk, TYL_mk, TYS_mk, TYM_mk, SO_mk, NX_mk, endK_mk, endK_mk', add_0]
        refine c_total f2.row worP_len.symm (fun n hn => worP_bd hok hz n hn) (by rw [worP_len]; omega) ?_
        try simp only [TUP_mk, AGG_mk, HD_mk, NL_mk, TYI_mk, TYB_mk, TYP_mk, TYL_mk, TYS_mk, TYM_mk, SO_mk, NX_mk, endK_mk, endK_mk', add_0]
        refine ep_ok (e2'.own oB) fun t3 k3 => ?_
        rw [hR, hf] at h
        have := h t3 w cw (ext_kp (e0t.trans e2') hs1 k3)
        simp only [if_true] at this
        rw [worP_len] at this
        have h4 : s3.size ≤ t.size := Nat.le_trans e4.1 et.1
        refine this ((f2.le e0t.1).kp k3 (fun a ha hb => ?_))
        have := f2.fr a ha
        have : a.block = s1.size := hb
        omega
    · try simp only [TUP_mk, AGG_mk, HD_mk, NL_mk, TYI_mk, TYB_mk, TYP_mk, TYL_mk, TYS_mk, TYM_mk, SO_mk, NX_mk, endK_mk, endK_mk', add_0]
      refine ep_err (e4.own (e3.own o3)) fun s5 k5 => ?_
      have := h s5 none 0 (ext_kp (e03.trans e4) hs1 k5)
      unfold worthR at this
      rw [if_pos hok, hg] at this
      exact this (Fr.nil _ _ _)
  · try simp only [TUP_mk, AGG_mk, HD_mk, NL_mk, TYI_mk, TYB_mk, TYP_mk, TYL_mk, TYS_mk, TYM_mk, SO_mk, NX_mk, endK_mk, endK_mk', add_0]
    refine ep_err (e3.own o3) fun s5 k5 => ?_
    have := h s5 none 0 (ext_kp (e02.trans e3) hs1 k5)
    unfold worthR at this
    rw [hok] at this
    exact this (Fr.nil _ _ _)
end
end Go.Proofs.Ytfaeokcbfnlgbaa.G
