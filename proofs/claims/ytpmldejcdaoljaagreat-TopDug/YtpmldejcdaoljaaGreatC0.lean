import Derived.CallsIn
import Derived.RangeFuncLeaves
import Derived.Laws.Sem
import Derived.KernelRfl
import Derived.Laws.StructEq
import Derived.ChangeKeysEq
import Derived.TacticsIn
import Derived.OrdersIn
import Derived.Sort.LoopGhostIn
/- Lemmas: contracts over the visible heap, and that they are sound; no condition. -/
set_option linter.unusedSimpArgs false
set_option linter.unusedVariables false
namespace Go.V
abbrev Hp := Array Obj
abbrev Tm := Nat → Value
def junk : Obj := .deferred none
def wat (W : World) (h : Hp) (d : Nat) : World := { W with heap := h, drawn := d }
def hidden : Obj → Bool
  | .loop _ | .deferred _ => true
  | _ => false
def isCells : Obj → Bool
  | .cells .. => true
  | _ => false
structure Vis (X : Nat → Prop) (h s : Hp) : Prop where
  size : s.size = h.size
  same : ∀ b, ¬ X b → s[b]? = h[b]?
  junk : ∀ b, X b → s[b]? = some junk
  hid : ∀ b, X b → ∃ o, h[b]? = some o ∧ hidden o = true
structure Ev (X : Nat → Prop) (h : Hp) (X' : Nat → Prop) (h' : Hp) : Prop where
  size : h.size ≤ h'.size
  sub : ∀ b, X b → X' b
  new : ∀ b, X' b → X b ∨ h.size ≤ b
  keep : ∀ b, X b → h'[b]? = h[b]?
theorem Ev.refl (X : Nat → Prop) (h : Hp) : Ev X h X h := ⟨Nat.le_refl _, fun _ h => h, fun _ h => .inl h, fun _ _ => rfl⟩
theorem Ev.trans {X X' X'' : Nat → Prop} {h h' h'' : Hp} (a : Ev X h X' h') (b : Ev X' h' X'' h'') : Ev X h X'' h'' where
  size := Nat.le_trans a.size b.size
  sub := fun x hx => b.sub x (a.sub x hx)
  new := fun x hx => (b.new x hx).elim (fun h => a.new x h) (fun h => .inr (Nat.le_trans a.size h))
  keep := fun x hx => (b.keep x (a.sub x hx)).trans (a.keep x hx)
def cellAt (s : Hp) (a : Addr) : Option Value :=
  match s[a.block]? with
  | some (.cells c _ _) => if a.spot.isSome then none else c[a.off]?
  | _ => none
def frozenAt (s : Hp) (a : Addr) : Bool :=
  match s[a.block]? with
  | some (.cells _ _ (lo, hi)) => lo ≤ a.off && a.off < hi
  | _ => false
def shapeAt (s : Hp) (r : Nat) : Option (TypeId × Nat) :=
  match s[r]? with
  | some (.cells c elem _) => some (elem, c.size)
  | _ => none
def setC (s : Hp) (a : Addr) (v : Value) : Hp :=
  s.modify a.block fun
      | .cells c elem frozen => .cells (if a.spot.isSome then c else c.setIfInBounds a.off v) elem frozen
      | o => o
def frzO (a : Addr) (n : Nat) : Obj → Obj
  | .cells c elem (lo, hi) => .cells c elem (if lo == hi then (a.off, a.off + n) else (min lo a.off, max hi (a.off + n)))
  | o => o
def frz (s : Hp) (a : Addr) (n : Nat) : Hp := if n = 0 then s else s.modify a.block (frzO a n)
theorem wat_frz (W : World) (h : Hp) (d : Nat) (a : Addr) (n : Nat) : (wat W h d).freeze a n = wat W (frz h a n) d := by
  unfold World.freeze frz
  by_cases hn : n = 0
  · rw [if_pos hn, if_pos hn]
  · rw [if_neg hn, if_neg hn]
    unfold wat
    congr 1
theorem wat_cell (W : World) (h : Hp) (d : Nat) (a : Addr) : (wat W h d).cell? a = cellAt h a := rfl
theorem wat_frozen (W : World) (h : Hp) (d : Nat) (a : Addr) : (wat W h d).frozen? a = frozenAt h a := rfl
theorem wat_shape (W : World) (h : Hp) (d : Nat) (r : Nat) : (wat W h d).shape? r = shapeAt h r := rfl
theorem wat_set (W : World) (h : Hp) (d : Nat) (a : Addr) (v : Value) : (wat W h d).setCell a v = wat W (setC h a v) d := rfl
section
variable {X : Nat → Prop} {h s : Hp}
theorem Vis.not_mem (v : Vis X h s) {b : Nat} {o : Obj} (hb : s[b]? = some o) (ho : hidden o = false) : ¬ X b := fun hx => by
  rw [v.junk b hx] at hb; cases hb; cases ho
theorem Vis.get (v : Vis X h s) {b : Nat} {o : Obj} (hb : s[b]? = some o) (ho : hidden o = false) : h[b]? = some o :=
  (v.same b (v.not_mem hb ho)).symm.trans hb
theorem Vis.lt (v : Vis X h s) {b : Nat} (hx : X b) : b < h.size := by
  obtain ⟨o, ho, _⟩ := v.hid b hx
  exact (Array.getElem?_eq_some_iff.1 ho).1
theorem Vis.refl (h : Hp) : Vis (fun _ => False) h h := ⟨rfl, fun _ _ => rfl, fun _ hx => hx.elim, fun _ hx => hx.elim⟩
theorem Vis.masked (v : Vis X h s) {b : Nat} (hx : X b) : ∀ c t f, h[b]? ≠ some (.cells c t f) := fun c t f hb => by
  obtain ⟨o, ho, hh⟩ := v.hid b hx
  rw [hb] at ho; cases ho; cases hh
theorem Vis.cell (v : Vis X h s) (a : Addr) : cellAt s a = cellAt h a := by
  by_cases hx : X a.block
  · have h1 := v.junk _ hx
    have h2 := v.masked hx
    unfold cellAt
    rw [h1]
    cases hb : h[a.block]? with
    | none => rfl
    | some o => cases o <;> first | rfl | (exact absurd hb (h2 _ _ _))
  · unfold cellAt; rw [v.same _ hx]
theorem Vis.frozen (v : Vis X h s) (a : Addr) : frozenAt s a = frozenAt h a := by
  by_cases hx : X a.block
  · have h1 := v.junk _ hx
    have h2 := v.masked hx
    unfold frozenAt
    rw [h1]
    cases hb : h[a.block]? with
    | none => rfl
    | some o => cases o <;> first | rfl | (exact absurd hb (h2 _ _ _))
  · unfold frozenAt; rw [v.same _ hx]
theorem Vis.shape (v : Vis X h s) (r : Nat) : shapeAt s r = shapeAt h r := by
  by_cases hx : X r
  · have h1 := v.junk _ hx
    have h2 := v.masked hx
    unfold shapeAt
    rw [h1]
    cases hb : h[r]? with
    | none => rfl
    | some o => cases o <;> first | rfl | (exact absurd hb (h2 _ _ _))
  · unfold shapeAt; rw [v.same _ hx]
theorem Vis.push (v : Vis X h s) (o : Obj) : Vis X (h.push o) (s.push o) where
  size := by simp [v.size]
  same := fun b hb => by
    rw [Array.getElem?_push, Array.getElem?_push, v.size]
    split
    · rfl
    · exact v.same b hb
  junk := fun b hb => by
    have := v.lt hb
    rw [Array.getElem?_push, v.size, if_neg (by omega)]
    exact v.junk b hb
  hid := fun b hb => by
    have := v.lt hb
    rw [Array.getElem?_push, if_neg (by omega)]
    exact v.hid b hb
theorem Ev.push (v : Vis X h s) (o : Obj) : Ev X h X (h.push o) where
  size := by simp
  sub := fun _ h => h
  new := fun _ h => .inl h
  keep := fun b hb => by
    have := v.lt hb
    rw [Array.getElem?_push, if_neg (by omega)]
theorem frz_get (s : Hp) (a : Addr) (n b : Nat) : (frz s a n)[b]? = if n = 0 ∨ b ≠ a.block then s[b]? else s[b]?.map (frzO a n) := by
  unfold frz
  by_cases hn : n = 0
  · simp [hn]
  · rw [if_neg hn, Array.getElem?_modify]
    by_cases hb : b = a.block
    · subst hb; simp [hn]
    · rw [if_neg (fun e => hb e.symm), if_pos (.inr hb)]
theorem frz_size (s : Hp) (a : Addr) (n : Nat) : (frz s a n).size = s.size := by unfold frz; split <;> simp
theorem Vis.frz (v : Vis X h s) (a : Addr) (n : Nat) : Vis X (frz h a n) (frz s a n) ∧ Ev X h X (Go.V.frz h a n) := by
  have keep : ∀ b, X b → (Go.V.frz h a n)[b]? = h[b]? := fun b hb => by
    obtain ⟨o, ho, hh⟩ := v.hid b hb
    rw [frz_get, ho]
    cases o <;> first | (simp [hidden] at hh; done) | (simp [frzO])
  refine ⟨⟨by rw [frz_size, frz_size, v.size], fun b hb => by rw [frz_get, frz_get, v.same b hb], fun b hb => ?_, fun b hb => by rw [keep b hb]; exact v.hid b hb⟩, ⟨by rw [frz_size]; exact Nat.le_refl _, fun _ h => h, fun _ h => .inl h, keep⟩⟩
  rw [frz_get, v.junk b hb]
  simp [Go.V.junk, frzO]
theorem setC_get (s : Hp) (a : Addr) (v : Value) {b : Nat} (h : b ≠ a.block) : (setC s a v)[b]? = s[b]? := by
  unfold setC; rw [Array.getElem?_modify, if_neg (fun e => h e.symm)]
theorem setC_size (s : Hp) (a : Addr) (v : Value) : (setC s a v).size = s.size := by simp [setC]
theorem block_of_cell {s : Hp} {a : Addr} {v : Value} (h : cellAt s a = some v) : ∃ c t f, s[a.block]? = some (.cells c t f) := by
  unfold cellAt at h
  cases hb : s[a.block]? with
  | none => simp [hb] at h
  | some o => cases o <;> first | (simp [hb] at h; done) | exact ⟨_, _, _, rfl⟩
theorem Vis.setCell (v : Vis X h s) {a : Addr} {x : Value} (hx : cellAt s a = some x) (y : Value) : Vis X (setC h a y) (setC s a y) ∧ Ev X h X (setC h a y) := by
  obtain ⟨c, t, f, hb⟩ := block_of_cell hx
  have hn := v.not_mem hb rfl
  refine ⟨⟨by simp [setC_size, v.size], fun b hb' => ?_, fun b hb' => ?_, fun b hb' => ?_⟩, ⟨by simp [setC_size], fun _ h => h, fun _ h => .inl h, fun b hb' => ?_⟩⟩
  · by_cases e : b = a.block
    · subst e
      unfold setC
      rw [Array.getElem?_modify, Array.getElem?_modify, if_pos rfl, if_pos rfl, v.same _ hn]
    · rw [setC_get _ _ _ e, setC_get _ _ _ e]; exact v.same b hb'
  · rw [setC_get _ _ _ (fun e => hn (e ▸ hb'))]; exact v.junk b hb'
  · rw [setC_get _ _ _ (fun e => hn (e ▸ hb'))]; exact v.hid b hb'
  · exact setC_get _ _ _ (fun e => hn (e ▸ hb'))
theorem Vis.setObj (v : Vis X h s) {r : Nat} (hn : ¬ X r) (o : Obj) : Vis X (h.setIfInBounds r o) (s.setIfInBounds r o) ∧ Ev X h X (h.setIfInBounds r o) := by
  refine ⟨⟨by simp [v.size], fun b hb' => ?_, fun b hb' => ?_, fun b hb' => ?_⟩, ⟨by simp, fun _ h => h, fun _ h => .inl h, fun b hb' => ?_⟩⟩
  · rw [Array.getElem?_setIfInBounds, Array.getElem?_setIfInBounds, v.size]
    split
    · rfl
    · exact v.same b hb'
  · rw [Array.getElem?_setIfInBounds_ne (fun e => hn (by rw [e]; exact hb'))]; exact v.junk b hb'
  · rw [Array.getElem?_setIfInBounds_ne (fun e => hn (by rw [e]; exact hb'))]; exact v.hid b hb'
  · exact Array.getElem?_setIfInBounds_ne (fun e => hn (by rw [e]; exact hb'))
end
def oneCell : Value → Bool
  | .agg _ | .tuple _ => false
  | _ => true
def sp (P : Program) {α : Type} : Sem α → (α → Hp → Prop) → (Value → Hp → Prop) → Hp → Prop
  | .pure a, K, _ => K a
  | .load _ a k, K, E => fun s => ∃ v, cellAt s a = some v ∧ sp P (k v) K E s
  | .store _ a v k, K, E => fun s => (oneCell v = true ∧ (∃ x, cellAt s a = some x) ∧ frozenAt s a = false) ∧ sp P k K E (setC s a v)
  | .new o k, K, E => fun s => sp P (k s.size) K E (s.push o)
  | .shape r k, K, E => fun s => sp P (k (shapeAt s r)) K E s
  | .freeze a n k, K, E => fun s => sp P k K E (frz s a n)
  | .frozen a k, K, E => fun s => sp P (k (frozenAt s a)) K E s
  | .getObj r k, K, E => fun s => ∃ o, s[r]? = some o ∧ hidden o = false ∧ isCells o = false ∧ sp P (k o) K E s
  | .setObj r o k, K, E => fun s => (∃ o', s[r]? = some o' ∧ hidden o' = false ∧ isCells o' = false) ∧ sp P k K E (s.setIfInBounds r o)
  | .choose q k, K, E => fun s => if q.forced then sp P (k 0) K E s else ∀ n, sp P (k (q.cut n)) K E s
  | .sys .., _, _ => fun _ => False
  | .program k, K, E => sp P (k P) K E
  | .mark _ k, K, E => sp P k K E
  | .halt (.panic v), _, E => E v
  | .halt _, _, _ => fun _ => False
def Came (W : World) (X : Nat → Prop) (h : Hp) {α : Type} (K : α → Hp → Prop) (E : Value → Hp → Prop) : Result α → Prop
  | .ok a w' => ∃ h' d' s', w' = wat W h' d' ∧ Vis X h' s' ∧ Ev X h X h' ∧ K a s'
  | .halt (.panic v) w' => ∃ h' d' s', w' = wat W h' d' ∧ Vis X h' s' ∧ Ev X h X h' ∧ E v s'
  | .halt _ _ => False
theorem Came.ev {W : World} {X : Nat → Prop} {h h' : Hp} {α : Type} {K : α → Hp → Prop} {E : Value → Hp → Prop} {r : Result α} (e : Ev X h X h') (c : Came W X h' K E r) : Came W X h K E r := by
  cases r with
  | ok a w =>
    obtain ⟨h2, d, s, a1, a2, a3, a4⟩ := c
    exact ⟨h2, d, s, a1, a2, e.trans a3, a4⟩
  | halt x w =>
    cases x <;> first
      | exact c.elim
      | (obtain ⟨h2, d, s, a1, a2, a3, a4⟩ := c; exact ⟨h2, d, s, a1, a2, e.trans a3, a4⟩)
theorem sp_sound (P : Program) (W : World) {α : Type} (e : Sem α) (K : α → Hp → Prop) (E : Value → Hp → Prop) (X : Nat → Prop) :
    ∀ (h : Hp) (d : Nat) (s : Hp), Vis X h s → sp P e K E s → Came W X h K E (e.run P (wat W h d)) := by
  induction e with
  | pure a => exact fun h d s v hs => ⟨h, d, s, rfl, v, Ev.refl X h, hs⟩
  | load m a k ih =>
    intro h d s v ⟨x, hx, hs⟩
    simp only [Sem.run, wat_cell, ← v.cell, hx]
    exact ih x h d s v hs
  | store m a x k ih =>
    intro h d s v ⟨⟨h1, ⟨y, hy⟩, hf⟩, hs⟩
    obtain ⟨v', ev⟩ := v.setCell hy x
    have := (ih (setC h a x) d (setC s a x) v' hs).ev ev
    cases x <;> first
      | (simp [oneCell] at h1; done)
      | (simp only [Sem.run, wat_cell, wat_frozen, ← v.cell, ← v.frozen, hy, hf, wat_set]; simpa using this)
  | new o k ih =>
    intro h d s v hs
    simp only [Sem.run]
    have := (ih s.size (h.push o) d (s.push o) (v.push o) hs).ev (Ev.push v o)
    rw [show (wat W h d).heap.size = s.size from v.size.symm]
    exact this
  | shape r k ih =>
    intro h d s v hs
    simp only [Sem.run, wat_shape, ← v.shape]
    exact ih _ h d s v hs
  | freeze a n k ih =>
    intro h d s v hs
    obtain ⟨v', ev⟩ := v.frz a n
    have := (ih (frz h a n) d (frz s a n) v' hs).ev ev
    simp only [Sem.run, wat_frz]
    exact this
  | frozen a k ih =>
    intro h d s v hs
    simp only [Sem.run, wat_frozen, ← v.frozen]
    exact ih _ h d s v hs
  | getObj r k ih =>
    intro h d s v ⟨o, ho, hh, hc, hs⟩
    have hg : (wat W h d).heap[r]? = some o := v.get ho hh
    have := ih o h d s v hs
    cases o <;> first
      | (simp [isCells] at hc; done)
      | (simp only [Sem.run, hg]; exact this)
  | setObj r o k ih =>
    intro h d s v ⟨⟨o', ho, hh, hc⟩, hs⟩
    have hn := v.not_mem ho hh
    have hg : (wat W h d).heap[r]? = some o' := v.get ho hh
    obtain ⟨v', ev⟩ := v.setObj hn o
    have := (ih (h.setIfInBounds r o) d (s.setIfInBounds r o) v' hs).ev ev
    cases o' <;> first
      | (simp [isCells] at hc; done)
      | (simp only [Sem.run, hg]; exact this)
  | choose q k ih =>
    intro h d s v hs
    simp only [sp] at hs
    simp only [Sem.run]
    split
    · rename_i hq; rw [if_pos hq] at hs; exact ih 0 h d s v hs
    · rename_i hq; rw [if_neg hq] at hs; exact ih _ h (d + 1) s v (hs _)
  | sys c k ih => exact fun h d s v hs => hs.elim
  | program k ih => exact fun h d s v hs => ih P h d s v hs
  | mark m k ih => exact fun h d s v hs => ih h d s v hs
  | halt x =>
    intro h d s v hs
    cases x <;> first
      | exact hs.elim
      | exact ⟨h, d, s, rfl, v, Ev.refl X h, hs⟩
theorem sp_bind (P : Program) {α β : Type} (e : Sem α) (f : α → Sem β) (K : β → Hp → Prop) (E : Value → Hp → Prop) (s : Hp) :
    sp P (e >>= f) K E s = sp P e (fun a s' => sp P (f a) K E s') E s := by
  show sp P (e.bind f) K E s = _
  induction e generalizing s with
  | pure a => rfl
  | load m a k ih => simp only [Sem.bind, sp, ih]
  | store m a v k ih => simp only [Sem.bind, sp, ih]
  | new o k ih => simp only [Sem.bind, sp, ih]
  | shape r k ih => simp only [Sem.bind, sp, ih]
  | freeze a n k ih => simp only [Sem.bind, sp, ih]
  | frozen a k ih => simp only [Sem.bind, sp, ih]
  | getObj r k ih => simp only [Sem.bind, sp, ih]
  | setObj r o k ih => simp only [Sem.bind, sp, ih]
  | choose q k ih => simp only [Sem.bind, sp, ih]
  | sys c k ih => rfl
  | program k ih => simp only [Sem.bind, sp, ih]
  | mark m k ih => simp only [Sem.bind, sp, ih]
  | halt x => cases x <;> rfl
theorem sp_pure (P : Program) {α : Type} (a : α) (K : α → Hp → Prop) (E : Value → Hp → Prop) (s : Hp) : sp P (Pure.pure a) K E s = K a s := rfl
def spq (P : Program) {α : Type} : Sem α → (α → Prop) → Hp → Prop
  | .pure a, K => fun _ => K a
  | .load _ a k, K => fun s => ∃ v, cellAt s a = some v ∧ spq P (k v) K s
  | .shape r k, K => fun s => spq P (k (shapeAt s r)) K s
  | .frozen a k, K => fun s => spq P (k (frozenAt s a)) K s
  | .getObj r k, K => fun s => ∃ o, s[r]? = some o ∧ hidden o = false ∧ isCells o = false ∧ spq P (k o) K s
  | .program k, K => spq P (k P) K
  | .mark _ k, K => spq P k K
  | _, _ => fun _ => False
theorem spq_sound (P : Program) (W : World) {α : Type} (e : Sem α) (K : α → Prop) (s : Hp) : spq P e K s →
    ∃ a, K a ∧ ∀ (X : Nat → Prop) (h : Hp) (d : Nat), Vis X h s → e.run P (wat W h d) = .ok a (wat W h d) := by
  induction e with
  | pure a => exact fun hs => ⟨a, hs, fun _ _ _ _ => rfl⟩
  | load m a k ih =>
    intro ⟨x, hx, hs⟩
    obtain ⟨b, hk, hr⟩ := ih x hs
    exact ⟨b, hk, fun X h d v => by simp only [Sem.run, wat_cell, ← v.cell, hx]; exact hr X h d v⟩
  | shape r k ih =>
    intro hs
    obtain ⟨b, hk, hr⟩ := ih _ hs
    exact ⟨b, hk, fun X h d v => by simp only [Sem.run, wat_shape, ← v.shape]; exact hr X h d v⟩
  | frozen a k ih =>
    intro hs
    obtain ⟨b, hk, hr⟩ := ih _ hs
    exact ⟨b, hk, fun X h d v => by simp only [Sem.run, wat_frozen, ← v.frozen]; exact hr X h d v⟩
  | getObj r k ih =>
    intro ⟨o, ho, hh, hc, hs⟩
    obtain ⟨b, hk, hr⟩ := ih o hs
    refine ⟨b, hk, fun X h d v => ?_⟩
    have hg : (wat W h d).heap[r]? = some o := v.get ho hh
    have := hr X h d v
    cases o <;> first
      | (simp [isCells] at hc; done)
      | (simp only [Sem.run, hg]; exact this)
  | program k ih =>
    intro hs
    obtain ⟨b, hk, hr⟩ := ih P hs
    exact ⟨b, hk, fun X h d v => hr X h d v⟩
  | mark m k ih =>
    intro hs
    obtain ⟨b, hk, hr⟩ := ih hs
    exact ⟨b, hk, fun X h d v => hr X h d v⟩
  | store => exact fun hs => hs.elim
  | new => exact fun hs => hs.elim
  | freeze => exact fun hs => hs.elim
  | setObj => exact fun hs => hs.elim
  | choose => exact fun hs => hs.elim
  | sys => exact fun hs => hs.elim
  | halt => exact fun hs => hs.elim
theorem spq_bind (P : Program) {α β : Type} (e : Sem α) (f : α → Sem β) (K : β → Prop) (s : Hp) :
    spq P (e >>= f) K s = spq P e (fun a => spq P (f a) K s) s := by
  show spq P (e.bind f) K s = _
  induction e with
  | pure a => rfl
  | load m a k ih => simp only [Sem.bind, spq, ih]
  | store m a v k ih => rfl
  | new o k ih => rfl
  | shape r k ih => simp only [Sem.bind, spq, ih]
  | freeze a n k ih => rfl
  | frozen a k ih => simp only [Sem.bind, spq, ih]
  | getObj r k ih => simp only [Sem.bind, spq, ih]
  | setObj r o k ih => rfl
  | choose q k ih => rfl
  | sys c k ih => rfl
  | program k ih => simp only [Sem.bind, spq, ih]
  | mark m k ih => simp only [Sem.bind, spq, ih]
  | halt x => rfl
theorem spq_pure (P : Program) {α : Type} (a : α) (K : α → Prop) (s : Hp) : spq P (Pure.pure a : Sem α) K s = K a := rfl
theorem sp_of_spq (P : Program) {α : Type} (e : Sem α) (K : α → Hp → Prop) (E : Value → Hp → Prop) (s : Hp) : spq P e (fun a => K a s) s → sp P e K E s := by
  induction e with
  | pure a => exact id
  | load m a k ih => exact fun ⟨v, hv, hs⟩ => ⟨v, hv, ih v hs⟩
  | shape r k ih => exact fun hs => ih _ hs
  | frozen a k ih => exact fun hs => ih _ hs
  | getObj r k ih => exact fun ⟨o, ho, hh, hc, hs⟩ => ⟨o, ho, hh, hc, ih o hs⟩
  | program k ih => exact fun hs => ih P hs
  | mark m k ih => exact fun hs => ih hs
  | store => exact fun hs => hs.elim
  | new => exact fun hs => hs.elim
  | freeze => exact fun hs => hs.elim
  | setObj => exact fun hs => hs.elim
  | choose => exact fun hs => hs.elim
  | sys => exact fun hs => hs.elim
  | halt => exact fun hs => hs.elim
theorem spq_mono (P : Program) {α : Type} (e : Sem α) {K K' : α → Prop} (s : Hp) (hk : ∀ a, K a → K' a) : spq P e K s → spq P e K' s := by
  induction e with
  | pure a => exact hk a
  | load m a k ih => exact fun ⟨v, hv, hs⟩ => ⟨v, hv, ih v hs⟩
  | shape r k ih => exact fun hs => ih _ hs
  | frozen a k ih => exact fun hs => ih _ hs
  | getObj r k ih => exact fun ⟨o, ho, hh, hc, hs⟩ => ⟨o, ho, hh, hc, ih o hs⟩
  | program k ih => exact fun hs => ih P hs
  | mark m k ih => exact fun hs => ih hs
  | store => exact fun hs => hs.elim
  | new => exact fun hs => hs.elim
  | freeze => exact fun hs => hs.elim
  | setObj => exact fun hs => hs.elim
  | choose => exact fun hs => hs.elim
  | sys => exact fun hs => hs.elim
  | halt => exact fun hs => hs.elim
theorem sp_mono (P : Program) {α : Type} (e : Sem α) {K K' : α → Hp → Prop} {E E' : Value → Hp → Prop} (hk : ∀ a s, K a s → K' a s) (he : ∀ a s, E a s → E' a s) : ∀ s, sp P e K E s → sp P e K' E' s := by
  induction e with
  | pure a => exact fun s => hk a s
  | load m a k ih => exact fun s ⟨v, hv, hs⟩ => ⟨v, hv, ih v s hs⟩
  | shape r k ih => exact fun s hs => ih _ s hs
  | frozen a k ih => exact fun s hs => ih _ s hs
  | getObj r k ih => exact fun s ⟨o, ho, hh, hc, hs⟩ => ⟨o, ho, hh, hc, ih o s hs⟩
  | program k ih => exact fun s hs => ih P s hs
  | mark m k ih => exact fun s hs => ih s hs
  | store m a v k ih => exact fun s ⟨h1, hs⟩ => ⟨h1, ih _ hs⟩
  | new o k ih => exact fun s hs => ih _ _ hs
  | freeze a n k ih => exact fun s hs => ih _ hs
  | setObj r o k ih => exact fun s ⟨h1, hs⟩ => ⟨h1, ih _ hs⟩
  | choose q k ih =>
    intro s hs
    simp only [sp] at hs ⊢
    split
    · rename_i hq; rw [if_pos hq] at hs; exact ih _ _ hs
    · rename_i hq; rw [if_neg hq] at hs; exact fun n => ih _ _ (hs n)
  | sys => exact fun s hs => hs.elim
  | halt x => cases x <;> first | exact fun s hs => hs.elim | exact fun s => he _ s
def Now (W : World) (X : Nat → Prop) (h : Hp) (R : Hp → Prop) (w : World) : Prop :=
  ∃ X' h' d' s', w = wat W h' d' ∧ Vis X' h' s' ∧ Ev X h X' h' ∧ R s'
theorem Now.mono {W : World} {X : Nat → Prop} {h : Hp} {R R' : Hp → Prop} {w : World} (n : Now W X h R w) (hr : ∀ s, R s → R' s) : Now W X h R' w := by
  obtain ⟨X', h', d', s', a, b, c, e⟩ := n
  exact ⟨X', h', d', s', a, b, c, hr _ e⟩
def callable (P : Program) (f : FuncId) : Bool :=
  match P.funcs[f]? with
  | some fn => fn.body.isSome && !(fn.name == "runtime.NumGoroutine")
  | none => false
def Does (P : Program) (W : World) (f : FuncId) (args : Array Value) (s : Hp) (R : Ending → Hp → Prop) : Prop := callable P f = true ∧
  ∀ (X : Nat → Prop) (h : Hp) (d : Nat), Vis X h s → Calls P f args (wat W h d) fun e w' => Now W X h (R e) w'
theorem Does.mono {P : Program} {W : World} {f : FuncId} {args : Array Value} {s : Hp} {R R' : Ending → Hp → Prop} (h : Does P W f args s R) (hr : ∀ e s', R e s' → R' e s') : Does P W f args s R' :=
  ⟨h.1, fun X h' d v => (h.2 X h' d v).mono fun e _ n => n.mono (hr e)⟩
def DoesY (P : Program) (W : World) (l : Nat) (args : Array Value) (s : Hp) (R : Ending → Hp → Prop) : Prop :=
  ∀ (X : Nat → Prop) (h : Hp) (d : Nat), Vis X h s → ∃ fn tmps assign body, (Instr.yield l args).run P (wat W h d) = .ok (.round l fn tmps assign body) (wat W h d) ∧
    RoundIn Fence.wide 0 P l fn tmps assign body (wat W h d) fun e w' => Now W X h (R e) w'
def DoesV (P : Program) (W : World) (f : Value) (args : Array Value) (s : Hp) (R : Ending → Hp → Prop) : Prop :=
  match f with
  | .func (.func f) first cap => Does P W f (first ++ args ++ cap) s R
  | .func (.yield l) first cap => first = #[] ∧ cap = #[] ∧ DoesY P W l args s R
  | _ => False
theorem DoesV.mono {P : Program} {W : World} {f : Value} {args : Array Value} {s : Hp} {R R' : Ending → Hp → Prop} (h : DoesV P W f args s R) (hr : ∀ e s', R e s' → R' e s') : DoesV P W f args s R' := by
  unfold DoesV at *
  split at h
  · exact Does.mono h hr
  · obtain ⟨h1, h2, h3⟩ := h
    refine ⟨h1, h2, fun X hh d v => ?_⟩
    obtain ⟨fn, tmps, assign, body, hy, hrd⟩ := h3 X hh d v
    exact ⟨fn, tmps, assign, body, hy, hrd.mono fun e _ n => n.mono (hr e)⟩
  · exact h
def endK (K : Value → Hp → Prop) (E : List PanicEntry → Hp → Prop) : Ending → Hp → Prop
  | .returned v, s => K v s
  | .panicked c, s => E c s
  | .outgrown, _ => False
def ev (t : Tm) : Operand → Value
  | .tmp i => t i
  | .const v => v
  | .global g => .pointer (some ⟨g, 0, none⟩)
  | .func f => .func (.func f) #[] #[]
def upd (n i : Nat) (v : Value) (t : Tm) : Tm := fun j => match Nat.beq j i && Nat.blt i n with | true => v | false => t j
def updo (n : Nat) (d : Option Nat) (v : Value) (t : Tm) : Tm := match d with | some i => upd n i v t | none => t
def setD (n : Nat) (v : Value) (t : Tm) : Tm := fun j => match Nat.beq j n with | true => v | false => t j
def start : List Value → Nat → Tm
  | [], _ => fun _ => undef
  | v :: vs, i => fun j => match Nat.beq j i with | true => v | false => start vs (i + 1) j
def known : List Nat → List Value → Tm → Tm
  | i :: is, v :: vs, t => fun j => match Nat.beq j i with | true => v | false => known is vs t j
  | _, _, t => t
def prj (rs : List Nat) (t : Tm) : Tm := known rs (rs.map t) (fun _ => undef)
abbrev VK := Value → Hp → Prop
def BR (b : Bool) (x y : Hp → Prop) : Hp → Prop := match b with | true => x | false => y
def SO {α : Type} (o : Option α) (K : α → Hp → Prop) : Hp → Prop := match o with | some a => K a | none => fun _ => False
def FF : Hp → Prop := fun _ => False
inductive Kd where
  | i (k : IntKind) | b | s | p | l | m | v
  deriving DecidableEq
def RDI (k : IntKind) (a : Addr) (K : Int → Hp → Prop) : Hp → Prop := fun s => ∃ n, cellAt s a = some (.int k n) ∧ K n s
def RDB (a : Addr) (K : Bool → Hp → Prop) : Hp → Prop := fun s => ∃ n, cellAt s a = some (.bool n) ∧ K n s
def RDS (a : Addr) (K : ByteArray → Hp → Prop) : Hp → Prop := fun s => ∃ n, cellAt s a = some (.string n) ∧ K n s
def RDP (a : Addr) (K : Option Addr → Hp → Prop) : Hp → Prop := fun s => ∃ n, cellAt s a = some (.pointer n) ∧ K n s
def RDL (a : Addr) (K : Option Addr → Nat → Nat → Hp → Prop) : Hp → Prop := fun s => ∃ x l c, cellAt s a = some (.slice x l c) ∧ K x l c s
def RDM (a : Addr) (K : Option Nat → Hp → Prop) : Hp → Prop := fun s => ∃ n, cellAt s a = some (.map n) ∧ K n s
def RDV (a : Addr) (K : VK) : Hp → Prop := fun s => ∃ n, cellAt s a = some n ∧ K n s
def rd1 (k : Kd) (a : Addr) (K : VK) : Hp → Prop :=
  match k with
  | .i k => RDI k a fun n => K (.int k n)
  | .b => RDB a fun n => K (.bool n)
  | .s => RDS a fun n => K (.string n)
  | .p => RDP a fun n => K (.pointer n)
  | .l => RDL a fun x l c => K (.slice x l c)
  | .m => RDM a fun n => K (.map n)
  | .v => RDV a K
def rdN : List Kd → Addr → Nat → (List Value → Hp → Prop) → Hp → Prop
  | [], _, _, K => K []
  | k :: ks, a, i, K => rd1 k (a.add i) fun v => rdN ks a (i + 1) fun vs => K (v :: vs)
def TYI (k : IntKind) (v : Value) (K : Int → Hp → Prop) : Hp → Prop := match v with | .int k' n => fun s => k' = k ∧ K n s | _ => FF
def TYB (v : Value) (K : Bool → Hp → Prop) : Hp → Prop := match v with | .bool n => K n | _ => FF
def TYS (v : Value) (K : ByteArray → Hp → Prop) : Hp → Prop := match v with | .string n => K n | _ => FF
def TYP (v : Value) (K : Option Addr → Hp → Prop) : Hp → Prop := match v with | .pointer n => K n | _ => FF
def TYL (v : Value) (K : Option Addr → Nat → Nat → Hp → Prop) : Hp → Prop := match v with | .slice x l c => K x l c | _ => FF
def TYM (v : Value) (K : Option Nat → Hp → Prop) : Hp → Prop := match v with | .map n => K n | _ => FF
def ty1 (k : Kd) (v : Value) (K : VK) : Hp → Prop :=
  match k with
  | .i k => TYI k v fun n => K (.int k n)
  | .b => TYB v fun n => K (.bool n)
  | .s => TYS v fun n => K (.string n)
  | .p => TYP v fun n => K (.pointer n)
  | .l => TYL v fun x l c => K (.slice x l c)
  | .m => TYM v fun n => K (.map n)
  | .v => K v
def HD {α : Type} (l : List α) (K : α → List α → Hp → Prop) : Hp → Prop := match l with | x :: r => K x r | [] => FF
def NL {α : Type} (l : List α) (K : Hp → Prop) : Hp → Prop := match l with | [] => K | _ :: _ => FF
def TUP (v : Value) (K : List Value → Hp → Prop) : Hp → Prop := match v with | .tuple a => K a.toList | _ => FF
def AGG (v : Value) (K : List Value → Hp → Prop) : Hp → Prop := match v with | .agg a => K a.toList | _ => FF
def tyN : List Kd → List Value → (List Value → Hp → Prop) → Hp → Prop
  | [], l, K => NL l (K [])
  | k :: ks, l, K => HD l fun x r => ty1 k x fun v => tyN ks r fun vs => K (v :: vs)
section
variable (P : Program)
def kd1 (t : TypeId) : Kd :=
  match P.underlying t with
  | some (.int k) => .i k
  | some .bool => .b
  | some .string => .s
  | some (.pointer _) => .p
  | some (.slice _) => .l
  | some (.map ..) => .m
  | _ => .v
def SZ (t : TypeId) (K : Nat → Hp → Prop) : Hp → Prop := match P.info? t with | some i => K i.size | none => FF
def agO (t : TypeId) : Option Bool :=
  match P.underlying t with
  | some (.struct _) | some (.array _ _) => some true
  | some _ => some false
  | none => none
def isAg (t : TypeId) : Bool :=
  match P.underlying t with
  | some (.struct _) | some (.array _ _) => true
  | _ => false
def kds : Nat → TypeId → List Kd
  | 0, _ => []
  | f + 1, t =>
    match P.underlying t with
    | some (.struct fs) => fs.toList.flatMap fun x => kds f x.type
    | some (.array n e) => (List.replicate n (kds f e)).flatten
    | _ => [kd1 P t]
def ksOf (t : TypeId) : List Kd := kds P 8 t
def tyT (t : TypeId) (v : Value) (K : VK) : Hp → Prop :=
  match isAg P t with
  | true => AGG v fun l => tyN (ksOf P t) l fun vs => K (.agg vs.toArray)
  | false => ty1 (kd1 P t) v K
def tyTs : List TypeId → List Value → (List Value → Hp → Prop) → Hp → Prop
  | [], l, K => NL l (K [])
  | t :: ts, l, K => HD l fun x r => tyT P t x fun v => tyTs ts r fun vs => K (v :: vs)
def tyR (t : TypeId) (v : Value) (K : VK) : Hp → Prop :=
  match P.underlying t with
  | some (.tuple ts) => TUP v fun l => tyTs P ts.toList l fun vs => K (.tuple vs.toArray)
  | _ => tyT P t v K
def LD (t : TypeId) (p : Value) (K : VK) : Hp → Prop :=
  match p with
  | .pointer o => SO o fun a =>
    match agO P t with
    | some true => SZ P t fun m => (match Nat.beq (ksOf P t).length m with
      | true => rdN (ksOf P t) a 0 fun vs => K (.agg vs.toArray)
      | false => FF)
    | some false => rd1 (kd1 P t) a K
    | none => FF
  | _ => FF
def WR (a : Addr) (v : Value) (K : Hp → Prop) : Hp → Prop := fun s => (oneCell v = true ∧ (∃ x, cellAt s a = some x) ∧ frozenAt s a = false) ∧ K (setC s a v)
def wrN : List Value → Addr → Nat → (Hp → Prop) → Hp → Prop
  | [], _, _, K => K
  | v :: vs, a, i, K => WR (a.add i) v (wrN vs a (i + 1) K)
def ONE (v : Value) (K : Hp → Prop) : Hp → Prop := match oneCell v with | true => K | false => FF
def CS (ag : Bool) (v : Value) (n : Nat) (K : List Value → Hp → Prop) : Hp → Prop :=
  match ag with
  | true => (match v with
    | .agg c => (match Nat.beq c.toList.length n with | true => K c.toList | false => FF)
    | _ => FF)
  | false => (match Nat.beq n 1 with | true => ONE v (K [v]) | false => FF)
def ST (t : TypeId) (p v : Value) (K : Hp → Prop) : Hp → Prop :=
  match p with
  | .pointer o => SO o fun a => SZ P t fun m => CS (isAg P t) v m fun cs => wrN cs a 0 K
  | _ => FF
def NEW (t : TypeId) (cs : List Value) (K : Nat → Hp → Prop) : Hp → Prop := fun s => K s.size (s.push (.cells cs.toArray t (0, 0)))
def zc (t : TypeId) : List Value := match (P.info? t).bind (·.zero) with | some v => v.cells.toList | none => []
def hasZero (t : TypeId) : Bool := match (P.info? t).bind (·.zero) with | some _ => true | none => false
def NEWZ (t : TypeId) (K : Nat → Hp → Prop) : Hp → Prop := fun s => K s.size (s.push (.cells (zc P t).toArray t (0, 0)))
def setL : List Value → Nat → List Value → List Value
  | cs, _, [] => cs
  | cs, i, v :: vs => setL (cs.set i v) (i + 1) vs
def BLD (place : Nat → Option (Nat × Nat × Bool)) : List Value → List (Nat × Value) → (List Value → Hp → Prop) → Hp → Prop
  | cs, [], K => K cs
  | cs, (i, v) :: r, K => match place i with
    | none => FF
    | some (off, n, ag) => CS ag v n fun vs => match Nat.ble (off + n) cs.length with
      | true => BLD place (setL cs off vs) r K
      | false => FF
def szs (t : TypeId) : Bool := match P.underlying t with
  | some (.struct fs) => fs.toList.all fun f => (P.info? f.type).isSome
  | some (.array _ e) => (P.info? e).isSome
  | _ => false
def placeOf (t : TypeId) (i : Nat) : Option (Nat × Nat × Bool) :=
  match P.underlying t with
  | some (.struct fs) => (fs.toList[i]?).map fun f => (f.offset, P.cellsOf f.type, isAg P f.type)
  | some (.array _ e) => some (i * P.cellsOf e, P.cellsOf e, isAg P e)
  | _ => none
def elemT (t : TypeId) : TypeId := match P.underlying t with | some (.slice e) => e | some (.array _ e) => e | some (.pointer e) => e | _ => 0
def isSl (t : TypeId) : Bool := match P.underlying t with | some (.slice _) => true | _ => false
def repL : Nat → List Value → List Value
  | 0, _ => []
  | n + 1, z => z ++ repL n z
def BSL (t : TypeId) (len : Nat) (ps : List (Nat × Value)) (K : VK) : Hp → Prop :=
  match isSl P t && hasZero P (elemT P t) && Nat.beq (zc P (elemT P t)).length (P.cellsOf (elemT P t)) && Nat.ble (len * P.cellsOf (elemT P t)) 1000 with
  | true => BLD (fun i => some (i * P.cellsOf (elemT P t), P.cellsOf (elemT P t), isAg P (elemT P t))) (repL len (zc P (elemT P t))) ps fun cs => NEW (elemT P t) cs fun b => K (.slice (some ⟨b, 0, none⟩) len len)
  | false => FF
def NNI (b : Int) (K : Hp → Prop) : Hp → Prop := match b with | .ofNat _ => K | .negSucc _ => FF
def NZI (b : Int) (K : Hp → Prop) : Hp → Prop := match b with | .ofNat 0 => FF | _ => K
def shlv (k : IntKind) (a b : Int) : Int := k.wrap (a * 2 ^ (min b.toNat k.bits))
def shrv (k : IntKind) (a b : Int) : Int := a.fdiv (2 ^ (min b.toNat k.bits))
def andv (k : IntKind) (a b : Int) : Int := k.wrap (BitVec.ofInt k.bits a &&& BitVec.ofInt k.bits b).toNat
def orv (k : IntKind) (a b : Int) : Int := k.wrap (BitVec.ofInt k.bits a ||| BitVec.ofInt k.bits b).toNat
def xorv (k : IntKind) (a b : Int) : Int := k.wrap (BitVec.ofInt k.bits a ^^^ BitVec.ofInt k.bits b).toNat
def andnv (k : IntKind) (a b : Int) : Int := k.wrap (BitVec.ofInt k.bits a &&& ~~~ BitVec.ofInt k.bits b).toNat
def eq1 (k : Kd) (x y : Value) : Option Bool :=
  match k, x, y with
  | .i k, .int k1 a, .int k2 b => (match decide (k1 = k ∧ k2 = k) with | true => some (a == b) | false => none)
  | .b, .bool a, .bool b => some (a == b)
  | _, _, _ => none
def eqL : List Kd → List Value → List Value → Option Bool
  | [k], [x], [y] => eq1 k x y
  | k :: ks, x :: xs, y :: ys => match eq1 k x y, eqL ks xs ys with | some a, some b => some (a && b) | _, _ => none
  | _, _, _ => none
mutual
/-- The cells of a type, all of which are numbers or bools, one behind the other, and count. -/
def flatN : Nat → TypeId → Option (List Kd)
  | 0, _ => none
  | f + 1, t =>
    match P.underlying t with
    | some (.int k) => some [.i k]
    | some .bool => some [.b]
    | some (.struct fs) => if P.stoodInHeld t then none else flatF f fs.toList 0
    | some (.array n e) => (match flatN f e, P.info? e with | some m, some i => if i.size = m.length then some (List.replicate n m).flatten else none | _, _ => none)
    | _ => none
def flatF : Nat → List Field → Nat → Option (List Kd)
  | 0, _, _ => none
  | _ + 1, [], _ => some []
  | f + 1, x :: r, o => if x.offset = o ∧ x.name ≠ "_" then (match flatN f x.type, P.info? x.type with | some m, some i => if i.size = m.length then (flatF f r (o + m.length)).map (m ++ ·) else none | _, _ => none) else none
end
def flatE (t : TypeId) (a b : List Value) : Option Bool := match flatN P 24 t with | some ks => eqL ks a b | none => none
def STC (a b : ByteArray) (K : ByteArray → Hp → Prop) : Hp → Prop := fun s => a.size + b.size ≤ 9223372036854775807 ∧ K (a ++ b) s
def seqB (a b : ByteArray) : Bool := a.toList == b.toList
def bin (op : BinOp) (ty : TypeId) (x y : Value) (K : VK) : Hp → Prop :=
  match x, y with
  | .int k a, .int k' b =>
    match op with
    | .shl => NNI b (K (.int k (shlv k a b)))
    | .shr => NNI b (K (.int k (shrv k a b)))
    | op => match decide (k = k') with
      | false => FF
      | true => match op with
        | .add => K (.int k (k.wrap (a + b)))
        | .sub => K (.int k (k.wrap (a - b)))
        | .mul => K (.int k (k.wrap (a * b)))
        | .quo => NZI b (K (.int k (k.wrap (a.tdiv b))))
        | .rem => NZI b (K (.int k (a.tmod b)))
        | .and => K (.int k (andv k a b))
        | .or => K (.int k (orv k a b))
        | .xor => K (.int k (xorv k a b))
        | .andNot => K (.int k (andnv k a b))
        | .eql => K (.bool (a == b))
        | .neq => K (.bool (a != b))
        | .lss => K (.bool (decide (a < b)))
        | .leq => K (.bool (decide (a ≤ b)))
        | .gtr => K (.bool (decide (a > b)))
        | .geq => K (.bool (decide (a ≥ b)))
        | _ => FF
  | .bool a, .bool b => match op, P.underlying ty with
    | .eql, some .bool => K (.bool (a == b))
    | .neq, some .bool => K (.bool (!(a == b)))
    | _, _ => FF
  | .string a, .string b => match op with
    | .add => STC a b fun c => K (.string c)
    | .eql => K (.bool (seqB a b))
    | .neq => K (.bool (!seqB a b))
    | _ => FF
  | .agg a, .agg b => match isAg P ty && !P.eqGuardType P.depth ty, flatE P ty a.toList b.toList with
    | true, some r => (match op with
      | .eql => K (.bool r)
      | .neq => K (.bool (!r))
      | _ => FF)
    | _, _ => FF
  | _, _ => FF
def un (op : UnOp) (x : Value) (K : VK) : Hp → Prop :=
  match op, x with
  | .not, .bool b => K (.bool (!b))
  | .neg, .int k n => K (.int k (k.wrap (0 - n)))
  | _, _ => FF
def NILE (x : Value) (K : Bool → Hp → Prop) : Hp → Prop := match x with | .nilIface => K true | .iface _ _ => K false | _ => FF
def nilEq (op : BinOp) (ty : TypeId) (x : Value) (K : VK) : Hp → Prop :=
  match P.underlying ty with
  | some (.interface _) => (match op with
    | .eql => NILE x fun b => K (.bool b)
    | .neq => NILE x fun b => K (.bool (!b))
    | _ => FF)
  | _ => FF
def isNilC (x : Operand) : Bool := match x with | .const .nilIface => true | _ => false
def nilSl (op : BinOp) (ty : TypeId) (x : Value) (K : VK) : Hp → Prop :=
  match P.underlying ty with
  | some (.slice _) => (match op, x with
    | .eql, .slice a _ _ => K (.bool a.isNone)
    | .neq, .slice a _ _ => K (.bool (!a.isNone))
    | _, _ => FF)
  | _ => FF
def isNilS (x : Operand) : Bool := match x with | .const (.slice none _ _) => true | _ => false
def TYC (k : IntKind) (v : Value) (K : Int → Hp → Prop) : Hp → Prop := match v with | .int k' n => (match decide (k' = k) with | true => K n | false => FF) | _ => FF
def tc1 (k : Kd) (v : Value) (K : VK) : Hp → Prop :=
  match k with
  | .i k => TYC k v fun n => K (.int k n)
  | .b => TYB v fun n => K (.bool n)
  | .s => TYS v fun n => K (.string n)
  | .p => TYP v fun n => K (.pointer n)
  | .l => TYL v fun x l c => K (.slice x l c)
  | .m => TYM v fun n => K (.map n)
  | .v => K v
def tcN : List Kd → List Value → (List Value → Hp → Prop) → Hp → Prop
  | [], l, K => NL l (K [])
  | k :: ks, l, K => HD l fun x r => tc1 k x fun v => tcN ks r fun vs => K (v :: vs)
def tyC (t : TypeId) (v : Value) (K : VK) : Hp → Prop :=
  match isAg P t with
  | true => AGG v fun l => tcN (ksOf P t) l fun vs => K (.agg vs.toArray)
  | false => tc1 (kd1 P t) v K
def IFC (x : Value) (K : TypeId → Value → Hp → Prop) : Hp → Prop := match x with | .iface t v => K t v | _ => FF
def tas (ty : TypeId) (ok : Bool) (x : Value) (K : VK) : Hp → Prop :=
  match P.underlying ty with
  | some (.interface _) => FF
  | some _ => IFC x fun t v => BR (Nat.beq t ty) (tyC P ty v fun v => K (match ok with | true => .tuple #[v, .bool true] | false => v))
      (match ok, (P.info? ty).bind (·.zero) with | true, some z => K (.tuple #[z, .bool false]) | _, _ => FF)
  | none => FF
def IXS (x : Option Addr) (l : Nat) (i : Int) (es : Nat) (K : Addr → Hp → Prop) : Hp → Prop := fun s => ∃ a, x = some a ∧ (0 ≤ i ∧ i < l) ∧ K (a.add (i.toNat * es)) s
def IXA (a : Addr) (l : Nat) (i : Int) (es : Nat) (K : Addr → Hp → Prop) : Hp → Prop := fun s => (0 ≤ i ∧ i < l) ∧ K (a.add (i.toNat * es)) s
def idx (t : TypeId) (x i : Value) (K : VK) : Hp → Prop :=
  match P.underlying t, x, i with
  | some (.slice e), .slice a l _, .int _ n => SZ P e fun m => IXS a l n m fun a => K (.pointer (some a))
  | some (.array l e), .pointer o, .int _ n => SO o fun a => SZ P e fun m => IXA a l n m fun a => K (.pointer (some a))
  | _, _, _ => FF
def FAZ (a : Addr) (K : Addr → Hp → Prop) : Hp → Prop := fun s => (a.spot = none ∧ ∃ e n, shapeAt s a.block = some (e, n) ∧ (byteOfCell P P.depth e (a.off % P.cellsOf e)).isSome = true) ∧ K a s
def fad (t : TypeId) (x : Value) (j : Nat) (K : VK) : Hp → Prop :=
  match P.underlying t, x with
  | some (.struct fs), .pointer o => SO o fun a => (match fs.toList[j]? with
    | some f => SZ P f.type fun m => (match Nat.beq m 0 with
      | false => K (.pointer (some (a.add f.offset)))
      | true => (match Nat.beq f.offset 0 && Nat.beq f.byteOffset 0 with | true => FAZ P a fun a => K (.pointer (some a)) | false => FF))
    | none => FF)
  | _, _ => FF
def fld (t : TypeId) (x : Value) (j : Nat) (K : VK) : Hp → Prop :=
  match P.underlying t, x with
  | some (.struct fs), .agg c => (match fs.toList[j]? with
    | some f => (match agO P f.type with
      | some true => SZ P f.type fun m => K (.agg ((c.toList.drop f.offset).take m).toArray)
      | some false => (match c.toList[f.offset]? with | some v => K v | none => FF)
      | none => FF)
    | none => FF)
  | _, _ => FF
def nck (x : Value) (K : VK) : Hp → Prop :=
  match x with
  | .pointer o => SO o fun a => K (.pointer (some a))
  | .func (.func f) a b => K (.func (.func f) a b)
  | .func (.yield f) a b => K (.func (.yield f) a b)
  | .iface t v => K (.iface t v)
  | _ => FF
def MKS (t : TypeId) (l c : Int) (K : Nat → Hp → Prop) : Hp → Prop := fun s =>
  (0 ≤ l ∧ l ≤ c ∧ c ≤ 100000) ∧ K s.size (s.push (.cells (repL c.toNat (zc P t)).toArray t (0, 0)))
def mks (t : TypeId) (l c : Value) (K : VK) : Hp → Prop :=
  match l, c with
  | .int _ a, .int _ b => (match isSl P t && hasZero P (elemT P t) && Nat.beq (zc P (elemT P t)).length (P.cellsOf (elemT P t)) && Nat.ble (P.bytesOf (elemT P t)) 1000 with
    | true => MKS P (elemT P t) a b fun bl => K (.slice (some ⟨bl, 0, none⟩) a.toNat b.toNat)
    | false => FF)
  | _, _ => FF
def SLS (x : Option Addr) (c : Nat) (lo hi : Int) (es : Nat) (K : Option Addr → Nat → Nat → Hp → Prop) : Hp → Prop := fun s =>
  (0 ≤ lo ∧ lo ≤ hi ∧ hi ≤ c) ∧ K (if c = lo.toNat then x else x.map (·.add (lo.toNat * es))) (hi.toNat - lo.toNat) (c - lo.toNat) s
def STSL (x : ByteArray) (lo hi : Int) (K : ByteArray → Hp → Prop) : Hp → Prop := fun s => (0 ≤ lo ∧ lo ≤ hi ∧ hi ≤ x.size) ∧ K (x.extract lo.toNat hi.toNat) s
def slc (t : TypeId) (x : Value) (lo hi : Option Value) (K : VK) : Hp → Prop :=
  match P.underlying t, x with
  | some (.slice e), .slice a l c => SZ P e fun m =>
    (match lo, hi with
    | none, none => SLS a c 0 l m fun x l c => K (.slice x l c)
    | some (.int _ i), none => SLS a c i l m fun x l c => K (.slice x l c)
    | none, some (.int _ j) => SLS a c 0 j m fun x l c => K (.slice x l c)
    | some (.int _ i), some (.int _ j) => SLS a c i j m fun x l c => K (.slice x l c)
    | _, _ => FF)
  | some (.array n e), .pointer o => SO o fun a => SZ P e fun m =>
    (match lo, hi with
    | none, none => SLS (some a) n 0 n m fun x l c => K (.slice x l c)
    | some (.int _ i), none => SLS (some a) n i n m fun x l c => K (.slice x l c)
    | none, some (.int _ j) => SLS (some a) n 0 j m fun x l c => K (.slice x l c)
    | some (.int _ i), some (.int _ j) => SLS (some a) n i j m fun x l c => K (.slice x l c)
    | _, _ => FF)
  | some .string, .string x =>
    (match lo, hi with
    | none, none => STSL x 0 x.size fun y => K (.string y)
    | some (.int _ i), none => STSL x i x.size fun y => K (.string y)
    | none, some (.int _ j) => STSL x 0 j fun y => K (.string y)
    | some (.int _ i), some (.int _ j) => STSL x i j fun y => K (.string y)
    | _, _ => FF)
  | _, _ => FF
def cellsAt (s : Hp) (a : Addr) : Nat → Nat → Option (List Value)
  | _, 0 => some []
  | i, n + 1 => match cellAt s (a.add i), cellsAt s a (i + 1) n with
    | some v, some vs => some (v :: vs)
    | _, _ => none
def cellsOpt (s : Hp) (a : Option Addr) (n : Nat) : Option (List Value) := match a with | some a => cellsAt s a 0 n | none => some []
def APP (t : TypeId) (es : Nat) (x : Option Addr) (l c : Nat) (y : Option Addr) (m : Nat) (K : Option Addr → Nat → Nat → Hp → Prop) : Hp → Prop := fun s =>
  (l + m ≤ 1000000 ∧ c ≤ 9223372036854775808) ∧ ∃ vs, cellsOpt s y (m * es) = some vs ∧
    (if l + m ≤ c then (match x with | some a => wrN vs (a.add (l * es)) 0 (K x (l + m) c) s | none => K x (l + m) c s)
     else ∃ ws, cellsOpt s x (l * es) = some ws ∧ ∀ c', l + m ≤ c' → c' < 9223372036854775808 →
       K (some ⟨s.size, 0, none⟩) (l + m) c' (s.push (.cells (ws ++ vs ++ repL (c' - (l + m)) (zc P t)).toArray t (0, 0))))
def COPY (es : Nat) (x : Option Addr) (l : Nat) (y : Option Addr) (m : Nat) (K : Int → Hp → Prop) : Hp → Prop := fun s =>
  ∃ vs, cellsOpt s y (min m l * es) = some vs ∧ (match x with | some a => wrN vs a 0 (K (min m l : Nat)) s | none => K (min m l : Nat) s)
def MKM (K : Nat → Hp → Prop) : Hp → Prop := fun s => K s.size (s.push (.map #[] 0))
def LKP (t : TypeId) (x k : Value) (ok : Bool) (K : VK) : Hp → Prop := sp P (Instr.lookup t x k ok) K (fun _ _ => False)
def MUP (t : TypeId) (m k v : Value) (K : Hp → Prop) : Hp → Prop := sp P (Instr.mapUpdate t m k v) (fun _ => K) (fun _ _ => False)
def DELM (ts : List TypeId) (m k : Value) (K : Hp → Prop) : Hp → Prop := sp P (Builtin.delete_ ts.toArray 0 #[m, k]) (fun v s => v = .tuple #[] ∧ K s) (fun _ _ => False)
def LNM (m : Option Nat) (K : Nat → Hp → Prop) : Hp → Prop :=
  match m with
  | none => K 0
  | some r => fun s => ∃ es cl, s[r]? = some (.map es cl) ∧ K es.size s
def RNM (t : TypeId) (x : Value) (K : Nat → Hp → Prop) : Hp → Prop :=
  match P.underlying t, x with
  | some (.map _ _), .map (some m) => fun s => ∃ es cl, s[m]? = some (.map es cl) ∧ K s.size (s.push (.mapIter (some m) cl #[] cl))
  | _, _ => FF
def NXM (it : Value) (Ke : Hp → Prop) (Kg : Value → Value → Hp → Prop) : Hp → Prop :=
  sp P (Instr.next it false 0) (fun v s => (v = .tuple #[.bool false] ∧ Ke s) ∨ ∃ k x, v = .tuple #[.bool true, k, x] ∧ Kg k x s) (fun _ _ => False)
def ENT (it : Value) (K : Value → Value → Hp → Prop) : Hp → Prop := sp P (Instr.entry it) (fun v s => ∃ k x, v = .tuple #[k, x] ∧ K k x s) (fun _ _ => False)
def IXT (x : ByteArray) (n : Int) (K : Int → Hp → Prop) : Hp → Prop := fun s => (0 ≤ n ∧ n < x.size) ∧ K (match x[n.toNat]? with | some b => b.toNat | none => 0 : Nat) s
def IXG (c : List Value) (l m : Nat) (n : Int) (K : VK) : Hp → Prop := match decide (0 ≤ n ∧ n < l), c[n.toNat * m]? with
  | true, some v => K v
  | _, _ => FF
def IXH (c : List Value) (l m : Nat) (n : Int) (K : VK) : Hp → Prop := match decide (0 ≤ n ∧ n < l) with
  | true => K (.agg ((c.drop (n.toNat * m)).take m).toArray)
  | false => FF
def ixv (t : TypeId) (x i : Value) (K : VK) : Hp → Prop :=
  match P.underlying t, x, i with
  | some (.array l e), .agg c, .int _ n => (match agO P e with
    | some false => SZ P e fun m => IXG c.toList l m n fun v => tc1 (kd1 P e) v K
    | some true => SZ P e fun m => IXH c.toList l m n fun v => tyC P e v K
    | none => FF)
  | some .string, .string x, .int _ n => IXT x n fun b => K (.int .u8 b)
  | _, _, _ => FF
def B2S (x : Option Addr) (l : Nat) (K : ByteArray → Hp → Prop) : Hp → Prop := fun s => ∃ bs : List UInt8, cellsOpt s x l = some (bs.map fun b => .int .u8 b.toNat) ∧ K ⟨bs.toArray⟩ s
def CVT (z d : TypeId) (x : Value) (K : VK) : Hp → Prop :=
  match P.underlying z, x, P.underlying d with
  | some _, .int _ n, some (.int k) => K (.int k (k.wrap n))
  | some (.slice e), .slice a l _, some .string => (match P.underlying e with
    | some (.int .u8) => B2S a l fun b => K (.string b)
    | _ => FF)
  | _, _, _ => FF
def SLV (e : Sem Value) (K : Option Addr → Nat → Nat → Hp → Prop) : Hp → Prop := sp P e (fun v s => ∃ x l c, v = .slice x l c ∧ K x l c s) (fun _ _ => False)
def SL3 (t : TypeId) (x : Value) (lo hi : Option Value) (m : Value) (K : Option Addr → Nat → Nat → Hp → Prop) : Hp → Prop := SLV P (Instr.sliceAt t x lo hi (some m)) K
def APPZ (ts : List TypeId) (x n : Value) (K : Option Addr → Nat → Nat → Hp → Prop) : Hp → Prop := SLV P (Builtin.append_ ts.toArray 0 #[x, n]) K
def CLR (ts : List TypeId) (x : Value) (K : Hp → Prop) : Hp → Prop := sp P (Builtin.clear_ ts.toArray 0 #[x]) (fun v s => v = .tuple #[] ∧ K s) (fun _ _ => False)
def isExt (f : FuncId) : Bool := match P.funcs[f]? with | some fn => fn.body.isNone | none => false
def EXT (f : FuncId) (args : List Value) (K : VK) : Hp → Prop := sp P (callFunc f args.toArray) (fun nx s => ∃ v, nx = .value v ∧ K v s) (fun _ _ => False)
def mxL : Int → List Value → Option Int
  | a, [] => some a
  | a, .int _ b :: r => mxL (if b > a then b else a) r
  | _, _ => none
def bltin (b : Builtin) (ts : List TypeId) (args : List Value) (K : VK) : Hp → Prop :=
  match b, args with
  | .len, [x] => (match x, (ts[0]?).bind P.underlying with
    | .slice _ n _, some (.slice _) => K (.int .i64 n)
    | .string s, some .string => K (.int .i64 s.size)
    | .map m, some (.map _ _) => LNM m fun n => K (.int .i64 n)
    | .pointer _, some (.pointer e) => (match P.underlying e with | some (.array n _) => K (.int .i64 n) | _ => FF)
    | _, _ => FF)
  | .max, [.int k a, .int _ b] => K (.int k (if b > a then b else a))
  | .max, [.int k a, .int _ b, .int _ c] => K (.int k (if c > (if b > a then b else a) then c else (if b > a then b else a)))
  | .max, .int k a :: x :: y :: z :: r => (match mxL a (x :: y :: z :: r) with | some m => K (.int k m) | none => FF)
  | .min, [.int k a, .int _ b] => K (.int k (if b < a then b else a))
  | .append, [.slice x l c, .slice y m _] => (match (ts[0]?).bind P.underlying, (ts[1]?).map (isSl P) with
    | some (.slice e), some true => (match hasZero P e && Nat.beq (zc P e).length (P.cellsOf e) && Nat.ble (P.bytesOf e) 1000 && Nat.ble 1 (P.bytesOf e) with
      | true => APP P e (P.cellsOf e) x l c y m fun x l c => K (.slice x l c)
      | false => FF)
    | _, _ => FF)
  | .copy, [.slice x l _, .slice y m _] => (match (ts[0]?).bind P.underlying with
    | some (.slice e) => SZ P e fun es => COPY es x l y m fun n => K (.int .i64 n)
    | _ => FF)
  | .delete, [m, k] => DELM P ts m k (K (.tuple #[]))
  | .cap, [.slice _ _ c] => (match (ts[0]?).bind P.underlying with | some (.slice _) => K (.int .i64 c) | _ => FF)
  | .clear, [x] => CLR P ts x (K (.tuple #[]))
  | .append, [.slice x l c, .int k n] => APPZ P ts (.slice x l c) (.int k n) fun x l c => K (.slice x l c)
  | _, _ => FF
variable (W : World)
def CALL (f : FuncId) (args : List Value) (K : VK) (E : List PanicEntry → Hp → Prop) : Hp → Prop := fun s => Does P W f args.toArray s (endK K E)
def CALLV (f : Value) (args : List Value) (K : VK) (E : List PanicEntry → Hp → Prop) : Hp → Prop := fun s => DoesV P W f args.toArray s (endK K E)
def mth (t : TypeId) (name : String) : Option FuncId :=
  match P.info? t with
  | none => none
  | some i => match i.methods.toList.find? (·.name == name) with
    | none => none
    | some m => match m.path.toList, m.func with
      | [], some (f, q) => (match P.underlying t, q with
        | some (.pointer _), true => some f
        | some (.pointer _), false => none
        | some _, false => some f
        | _, _ => none)
      | _, _ => none
def INV (x : Value) (name : String) (args : List Value) (K : VK) (E : List PanicEntry → Hp → Prop) : Hp → Prop :=
  match x with
  | .iface t v => (match mth P t name with
    | some f => CALL P W f (v :: args) K E
    | none => FF)
  | _ => FF
def isIf (t : TypeId) : Bool := match P.underlying t with | some (.interface _) => true | none => true | _ => false
def PAN (x : Value) (E : List PanicEntry → Hp → Prop) : Hp → Prop := match x with | .iface t v => E [{ v := .iface t v, recovered := false }] | _ => FF
def exT : List Oper → Nat → Nat → Option TypeId
  | [], _, _ => none
  | o :: r, d, i => match o.op with
    | .extract (.tmp e) j => (match Nat.beq e d && Nat.beq j i with | true => some o.type | false => exT r d i)
    | _ => exT r d i
def ENTY (r : List Oper) (o : Oper) (v : Value) (K : VK) : Hp → Prop :=
  match o.op, o.dst with
  | .entry _, some d => (match exT r d 0, exT r d 1 with
    | some t, some u => (match isAg P t || isAg P u with
      | true => TUP v fun l => tyTs P [t, u] l fun vs => K (.tuple vs.toArray)
      | false => K v)
    | _, _ => K v)
  | _, _ => K v
def vop (o : Oper) (t : Tm) (K : VK) (E : List PanicEntry → Hp → Prop) : Hp → Prop :=
  match o.op with
  | .move x | .assign x => K (ev t x)
  | .pick c a b => (match ev t c with
    | .bool q => BR q (K (ev t a)) (K (ev t b))
    | _ => FF)
  | .alloc e => (match hasZero P e with | true => NEWZ P e fun b => K (.pointer (some ⟨b, 0, none⟩)) | false => FF)
  | .box e x => SZ P e fun m => CS (isAg P e) (ev t x) m fun cs => NEW e cs fun b => K (.pointer (some ⟨b, 0, none⟩))
  | .build ty ps => (match hasZero P ty && szs P ty with
    | true => BLD (placeOf P ty) (zc P ty) (ps.toList.map fun (i, x) => (i, ev t x)) fun cs => K (.agg cs.toArray)
    | false => FF)
  | .buildSlice ty len ps => BSL P ty len (ps.toList.map fun (i, x) => (i, ev t x)) K
  | .load ty x => LD P ty (ev t x) K
  | .store ty p x => ST P ty (ev t p) (ev t x) (K undef)
  | .nilCheck x => nck (ev t x) K
  | .binOp op ty x y _ => (match isNilC y with | true => nilEq P op ty (ev t x) K | false => (match isNilS y with | true => nilSl P op ty (ev t x) K | false => bin P op ty (ev t x) (ev t y) K))
  | .typeAssert x _ ty ok => tas P ty ok (ev t x) K
  | .unOp op _ x => un op (ev t x) K
  | .convert z d x => (match Nat.beq z d && isSl P z with
    | true => SLV P (convert z d (ev t x)) fun x l c => K (.slice x l c)
    | false => CVT P z d (ev t x) K)
  | .makeInterface ty x => (match isIf P ty with | false => K (.iface ty (ev t x)) | true => FF)
  | .makeFunc fn a b => K (.func fn (a.toList.map (ev t)).toArray (b.toList.map (ev t)).toArray)
  | .makeSlice ty l c => mks P ty (ev t l) (ev t c) K
  | .fieldAddr ty x j => fad P ty (ev t x) j K
  | .field ty x j => fld P ty (ev t x) j K
  | .indexAddr ty x i => idx P ty (ev t x) (ev t i) K
  | .slice ty x lo hi none => slc P ty (ev t x) (lo.map (ev t)) (hi.map (ev t)) K
  | .slice ty x lo hi (some m) => SL3 P ty (ev t x) (lo.map (ev t)) (hi.map (ev t)) (ev t m) fun x l c => K (.slice x l c)
  | .extract x j => (match ev t x with
    | .tuple a => (match a.toList[j]? with | some v => K v | none => FF)
    | _ => FF)
  | .makeMap _ none => MKM fun b => K (.map (some b))
  | .lookup ty x i ok => LKP P ty (ev t x) (ev t i) ok fun v => tyR P o.type v K
  | .mapUpdate ty m k x => MUP P ty (ev t m) (ev t k) (ev t x) (K undef)
  | .insert ty m k x => MUP P ty (ev t m) (ev t k) (ev t x) (K undef)
  | .range ty x => RNM P ty (ev t x) fun b => K (.pointer (some ⟨b, 0, none⟩))
  | .next it false => NXM P (ev t it) (K (.tuple #[.bool false])) fun k x => K (.tuple #[.bool true, k, x])
  | .entry it => ENT P (ev t it) fun k x => K (.tuple #[k, x])
  | .index ty x i => ixv P ty (ev t x) (ev t i) K
  | .panic x => PAN (ev t x) E
  | .call c => (match c.callee with
    | .value (.func f) => (match isExt P f with
      | true => EXT P f (c.args.toList.map (ev t)) fun v => tyR P o.type v K
      | false => CALL P W f (c.args.toList.map (ev t)) (fun v => tyR P o.type v K) E)
    | .value x => CALLV P W (ev t x) (c.args.toList.map (ev t)) (fun v => tyR P o.type v K) E
    | .invoke x m => INV P W (ev t x) m (c.args.toList.map (ev t)) (fun v => tyR P o.type v K) E
    | .builtin b => bltin P b c.argTypes.toList (c.args.toList.map (ev t)) K)
  | _ => FF
variable (n : Nat) (rs : List Nat)
def grd (d : Option Nat) (want : Bool) (t : Tm) (run skip : Tm → Hp → Prop) : Hp → Prop :=
  match d with
  | none => skip t
  | some d => match t d with
    | .bool b => BR b ((match want with | true => run | false => skip) (upd n d (.bool true) t)) ((match want with | true => skip | false => run) (upd n d (.bool false) t))
    | .tuple _ => skip t
    | _ => FF
def dstOf (ops : List Oper) (j : Nat) : Option Nat := (ops[j]?).bind (·.dst)
def vrun (rd : Bool) (r : List Oper) (o : Oper) (K : Exit → Tm → Hp → Prop) (rest : Tm → Hp → Prop) (t : Tm) : Hp → Prop :=
  match o.op, rd with
  | .defer { callee := .value x, args, .. }, false => (match ev t x, t n with
    | .func (.func f) ⟨[]⟩ cap, .tuple ⟨[]⟩ => rest (updo n o.dst undef (setD n (.tuple [.func (.func f) #[] cap, .tuple (args.toList.map (ev t)).toArray].toArray) t))
    | _, _ => FF)
  | .defer _, _ => FF
  | _, _ => vop P W o t (fun v => ENTY P r o v fun v => rest (updo n o.dst v t)) (fun c => K (.panic c) (prj rs t))
def vops (rd : Bool) (ops : List Oper) (K : Exit → Tm → Hp → Prop) : List Oper → Tm → Hp → Prop
  | [], t => K .normal t
  | o :: r, t =>
    match o.guard with
    | none => vrun P W n rs rd r o K (vops rd ops K r) t
    | some (j, want) => grd n (dstOf ops j) want t (vrun P W n rs rd r o K (vops rd ops K r)) fun t => vops rd ops K r (updo n o.dst undef t)
end
def binds (e : Edge) : Bool := match e.ground with | .textOnly _ => false | .gcOnly _ => false | _ => true
def preds (o : Oper) : List Nat := (o.after.toList.filter binds).map (·.on)
def orL : List Nat → Nat
  | [] => 0
  | x :: l => Nat.lor x (orL l)
def masks : List Oper → List Nat → List Nat
  | [], acc => acc
  | o :: r, acc => masks r (acc ++ [orL ((preds o).map fun p => Nat.lor (2 ^ p) (acc.getD p 0))])
def bit (m i : Nat) : Bool := Nat.testBit m i
def rdsOp (x : Operand) : List Nat := match x with | .tmp t => [t] | _ => []
def reads (ops : List Oper) (o : Oper) : List Nat := (o.op.operands.toList.flatMap rdsOp) ++ (match o.guard with | some (g, _) => (match dstOf ops g with | some d => [d] | none => []) | none => [])
def quiet (o : Oper) : Bool :=
  match o.op with
  | .move _ | .pick .. | .build .. | .load .. | .nilCheck _ | .binOp .. | .unOp .. | .makeInterface .. | .makeFunc .. | .fieldAddr .. | .indexAddr .. | .extract .. => true
  | .convert z d _ => !Nat.beq z d
  | .call { callee := .builtin .len, .. } => true
  | _ => false
def isLoad (o : Oper) : Bool := match o.op with | .load .. => true | _ => false
def isDefer (o : Oper) : Bool := match o.op with | .defer .. => true | .select .. => true | .call { callee := .builtin .recover, .. } => true | _ => false
def hitsL (d : Option Nat) (l : List Nat) : Bool := match d with | some d => l.any (Nat.beq d) | none => false
def sameD (d e : Option Nat) : Bool := match d, e with | some d, some e => Nat.beq d e | _, _ => false
def pairOk (ops : List Oper) (ms : List Nat) (i : Nat) (x : Oper) (j : Nat) (y : Oper) : Bool :=
  (!(hitsL x.dst (reads ops y) || sameD x.dst y.dst) || bit (ms.getD j 0) i) &&
  (!(hitsL y.dst (reads ops x) || sameD y.dst x.dst) || (!quiet y && bit (ms.getD j 0) i))
def rowOk (ops : List Oper) (ms : List Nat) (j : Nat) (y : Oper) : Nat → List Oper → Bool
  | _, [] => true
  | i, x :: r => (Nat.ble j i || pairOk ops ms i x j y) && rowOk ops ms j y (i + 1) r
def fieldOk (P : Program) (o : Oper) : Bool := match o.op with
  | .fieldAddr t _ j => (match P.underlying t with
    | some (.struct fs) => (match fs.toList[j]? with
      | some f => (match P.info? f.type with | some i => !Nat.beq i.size 0 | none => false)
      | none => false)
    | _ => false)
  | .convert _ d _ => (match P.underlying d with | some (.int _) => true | _ => false)
  | .call { callee := .builtin .len, argTypes, .. } => (match (argTypes.toList[0]?).bind P.underlying with | some (.map ..) => false | _ => true)
  | _ => true
def selfOk (P : Program) (ops : List Oper) (rs : List Nat) (y : Oper) : Bool :=
  (!quiet y || (!hitsL y.dst (reads ops y) && fieldOk P y)) && (!isLoad y || y.dst.isSome) && (!quiet y || !hitsL y.dst rs)
def allOk (P : Program) (ops : List Oper) (ms rs : List Nat) : Nat → List Oper → Bool
  | _, [] => true
  | j, y :: r => rowOk ops ms j y 0 ops && selfOk P ops rs y && !isDefer y && ((preds y).all fun p => Nat.blt p j) && allOk P ops ms rs (j + 1) r
def drOk (P : Program) (rs : List Nat) (ops : List Oper) : Bool := P.follows .mixedOrders && allOk P ops (masks ops []) rs 0 ops
def memL (i : Nat) (l : List Nat) : Bool := l.any (Nat.beq i)
def readyB (o : Oper) (i : Nat) (L : List Nat) : Bool := !memL i L && (preds o).all fun p => memL p L
def findQ (L : List Nat) : List Oper → Nat → Option (Nat × Oper)
  | [], _ => none
  | o :: r, i => match quiet o && readyB o i L with | true => some (i, o) | false => findQ L r (i + 1)
def findE (L : List Nat) : List Oper → Nat → List (Nat × Oper)
  | [], _ => []
  | o :: r, i => match !quiet o && readyB o i L with | true => (i, o) :: findE L r (i + 1) | false => findE L r (i + 1)
def CONJ : List (Hp → Prop) → Hp → Prop
  | [], _ => True
  | [x], s => x s
  | x :: l, s => x s ∧ CONJ l s
def ANDS (x K : Hp → Prop) : Hp → Prop := fun s => x s ∧ K s
section
variable (P : Program) (W : World) (n : Nat) (rs : List Nat)
def sames (ops : List Oper) (m : Nat) (t : Tm) : List Nat → (Hp → Prop) → Hp → Prop
  | [], K => K
  | q :: r, K => match ops[q]? with
    | none => sames ops m t r K
    | some o => match isLoad o && !bit m q, o.dst with
      | true, some d =>
        (match o.guard with
        | none => ANDS (vop P W o t (fun v _ => v = t d) fun _ => FF) (sames ops m t r K)
        | some (j, want) => ANDS (grd n (dstOf ops j) want t (fun t => vop P W o t (fun v _ => v = t d) fun _ => FF) fun _ _ => True) (sames ops m t r K))
      | _, _ => sames ops m t r K
def amask (acc : Bool) (ops : List Oper) (ms : List Nat) (L : List Nat) (i : Nat) : Nat :=
  match acc with
  | false => ms.getD i 0
  | true => Nat.lor (ms.getD i 0) (orL (L.map fun q => match ops[q]? with | some o => (match quiet o with | true => 0 | false => ms.getD q 0) | none => 0))
def dops (acc : Bool) (ops : List Oper) (ms : List Nat) (K : Exit → Tm → Hp → Prop) : Nat → List Nat → Tm → Hp → Prop
  | 0, _, _ => FF
  | f + 1, L, t =>
    match findQ L ops 0 with
    | some (i, o) =>
      let run : Tm → Hp → Prop := fun t => vop P W o t (fun v => dops acc ops ms K f (i :: L) (updo n o.dst v t)) fun _ => FF
      (match o.guard with
      | none => run t
      | some (j, want) => grd n (dstOf ops j) want t run fun t => dops acc ops ms K f (i :: L) (updo n o.dst undef t))
    | none => match findE L ops 0 with
      | [] => K .normal t
      | es => CONJ (es.map fun (i, o) =>
        let run : Tm → Hp → Prop := fun t => vop P W o t (fun v => sames P W n ops (amask acc ops ms L i) t L (dops acc ops ms K f (i :: L) (updo n o.dst v t))) fun c => K (.panic c) (prj rs t)
        match o.guard with
        | none => run t
        | some (j, want) => grd n (dstOf ops j) want t run fun t => dops acc ops ms K f (i :: L) (updo n o.dst undef t))
def ALLK : List Kd → (List Value → Prop) → Prop
  | [], F => F []
  | .i k :: ks, F => ∀ x, ALLK ks fun vs => F (.int k x :: vs)
  | .b :: ks, F => ∀ x, ALLK ks fun vs => F (.bool x :: vs)
  | .s :: ks, F => ∀ x, ALLK ks fun vs => F (.string x :: vs)
  | .p :: ks, F => ∀ x, ALLK ks fun vs => F (.pointer x :: vs)
  | .l :: ks, F => ∀ x l c, ALLK ks fun vs => F (.slice x l c :: vs)
  | .m :: ks, F => ∀ x, ALLK ks fun vs => F (.map x :: vs)
  | .v :: ks, F => ∀ x, ALLK ks fun vs => F (x :: vs)
def isK : Kd → Value → Prop
  | .i k, v => ∃ x, v = .int k x
  | .b, v => ∃ x, v = .bool x
  | .s, v => ∃ x, v = .string x
  | .p, v => ∃ x, v = .pointer x
  | .l, v => ∃ x l c, v = .slice x l c
  | .m, v => ∃ x, v = .map x
  | .v, _ => True
def areK : List Kd → List Value → Prop
  | [], [] => True
  | k :: ks, v :: vs => isK k v ∧ areK ks vs
  | _, _ => False
def NX (a b : List Value) (p : Hp → Prop) : Hp → Prop := fun s => a = b ∧ p s
def LOOPN (ks : List Kd) (B : List Value → (List Value → Hp → Prop) → Hp → Prop) (xs : List Value) : Hp → Prop := fun s =>
  ∃ (I : List Value → Hp → Prop) (μ : List Value → Hp → Nat), (areK ks xs ∧ I xs s) ∧ ALLK ks fun ys => ∀ s, I ys s → B ys (fun zs s' => areK ks zs ∧ I zs s' ∧ μ zs s' < μ ys s) s
def Ext (s s' : Hp) : Prop := s.size ≤ s'.size ∧ ∀ b, b < s.size → s'[b]? = s[b]?
def IterC (g : Value) (xs : List (List Value)) (R : Hp → Prop) : Prop := (∃ f a b, g = .func (.func f) a b) ∧
  ∀ (y : Value) (I : Nat → Hp → Prop) (J : Hp → Prop) (s : Hp), (∀ k s, I k s → R s) → (∀ k s s', I k s → Ext s s' → I k s') →
    (∀ k x, xs[k]? = some x → ∀ s, I k s → DoesV P W y x.toArray s fun e s' => (e = .returned (.bool true) ∧ I (k + 1) s') ∨ (e = .returned (.bool false) ∧ J s')) →
    I 0 s → DoesV P W g #[y] s fun e s' => (∃ v, e = .returned v) ∧ (I xs.length s' ∨ J s')
def FRM (m : Bool) (F X : Prop) : Prop := match m with | false => X | true => F ∧ X
theorem FRM_intro {m : Bool} {F X : Prop} (h : m = true → F) (x : X) : FRM m F X := by
  cases m with
  | false => exact x
  | true => exact ⟨h rfl, x⟩
theorem FRM_frame {m : Bool} {F X : Prop} (h : FRM m F X) : m = true → F := by
  cases m with
  | false => intro h; cases h
  | true => exact fun _ => h.1
theorem FRM_val {m : Bool} {F X : Prop} (h : FRM m F X) : X := by
  cases m with
  | false => exact h
  | true => exact h.2
def IterG (g : Value) (N : Nat) (Y : Nat → List Value → Hp → Prop) (R : Hp → Prop) (m : Bool) : Prop := (∃ f a b, g = .func (.func f) a b) ∧
  ∀ (y : Value) (I : Nat → Hp → Prop) (J : Hp → Prop) (s : Hp), oneCell y = true → (∀ k s, I k s → R s) →
    (∀ k s1 s2, I k s1 → s1.size ≤ s2.size → (∀ b, b < s1.size → ¬ (m = true ∧ s.size ≤ b) → s2[b]? = s1[b]?) → I k s2) →
    (m = true → ∀ s1 s2, J s1 → s1.size ≤ s2.size → (∀ b, b < s1.size → ¬ s.size ≤ b → s2[b]? = s1[b]?) → J s2) →
    (∀ k x s1, k < N → I k s1 → Y k x s1 → DoesV P W y x.toArray s1 fun e s2 => FRM m (∀ b, s.size ≤ b → b < s1.size → s2[b]? = s1[b]?) ((e = .returned (.bool true) ∧ I (k + 1) s2) ∨ (e = .returned (.bool false) ∧ J s2))) →
    I 0 s → DoesV P W g #[y] s fun e s' => (∃ v, e = .returned v) ∧ (I N s' ∨ J s')
def Blind (R : Hp → Prop) : Prop := ∀ (s : Hp) (l : Nat) (o : Obj), s[l]? = some o → hidden o = true → R (s.setIfInBounds l junk) → R s
def RNGN (g : Value) (np : Nat) (B : List Value → (Option Code → Hp → Prop) → Hp → Prop) (A : Option Code → Hp → Prop) : Hp → Prop := fun s =>
  ∃ (N : Nat) (Y : Nat → List Value → Hp → Prop) (R : Hp → Prop) (m : Bool) (I : Nat → Hp → Prop) (S : Code → Hp → Prop), IterG P W g N Y R m ∧ Blind R ∧
    (∀ k x s l o, s[l]? = some o → hidden o = true → Y k x s → Y k x (s.setIfInBounds l junk)) ∧ (∀ k s, I k s → R s) ∧
    (∀ k s1 s2, I k s1 → s1.size ≤ s2.size → (∀ b, b < s1.size → ¬ (m = true ∧ s.size + 2 ≤ b) → s2[b]? = s1[b]?) → I k s2) ∧
    (m = true → ∀ c s1 s2, S c s1 → s1.size ≤ s2.size → (∀ b, b < s1.size → ¬ s.size + 2 ≤ b → s2[b]? = s1[b]?) → S c s2) ∧
    I 0 ((s.push junk).push junk) ∧
    (∀ k x s1, k < N → I k s1 → Y k x s1 → x.length = np ∧ B x (fun j s2 => FRM m (∀ b, s.size + 2 ≤ b → b < s1.size → s2[b]? = s1[b]?) (match j with | none => I (k + 1) s2 | some c => S c s2)) s1) ∧
    (∀ s, I N s → A none s) ∧ (∀ c s, S c s → A (some c) s)
theorem IterC.gen {g : Value} {xs : List (List Value)} {R : Hp → Prop} (h : IterC P W g xs R) : IterG P W g xs.length (fun k x _ => xs[k]? = some x) R false :=
  ⟨h.1, fun y I J s _ h1 h2 _ h3 h0 => h.2 y I J s h1 (fun k s1 s2 hi he => h2 k s1 s2 hi he.1 fun b hb _ => he.2 b hb)
    (fun k x hx s1 hi => h3 k x s1 (List.getElem?_eq_some_iff.1 hx).1 hi hx) h0⟩
theorem RNGN_list {g : Value} {np : Nat} {B : List Value → (Option Code → Hp → Prop) → Hp → Prop} {A : Option Code → Hp → Prop} {s : Hp}
    (h : ∃ (xs : List (List Value)) (R : Hp → Prop) (I : Nat → Hp → Prop) (S : Code → Hp → Prop), IterC P W g xs R ∧ Blind R ∧ (∀ k s, I k s → R s) ∧ (∀ k s s', I k s → Ext s s' → I k s') ∧
    I 0 ((s.push junk).push junk) ∧
    (∀ k x, xs[k]? = some x → x.length = np ∧ ∀ s, I k s → B x (fun j s' => match j with | none => I (k + 1) s' | some c => S c s') s) ∧
    (∀ s, I xs.length s → A none s) ∧ (∀ c s, S c s → A (some c) s)) : RNGN P W g np B A s := by
  obtain ⟨xs, R, I, S, h1, h2, h3, h4, h5, h6, h7, h8⟩ := h
  exact ⟨xs.length, _, R, false, I, S, h1.gen, h2, fun _ _ _ _ _ _ _ h => h, h3, fun k s1 s2 hi hs hb => h4 k s1 s2 hi ⟨hs, fun b hl => hb b hl (fun h => (by cases h.1))⟩, (fun h => (by cases h)), h5,
    fun k x s1 hk hi hx => ⟨(h6 k x hx).1, (h6 k x hx).2 s1 hi⟩, h7, h8⟩
def hasR : Code → Bool
  | .seq x y => hasR x || hasR y
  | .cond _ x y => hasR x || hasR y
  | .block _ c => hasR c
  | .loop c => hasR c
  | .scope c => hasR c
  | .rangeFunc .. => true
  | _ => false
def Same (O : Nat → Prop) (s s' : Hp) : Prop := s.size ≤ s'.size ∧ ∀ b, b < s.size → ¬ O b → s'[b]? = s[b]?
def OwnB (q : Nat → Prop) (z z1 b : Nat) : Prop := q b ∨ (z ≤ b ∧ b < z1)
def IterP (g : Value) (N : Nat) (Y : Nat → Nat → List Value → Hp → Hp → Prop) (R R0 : Hp → Prop) (q : Nat → Prop) (Fi : Prop) (Z : Nat → List PanicEntry → Prop) : Prop := (∃ f a b, g = .func (.func f) a b) ∧
  ∀ (y : Value) (I : Nat → Nat → Hp → Prop) (J : Nat → Hp → Prop) (E : Nat → List PanicEntry → Hp → Prop) (s : Hp), oneCell y = true → R0 s → (∀ z k s, I z k s → R s) →
    (∀ s0, Same q s s0 → I s0.size 0 s0) →
    (∀ z k s1 s2, s.size ≤ z → z ≤ s1.size → I z k s1 → Same (OwnB q s.size z) s1 s2 → I z k s2) →
    (∀ z s1 s2, s.size ≤ z → z ≤ s1.size → J z s1 → Same (OwnB q s.size z) s1 s2 → J z s2) →
    (∀ z c s1 s2, s.size ≤ z → z ≤ s1.size → E z c s1 → Same (OwnB q s.size z) s1 s2 → E z c s2) →
    (∀ z k x s0 s1, s.size ≤ z → z ≤ s0.size → k < N → I z k s0 → Same (OwnB q s.size z) s0 s1 → Y z k x s0 s1 → DoesV P W y x.toArray s1 fun e s2 => s1.size ≤ s2.size ∧ (∀ b, OwnB q s.size z b → b < s1.size → s2[b]? = s1[b]?) ∧
      ((e = .returned (.bool true) ∧ I z (k + 1) s2) ∨ (e = .returned (.bool false) ∧ J z s2) ∨ ∃ c, e = .panicked c ∧ E z c s2)) →
    DoesV P W g #[y] s fun e s' => ∃ z, s.size ≤ z ∧ z ≤ s'.size ∧ ((∃ v, e = .returned v ∧ ((Fi ∧ I z N s') ∨ J z s')) ∨ ∃ c, e = .panicked c ∧ (E z c s' ∨ ∃ k, Z k c ∧ I z k s'))
def RNGP (g : Value) (np : Nat) (B : List Value → (Option Code → Hp → Prop) → (List PanicEntry → Hp → Prop) → Hp → Prop) (A : Option Code → Hp → Prop) (E : List PanicEntry → Hp → Prop) : Hp → Prop := fun s =>
  ∃ (N : Nat) (Y : Nat → Nat → List Value → Hp → Hp → Prop) (R R0 : Hp → Prop) (q : Nat → Prop) (Fi : Prop) (Z : Nat → List PanicEntry → Prop) (I : Nat → Nat → Hp → Prop) (S : Nat → Code → Hp → Prop) (T : Nat → List PanicEntry → Hp → Prop),
    IterP P W g N Y R R0 q Fi Z ∧ Blind R ∧ Blind R0 ∧ (∀ z k x s0 s l o, s0[l]? = some o → s[l]? = some o → hidden o = true → Y z k x s0 s → Y z k x (s0.setIfInBounds l junk) (s.setIfInBounds l junk)) ∧ (∀ z k s, I z k s → R s) ∧
    R0 ((s.push junk).push junk) ∧ ¬ q (s.size + 1) ∧ (∀ s0, Same q ((s.push junk).push junk) s0 → I s0.size 0 s0) ∧
    (∀ z k s1 s2, s.size + 2 ≤ z → z ≤ s1.size → I z k s1 → Same (OwnB q (s.size + 2) z) s1 s2 → I z k s2) ∧
    (∀ z c s1 s2, s.size + 2 ≤ z → z ≤ s1.size → S z c s1 → Same (OwnB q (s.size + 2) z) s1 s2 → S z c s2) ∧
    (∀ z c s1 s2, s.size + 2 ≤ z → z ≤ s1.size → T z c s1 → Same (OwnB q (s.size + 2) z) s1 s2 → T z c s2) ∧
    (∀ z k x s0 s1, s.size + 2 ≤ z → z ≤ s0.size → k < N → I z k s0 → Same (OwnB q (s.size + 2) z) s0 s1 → Y z k x s0 s1 → x.length = np ∧
      B x (fun j s2 => (∀ b, OwnB q (s.size + 2) z b → b < s1.size → s2[b]? = s1[b]?) ∧ (match j with | none => I z (k + 1) s2 | some c => S z c s2))
        (fun c s2 => (∀ b, OwnB q (s.size + 2) z b → b < s1.size → s2[b]? = s1[b]?) ∧ T z c s2) s1) ∧
    (∀ z s2, s.size + 2 ≤ z → z ≤ s2.size → Fi → I z N s2 → A none s2) ∧ (∀ z c s2, s.size + 2 ≤ z → z ≤ s2.size → S z c s2 → A (some c) s2) ∧
    (∀ z c s2, s.size + 2 ≤ z → z ≤ s2.size → T z c s2 → E c s2) ∧ (∀ z k c s2, s.size + 2 ≤ z → z ≤ s2.size → Z k c → I z k s2 → E c s2)
def AFT (x r : Hp → Prop) (e : Nat → Hp → Prop) : Option Code → Hp → Prop := fun j => match j with
  | none => x
  | some .ret => r
  | some (.exit id) => e id
  | some _ => FF
def EXL : List Nat → (Nat → Hp → Prop) → Nat → Hp → Prop
  | [], _, _ => FF
  | j :: l, K, id => match Nat.beq id j with | true => K j | false => EXL l K id
abbrev Kt := Exit → Tm → Hp → Prop
def KSeq (y : Tm → Hp → Prop) (K : Kt) : Kt := fun e => match e with | .normal => y | e => K e
def KBlk (id : Nat) (K : Kt) : Kt := fun e => match e with
  | .exit j => (match Nat.beq j id with | true => K .normal | false => K (.exit j))
  | e => K e
def KLoop (ms us : List Nat) (zs : List Value) (next : List Value → Hp → Prop) (K : Kt) : Kt := fun e => match e with
  | .normal => fun t => NX (us.map t) zs (next (ms.map t))
  | e => K e
def KRnd (fin : Option Code → Hp → Prop) : Kt := fun e => match e with
  | .normal => fun _ => fin none
  | .ret => fun _ => fin (some .ret)
  | .exit id => fun _ => fin (some (.exit id))
  | _ => fun _ => FF
def KRndP (n : Nat) (fin : Option Code → Hp → Prop) (pe : List PanicEntry → Hp → Prop) : Kt := fun e => match e with
  | .normal => fun _ => fin none
  | .ret => fun _ => fin (some .ret)
  | .exit id => fun _ => fin (some (.exit id))
  | .panic c => fun t => (match t n with | .tuple ⟨[]⟩ => pe c | _ => FF)
  | _ => fun _ => FF
def KAsg (y : Tm → Hp → Prop) : Kt := fun e => match e with | .normal => y | _ => fun _ => FF
def updL (n : Nat) : List Nat → List Value → Tm → Tm
  | i :: is, v :: vs, t => updL n is vs (upd n i v t)
  | _, _, t => t
structure Ann where
  ms : List Nat := []
  ks : List Kd := []
  us : List Nat := []
  rt : Bool := false
  ex : List Nat := []
  pt : List TypeId := []
  acc : Bool := false
  pn : Bool := false
def PRM (pt : List TypeId) (ks : List Kd) (l : List Value) (K : List Value → Hp → Prop) : Hp → Prop := match pt with | [] => tyN ks l K | t :: ts => tyTs P (t :: ts) l K
def DRG (ops : List Oper) (K : Kt) (us : List Nat) (vs : List Value) : Hp → Prop := fun s => ∀ j : Tm, dops P W n rs true ops (masks ops []) K (ops.length + 1) [] (known us vs j) s
variable (an : Nat → Ann)
def vc (rd : Bool) : Code → Nat → Kt → Tm → Hp → Prop
  | .skip, _, K => K .normal
  | .region _ ops false, _, K => vops P W n rs rd ops.toList K ops.toList
  | .region id ops true, _, K => match drOk P rs ops.toList with
    | true => (match (an (2000000 + id)).rt with
      | true => fun t => DRG P W n rs ops.toList K (an (2000000 + id)).us ((an (2000000 + id)).us.map t)
      | false => dops P W n rs (an 1000000).acc ops.toList (masks ops.toList []) K (ops.toList.length + 1) [])
    | false => fun _ => FF
  | .seq x y, b, K => vc rd x b (KSeq (vc rd y b K) K)
  | .cond c x y, b, K => fun t => match ev t c with
    | .bool q => BR q (vc rd x b K t) (vc rd y b K t)
    | _ => FF
  | .block id c, _, K => vc rd c id (KBlk id K)
  | .loop c, b, K => fun t => LOOPN (an b).ks (fun ys next s => ∀ j : Tm, vc rd c b (KLoop (an b).ms (an b).us ((an b).us.map t) next K) (known (an b).ms ys (known (an b).us ((an b).us.map t) j)) s) ((an b).ms.map t)
  | .rangeFunc f ps assign body, b, K => fun t => match rd with
    | true => FF
    | false => match (an b).pn with
      | false => RNGN P W (ev t f) ps.toList.length
        (fun x fin => PRM P (an b).pt (an b).ks x fun vs => vc true assign b (KAsg (vc true body b (KRnd fin))) (updL n ps.toList vs (setD n (.tuple #[]) t)))
        (AFT (K .normal t) (match (an b).rt with | true => K .ret t | false => FF) (EXL (an b).ex fun id => K (.exit id) t))
      | true => match hasR assign || hasR body || !(rs.any (Nat.beq n)) with
        | true => FF
        | false => RNGP P W (ev t f) ps.toList.length
          (fun x fin pe => PRM P (an b).pt (an b).ks x fun vs => vc true assign b (KAsg (vc true body b (KRndP n fin pe))) (updL n ps.toList vs (setD n (.tuple #[]) t)))
          (AFT (K .normal t) (match (an b).rt with | true => K .ret t | false => FF) (EXL (an b).ex fun id => K (.exit id) t)) (fun c => K (.panic c) (prj rs t))
  | .exit id, _, K => K (.exit id)
  | .scope c, b, K => vc rd c b K
  | .label _, _, K => K .normal
  | .ret, _, K => K .ret
  | .goto _, _, _ => fun _ => FF
  | .refuse _, _, _ => fun _ => FF
def KS (rd : Bool) (y : Code) (b : Nat) (K : Kt) : Kt := KSeq (vc P W n rs an rd y b K) K
def sub : Code → List Nat → Code
  | c, [] => c
  | .seq x _, 0 :: p => sub x p
  | .seq _ y, 1 :: p => sub y p
  | .cond _ x _, 0 :: p => sub x p
  | .cond _ _ y, 1 :: p => sub y p
  | .block _ x, _ :: p => sub x p
  | .loop x, _ :: p => sub x p
  | .scope x, _ :: p => sub x p
  | .rangeFunc _ _ x _, 0 :: p => sub x p
  | .rangeFunc _ _ _ y, 1 :: p => sub y p
  | c, _ => c
def DoesD (f : FuncId) (args : List Value) (c : Option (List PanicEntry)) (s : Hp) (R : Hp → Prop) : Prop := callable P f = true ∧
  ∀ (X : Nat → Prop) (h : Hp) (d : Nat), Vis X h s → CallsDIn Fence.wide 0 P f args.toArray (match c with | none => .returning | some c => .panicking c) (wat W h d)
    fun e u w' => (∃ v, e = .returned v) ∧ settle u = .returning ∧ Now W X h R w'
def DEF (d : Value) (c : Option (List PanicEntry)) (K : Hp → Prop) : Hp → Prop :=
  match d with
  | .tuple ⟨[.func (.func f) ⟨[]⟩ cap, .tuple args]⟩ => fun s => DoesD P W f (args.toList ++ cap.toList) c s K
  | _ => FF
def resL : List ResultVar → Tm → (List Value → Hp → Prop) → Hp → Prop
  | [], _, K => K []
  | .tmp i :: r, t, K => resL r t fun vs => K (t i :: vs)
  | .cell a ty :: r, t, K => LD P ty (t a) fun v => resL r t fun vs => K (v :: vs)
def one (vs : List Value) : Value := match vs with | [v] => v | vs => .tuple vs.toArray
def fin (rv : List ResultVar) (R : Ending → Hp → Prop) : Kt := fun e t => match e with
  | .normal | .ret => (match t n with
    | .tuple ⟨[]⟩ => resL P rv t fun vs => R (.returned (one vs))
    | d => DEF P W d none (resL P rv t fun vs => R (.returned (one vs))))
  | .panic c => (match t n with
    | .tuple ⟨[]⟩ => R (.panicked c)
    | d => DEF P W d (some c) (resL P rv t fun vs => R (.returned (one vs))))
  | _ => FF
def slotsOf : List ResultVar → List Nat
  | [] => []
  | .tmp i :: r => i :: slotsOf r
  | .cell a _ :: r => a :: slotsOf r
def bodyOf (fn : Func) : Code := match fn.body with | some c => c | none => .refuse ""
def vfun (fn : Func) (args : List Value) (R : Ending → Hp → Prop) : Hp → Prop :=
  vc P W fn.ntmps (fn.ntmps :: slotsOf fn.results.toList) an false (bodyOf fn) 0 (fin P W fn.ntmps fn.results.toList R) (start args 0)
end
section
variable {P : Program} {s : Hp}
theorem spq_program {K : Program → Prop} : spq P program K s = K P := rfl
theorem spq_load {a : Addr} {m : Mode} {K : Value → Prop} : spq P (load a m) K s = ∃ v, cellAt s a = some v ∧ K v := rfl
theorem spq_shape {r : Nat} {K : Option (TypeId × Nat) → Prop} : spq P (shape r) K s = K (shapeAt s r) := rfl
theorem spq_und {t : TypeId} {d : TypeDesc} {K : TypeDesc → Prop} (h : P.underlying t = some d) : spq P (underlying t) K s = K d := by
  simp [underlying, spq_bind, spq_program, h, spq_pure]
theorem spq_info {t : TypeId} {d : TypeInfo} {K : TypeInfo → Prop} (h : P.info? t = some d) : spq P (typeInfo t) K s = K d := by
  simp [typeInfo, spq_bind, spq_program, h, spq_pure]
theorem spq_size {t : TypeId} {d : TypeInfo} {K : Nat → Prop} (h : P.info? t = some d) : spq P (sizeOf t) K s = K d.size := by
  unfold sizeOf; rw [spq_bind, spq_info h]; rfl
theorem sp_program {K : Program → Hp → Prop} {E : Value → Hp → Prop} : sp P program K E s = K P s := rfl
theorem sp_und {t : TypeId} {d : TypeDesc} {K : TypeDesc → Hp → Prop} {E : Value → Hp → Prop} (h : P.underlying t = some d) : sp P (underlying t) K E s = K d s := by
  simp [underlying, sp_bind, sp_program, h, sp_pure]
theorem sp_info {t : TypeId} {d : TypeInfo} {K : TypeInfo → Hp → Prop} {E : Value → Hp → Prop} (h : P.info? t = some d) : sp P (typeInfo t) K E s = K d s := by
  simp [typeInfo, sp_bind, sp_program, h, sp_pure]
theorem sp_size {t : TypeId} {d : TypeInfo} {K : Nat → Hp → Prop} {E : Value → Hp → Prop} (h : P.info? t = some d) : sp P (sizeOf t) K E s = K d.size s := by
  unfold sizeOf; rw [sp_bind, sp_info h]; rfl
theorem sp_new {o : Obj} {K : Nat → Hp → Prop} {E : Value → Hp → Prop} : sp P (newObj o) K E s = K s.size (s.push o) := rfl
theorem SZ_elim {t : TypeId} {K : Nat → Hp → Prop} (h : SZ P t K s) : ∃ i, P.info? t = some i ∧ K i.size s := by
  unfold SZ at h
  cases hi : P.info? t with
  | none => rw [hi] at h; exact h.elim
  | some i => rw [hi] at h; exact ⟨i, rfl, h⟩
theorem SO_elim {α : Type} {o : Option α} {K : α → Hp → Prop} (h : SO o K s) : ∃ a, o = some a ∧ K a s := by
  cases o with
  | some a => exact ⟨a, rfl, h⟩
  | none => exact h.elim
theorem rd1_elim {k : Kd} {a : Addr} {K : VK} (h : rd1 k a K s) : ∃ v, cellAt s a = some v ∧ K v s ∧ isK k v := by
  cases k with
  | i k => obtain ⟨n, h1, h2⟩ := h; exact ⟨_, h1, h2, n, rfl⟩
  | b => obtain ⟨n, h1, h2⟩ := h; exact ⟨_, h1, h2, n, rfl⟩
  | s => obtain ⟨n, h1, h2⟩ := h; exact ⟨_, h1, h2, n, rfl⟩
  | p => obtain ⟨n, h1, h2⟩ := h; exact ⟨_, h1, h2, n, rfl⟩
  | l => obtain ⟨x, l, c, h1, h2⟩ := h; exact ⟨_, h1, h2, x, l, c, rfl⟩
  | m => obtain ⟨n, h1, h2⟩ := h; exact ⟨_, h1, h2, n, rfl⟩
  | v => obtain ⟨n, h1, h2⟩ := h; exact ⟨_, h1, h2, trivial⟩
theorem rd1_intro {k : Kd} {a : Addr} {K : VK} {v : Value} (h1 : cellAt s a = some v) (h2 : isK k v) (h3 : K v s) : rd1 k a K s := by
  cases k with
  | i k => obtain ⟨n, rfl⟩ := h2; exact ⟨n, h1, h3⟩
  | b => obtain ⟨n, rfl⟩ := h2; exact ⟨n, h1, h3⟩
  | s => obtain ⟨n, rfl⟩ := h2; exact ⟨n, h1, h3⟩
  | p => obtain ⟨n, rfl⟩ := h2; exact ⟨n, h1, h3⟩
  | l => obtain ⟨x, l, c, rfl⟩ := h2; exact ⟨x, l, c, h1, h3⟩
  | m => obtain ⟨n, rfl⟩ := h2; exact ⟨n, h1, h3⟩
  | v => exact ⟨v, h1, h3⟩
theorem rdN_spq : ∀ (ks : List Kd) (a : Addr) (i : Nat) (acc : Array Value) (K : List Value → Hp → Prop), rdN ks a i K s →
    spq P (loadCellsFrom a i ks.length acc) (fun arr => ∃ vs, arr = acc ++ vs.toArray ∧ K vs s) s
  | [], a, i, acc, K, h => ⟨[], by simp, h⟩
  | k :: ks, a, i, acc, K, h => by
    obtain ⟨v, h1, h2, _⟩ := rd1_elim h
    simp only [List.length_cons, loadCellsFrom, spq_bind, spq_load]
    refine ⟨v, h1, spq_mono P _ s ?_ (rdN_spq ks a (i + 1) (acc.push v) _ h2)⟩
    rintro arr ⟨vs, rfl, h⟩
    exact ⟨v :: vs, by simp, h⟩
theorem agO_true {t : TypeId} (h : agO P t = some true) : ∃ d, P.underlying t = some d ∧ (∀ K : Bool → Prop, spq P (isAgg t) K s = K true) ∧ ∀ (K : Bool → Hp → Prop) (E : Value → Hp → Prop) (s : Hp), sp P (isAgg t) K E s = K true s := by
  unfold agO at h
  split at h
  · rename_i fs hu; exact ⟨_, hu, fun K => by simp [isAgg, spq_bind, spq_und hu, spq_pure], fun K E s => by simp [isAgg, sp_bind, sp_und hu, sp_pure]⟩
  · rename_i a b hu; exact ⟨_, hu, fun K => by simp [isAgg, spq_bind, spq_und hu, spq_pure], fun K E s => by simp [isAgg, sp_bind, sp_und hu, sp_pure]⟩
  · cases h
  · cases h
theorem agO_false {t : TypeId} (h : agO P t = some false) : ∃ d, P.underlying t = some d ∧ ∀ K : Bool → Prop, spq P (isAgg t) K s = K false := by
  unfold agO at h
  split at h
  · cases h
  · cases h
  · rename_i d h1 h2 hu
    refine ⟨_, hu, fun K => ?_⟩
    simp only [isAgg, spq_bind, spq_und hu]
    cases d <;> first | rfl | exact absurd rfl (h1 _) | exact absurd rfl (h2 _ _)
  · cases h
theorem beqT {a b : Nat} (h : Nat.beq a b = true) : a = b := Nat.eq_of_beq_eq_true h
theorem LD_spq {t : TypeId} {p : Value} {K : VK} (h : LD P t p K s) : spq P (Instr.loadAt t p) (fun v => K v s) s := by
  unfold LD at h
  cases p <;> first | exact h.elim | skip
  rename_i o
  obtain ⟨a, rfl, h'⟩ := SO_elim h
  clear h
  simp only [Instr.loadAt, Instr.sureAddr, spq_bind, spq_pure, loadVar]
  cases hag : agO P t with
  | none => simp only [hag] at h'; exact h'.elim
  | some b =>
    cases b with
    | true =>
      simp only [hag] at h'
      obtain ⟨i, hi, h⟩ := SZ_elim h'
      clear h'
      obtain ⟨d, _, hag', _⟩ := agO_true (s := s) hag
      rw [hag', if_pos rfl]
      cases hb : Nat.beq (ksOf P t).length i.size with
      | false => simp only [hb] at h; exact h.elim
      | true =>
        simp only [hb] at h
        simp only [spq_bind, spq_size hi, loadCells]
        rw [← beqT hb]
        refine spq_mono P _ s ?_ (rdN_spq (P := P) _ a 0 #[] _ h)
        rintro arr ⟨vs, rfl, h⟩
        simpa [spq_pure] using h
    | false =>
      simp only [hag] at h'
      obtain ⟨d, _, hag'⟩ := agO_false (s := s) hag
      rw [hag', if_neg (by simp), spq_load]
      obtain ⟨v, h1, h2, _⟩ := rd1_elim h'
      exact ⟨v, h1, h2⟩
theorem wrN_sp : ∀ (vs : List Value) (a : Addr) (i : Nat) (K : Hp → Prop) (E : Value → Hp → Prop) (s : Hp), wrN vs a i K s → sp P (storeCells a vs i) (fun _ s' => K s') E s
  | [], a, i, K, E, s, h => h
  | v :: vs, a, i, K, E, s, h => by
    obtain ⟨h1, h2⟩ := h
    simp only [storeCells, sp_bind]
    exact ⟨h1, wrN_sp vs a (i + 1) K E _ h2⟩
theorem CS_elim {ag : Bool} {v : Value} {n : Nat} {K : List Value → Hp → Prop} (h : CS ag v n K s) : v.cells.size = n ∧ K v.cells.toList s ∧ (ag = true → ∃ c, v = .agg c) ∧ (ag = false → n = 1 ∧ v.cells = #[v]) := by
  unfold CS at h
  cases ag with
  | true =>
    cases v <;> first | exact h.elim | skip
    rename_i c
    cases hb : Nat.beq c.toList.length n with
    | false => simp only [hb] at h; exact h.elim
    | true => simp only [hb] at h; exact ⟨by have := beqT hb; simpa [Value.cells] using this, h, fun _ => ⟨c, rfl⟩, (fun h => (by cases h))⟩
  | false =>
    cases hb : Nat.beq n 1 with
    | false => simp only [hb] at h; exact h.elim
    | true =>
      simp only [hb] at h
      unfold ONE at h
      cases h1 : oneCell v with
      | false => simp only [h1] at h; exact h.elim
      | true =>
        simp only [h1] at h
        have := beqT hb
        subst this
        have hc : v.cells = #[v] := by cases v <;> first | rfl | cases h1
        exact ⟨by rw [hc]; rfl, by rw [hc]; exact h, (fun h => (by cases h)), fun _ => ⟨rfl, hc⟩⟩
theorem ST_sp {t : TypeId} {p v : Value} {K : Hp → Prop} {E : Value → Hp → Prop} (h : ST P t p v K s) : sp P (Instr.storeAt t p v) (fun _ s' => K s') E s := by
  unfold ST at h
  cases p <;> first | exact h.elim | skip
  obtain ⟨a, rfl, h'⟩ := SO_elim h
  obtain ⟨i, hi, h2⟩ := SZ_elim h'
  obtain ⟨h1, h2, _⟩ := CS_elim h2
  simp only [Instr.storeAt, Instr.sureAddr, sp_bind, sp_pure, storeVar, sp_size hi]
  rw [if_neg (by simpa using h1)]
  exact wrN_sp _ _ _ _ _ _ h2
theorem zero_of {t : TypeId} (h : hasZero P t = true) : ∃ i v, P.info? t = some i ∧ i.zero = some v ∧ zc P t = v.cells.toList := by
  unfold hasZero at h
  split at h
  · rename_i v hv
    cases hi : P.info? t with
    | none => rw [hi] at hv; cases hv
    | some i =>
      rw [hi] at hv
      exact ⟨i, v, rfl, hv, by unfold zc; rw [hi]; simp at hv; simp [hv]⟩
  · cases h
theorem spq_zero {t : TypeId} {i : TypeInfo} {v : Value} {K : Value → Prop} (hi : P.info? t = some i) (hv : i.zero = some v) : spq P (zeroValue t) K s = K v := by
  simp [zeroValue, spq_bind, spq_info hi, hv, spq_pure]
theorem sp_zero {t : TypeId} {i : TypeInfo} {v : Value} {K : Value → Hp → Prop} {E : Value → Hp → Prop} (hi : P.info? t = some i) (hv : i.zero = some v) : sp P (zeroValue t) K E s = K v s := by
  simp [zeroValue, sp_bind, sp_info hi, hv, sp_pure]
theorem foldl_zip : ∀ (vs : List Value) (cs : Array Value) (off k : Nat), ((vs.zipIdx k).foldl (fun (cs : Array Value) (x : Value × Nat) => cs.setIfInBounds (off + x.2) x.1) cs) = (setL cs.toList (off + k) vs).toArray
  | [], cs, off, k => by simp [setL]
  | v :: vs, cs, off, k => by
    rw [List.zipIdx_cons, List.foldl_cons, foldl_zip vs _ off (k + 1), setL]
    simp [Nat.add_assoc]
theorem BLD_fill {place : Nat → Option (Nat × Nat × Bool)} : ∀ (ps : List (Nat × Value)) (cs : List Value) (K : List Value → Hp → Prop), BLD place cs ps K s →
    ∃ ds, Instr.fill (fun i => (place i).map fun x => (x.1, x.2.1)) cs.toArray ps = some ds ∧ K ds.toList s
  | [], cs, K, h => ⟨cs.toArray, rfl, by simpa [BLD] using h⟩
  | (i, v) :: r, cs, K, h => by
    unfold BLD at h
    cases hp : place i with
    | none => simp only [hp] at h; exact h.elim
    | some x =>
      obtain ⟨off, n, ag⟩ := x
      simp only [hp] at h
      obtain ⟨h1, h2, _⟩ := CS_elim h
      cases hle : Nat.ble (off + n) cs.length with
      | false => simp only [hle] at h2; exact h2.elim
      | true =>
        simp only [hle] at h2
        have hle := Nat.le_of_ble_eq_true hle
        obtain ⟨ds, hd, hk⟩ := BLD_fill r _ K h2
        refine ⟨ds, ?_, hk⟩
        unfold Instr.fill
        simp only [hp, Option.map_some]
        rw [if_neg (by simp [h1]; omega)]
        have e : (v.cells.zipIdx.foldl (fun (cs : Array Value) (x : Value × Nat) => cs.setIfInBounds (off + x.2) x.1) cs.toArray) = (setL cs off v.cells.toList).toArray := by
          have := foldl_zip v.cells.toList cs.toArray off 0
          rw [← Array.foldl_toList, Array.toList_zipIdx]
          simpa using this
        rw [← hd]
        congr 1
theorem toArray_toList (a : Array Value) : a.toList.toArray = a := by simp
theorem mapM_pure {α β : Type} (f : α → Sem β) (g : α → β) (l : List α) (hf : ∀ a ∈ l, ∀ (K : β → Prop), spq P (f a) K s = K (g a)) : ∀ K : List β → Prop, spq P (l.mapM f) K s = K (l.map g) := by
  induction l with
  | nil => intro K; simp [spq_pure]
  | cons a l ih =>
    intro K
    simp only [List.mapM_cons, spq_bind, List.map_cons]
    rw [hf a (by simp), ih (fun b hb => hf b (by simp [hb]))]
    rfl
theorem info_some {t : TypeId} (h : (P.info? t).isSome = true) : ∃ i, P.info? t = some i := Option.isSome_iff_exists.1 h
theorem cellsOf_of {t : TypeId} {i : TypeInfo} (h : P.info? t = some i) : P.cellsOf t = i.size := by simp [Program.cellsOf, h]
theorem build_spq {t : TypeId} {ps : Array (Nat × Value)} {K : VK} (hz : hasZero P t = true) (hs : szs P t = true) (h : BLD (placeOf P t) (zc P t) ps.toList (fun cs => K (.agg cs.toArray)) s) :
    spq P (Instr.build t ps) (fun v => K v s) s := by
  obtain ⟨i, v, hi, hv, hz'⟩ := zero_of hz
  obtain ⟨ds, hd, hk⟩ := BLD_fill _ _ _ h
  simp only [Instr.build, spq_bind, spq_zero hi hv, spq_pure]
  unfold szs at hs
  rw [hz', toArray_toList] at hd
  split at hs
  · rename_i fs hu
    rw [spq_und hu]
    simp only []
    rw [Array.mapM_eq_mapM_toList]
    simp only [spq_bind, map_eq_pure_bind]
    rw [mapM_pure (P := P) (s := s) _ (fun f => (f.offset, P.cellsOf f.type)) fs.toList (fun f hf K => by
      obtain ⟨j, hj⟩ := info_some (List.all_eq_true.1 hs f hf)
      simp only [spq_bind, spq_size hj, spq_pure, cellsOf_of hj])]
    have e : (fun i => (placeOf P t i).map fun x => (x.1, x.2.1)) = fun i => ((fs.toList.map fun f => (f.offset, P.cellsOf f.type)).toArray)[i]? := by
      funext i
      unfold placeOf
      rw [hu]
      simp
      cases fs[i]? <;> rfl
    rw [e] at hd
    simp only [spq_pure]
    rw [hd]
    simpa [spq_pure] using hk
  · rename_i n e hu
    rw [spq_und hu]
    obtain ⟨j, hj⟩ := info_some hs
    simp only [spq_bind, spq_size hj]
    have e : (fun i => (placeOf P t i).map fun x => (x.1, x.2.1)) = fun i => some (i * j.size, j.size) := by
      funext i
      unfold placeOf
      rw [hu]
      simp [cellsOf_of hj]
    rw [e] at hd
    rw [hd]
    simpa [spq_pure] using hk
  · cases hs
theorem repL_len (z : List Value) : ∀ n, (repL n z).length = n * z.length
  | 0 => by simp [repL]
  | n + 1 => by simp [repL, repL_len z n, Nat.add_mul]; omega
theorem repL_get (z : List Value) (hz : 0 < z.length) : ∀ (n i : Nat), i < n * z.length → (repL n z)[i]? = z[i % z.length]?
  | 0, i, h => by simp at h
  | n + 1, i, h => by
    unfold repL
    by_cases hi : i < z.length
    · rw [List.getElem?_append_left hi, Nat.mod_eq_of_lt hi]
    · rw [List.getElem?_append_right (by omega), repL_get z hz n (i - z.length) (by rw [Nat.add_mul] at h; omega)]
      congr 1
      conv => rhs; rw [show i = (i - z.length) + z.length by omega, Nat.add_mod_right]
theorem rowOf (z : Array Value) (m : Nat) : (Array.range (m * z.size)).map (z[· % z.size]!) = (repL m z.toList).toArray := by
  by_cases hz : z.size = 0
  · apply Array.ext'
    have h0 : repL m z.toList = [] := List.eq_nil_of_length_eq_zero (by rw [repL_len]; simp [hz])
    simp [hz, h0]
  · apply Array.ext
    · simp [repL_len]
    · intro i h1 h2
      have hi : i < m * z.size := by simpa using h1
      have := repL_get z.toList (by simpa using Nat.pos_of_ne_zero hz) m i (by simpa using hi)
      simp only [Array.length_toList] at this
      have hm : i % z.size < z.size := Nat.mod_lt _ (Nat.pos_of_ne_zero hz)
      rw [List.getElem?_eq_getElem (by simpa [repL_len] using hi)] at this
      simp at this
      simp [hm]
      rw [Array.getElem?_eq_getElem hm] at this
      simpa using this.symm
theorem BSL_sp {t : TypeId} {len : Nat} {ps : Array (Nat × Value)} {K : VK} {E : Value → Hp → Prop} (h : BSL P t len ps.toList K s) : sp P (Instr.buildSlice t len ps) K E s := by
  unfold BSL at h
  cases hc : (isSl P t && hasZero P (elemT P t) && Nat.beq (zc P (elemT P t)).length (P.cellsOf (elemT P t)) && Nat.ble (len * P.cellsOf (elemT P t)) 1000) with
  | false => simp only [hc] at h; exact h.elim
  | true =>
    simp only [hc] at h
    simp only [Bool.and_eq_true] at hc
    obtain ⟨⟨⟨hs, hz⟩, hl⟩, hb⟩ := hc
    obtain ⟨i, v, hi, hv, hz'⟩ := zero_of hz
    obtain ⟨ds, hd, hk⟩ := BLD_fill _ _ _ h
    unfold isSl at hs
    split at hs
    · rename_i e hu
      have he : elemT P t = e := by unfold elemT; rw [hu]
      rw [he] at hi hz' hl hb hd hk
      have hle := Nat.le_of_ble_eq_true hb
      have hsz : P.cellsOf e = i.size := cellsOf_of hi
      have hvl : v.cells.size = i.size := by have := beqT hl; rw [hz', hsz] at this; simpa using this
      simp only [Instr.buildSlice, sp_bind, sp_und hu, sp_size hi]
      rw [if_neg (by rw [← hsz]; omega)]
      have hrow : (Array.range (len * i.size)).map (v.cells[· % v.cells.size]!) = (repL len v.cells.toList).toArray := by
        rw [← hvl]; exact rowOf v.cells len
      have hfill : Instr.fill (fun k => some (k * i.size, i.size)) (repL len v.cells.toList).toArray ps.toList = some ds := by
        rw [← hd, hz', hsz]; rfl
      by_cases h0 : len * i.size = 0
      · simp only [h0, if_true, sp_bind, sp_pure]
        have e0 : (Array.range 0).map ((#[] : Array Value)[· % (#[] : Array Value).size]!) = (repL len v.cells.toList).toArray := by
          rw [← hrow, h0]; simp
        rw [e0, hfill]
        simp only [sp_bind, newRow, sp_new, sp_pure]
        simpa [NEW] using hk
      · simp only [h0, if_false, sp_bind, sp_zero hi hv, sp_pure, hrow, hfill, newRow, sp_new]
        simpa [NEW] using hk
    · cases hs
end
section
variable {P : Program} {s : Hp}
def eqK : List Kd → List Value → List Value → Option Bool
  | [], [], [] => some true
  | k :: ks, x :: xs, y :: ys => match eq1 k x y, eqK ks xs ys with | some a, some b => some (a && b) | _, _ => none
  | _, _, _ => none
theorem eqL_eqK : ∀ (ks : List Kd) (xs ys : List Value) (r : Bool), eqL ks xs ys = some r → eqK ks xs ys = some r
  | [], _, _, _, h => by simp [eqL] at h
  | [k], [x], [y], r, h => by simp [eqL] at h; simp [eqK, h]
  | [k], [], _, r, h => by simp [eqL] at h
  | [k], [x], [], r, h => by simp [eqL] at h
  | [k], x :: x' :: xs, [], r, h => by simp [eqL] at h
  | [k], x :: x' :: xs, y :: ys, r, h => by simp [eqL] at h
  | [k], [x], y :: y' :: ys, r, h => by simp [eqL] at h
  | k :: k' :: ks, [], _, r, h => by simp [eqL] at h
  | k :: k' :: ks, x :: xs, [], r, h => by simp [eqL] at h
  | k :: k' :: ks, x :: xs, y :: ys, r, h => by
    simp only [eqL] at h
    cases h1 : eq1 k x y with
    | none => simp [h1] at h
    | some a =>
      cases h2 : eqL (k' :: ks) xs ys with
      | none => simp [h1, h2] at h
      | some b => simp [h1, h2] at h; simp [eqK, h1, eqL_eqK _ _ _ _ h2]; simpa [eqK] using h
theorem eqK_len : ∀ (ks : List Kd) (xs ys : List Value) (r : Bool), eqK ks xs ys = some r → xs.length = ks.length ∧ ys.length = ks.length
  | [], [], [], r, h => ⟨rfl, rfl⟩
  | [], [], _ :: _, r, h => by simp [eqK] at h
  | [], _ :: _, _, r, h => by simp [eqK] at h
  | k :: ks, [], _, r, h => by simp [eqK] at h
  | k :: ks, _ :: _, [], r, h => by simp [eqK] at h
  | k :: ks, x :: xs, y :: ys, r, h => by
    simp only [eqK] at h
    cases h1 : eq1 k x y with
    | none => simp [h1] at h
    | some a =>
      cases h2 : eqK ks xs ys with
      | none => simp [h1, h2] at h
      | some b => have := eqK_len _ _ _ _ h2; simp [this]
theorem eqK_append : ∀ (ks ls : List Kd) (xs ys : List Value) (r : Bool), eqK (ks ++ ls) xs ys = some r →
    ∃ a b, eqK ks (xs.take ks.length) (ys.take ks.length) = some a ∧ eqK ls (xs.drop ks.length) (ys.drop ks.length) = some b ∧ r = (a && b)
  | [], ls, xs, ys, r, h => ⟨true, r, by simp [eqK], by simpa using h, by simp⟩
  | k :: ks, ls, [], ys, r, h => by simp [eqK] at h
  | k :: ks, ls, x :: xs, [], r, h => by simp [eqK] at h
  | k :: ks, ls, x :: xs, y :: ys, r, h => by
    simp only [List.cons_append, eqK] at h
    cases h1 : eq1 k x y with
    | none => simp [h1] at h
    | some c =>
      cases h2 : eqK (ks ++ ls) xs ys with
      | none => simp [h1, h2] at h
      | some d =>
        simp [h1, h2] at h
        obtain ⟨a, b, ha, hb, rfl⟩ := eqK_append _ _ _ _ _ h2
        exact ⟨c && a, b, by simp [eqK, h1, ha], by simpa using hb, by rw [← h, Bool.and_assoc]⟩
theorem spq_eq_struct (d : Nat) (t : TypeId) {fs : Array Field} (xs ys : Array Value) (hu : P.underlying t = some (.struct fs)) (hp : P.stoodInHeld t = false) (K : Bool → Prop) :
    spq P (Op.eqFields d xs ys fs.toList) K s → spq P (Op.equalIn (d + 1) t (.agg xs) (.agg ys)) K s := by
  intro h
  simp only [Op.equalIn, spq_bind, spq_und hu, spq_program, hp, Bool.false_eq_true, if_false]
  rw [← Array.forIn_toList]
  generalize fs.toList = l at *
  clear hu
  induction l with
  | nil => simpa [Op.eqFields, spq_pure] using h
  | cons f fs ih =>
    simp only [List.forIn_cons, Op.eqFields, spq_bind] at h ⊢
    by_cases hn : f.name ≠ "_"
    · rw [if_pos hn] at h ⊢
      simp only [spq_bind] at h ⊢
      refine spq_mono P _ s (fun a ha => ?_) h
      refine spq_mono P _ s (fun b hb => ?_) ha
      refine spq_mono P _ s (fun r hr => ?_) hb
      cases r
      · simpa [spq_pure] using hr
      · simpa [spq_pure] using ih (by simpa [spq_pure] using hr)
    · rw [if_neg hn] at h ⊢
      simp only [spq_pure]
      exact ih h
def Flat (P : Program) (t : TypeId) (ks : List Kd) (x : Value) (xs : List Value) : Prop :=
  (agO P t = some true ∧ x = .agg xs.toArray) ∨ (agO P t = some false ∧ xs = [x])
theorem spq_part {t : TypeId} {i : TypeInfo} {xs : Array Value} {off : Nat} {ks : List Kd} (hi : P.info? t = some i) (hb : i.size = ks.length) (hag : (agO P t = some true) ∨ (agO P t = some false ∧ ks.length = 1)) (hl : ks.length ≤ xs.size - off) (K : Value → Prop)
    (h : ∀ x, Flat P t ks x ((xs.toList.drop off).take ks.length) → K x) : spq P (part t xs off) K s := by
  unfold part
  rcases hag with hag | ⟨hag, h1⟩
  · obtain ⟨d, _, hag', _⟩ := agO_true (s := s) hag
    simp only [spq_bind, hag', if_true, spq_size hi, spq_pure]
    refine h _ (.inl ⟨hag, ?_⟩)
    congr 1
    rw [hb]
    apply Array.ext'
    simp [Array.toList_extract, List.extract_eq_take_drop]
  · obtain ⟨d, _, hag'⟩ := agO_false (s := s) hag
    simp only [spq_bind, hag', Bool.false_eq_true, if_false]
    have hlt : off < xs.size := by omega
    rw [Array.getElem?_eq_getElem hlt]
    simp only [spq_pure]
    refine h _ (.inr ⟨hag, ?_⟩)
    rw [h1]
    rw [List.take_one]
    simp [List.head?_drop, hlt]
theorem flatN_ag {f : Nat} {t : TypeId} {ks : List Kd} (h : flatN P f t = some ks) : agO P t = some true ∨ (agO P t = some false ∧ ks.length = 1) := by
  cases f with
  | zero => simp [flatN] at h
  | succ f =>
    simp only [flatN] at h
    unfold agO
    split at h
    · rename_i k hu; rw [hu]; cases h; exact .inr ⟨rfl, rfl⟩
    · rename_i hu; rw [hu]; cases h; exact .inr ⟨rfl, rfl⟩
    · rename_i fs hu; rw [hu]; exact .inl rfl
    · rename_i n e hu; rw [hu]; exact .inl rfl
    · cases h
theorem flat_eq : ∀ (f : Nat),
    (∀ (t : TypeId) (ks : List Kd) (d : Nat) (x y : Value) (xs ys : List Value) (r : Bool) (K : Bool → Prop), f ≤ d → flatN P f t = some ks → Flat P t ks x xs → Flat P t ks y ys → eqK ks xs ys = some r → K r → spq P (Op.equalIn d t x y) K s) ∧
    (∀ (fs : List Field) (o : Nat) (ks : List Kd) (d : Nat) (xs ys : Array Value) (r : Bool) (K : Bool → Prop), f ≤ d + 1 → flatF P f fs o = some ks → eqK ks (xs.toList.drop o) (ys.toList.drop o) = some r → K r → spq P (Op.eqFields d xs ys fs) K s) := by
  intro f
  induction f with
  | zero => exact ⟨fun t ks d x y xs ys r K _ h => by simp [flatN] at h, fun fs o ks d xs ys r K _ h => by simp [flatF] at h⟩
  | succ f ih =>
    refine ⟨?_, ?_⟩
    · intro t ks d x y xs ys r K hd h hx hy he hk
      obtain ⟨d, rfl⟩ : ∃ m, d = m + 1 := ⟨d - 1, by omega⟩
      simp only [flatN] at h
      split at h
      · rename_i k hu
        cases h
        have ha : agO P t = some false := by unfold agO; rw [hu]
        rcases hx with ⟨h1, _⟩ | ⟨_, rfl⟩
        · rw [ha] at h1; cases h1
        rcases hy with ⟨h1, _⟩ | ⟨_, rfl⟩
        · rw [ha] at h1; cases h1
        simp only [eqK] at he
        cases h1 : eq1 (.i k) x y with
        | none => simp [h1] at he
        | some a =>
          simp [h1] at he
          subst he
          unfold eq1 at h1
          split at h1
          · rename_i k0 k1 a0 k2 b0 hk'
            cases hk'
            split at h1
            · rename_i hdec
              obtain ⟨rfl, rfl⟩ := of_decide_eq_true hdec
              cases h1
              simp only [Op.equalIn, spq_bind, spq_und hu, if_true]
              exact hk
            · cases h1
          · rename_i heq; cases heq
          · cases h1
      · rename_i hu
        cases h
        have ha : agO P t = some false := by unfold agO; rw [hu]
        rcases hx with ⟨h1, _⟩ | ⟨_, rfl⟩
        · rw [ha] at h1; cases h1
        rcases hy with ⟨h1, _⟩ | ⟨_, rfl⟩
        · rw [ha] at h1; cases h1
        simp only [eqK] at he
        cases h1 : eq1 .b x y with
        | none => simp [h1] at he
        | some a =>
          simp [h1] at he
          subst he
          unfold eq1 at h1
          split at h1
          · rename_i heq; cases heq
          · cases h1
            simp only [Op.equalIn, spq_bind, spq_und hu]
            exact hk
          · cases h1
      · rename_i fs hu
        split at h
        · cases h
        · rename_i hp
          have ha : agO P t = some true := by unfold agO; rw [hu]
          rcases hx with ⟨_, rfl⟩ | ⟨h1, _⟩
          · rcases hy with ⟨_, rfl⟩ | ⟨h1, _⟩
            · refine spq_eq_struct d t _ _ hu (by simpa using hp) K ?_
              exact ih.2 _ 0 ks d _ _ r K (by omega) h (by simpa using he) hk
            · rw [ha] at h1; cases h1
          · rw [ha] at h1; cases h1
      · rename_i n e hu
        have ha : agO P t = some true := by unfold agO; rw [hu]
        cases hf : flatN P f e with
        | none => simp [hf] at h
        | some m =>
          cases hi : P.info? e with
          | none => simp [hf, hi] at h
          | some i =>
            simp only [hf, hi] at h
            split at h
            · rename_i hsz
              cases h
              rcases hx with ⟨_, rfl⟩ | ⟨h1, _⟩
              · rcases hy with ⟨_, rfl⟩ | ⟨h1, _⟩
                · simp only [Op.equalIn, spq_bind, spq_und hu, spq_size hi]
                  have key : ∀ (k j : Nat) (r : Bool), j + k = n → eqK (List.replicate k m).flatten (xs.drop (j * m.length)) (ys.drop (j * m.length)) = some r →
                      (∀ K : Bool → Prop, K r → spq P (forIn (List.range' j k) ((none, ()) : Option Bool × Unit) fun i_1 r => do
                        let a ← part e xs.toArray (i_1 * i.size)
                        let b ← part e ys.toArray (i_1 * i.size)
                        let q ← Op.equalIn d e a b
                        if (!q) = true then pure (ForInStep.done (some false, ())) else pure (ForInStep.yield (none, ()))) (fun z => match z.fst with | none => K true | some a => K a) s) := by
                    intro k
                    induction k with
                    | zero => intro j r _ h K hk; simp [spq_pure]; simp at h; have := eqK_len _ _ _ _ h; have e1 : xs.drop (j * m.length) = [] := List.eq_nil_of_length_eq_zero this.1; have e2 : ys.drop (j * m.length) = [] := List.eq_nil_of_length_eq_zero this.2; rw [e1, e2] at h; simp [eqK] at h; rw [h] at hk; exact hk
                    | succ k ihk =>
                      intro j r hj h K hk
                      rw [List.replicate_succ, List.flatten_cons] at h
                      obtain ⟨a, b, h1, h2, rfl⟩ := eqK_append _ _ _ _ _ h
                      have hl := eqK_len _ _ _ _ h1
                      simp only [List.range'_succ, List.forIn_cons, spq_bind]
                      have hlx : m.length ≤ xs.length - j * m.length := by have := hl.1; simp at this; omega
                      have hly : m.length ≤ ys.length - j * m.length := by have := hl.2; simp at this; omega
                      rw [hsz]
                      refine spq_part hi hsz (flatN_ag hf) (by simpa using hlx) _ fun x hx => ?_
                      refine spq_part hi hsz (flatN_ag hf) (by simpa using hly) _ fun y hy => ?_
                      refine ih.1 e m d x y _ _ a _ (by omega) hf hx hy (by simpa using h1) ?_
                      cases a
                      · simp only [Bool.not_false, if_true, spq_pure]
                        simpa using hk
                      · simp only [Bool.not_true, Bool.false_eq_true, if_false, spq_pure]
                        have := ihk (j + 1) b (by omega) (by simp only [List.drop_drop] at h2; rw [Nat.add_mul, Nat.one_mul]; exact h2) K (by simpa using hk)
                        rw [hsz] at this
                        exact this
                  have := key n 0 r (by omega) (by simpa using he) K hk
                  rw [Std.Legacy.Range.forIn_eq_forIn_range']
                  simp only [Std.Legacy.Range.size, Nat.sub_zero, Nat.add_sub_cancel, Nat.div_one]
                  refine spq_mono P _ s (fun z hz => ?_) this
                  revert hz
                  cases z.fst <;> exact id
                · rw [ha] at h1; cases h1
              · rw [ha] at h1; cases h1
            · cases h
      · cases h
    · intro fs o ks d xs ys r K hd h he hk
      cases fs with
      | nil =>
        simp [flatF] at h
        subst h
        have hl := eqK_len _ _ _ _ he
        have e1 : xs.toList.drop o = [] := List.eq_nil_of_length_eq_zero hl.1
        have e2 : ys.toList.drop o = [] := List.eq_nil_of_length_eq_zero hl.2
        rw [e1, e2] at he
        simp [eqK] at he
        rw [he] at hk
        exact hk
      | cons x fs =>
        simp only [flatF] at h
        split at h
        · rename_i hn
          obtain ⟨rfl, hn⟩ := hn
          cases hf : flatN P f x.type with
          | none => simp [hf] at h
          | some m =>
            cases hi : P.info? x.type with
            | none => simp [hf, hi] at h
            | some i =>
              simp only [hf, hi] at h
              split at h
              · rename_i hsz
                cases h3 : flatF P f fs (x.offset + m.length) with
                | none => simp [h3] at h
                | some ls =>
                  simp [h3] at h
                  subst h
                  obtain ⟨a, b, h1, h2, rfl⟩ := eqK_append _ _ _ _ _ he
                  have hl := eqK_len _ _ _ _ h1
                  simp only [Op.eqFields, if_pos hn, spq_bind]
                  have h0 : f ≠ 0 := by rintro rfl; simp [flatN] at hf
                  refine spq_part hi hsz (flatN_ag hf) (by have := hl.1; simp at this; omega) _ fun u hu => ?_
                  refine spq_part hi hsz (flatN_ag hf) (by have := hl.2; simp at this; omega) _ fun v hv => ?_
                  refine ih.1 x.type m d u v _ _ a _ (by omega) hf hu hv h1 ?_
                  cases a
                  · simp only [Bool.not_false, if_true, spq_pure]
                    simpa using hk
                  · simp only [Bool.not_true, Bool.false_eq_true, if_false]
                    exact ih.2 fs _ ls d xs ys b K (by omega) h3 (by simp only [List.drop_drop] at h2; exact h2) (by simpa using hk)
              · cases h
        · cases h
end
section
variable {P : Program} {s : Hp}
theorem eqGuard_pure {op : BinOp} {t : TypeId} {ox oy : Operand} {x y : Value} (h : ∀ a, x ≠ .agg a) (h' : x ≠ .nilIface) : eqGuard op t ox oy x y = pure () := by
  cases op <;> cases x <;> first | rfl | exact absurd rfl (h _) | exact absurd rfl h'
theorem NNI_elim {b : Int} {K : Hp → Prop} (h : NNI b K s) : ¬ b < 0 ∧ K s := by
  cases b with
  | ofNat n => exact ⟨by simp, h⟩
  | negSucc n => exact h.elim
theorem NZI_elim {b : Int} {K : Hp → Prop} (h : NZI b K s) : b ≠ 0 ∧ K s := by
  cases b with
  | ofNat n =>
    cases n with
    | zero => exact h.elim
    | succ n => exact ⟨by simp; omega, h⟩
  | negSucc n => exact ⟨by simp, h⟩
theorem equal_bool {ty : TypeId} {a b : Bool} {K : Bool → Prop} (hu : P.underlying ty = some .bool) (h : K (a == b)) : spq P (Op.equal ty (.bool a) (.bool b)) K s := by
  show spq P (Op.equalIn (9999 + 1) ty _ _) K s
  rw [Op.equalIn, spq_bind, spq_und hu]
  exact h
theorem bin_spq {op : BinOp} {ty : TypeId} {ox oy : Operand} {x y : Value} {K : VK} (h : bin P op ty x y K s) :
    spq P (do eqGuard op ty ox oy x y; binOp op ty x y) (fun v => K v s) s := by
  unfold bin at h
  cases x <;> first | exact h.elim | skip
  case int k a =>
    cases y <;> first | exact h.elim | skip
    rename_i k' b
    rw [eqGuard_pure (by simp) (by simp)]
    simp only [spq_bind, spq_pure]
    have gen : ∀ (hk : decide (k = k') = true), k = k' := fun hk => of_decide_eq_true hk
    cases op
    case shl => obtain ⟨h1, h2⟩ := NNI_elim h; simp only [binOp, Op.shift, h1, if_false, spq_pure]; exact h2
    case shr => obtain ⟨h1, h2⟩ := NNI_elim h; simp only [binOp, Op.shift, h1, if_false, spq_pure]; exact h2
    all_goals
      cases hk : decide (k = k') with
      | false => simp only [hk] at h; exact h.elim
      | true =>
        simp only [hk] at h
        obtain rfl := gen hk
        simp only [binOp]
        first
          | (simp only [ne_eq, not_true_eq_false, if_false, Op.intArith, Op.intBits, Op.intCmp, spq_pure]; exact h)
          | (obtain ⟨h1, h2⟩ := NZI_elim h; simp only [ne_eq, not_true_eq_false, if_false, Op.intDiv, h1, spq_pure]; exact h2)
  case bool a =>
    cases y <;> first | exact h.elim | skip
    rename_i b
    rw [eqGuard_pure (by simp) (by simp)]
    simp only [spq_bind, spq_pure]
    cases hu : P.underlying ty with
    | none => cases op <;> simp only [hu] at h <;> exact h.elim
    | some d =>
      cases d <;> first | (cases op <;> simp only [hu] at h <;> exact h.elim) | skip
      cases op <;> simp only [hu] at h <;> first | exact h.elim | skip
      · change spq P (Op.equal ty (.bool a) (.bool b) >>= fun r => pure (.bool r)) (fun v => K v s) s
        rw [spq_bind]; exact equal_bool hu h
      · change spq P (Op.equal ty (.bool a) (.bool b) >>= fun r => pure (.bool (!r))) (fun v => K v s) s
        rw [spq_bind]; exact equal_bool hu h
  case string a =>
    cases y <;> first | exact h.elim | skip
    rename_i b
    rw [eqGuard_pure (by simp) (by simp)]
    simp only [spq_bind, spq_pure]
    have hm : IntKind.i64.max = 9223372036854775807 := by decide
    cases op <;> first | exact h.elim | skip
    · obtain ⟨h1, h2⟩ := h
      simp only [binOp, Op.stringOp]
      rw [if_neg (by rw [hm]; omega)]
      exact h2
    · exact h
    · exact h
  case agg a =>
    cases y <;> first | exact h.elim | skip
    rename_i b
    cases hg : (isAg P ty && !P.eqGuardType P.depth ty) with
    | false => simp only [hg] at h; exact h.elim
    | true =>
      cases hr : flatE P ty a.toList b.toList with
      | none => simp only [hg, hr] at h; exact h.elim
      | some r =>
        simp only [hg, hr] at h
        simp only [Bool.and_eq_true, Bool.not_eq_true'] at hg
        have hag : agO P ty = some true := by
          have := hg.1; unfold isAg at this; unfold agO
          split at this
          · rename_i hu; rw [hu]
          · rename_i hu; rw [hu]
          · cases this
        have key : ∀ K : Bool → Prop, K r → spq P (Op.equal ty (.agg a) (.agg b)) K s := by
          intro K hk
          unfold flatE at hr
          split at hr
          · rename_i ks hks
            exact (flat_eq 24).1 ty ks 10000 _ _ a.toList b.toList r K (by omega) hks (.inl ⟨hag, by simp⟩) (.inl ⟨hag, by simp⟩) (eqL_eqK _ _ _ _ hr) hk
          · cases hr
        cases op <;> simp only [] at h <;> first | exact h.elim | skip
        · have e : spq P (eqGuard .eql ty ox oy (.agg a) (.agg b)) = spq P (pure () : Sem Unit) := by
            funext K s; simp [eqGuard, spq_bind, spq_program, hg.2, spq_pure]
          rw [spq_bind, e, spq_pure]
          change spq P (Op.equal ty (.agg a) (.agg b) >>= fun r => pure (.bool r)) (fun v => K v s) s
          rw [spq_bind]; exact key (fun r => K (.bool r) s) h
        · have e : spq P (eqGuard .neq ty ox oy (.agg a) (.agg b)) = spq P (pure () : Sem Unit) := by
            funext K s; simp [eqGuard, spq_bind, spq_program, hg.2, spq_pure]
          rw [spq_bind, e, spq_pure]
          change spq P (Op.equal ty (.agg a) (.agg b) >>= fun r => pure (.bool (!r))) (fun v => K v s) s
          rw [spq_bind]; exact key (fun r => K (.bool (!r)) s) h
theorem un_spq {op : UnOp} {x : Value} {K : VK} (h : un op x K s) : spq P (Op.unary op x) (fun v => K v s) s := by
  unfold un at h
  cases op <;> cases x <;> first | exact h.elim | exact h
theorem idx_spq {t : TypeId} {x i : Value} {K : VK} (h : idx P t x i K s) : spq P (Instr.indexAt t x i) (fun v => K v s) s := by
  unfold idx at h
  cases hu : P.underlying t with
  | none => simp only [hu] at h; exact h.elim
  | some d =>
    simp only [hu] at h
    cases d <;> first | exact h.elim | skip
    case slice e =>
      cases x <;> first | exact h.elim | skip
      cases i <;> first | exact h.elim | skip
      obtain ⟨z, hi, h'⟩ := SZ_elim h
      obtain ⟨a, rfl, h1, h2⟩ := h'
      simp only [Instr.indexAt, asIntOf, spq_bind, spq_pure, spq_und hu]
      rw [if_pos h1]
      simp only [spq_bind, spq_size hi, spq_pure]
      exact h2
    case array l e =>
      cases x <;> first | exact h.elim | skip
      cases i <;> first | exact h.elim | skip
      obtain ⟨a, rfl, h'⟩ := SO_elim h
      obtain ⟨z, hi, h'⟩ := SZ_elim h'
      obtain ⟨h1, h2⟩ := h'
      simp only [Instr.indexAt, asIntOf, Instr.sureAddr, spq_bind, spq_pure, spq_und hu]
      rw [if_pos h1]
      simp only [spq_bind, spq_size hi, spq_pure]
      exact h2
theorem fad_spq {t : TypeId} {x : Value} {j : Nat} {K : VK} (h : fad P t x j K s) : spq P (Instr.fieldAt t x j) (fun v => K v s) s := by
  unfold fad at h
  cases hu : P.underlying t with
  | none => simp only [hu] at h; exact h.elim
  | some d =>
    simp only [hu] at h
    cases d <;> first | exact h.elim | skip
    case struct fs =>
      cases x <;> first | exact h.elim | skip
      obtain ⟨a, rfl, h'⟩ := SO_elim h
      simp only [Instr.fieldAt, spq_bind, spq_und hu, Instr.sureAddr, spq_pure]
      cases hf : fs.toList[j]? with
      | none => simp only [hf] at h'; exact h'.elim
      | some f =>
        simp only [hf] at h'
        have hf' : fs[j]? = some f := by simpa using hf
        rw [hf']
        obtain ⟨z, hi, h1⟩ := SZ_elim h'
        simp only [spq_bind, fieldPlace, spq_size hi, spq_pure]
        cases hz : Nat.beq z.size 0 with
        | false =>
          simp only [hz] at h1
          rw [if_neg (fun e => by rw [e] at hz; cases hz)]
          exact h1
        | true =>
          simp only [hz] at h1
          rw [if_pos (beqT hz)]
          cases ho : (Nat.beq f.offset 0 && Nat.beq f.byteOffset 0) with
          | false => simp only [ho] at h1; exact h1.elim
          | true =>
            simp only [ho] at h1
            simp only [Bool.and_eq_true] at ho
            have o1 := beqT ho.1
            have o2 := beqT ho.2
            obtain ⟨⟨hs, e, n, hsh, hb⟩, hk⟩ := h1
            obtain ⟨blk, off, sp⟩ := a
            simp only at hs
            subst hs
            obtain ⟨b, hb⟩ := Option.isSome_iff_exists.1 hb
            simp only [partAt, byteOf, noView, viewAt, spq_bind, spq_program, spq_shape, hsh, spq_pure, o1, o2, Nat.add_zero, Option.isSome_some, if_true, Option.isSome_none, Bool.false_eq_true, if_false]
            by_cases h0 : P.cellsOf e = 0
            · simp [h0, spq_pure]; exact hk
            · simp [h0, hb, spq_pure]; exact hk
theorem fld_spq {t : TypeId} {x : Value} {j : Nat} {K : VK} (h : fld P t x j K s) : spq P (Instr.field t x j) (fun v => K v s) s := by
  unfold fld at h
  cases hu : P.underlying t with
  | none => simp only [hu] at h; exact h.elim
  | some d =>
    simp only [hu] at h
    cases d <;> first | exact h.elim | skip
    case struct fs =>
      cases x <;> first | exact h.elim | skip
      rename_i c
      simp only [Instr.field, spq_bind, spq_und hu]
      cases hf : fs.toList[j]? with
      | none => simp only [hf] at h; exact h.elim
      | some f =>
        simp only [hf] at h
        have hf' : fs[j]? = some f := by simpa using hf
        rw [hf']
        simp only [spq_bind, asAgg, spq_pure, part]
        cases hag : agO P f.type with
        | none => simp only [hag] at h; exact h.elim
        | some b =>
          simp only [hag] at h
          cases b with
          | true =>
            obtain ⟨z, hi, h1⟩ := SZ_elim h
            obtain ⟨d, _, hag', _⟩ := agO_true (s := s) hag
            simp only [spq_bind, hag', if_true, spq_size hi, spq_pure]
            have e : c.extract f.offset (f.offset + z.size) = ((c.toList.drop f.offset).take z.size).toArray := by
              apply Array.ext'; simp [Array.toList_extract, List.extract_eq_take_drop]
            rw [e]; exact h1
          | false =>
            obtain ⟨d, _, hag'⟩ := agO_false (s := s) hag
            simp only [spq_bind, hag', Bool.false_eq_true, if_false]
            cases hc : c.toList[f.offset]? with
            | none => simp only [hc] at h; exact h.elim
            | some v =>
              simp only [hc] at h
              have : c[f.offset]? = some v := by simpa using hc
              rw [this]; exact h
theorem nck_spq {x : Value} {K : VK} {dst : Option Tmp} (h : nck x K s) : spq P (execOp (fun _ => x) { dst := dst, op := .nilCheck (.tmp 0), type := 0, pos := "", after := #[], guard := none }) (fun nx => ∃ v, nx = .value v ∧ K v s) s := by
  unfold nck at h
  cases x <;> first | exact h.elim | skip
  · obtain ⟨a, rfl, h1⟩ := SO_elim h
    exact ⟨_, rfl, h1⟩
  · rename_i fn a b
    cases fn <;> first | exact h.elim | exact ⟨_, rfl, h⟩
  · exact ⟨_, rfl, h⟩
theorem SLS_spq {t e : TypeId} {z : TypeInfo} {x : Option Addr} {l c : Nat} {lo hi : Int} {vl vh : Option Value} {K : Option Addr → Nat → Nat → Hp → Prop} (hu : P.underlying t = some (.slice e)) (hi' : P.info? e = some z)
    (hl : (vl = none ∧ lo = 0) ∨ ∃ k, vl = some (.int k lo)) (hh : (vh = none ∧ hi = l ∧ (hi ≤ c → True)) ∨ ∃ k, vh = some (.int k hi)) (h : SLS x c lo hi z.size K s) : spq P (Instr.sliceAt t (.slice x l c) vl vh none) (fun v => ∃ x l c, v = .slice x l c ∧ K x l c s) s := by
  obtain ⟨⟨h1, h2, h3⟩, hk⟩ := h
  simp only [Instr.sliceAt, spq_bind, spq_und hu, Instr.slice, Instr.sliceBounds, spq_pure]
  have fin : spq P (sizeOf e) (fun size => ∃ x' l' c', (Value.slice (if c = lo.toNat then x else x.map (·.add (lo.toNat * size))) (hi.toNat - lo.toNat) (c - lo.toNat)) = .slice x' l' c' ∧ K x' l' c' s) s := by
    rw [spq_size hi']; exact ⟨_, _, _, rfl, hk⟩
  rcases hh with ⟨rfl, rfl, _⟩ | ⟨kh, rfl⟩
  · rcases hl with ⟨rfl, rfl⟩ | ⟨kl, rfl⟩
    · simp only [spq_pure, spq_bind]
      simpa [spq_pure] using fin
    · simp only [spq_pure, spq_bind, Instr.sliceBound, asIntOf]
      rw [if_pos ⟨h1, h2⟩]
      simpa [spq_pure, spq_bind] using fin
  · have hb : 0 ≤ hi ∧ hi ≤ (c : Int) := ⟨by omega, h3⟩
    rcases hl with ⟨rfl, rfl⟩ | ⟨kl, rfl⟩
    · simp only [spq_pure, spq_bind, Instr.sliceBound, asIntOf]
      simp only [Bool.true_eq, if_true]
      rw [if_pos hb]
      simpa [spq_pure, spq_bind] using fin
    · simp only [spq_pure, spq_bind, Instr.sliceBound, asIntOf]
      rw [if_pos hb]
      simp only [spq_pure, spq_bind]
      rw [if_pos ⟨h1, by omega⟩]
      simpa [spq_pure, spq_bind] using fin
theorem SLA_spq {t e : TypeId} {z : TypeInfo} {a : Addr} {n : Nat} {lo hi : Int} {vl vh : Option Value} {K : Option Addr → Nat → Nat → Hp → Prop} (hu : P.underlying t = some (.array n e)) (hi' : P.info? e = some z)
    (hl : (vl = none ∧ lo = 0) ∨ ∃ k, vl = some (.int k lo)) (hh : (vh = none ∧ hi = n ∧ (hi ≤ n → True)) ∨ ∃ k, vh = some (.int k hi)) (h : SLS (some a) n lo hi z.size K s) : spq P (Instr.sliceAt t (.pointer (some a)) vl vh none) (fun v => ∃ x l c, v = .slice x l c ∧ K x l c s) s := by
  obtain ⟨⟨h1, h2, h3⟩, hk⟩ := h
  simp only [Instr.sliceAt, spq_bind, spq_und hu, Instr.sureAddr, Instr.sliceBounds, spq_pure]
  have fin : spq P (sizeOf e) (fun size => ∃ x' l' c', (Value.slice (some (if n = lo.toNat then a else a.add (lo.toNat * size))) (hi.toNat - lo.toNat) (n - lo.toNat)) = .slice x' l' c' ∧ K x' l' c' s) s := by
    rw [spq_size hi']
    refine ⟨_, _, _, rfl, ?_⟩
    by_cases hn : n = lo.toNat
    · rw [if_pos hn] at hk ⊢; exact hk
    · rw [if_neg hn] at hk ⊢; exact hk
  rcases hh with ⟨rfl, rfl, _⟩ | ⟨kh, rfl⟩
  · rcases hl with ⟨rfl, rfl⟩ | ⟨kl, rfl⟩
    · simp only [spq_pure, spq_bind]
      simpa [spq_pure] using fin
    · simp only [spq_pure, spq_bind, Instr.sliceBound, asIntOf]
      rw [if_pos ⟨h1, h2⟩]
      simpa [spq_pure, spq_bind] using fin
  · have hb : 0 ≤ hi ∧ hi ≤ (n : Int) := ⟨by omega, h3⟩
    rcases hl with ⟨rfl, rfl⟩ | ⟨kl, rfl⟩
    · simp only [spq_pure, spq_bind, Instr.sliceBound, asIntOf]
      rw [if_pos hb]
      simpa [spq_pure, spq_bind] using fin
    · simp only [spq_pure, spq_bind, Instr.sliceBound, asIntOf]
      rw [if_pos hb]
      simp only [spq_pure, spq_bind]
      rw [if_pos ⟨h1, by omega⟩]
      simpa [spq_pure, spq_bind] using fin
theorem STSL_spq {t : TypeId} {x : ByteArray} {lo hi : Int} {vl vh : Option Value} {K : ByteArray → Hp → Prop} (hu : P.underlying t = some .string) (hl : (vl = none ∧ lo = 0) ∨ ∃ k, vl = some (.int k lo))
    (hh : (vh = none ∧ hi = (x.size : Int)) ∨ ∃ k, vh = some (.int k hi)) (h : STSL x lo hi K s) : spq P (Instr.sliceAt t (.string x) vl vh none) (fun v => ∃ y, v = .string y ∧ K y s) s := by
  obtain ⟨⟨h1, h2, h3⟩, hk⟩ := h
  have e : Instr.sliceAt t (.string x) vl vh none = (do match ← underlying t with
    | .array n elem =>
      let a ← Instr.sureAddr (.string x)
      let (l, h, m) ← Instr.sliceBounds false n n vl vh none
      let size ← sizeOf elem
      pure (.slice (some (if m = l then a else a.add (l * size))) (h - l) (m - l))
    | _ => Instr.slice t (.string x) vl vh none) := rfl
  rw [e, spq_bind, spq_und hu]
  simp only [Instr.slice]
  rw [spq_bind, spq_und hu]
  simp only [Option.isSome, Bool.false_eq_true, if_false, spq_bind, spq_pure, Instr.sliceBounds]
  have hhi : 0 ≤ hi := Int.le_trans h1 h2
  rcases hh with ⟨rfl, rfl⟩ | ⟨k, rfl⟩
  · rcases hl with ⟨rfl, rfl⟩ | ⟨k', rfl⟩
    · simp only [spq_pure, spq_bind]
      exact ⟨_, rfl, hk⟩
    · simp only [spq_pure, spq_bind, Instr.sliceBound, asIntOf]
      rw [if_pos ⟨h1, h2⟩]
      simp only [spq_pure, spq_bind]
      exact ⟨_, rfl, hk⟩
  · simp only [spq_pure, spq_bind, Instr.sliceBound, asIntOf]
    rw [if_pos ⟨hhi, h3⟩]
    simp only [spq_pure, spq_bind]
    rcases hl with ⟨rfl, rfl⟩ | ⟨k', rfl⟩
    · simp only [spq_pure, spq_bind]
      exact ⟨_, rfl, hk⟩
    · simp only [spq_pure, spq_bind, Instr.sliceBound, asIntOf]
      rw [if_pos ⟨h1, by omega⟩]
      simp only [spq_pure, spq_bind]
      exact ⟨_, rfl, hk⟩
theorem slc_spq {t : TypeId} {x : Value} {lo hi : Option Value} {K : VK} (h : slc P t x lo hi K s) : spq P (Instr.sliceAt t x lo hi none) (fun v => K v s) s := by
  unfold slc at h
  cases hu : P.underlying t with
  | none => simp only [hu] at h; exact h.elim
  | some d =>
    simp only [hu] at h
    cases d <;> first | exact h.elim | skip
    case string =>
      cases x <;> first | exact h.elim | skip
      rename_i x
      have go : ∀ lo' hi', STSL x lo' hi' (fun y => K (.string y)) s → ((lo = none ∧ lo' = 0) ∨ ∃ k, lo = some (.int k lo')) → ((hi = none ∧ hi' = (x.size : Int)) ∨ ∃ k, hi = some (.int k hi')) → spq P (Instr.sliceAt t (.string x) lo hi none) (fun v => K v s) s := by
        intro lo' hi2 hs hl hh
        refine spq_mono P _ s ?_ (STSL_spq hu hl hh hs)
        rintro v ⟨y, rfl, hk⟩; exact hk
      cases lo with
      | none =>
        cases hi with
        | none => exact go _ _ h (.inl ⟨rfl, rfl⟩) (.inl ⟨rfl, rfl⟩)
        | some v => cases v <;> first | exact h.elim | exact go _ _ h (.inl ⟨rfl, rfl⟩) (.inr ⟨_, rfl⟩)
      | some u =>
        cases hi with
        | none => cases u <;> first | exact h.elim | exact go _ _ h (.inr ⟨_, rfl⟩) (.inl ⟨rfl, rfl⟩)
        | some v => cases u <;> cases v <;> first | exact h.elim | exact go _ _ h (.inr ⟨_, rfl⟩) (.inr ⟨_, rfl⟩)
    case slice e =>
      cases x <;> first | exact h.elim | skip
      rename_i a l c
      obtain ⟨z, hi', h1⟩ := SZ_elim h
      have go : ∀ lo' hi', SLS a c lo' hi' z.size (fun x l c => K (.slice x l c)) s → ((lo = none ∧ lo' = 0) ∨ ∃ k, lo = some (.int k lo')) → ((hi = none ∧ hi' = (l : Int) ∧ (hi' ≤ c → True)) ∨ ∃ k, hi = some (.int k hi')) → spq P (Instr.sliceAt t (.slice a l c) lo hi none) (fun v => K v s) s := by
        intro lo' hi2 hs hl hh
        refine spq_mono P _ s ?_ (SLS_spq hu hi' hl hh hs)
        rintro v ⟨x, l, c, rfl, hk⟩; exact hk
      cases lo with
      | none =>
        cases hi with
        | none => exact go _ _ h1 (.inl ⟨rfl, rfl⟩) (.inl ⟨rfl, rfl, fun _ => trivial⟩)
        | some v => cases v <;> first | exact h1.elim | exact go _ _ h1 (.inl ⟨rfl, rfl⟩) (.inr ⟨_, rfl⟩)
      | some u =>
        cases hi with
        | none => cases u <;> first | exact h1.elim | exact go _ _ h1 (.inr ⟨_, rfl⟩) (.inl ⟨rfl, rfl, fun _ => trivial⟩)
        | some v => cases u <;> cases v <;> first | exact h1.elim | exact go _ _ h1 (.inr ⟨_, rfl⟩) (.inr ⟨_, rfl⟩)
    case array n e =>
      cases x <;> first | exact h.elim | skip
      simp only at h
      obtain ⟨a, rfl, h2⟩ := SO_elim h
      obtain ⟨z, hi', h1⟩ := SZ_elim h2
      have go : ∀ lo' hi', SLS (some a) n lo' hi' z.size (fun x l c => K (.slice x l c)) s → ((lo = none ∧ lo' = 0) ∨ ∃ k, lo = some (.int k lo')) → ((hi = none ∧ hi' = (n : Int) ∧ (hi' ≤ n → True)) ∨ ∃ k, hi = some (.int k hi')) → spq P (Instr.sliceAt t (.pointer (some a)) lo hi none) (fun v => K v s) s := by
        intro lo' hi2 hs hl hh
        refine spq_mono P _ s ?_ (SLA_spq hu hi' hl hh hs)
        rintro v ⟨x, l, c, rfl, hk⟩; exact hk
      cases lo with
      | none =>
        cases hi with
        | none => exact go _ _ h1 (.inl ⟨rfl, rfl⟩) (.inl ⟨rfl, rfl, fun _ => trivial⟩)
        | some v => cases v <;> first | exact h1.elim | exact go _ _ h1 (.inl ⟨rfl, rfl⟩) (.inr ⟨_, rfl⟩)
      | some u =>
        cases hi with
        | none => cases u <;> first | exact h1.elim | exact go _ _ h1 (.inr ⟨_, rfl⟩) (.inl ⟨rfl, rfl, fun _ => trivial⟩)
        | some v => cases u <;> cases v <;> first | exact h1.elim | exact go _ _ h1 (.inr ⟨_, rfl⟩) (.inr ⟨_, rfl⟩)
end
section
variable {P : Program} {W : World} {s : Hp}
theorem wrap64_id {n : Int} (h0 : -9223372036854775808 ≤ n) (h1 : n ≤ 9223372036854775807) : IntKind.i64.wrap n = n := by
  simp [IntKind.wrap, IntKind.bits, IntKind.signed]
  split <;> omega
theorem sp_askRoom {n : Nat} {K : Unit → Hp → Prop} {E : Value → Hp → Prop} : sp P (askRoom n) K E s = K () s := by unfold askRoom; split <;> rfl
theorem zc_len {e : TypeId} {i : TypeInfo} {v : Value} (hi : P.info? e = some i) (hz : zc P e = v.cells.toList) (hl : Nat.beq (zc P e).length (P.cellsOf e) = true) : v.cells.size = i.size := by
  have := beqT hl; rw [hz, cellsOf_of hi] at this; simpa using this
theorem bytesOf_of {t : TypeId} {i : TypeInfo} (h : P.info? t = some i) : P.bytesOf t = i.bytes := by simp [Program.bytesOf, h]
theorem mks_sp {t : TypeId} {l c : Value} {K : VK} {E : Value → Hp → Prop} (h : mks P t l c K s) : sp P (Instr.makeSlice t l c) K E s := by
  unfold mks at h
  cases l <;> first | exact h.elim | skip
  cases c <;> first | exact h.elim | skip
  rename_i k1 a k2 b
  cases hc : (isSl P t && hasZero P (elemT P t) && Nat.beq (zc P (elemT P t)).length (P.cellsOf (elemT P t)) && Nat.ble (P.bytesOf (elemT P t)) 1000) with
  | false => simp only [hc] at h; exact h.elim
  | true =>
    simp only [hc] at h
    simp only [Bool.and_eq_true] at hc
    obtain ⟨⟨⟨hs, hz⟩, hl⟩, hb⟩ := hc
    obtain ⟨i, v, hi, hv, hz'⟩ := zero_of hz
    obtain ⟨⟨h0, h1, h2⟩, hk⟩ := h
    unfold isSl at hs
    split at hs
    · rename_i e hu
      have he : elemT P t = e := by unfold elemT; rw [hu]
      rw [he] at hi hz' hl hb hk
      have hvl := zc_len hi hz' hl
      have hby : i.bytes ≤ 1000 := by have := Nat.le_of_ble_eq_true hb; rwa [bytesOf_of hi] at this
      simp only [Instr.makeSlice, sp_bind, sp_und hu, asInt, asIntOf, sp_pure, sp_info hi]
      rw [wrap64_id (n := a) (by omega) (by omega), wrap64_id (n := b) (by omega) (by omega)]
      have hmul : (i.bytes : Int) * b ≤ 1000 * 100000 := Int.mul_le_mul (by omega) (by omega) (by omega) (by omega)
      have hno : ¬ ((decide (b < 0) || decide ((i.bytes : Int) * b > 2 ^ 48)) || decide (a < 0) || decide (a > b)) = true := by
        simp; omega
      rw [if_neg (by simpa using hno)]
      simp only [sp_bind, sp_askRoom, sp_size hi, sp_pure]
      have hrow : (Array.range (b.toNat * i.size)).map (v.cells[· % v.cells.size]!) = (repL b.toNat v.cells.toList).toArray := by
        rw [← hvl]; exact rowOf v.cells b.toNat
      rw [hz'] at hk
      by_cases h0 : b.toNat * i.size = 0
      · simp only [h0, if_true, sp_bind, sp_pure, newRow, sp_new]
        have e0 : (Array.range 0).map ((#[] : Array Value)[· % (#[] : Array Value).size]!) = (repL b.toNat v.cells.toList).toArray := by
          rw [← hrow, h0]; simp
        rw [e0]; exact hk
      · simp only [h0, if_false, sp_bind, sp_zero hi hv, sp_pure, newRow, sp_new, hrow]
        exact hk
    · cases hs
theorem cellsAt_spq : ∀ (n : Nat) (a : Addr) (i : Nat) (acc : Array Value) (vs : List Value) (K : Array Value → Prop), cellsAt s a i n = some vs → K (acc ++ vs.toArray) → spq P (loadCellsFrom a i n acc) K s
  | 0, a, i, acc, vs, K, h, hk => by
    simp [cellsAt] at h; subst h; simpa [loadCellsFrom, spq_pure] using hk
  | n + 1, a, i, acc, vs, K, h, hk => by
    simp only [cellsAt] at h
    cases hc : cellAt s (a.add i) with
    | none => simp [hc] at h
    | some v =>
      cases hr : cellsAt s a (i + 1) n with
      | none => simp [hc, hr] at h
      | some ws =>
        simp [hc, hr] at h
        subst h
        simp only [loadCellsFrom, spq_bind, spq_load]
        exact ⟨v, hc, cellsAt_spq n a (i + 1) (acc.push v) ws K hr (by simpa using hk)⟩
theorem firstCells_sp {a : Option Addr} {l c n size : Nat} {vs : List Value} {K : Array Value → Hp → Prop} {E : Value → Hp → Prop} (h : cellsOpt s a (n * size) = some vs) (hk : K vs.toArray s) : sp P (Builtin.firstCells size n (.slice a l c)) K E s := by
  cases a with
  | none => simp [cellsOpt] at h; subst h; exact hk
  | some a => exact sp_of_spq P _ _ _ _ (cellsAt_spq _ a 0 #[] vs _ h (by simpa using hk))
theorem nextcap_le (need old : Nat) (h : old < need) : Builtin.nextslicecap need old ≤ 1000 + 2 * need := by
  unfold Builtin.nextslicecap
  split
  · omega
  · split
    · omega
    · simp only [Builtin.growBy]
      repeat' split
      all_goals omega
theorem APP_sp {ts : Array TypeId} {t0 t1 e : TypeId} {ty : TypeId} {x y : Option Addr} {l c m cy : Nat} {i : TypeInfo} {v : Value} {K : VK} {E : Value → Hp → Prop} (h0 : ts[0]? = some t0) (h1 : ts[1]? = some t1)
    (hu : P.underlying t0 = some (.slice e)) (hu1 : isSl P t1 = true) (hi : P.info? e = some i) (hv : i.zero = some v) (hz : zc P e = v.cells.toList) (hl : v.cells.size = i.size) (hby : i.bytes ≤ 1000) (hby1 : 1 ≤ i.bytes)
    (h : APP P e i.size x l c y m (fun x l c => K (.slice x l c)) s) : sp P (Builtin.append_ ts ty #[.slice x l c, .slice y m cy]) K E s := by
  obtain ⟨⟨hlm, hc⟩, vs, hvs, h⟩ := h
  obtain ⟨e1, hd1⟩ : ∃ e1, P.underlying t1 = some (.slice e1) := by
    unfold isSl at hu1
    split at hu1
    · rename_i e1 hue; exact ⟨_, hue⟩
    · cases hu1
  simp only [Builtin.append_, h0, h1, List.getElem?_toArray, List.getElem?_cons_zero, List.getElem?_cons_succ]
  rw [sp_bind, sp_und hu]
  simp only []
  rw [sp_bind, sp_size hi, sp_bind, sp_und hd1, sp_bind]
  simp only [sp_pure, Bool.false_eq_true, if_false, Builtin.lenOf, sp_bind, sp_pure, Bool.not_false, if_true]
  by_cases hfit : l + m ≤ c
  · rw [if_pos hfit] at h ⊢
    rw [sp_bind]
    refine firstCells_sp hvs ?_
    cases x with
    | none => simpa [sp_bind, sp_pure] using h
    | some a =>
      simp only [sp_bind, sp_pure]
      exact sp_mono P _ (fun _ _ h => h) (fun _ _ h => h) _ (wrN_sp _ _ _ _ _ _ h)
  · rw [if_neg hfit] at h ⊢
    obtain ⟨ws, hws, h⟩ := h
    have hcap := nextcap_le (l + m) c (by omega)
    have hmul : Builtin.nextslicecap (l + m) c * i.bytes ≤ (1000 + 2 * (l + m)) * 1000 := Nat.mul_le_mul hcap hby
    have hg : ¬ (((l + m : Nat) : Int) > IntKind.i64.max ∧ (False ∨ i.bytes = 0)) := by
      rintro ⟨_, h | h⟩
      · exact h
      · omega
    simp only [sp_bind, sp_info hi]
    rw [if_neg hg]
    simp only [sp_pure, sp_bind, sp_info hi]
    rw [if_neg (by omega)]
    simp only [sp_pure, sp_bind, sp_info hi]
    show sp P (choose (.appendCap (l + m) c e)) _ E s
    simp only [choose, sp, Question.forced]
    intro q
    have hq : ∃ c', c' = (Question.appendCap (l + m) c e).cut q ∧ l + m ≤ c' ∧ c' < 9223372036854775808 := by
      refine ⟨_, rfl, ?_, ?_⟩
      · simp only [Question.cut]; omega
      · simp only [Question.cut]
        have := Nat.mod_lt q (show 0 < 2 ^ 63 - (l + m) by omega)
        omega
    obtain ⟨c', hc', hc1, hc2⟩ := hq
    rw [← hc']
    simp only [sp_bind, sp_askRoom]
    refine firstCells_sp hws ?_
    refine firstCells_sp hvs ?_
    simp only [sp_bind, sp_zero hi hv, newRow, sp_new, sp_pure]
    have hrow : Builtin.zeroCells v.cells (c' - (l + m)) = (repL (c' - (l + m)) (zc P e)).toArray := by
      rw [hz]; exact rowOf v.cells _
    rw [hrow]
    have := h c' hc1 hc2
    simpa using this
theorem COPY_sp {ts : Array TypeId} {t0 e ty : TypeId} {x y : Option Addr} {l c m cy : Nat} {i : TypeInfo} {K : VK} {E : Value → Hp → Prop} (h0 : ts[0]? = some t0)
    (hu : P.underlying t0 = some (.slice e)) (hi : P.info? e = some i) (h : COPY i.size x l y m (fun n => K (.int .i64 n)) s) : sp P (Builtin.copy_ ts ty #[.slice x l c, .slice y m cy]) K E s := by
  obtain ⟨vs, hvs, h⟩ := h
  simp only [Builtin.copy_, h0, List.getElem?_toArray, List.getElem?_cons_zero, List.getElem?_cons_succ]
  rw [sp_bind, sp_und hu]
  simp only [sp_bind, sp_pure, Builtin.lenOf, sp_size hi]
  refine firstCells_sp (by exact hvs) ?_
  cases x with
  | none => simp only [sp_pure]; exact h
  | some a =>
    simp only [sp_bind, sp_pure]
    exact sp_mono P _ (fun _ _ h => h) (fun _ _ h => h) _ (wrN_sp _ _ _ _ _ _ h)
def nxP (P : Program) (W : World) (K : VK) (E : List PanicEntry → Hp → Prop) : Next → Hp → Prop
  | .value v, s => K v s
  | .skip, s => K undef s
  | .enter f args, s => Does P W f args s (endK K E)
  | _, _ => False
def pnP (E : List PanicEntry → Hp → Prop) : Value → Hp → Prop := fun v s => E [{ v := v, recovered := false }] s
def nxR (P : Program) (W : World) (X : Nat → Prop) (h' : Hp) (s' : Hp) (w' : World) (K : VK) (E : List PanicEntry → Hp → Prop) : Next → Prop
  | .value v => K v s'
  | .skip => K undef s'
  | .enter f args => Does P W f args s' (endK K E)
  | .round l fn tmps assign body => RoundIn Fence.wide 0 P l fn tmps assign body w' fun e w'' => Now W X h' (endK K E e) w''
  | _ => False
def CameN (P : Program) (W : World) (X : Nat → Prop) (h : Hp) (K : VK) (E : List PanicEntry → Hp → Prop) : Result Next → Prop
  | .ok nx w' => ∃ h' d' s', w' = wat W h' d' ∧ Vis X h' s' ∧ Ev X h X h' ∧ nxR P W X h' s' w' K E nx
  | .halt (.panic v) w' => ∃ h' d' s', w' = wat W h' d' ∧ Vis X h' s' ∧ Ev X h X h' ∧ E [{ v := v, recovered := false }] s'
  | .halt _ _ => False
def Ok (P : Program) (W : World) (e : Sem Next) (K : VK) (E : List PanicEntry → Hp → Prop) (s : Hp) : Prop :=
  ∀ (X : Nat → Prop) (h : Hp) (d : Nat), Vis X h s → CameN P W X h K E (e.run P (wat W h d))
theorem Ok_of_sp {e : Sem Next} {K : VK} {E : List PanicEntry → Hp → Prop} (h : sp P e (nxP P W K E) (pnP E) s) : Ok P W e K E s := by
  intro X hp d v
  have := sp_sound P W e _ _ X hp d s v h
  cases hr : e.run P (wat W hp d) with
  | ok nx w' =>
    rw [hr] at this
    obtain ⟨h', d', s', a, b, c, k⟩ := this
    refine ⟨h', d', s', a, b, c, ?_⟩
    cases nx <;> first | exact k | exact k.elim
  | halt x w' =>
    rw [hr] at this
    cases x <;> first | exact this.elim | exact this
theorem Ok_value {e : Sem Value} {K : VK} {E : List PanicEntry → Hp → Prop} (h : sp P e K (pnP E) s) : Ok P W (do pure (.value (← e))) K E s := by
  apply Ok_of_sp
  rw [sp_bind]
  exact h
theorem Ok_unit {e : Sem Unit} {K : VK} {E : List PanicEntry → Hp → Prop} (h : sp P e (fun _ s => K undef s) (pnP E) s) : Ok P W (do e; pure .skip) K E s := by
  apply Ok_of_sp
  rw [sp_bind]
  exact h
theorem Ok_quiet {e : Sem Value} {K : VK} {E : List PanicEntry → Hp → Prop} (h : spq P e (fun v => K v s) s) : Ok P W (do pure (.value (← e))) K E s := Ok_value (sp_of_spq P e _ _ _ h)
theorem callFunc_enter {f : FuncId} (h : callable P f = true) (args : Array Value) (K : Next → Hp → Prop) (E : Value → Hp → Prop) (s : Hp) (hk : K (.enter f args) s) : sp P (callFunc f args) K E s := by
  unfold callable at h
  split at h
  · rename_i fn hf
    simp only [Bool.and_eq_true, Bool.not_eq_true'] at h
    simp only [callFunc, sp_bind, sp_program, hf]
    have hn : fn.body.isNone = false := by cases hb : fn.body <;> simp_all
    simp only [h.2, hn, Bool.false_eq_true, if_false]
    exact hk
  · cases h
theorem CALL_ok {ρ : Operand → Value} {c : Call} {ty : TypeId} {f : FuncId} {K : VK} {E : List PanicEntry → Hp → Prop} (hc : c.callee = .value (.func f)) (hf : ρ (.func f) = .func (.func f) #[] #[])
    (h : CALL P W f (c.args.toList.map ρ) K E s) : Ok P W (do let d ← resolve ρ c ty; invoke d.target d.args) K E s := by
  apply Ok_of_sp
  simp only [resolve, hc, hf, Deferred.ofValue, sp_bind, sp_pure, invoke]
  refine callFunc_enter h.1 _ _ _ _ ?_
  have e : (#[] ++ c.args.map ρ ++ #[] : Array Value) = (c.args.toList.map ρ).toArray := Array.ext' (by simp)
  rw [e]
  exact h
theorem CALLV_ok {ρ : Operand → Value} {c : Call} {ty : TypeId} {x : Operand} {K : VK} {E : List PanicEntry → Hp → Prop} (hc : c.callee = .value x)
    (h : CALLV P W (ρ x) (c.args.toList.map ρ) K E s) : Ok P W (do let d ← resolve ρ c ty; invoke d.target d.args) K E s := by
  unfold CALLV DoesV at h
  have e : (c.args.toList.map ρ).toArray = c.args.map ρ := Array.ext' (by simp)
  rw [e] at h
  split at h
  · rename_i f first cap hx
    apply Ok_of_sp
    simp only [resolve, hc, hx, Deferred.ofValue, sp_bind, sp_pure, invoke]
    exact callFunc_enter h.1 _ _ _ _ h
  · rename_i l first cap hx
    obtain ⟨rfl, rfl, h⟩ := h
    intro X hp d v
    obtain ⟨fn, tmps, assign, body, hy, hr⟩ := h X hp d v
    have e2 : (do let d ← resolve ρ c ty; invoke d.target d.args : Sem Next) = Instr.yield l (c.args.map ρ) := by
      simp only [resolve, hc, hx, Deferred.ofValue]
      show invoke (.fn (.yield l) #[]) (#[] ++ c.args.map ρ) = _
      have : (#[] ++ c.args.map ρ : Array Value) = c.args.map ρ := by simp
      rw [this]; rfl
    rw [e2, hy]
    exact ⟨hp, d, s, rfl, v, Ev.refl X hp, hr⟩
  · exact h.elim
theorem INV_ok {ρ : Operand → Value} {c : Call} {ty : TypeId} {x : Operand} {name : String} {K : VK} {E : List PanicEntry → Hp → Prop} (hc : c.callee = .invoke x name)
    (h : INV P W (ρ x) name (c.args.toList.map ρ) K E s) : Ok P W (do let d ← resolve ρ c ty; invoke d.target d.args) K E s := by
  apply Ok_of_sp
  unfold INV at h
  cases hx : ρ x <;> simp only [hx] at h <;> first | exact h.elim | skip
  rename_i t v
  cases hm : mth P t name with
  | none => simp only [hm] at h; exact h.elim
  | some f =>
    simp only [hm] at h
    have hargs : (#[Value.iface t v] ++ c.args.map ρ : Array Value)[0]? = some (.iface t v) := by rw [Array.getElem?_append_left (by simp)]; rfl
    have hext : (#[Value.iface t v] ++ c.args.map ρ : Array Value).extract 1 (#[Value.iface t v] ++ c.args.map ρ : Array Value).size = c.args.map ρ := by
      apply Array.ext'; rw [Array.toList_extract]; simp [List.take_of_length_le]
    simp only [resolve, hc, hx, sp_bind, sp_pure, invoke, hargs, hext, callMethod, sp_program]
    obtain ⟨n, hn⟩ : ∃ n, P.types.size + Made.depth = n + 1 := ⟨P.types.size + (Made.depth - 1), by
      have : 0 < Made.depth := by decide
      omega⟩
    rw [hn]
    unfold mth at hm
    cases hi : P.info? t with
    | none => simp [hi] at hm
    | some i =>
      simp only [hi] at hm
      cases hfd : i.methods.toList.find? (·.name == name) with
      | none => simp [hfd] at hm
      | some m =>
        simp only [hfd] at hm
        have hfd' : i.methods.find? (·.name == name) = some m := by rw [← Array.find?_toList]; exact hfd
        simp only [method, sp_bind, sp_info hi, hfd']
        cases hp : m.path.toList with
        | cons a b => simp [hp] at hm
        | nil =>
          have hpe : m.path.isEmpty = true := by
            have : m.path = #[] := Array.ext' (by simpa using hp)
            rw [this]; rfl
          simp only [follow, sp_pure, sp_bind, hpe, if_true]
          cases hmf : m.func with
          | none => simp [hp, hmf] at hm
          | some fq =>
            obtain ⟨g, q⟩ := fq
            simp only [hp, hmf] at hm
            cases hu : P.underlying t with
            | none => simp [hu] at hm
            | some d =>
              simp only [hu] at hm
              simp only [receiverAt, sp_bind, sp_und hu, sp_pure, Place.get]
              have fin : ∀ (g' : FuncId), g' = f → sp P (callFunc g' (#[v] ++ c.args.map ρ)) (nxP P W K E) (pnP E) s := by
                rintro g' rfl
                refine callFunc_enter h.1 _ _ _ _ ?_
                have e : (#[v] ++ c.args.map ρ : Array Value) = (v :: c.args.toList.map ρ).toArray := Array.ext' (by simp)
                rw [e]; exact h
              cases d <;> cases q <;> simp only [] at hm <;> first | (cases hm; done) | (cases hm; exact fin _ rfl)
theorem PAN_ok {x : Value} {E : List PanicEntry → Hp → Prop} {K : VK} (h : PAN x E s) : Ok P W (do pure (.value (← Instr.panic x))) K E s := by
  unfold PAN at h
  cases x <;> first | exact h.elim | skip
  apply Ok_value
  exact h
end
section
variable {P : Program} {W : World} {s : Hp}
theorem idx_list {α : Type} {ts : Array α} {i : Nat} {x : α} (h : ts.toList[i]? = some x) : ts[i]? = some x := by simpa using h
theorem len_spq {ts : Array TypeId} {ty : TypeId} {l : List Value} {K : VK} (h : bltin P .len ts.toList l K s) : spq P (Builtin.len_ ts ty l.toArray) (fun v => K v s) s := by
  unfold bltin at h
  cases l with
  | nil => exact h.elim
  | cons x r =>
    cases r with
    | cons y z => exact h.elim
    | nil =>
      simp only at h
      simp only [Builtin.len_]
      cases x <;> first | exact h.elim | skip
      all_goals
        cases h0 : (ts.toList[0]?).bind P.underlying with
        | none => simp only [h0] at h; exact h.elim
        | some d =>
          simp only [h0] at h
          cases d <;> first | exact h.elim | skip
          all_goals
            cases ht : ts.toList[0]? with
            | none => simp [ht] at h0
            | some t0 =>
              simp only [ht, Option.bind_some] at h0
              simp only [idx_list ht, List.getElem?_toArray, List.getElem?_cons_zero]
              first
                | (rw [spq_bind, spq_und h0]; exact h)
                | (rw [spq_bind, spq_und h0]
                   rename_i m k v
                   cases m with
                   | none => exact h
                   | some r =>
                     obtain ⟨es, cl, h1, h2⟩ := h
                     exact ⟨_, h1, rfl, rfl, h2⟩)
                | (rw [spq_bind, spq_und h0]
                   rename_i o e
                   cases hu : P.underlying e with
                   | none => simp only [hu] at h; exact h.elim
                   | some d =>
                     simp only [hu] at h
                     cases d <;> first | exact h.elim | skip
                     simp only []
                     rw [spq_bind, spq_und hu]; exact h)
theorem SLV_sp {e : Sem Value} {K : VK} {E : Value → Hp → Prop} (h : SLV P e (fun x l c => K (.slice x l c)) s) : sp P e K E s :=
  sp_mono P _ (fun v s ⟨x, l, c, h1, h2⟩ => by rw [h1]; exact h2) (fun v s h => h.elim) _ h
theorem SLV_mono {e : Sem Value} {K K' : Option Addr → Nat → Nat → Hp → Prop} (hk : ∀ x l c s, K x l c s → K' x l c s) (h : SLV P e K s) : SLV P e K' s :=
  sp_mono P _ (fun v s ⟨x, l, c, h1, h2⟩ => ⟨x, l, c, h1, hk _ _ _ _ h2⟩) (fun v s h => h) _ h
theorem EXT_mono {f : FuncId} {args : List Value} {K K' : VK} (hk : ∀ v s, K v s → K' v s) (h : EXT P f args K s) : EXT P f args K' s :=
  sp_mono P _ (fun v s ⟨x, h1, h2⟩ => ⟨x, h1, hk _ _ h2⟩) (fun v s h => h) _ h
theorem mxL_sp {k : IntKind} {m : Int} {K : VK} {E : Value → Hp → Prop} : ∀ (r : List Value) (a : Int), mxL a r = some m → K (.int k m) s → sp P (r.foldlM Builtin.max2 (.int k a)) K E s
  | [], a, h, hk => by simp only [mxL, Option.some.injEq] at h; subst h; exact hk
  | x :: r, a, h, hk => by
    cases x <;> simp only [mxL, reduceCtorEq] at h
    rename_i k' b
    rw [List.foldlM_cons, sp_bind]
    exact mxL_sp r _ h hk
theorem bltin_ok {ρ : Operand → Value} {c : Call} {ty : TypeId} {b : Builtin} {K : VK} {E : List PanicEntry → Hp → Prop} (hc : c.callee = .builtin b)
    (h : bltin P b c.argTypes.toList (c.args.toList.map ρ) K s) : Ok P W (do let d ← resolve ρ c ty; invoke d.target d.args) K E s := by
  have hargs : c.args.map ρ = (c.args.toList.map ρ).toArray := Array.ext' (by simp)
  generalize hl : c.args.toList.map ρ = l at *
  have key : ∀ e : Sem Value, builtin b c.argTypes ty (c.args.map fun | .const _ => true | _ => false) l.toArray = (do pure (.value (← e))) → sp P e K (pnP E) s → Ok P W (do let d ← resolve ρ c ty; invoke d.target d.args) K E s := by
    intro e he hs
    have : (do let d ← resolve ρ c ty; invoke d.target d.args : Sem Next) = (do pure (.value (← e))) := by
      simp only [resolve, hc]
      show invoke (.builtin b c.argTypes ty _) (c.args.map ρ) = _
      rw [hargs]; exact he
    rw [this]; exact Ok_value hs
  unfold bltin at h
  split at h
  · -- len
    rename_i x
    refine key _ rfl (sp_of_spq P _ _ _ _ (len_spq ?_))
    unfold bltin; exact h
  · refine key _ rfl ?_; exact h
  · refine key _ rfl ?_; exact h
  · rename_i k a x y z r
    cases hm : mxL a (x :: y :: z :: r) with
    | none => simp only [hm] at h; exact h.elim
    | some m => simp only [hm] at h; refine key _ rfl ?_; exact mxL_sp _ _ hm h
  · refine key _ rfl ?_; exact h
  · -- append
    rename_i x l' c' y m c2
    refine key _ rfl ?_
    cases h0 : (c.argTypes.toList[0]?).bind P.underlying with
    | none => simp only [h0] at h; exact h.elim
    | some d =>
      simp only [h0] at h
      cases d <;> first | exact h.elim | skip
      rename_i e
      cases h1 : (c.argTypes.toList[1]?).map (isSl P) with
      | none => simp only [h1] at h; exact h.elim
      | some bb =>
        simp only [h1] at h
        cases bb <;> first | exact h.elim | skip
        cases hb : (hasZero P e && Nat.beq (zc P e).length (P.cellsOf e) && Nat.ble (P.bytesOf e) 1000 && Nat.ble 1 (P.bytesOf e)) with
        | false => simp only [hb] at h; exact h.elim
        | true =>
          simp only [hb] at h
          simp only [Bool.and_eq_true] at hb
          obtain ⟨⟨⟨hz, hl'⟩, hb1⟩, hb2⟩ := hb
          obtain ⟨i, v, hi, hv, hz'⟩ := zero_of hz
          cases ht : c.argTypes.toList[0]? with
          | none => simp [ht] at h0
          | some t0 =>
            cases ht1 : c.argTypes.toList[1]? with
            | none => simp [ht1] at h1
            | some t1 =>
              simp only [ht, Option.bind_some] at h0
              simp only [ht1, Option.map_some, Option.some.injEq] at h1
              rw [cellsOf_of hi] at h
              refine APP_sp (idx_list ht) (idx_list ht1) h0 h1 hi hv hz' (zc_len hi hz' hl') ?_ ?_ h
              · have := Nat.le_of_ble_eq_true hb1; rwa [bytesOf_of hi] at this
              · have := Nat.le_of_ble_eq_true hb2; rwa [bytesOf_of hi] at this
  · -- copy
    rename_i x l' c' y m c2
    refine key _ rfl ?_
    cases h0 : (c.argTypes.toList[0]?).bind P.underlying with
    | none => simp only [h0] at h; exact h.elim
    | some d =>
      simp only [h0] at h
      cases d <;> first | exact h.elim | skip
      rename_i e
      obtain ⟨i, hi, h⟩ := SZ_elim h
      cases ht : c.argTypes.toList[0]? with
      | none => simp [ht] at h0
      | some t0 =>
        simp only [ht, Option.bind_some] at h0
        exact COPY_sp (idx_list ht) h0 hi h
  · -- delete
    refine key _ rfl (sp_mono P _ (fun v s h => ?_) (fun v s h => h.elim) _ h)
    rw [h.1]; exact h.2
  · -- cap
    rename_i xc lc cc
    refine key _ rfl ?_
    cases h0 : (c.argTypes.toList[0]?).bind P.underlying with
    | none => simp only [h0] at h; exact h.elim
    | some d =>
      simp only [h0] at h
      cases d <;> first | exact h.elim | skip
      cases ht : c.argTypes.toList[0]? with
      | none => simp [ht] at h0
      | some t0 =>
        simp only [ht, Option.bind_some] at h0
        unfold Builtin.cap_
        simp only [idx_list ht, List.getElem?_toArray, List.getElem?_cons_zero]
        rw [sp_bind, sp_und h0]
        exact h
  · -- clear
    refine key _ rfl (sp_mono P _ (fun v s h => ?_) (fun v s h => h.elim) _ h)
    rw [h.1]; exact h.2
  · -- append of zeros
    exact key _ rfl (SLV_sp h)
  · exact h.elim
theorem nilEq_spq {op : BinOp} {ty : TypeId} {o1 : Operand} {x : Value} {K : VK} (h : nilEq P op ty x K s) : spq P (do eqGuard op ty o1 (.const .nilIface) x .nilIface; binOp op ty x .nilIface) (fun v => K v s) s := by
  unfold nilEq at h
  cases hu : P.underlying ty with
  | none => simp only [hu] at h; exact h.elim
  | some d =>
    simp only [hu] at h
    cases d <;> first | exact h.elim | skip
    have hg : eqGuard op ty o1 (.const .nilIface) x .nilIface = pure () := by
      cases x <;> cases op <;> first | rfl | (unfold eqGuard; cases o1 <;> rfl)
    rw [hg]
    cases op <;> first | exact h.elim | skip
    all_goals
      unfold NILE at h
      cases x <;> first | exact h.elim | skip
    all_goals
      first
      | (change spq P (Op.equal ty _ .nilIface >>= fun r => pure (.bool r)) (fun v => K v s) s
         rw [spq_bind]
         show spq P (Op.equalIn (9999 + 1) ty _ _) _ s
         rw [Op.equalIn, spq_bind, spq_und hu]
         exact h)
      | (change spq P (Op.equal ty _ .nilIface >>= fun r => pure (.bool (!r))) (fun v => K v s) s
         rw [spq_bind]
         show spq P (Op.equalIn (9999 + 1) ty _ _) _ s
         rw [Op.equalIn, spq_bind, spq_und hu]
         exact h)
theorem nilSl_spq {op : BinOp} {ty : TypeId} {o1 o2 : Operand} {x : Value} {l c : Nat} {K : VK} (h : nilSl P op ty x K s) : spq P (do eqGuard op ty o1 o2 x (.slice none l c); binOp op ty x (.slice none l c)) (fun v => K v s) s := by
  unfold nilSl at h
  cases hu : P.underlying ty with
  | none => simp only [hu] at h; exact h.elim
  | some d =>
    simp only [hu] at h
    cases d <;> first | exact h.elim | skip
    cases x <;> first | (cases op <;> exact h.elim) | skip
    rename_i a l' c'
    have hg : eqGuard op ty o1 o2 (.slice a l' c') (.slice none l c) = pure () := by cases op <;> rfl
    rw [hg]
    cases op <;> first | exact h.elim | skip
    · change spq P (Op.equal ty _ (.slice none l c) >>= fun r => pure (.bool r)) (fun v => K v s) s
      rw [spq_bind]
      show spq P (Op.equalIn (9999 + 1) ty _ _) _ s
      rw [Op.equalIn, spq_bind, spq_und hu]
      cases a <;> exact h
    · change spq P (Op.equal ty _ (.slice none l c) >>= fun r => pure (.bool (!r))) (fun v => K v s) s
      rw [spq_bind]
      show spq P (Op.equalIn (9999 + 1) ty _ _) _ s
      rw [Op.equalIn, spq_bind, spq_und hu]
      cases a <;> exact h
theorem tc1_elim {k : Kd} {v : Value} {K : VK} (h : tc1 k v K s) : K v s := by
  unfold tc1 at h
  cases k <;> simp only at h
  case i k =>
    unfold TYC at h
    cases v <;> first | exact h.elim | skip
    rename_i k' n
    simp only at h
    cases hd : decide (k' = k) with
    | false => simp only [hd] at h; exact h.elim
    | true => simp only [hd] at h; rw [of_decide_eq_true hd]; exact h
  case b => unfold TYB at h; cases v <;> first | exact h.elim | exact h
  case s => unfold TYS at h; cases v <;> first | exact h.elim | exact h
  case p => unfold TYP at h; cases v <;> first | exact h.elim | exact h
  case l => unfold TYL at h; cases v <;> first | exact h.elim | exact h
  case m => unfold TYM at h; cases v <;> first | exact h.elim | exact h
  case v => exact h
theorem tcN_elim : ∀ (ks : List Kd) (l : List Value) (K : List Value → Hp → Prop), tcN ks l K s → K l s
  | [], l, K, h => by cases l <;> first | exact h | exact h.elim
  | k :: ks, l, K, h => by
    cases l with
    | nil => exact h.elim
    | cons x r => exact tcN_elim ks r (fun vs => K (x :: vs)) (tc1_elim (K := fun v s => tcN ks r (fun vs => K (v :: vs)) s) h)
theorem tyC_elim {t : TypeId} {v : Value} {K : VK} (h : tyC P t v K s) : K v s := by
  unfold tyC at h
  cases hi : isAg P t with
  | false => simp only [hi] at h; exact tc1_elim h
  | true =>
    simp only [hi] at h
    unfold AGG at h
    cases v <;> first | exact h.elim | skip
    exact tcN_elim _ _ _ h
theorem tas_spq {xt ty : TypeId} {ok : Bool} {x : Value} {K : VK} (h : tas P ty ok x K s) : spq P (Instr.typeAssert x xt ty ok) (fun v => K v s) s := by
  unfold tas at h
  unfold Instr.typeAssert
  cases hu : P.underlying ty with
  | none => simp only [hu] at h; exact h.elim
  | some d =>
    simp only [hu] at h
    rw [spq_bind, spq_und hu]
    cases d <;> simp only at h <;> first | exact h.elim | skip
    all_goals
      unfold IFC at h
      cases x <;> first | exact h.elim | skip
      rename_i t v
      simp only at h ⊢
      cases hb : Nat.beq t ty with
      | true =>
        simp only [BR, hb] at h
        rw [if_pos (beqT hb)]
        have := tyC_elim h
        cases ok <;> exact this
      | false =>
        simp only [BR, hb] at h
        have hne : ¬ t = ty := fun e => by subst e; simp at hb
        rw [if_neg hne]
        cases ok with
        | false => exact h.elim
        | true =>
          cases hz : (P.info? ty).bind (·.zero) with
          | none => simp only [hz] at h; exact h.elim
          | some z =>
            simp only [hz] at h
            cases hi : P.info? ty with
            | none => rw [hi] at hz; simp at hz
            | some i =>
              rw [hi] at hz
              simp only [Option.bind_some] at hz
              simp only [if_true, spq_bind, spq_zero hi hz, spq_pure]
              exact h
theorem bytes_spq : ∀ (bs : List UInt8) (acc : ByteArray) (K : ByteArray → Prop), K ⟨acc.data ++ bs.toArray⟩ →
    spq P (forIn (m := Sem) (bs.map fun b => Value.int .u8 b.toNat) acc (fun c r => do
      let .int .u8 n := c | stuck "bytesToString: byte expected"
      pure (ForInStep.yield (r.push (UInt8.ofNat n.toNat))))) (fun r => K r) s
  | [], acc, K, h => by
    simp only [List.map_nil, List.forIn_nil, spq_pure]
    have : (⟨acc.data ++ ([] : List UInt8).toArray⟩ : ByteArray) = acc := by simp
    rw [this] at h; exact h
  | b :: bs, acc, K, h => by
    simp only [List.map_cons, List.forIn_cons, spq_bind, spq_pure]
    have e : (UInt8.ofNat ((b.toNat : Int)).toNat) = b := by simp
    rw [e]
    refine bytes_spq bs (acc.push b) K ?_
    have : (⟨(acc.push b).data ++ bs.toArray⟩ : ByteArray) = ⟨acc.data ++ (b :: bs).toArray⟩ := by
      simp [ByteArray.push]
    rw [this]; exact h
theorem CVT_spq {z d : TypeId} {x : Value} {K : VK} (h : CVT P z d x K s) : spq P (convert z d x) (fun v => K v s) s := by
  unfold CVT at h
  cases hs : P.underlying z with
  | none => simp only [hs] at h; exact h.elim
  | some ds =>
    cases hu : P.underlying d with
    | none =>
      cases x <;> simp only [hs, hu] at h <;> first | exact h.elim | (cases ds <;> exact h.elim)
    | some dd =>
      cases x <;> simp only [hs, hu] at h <;> first | exact h.elim | skip
      case int k n =>
        cases dd <;> first | exact h.elim | (cases ds <;> exact h.elim) | skip
        unfold convert
        rw [spq_bind, spq_und hs, spq_bind, spq_und hu]
        cases ds <;> exact h
      case slice a l c =>
        cases ds <;> first | exact h.elim | skip
        rename_i e
        cases dd <;> first | exact h.elim | skip
        simp only at h
        cases he : P.underlying e with
        | none => simp only [he] at h; exact h.elim
        | some de =>
          simp only [he] at h
          cases de <;> first | exact h.elim | skip
          rename_i ke
          cases ke <;> first | exact h.elim | skip
          obtain ⟨bs, h1, h2⟩ := h
          unfold convert
          rw [spq_bind, spq_und hs, spq_bind, spq_und hu]
          simp only []
          rw [spq_bind, spq_und he]
          simp only [Conv.bytesToString]
          cases a with
          | none =>
            simp only [cellsOpt, Option.some.injEq] at h1
            have : bs = [] := by cases bs with | nil => rfl | cons x y => simp at h1
            subst this
            exact h2
          | some a =>
            simp only [spq_bind]
            refine cellsAt_spq l a 0 #[] _ _ h1 ?_
            simp only [Array.empty_append, List.forIn_toArray]
            exact bytes_spq bs .empty (fun r => K (.string r) s) (by simpa using h2)
theorem vop_spq {o : Oper} {t : Tm} {K : VK} {E : List PanicEntry → Hp → Prop} (hq : quiet o = true) (h : vop P W o t K E s) :
    ∃ e : Sem Next, execOp (ev t) o = e ∧ spq P e (fun nx => ∃ v, nx = .value v ∧ K v s) s := by
  refine ⟨_, rfl, ?_⟩
  unfold vop at h
  have lift : ∀ e : Sem Value, spq P e (fun v => K v s) s → spq P (do pure (Next.value (← e))) (fun nx => ∃ v, nx = .value v ∧ K v s) s := by
    intro e he
    rw [spq_bind]
    exact spq_mono P e s (fun v hv => ⟨v, rfl, hv⟩) he
  obtain ⟨dst, op, type, pos, after, guard⟩ := o
  simp only at h hq
  cases op <;> simp only [quiet, Bool.false_eq_true] at hq <;> simp only [execOp]
  case move x => exact ⟨_, rfl, h⟩
  case pick c a b =>
    cases hc : ev t c <;> simp only [hc] at h <;> first | exact h.elim | skip
    rename_i q
    cases q
    · exact ⟨_, rfl, h⟩
    · exact ⟨_, rfl, h⟩
  case build ty ps =>
    apply lift
    cases hb : (hasZero P ty && szs P ty) with
    | false => simp only [hb] at h; exact h.elim
    | true =>
      simp only [hb] at h
      simp only [Bool.and_eq_true] at hb
      refine build_spq hb.1 hb.2 ?_
      have e : (ps.map fun (x : Nat × Operand) => (x.1, ev t x.2)).toList = ps.toList.map fun (x : Nat × Operand) => (x.1, ev t x.2) := by simp
      rw [e]; exact h
  case load ty x => exact lift _ (LD_spq h)
  case nilCheck x =>
    have := nck_spq (P := P) (dst := dst) h
    simp only [execOp] at this
    exact this
  case binOp op ty x y ty2 =>
    cases hn : isNilC y with
    | false =>
      cases hn2 : isNilS y with
      | false => simp only [hn, hn2] at h; exact lift _ (bin_spq h)
      | true =>
        simp only [hn, hn2] at h
        apply lift
        obtain ⟨l, c, hy⟩ : ∃ l c, y = .const (.slice none l c) := by
          unfold isNilS at hn2
          split at hn2
          · exact ⟨_, _, rfl⟩
          · cases hn2
        subst hy
        exact nilSl_spq h
    | true =>
      simp only [hn] at h
      apply lift
      have hy : y = .const .nilIface := by
        unfold isNilC at hn
        split at hn
        · rfl
        · cases hn
      subst hy
      exact nilEq_spq h
  case unOp op ty x => exact lift _ (un_spq h)
  case convert src d x =>
    apply lift
    have hb : (Nat.beq src d && isSl P src) = false := by
      cases hb : Nat.beq src d with
      | true => rw [hb] at hq; cases hq
      | false => rfl
    simp only [hb] at h
    exact CVT_spq h
  case makeInterface ty x =>
    apply lift
    unfold Instr.makeInterface
    cases hu : P.underlying ty with
    | none => simp [isIf, hu] at h; exact h.elim
    | some d =>
      rw [spq_bind, spq_und hu]
      cases d <;> simp only [isIf, hu] at h <;> first | exact h.elim | exact h
  case makeFunc fn a b =>
    apply lift
    have e1 : a.map (ev t) = (a.toList.map (ev t)).toArray := Array.ext' (by simp)
    have e2 : b.map (ev t) = (b.toList.map (ev t)).toArray := Array.ext' (by simp)
    rw [e1, e2]; exact h
  case fieldAddr ty x j => exact lift _ (fad_spq h)
  case indexAddr ty x i => exact lift _ (idx_spq h)
  case extract x j =>
    apply lift
    cases hx : ev t x <;> simp only [hx] at h <;> first | exact h.elim | skip
    rename_i a
    cases ha : a.toList[j]? with
    | none => simp only [ha] at h; exact h.elim
    | some v =>
      simp only [ha] at h
      simp only [Instr.extract, idx_list ha]
      exact h
  case call c =>
    obtain ⟨callee, args, argTypes⟩ := c
    cases callee <;> first | (simp at hq; done) | skip
    rename_i b
    cases b <;> first | (simp at hq; done) | skip
    simp only at h
    have hargs : args.map (ev t) = (args.toList.map (ev t)).toArray := Array.ext' (by simp)
    have e : (do let d ← resolve (ev t) { callee := .builtin .len, args := args, argTypes := argTypes } type; invoke d.target d.args : Sem Next) = (do pure (Next.value (← Builtin.len_ argTypes type (args.toList.map (ev t)).toArray))) := by
      rw [← hargs]; rfl
    rw [e]
    exact lift _ (len_spq h)
theorem ty1_elim {k : Kd} {v : Value} {K : VK} (h : ty1 k v K s) : K v s ∧ isK k v := by
  unfold ty1 at h
  cases k <;> simp only at h
  case i k => unfold TYI at h; cases v <;> first | exact h.elim | (obtain ⟨rfl, h⟩ := h; exact ⟨h, _, rfl⟩)
  case b => unfold TYB at h; cases v <;> first | exact h.elim | exact ⟨h, _, rfl⟩
  case s => unfold TYS at h; cases v <;> first | exact h.elim | exact ⟨h, _, rfl⟩
  case p => unfold TYP at h; cases v <;> first | exact h.elim | exact ⟨h, _, rfl⟩
  case l => unfold TYL at h; cases v <;> first | exact h.elim | exact ⟨h, _, _, _, rfl⟩
  case m => unfold TYM at h; cases v <;> first | exact h.elim | exact ⟨h, _, rfl⟩
  case v => exact ⟨h, trivial⟩
theorem NL_elim {α : Type} {l : List α} {K : Hp → Prop} (h : NL l K s) : l = [] ∧ K s := by cases l <;> first | exact ⟨rfl, h⟩ | exact h.elim
theorem HD_elim {α : Type} {l : List α} {K : α → List α → Hp → Prop} (h : HD l K s) : ∃ x r, l = x :: r ∧ K x r s := by cases l <;> first | exact ⟨_, _, rfl, h⟩ | exact h.elim
theorem tyN_elim : ∀ (ks : List Kd) (l : List Value) (K : List Value → Hp → Prop), tyN ks l K s → K l s ∧ areK ks l
  | [], l, K, h => by obtain ⟨rfl, h⟩ := NL_elim h; exact ⟨h, trivial⟩
  | k :: ks, l, K, h => by
    obtain ⟨x, r, rfl, h'⟩ := HD_elim h
    obtain ⟨h'', h1⟩ := ty1_elim h'
    obtain ⟨h3, h2⟩ := tyN_elim ks r _ h''
    exact ⟨h3, h1, h2⟩
theorem tyT_elim {t : TypeId} {v : Value} {K : VK} (h : tyT P t v K s) : K v s := by
  unfold tyT at h
  cases hb : isAg P t with
  | false => simp only [hb] at h; exact (ty1_elim h).1
  | true =>
    simp only [hb] at h
    unfold AGG at h
    cases v <;> first | exact h.elim | skip
    have := (tyN_elim _ _ _ h).1
    simpa using this
theorem tyTs_elim : ∀ (ts : List TypeId) (l : List Value) (K : List Value → Hp → Prop), tyTs P ts l K s → K l s
  | [], l, K, h => by obtain ⟨rfl, h⟩ := NL_elim h; exact h
  | t :: ts, l, K, h => by
    obtain ⟨x, r, rfl, h'⟩ := HD_elim h
    exact tyTs_elim ts r _ (tyT_elim h')
theorem ENTY_elim {r : List Oper} {o : Oper} {v : Value} {K : VK} (h : ENTY P r o v K s) : K v s := by
  obtain ⟨dst, op, type, pos, after, guard⟩ := o
  unfold ENTY at h
  cases op <;> first | exact h | skip
  cases dst with
  | none => exact h
  | some d =>
  simp only at h
  cases h1 : exT r d 0 <;> simp only [h1] at h <;> first | exact h | skip
  cases h2 : exT r d 1 <;> simp only [h2] at h <;> first | exact h | skip
  rename_i t u
  cases hb : isAg P t || isAg P u <;> simp only [hb] at h <;> first | exact h | skip
  unfold TUP at h
  cases v <;> first | exact h.elim | skip
  have := tyTs_elim _ _ _ h
  simpa using this
theorem tyR_elim {t : TypeId} {v : Value} {K : VK} (h : tyR P t v K s) : K v s := by
  unfold tyR at h
  cases hu : P.underlying t with
  | none => simp only [hu] at h; exact tyT_elim h
  | some d =>
    simp only [hu] at h
    cases d <;> first | exact tyT_elim h | skip
    unfold TUP at h
    cases v <;> first | exact h.elim | skip
    have := tyTs_elim _ _ _ h
    simpa using this
theorem endK_mono {K K' : VK} {E E' : List PanicEntry → Hp → Prop} (hk : ∀ v s, K v s → K' v s) (he : ∀ c s, E c s → E' c s) (e : Ending) (s : Hp) (h : endK K E e s) : endK K' E' e s := by
  cases e <;> first | exact hk _ _ h | exact he _ _ h | exact h
theorem CALL_mono {f : FuncId} {args : List Value} {K K' : VK} {E E' : List PanicEntry → Hp → Prop} (hk : ∀ v s, K v s → K' v s) (he : ∀ c s, E c s → E' c s) (h : CALL P W f args K E s) : CALL P W f args K' E' s :=
  Does.mono h (fun e s' => endK_mono hk he e s')
theorem CALLV_mono {f : Value} {args : List Value} {K K' : VK} {E E' : List PanicEntry → Hp → Prop} (hk : ∀ v s, K v s → K' v s) (he : ∀ c s, E c s → E' c s) (h : CALLV P W f args K E s) : CALLV P W f args K' E' s :=
  DoesV.mono h (fun e s' => endK_mono hk he e s')
theorem INV_mono {x : Value} {name : String} {args : List Value} {K K' : VK} {E E' : List PanicEntry → Hp → Prop} (hk : ∀ v s, K v s → K' v s) (he : ∀ c s, E c s → E' c s) (h : INV P W x name args K E s) : INV P W x name args K' E' s := by
  unfold INV at *
  cases x <;> first | exact h.elim | skip
  rename_i t v
  simp only at h ⊢
  cases hm : mth P t name with
  | none => simp only [hm] at h; exact h.elim
  | some f => simp only [hm] at h ⊢; exact CALL_mono hk he h
theorem RNM_sp {t : TypeId} {x : Value} {K : VK} {E : Value → Hp → Prop} (h : RNM P t x (fun b => K (.pointer (some ⟨b, 0, none⟩))) s) : sp P (Instr.range t x) K E s := by
  unfold RNM at h
  cases hu : P.underlying t with
  | none => simp only [hu] at h; exact h.elim
  | some d =>
    simp only [hu] at h
    cases d <;> first | exact h.elim | skip
    cases x <;> first | exact h.elim | skip
    rename_i m
    cases m with
    | none => exact h.elim
    | some m =>
      obtain ⟨es, cl, h1, h2⟩ := h
      simp only [Instr.range, sp_bind, sp_und hu]
      exact ⟨_, h1, rfl, rfl, h2⟩
theorem ixv_spq {t : TypeId} {x i : Value} {K : VK} (h : ixv P t x i K s) : spq P (Instr.index t x i) (fun v => K v s) s := by
  unfold ixv at h
  cases hu : P.underlying t with
  | none => simp only [hu] at h; exact h.elim
  | some d =>
    simp only [hu] at h
    cases d <;> first | exact h.elim | skip
    case array l e =>
      cases x <;> first | exact h.elim | skip
      rename_i c
      cases i <;> first | exact h.elim | skip
      rename_i k n
      simp only at h
      cases hag : agO P e with
      | none => simp only [hag] at h; exact h.elim
      | some b =>
        cases b with
        | true =>
          simp only [hag] at h
          obtain ⟨z, hi, h1⟩ := SZ_elim h
          unfold IXH at h1
          cases hd : decide (0 ≤ n ∧ n < l) with
          | false => simp only [hd] at h1; exact h1.elim
          | true =>
            simp only [hd] at h1
            have h1 := tyC_elim h1
            obtain ⟨d, _, hag', _⟩ := agO_true (s := s) hag
            simp only [Instr.index, asIntOf, spq_bind, spq_pure, spq_und hu, if_pos (of_decide_eq_true hd), spq_size hi, part, hag', if_true]
            have e : c.extract (n.toNat * z.size) (n.toNat * z.size + z.size) = ((c.toList.drop (n.toNat * z.size)).take z.size).toArray := by
              apply Array.ext'; simp [Array.toList_extract, List.extract_eq_take_drop]
            rw [e]; exact h1
        | false =>
          simp only [hag] at h
          obtain ⟨z, hi, h1⟩ := SZ_elim h
          unfold IXG at h1
          cases hd : decide (0 ≤ n ∧ n < l) with
          | false => simp only [hd] at h1; exact h1.elim
          | true =>
            cases hc : c.toList[n.toNat * z.size]? with
            | none => simp only [hd, hc] at h1; exact h1.elim
            | some v =>
              simp only [hd, hc] at h1
              have h1 := tc1_elim h1
              obtain ⟨d, _, hag'⟩ := agO_false (s := s) hag
              have : c[n.toNat * z.size]? = some v := by simpa using hc
              simp only [Instr.index, asIntOf, spq_bind, spq_pure, spq_und hu, if_pos (of_decide_eq_true hd), spq_size hi, part, hag', Bool.false_eq_true, if_false]
              rw [this]; exact h1
    case string =>
      cases x <;> first | exact h.elim | skip
      rename_i x
      cases i <;> first | exact h.elim | skip
      rename_i k n
      obtain ⟨h0, h1⟩ := h
      simp only [Instr.index, asIntOf, spq_bind, spq_pure, spq_und hu, if_pos h0.1]
      cases hx : x[n.toNat]? with
      | none =>
        have : n.toNat < x.size := by omega
        rw [getElem?_pos x n.toNat this] at hx
        cases hx
      | some b => simp only [hx] at h1; exact h1
theorem EXT_ok {ρ : Operand → Value} {c : Call} {ty : TypeId} {f : FuncId} {K : VK} {E : List PanicEntry → Hp → Prop} (hc : c.callee = .value (.func f)) (hf : ρ (.func f) = .func (.func f) #[] #[])
    (h : EXT P f (c.args.toList.map ρ) K s) : Ok P W (do let d ← resolve ρ c ty; invoke d.target d.args) K E s := by
  apply Ok_of_sp
  simp only [resolve, hc, hf, Deferred.ofValue, sp_bind, sp_pure, invoke]
  have e : (#[] ++ c.args.map ρ ++ #[] : Array Value) = (c.args.toList.map ρ).toArray := Array.ext' (by simp)
  rw [e]
  refine sp_mono P _ (fun nx s hx => ?_) (fun v s h => h.elim) _ h
  obtain ⟨v, rfl, hk⟩ := hx
  exact hk
theorem vop_ok {o : Oper} {t : Tm} {K : VK} {E : List PanicEntry → Hp → Prop} (hd : isDefer o = false) (h : vop P W o t K E s) : Ok P W (execOp (ev t) o) K E s := by
  by_cases hq : quiet o = true
  · obtain ⟨e, he, hs⟩ := vop_spq hq h
    rw [he]
    apply Ok_of_sp
    refine sp_of_spq P e _ _ s (spq_mono P e s ?_ hs)
    rintro nx ⟨v, rfl, hk⟩
    exact hk
  · unfold vop at h
    obtain ⟨dst, op, type, pos, after, guard⟩ := o
    simp only at h
    cases op <;> first | exact h.elim | (exact absurd rfl hq) | simp only [execOp]
    case assign x => exact Ok_of_sp h
    case alloc e =>
      apply Ok_value
      cases hz : hasZero P e with
      | false => simp only [hz] at h; exact h.elim
      | true =>
        simp only [hz] at h
        obtain ⟨i, v, hi, hv, hz'⟩ := zero_of hz
        simp only [Instr.alloc, sp_bind, sp_zero hi hv]
        show sp P (newVar e v) _ _ s
        simp only [newVar, newRow, sp_bind, sp_new, sp_pure]
        unfold NEWZ at h
        rw [hz', toArray_toList] at h
        exact h
    case box e x =>
      apply Ok_value
      obtain ⟨i, hi, h⟩ := SZ_elim h
      obtain ⟨h1, h2, _⟩ := CS_elim h
      simp only [Instr.box, newVar, newRow, sp_bind, sp_new, sp_pure]
      unfold NEW at h2
      rw [toArray_toList] at h2
      exact h2
    case buildSlice ty len ps =>
      apply Ok_value
      refine BSL_sp ?_
      have e : (ps.map fun (x : Nat × Operand) => (x.1, ev t x.2)).toList = ps.toList.map fun (x : Nat × Operand) => (x.1, ev t x.2) := by simp
      rw [e]; exact h
    case convert z d x =>
      cases hb : (Nat.beq z d && isSl P z) with
      | true => simp only [hb] at h; exact Ok_value (SLV_sp h)
      | false => simp only [hb] at h; exact Ok_quiet (CVT_spq h)
    case store ty p x => exact Ok_unit (ST_sp h)
    case makeSlice ty l c => exact Ok_value (mks_sp h)
    case slice ty x lo hi mx =>
      cases mx with
      | some m => exact Ok_value (SLV_sp h)
      | none => exact Ok_quiet (slc_spq h)
    case field ty x j => exact Ok_quiet (fld_spq h)
    case typeAssert x xt ty ok => exact Ok_quiet (tas_spq h)
    case makeMap ty r =>
      cases r with
      | some r => exact h.elim
      | none => exact Ok_value h
    case lookup ty x i ok => exact Ok_value (sp_mono P _ (fun v s h => tyR_elim h) (fun v s h => h.elim) _ h)
    case mapUpdate ty m k x => exact Ok_unit (sp_mono P _ (fun v s h => h) (fun v s h => h.elim) _ h)
    case insert ty m k x => exact Ok_unit (sp_mono P _ (fun v s h => h) (fun v s h => h.elim) _ h)
    case range ty x => exact Ok_value (RNM_sp h)
    case next it b =>
      cases b with
      | true => exact h.elim
      | false =>
        refine Ok_value (sp_mono P _ (fun v s h => ?_) (fun v s h => h.elim) _ h)
        rcases h with ⟨rfl, h⟩ | ⟨k, x, rfl, h⟩ <;> exact h
    case entry it =>
      refine Ok_value (sp_mono P _ (fun v s h => ?_) (fun v s h => h.elim) _ h)
      obtain ⟨k, x, rfl, h⟩ := h
      exact h
    case index ty x i => exact Ok_quiet (ixv_spq h)
    case panic x => exact PAN_ok h
    case call c =>
      obtain ⟨callee, args, argTypes⟩ := c
      cases callee with
      | value x =>
        cases x with
        | func f =>
          cases hx : isExt P f with
          | false => simp only [hx] at h; exact CALL_ok rfl rfl (CALL_mono (fun v s h => tyR_elim h) (fun c s h => h) h)
          | true => simp only [hx] at h; exact EXT_ok rfl rfl (EXT_mono (fun v s h => tyR_elim h) h)
        | tmp i => exact CALLV_ok rfl (CALLV_mono (fun v s h => tyR_elim h) (fun c s h => h) h)
        | const v => exact CALLV_ok rfl (CALLV_mono (fun v s h => tyR_elim h) (fun c s h => h) h)
        | global g => exact CALLV_ok rfl (CALLV_mono (fun v s h => tyR_elim h) (fun c s h => h) h)
      | invoke x m => exact INV_ok rfl (INV_mono (fun v s h => tyR_elim h) (fun c s h => h) h)
      | builtin b => exact bltin_ok rfl h
end
def wideR (r : Option Nat) : Fence := { Fence.wide with round := r }
def Dcd (k0 : Nat → Prop) (X : Nat → Prop) (h : Hp) : List Deferred → Value → Prop
  | [], v => v = undef
  | d :: ds, v => (∃ r, d = { target := .collected r, args := #[] } ∧ k0 r ∧ X r ∧ h[r]? = some (.deferred (some [])) ∧ (∀ d' ∈ ds, d'.target ≠ .collected r) ∧ Dcd k0 X h ds v) ∨
     (∃ f cap args, d = { target := .fn (.func f) cap, args := args } ∧ v = .tuple #[.func (.func f) #[] cap, .tuple args] ∧ Dcd k0 X h ds undef)
theorem Dcd.ev {k0 : Nat → Prop} {X X' : Nat → Prop} {h h' : Hp} (e : Ev X h X' h') : ∀ {ds : List Deferred} {v : Value}, Dcd k0 X h ds v → Dcd k0 X' h' ds v
  | [], v, hd => hd
  | d :: ds, v, hd => by
    rcases hd with ⟨r, h1, h2, h3, h4, h5, h6⟩ | ⟨f, cap, args, h1, h2, h3⟩
    · exact .inl ⟨r, h1, h2, e.sub r h3, (e.keep r h3).trans h4, h5, h6.ev e⟩
    · exact .inr ⟨f, cap, args, h1, h2, h3.ev e⟩
structure Rel (n : Nat) (k0 : Nat → Prop) (X : Nat → Prop) (h : Hp) (a : Act) (t : Tm) : Prop where
  size : a.tmps.size = n
  tmp : ∀ i, i ≠ n → a.tmps.getD i undef = t i
  dfr : Dcd k0 X h a.defers (t n)
structure RelP (n : Nat) (rs : List Nat) (k0 : Nat → Prop) (X : Nat → Prop) (h : Hp) (a : Act) (t : Tm) : Prop where
  size : a.tmps.size = n
  tmp : ∀ i, i ∈ rs → i ≠ n → a.tmps.getD i undef = t i
  dfr : Dcd k0 X h a.defers (t n)
section
variable {n : Nat} {k0 : Nat → Prop} {rs : List Nat} {X X' : Nat → Prop} {h h' s s' : Hp} {a : Act} {t : Tm}
theorem Rel.ev (r : Rel n k0 X h a t) (e : Ev X h X' h') : Rel n k0 X' h' a t := ⟨r.size, r.tmp, r.dfr.ev e⟩
theorem RelP.ev (r : RelP n rs k0 X h a t) (e : Ev X h X' h') : RelP n rs k0 X' h' a t := ⟨r.size, r.tmp, r.dfr.ev e⟩
theorem Rel.toP (r : Rel n k0 X h a t) : RelP n rs k0 X h a t := ⟨r.size, fun i _ hi => r.tmp i hi, r.dfr⟩
theorem blt_iff {a b : Nat} : Nat.blt a b = true ↔ a < b := by simp [Nat.blt_eq]
theorem beq_iff {a b : Nat} : Nat.beq a b = true ↔ a = b := by simp [Nat.beq_eq]
theorem upd_get {n i j : Nat} {v : Value} {t : Tm} : upd n i v t j = if j = i ∧ i < n then v else t j := by
  unfold upd
  cases hb : (Nat.beq j i && Nat.blt i n) with
  | true =>
    simp only [Bool.and_eq_true, beq_iff, blt_iff] at hb
    rw [if_pos hb]
  | false =>
    rw [if_neg]
    intro hh
    have : (Nat.beq j i && Nat.blt i n) = true := by simp only [Bool.and_eq_true, beq_iff, blt_iff]; exact hh
    rw [this] at hb; cases hb
theorem upd_self {n i : Nat} {v : Value} {t : Tm} (h : t i = v) : upd n i v t = t := by
  funext j
  rw [upd_get]
  split
  · rename_i hh; rw [hh.1, h]
  · rfl
theorem updo_n {n : Nat} {d : Option Nat} {v : Value} {t : Tm} : updo n d v t n = t n := by
  cases d with
  | none => rfl
  | some d =>
    show upd n d v t n = t n
    rw [upd_get, if_neg (by omega)]
theorem put_size {a : Act} {d : Option Nat} {v : Value} : (a.put d v).tmps.size = a.tmps.size := by cases d <;> simp [Act.put]
theorem put_defers {a : Act} {d : Option Nat} {v : Value} : (a.put d v).defers = a.defers := by cases d <;> rfl
theorem put_get {a : Act} {d : Option Nat} {v : Value} {t : Tm} {i : Nat} (hs : a.tmps.size = n) (hi : i ≠ n) (ht : some i ≠ d → a.tmps.getD i undef = t i) (ho : n ≤ i → a.tmps.getD i undef = t i) :
    (a.put d v).tmps.getD i undef = updo n d v t i := by
  cases d with
  | none => exact ht (by simp)
  | some d =>
    show (a.tmps.setIfInBounds d v).getD i undef = upd n d v t i
    rw [upd_get]
    by_cases hd : i = d
    · subst hd
      by_cases hl : i < n
      · rw [if_pos ⟨rfl, hl⟩]
        simp [Array.getD, hs, hl]
      · rw [if_neg (by omega)]
        have : a.tmps.setIfInBounds i v = a.tmps := by
          apply Array.setIfInBounds_eq_of_size_le; omega
        rw [this]
        exact ho (by omega)
    · rw [if_neg (by omega)]
      have : (a.tmps.setIfInBounds d v).getD i undef = a.tmps.getD i undef := by
        simp only [Array.getD_eq_getD_getElem?]
        rw [Array.getElem?_setIfInBounds_ne (fun e => hd e.symm)]
      rw [this]
      exact ht (fun e => hd (by cases e; rfl))
theorem Rel.put (r : Rel n k0 X h a t) (d : Option Nat) (v : Value) : Rel n k0 X h (a.put d v) (updo n d v t) where
  size := put_size.trans r.size
  tmp := fun i hi => put_get r.size hi (fun _ => r.tmp i hi) (fun _ => r.tmp i hi)
  dfr := by rw [put_defers, updo_n]; exact r.dfr
end
def PQ (W : World) (n : Nat) (rs : List Nat) (k0 : Nat → Prop) (X : Nat → Prop) (h : Hp) (K : Kt) : Exit → Act → World → Prop
  | .panic c, a, w => ∃ X' h' d' s' t, w = wat W h' d' ∧ Vis X' h' s' ∧ Ev X h X' h' ∧ RelP n rs k0 X' h' a t ∧ K (.panic c) (prj rs t) s'
  | .outgrown, _, _ => False
  | .goto _, _, _ => False
  | e, a, w => ∃ X' h' d' s' t, w = wat W h' d' ∧ Vis X' h' s' ∧ Ev X h X' h' ∧ Rel n k0 X' h' a t ∧ K e t s'
theorem PQ.ev {W : World} {n : Nat} {rs : List Nat} {k0 : Nat → Prop} {X X' : Nat → Prop} {h h' : Hp} {K : Kt} {e : Exit} {a : Act} {w : World} (he : Ev X h X' h') (q : PQ W n rs k0 X' h' K e a w) : PQ W n rs k0 X h K e a w := by
  cases e <;> first | exact q | (obtain ⟨X2, h2, d2, s2, t2, a1, a2, a3, a4⟩ := q; exact ⟨X2, h2, d2, s2, t2, a1, a2, he.trans a3, a4⟩)
theorem PQ.mono {W : World} {n : Nat} {rs : List Nat} {k0 : Nat → Prop} {X : Nat → Prop} {h : Hp} {K K' : Kt} {e : Exit} {a : Act} {w : World} (hk : ∀ e t s, K e t s → K' e t s) (q : PQ W n rs k0 X h K e a w) : PQ W n rs k0 X h K' e a w := by
  cases e <;> first | exact q | (obtain ⟨X2, h2, d2, s2, t2, a1, a2, a3, a4, a5⟩ := q; exact ⟨X2, h2, d2, s2, t2, a1, a2, a3, a4, hk _ _ _ a5⟩)
section
variable {P : Program} {W : World} {X : Nat → Prop} {h s : Hp} {d : Nat} {a : Act} {t : Tm} {o : Oper} {r : Option Nat}
theorem calls_in {f : FuncId} {args : Array Value} {w : World} {R : Ending → World → Prop} (hc : Calls P f args w R) : CallsIn (wideR r) 0 P f args w R := (callsIn_wide (n := 0)).2 hc
theorem not_defer (hd : isDefer o = false) : (∀ c, o.op ≠ .defer c) ∧ ∀ cs b, o.op ≠ .select cs b := by
  unfold isDefer at hd
  constructor
  · intro c hc; rw [hc] at hd; cases hd
  · intro cs b hc; rw [hc] at hd; cases hd
theorem oper_ok {K : VK} {E : List PanicEntry → Hp → Prop} {next : Act → World → Prop} {Q : Exit → Act → World → Prop} (hd : isDefer o = false) (hv : vop P W o t K E s) (hev : ∀ x ∈ o.op.operands, a.eval x = ev t x) (v : Vis X h s)
    (hn : ∀ v X' h' d' s', Vis X' h' s' → Ev X h X' h' → K v s' → next (a.put o.dst v) (wat W h' d'))
    (hp : ∀ c X' h' d' s', Vis X' h' s' → Ev X h X' h' → E c s' → Q (.panic c) a (wat W h' d')) : o.wpIn (wideR r) 0 P a (wat W h d) next Q := by
  refine ⟨fun _ _ => trivial, ?_⟩
  rw [Oper.semAt_eq _ _ _ (not_defer hd).1, execOp_congr o (not_defer hd).2 hev]
  have hok := vop_ok hd hv X h d v
  cases hr : (execOp (ev t) o).run P (wat W h d) with
  | halt x w' =>
    rw [hr] at hok
    cases x <;> first | exact hok.elim | skip
    obtain ⟨h', d', s', rfl, v', e', k⟩ := hok
    exact hp _ X h' d' s' v' e' k
  | ok nx w' =>
    rw [hr] at hok
    obtain ⟨h', d', s', rfl, v', e', k⟩ := hok
    cases nx <;> first | exact k.elim | skip
    case value x => exact hn x X h' d' s' v' e' k
    case skip => exact hn undef X h' d' s' v' e' k
    case enter f args =>
      refine ⟨fun hh => (by cases hh), ?_⟩
      refine calls_in ((k.2 X h' d' v').mono ?_)
      intro e w'' hnow
      obtain ⟨X'', h'', d'', s'', rfl, v'', e'', k''⟩ := hnow
      cases e with
      | returned x => exact hn x X'' h'' d'' s'' v'' (e'.trans e'') k''
      | panicked c => exact hp c X'' h'' d'' s'' v'' (e'.trans e'') k''
      | outgrown => exact k''.elim
    case round l fn tmps assign body =>
      refine ⟨fun hh => (by cases hh), ?_⟩
      have k' : RoundIn (wideR r) 0 P l fn tmps assign body (wat W h' d') fun e w'' => Now W X h' (endK K E e) w'' := k
      refine k'.mono ?_
      intro e w'' hnow
      obtain ⟨X'', h'', d'', s'', rfl, v'', e'', k''⟩ := hnow
      cases e with
      | returned x => exact hn x X'' h'' d'' s'' v'' (e'.trans e'') k''
      | panicked c => exact hp c X'' h'' d'' s'' v'' (e'.trans e'') k''
      | outgrown => exact k''.elim
end
section
variable {P : Program} {W : World} {n : Nat} {k0 : Nat → Prop} {s : Hp} {a : Act} {t : Tm}
theorem grd_elim {ops : Array Oper} {j : Nat} {want : Bool} {run skip : Tm → Hp → Prop} (hs : a.tmps.size = n) (hd : ∀ d, dstOf ops.toList j = some d → a.tmps.getD d undef = t d) (h : grd n (dstOf ops.toList j) want t run skip s) :
    (yielded ops a.tmps j = some want ∧ run t s) ∨ (yielded ops a.tmps j ≠ some want ∧ skip t s) := by
  unfold grd at h
  have e0 : dstOf ops.toList j = (ops[j]?).bind (·.dst) := by unfold dstOf; simp
  cases hx : dstOf ops.toList j with
  | none =>
    simp only [hx] at h
    right
    refine ⟨?_, h⟩
    unfold yielded
    rw [← e0, hx]
    simp
  | some d =>
    have hd' := hd d hx
    simp only [hx] at h
    have hy : yielded ops a.tmps j = (match a.tmps[d]? with | some (.bool b) => some b | _ => none) := by
      unfold yielded
      rw [← e0, hx]
      rfl
    cases ht : t d <;> simp only [ht] at h <;> first | exact h.elim | skip
    case tuple x =>
      right
      refine ⟨?_, h⟩
      rw [hy]
      cases hg : a.tmps[d]? with
      | none => simp
      | some v =>
        have : v = .tuple x := by
          have := hd'; rw [Array.getD_eq_getD_getElem?, hg, ht] at this; simpa using this
        subst this
        simp
    case bool b =>
      have hg : a.tmps[d]? = some (.bool b) := by
        cases hg : a.tmps[d]? with
        | none => rw [Array.getD_eq_getD_getElem?, hg, ht] at hd'; simp [undef] at hd'
        | some v => rw [Array.getD_eq_getD_getElem?, hg, ht] at hd'; simpa using hd'
      rw [hy, hg]
      cases b with
      | true =>
        have h' : (match want with | true => run | false => skip) (upd n d (.bool true) t) s := h
        rw [upd_self ht] at h'
        cases want with
        | true => exact .inl ⟨rfl, h'⟩
        | false => exact .inr ⟨by simp, h'⟩
      | false =>
        have h' : (match want with | true => skip | false => run) (upd n d (.bool false) t) s := h
        rw [upd_self ht] at h'
        cases want with
        | true => exact .inr ⟨by simp, h'⟩
        | false => exact .inl ⟨rfl, h'⟩
end
def slotOk (n : Nat) (ops : List Oper) (o : Oper) : Bool := (reads ops o).all fun i => !Nat.beq i n
section
variable {P : Program} {W : World} {n : Nat} {k0 : Nat → Prop} {rs : List Nat} {a : Act} {t : Tm} {o : Oper}
theorem eval_of {ops : List Oper} (ha : ∀ i ∈ reads ops o, a.tmps.getD i undef = t i) : ∀ x ∈ o.op.operands, a.eval x = ev t x := by
  intro x hx
  cases x <;> try rfl
  rename_i i
  refine ha i (List.mem_append_left _ (List.mem_flatMap.2 ⟨.tmp i, by simpa using hx, by simp [rdsOp]⟩))
theorem guard_of {ops : List Oper} {g : Nat} {w : Bool} (hg : o.guard = some (g, w)) {d : Nat} (hd : dstOf ops g = some d) : d ∈ reads ops o := by
  refine List.mem_append_right _ ?_
  simp only [hg, hd]
  simp
theorem slots_of {ops : List Oper} {X : Nat → Prop} {h : Hp} (ho : slotOk n ops o = true) (r : Rel n k0 X h a t) : ∀ i ∈ reads ops o, a.tmps.getD i undef = t i := by
  intro i hi
  refine r.tmp i ?_
  have := List.all_eq_true.1 ho i hi
  intro e
  subst e
  simp at this
theorem defer_ok {F : Fence} {nx : Act → World → Prop} {Q : Exit → Act → World → Prop} {w : World} {f : FuncId} {cap : Array Value} {x : Operand} {args : Array Operand} {ats : Array TypeId} (ho : o.op = .defer { callee := .value x, args := args, argTypes := ats }) (hx : ev t x = .func (.func f) #[] cap)
    (hF : F.round = none) (hl : ∀ f, F.fn f) (hev : ∀ x ∈ o.op.operands, a.eval x = ev t x) (h : nx ({ a with defers := { target := .fn (.func f) cap, args := (args.toList.map (ev t)).toArray } :: a.defers }.put o.dst undef) w) : o.wpIn F 0 P a w nx Q := by
  refine ⟨fun f _ => hl f, ?_⟩
  rw [hF, Oper.semAt_none, execOp_congr o (by rw [ho]; intro _ _ h; cases h) hev]
  obtain ⟨dst, op, type, pos, after, guard⟩ := o
  simp only at ho
  subst ho
  simp only [execOp, resolve]
  show Oper.uponIn F 0 P _ a nx Q (Sem.run P (do let d ← Deferred.ofValue (ev t x) (args.map (ev t)); pure (Next.defer d)) w)
  rw [hx]
  have e : (#[] ++ args.map (ev t) : Array Value) = (args.toList.map (ev t)).toArray := Array.ext' (by simp)
  show Oper.uponIn F 0 P _ a nx Q (Sem.run P (pure (Next.defer { target := .fn (.func f) cap, args := #[] ++ args.map (ev t) })) w)
  rw [e]
  exact h
theorem vops_ok {r : Option Nat} {ops : Array Oper} {K : Kt} {X : Nat → Prop} {h : Hp} : ∀ (l : List Oper), (∀ o ∈ l, slotOk n ops.toList o = true) → ∀ (t : Tm) (s : Hp) (a : Act) (X1 : Nat → Prop) (h1 : Hp) (d : Nat),
    Vis X1 h1 s → Ev X h X1 h1 → Rel n k0 X1 h1 a t → vops P W n rs r.isSome ops.toList K l t s → wpListIn (wideR r) 0 P ops (PQ W n rs k0 X h K) l a (wat W h1 d)
  | [], _, t, s, a, X1, h1, d, v, e, rl, hv => ⟨X1, h1, d, s, t, rfl, v, e, rl, hv⟩
  | o :: l, hl, t, s, a, X1, h1, d, v, e, rl, hv => by
    have hsl := slots_of (hl o (by simp)) rl
    have hev := eval_of hsl
    have ih := vops_ok (r := r) (ops := ops) (K := K) (X := X) (h := h) l (fun o ho => hl o (by simp [ho]))
    -- the operation carried out
    have run : vrun P W n rs r.isSome l o K (vops P W n rs r.isSome ops.toList K l) t s → o.wpIn (wideR r) 0 P a (wat W h1 d) (wpListIn (wideR r) 0 P ops (PQ W n rs k0 X h K) l) (PQ W n rs k0 X h K) := by
      intro hr
      unfold vrun at hr
      by_cases hdf : ∃ c, o.op = .defer c
      · obtain ⟨⟨callee, args, ats⟩, hop⟩ := hdf
        simp only [hop] at hr
        cases callee <;> first | exact hr.elim | skip
        rename_i x
        cases r <;> first | exact hr.elim | skip
        simp only [Option.isSome_none] at hr
        cases hx : ev t x <;> simp only [hx] at hr <;> first | exact hr.elim | skip
        rename_i fn first cap
        obtain ⟨first⟩ := first
        cases fn <;> first | exact hr.elim | skip
        rename_i f
        cases first with
        | cons y z => exact hr.elim
        | nil =>
        cases htn : t n <;> simp only [htn] at hr <;> first | exact hr.elim | skip
        rename_i tl
        obtain ⟨tl⟩ := tl
        cases tl with
        | cons x y => exact hr.elim
        | nil =>
          refine defer_ok hop hx rfl (fun _ => trivial) hev ?_
          refine ih _ s _ X1 h1 d v e ?_ hr
          have r1 : Rel n k0 X1 h1 { a with defers := { target := .fn (.func f) cap, args := (args.toList.map (ev t)).toArray } :: a.defers } (setD n (.tuple [.func (.func f) #[] cap, .tuple (args.toList.map (ev t)).toArray].toArray) t) := by
            refine ⟨rl.size, fun i hi => ?_, ?_⟩
            · show a.tmps.getD i undef = _
              rw [rl.tmp i hi]
              unfold setD
              cases hb : Nat.beq i n with
              | true => exact absurd (beq_iff.1 hb) hi
              | false => rfl
            · refine .inr ⟨f, cap, _, rfl, ?_, ?_⟩
              · unfold setD
                have : Nat.beq n n = true := by simp
                rw [this]
              · have := rl.dfr
                rw [htn] at this
                exact this
          exact r1.put o.dst undef
      · have hnd : ∀ c, o.op ≠ .defer c := fun c hc => hdf ⟨c, hc⟩
        have hr' : vop P W o t (fun v => ENTY P l o v fun v => vops P W n rs r.isSome ops.toList K l (updo n o.dst v t)) (fun c => K (.panic c) (prj rs t)) s := by
          cases hop : o.op <;> simp only [hop] at hr <;> first | exact hr | exact absurd hop (hnd _)
        clear hr
        have hr := hr'
        have hd : isDefer o = false ∨ (∃ c b, o.op = .select c b) ∨ ∃ a b, o.op = .call { callee := .builtin .recover, args := a, argTypes := b } := by
          unfold isDefer
          split
          · rename_i c hop; exact absurd hop (hnd c)
          · rename_i c b hop; exact .inr (.inl ⟨c, b, hop⟩)
          · rename_i a b hop; exact .inr (.inr ⟨a, b, hop⟩)
          · exact .inl rfl
        rcases hd with hd | ⟨c, b, hop⟩ | ⟨c, b, hop⟩
        · refine oper_ok hd hr hev v ?_ ?_
          · intro x X2 h2 d2 s2 v2 e2 k2
            exact ih _ s2 _ X2 h2 d2 v2 (e.trans e2) ((rl.ev e2).put o.dst x) (ENTY_elim k2)
          · intro c X2 h2 d2 s2 v2 e2 k2
            exact ⟨X2, h2, d2, s2, t, rfl, v2, e.trans e2, (rl.ev e2).toP, k2⟩
        · unfold vop at hr; simp only [hop] at hr; exact hr.elim
        · unfold vop at hr; simp only [hop] at hr; exact hr.elim
    unfold vops at hv
    simp only [wpListIn]
    cases hg : o.guard with
    | none =>
      simp only [hg] at hv
      simp only [Region.wanted, hg, if_true]
      exact run hv
    | some jw =>
      obtain ⟨j, want⟩ := jw
      simp only [hg] at hv
      simp only [Region.wanted, hg]
      rcases grd_elim (a := a) (ops := ops) rl.size (fun d hd => hsl d (guard_of hg hd)) hv with ⟨hy, hr⟩ | ⟨hy, hr⟩
      · rw [if_pos (by simp [hy])]
        exact run hr
      · rw [if_neg (by simpa using hy)]
        exact ⟨fun _ _ => trivial, ih _ s _ X1 h1 d v e (rl.put o.dst undef) hr⟩
end
section
variable {P : Program} {W : World} {s : Hp} {o : Oper}
theorem vop_congr {t t' : Tm} (h : ∀ x ∈ o.op.operands, ev t x = ev t' x) (K : VK) (E : List PanicEntry → Hp → Prop) : vop P W o t K E = vop P W o t' K E := by
  have lm : ∀ l : List Operand, (∀ x ∈ l, ev t x = ev t' x) → l.map (ev t) = l.map (ev t') := fun l hl => List.map_congr_left hl
  have lp : ∀ l : List (Nat × Operand), (∀ x ∈ l.map (·.2), ev t x = ev t' x) → (l.map fun (x : Nat × Operand) => (x.1, ev t x.2)) = l.map fun (x : Nat × Operand) => (x.1, ev t' x.2) := fun l hl =>
    List.map_congr_left fun p hp => by rw [hl p.2 (List.mem_map.2 ⟨p, hp, rfl⟩)]
  obtain ⟨dst, op, type, pos, after, guard⟩ := o
  cases op <;> simp only [Op.operands] at h <;> simp only [vop]
  case build ty ps => rw [lp ps.toList (fun x hx => h x (by simpa using hx))]
  case buildSlice ty n ps => rw [lp ps.toList (fun x hx => h x (by simpa using hx))]
  case makeFunc fn a b => rw [lm a.toList (fun x hx => h x (by simp at hx ⊢; exact .inl hx)), lm b.toList (fun x hx => h x (by simp at hx ⊢; exact .inr hx))]
  case slice ty x lo hi mx =>
    cases mx with
    | some m => cases lo <;> cases hi <;> simp_all
    | none => cases lo <;> cases hi <;> simp_all
  case call c =>
    obtain ⟨callee, args, ats⟩ := c
    have ha := lm args.toList (fun x hx => h x (by simp [Call.operands] at hx ⊢; exact .inr hx))
    cases callee with
    | value x =>
      have hx : ev t x = ev t' x := h x (by simp [Call.operands])
      cases x <;> simp only [ha, hx]
    | invoke x m =>
      have hx : ev t x = ev t' x := h x (by simp [Call.operands])
      simp only [ha, hx]
    | builtin b => simp only [ha]
  case makeMap ty r => cases r <;> rfl
  case next it b =>
    have hx : ev t it = ev t' it := h it (by simp)
    cases b <;> simp only [hx]
  all_goals (first | rfl | (simp_all; done))
theorem BLD_pure {place : Nat → Option (Nat × Nat × Bool)} : ∀ (ps : List (Nat × Value)) (cs : List Value) (K : List Value → Hp → Prop), BLD place cs ps K s →
    ∃ ds, K ds s ∧ ∀ (K' : List Value → Hp → Prop) (s' : Hp), K' ds s' → BLD place cs ps K' s'
  | [], cs, K, h => ⟨cs, h, fun K' s' h' => h'⟩
  | (i, v) :: r, cs, K, h => by
    unfold BLD at h
    cases hp : place i with
    | none => simp only [hp] at h; exact h.elim
    | some x =>
      obtain ⟨off, n, ag⟩ := x
      simp only [hp] at h
      obtain ⟨h1, h2, h3, h4⟩ := CS_elim h
      cases hle : Nat.ble (off + n) cs.length with
      | false => simp only [hle] at h2; exact h2.elim
      | true =>
        simp only [hle] at h2
        obtain ⟨ds, hk, hr⟩ := BLD_pure r _ K h2
        refine ⟨ds, hk, fun K' s' h' => ?_⟩
        unfold BLD
        simp only [hp]
        unfold CS at h ⊢
        cases ag with
        | true =>
          obtain ⟨c, rfl⟩ := h3 rfl
          have hn : Nat.beq c.toList.length n = true := by simpa [Value.cells] using h1
          simp only [hn, hle]
          exact hr K' s' h'
        | false =>
          obtain ⟨rfl, hc⟩ := h4 rfl
          have hn : Nat.beq 1 1 = true := rfl
          simp only [hn] at h ⊢
          unfold ONE at h ⊢
          cases h1 : oneCell v with
          | false => simp only [h1] at h; exact h.elim
          | true =>
            simp only [hle]
            rw [hc] at hr
            exact hr K' s' h'
theorem NNI_pure {b : Int} {K : Hp → Prop} (h : NNI b K s) : K s ∧ ∀ (K' : Hp → Prop) (s' : Hp), K' s' → NNI b K' s' := by
  cases b with
  | ofNat n => exact ⟨h, fun K' s' h' => h'⟩
  | negSucc n => exact h.elim
theorem NZI_pure {b : Int} {K : Hp → Prop} (h : NZI b K s) : K s ∧ ∀ (K' : Hp → Prop) (s' : Hp), K' s' → NZI b K' s' := by
  cases b with
  | ofNat n =>
    cases n with
    | zero => exact h.elim
    | succ n => exact ⟨h, fun K' s' h' => h'⟩
  | negSucc n => exact ⟨h, fun K' s' h' => h'⟩
theorem bin_pure {op : BinOp} {ty : TypeId} {x y : Value} {K : VK} (h : bin P op ty x y K s) : ∃ v, K v s ∧ ∀ (K' : VK) (s' : Hp), K' v s' → bin P op ty x y K' s' := by
  unfold bin at h ⊢
  cases x <;> cases y <;> first | exact h.elim | skip
  case int.int k a k' b =>
    cases op <;> simp only at h ⊢
    case shl => obtain ⟨h1, h2⟩ := NNI_pure h; exact ⟨_, h1, fun K' s' h' => h2 _ s' h'⟩
    case shr => obtain ⟨h1, h2⟩ := NNI_pure h; exact ⟨_, h1, fun K' s' h' => h2 _ s' h'⟩
    all_goals
      cases hk : decide (k = k') <;> simp only [hk] at h <;> first | exact h.elim | skip
    case quo.true => obtain ⟨h1, h2⟩ := NZI_pure h; exact ⟨_, h1, fun K' s' h' => h2 _ s' h'⟩
    case rem.true => obtain ⟨h1, h2⟩ := NZI_pure h; exact ⟨_, h1, fun K' s' h' => h2 _ s' h'⟩
    all_goals exact ⟨_, h, fun K' s' h' => h'⟩
  case bool.bool a b =>
    cases hu : P.underlying ty with
    | none => cases op <;> simp only [hu] at h <;> exact h.elim
    | some d =>
      cases op <;> simp only [hu] at h <;> first | exact h.elim | skip
      all_goals (cases d <;> first | exact h.elim | exact ⟨_, h, fun K' s' h' => by simp only [hu]; exact h'⟩)
  case string.string a b =>
    cases op <;> first | exact h.elim | exact ⟨_, h, fun K' s' h' => h'⟩ | exact ⟨_, h.2, fun K' s' h' => ⟨h.1, h'⟩⟩
  case agg.agg a b =>
    cases hc : (isAg P ty && !P.eqGuardType P.depth ty) with
    | false => simp only [hc] at h; exact h.elim
    | true =>
      cases hf : flatE P ty a.toList b.toList with
      | none => simp only [hc, hf] at h; exact h.elim
      | some r =>
        simp only [hc, hf] at h
        cases op <;> simp only at h <;> first | exact h.elim | exact ⟨_, h, fun K' s' h' => by simp only [hc, hf]; exact h'⟩
theorem nilEq_pure {op : BinOp} {ty : TypeId} {x : Value} {K : VK} (h : nilEq P op ty x K s) : ∃ v, K v s ∧ ∀ (K' : VK) (s' : Hp), K' v s' → nilEq P op ty x K' s' := by
  unfold nilEq at h ⊢
  cases hu : P.underlying ty with
  | none => simp only [hu] at h; exact h.elim
  | some d =>
    simp only [hu] at h
    cases d <;> first | exact h.elim | skip
    cases op <;> first | exact h.elim | skip
    all_goals
      unfold NILE at h ⊢
      cases x <;> first | exact h.elim | exact ⟨_, h, fun K' s' h' => h'⟩
theorem SZ_pure {t : TypeId} {K : Nat → Hp → Prop} (h : SZ P t K s) : ∃ m, K m s ∧ ∀ (K' : Nat → Hp → Prop) (s' : Hp), K' m s' → SZ P t K' s' := by
  unfold SZ at h ⊢
  cases hi : P.info? t with
  | none => rw [hi] at h; exact h.elim
  | some i => rw [hi] at h; exact ⟨_, h, fun K' s' h' => h'⟩
theorem idx_pure {t : TypeId} {x i : Value} {K : VK} (h : idx P t x i K s) : ∃ v, K v s ∧ ∀ (K' : VK) (s' : Hp), K' v s' → idx P t x i K' s' := by
  unfold idx at h ⊢
  cases hu : P.underlying t with
  | none => simp only [hu] at h; exact h.elim
  | some d =>
    simp only [hu] at h
    cases d <;> first | exact h.elim | skip
    case slice e =>
      cases x <;> first | exact h.elim | skip
      cases i <;> first | exact h.elim | skip
      obtain ⟨m, ⟨a, h1, h2, h3⟩, hr⟩ := SZ_pure h
      exact ⟨_, h3, fun K' s' h' => hr _ s' ⟨a, h1, h2, h'⟩⟩
    case array l e =>
      cases x <;> first | exact h.elim | skip
      cases i <;> first | exact h.elim | skip
      rename_i o _ _
      cases o with
      | none => exact h.elim
      | some a =>
        obtain ⟨m, ⟨h2, h3⟩, hr⟩ := SZ_pure (K := fun m => IXA a l _ m fun a => K (.pointer (some a))) h
        exact ⟨_, h3, fun K' s' h' => hr (fun m => IXA a l _ m fun a => K' (.pointer (some a))) s' ⟨h2, h'⟩⟩
theorem fad_pure {t : TypeId} {x : Value} {j : Nat} {K : VK} (hok : fieldOk P { dst := none, op := .fieldAddr t (.tmp 0) j, type := 0, pos := "", after := #[], guard := none } = true) (h : fad P t x j K s) :
    ∃ v, K v s ∧ ∀ (K' : VK) (s' : Hp), K' v s' → fad P t x j K' s' := by
  unfold fad at h ⊢
  unfold fieldOk at hok
  cases hu : P.underlying t with
  | none => simp only [hu] at h; exact h.elim
  | some d =>
    simp only [hu] at h hok
    cases d <;> first | exact h.elim | skip
    rename_i fs
    simp only at hok
    cases x <;> first | exact h.elim | skip
    rename_i o
    cases o with
    | none => exact h.elim
    | some a =>
      simp only [SO] at h ⊢
      cases hf : fs.toList[j]? with
      | none => simp only [hf] at h; exact h.elim
      | some f =>
        simp only [hf] at h hok
        unfold SZ at h ⊢
        cases hi : P.info? f.type with
        | none => simp only [hi] at h; exact h.elim
        | some i =>
          simp only [hi] at h hok
          cases hb : Nat.beq i.size 0 with
          | true => rw [hb] at hok; cases hok
          | false =>
            simp only [hb] at h
            exact ⟨_, h, fun K' s' h' => by simp only [hi, hb]; exact h'⟩
theorem nck_pure {x : Value} {K : VK} (h : nck x K s) : ∃ v, K v s ∧ ∀ (K' : VK) (s' : Hp), K' v s' → nck x K' s' := by
  unfold nck at h ⊢
  cases x <;> first | exact h.elim | skip
  case pointer o => cases o with
    | none => exact h.elim
    | some a => exact ⟨_, h, fun K' s' h' => h'⟩
  case func f a b => cases f <;> first | exact h.elim | exact ⟨_, h, fun K' s' h' => h'⟩
  case iface t v => exact ⟨_, h, fun K' s' h' => h'⟩
theorem nilSl_pure {op : BinOp} {ty : TypeId} {x : Value} {K : VK} (h : nilSl P op ty x K s) : ∃ v, K v s ∧ ∀ (K' : VK) (s' : Hp), K' v s' → nilSl P op ty x K' s' := by
  unfold nilSl at h ⊢
  cases hu : P.underlying ty with
  | none => simp only [hu] at h; exact h.elim
  | some d =>
    simp only [hu] at h ⊢
    cases d <;> first | exact h.elim | skip
    cases x <;> first | (cases op <;> exact h.elim) | skip
    cases op <;> first | exact h.elim | exact ⟨_, h, fun K' s' h' => h'⟩
theorem len_pure {ts : List TypeId} {l : List Value} {K : VK} (hm : ∀ k v, (ts[0]?).bind P.underlying ≠ some (.map k v)) (h : bltin P .len ts l K s) : ∃ v, K v s ∧ ∀ (K' : VK) (s' : Hp), K' v s' → bltin P .len ts l K' s' := by
  unfold bltin at h ⊢
  cases l with
  | nil => exact h.elim
  | cons x r =>
    cases r with
    | cons y z => exact h.elim
    | nil =>
      simp only at h ⊢
      cases x <;> first | exact h.elim | skip
      all_goals
        cases h0 : (ts[0]?).bind P.underlying with
        | none => simp only [h0] at h; exact h.elim
        | some d =>
          simp only [h0] at h
          cases d <;> first | exact h.elim | skip
          all_goals first
            | exact absurd h0 (hm _ _)
            | exact ⟨_, h, fun K' s' h' => h'⟩
            | (rename_i o e
               cases hu : P.underlying e with
               | none => simp only [hu] at h; exact h.elim
               | some d =>
                 simp only [hu] at h
                 cases d <;> first | exact h.elim | exact ⟨_, h, fun K' s' h' => by simp only [hu]; exact h'⟩)
theorem vop_pure {t : Tm} {K : VK} {E : List PanicEntry → Hp → Prop} (hq : quiet o = true) (hl : isLoad o = false) (hf : fieldOk P o = true) (h : vop P W o t K E s) :
    ∃ v, K v s ∧ ∀ (K' : VK) (E' : List PanicEntry → Hp → Prop) (s' : Hp), K' v s' → vop P W o t K' E' s' := by
  obtain ⟨dst, op, type, pos, after, guard⟩ := o
  unfold vop at h ⊢
  simp only at h ⊢
  cases op <;> simp only [quiet, isLoad, Bool.false_eq_true] at hq hl <;> simp only at h ⊢ <;> first | (cases hl; done) | skip
  case move x => exact ⟨_, h, fun K' E' s' h' => h'⟩
  case pick c a b =>
    cases hc : ev t c <;> simp only [hc] at h <;> first | exact h.elim | skip
    rename_i q
    cases q
    · exact ⟨_, h, fun K' E' s' h' => h'⟩
    · exact ⟨_, h, fun K' E' s' h' => h'⟩
  case build ty ps =>
    cases hb : (hasZero P ty && szs P ty) with
    | false => simp only [hb] at h; exact h.elim
    | true =>
      simp only [hb] at h ⊢
      obtain ⟨ds, hk, hr⟩ := BLD_pure _ _ _ h
      exact ⟨_, hk, fun K' E' s' h' => hr _ s' h'⟩
  case nilCheck x => obtain ⟨v, h1, h2⟩ := nck_pure h; exact ⟨v, h1, fun K' E' s' h' => h2 K' s' h'⟩
  case binOp op ty x y ty2 =>
    cases hn : isNilC y with
    | false =>
      cases hn2 : isNilS y with
      | false => simp only [hn, hn2] at h ⊢; obtain ⟨v, h1, h2⟩ := bin_pure h; exact ⟨v, h1, fun K' E' s' h' => h2 K' s' h'⟩
      | true => simp only [hn, hn2] at h ⊢; obtain ⟨v, h1, h2⟩ := nilSl_pure h; exact ⟨v, h1, fun K' E' s' h' => h2 K' s' h'⟩
    | true => simp only [hn] at h ⊢; obtain ⟨v, h1, h2⟩ := nilEq_pure h; exact ⟨v, h1, fun K' E' s' h' => h2 K' s' h'⟩
  case unOp op ty x =>
    unfold un at h ⊢
    cases op <;> cases hx : ev t x <;> simp only [hx] at h <;> first | exact h.elim | exact ⟨_, h, fun K' E' s' h' => h'⟩
  case convert src d x =>
    have hb : (Nat.beq src d && isSl P src) = false := by
      cases hb : Nat.beq src d with
      | true => rw [hb] at hq; cases hq
      | false => rfl
    simp only [hb] at h ⊢
    unfold CVT at h ⊢
    cases hu : P.underlying d with
    | none => simp only [fieldOk, hu, Bool.false_eq_true] at hf
    | some dd =>
      cases dd <;> simp only [fieldOk, hu, Bool.false_eq_true] at hf
      rename_i k'
      cases hs : P.underlying src with
      | none => simp only [hs] at h; exact h.elim
      | some ds =>
        cases hx : ev t x <;> simp only [hs, hx, hu] at h <;> first | exact h.elim | exact ⟨_, h, fun K' E' s' h' => h'⟩ | (cases ds <;> exact h.elim)
  case makeInterface ty x =>
    cases hi : isIf P ty with
    | true => simp only [hi] at h; exact h.elim
    | false => simp only [hi] at h; exact ⟨_, h, fun K' E' s' h' => h'⟩
  case makeFunc fn a b => exact ⟨_, h, fun K' E' s' h' => h'⟩
  case fieldAddr ty x j => obtain ⟨v, h1, h2⟩ := fad_pure hf h; exact ⟨v, h1, fun K' E' s' h' => h2 K' s' h'⟩
  case indexAddr ty x i => obtain ⟨v, h1, h2⟩ := idx_pure h; exact ⟨v, h1, fun K' E' s' h' => h2 K' s' h'⟩
  case extract x j =>
    cases hx : ev t x <;> simp only [hx] at h <;> first | exact h.elim | skip
    rename_i a
    cases ha : a.toList[j]? with
    | none => simp only [ha] at h; exact h.elim
    | some v => simp only [ha] at h ⊢; exact ⟨v, h, fun K' E' s' h' => h'⟩
  case call c =>
    obtain ⟨callee, args, argTypes⟩ := c
    cases callee <;> first | (simp at hq; done) | skip
    rename_i b
    cases b <;> first | (simp at hq; done) | skip
    obtain ⟨v, h1, h2⟩ := len_pure (fun k v e => by
      simp only [fieldOk] at hf
      rw [e] at hf
      cases hf) h
    exact ⟨v, h1, fun K' E' s' h' => h2 K' s' h'⟩
end
section
variable {P : Program} {W : World} {n : Nat} {k0 : Nat → Prop} {rs : List Nat} {s : Hp} {o : Oper}
theorem rdN_val : ∀ (ks : List Kd) (a : Addr) (i : Nat) (K : List Value → Hp → Prop), rdN ks a i K s → ∃ vs, K vs s ∧ ∀ K' : List Value → Hp → Prop, K' vs s → rdN ks a i K' s
  | [], a, i, K, h => ⟨[], h, fun K' h' => h'⟩
  | k :: ks, a, i, K, h => by
    obtain ⟨v, h1, h2, h3⟩ := rd1_elim h
    obtain ⟨vs, h4, h5⟩ := rdN_val ks a (i + 1) _ h2
    exact ⟨v :: vs, h4, fun K' h' => rd1_intro h1 h3 (h5 _ h')⟩
theorem LD_val {t : TypeId} {p : Value} {K : VK} (h : LD P t p K s) : ∃ v, K v s ∧ ∀ K' : VK, K' v s → LD P t p K' s := by
  unfold LD at h ⊢
  cases p <;> first | exact h.elim | skip
  rename_i o
  cases o with
  | none => exact h.elim
  | some a =>
    simp only [SO] at h ⊢
    cases hag : agO P t with
    | none => simp only [hag] at h; exact h.elim
    | some b =>
      cases b with
      | true =>
        simp only [hag] at h ⊢
        unfold SZ at h ⊢
        cases hi : P.info? t with
        | none => simp only [hi] at h; exact h.elim
        | some i =>
          simp only [hi] at h ⊢
          cases hb : Nat.beq (ksOf P t).length i.size with
          | false => simp only [hb] at h; exact h.elim
          | true =>
            simp only [hb] at h ⊢
            obtain ⟨vs, h1, h2⟩ := rdN_val _ _ _ _ h
            exact ⟨_, h1, fun K' h' => h2 _ h'⟩
      | false =>
        simp only [hag] at h ⊢
        obtain ⟨v, h1, h2, h3⟩ := rd1_elim h
        exact ⟨v, h2, fun K' h' => rd1_intro h1 h3 h'⟩
theorem vop_val {t : Tm} {K : VK} {E : List PanicEntry → Hp → Prop} (hq : quiet o = true) (hf : fieldOk P o = true) (h : vop P W o t K E s) : ∃ v, K v s ∧ ∀ (K' : VK) (E' : List PanicEntry → Hp → Prop), K' v s → vop P W o t K' E' s := by
  cases hl : isLoad o with
  | false =>
    obtain ⟨v, h1, h2⟩ := vop_pure hq hl hf h
    exact ⟨v, h1, fun K' E' h' => h2 K' E' s h'⟩
  | true =>
    obtain ⟨dst, op, type, pos, after, guard⟩ := o
    cases op <;> simp only [isLoad] at hl <;> first | (cases hl; done) | skip
    obtain ⟨v, h1, h2⟩ := LD_val (show LD P _ _ K s from h)
    exact ⟨v, h1, fun K' E' h' => h2 K' h'⟩
def Wt (ops : List Oper) (o : Oper) (t : Tm) : Prop :=
  match o.guard with
  | none => True
  | some (j, w) => ∃ d, dstOf ops j = some d ∧ t d = .bool w
def gd (n : Nat) (ops : List Oper) (o : Oper) (run skip : Tm → Hp → Prop) (t : Tm) : Hp → Prop :=
  match o.guard with
  | none => run t
  | some (j, want) => grd n (dstOf ops j) want t run skip
theorem grd_elimT {dd : Option Nat} {want : Bool} {t : Tm} {run skip : Tm → Hp → Prop} (h : grd n dd want t run skip s) :
    ((∃ d, dd = some d ∧ t d = .bool want) ∧ run t s) ∨ ((¬ ∃ d, dd = some d ∧ t d = .bool want) ∧ skip t s) := by
  unfold grd at h
  cases dd with
  | none => exact .inr ⟨fun ⟨d, h, _⟩ => (by cases h), h⟩
  | some d =>
    simp only at h
    cases ht : t d <;> simp only [ht] at h <;> first | exact h.elim | skip
    case tuple x => exact .inr ⟨fun ⟨e, h, h'⟩ => (by cases h; rw [ht] at h'; cases h'), h⟩
    case bool b =>
      cases b with
      | true =>
        have h' : (match want with | true => run | false => skip) (upd n d (.bool true) t) s := h
        rw [upd_self ht] at h'
        cases want with
        | true => exact .inl ⟨⟨d, rfl, ht⟩, h'⟩
        | false => exact .inr ⟨fun ⟨e, h, h'⟩ => (by cases h; rw [ht] at h'; cases h'), h'⟩
      | false =>
        have h' : (match want with | true => skip | false => run) (upd n d (.bool false) t) s := h
        rw [upd_self ht] at h'
        cases want with
        | true => exact .inr ⟨fun ⟨e, h, h'⟩ => (by cases h; rw [ht] at h'; cases h'), h'⟩
        | false => exact .inl ⟨⟨d, rfl, ht⟩, h'⟩
theorem gd_elim {ops : List Oper} {run skip : Tm → Hp → Prop} {t : Tm} (h : gd n ops o run skip t s) : (Wt ops o t ∧ run t s) ∨ (¬ Wt ops o t ∧ skip t s) := by
  unfold gd Wt at *
  cases hg : o.guard with
  | none => simp only [hg] at h; exact .inl ⟨trivial, h⟩
  | some jw => obtain ⟨j, w⟩ := jw; simp only [hg] at h ⊢; exact grd_elimT h
theorem wanted_iff {ops : Array Oper} {a : Act} {t : Tm} (ha : ∀ i ∈ reads ops.toList o, a.tmps.getD i undef = t i) : Region.wanted o (yielded ops a.tmps) = true ↔ Wt ops.toList o t := by
  unfold Region.wanted Wt
  cases hg : o.guard with
  | none => simp
  | some jw =>
    obtain ⟨j, w⟩ := jw
    simp only
    have e0 : dstOf ops.toList j = (ops[j]?).bind (·.dst) := by unfold dstOf; simp
    unfold yielded
    rw [← e0]
    cases hx : dstOf ops.toList j with
    | none => simp
    | some d =>
      have hd := ha d (guard_of hg hx)
      rw [Array.getD_eq_getD_getElem?] at hd
      show (((match a.tmps[d]? with | some (.bool b) => some b | _ => none) == some w) = true) ↔ ∃ d', some d = some d' ∧ t d' = .bool w
      have e1 : (∃ d', some d = some d' ∧ t d' = .bool w) ↔ t d = .bool w := ⟨fun ⟨_, h1, h2⟩ => (by cases h1; exact h2), fun h => ⟨d, rfl, h⟩⟩
      rw [e1]
      cases hv : a.tmps[d]? with
      | none =>
        rw [hv] at hd
        have : t d = undef := hd.symm
        rw [this]
        simp [undef]
      | some v =>
        rw [hv] at hd
        have : t d = v := hd.symm
        rw [this]
        cases v <;> simp
theorem Wt_congr {ops : List Oper} {t t' : Tm} (h : ∀ i ∈ reads ops o, t i = t' i) : Wt ops o t ↔ Wt ops o t' := by
  unfold Wt
  cases hg : o.guard with
  | none => exact Iff.rfl
  | some jw =>
    obtain ⟨j, w⟩ := jw
    constructor
    · rintro ⟨d, h1, h2⟩; exact ⟨d, h1, by rw [← h d (guard_of hg h1)]; exact h2⟩
    · rintro ⟨d, h1, h2⟩; exact ⟨d, h1, by rw [h d (guard_of hg h1)]; exact h2⟩
theorem ev_congr {ops : List Oper} {t t' : Tm} (h : ∀ i ∈ reads ops o, t i = t' i) : ∀ x ∈ o.op.operands, ev t x = ev t' x := by
  intro x hx
  cases x <;> try rfl
  rename_i i
  exact h i (List.mem_append_left _ (List.mem_flatMap.2 ⟨.tmp i, by simpa using hx, by simp [rdsOp]⟩))
theorem bit_or {a b i : Nat} : bit (Nat.lor a b) i = (bit a i || bit b i) := by unfold bit; exact Nat.testBit_or a b i
theorem bit_orL : ∀ (l : List Nat) (i : Nat), bit (orL l) i = true → ∃ x ∈ l, bit x i = true
  | [], i, h => by simp [orL, bit] at h
  | x :: l, i, h => by
    unfold orL at h
    rw [bit_or] at h
    cases hx : bit x i with
    | true => exact ⟨x, by simp, hx⟩
    | false =>
      rw [hx] at h
      obtain ⟨y, hy, hb⟩ := bit_orL l i (by simpa using h)
      exact ⟨y, by simp [hy], hb⟩
theorem bit_pow {p i : Nat} (h : bit (2 ^ p) i = true) : i = p := by
  unfold bit at h
  rw [Nat.testBit_two_pow] at h
  simpa [eq_comm] using h
def Good (ops : List Oper) (ms : List Nat) (N : Nat) : Prop := ms.length = N ∧ ∀ j, j < N → ∀ i, bit (ms.getD j 0) i = true → ∃ o p, ops[j]? = some o ∧ p ∈ preds o ∧ (i = p ∨ (p < j ∧ bit (ms.getD p 0) i = true))
theorem masks_good (ops : List Oper) : ∀ (l : List Oper) (acc : List Nat), (∀ k, l[k]? = ops[acc.length + k]?) → Good ops acc acc.length → Good ops (masks l acc) (acc.length + l.length)
  | [], acc, hl, hg => by simpa [masks] using hg
  | o :: l, acc, hl, hg => by
    unfold masks
    have h0 : ops[acc.length]? = some o := by have := hl 0; simpa using this.symm
    have key := masks_good ops l (acc ++ [orL ((preds o).map fun p => Nat.lor (2 ^ p) (acc.getD p 0))]) (fun k => by
      have := hl (k + 1)
      simp only [List.getElem?_cons_succ] at this
      rw [this]; congr 1; simp; omega) ?_
    · have e : (acc ++ [orL ((preds o).map fun p => Nat.lor (2 ^ p) (acc.getD p 0))]).length + l.length = acc.length + (o :: l).length := by simp; omega
      rw [e] at key; exact key
    · refine ⟨rfl, fun j hj i hb => ?_⟩
      simp only [List.length_append, List.length_cons, List.length_nil, Nat.zero_add] at hj
      by_cases hlt : j < acc.length
      · have e : (acc ++ [orL ((preds o).map fun p => Nat.lor (2 ^ p) (acc.getD p 0))]).getD j 0 = acc.getD j 0 := by
          simp [List.getD, List.getElem?_append_left hlt]
        rw [e] at hb
        obtain ⟨o', p, h1, h2, h3⟩ := hg.2 j hlt i hb
        refine ⟨o', p, h1, h2, h3.imp id fun ⟨h4, h5⟩ => ⟨h4, ?_⟩⟩
        have : (acc ++ [orL ((preds o).map fun p => Nat.lor (2 ^ p) (acc.getD p 0))]).getD p 0 = acc.getD p 0 := by
          simp [List.getD, List.getElem?_append_left (show p < acc.length by omega)]
        rw [this]; exact h5
      · have hj' : j = acc.length := by omega
        subst hj'
        have e : (acc ++ [orL ((preds o).map fun p => Nat.lor (2 ^ p) (acc.getD p 0))]).getD acc.length 0 = orL ((preds o).map fun p => Nat.lor (2 ^ p) (acc.getD p 0)) := by simp [List.getD]
        rw [e] at hb
        obtain ⟨x, hx, hb'⟩ := bit_orL _ i hb
        obtain ⟨p, hp, rfl⟩ := List.mem_map.1 hx
        refine ⟨o, p, h0, hp, ?_⟩
        rw [bit_or] at hb'
        cases hpw : bit (2 ^ p) i with
        | true => exact .inl (bit_pow hpw)
        | false =>
          rw [hpw] at hb'
          have hb2 : bit (acc.getD p 0) i = true := by simpa using hb'
          have hlt : p < acc.length := by
            rcases Nat.lt_or_ge p acc.length with h | h
            · exact h
            · have : acc.getD p 0 = 0 := by simp [List.getD, h]
              rw [this] at hb2; simp [bit] at hb2
          refine .inr ⟨hlt, ?_⟩
          have : (acc ++ [orL ((preds o).map fun p => Nat.lor (2 ^ p) (acc.getD p 0))]).getD p 0 = acc.getD p 0 := by
            simp [List.getD, List.getElem?_append_left hlt]
          rw [this]; exact hb2
theorem mask_sub {ops : List Oper} {S : Nat → Prop} (hc : ∀ j o, S j → ops[j]? = some o → ∀ p ∈ preds o, S p) : ∀ (j : Nat) (o : Oper), ops[j]? = some o → (∀ p ∈ preds o, S p) → ∀ i, bit ((masks ops []).getD j 0) i = true → S i := by
  have hg : Good ops (masks ops []) ops.length := by
    have := masks_good ops ops [] (by simp) ⟨rfl, fun j hj => by simp at hj⟩
    simpa using this
  intro j
  induction j using Nat.strongRecOn with
  | _ j ih =>
    intro o ho hp i hb
    have hj : j < ops.length := (List.getElem?_eq_some_iff.1 ho).1
    obtain ⟨o', p, h1, h2, h3⟩ := hg.2 j hj i hb
    rw [ho] at h1; cases h1
    rcases h3 with rfl | ⟨hlt, hb'⟩
    · exact hp _ h2
    · have hpl : p < ops.length := by omega
      exact ih p hlt ops[p] (by simp [hpl]) (fun q hq => hc p ops[p] (hp p h2) (by simp [hpl]) q hq) i hb'
theorem memL_iff {i : Nat} {l : List Nat} : memL i l = true ↔ i ∈ l := by
  unfold memL
  rw [List.any_eq_true]
  constructor
  · rintro ⟨x, hx, hb⟩; rw [beq_iff.1 hb]; exact hx
  · exact fun h => ⟨i, h, by simp⟩
theorem hits_iff {d : Option Nat} {l : List Nat} : hitsL d l = true ↔ ∃ i, d = some i ∧ i ∈ l := by
  unfold hitsL
  cases d with
  | none => simp
  | some d =>
    simp only [List.any_eq_true]
    constructor
    · rintro ⟨x, hx, hb⟩; exact ⟨d, rfl, by rw [beq_iff.1 hb]; exact hx⟩
    · rintro ⟨i, h, hi⟩; cases h; exact ⟨d, hi, by simp⟩
theorem sameD_iff {d e : Option Nat} : sameD d e = true ↔ ∃ i, d = some i ∧ e = some i := by
  unfold sameD
  cases d with
  | none => simp
  | some d =>
    cases e with
    | none => simp
    | some e =>
      simp only
      constructor
      · intro h; exact ⟨d, rfl, by rw [beq_iff.1 h]⟩
      · rintro ⟨i, h1, h2⟩; cases h1; cases h2; simp
structure Ck (P : Program) (rs : List Nat) (ops : List Oper) : Prop where
  pair : ∀ (i : Nat) (x : Oper) (j : Nat) (y : Oper), ops[i]? = some x → ops[j]? = some y → i < j → pairOk ops (masks ops []) i x j y = true
  self : ∀ (j : Nat) (y : Oper), ops[j]? = some y → selfOk P ops rs y = true
  ndef : ∀ (j : Nat) (y : Oper), ops[j]? = some y → isDefer y = false
  pred : ∀ (j : Nat) (y : Oper), ops[j]? = some y → ∀ p ∈ preds y, p < j
theorem rowOk_spec {ops : List Oper} {ms : List Nat} {j : Nat} {y : Oper} : ∀ (l : List Oper) (i : Nat), rowOk ops ms j y i l = true → ∀ k x, l[k]? = some x → i + k < j → pairOk ops ms (i + k) x j y = true
  | [], i, h, k, x, hx, hk => by simp at hx
  | z :: l, i, h, k, x, hx, hk => by
    unfold rowOk at h
    rw [Bool.and_eq_true] at h
    cases k with
    | zero =>
      simp at hx; subst hx
      have h1 := h.1
      rw [Bool.or_eq_true] at h1
      rcases h1 with h1 | h1
      · have := Nat.le_of_ble_eq_true h1; omega
      · exact h1
    | succ k =>
      have := rowOk_spec l (i + 1) h.2 k x (by simpa using hx) (by omega)
      rwa [show i + 1 + k = i + (k + 1) by omega] at this
theorem allOk_spec {ops : List Oper} {ms : List Nat} : ∀ (l : List Oper) (j : Nat), allOk P ops ms rs j l = true → ∀ k y, l[k]? = some y →
    rowOk ops ms (j + k) y 0 ops = true ∧ selfOk P ops rs y = true ∧ isDefer y = false ∧ ∀ p ∈ preds y, p < j + k
  | [], j, h, k, y, hy => by simp at hy
  | z :: l, j, h, k, y, hy => by
    unfold allOk at h
    simp only [Bool.and_eq_true, Bool.not_eq_true'] at h
    obtain ⟨⟨⟨⟨h1, h2⟩, h3⟩, h4⟩, h5⟩ := h
    cases k with
    | zero =>
      simp at hy; subst hy
      exact ⟨h1, h2, h3, fun p hp => blt_iff.1 (List.all_eq_true.1 h4 p hp)⟩
    | succ k =>
      have := allOk_spec l (j + 1) h5 k y (by simpa using hy)
      rwa [show j + 1 + k = j + (k + 1) by omega] at this
theorem ck_of {ops : List Oper} (h0 : drOk P rs ops = true) : Ck P rs ops := by
  have h : allOk P ops (masks ops []) rs 0 ops = true := by unfold drOk at h0; rw [Bool.and_eq_true] at h0; exact h0.2
  have key := fun (j : Nat) (y : Oper) (hy : ops[j]? = some y) => by
    have := allOk_spec ops 0 h j y hy
    rwa [Nat.zero_add] at this
  refine ⟨fun i x j y hx hy hij => ?_, fun j y hy => (key j y hy).2.1, fun j y hy => (key j y hy).2.2.1, fun j y hy => (key j y hy).2.2.2⟩
  have := rowOk_spec ops 0 (key j y hy).1 i x hx (by omega)
  rwa [Nat.zero_add] at this
theorem findQ_some {L : List Nat} : ∀ (l : List Oper) (k i : Nat) (o : Oper), findQ L l k = some (i, o) → ∃ m, i = k + m ∧ l[m]? = some o ∧ quiet o = true ∧ readyB o i L = true
  | [], k, i, o, h => by simp [findQ] at h
  | z :: l, k, i, o, h => by
    unfold findQ at h
    cases hb : (quiet z && readyB z k L) with
    | true =>
      simp only [hb] at h
      cases h
      simp only [Bool.and_eq_true] at hb
      exact ⟨0, rfl, rfl, hb.1, hb.2⟩
    | false =>
      simp only [hb] at h
      obtain ⟨m, h1, h2, h3, h4⟩ := findQ_some l (k + 1) i o h
      exact ⟨m + 1, by omega, by simpa using h2, h3, h4⟩
theorem findQ_none {L : List Nat} : ∀ (l : List Oper) (k : Nat), findQ L l k = none → ∀ m o, l[m]? = some o → quiet o = true → readyB o (k + m) L = false
  | [], k, h, m, o, ho, hq => by simp at ho
  | z :: l, k, h, m, o, ho, hq => by
    unfold findQ at h
    cases hb : (quiet z && readyB z k L) with
    | true => simp only [hb] at h; cases h
    | false =>
      simp only [hb] at h
      cases m with
      | zero =>
        simp at ho; subst ho
        rw [hq] at hb
        simpa using hb
      | succ m =>
        have := findQ_none l (k + 1) h m o (by simpa using ho) hq
        rwa [show k + 1 + m = k + (m + 1) by omega] at this
theorem findE_mem {L : List Nat} : ∀ (l : List Oper) (k m : Nat) (o : Oper), l[m]? = some o → quiet o = false → readyB o (k + m) L = true → (k + m, o) ∈ findE L l k
  | [], k, m, o, ho, hq, hr => by simp at ho
  | z :: l, k, m, o, ho, hq, hr => by
    unfold findE
    cases m with
    | zero =>
      simp at ho; subst ho
      have hb : (!quiet z && readyB z k L) = true := by rw [hq]; simpa using hr
      simp only [hb]
      simp
    | succ m =>
      have := findE_mem l (k + 1) m o (by simpa using ho) hq (by rwa [show k + 1 + m = k + (m + 1) by omega])
      rw [show k + 1 + m = k + (m + 1) by omega] at this
      cases hb : (!quiet z && readyB z k L) <;> simp only [hb]
      · exact this
      · exact List.mem_cons_of_mem _ this
theorem findE_all {L : List Nat} : ∀ (l : List Oper) (k : Nat), (∀ m o, l[m]? = some o → (k + m) ∈ L) → findQ L l k = none ∧ findE L l k = []
  | [], k, h => ⟨rfl, rfl⟩
  | z :: l, k, h => by
    have h0 : memL k L = true := memL_iff.2 (h 0 z rfl)
    have ih := findE_all l (k + 1) (fun m o ho => by have := h (m + 1) o (by simpa using ho); rwa [show k + 1 + m = k + (m + 1) by omega])
    unfold findQ findE
    have h1 : (quiet z && readyB z k L) = false := by unfold readyB; rw [h0]; simp
    have h2 : (!quiet z && readyB z k L) = false := by unfold readyB; rw [h0]; simp
    simp only [h1, h2]
    exact ih
theorem CONJ_mem : ∀ (l : List (Hp → Prop)) (p : Hp → Prop), CONJ l s → p ∈ l → p s
  | [], p, h, hp => by simp at hp
  | [x], p, h, hp => by simp at hp; subst hp; exact h
  | x :: y :: l, p, h, hp => by
    obtain ⟨h1, h2⟩ := h
    rcases List.mem_cons.1 hp with rfl | hp
    · exact h1
    · exact CONJ_mem (y :: l) p h2 hp
theorem sames_spec {ops : List Oper} {m : Nat} {t : Tm} {K : Hp → Prop} : ∀ (L : List Nat), sames P W n ops m t L K s →
    K s ∧ ∀ q ∈ L, ∀ o d, ops[q]? = some o → isLoad o = true → bit m q = false → o.dst = some d → gd n ops o (fun t => vop P W o t (fun v _ => v = t d) fun _ => FF) (fun _ _ => True) t s
  | [], h => ⟨h, fun q hq => by simp at hq⟩
  | q :: L, h => by
    have skip : sames P W n ops m t L K s → (∀ o d, ops[q]? = some o → isLoad o = true → bit m q = false → o.dst = some d → gd n ops o (fun t => vop P W o t (fun v _ => v = t d) fun _ => FF) (fun _ _ => True) t s) →
        K s ∧ ∀ q' ∈ q :: L, ∀ o d, ops[q']? = some o → isLoad o = true → bit m q' = false → o.dst = some d → gd n ops o (fun t => vop P W o t (fun v _ => v = t d) fun _ => FF) (fun _ _ => True) t s := by
      intro h1 h2
      obtain ⟨h3, h4⟩ := sames_spec L h1
      refine ⟨h3, fun q' hq' => ?_⟩
      rcases List.mem_cons.1 hq' with rfl | hq'
      · exact h2
      · exact h4 q' hq'
    unfold sames at h
    cases ho : ops[q]? with
    | none =>
      simp only [ho] at h
      exact skip h (fun o d ho' => by rw [ho] at ho'; cases ho')
    | some o =>
      simp only [ho] at h
      cases hb : (isLoad o && !bit m q) with
      | false =>
        simp only [hb] at h
        refine skip h (fun o' d ho' hl hbt => ?_)
        rw [ho] at ho'; cases ho'
        rw [hl, hbt] at hb; cases hb
      | true =>
        cases hd : o.dst with
        | none =>
          simp only [hb, hd] at h
          exact skip h (fun o' d ho' hl hbt hd' => by rw [ho] at ho'; cases ho'; rw [hd] at hd'; cases hd')
        | some d =>
          simp only [hb, hd] at h
          cases hg : o.guard with
          | none =>
            simp only [hg] at h
            refine skip h.2 (fun o' d' ho' hl hbt hd' => ?_)
            rw [ho] at ho'; cases ho'
            rw [hd] at hd'; cases hd'
            unfold gd
            simp only [hg]
            exact h.1
          | some jw =>
            obtain ⟨j, w⟩ := jw
            simp only [hg] at h
            refine skip h.2 (fun o' d' ho' hl hbt hd' => ?_)
            rw [ho] at ho'; cases ho'
            rw [hd] at hd'; cases hd'
            unfold gd
            simp only [hg]
            exact h.1
end
section
variable {P : Program} {W : World} {n : Nat} {k0 : Nat → Prop} {rs : List Nat} {s s' : Hp} {o : Oper}
def LagP (P : Program) (W : World) (n : Nat) (ops : List Oper) (o : Oper) (t : Tm) (s : Hp) : Prop :=
  (Wt ops o t → ∃ v, (∀ d, o.dst = some d → d < n → v = t d) ∧ ∀ (K : VK) (E : List PanicEntry → Hp → Prop), K v s → vop P W o t K E s) ∧ (¬ Wt ops o t → ∀ d, o.dst = some d → d < n → t d = undef)
theorem LagP.keep {ops : List Oper} {t t' : Tm} (hr : ∀ i ∈ reads ops o, t i = t' i) (hd : ∀ d, o.dst = some d → t d = t' d) (h : LagP P W n ops o t s) : LagP P W n ops o t' s := by
  refine ⟨fun hw => ?_, fun hw d h1 h2 => ?_⟩
  · obtain ⟨v, h1, h2⟩ := h.1 ((Wt_congr hr).2 hw)
    exact ⟨v, fun d hd1 hd2 => by rw [← hd d hd1]; exact h1 d hd1 hd2, fun K E hk => by rw [← vop_congr (ev_congr hr)]; exact h2 K E hk⟩
  · rw [← hd d h1]; exact h.2 (fun hw' => hw ((Wt_congr hr).1 hw')) d h1 h2
structure DI (P : Program) (W : World) (n : Nat) (k0 : Nat → Prop) (ops : List Oper) (D : Nat → Prop) (L : List Nat) (X : Nat → Prop) (h : Hp) (a : Act) (t : Tm) (s : Hp) : Prop where
  sub : ∀ i, D i → i ∈ L
  ltL : ∀ i ∈ L, i < ops.length
  clD : ∀ (j : Nat) (o : Oper), D j → ops[j]? = some o → ∀ p ∈ preds o, D p
  clL : ∀ (j : Nat) (o : Oper), j ∈ L → ops[j]? = some o → ∀ p ∈ preds o, p ∈ L
  lag : ∀ (q : Nat) (o : Oper), q ∈ L → ¬ D q → ops[q]? = some o → quiet o = true ∧ LagP P W n ops o t s
  asz : a.tmps.size = n
  tmp : ∀ i, i ≠ n → (∀ (q : Nat) (o : Oper), q ∈ L → ¬ D q → ops[q]? = some o → o.dst ≠ some i) → a.tmps.getD i undef = t i
  out : ∀ i, n ≤ i → i ≠ n → a.tmps.getD i undef = t i
  dfr : Dcd k0 X h a.defers (t n)
variable {ops : List Oper} {D : Nat → Prop} {L : List Nat} {X : Nat → Prop} {h : Hp} {a : Act} {t : Tm}
theorem nonA (ck : Ck P rs ops) (di : DI P W n k0 ops D L X h a t s) {i : Nat} {x : Oper} (hi : ops[i]? = some x) (hp : ∀ p ∈ preds x, D p) {q : Nat} {y : Oper} (hq : q ∈ L) (hqD : ¬ D q) (hy : ops[q]? = some y) (hne : q ≠ i) :
    (∀ d, y.dst = some d → d ∉ reads ops x) ∧ ∀ d, y.dst = some d → x.dst ≠ some d := by
  have key : hitsL y.dst (reads ops x) = false ∧ sameD y.dst x.dst = false := by
    rcases Nat.lt_or_gt_of_ne hne with hlt | hlt
    · have h1 := ck.pair q y i x hy hi hlt
      unfold pairOk at h1
      rw [Bool.and_eq_true] at h1
      have h2 := h1.1
      rw [Bool.or_eq_true] at h2
      rcases h2 with h2 | h2
      · simpa using h2
      · exact absurd (mask_sub (S := D) di.clD i x hi hp q h2) hqD
    · have h1 := ck.pair i x q y hi hy hlt
      unfold pairOk at h1
      rw [Bool.and_eq_true] at h1
      have h2 := h1.2
      rw [(di.lag q y hq hqD hy).1] at h2
      simpa using h2
  refine ⟨fun d hd hr => ?_, fun d hd hx => ?_⟩
  · have := hits_iff.2 ⟨d, hd, hr⟩; rw [this] at key; cases key.1
  · have := sameD_iff.2 ⟨d, hd, hx⟩; rw [this] at key; cases key.2
theorem nonB (ck : Ck P rs ops) (di : DI P W n k0 ops D L X h a t s) {i : Nat} {x : Oper} (hi : ops[i]? = some x) (hiL : i ∉ L) (hp : quiet x = true ∨ ∀ p ∈ preds x, D p) {q : Nat} {y : Oper} (hq : q ∈ L) (hqD : ¬ D q) (hy : ops[q]? = some y) :
    (∀ d, x.dst = some d → d ∉ reads ops y) ∧ ∀ d, x.dst = some d → y.dst ≠ some d := by
  have hne : q ≠ i := fun e => hiL (e ▸ hq)
  have key : hitsL x.dst (reads ops y) = false ∧ sameD x.dst y.dst = false := by
    rcases Nat.lt_or_gt_of_ne hne with hlt | hlt
    · have h1 := ck.pair q y i x hy hi hlt
      unfold pairOk at h1
      rw [Bool.and_eq_true] at h1
      have h2 := h1.2
      rw [Bool.or_eq_true] at h2
      rcases h2 with h2 | h2
      · simpa using h2
      · rw [Bool.and_eq_true] at h2
        rcases hp with hp | hp
        · rw [hp] at h2; cases h2.1
        · exact absurd (mask_sub (S := D) di.clD i x hi hp q h2.2) hqD
    · have h1 := ck.pair i x q y hi hy hlt
      unfold pairOk at h1
      rw [Bool.and_eq_true] at h1
      have h2 := h1.1
      rw [Bool.or_eq_true] at h2
      rcases h2 with h2 | h2
      · simpa using h2
      · exact absurd (mask_sub (S := fun j => j ∈ L) di.clL q y hy (di.clL q y hq hy) i h2) hiL
  refine ⟨fun d hd hr => ?_, fun d hd hx => ?_⟩
  · have := hits_iff.2 ⟨d, hd, hr⟩; rw [this] at key; cases key.1
  · have := sameD_iff.2 ⟨d, hd, hx⟩; rw [this] at key; cases key.2
theorem updo_get {d : Option Nat} {v : Value} {t : Tm} {i : Nat} (h : d ≠ some i) : updo n d v t i = t i := by
  cases d with
  | none => rfl
  | some d => show upd n d v t i = t i; rw [upd_get, if_neg (fun e => h (by rw [e.1]))]
theorem updo_at {v : Value} {t : Tm} {i : Nat} (h : i < n) : updo n (some i) v t i = v := by
  show upd n i v t i = v; rw [upd_get, if_pos ⟨rfl, h⟩]
theorem updo_out {d : Option Nat} {v : Value} {t : Tm} {i : Nat} (h : n ≤ i) : updo n d v t i = t i := by
  cases d with
  | none => rfl
  | some d => show upd n d v t i = t i; rw [upd_get, if_neg (fun e => by omega)]
theorem DI.ahead (ck : Ck P rs ops) (di : DI P W n k0 ops D L X h a t s) {k : Nat} (hk : ops[k]? = some o) (hq : quiet o = true) (hkL : k ∉ L) (hp : ∀ p ∈ preds o, p ∈ L) {v : Value}
    (h1 : Wt ops o t → ∀ (K : VK) (E : List PanicEntry → Hp → Prop), K v s → vop P W o t K E s) (h2 : ¬ Wt ops o t → v = undef) : DI P W n k0 ops D (k :: L) X h a (updo n o.dst v t) s := by
  have hself := ck.self k o hk
  unfold selfOk at hself
  rw [hq] at hself
  simp only [Bool.not_true, Bool.false_or, Bool.and_eq_true, Bool.not_eq_true'] at hself
  obtain ⟨⟨⟨hs1, hs2⟩, hs3⟩, hs4⟩ := hself
  have hkD : ¬ D k := fun hd => hkL (di.sub k hd)
  have hown : ∀ i ∈ reads ops o, t i = updo n o.dst v t i := by
    intro i hi
    rw [updo_get]
    intro e
    have := hits_iff.2 ⟨i, e, hi⟩
    rw [this] at hs1; cases hs1
  refine ⟨fun i hi => List.mem_cons_of_mem _ (di.sub i hi), ?_, di.clD, ?_, ?_, di.asz, ?_, ?_, ?_⟩
  · intro i hi
    rcases List.mem_cons.1 hi with rfl | hi
    · exact (List.getElem?_eq_some_iff.1 hk).1
    · exact di.ltL i hi
  · intro j o' hj ho' p hp'
    rcases List.mem_cons.1 hj with rfl | hj
    · rw [hk] at ho'; cases ho'; exact List.mem_cons_of_mem _ (hp p hp')
    · exact List.mem_cons_of_mem _ (di.clL j o' hj ho' p hp')
  · intro q o' hqL hqD ho'
    rcases List.mem_cons.1 hqL with rfl | hqL
    · rw [hk] at ho'; cases ho'
      refine ⟨hq, fun hw => ⟨v, fun d hd hdn => ?_, fun K E hK => ?_⟩, fun hw d hd hdn => ?_⟩
      · rw [hd, updo_at hdn]
      · rw [← vop_congr (ev_congr hown)]
        exact h1 ((Wt_congr hown).2 hw) K E hK
      · rw [hd, updo_at hdn]
        exact h2 (fun hw' => hw ((Wt_congr hown).1 hw'))
    · obtain ⟨l1, l2⟩ := di.lag q o' hqL hqD ho'
      obtain ⟨b1, b2⟩ := nonB ck di hk hkL (.inl hq) hqL hqD ho'
      refine ⟨l1, l2.keep (fun i hi => ?_) (fun d hd => ?_)⟩
      · rw [updo_get]; exact fun e => b1 i e hi
      · rw [updo_get]; exact fun e => b2 d e hd
  · intro i hi hno
    rw [updo_get (hno k o (by simp) hkD hk)]
    exact di.tmp i hi (fun q o' hqL hqD ho' => hno q o' (List.mem_cons_of_mem _ hqL) hqD ho')
  · intro i hi hn; rw [updo_out hi]; exact di.out i hi hn
  · rw [updo_n]; exact di.dfr
theorem ready_iff {i : Nat} {o : Oper} {L : List Nat} : readyB o i L = true ↔ i ∉ L ∧ ∀ p ∈ preds o, p ∈ L := by
  unfold readyB
  rw [Bool.and_eq_true, Bool.not_eq_true', List.all_eq_true]
  constructor
  · rintro ⟨h1, h2⟩
    exact ⟨fun hi => (by rw [memL_iff.2 hi] at h1; cases h1), fun p hp => memL_iff.1 (h2 p hp)⟩
  · rintro ⟨h1, h2⟩
    refine ⟨?_, fun p hp => memL_iff.2 (h2 p hp)⟩
    cases hm : memL i L with
    | false => rfl
    | true => exact absurd (memL_iff.1 hm) h1
theorem dops_none {acc : Bool} {K : Kt} {f : Nat} (hq : findQ L ops 0 = none) (hd : dops P W n rs acc ops (masks ops []) K (f + 1) L t s) {i : Nat} (hi : ops[i]? = some o) (hqi : quiet o = false) (hr : readyB o i L = true) :
    gd n ops o (fun t => vop P W o t (fun v => sames P W n ops (amask acc ops (masks ops []) L i) t L (dops P W n rs acc ops (masks ops []) K f (i :: L) (updo n o.dst v t))) fun c => K (.panic c) (prj rs t))
      (fun t => dops P W n rs acc ops (masks ops []) K f (i :: L) (updo n o.dst undef t)) t s := by
  unfold dops at hd
  simp only [hq] at hd
  have hmem := findE_mem ops 0 i o hi hqi (by rwa [Nat.zero_add])
  rw [Nat.zero_add] at hmem
  cases he : findE L ops 0 with
  | nil => rw [he] at hmem; cases hmem
  | cons e es =>
    simp only [he] at hd
    refine CONJ_mem _ _ hd ?_
    rw [← he]
    exact List.mem_map.2 ⟨(i, o), hmem, rfl⟩
theorem DI.catch {acc : Bool} (ck : Ck P rs ops) {K : Kt} {i : Nat} (hi : ops[i]? = some o) : ∀ (f : Nat) (L : List Nat) (t : Tm), DI P W n k0 ops D L X h a t s → (∀ p ∈ preds o, D p) → dops P W n rs acc ops (masks ops []) K f L t s →
    ∃ f' L' t', DI P W n k0 ops D L' X h a t' s ∧ dops P W n rs acc ops (masks ops []) K f' L' t' s ∧ (i ∈ L' ∨ (i ∉ L' ∧ quiet o = false ∧ findQ L' ops 0 = none))
  | 0, L, t, di, hp, hd => hd.elim
  | f + 1, L, t, di, hp, hd => by
    by_cases hiL : i ∈ L
    · exact ⟨f + 1, L, t, di, hd, .inl hiL⟩
    · cases hq : findQ L ops 0 with
      | none =>
        refine ⟨f + 1, L, t, di, hd, .inr ⟨hiL, ?_, hq⟩⟩
        cases hqi : quiet o with
        | false => rfl
        | true =>
          have := findQ_none ops 0 hq i o hi hqi
          rw [Nat.zero_add, ready_iff.2 ⟨hiL, fun p hp' => di.sub p (hp p hp')⟩] at this
          cases this
      | some ko =>
        obtain ⟨k, ok⟩ := ko
        obtain ⟨m, hm, hok, hqk, hrk⟩ := findQ_some ops 0 k ok hq
        rw [Nat.zero_add] at hm; subst hm
        obtain ⟨hkL, hkp⟩ := ready_iff.1 hrk
        have hself := ck.self k ok hok
        unfold selfOk at hself
        rw [hqk] at hself
        simp only [Bool.not_true, Bool.false_or, Bool.and_eq_true, Bool.not_eq_true'] at hself
        unfold dops at hd
        simp only [hq] at hd
        have hd' : gd n ops ok (fun t => vop P W ok t (fun v => dops P W n rs acc ops (masks ops []) K f (k :: L) (updo n ok.dst v t)) fun _ => FF) (fun t => dops P W n rs acc ops (masks ops []) K f (k :: L) (updo n ok.dst undef t)) t s := hd
        rcases gd_elim hd' with ⟨hw, hr⟩ | ⟨hw, hr⟩
        · obtain ⟨v, h1, h2⟩ := vop_val hqk hself.1.1.2 hr
          exact DI.catch ck hi f (k :: L) _ (di.ahead ck hok hqk hkL hkp (fun _ => h2) (fun hw' => absurd hw hw')) hp h1
        · exact DI.catch ck hi f (k :: L) _ (di.ahead ck hok hqk hkL hkp (fun hw' => absurd hw' hw) (fun _ => rfl)) hp hr
def Dl (listed : Array Bool) (i : Nat) : Prop := listed.getD i false = true
theorem binds_any (e : Edge) : Region.binds .any e = binds e := by unfold Region.binds binds; cases e.ground <;> rfl
theorem ready_mem {ops : Array Oper} {listed : Array Bool} {i : Nat} (hs : listed.size = ops.size) : i ∈ Region.ready .any ops listed ↔ ∃ o, ops.toList[i]? = some o ∧ ¬ Dl listed i ∧ ∀ p ∈ preds o, Dl listed p := by
  unfold Region.ready Dl
  rw [List.mem_filter]
  simp only [List.mem_range, Bool.and_eq_true, Bool.not_eq_true']
  constructor
  · rintro ⟨hi, h1, h2⟩
    have hio : ops[i]? = some ops[i] := by simp [hi]
    rw [hio] at h2
    simp only [Option.map_some, Option.getD_some] at h2
    refine ⟨ops[i], by simp, ?_, fun p hp => ?_⟩
    · simp only [Array.getD_eq_getD_getElem?] at h1 ⊢
      have : listed[i]? = some listed[i] := by simp [hs, hi]
      rw [this] at h1 ⊢
      simpa using h1
    · obtain ⟨e, he, rfl⟩ := List.mem_map.1 hp
      rw [List.mem_filter] at he
      have h3 := Array.all_eq_true'.1 h2 e (by simpa using he.1)
      rw [binds_any, he.2] at h3
      simpa using h3
  · rintro ⟨o, ho, h1, h2⟩
    have hi : i < ops.size := by have := (List.getElem?_eq_some_iff.1 ho).1; simpa using this
    have ho' : ops[i]? = some o := by simpa using ho
    refine ⟨hi, ?_, ?_⟩
    · simp only [Array.getD_eq_getD_getElem?] at h1 ⊢
      have : listed[i]? = some listed[i] := by simp [hs, hi]
      rw [this] at h1 ⊢
      simpa using h1
    · rw [ho']
      simp only [Option.map_some, Option.getD_some]
      rw [Array.all_eq_true']
      intro e he
      rw [binds_any]
      cases hb : binds e with
      | false => rfl
      | true =>
        have := h2 e.on (List.mem_map.2 ⟨e, List.mem_filter.2 ⟨by simpa using he, hb⟩, rfl⟩)
        simpa using this
theorem Dl_set {listed : Array Bool} {i : Nat} (hi : i < listed.size) {j : Nat} : Dl (listed.setIfInBounds i true) j ↔ j = i ∨ Dl listed j := by
  unfold Dl
  simp only [Array.getD_eq_getD_getElem?]
  by_cases e : j = i
  · subst e
    simp [hi]
  · rw [Array.getElem?_setIfInBounds_ne (fun h => e h.symm)]
    simp [e]
theorem count_set {listed : Array Bool} {i : Nat} (hi : i < listed.size) (hd : ¬ Dl listed i) {f : Nat} (hc : listed.toList.count false = f + 1) : (listed.setIfInBounds i true).toList.count false = f := by
  have hl : listed.toList[i]'(by simpa using hi) = false := by
    unfold Dl at hd
    simp only [Array.getD_eq_getD_getElem?] at hd
    have : listed[i]? = some listed[i] := by simp [hi]
    rw [this] at hd
    simpa using hd
  rw [Array.toList_setIfInBounds, List.count_set (by simpa using hi), hl]
  simp [hc]
theorem all_of_none {ops : Array Oper} {listed : Array Bool} (hs : listed.size = ops.size) (ck : Ck P rs ops.toList) (hr : Region.ready .any ops listed = []) : ∀ i, i < ops.size → Dl listed i := by
  intro i
  induction i using Nat.strongRecOn with
  | _ i ih =>
    intro hi
    have hio : ops.toList[i]? = some ops[i] := by simp [hi]
    rcases Classical.em (Dl listed i) with hd | hd
    · exact hd
    · have : i ∈ Region.ready .any ops listed := (ready_mem hs).2 ⟨_, hio, hd, fun p hp => ih p (ck.pred i _ hio p hp) (by have := ck.pred i _ hio p hp; omega)⟩
      rw [hr] at this; cases this
theorem count_zero {listed : Array Bool} : (∀ i, i < listed.size → Dl listed i) ↔ listed.toList.count false = 0 := by
  rw [List.count_eq_zero]
  constructor
  · intro h hm
    obtain ⟨i, hi, he⟩ := List.getElem_of_mem hm
    have := h i (by simpa using hi)
    unfold Dl at this
    rw [Array.getD_eq_getD_getElem?] at this
    have h2 : listed[i]? = some false := by
      have : i < listed.size := by simpa using hi
      simp [this] at he ⊢
      exact he
    rw [h2] at this; cases this
  · intro h i hi
    unfold Dl
    rw [Array.getD_eq_getD_getElem?]
    have : listed[i]? = some listed[i] := by simp [hi]
    rw [this]
    cases hb : listed[i] with
    | true => rfl
    | false => exact absurd (by rw [← hb]; simp) h
end
section
variable {P : Program} {W : World} {n : Nat} {k0 : Nat → Prop} {rs : List Nat} {s s' : Hp} {o : Oper}
variable {ops : List Oper} {D D' : Nat → Prop} {L : List Nat} {X : Nat → Prop} {h : Hp} {a : Act} {t : Tm}
theorem updo_self {d : Option Nat} {v : Value} {t : Tm} (h : ∀ i, d = some i → i < n → v = t i) : updo n d v t = t := by
  cases d with
  | none => rfl
  | some d =>
    funext j
    show upd n d v t j = t j
    rw [upd_get]
    split
    · rename_i hh; rw [hh.1]; exact h d rfl hh.2
    · rfl
theorem oper_quiet {r : Option Nat} {E : List PanicEntry → Hp → Prop} {next : Act → World → Prop} {Q : Exit → Act → World → Prop} {v : Value} {d : Nat} (hd : isDefer o = false) (hq : quiet o = true) (hv : vop P W o t (fun v' _ => v' = v) E s)
    (hev : ∀ x ∈ o.op.operands, a.eval x = ev t x) (vis : Vis X h s) (hn : next (a.put o.dst v) (wat W h d)) : o.wpIn (wideR r) 0 P a (wat W h d) next Q := by
  refine ⟨fun _ _ => trivial, ?_⟩
  rw [Oper.semAt_eq _ _ _ (not_defer hd).1, execOp_congr o (not_defer hd).2 hev]
  obtain ⟨e, he, hs⟩ := vop_spq hq hv
  obtain ⟨nx, ⟨v', rfl, rfl⟩, hr⟩ := spq_sound P W e _ s hs
  rw [he, hr X h d vis]
  exact hn
theorem reads_ok (ck : Ck P rs ops) (hsl : ∀ o ∈ ops, slotOk n ops o = true) (di : DI P W n k0 ops D L X h a t s) {i : Nat} (hi : ops[i]? = some o) (hp : ∀ p ∈ preds o, D p) (hq : i ∈ L → quiet o = true) : ∀ x ∈ reads ops o, a.tmps.getD x undef = t x := by
  intro x hx
  refine di.tmp x ?_ ?_
  · have := List.all_eq_true.1 (hsl o (List.mem_of_getElem? hi)) x hx
    intro e; subst e; simp at this
  · intro q y hqL hqD hy hdst
    by_cases hne : q = i
    · subst hne
      rw [hi] at hy; cases hy
      have hself := ck.self q o hi
      unfold selfOk at hself
      rw [hq hqL] at hself
      simp only [Bool.not_true, Bool.false_or, Bool.and_eq_true, Bool.not_eq_true'] at hself
      have := hits_iff.2 ⟨x, hdst, hx⟩
      rw [this] at hself
      cases hself.1.1.1
    · exact (nonA ck di hi hp hqL hqD hy hne).1 x hdst hx
theorem DI.did (di : DI P W n k0 ops D L X h a t s) {i : Nat} (hi : ops[i]? = some o) (hiL : i ∈ L) (hp : ∀ p ∈ preds o, D p) (hD : ∀ j, D' j ↔ j = i ∨ D j) {v : Value} (hv : ∀ d, o.dst = some d → d < n → v = t d) :
    DI P W n k0 ops D' L X h (a.put o.dst v) t s := by
  have e : t = updo n o.dst v t := (updo_self hv).symm
  refine ⟨fun j hj => ?_, di.ltL, ?_, di.clL, ?_, put_size.trans di.asz, ?_, ?_, ?_⟩
  · rcases (hD j).1 hj with rfl | hj
    · exact hiL
    · exact di.sub j hj
  · intro j o' hj ho' p hp'
    rcases (hD j).1 hj with rfl | hj
    · rw [hi] at ho'; cases ho'; exact (hD p).2 (.inr (hp p hp'))
    · exact (hD p).2 (.inr (di.clD j o' hj ho' p hp'))
  · intro q o' hq hqD ho'
    exact di.lag q o' hq (fun hd => hqD ((hD q).2 (.inr hd))) ho'
  · intro j hj hno
    have key := put_get (a := a) (d := o.dst) (v := v) (t := t) (i := j) di.asz hj (fun hne => di.tmp j hj (fun q o' hqL hqD ho' => ?_)) (fun hl => di.out j hl hj)
    · rw [← e] at key; exact key
    · by_cases hqi : q = i
      · subst hqi; rw [hi] at ho'; cases ho'; exact fun hh => hne hh.symm
      · exact hno q o' hqL (fun hd => ((hD q).1 hd).elim hqi hqD) ho'
  · intro j hl hj
    have key := put_get (a := a) (d := o.dst) (v := v) (t := t) (i := j) di.asz hj (fun _ => di.out j hl hj) (fun hl => di.out j hl hj)
    rw [← e] at key; exact key
  · rw [put_defers]; exact di.dfr
theorem DI.eff (ck : Ck P rs ops) (di : DI P W n k0 ops D L X h a t s) {i : Nat} (hi : ops[i]? = some o) (hiL : i ∉ L) (hp : ∀ p ∈ preds o, D p) (hD : ∀ j, D' j ↔ j = i ∨ D j) {v : Value} {X2 : Nat → Prop} {h2 s2 : Hp} (e2 : Ev X h X2 h2)
    (hlag : ∀ (q : Nat) (y : Oper), q ∈ L → ¬ D q → ops[q]? = some y → LagP P W n ops y t s2) : DI P W n k0 ops D' (i :: L) X2 h2 (a.put o.dst v) (updo n o.dst v t) s2 := by
  refine ⟨fun j hj => ?_, fun j hj => ?_, ?_, ?_, ?_, put_size.trans di.asz, ?_, ?_, ?_⟩
  · rcases (hD j).1 hj with rfl | hj
    · simp
    · exact List.mem_cons_of_mem _ (di.sub j hj)
  · rcases List.mem_cons.1 hj with rfl | hj
    · exact (List.getElem?_eq_some_iff.1 hi).1
    · exact di.ltL j hj
  · intro j o' hj ho' p hp'
    rcases (hD j).1 hj with rfl | hj
    · rw [hi] at ho'; cases ho'; exact (hD p).2 (.inr (hp p hp'))
    · exact (hD p).2 (.inr (di.clD j o' hj ho' p hp'))
  · intro j o' hj ho' p hp'
    rcases List.mem_cons.1 hj with rfl | hj
    · rw [hi] at ho'; cases ho'; exact List.mem_cons_of_mem _ (di.sub p (hp p hp'))
    · exact List.mem_cons_of_mem _ (di.clL j o' hj ho' p hp')
  · intro q y hq hqD hy
    have hqi : q ≠ i := fun e => hqD ((hD q).2 (.inl e))
    have hqL : q ∈ L := (List.mem_cons.1 hq).resolve_left hqi
    have hqD' : ¬ D q := fun hd => hqD ((hD q).2 (.inr hd))
    obtain ⟨b1, b2⟩ := nonB ck di hi hiL (.inr hp) hqL hqD' hy
    refine ⟨(di.lag q y hqL hqD' hy).1, (hlag q y hqL hqD' hy).keep (fun x hx => ?_) (fun d hd => ?_)⟩
    · rw [updo_get]; exact fun e => b1 x e hx
    · rw [updo_get]; exact fun e => b2 d e hd
  · intro j hj hno
    refine put_get di.asz hj (fun hne => di.tmp j hj (fun q o' hqL hqD ho' => ?_)) (fun hl => di.out j hl hj)
    exact hno q o' (List.mem_cons_of_mem _ hqL) (fun hd => ((hD q).1 hd).elim (fun e => hiL (e ▸ hqL)) hqD) ho'
  · intro j hl hj
    exact put_get di.asz hj (fun _ => di.out j hl hj) (fun hl => di.out j hl hj)
  · rw [put_defers, updo_n]; exact di.dfr.ev e2
theorem dops_ok {acc : Bool} {r : Option Nat} {opsA : Array Oper} {K : Kt} {X0 : Nat → Prop} {h0 : Hp} (ck : Ck P rs opsA.toList) (hsl : ∀ o ∈ opsA.toList, slotOk n opsA.toList o = true) :
    ∀ (fuel : Nat) (listed : Array Bool) (L : List Nat) (f : Nat) (t : Tm) (s : Hp) (a : Act) (X1 : Nat → Prop) (h1 : Hp) (d : Nat), listed.size = opsA.size → listed.toList.count false = fuel → Vis X1 h1 s → Ev X0 h0 X1 h1 →
      DI P W n k0 opsA.toList (Dl listed) L X1 h1 a t s → dops P W n rs acc opsA.toList (masks opsA.toList []) K f L t s → wpAnyIn (wideR r) 0 P .any opsA (PQ W n rs k0 X0 h0 K) fuel listed a (wat W h1 d) := by
  intro fuel
  induction fuel with
  | zero =>
    intro listed L f t s a X1 h1 d hs hc v e di hd
    have hall := count_zero.2 hc
    refine ⟨?_, ?_⟩
    · rw [List.eq_nil_iff_forall_not_mem]
      intro i hi
      obtain ⟨o, ho, hnd, _⟩ := (ready_mem hs).1 hi
      exact hnd (hall i (by have := (List.getElem?_eq_some_iff.1 ho).1; rw [hs]; simpa using this))
    · cases f with
      | zero => exact hd.elim
      | succ f =>
        have hL : ∀ (m : Nat) (o : Oper), opsA.toList[m]? = some o → (0 + m) ∈ L := by
          intro m o ho
          rw [Nat.zero_add]
          exact di.sub m (hall m (by have := (List.getElem?_eq_some_iff.1 ho).1; rw [hs]; simpa using this))
        obtain ⟨q1, q2⟩ := findE_all (L := L) opsA.toList 0 hL
        unfold dops at hd
        simp only [q1, q2] at hd
        refine ⟨X1, h1, d, s, t, rfl, v, e, ⟨di.asz, fun i hi => di.tmp i hi (fun q o hqL hqD ho => ?_), di.dfr⟩, hd⟩
        exact absurd (hall q (by have := (List.getElem?_eq_some_iff.1 ho).1; rw [hs]; simpa using this)) hqD
  | succ fuel ih =>
    intro listed L f t s a X1 h1 d hs hc v e di hd
    refine ⟨fun hr => ?_, ?_⟩
    · exfalso
      have := count_zero.1 (fun i hi => all_of_none hs ck hr i (by rwa [hs] at hi))
      omega
    · intro i hi
      obtain ⟨o, ho, hnd, hp⟩ := (ready_mem hs).1 hi
      have hil : i < listed.size := by have := (List.getElem?_eq_some_iff.1 ho).1; rw [hs]; simpa using this
      have hio : opsA[i]? = some o := by simpa using ho
      have hD : ∀ j, Dl (listed.setIfInBounds i true) j ↔ j = i ∨ Dl listed j := fun j => Dl_set hil
      have hs' : (listed.setIfInBounds i true).size = opsA.size := by simp [hs]
      have hc' := count_set hil hnd hc
      obtain ⟨f', L', t', di', hd', hcase⟩ := DI.catch ck ho f L t di hp hd
      have hreads : ∀ x ∈ reads opsA.toList o, a.tmps.getD x undef = t' x := reads_ok ck hsl di' ho hp (fun hiL => (di'.lag i o hiL hnd ho).1)
      have hev := eval_of hreads
      have hself := ck.self i o ho
      have hndf := ck.ndef i o ho
      simp only [wpOpIn, hio]
      rcases hcase with hiL | ⟨hiL, hqi, hfq⟩
      · obtain ⟨hq, hlag⟩ := di'.lag i o hiL hnd ho
        by_cases hw : Wt opsA.toList o t'
        · rw [if_pos ((wanted_iff hreads).2 hw)]
          obtain ⟨x, hx1, hx2⟩ := hlag.1 hw
          refine oper_quiet (E := fun _ => FF) hndf hq (hx2 _ _ rfl) hev v ?_
          exact ih _ L' f' t' s _ X1 h1 d hs' hc' v e (di'.did ho hiL hp hD hx1) hd'
        · rw [if_neg (fun hh => hw ((wanted_iff hreads).1 hh))]
          exact ⟨fun _ _ => trivial, ih _ L' f' t' s _ X1 h1 d hs' hc' v e (di'.did ho hiL hp hD (fun d h1 h2 => (hlag.2 hw d h1 h2).symm)) hd'⟩
      · cases f' with
        | zero => exact hd'.elim
        | succ f' =>
          have hgd := dops_none hfq hd' ho hqi (ready_iff.2 ⟨hiL, fun p hp' => di'.sub p (hp p hp')⟩)
          rcases gd_elim hgd with ⟨hw, hr⟩ | ⟨hw, hr⟩
          · rw [if_pos ((wanted_iff hreads).2 hw)]
            refine oper_ok hndf hr hev v ?_ ?_
            · intro x X2 h2 d2 s2 v2 e2 k2
              obtain ⟨k3, k4⟩ := sames_spec L' k2
              refine ih _ (i :: L') f' _ s2 _ X2 h2 d2 hs' hc' v2 (e.trans e2) (di'.eff ck ho hiL hp hD e2 ?_) k3
              intro q y hqL hqD hy
              obtain ⟨hyq, hyl⟩ := di'.lag q y hqL hqD hy
              have hyself := ck.self q y hy
              unfold selfOk at hyself
              rw [hyq] at hyself
              simp only [Bool.not_true, Bool.false_or, Bool.and_eq_true, Bool.not_eq_true'] at hyself
              refine ⟨fun hwy => ?_, hyl.2⟩
              obtain ⟨u, u1, u2⟩ := hyl.1 hwy
              cases hld : isLoad y with
              | false =>
                obtain ⟨u', u3, u4⟩ := vop_pure hyq hld hyself.1.1.2 (u2 (fun v' _ => v' = u) (fun _ => FF) rfl)
                subst u3
                exact ⟨u', u1, fun K E hk => u4 K E s2 hk⟩
              | true =>
                have hdst := hyself.1.2
                rw [hld] at hdst
                simp only [Bool.not_true, Bool.false_or] at hdst
                obtain ⟨dd, hdd⟩ := Option.isSome_iff_exists.1 hdst
                have hbit : bit (amask acc opsA.toList (masks opsA.toList []) L' i) q = false := by
                  cases hb : bit (amask acc opsA.toList (masks opsA.toList []) L' i) q with
                  | false => rfl
                  | true =>
                    exfalso
                    unfold amask at hb
                    cases acc with
                    | false => exact absurd (mask_sub (S := Dl listed) di'.clD i o ho hp q hb) hqD
                    | true =>
                      simp only at hb
                      rw [bit_or, Bool.or_eq_true] at hb
                      rcases hb with hb | hb
                      · exact absurd (mask_sub (S := Dl listed) di'.clD i o ho hp q hb) hqD
                      · obtain ⟨x, hx, hxq⟩ := bit_orL _ _ hb
                        obtain ⟨z, hz, rfl⟩ := List.mem_map.1 hx
                        cases hoz : opsA.toList[z]? with
                        | none => simp only [hoz] at hxq; simp [bit] at hxq
                        | some oz =>
                          simp only [hoz] at hxq
                          cases hqz : quiet oz with
                          | true => simp only [hqz] at hxq; simp [bit] at hxq
                          | false =>
                            simp only [hqz] at hxq
                            have hzD : Dl listed z := Classical.byContradiction fun hn => by
                              have := (di'.lag z oz hz hn hoz).1
                              rw [hqz] at this; cases this
                            exact absurd (mask_sub (S := Dl listed) di'.clD z oz hoz (di'.clD z oz hzD hoz) q hxq) hqD
                rcases gd_elim (k4 q hqL y dd hy hld hbit hdd) with ⟨_, hgr⟩ | ⟨hnw, _⟩
                · obtain ⟨u', u3, u4⟩ := vop_val hyq hyself.1.1.2 hgr
                  exact ⟨u', fun d' hd' _ => by rw [hdd] at hd'; cases hd'; exact u3, fun K E hk => u4 K E hk⟩
                · exact absurd hwy hnw
            · intro c X2 h2 d2 s2 v2 e2 k2
              refine ⟨X2, h2, d2, s2, t', rfl, v2, e.trans e2, ⟨di'.asz, fun x hx hxn => di'.tmp x hxn (fun q y hqL hqD hy hdst => ?_), di'.dfr.ev e2⟩, k2⟩
              have hyself := ck.self q y hy
              unfold selfOk at hyself
              rw [(di'.lag q y hqL hqD hy).1] at hyself
              simp only [Bool.not_true, Bool.false_or, Bool.and_eq_true, Bool.not_eq_true'] at hyself
              have := hits_iff.2 ⟨x, hdst, hx⟩
              rw [this] at hyself
              cases hyself.2
          · rw [if_neg (fun hh => hw ((wanted_iff hreads).1 hh))]
            refine ⟨fun _ _ => trivial, ih _ (i :: L') f' _ s _ X1 h1 d hs' hc' v e (di'.eff ck ho hiL hp hD (Ev.refl _ _) (fun q y hqL hqD hy => (di'.lag q y hqL hqD hy).2)) hr⟩
theorem region_ok {acc : Bool} {r : Option Nat} {opsA : Array Oper} {K : Kt} {X : Nat → Prop} {h : Hp} {id d : Nat} (hck : drOk P rs opsA.toList = true) (hsl : ∀ o ∈ opsA.toList, slotOk n opsA.toList o = true)
    (v : Vis X h s) (rl : Rel n k0 X h a t) (hd : dops P W n rs acc opsA.toList (masks opsA.toList []) K (opsA.toList.length + 1) [] t s) : (Code.region id opsA true).wpIn (wideR r) 0 P (PQ W n rs k0 X h K) a (wat W h d) := by
  have hm : P.follows .mixedOrders = true := by unfold drOk at hck; rw [Bool.and_eq_true] at hck; exact hck.1
  refine wpIn_region_any hm ?_
  have hno : ∀ i, ¬ Dl (Array.replicate opsA.size false) i := by
    intro i hi
    unfold Dl at hi
    rw [Array.getD_eq_getD_getElem?, Array.getElem?_replicate] at hi
    split at hi <;> cases hi
  refine dops_ok (ck_of hck) hsl _ _ [] _ t s a X h (d + 1) (by simp) (by simp) v (Ev.refl _ _) ?_ hd
  exact ⟨fun i hi => absurd hi (hno i), fun i hi => by simp at hi, fun j o hj => absurd hj (hno j), fun j o hj => by simp at hj, fun q o hq => by simp at hq, rl.size, fun i hi _ => rl.tmp i hi, fun i _ hi => rl.tmp i hi, rl.dfr⟩
end
theorem stepR_scope {P : Program} {b : Frame} {a : Act} {k : List Item} {cs : List Frame} {w : World} {c : Code} : step P (lone (b.atR a (.code (.scope c) :: k)) cs w) = .next (lone (b.atR a (.code c :: .inScope c :: k)) cs w) :=
  step_lone_go (by simp [stepG, stepG.exec, Frame.atR])
theorem stepR_inScope {P : Program} {b : Frame} {a : Act} {k : List Item} {cs : List Frame} {w : World} {c : Code} : step P (lone (b.atR a (.inScope c :: k)) cs w) = .next (lone (b.atR a k) cs w) :=
  step_lone_go (by simp [stepG, stepG.exec, Frame.atR])
theorem wpIn_scope {F : Fence} {n : Nat} {P : Program} {Q : Exit → Act → World → Prop} {a : Act} {w : World} {c : Code} (hQ : ∀ l a w, ¬ Q (.goto l) a w) (h : c.wpIn F n P Q a w) : (Code.scope c).wpIn F n P Q a w := by
  intro b k cs hro hb hr
  have h0 : (lone (b.atR a (.code (.scope c) :: k)) cs w).fenced P F := fenced_calm hb hr rfl
  obtain ⟨e, a₁, w₁, hq, harr⟩ := h b (.inScope c :: k) cs hro hb hr
  cases e with
  | normal => exact ⟨.normal, a₁, w₁, hq, .head h0 stepR_scope (StepsIn.trans harr (.one (fenced_calm hb hr rfl) stepR_inScope))⟩
  | exit id => exact ⟨.exit id, a₁, w₁, hq, .of_steps (.one h0 stepR_scope) ⟨fun k' hk => harr.1 k' (by simp [exitTo, hk]), fun hr' hk => harr.2 hr' (by simp [exitTo, hk])⟩⟩
  | goto l => exact absurd hq (hQ _ _ _)
  | ret => exact ⟨_, a₁, w₁, hq, .of_steps (.one h0 stepR_scope) harr⟩
  | panic ch => exact ⟨_, a₁, w₁, hq, .of_steps (.one h0 stepR_scope) harr⟩
  | outgrown => exact ⟨_, a₁, w₁, hq, .of_steps (.one h0 stepR_scope) harr⟩
theorem run_invoke {P : Program} {f : FuncId} {cap args : Array Value} {w : World} (h : callable P f = true) : (invoke (.fn (.func f) cap) args).run P w = .ok (.enter f (args ++ cap)) w := by
  unfold callable at h
  split at h
  · rename_i fn hf
    simp only [Bool.and_eq_true, Bool.not_eq_true'] at h
    have hn : fn.body.isNone = false := by cases hb : fn.body <;> simp_all
    have e : (program : Sem Program).run P w = .ok P w := rfl
    simp only [invoke, callFunc, Sem.run_bind, e, Result.andThen, hf, h.2, hn, Bool.false_eq_true, if_false, Sem.run_pure]
  · cases h
section
variable {P : Program} {W : World} {X : Nat → Prop} {h s : Hp}
theorem Vis.swap (v : Vis X h s) {b : Nat} {o : Obj} (hx : X b) (ho : hidden o = true) : Vis X (h.setIfInBounds b o) s where
  size := by simp [v.size]
  same := fun c hc => by rw [Array.getElem?_setIfInBounds_ne (fun e => hc (by rw [← e]; exact hx))]; exact v.same c hc
  junk := v.junk
  hid := fun c hc => by
    by_cases e : c = b
    · subst e; exact ⟨o, by simp [v.lt hc], ho⟩
    · rw [Array.getElem?_setIfInBounds_ne (fun e' => e e'.symm)]; exact v.hid c hc
theorem Vis.mask (v : Vis X h s) {b : Nat} {o : Obj} (hb : h[b]? = some o) (ho : hidden o = true) : Vis (fun c => X c ∨ c = b) h (s.setIfInBounds b Go.V.junk) where
  size := by simp [v.size]
  same := fun c hc => by rw [Array.getElem?_setIfInBounds_ne (fun e => hc (.inr e.symm))]; exact v.same c (fun hx => hc (.inl hx))
  junk := fun c hc => by
    have hl : b < s.size := by rw [v.size]; exact (Array.getElem?_eq_some_iff.1 hb).1
    by_cases e : c = b
    · subst e; simp [hl]
    · rw [Array.getElem?_setIfInBounds_ne (fun e' => e e'.symm)]; exact v.junk c (hc.resolve_right e)
  hid := fun c hc => by
    rcases hc with hc | rfl
    · exact v.hid c hc
    · exact ⟨o, hb, ho⟩
theorem Vis.show (v : Vis X h s) {b : Nat} {o : Obj} (hx : X b) : Vis (fun c => X c ∧ c ≠ b) (h.setIfInBounds b o) (s.setIfInBounds b o) where
  size := by simp [v.size]
  same := fun c hc => by
    by_cases e : c = b
    · subst e; rw [Array.getElem?_setIfInBounds, Array.getElem?_setIfInBounds, v.size]; simp only [if_true]
    · rw [Array.getElem?_setIfInBounds_ne (fun e' => e e'.symm), Array.getElem?_setIfInBounds_ne (fun e' => e e'.symm)]; exact v.same c (fun hx => hc ⟨hx, e⟩)
  junk := fun c hc => by rw [Array.getElem?_setIfInBounds_ne (fun e' => hc.2 e'.symm)]; exact v.junk c hc.1
  hid := fun c hc => by rw [Array.getElem?_setIfInBounds_ne (fun e' => hc.2 e'.symm)]; exact v.hid c hc.1
end
section
variable {P : Program} {h : Hp} {W : World} {d : Nat}
theorem run_getLoop {l : Nat} {r : Loop} (hl : h[l]? = some (.loop r)) : (Instr.getLoop l).run P (wat W h d) = .ok r (wat W h d) := by
  have e : (getObj l).run P (wat W h d) = .ok (.loop r) (wat W h d) := by
    simp only [getObj, Sem.run, show (wat W h d).heap[l]? = some (.loop r) from hl]
  simp only [Instr.getLoop, Sem.run_bind, e, Result.andThen, Sem.run_pure]
theorem run_setLoop {l : Nat} {r : Loop} (hl : h[l]? = some (.loop r)) (o : Obj) : (setObj l o).run P (wat W h d) = .ok () (wat W (h.setIfInBounds l o) d) := by
  simp only [setObj, Sem.run, show (wat W h d).heap[l]? = some (.loop r) from hl]
  rfl
theorem run_enter {fn : FuncId} {tmps : Array Value} {ps : Array Tmp} {assign body : Code} : (Instr.enterLoop fn tmps ps assign body none).run P (wat W h d) =
    .ok (h.size + 1, [{ target := .collected h.size, args := #[] }]) (wat W ((h.push (.deferred (some []))).push (.loop { state := .ready, pending := none, fn, tmps, params := ps, assign, body, defers := h.size })) d) := by
  have e : ∀ (h' : Hp) (o : Obj), (newObj o).run P (wat W h' d) = .ok h'.size (wat W (h'.push o) d) := fun _ _ => rfl
  simp only [Instr.enterLoop, Sem.run_bind, e, Result.andThen, Sem.run_pure, Array.size_push]
theorem run_yield {l : Nat} {r : Loop} (hl : h[l]? = some (.loop r)) {args : Array Value} (ha : args.size = r.params.size) : (Instr.yield l args).run P (wat W h d) =
    .ok (.round l r.fn ((r.params.zip args).foldl (fun tmps (t, a) => tmps.setIfInBounds t a) r.tmps) r.assign r.body) (wat W h d) := by
  simp only [Instr.yield, Sem.run_bind, run_getLoop hl, Result.andThen, ha, ne_eq, not_true_eq_false, if_false, Sem.run_pure]
theorem run_begin {l : Nat} {r : Loop} (hl : h[l]? = some (.loop r)) (hs : r.state = .ready) : (Instr.beginRound l).run P (wat W h d) = .ok () (wat W (h.setIfInBounds l (.loop { r with state := .busy })) d) := by
  simp only [Instr.beginRound, Sem.run_bind, run_getLoop hl, Result.andThen, run_setLoop hl, hs, Sem.run_pure]
theorem run_end {l : Nat} {r : Loop} (hl : h[l]? = some (.loop r)) (jump : Option Code) : (Instr.endRound l jump).run P (wat W h d) = .ok (.bool jump.isNone) (wat W (h.setIfInBounds l (.loop { r with state := if jump.isNone then .ready else .done, pending := jump })) d) := by
  simp only [Instr.endRound, Sem.run_bind, run_getLoop hl, Result.andThen, run_setLoop hl, Sem.run_pure]
theorem run_endLoop {l : Nat} {r : Loop} (hl : h[l]? = some (.loop r)) (hs : (r.state == .busy) = false) : (Instr.endLoop l).run P (wat W h d) = .ok r.pending (wat W (h.setIfInBounds l (.loop { r with state := .exhausted })) d) := by
  simp only [Instr.endLoop, Sem.run_bind, run_getLoop hl, Result.andThen, hs, Bool.false_eq_true, if_false, Sem.run_pure, run_setLoop hl]
end
theorem fencedR (P : Program) (r : Option Nat) (m : Machine) : m.fenced P (wideR r) := fun g _ => ⟨fun h => (by cases h), .inl trivial, fun _ _ => trivial, fun _ h => (by cases h)⟩
theorem roomR (r : Option Nat) (k : Nat) : (wideR r).room k := fun _ h => (by cases h)
def wpB (r : Option Nat) (P : Program) (c : Code) (Q : Exit → Act → World → Prop) (a : Act) (w : World) : Prop :=
  ∀ (b : Frame) (k : List Item) (cs : List Frame), b.roundOf = r → (∃ fn, P.funcs[b.fn]? = some fn) →
    ∃ e a' w', Q e a' w' ∧ ArrivesIn (Machine.fenced P (wideR r)) P (lone (b.atR a (.code c :: k)) cs w) b k cs e a' w'
section
variable {r : Option Nat} {P : Program} {Q Q' : Exit → Act → World → Prop} {a : Act} {w : World}
theorem wpB_of {c : Code} (h : c.wpIn (wideR r) 0 P Q a w) : wpB r P c Q a w := fun b k cs hb _ => h b k cs hb trivial (roomR r _)
theorem wpB_mono {c : Code} (h : wpB r P c Q a w) (hq : ∀ e a w, Q e a w → Q' e a w) : wpB r P c Q' a w :=
  fun b k cs hb hf => let ⟨e, a', w', q, x⟩ := h b k cs hb hf; ⟨e, a', w', hq _ _ _ q, x⟩
theorem wpB_seq {x y : Code} (h : wpB r P x (Exit.then (fun a w => wpB r P y Q a w) Q) a w) : wpB r P (.seq x y) Q a w := by
  intro b k cs hb hf
  obtain ⟨e, a1, w1, hq, harr⟩ := h b (.code y :: k) cs hb hf
  have h0 := StepsIn.one (fencedR P r (lone (b.atR a (.code (.seq x y) :: k)) cs w)) (stepR_seq (P := P))
  cases e with
  | normal =>
    obtain ⟨e2, a2, w2, hq2, harr2⟩ := hq b k cs hb hf
    exact ⟨e2, a2, w2, hq2, .of_steps (StepsIn.trans h0 harr) harr2⟩
  | _ => exact ⟨_, a1, w1, hq, .of_steps h0 (.pass (x := .code y) rfl (fun _ _ => .inl (by simp)) harr)⟩
theorem wpB_cond {c : Operand} {x y : Code} {t : Bool} (hc : a.eval c = .bool t) (h : wpB r P (if t then x else y) Q a w) : wpB r P (.cond c x y) Q a w :=
  fun b k cs hb hf => let ⟨e, a', w', q, z⟩ := h b k cs hb hf; ⟨e, a', w', q, .of_steps (.one (fencedR P r _) (stepR_cond hc)) z⟩
theorem wpB_scope {c : Code} (hQ : ∀ l a w, ¬ Q (.goto l) a w) (h : wpB r P c Q a w) : wpB r P (.scope c) Q a w := by
  intro b k cs hb hf
  obtain ⟨e, a1, w1, hq, harr⟩ := h b (.inScope c :: k) cs hb hf
  have h0 := StepsIn.one (fencedR P r (lone (b.atR a (.code (.scope c) :: k)) cs w)) (stepR_scope (P := P))
  cases e with
  | normal => exact ⟨.normal, a1, w1, hq, StepsIn.trans h0 (StepsIn.trans harr (.one (fencedR P r _) stepR_inScope))⟩
  | exit id => exact ⟨.exit id, a1, w1, hq, .of_steps h0 ⟨fun k' hk => harr.1 k' (by simp [exitTo, hk]), fun hr' hk => harr.2 hr' (by simp [exitTo, hk])⟩⟩
  | goto l => exact absurd hq (hQ _ _ _)
  | ret => exact ⟨_, a1, w1, hq, .of_steps h0 harr⟩
  | panic ch => exact ⟨_, a1, w1, hq, .of_steps h0 harr⟩
  | outgrown => exact ⟨_, a1, w1, hq, .of_steps h0 harr⟩
theorem wpB_block {id : Nat} {c : Code} (h : wpB r P c (Exit.inBlock id Q) a w) : wpB r P (.block id c) Q a w := by
  intro b k cs hb hf
  obtain ⟨e, a1, w1, hq, harr⟩ := h b (.inBlock id :: k) cs hb hf
  have h0 := StepsIn.one (fencedR P r (lone (b.atR a (.code (.block id c) :: k)) cs w)) (stepR_block (P := P))
  cases e with
  | normal => exact ⟨.normal, a1, w1, hq, StepsIn.trans h0 (StepsIn.trans harr (.one (fencedR P r _) stepR_inBlock))⟩
  | exit j =>
    by_cases hj : j = id
    · simp only [Exit.inBlock, hj, if_true] at hq
      exact ⟨.normal, a1, w1, hq, StepsIn.trans h0 (harr.1 k (by simp [exitTo, hj]))⟩
    · simp only [Exit.inBlock, hj, if_false] at hq
      have e1 : (id == j) = false := by simp; exact fun e => hj e.symm
      have e2 : exitTo j (.inBlock id :: k) = exitTo j k := by simp [exitTo, e1]
      exact ⟨.exit j, a1, w1, hq, fun k' hk => StepsIn.trans h0 (harr.1 k' (by rw [e2]; exact hk)),
        fun hr' hk => let ⟨k1, g1, g2⟩ := harr.2 hr' (by rw [e2]; exact hk); ⟨k1, g1, StepsIn.trans h0 g2⟩⟩
  | goto l =>
    have e2 : gotoIn l (.inBlock id :: k) = gotoIn l k := by simp [gotoIn]
    exact ⟨_, a1, w1, hq, fun k' hk => StepsIn.trans h0 (harr.1 k' (by rw [e2]; exact hk)),
      fun hr' hk => let ⟨k1, g1, g2⟩ := harr.2 hr' (by rw [e2]; exact hk); ⟨k1, g1, StepsIn.trans h0 g2⟩⟩
  | ret => exact ⟨_, a1, w1, hq, .of_steps h0 harr⟩
  | panic ch => exact ⟨_, a1, w1, hq, .of_steps h0 harr⟩
  | outgrown => exact ⟨_, a1, w1, hq, .of_steps h0 harr⟩
theorem wpB_loop {c : Code} (I : Nat → Act → World → Prop) (n0 : Nat) (h0 : I n0 a w)
    (round : ∀ n a w, I n a w → wpB r P c (Exit.then (fun a' w' => ∃ n', n' < n ∧ I n' a' w') Q) a w) : wpB r P (.loop c) Q a w := by
  intro b k cs hb hf
  have key : ∀ j a w, I j a w → ∃ e a' w', Q e a' w' ∧ ArrivesIn (Machine.fenced P (wideR r)) P (lone (b.atR a (.code c :: .inLoop c :: k)) cs w) b k cs e a' w' := by
    intro j
    induction j using Nat.strongRecOn with
    | _ j ih =>
      intro a w hI
      obtain ⟨e, a1, w1, hq, harr⟩ := round j a w hI b (.inLoop c :: k) cs hb hf
      cases e with
      | normal =>
        obtain ⟨n', hlt, hI'⟩ := hq
        obtain ⟨e2, a2, w2, hq2, harr2⟩ := ih n' hlt a1 w1 hI'
        exact ⟨e2, a2, w2, hq2, .of_steps (StepsIn.trans harr (.one (fencedR P r _) stepR_inLoop)) harr2⟩
      | _ => exact ⟨_, a1, w1, hq, .pass (x := .inLoop c) rfl (fun _ _ => .inl (by simp)) harr⟩
  obtain ⟨e, a', w', hq, harr⟩ := key n0 a w h0
  exact ⟨e, a', w', hq, .of_steps (.one (fencedR P r _) stepR_loop) harr⟩
end
section
variable {P : Program} {n : Nat}
def rndPost (P : Program) (l : Nat) (R : Ending → World → Prop) : Exit → Act → World → Prop
  | .normal, _, w => ∃ v w', (Instr.endRound l none).run P w = .ok v w' ∧ R (.returned v) w'
  | .ret, _, w => ∃ v w', (Instr.endRound l (some .ret)).run P w = .ok v w' ∧ R (.returned v) w'
  | .exit id, _, w => ∃ v w', (Instr.endRound l (some (.exit id))).run P w = .ok v w' ∧ R (.returned v) w'
  | .goto _, _, _ => False
  | .panic c, a, w => a.defers = [] ∧ R (.panicked c) w
  | .outgrown, _, _ => False
theorem round_of_wpB {l : Nat} {f : FuncId} {fn : Func} {tmps : Array Value} {assign body : Code} {w : World} {R : Ending → World → Prop} (hf : P.funcs[f]? = some fn)
    (h : wpB (some l) P assign (Exit.then (fun a w => ∃ w2, (Instr.beginRound l).run P w = .ok () w2 ∧ wpB (some l) P body (rndPost P l R) a w2) (fun _ _ _ => False)) { tmps := tmps, defers := [] } w) :
    RoundIn (wideR none) 0 P l f tmps assign body w R := by
  refine ⟨trivial, fun c cs _ => ?_⟩
  let b : Frame := { (default : Frame) with fn := f, kind := .normal, roundOf := some l }
  have hb0 : Frame.round l f tmps assign body .normal = b.atR { tmps := tmps, defers := [] } [.code assign, .beginRound, .code body] := by simp [Frame.round, Frame.atR, b]
  have up : ∀ {m m' : Machine}, StepsIn (Machine.fenced P (wideR (some l))) P m m' → StepsIn (Machine.fenced P (wideR none)) P m m' := fun h => h.mono fun m _ => fencedR P none m
  obtain ⟨e, a1, w1, hq, harr⟩ := h b [.beginRound, .code body] (c :: cs) rfl ⟨fn, hf⟩
  rw [← hb0] at harr
  cases e with
  | normal =>
    obtain ⟨w2, hbr, hbody⟩ := hq
    have s1 := StepsIn.one (fencedR P (some l) (lone (b.atR a1 [.beginRound, .code body]) (c :: cs) w1)) (stepR_beginRound rfl hbr)
    have s2 := StepsIn.trans harr s1
    obtain ⟨e2, a2, w3, hq2, harr2⟩ := hbody b [] (c :: cs) rfl ⟨fn, hf⟩
    cases e2 with
    | normal =>
      obtain ⟨v, w4, hend, hR⟩ := hq2
      exact ⟨.returned v, w4, hR, up (s2.trans (StepsIn.trans harr2 (.one (fencedR P _ _) (stepR_round_end rfl rfl hend))))⟩
    | ret =>
      obtain ⟨v, w4, hend, hR⟩ := hq2
      obtain ⟨k1, hs⟩ := harr2.2 rfl
      exact ⟨.returned v, w4, hR, up (s2.trans (StepsIn.trans hs (.one (fencedR P _ _) (stepR_round_ret rfl rfl hend))))⟩
    | exit id =>
      obtain ⟨v, w4, hend, hR⟩ := hq2
      obtain ⟨k1, hk, hs⟩ := harr2.2 rfl rfl
      exact ⟨.returned v, w4, hR, up (s2.trans (StepsIn.trans hs (.one (fencedR P _ _) (stepR_round_exit rfl rfl hk hend))))⟩
    | panic ch =>
      obtain ⟨hd, hR⟩ := hq2
      obtain ⟨k1, hs⟩ := harr2
      exact ⟨.panicked ch, w3, hR, up (s2.trans (StepsIn.trans hs (.one (fencedR P _ _) (step_leave_panicked ⟨rfl, hd, fn, hf⟩))))⟩
    | goto t => exact hq2.elim
    | outgrown => exact hq2.elim
  | _ => exact hq.elim
theorem wpB_range {g : Operand} {ps : Array Tmp} {assign body : Code} {Q : Exit → Act → World → Prop} {a : Act} {w : World}
    (h : ∀ fn, (∃ x, P.funcs[fn]? = some x) → ∃ (l : Nat) (mark : List Deferred) (w1 : World) (d : Deferred) (w1' : World) (f : FuncId) (args : Array Value) (w2 : World),
      (Instr.enterLoop fn a.tmps ps assign body none).run P w = .ok (l, mark) w1 ∧
      (resolve a.eval (rangeCall g l) 0).run P w1 = .ok d w1' ∧
      (invoke d.target d.args).run P w1' = .ok (.enter f args) w2 ∧
      CallsIn (wideR none) 0 P f args w2 (rangePost (wideR none) 0 P l Q { a with defers := mark ++ a.defers })) :
    wpB none P (.rangeFunc g ps assign body) Q a w := by
  intro b k cs hb hf
  obtain ⟨l, mark, w1, d, w1', f, args, w2, he, hres, hinv, hc⟩ := h b.fn hf
  rw [← hb] at he
  have henter := StepsIn.one (fencedR P none (lone (b.atR a (.code (.rangeFunc g ps assign body) :: k)) cs w)) (stepR_rangeFunc (P := P) (b := b) (a := a) (k := k) (cs := cs) (w := w) he hres hinv)
  obtain ⟨e, w3, fr, hR, hsteps, hfn, hleave⟩ := hc.2 (b.atR { a with defers := mark ++ a.defers } (.inRangeFunc l :: k) :: cs) (roomR none _)
  cases e with
  | outgrown =>
    obtain ⟨a0, w0, hq⟩ := hR
    exact ⟨.outgrown, a0, w0, hq, .inr (Outgrown.of_steps henter.steps hsteps)⟩
  | returned v =>
    obtain ⟨jump, w4, hend, hj⟩ := hR
    have hl := step_leave_returned (c := b.atR { a with defers := mark ++ a.defers } (.inRangeFunc l :: k)) (cs := cs) hleave
    rw [finish_atR_inRangeFunc l v] at hl
    have sback := henter.trans (StepsIn.trans hsteps (StepsIn.trans (.one (fencedR P none _) hl) (.one (fencedR P none _) (stepR_endRangeFunc hend))))
    cases jump with
    | none => exact ⟨.normal, _, w4, hj, sback⟩
    | some c =>
      obtain ⟨e', a'', w5, hq, harr⟩ := hj b k cs hb trivial (roomR none _)
      exact ⟨e', a'', w5, hq, .of_steps sback harr⟩
  | panicked ch =>
    have hl := step_leave_panicked (c := b.atR { a with defers := mark ++ a.defers } (.inRangeFunc l :: k)) (cs := cs) hleave
    rw [Frame.raise_atR] at hl
    exact ⟨.panic ch, _, w3, hR, .inRangeFunc l :: k, henter.trans (StepsIn.trans hsteps (.one (fencedR P none _) hl))⟩
end
def WP : Bool → Option Nat → Program → Code → (Exit → Act → World → Prop) → Act → World → Prop
  | true, r, P, c, Q, a, w => wpB r P c Q a w
  | false, r, P, c, Q, a, w => c.wpIn (wideR r) 0 P Q a w
section
variable {B : Bool} {r : Option Nat} {P : Program} {Q Q' : Exit → Act → World → Prop} {a : Act} {w : World}
theorem WP_of {c : Code} (h : c.wpIn (wideR r) 0 P Q a w) : WP B r P c Q a w := match B with
  | true => wpB_of h
  | false => h
theorem WP_mono {c : Code} (h : WP B r P c Q a w) (hq : ∀ e a w, Q e a w → Q' e a w) : WP B r P c Q' a w := match B, h with
  | true, h => wpB_mono h hq
  | false, h => wpIn_mono h hq
theorem WP_seq {x y : Code} (h : WP B r P x (Exit.then (fun a w => WP B r P y Q a w) Q) a w) : WP B r P (.seq x y) Q a w := match B, h with
  | true, h => wpB_seq h
  | false, h => wpIn_seq h
theorem WP_cond {c : Operand} {x y : Code} {t : Bool} (hc : a.eval c = .bool t) (h : WP B r P (if t then x else y) Q a w) : WP B r P (.cond c x y) Q a w := match B, h with
  | true, h => wpB_cond hc h
  | false, h => wpIn_cond hc h
theorem WP_scope {c : Code} (hQ : ∀ l a w, ¬ Q (.goto l) a w) (h : WP B r P c Q a w) : WP B r P (.scope c) Q a w := match B, h with
  | true, h => wpB_scope hQ h
  | false, h => wpIn_scope hQ h
theorem WP_block {id : Nat} {c : Code} (h : WP B r P c (Exit.inBlock id Q) a w) : WP B r P (.block id c) Q a w := match B, h with
  | true, h => wpB_block h
  | false, h => wpIn_block h
theorem WP_loop {c : Code} (I : Nat → Act → World → Prop) (n0 : Nat) (h0 : I n0 a w)
    (round : ∀ n a w, I n a w → WP B r P c (Exit.then (fun a' w' => ∃ n', n' < n ∧ I n' a' w') Q) a w) : WP B r P (.loop c) Q a w := match B, round with
  | true, round => wpB_loop I n0 h0 round
  | false, round => wpIn_loop_ghost I n0 h0 round
end
end Go.V
