import Derived.Test.YtfaeokcbfnlgbaaC0
import Derived.RecoverIn
import Derived.Test.YtfaeokcbfnlgbaaRows
import Derived.WalkKit
import Derived.ProofKit
import Derived.OpenShut
import Derived.ShutString
import Derived.ChangeOld
import Derived.Below
import Derived.SizedLaws
import Derived.Test.YtfaeokcbfnlgbaaProg
/- Lemmas: contracts over the visible heap, and that they are sound; no condition. -/
/- A function's contract from its text. -/
set_option linter.unusedSimpArgs false
set_option linter.unusedVariables false
namespace Go.V
section
variable {P : Program} {W : World} {n : Nat} {k0 : Nat → Prop} {s : Hp}

theorem LD_var {t : TypeId} {p : Value} {K : VK} (h : LD P t p K s) : ∃ a, p = .pointer (some a) ∧ spq P (loadVar t a) (fun v => K v s) s := by
  have h2 := LD_spq h
  unfold LD at h
  cases p <;> first | exact h.elim | skip
  rename_i o
  obtain ⟨a, rfl, h'⟩ := SO_elim h
  refine ⟨a, rfl, ?_⟩
  simpa only [Instr.loadAt, Instr.sureAddr, spq_bind, spq_pure] using h2

abbrev resSlots := slotsOf

def resF (tmps : Array Value) : ResultVar → Sem Value
  | .tmp t => pure (tmps.getD t undef)
  | .cell a t => do loadVar t (← asAddr (tmps.getD a undef))

theorem resL_spq {tmps : Array Value} {t : Tm} : ∀ (rv : List ResultVar) (K : List Value → Hp → Prop), (∀ i ∈ resSlots rv, tmps.getD i undef = t i) → resL P rv t K s → spq P (rv.mapM (resF tmps)) (fun vs => K vs s) s
  | [], K, ha, h => h
  | .tmp i :: r, K, ha, h => by
    rw [List.mapM_cons, spq_bind]
    show spq P (pure (tmps.getD i undef)) _ s
    rw [ha i (by simp [slotsOf]), spq_pure, spq_bind]
    refine spq_mono P _ s ?_ (resL_spq r _ (fun j hj => ha j (by simp [slotsOf, hj])) h)
    intro vs hv
    exact hv
  | .cell a ty :: r, K, ha, h => by
    rw [List.mapM_cons, spq_bind]
    obtain ⟨ad, hp, hl⟩ := LD_var h
    show spq P (do loadVar ty (← asAddr (tmps.getD a undef))) _ s
    rw [ha a (by simp [slotsOf]), hp]
    show spq P (do loadVar ty (← (pure ad : Sem Addr))) _ s
    rw [spq_bind, spq_pure]
    refine spq_mono P _ s ?_ hl
    intro v hv
    rw [spq_bind]
    refine spq_mono P _ s ?_ (resL_spq r _ (fun j hj => ha j (by simp [slotsOf, hj])) hv)
    intro vs hv
    exact hv
theorem results_run {fn : Func} {tmps : Array Value} {t : Tm} {R : Value → Hp → Prop} (ha : ∀ i ∈ resSlots fn.results.toList, tmps.getD i undef = t i) (h : resL P fn.results.toList t (fun vs => R (one vs)) s) :
    ∃ v, R v s ∧ ∀ (X : Nat → Prop) (h : Hp) (d : Nat), Vis X h s → (results fn tmps).run P (wat W h d) = .ok v (wat W h d) := by
  have h1 := resL_spq fn.results.toList _ ha h
  have h2 : spq P (results fn tmps) (fun v => R v s) s := by
    have e : (results fn tmps) = (do let vs ← fn.results.mapM (resF tmps); pure (if h : vs.size = 1 then vs[0] else .tuple vs)) := by
      unfold results
      congr 1
    rw [e, spq_bind, Array.mapM_eq_mapM_toList, map_eq_pure_bind, spq_bind]
    refine spq_mono P _ s ?_ h1
    intro vs hv
    rw [spq_pure, spq_pure]
    have : (if h : vs.toArray.size = 1 then vs.toArray[0] else .tuple vs.toArray) = one vs := by
      cases vs with
      | nil => rfl
      | cons x r => cases r with
        | nil => rfl
        | cons y r => simp [one]
    rw [this]; exact hv
  obtain ⟨v, hv, hr⟩ := spq_sound P W _ _ s h2
  exact ⟨v, hv, hr⟩

theorem run_take {h : Hp} {d r : Nat} (hr : h[r]? = some (.deferred (some []))) : (Instr.takeDeferred r).run P (wat W h d) = .ok [] (wat W (h.setIfInBounds r (.deferred none)) d) := by
  have e : (getObj r).run P (wat W h d) = .ok (.deferred (some [])) (wat W h d) := by
    simp only [getObj, Sem.run, show (wat W h d).heap[r]? = some (.deferred (some [])) from hr]
  have e2 : (setObj r (.deferred none)).run P (wat W h d) = .ok () (wat W (h.setIfInBounds r (.deferred none)) d) := by
    simp only [setObj, Sem.run, show (wat W h d).heap[r]? = some (.deferred (some [])) from hr]
    rfl
  simp only [Instr.takeDeferred, Sem.run_bind, e, Result.andThen, e2, Sem.run_pure]

theorem Dcd.take {X : Nat → Prop} {h : Hp} {r : Nat} : ∀ {ds : List Deferred} {v : Value}, (∀ d' ∈ ds, d'.target ≠ .collected r) → Dcd k0 X h ds v → Dcd k0 X (h.setIfInBounds r (.deferred none)) ds v
  | [], v, _, hd => hd
  | d0 :: ds, v, hn, hd => by
    rcases hd with ⟨r0, h1, h2, h3, h4, h5, h6⟩ | ⟨f, args, h1, h2, h3⟩
    · have hne : r0 ≠ r := fun e => hn d0 (by simp) (by rw [h1, e])
      exact .inl ⟨r0, h1, h2, h3, by rw [set_ne hne]; exact h4, h5, h6.take (fun d' hd' => hn d' (by simp [hd']))⟩
    · exact .inr ⟨f, args, h1, h2, h3.take (fun d' hd' => hn d' (by simp [hd']))⟩

section
variable {fn : Func} {tmps : Array Value} {R : Ending → Hp → Prop} {X0 : Nat → Prop} {h0 : Hp}
/-- A mark is met on the way out. -/
theorem leave_mark {X : Nat → Prop} {h : Hp} {d : Nat} {d0 : Deferred} {ds : List Deferred} {u : FrameMode} {v : Value} {Rw : Ending → World → Prop} {r : Nat} (hb : ∀ b, X0 b → b < h0.size) (vis : Vis X h s) (e : Ev X0 h0 X h) (hu : u ≠ .run)
    (h1 : d0 = { target := .collected r, args := #[] }) (h2 : h0.size ≤ r) (h3 : X r) (h4 : h[r]? = some (.deferred (some []))) (h5 : ∀ d' ∈ ds, d'.target ≠ .collected r) (h6 : Dcd (h0.size ≤ ·) X h ds v)
    (hk : ∀ h', Vis X h' s → Ev X0 h0 X h' → Dcd (h0.size ≤ ·) X h' ds v → LeavesInM Fence.wide 0 P fn tmps Rw ds u (wat W h' d)) : LeavesInM Fence.wide 0 P fn tmps Rw (d0 :: ds) u (wat W h d) := by
  refine ⟨hu, .inl ⟨r, _, by rw [h1], run_take h4, ?_⟩⟩
  refine hk _ (vis.swap h3 rfl) ⟨by simpa using e.size, e.sub, e.new, fun b hx => ?_⟩ (h6.take h5)
  have := hb b hx
  rw [set_ne (by omega)]; exact e.keep b hx

theorem leave_ret {t : Tm} (hb : ∀ b, X0 b → b < h0.size) (ha : ∀ i ∈ resSlots fn.results.toList, tmps.getD i undef = t i) : ∀ (ds : List Deferred) (X : Nat → Prop) (h : Hp) (d : Nat) (s : Hp), Vis X h s → Ev X0 h0 X h → Dcd (h0.size ≤ ·) X h ds undef →
    resL P fn.results.toList t (fun vs => R (.returned (one vs))) s → LeavesInM Fence.wide 0 P fn tmps (fun e w' => Now W X0 h0 (R e) w') ds .returning (wat W h d)
  | [], X, h, d, s, vis, e, hd, hr => by
    obtain ⟨v, h1, h2⟩ := results_run (W := W) (R := fun v => R (.returned v)) ha hr
    exact ⟨v, h2 X h d vis, X, h, d, s, rfl, vis, e, h1⟩
  | d0 :: ds, X, h, d, s, vis, e, hd, hr => by
    rcases hd with ⟨r0, h1, h2, h3, h4, h5, h6⟩ | ⟨f, args, h1, h2, h3⟩
    · exact leave_mark hb vis e (by simp) h1 h2 h3 h4 h5 h6 (fun h' v' e' d' => leave_ret hb ha ds X h' d s v' e' d' hr)
    · simp [undef] at h2
theorem leave_panic {c : List PanicEntry} (hb : ∀ b, X0 b → b < h0.size) : ∀ (ds : List Deferred) (X : Nat → Prop) (h : Hp) (d : Nat) (s : Hp), Vis X h s → Ev X0 h0 X h → Dcd (h0.size ≤ ·) X h ds undef →
    R (.panicked c) s → LeavesInM Fence.wide 0 P fn tmps (fun e w' => Now W X0 h0 (R e) w') ds (.panicking c) (wat W h d)
  | [], X, h, d, s, vis, e, hd, hr => ⟨X, h, d, s, rfl, vis, e, hr⟩
  | d0 :: ds, X, h, d, s, vis, e, hd, hr => by
    rcases hd with ⟨r0, h1, h2, h3, h4, h5, h6⟩ | ⟨f, args, h1, h2, h3⟩
    · exact leave_mark hb vis e (by simp) h1 h2 h3 h4 h5 h6 (fun h' v' e' d' => leave_panic hb ds X h' d s v' e' d' hr)
    · simp [undef] at h2
/-- The deferred call is made. -/
theorem leave_def {t : Tm} {c : Option (List PanicEntry)} {K : Hp → Prop} (hb : ∀ b, X0 b → b < h0.size) (hK : ∀ s, K s → (∀ i ∈ resSlots fn.results.toList, tmps.getD i undef = t i) ∧ resL P fn.results.toList t (fun vs => R (.returned (one vs))) s) : ∀ (ds : List Deferred) (X : Nat → Prop) (h : Hp) (d : Nat) (s : Hp) (f : FuncId) (args : Array Value), Vis X h s → Ev X0 h0 X h →
    Dcd (h0.size ≤ ·) X h ds (.tuple #[.func (.func f) #[] #[], .tuple args]) → DoesD P W f args.toList c s K →
    LeavesInM Fence.wide 0 P fn tmps (fun e w' => Now W X0 h0 (R e) w') ds (match c with | none => .returning | some c => .panicking c) (wat W h d)
  | [], X, h, d, s, f, args, vis, e, hd, hr => by simp [Dcd, undef] at hd
  | d0 :: ds, X, h, d, s, f, args, vis, e, hd, hr => by
    have hu : (match c with | none => FrameMode.returning | some c => .panicking c) ≠ .run := by cases c <;> simp
    rcases hd with ⟨r0, h1, h2, h3, h4, h5, h6⟩ | ⟨f', args', h1, h2, h3⟩
    · exact leave_mark hb vis e hu h1 h2 h3 h4 h5 h6 (fun h' v' e' d' => leave_def hb hK ds X h' d s f args v' e' d' hr)
    · have hf : f' = f ∧ args' = args := by
        simp at h2
        exact ⟨h2.1.symm, h2.2.symm⟩
      obtain ⟨rfl, rfl⟩ := hf
      subst h1
      refine ⟨hu, .inr ⟨fun hh => (by cases hh), .func f', #[], f', args', rfl, ?_, fun _ _ => trivial, ?_⟩⟩
      · have := run_invoke (P := P) (cap := #[]) (args := args') (w := wat W h d) hr.1
        simpa using this
      · refine CallsDIn.mono (hr.2 X h d vis) ?_
        rintro e2 u2 w2 ⟨⟨v, rfl⟩, hset, X2, h2, d2, s2, rfl, vis2, ev2, hk⟩
        show LeavesInM Fence.wide 0 P fn tmps _ ds (settle u2) _
        rw [hset]
        exact leave_ret hb (hK _ hk).1 ds X2 h2 d2 s2 vis2 (e.trans ev2) (h3.ev ev2) (hK _ hk).2
end

/-- What is looked at, of a function. -/
def okFn (P : Program) (f : FuncId) (fn : Func) (k : Nat) : Bool :=
  callable P f && codeOk fn.ntmps (bodyOf fn) && (resSlots fn.results.toList).all (fun i => !Nat.beq i fn.ntmps) && Nat.ble k fn.ntmps && fn.body.isSome

theorem start_get : ∀ (args : List Value) (k i : Nat), start args k i = if k ≤ i then args.getD (i - k) undef else undef
  | [], k, i => by simp [start]
  | v :: vs, k, i => by
    unfold start
    cases hb : Nat.beq i k with
    | true =>
      have := beq_iff.1 hb
      subst this
      simp
    | false =>
      have hne : i ≠ k := fun e => by rw [beq_iff.2 e] at hb; cases hb
      simp only []
      rw [start_get vs (k + 1) i]
      by_cases hk : k ≤ i
      · rw [if_pos (by omega), if_pos hk]
        obtain ⟨m, hm⟩ : ∃ m, i - k = m + 1 := ⟨i - k - 1, by omega⟩
        rw [hm]
        have : i - (k + 1) = m := by omega
        rw [this]
        simp [List.getD]
      · rw [if_neg (by omega), if_neg hk]

theorem DEF_elim {d : Value} {c : Option (List PanicEntry)} {K : Hp → Prop} (h : DEF P W d c K s) : ∃ f args, d = .tuple #[.func (.func f) #[] #[], .tuple args] ∧ DoesD P W f args.toList c s K := by
  unfold DEF at h
  split at h
  · rename_i f args
    exact ⟨f, args, rfl, h⟩
  · exact h.elim

theorem fin_ret {rv : List ResultVar} {R : Ending → Hp → Prop} {t : Tm} (h : fin P W n rv R .ret t s) : (t n = undef ∧ resL P rv t (fun vs => R (.returned (one vs))) s) ∨ DEF P W (t n) none (resL P rv t fun vs => R (.returned (one vs))) s := by
  unfold fin at h
  simp only at h
  cases hx : t n <;> simp only [hx] at h <;> first | exact .inr h | skip
  rename_i l
  obtain ⟨l⟩ := l
  cases l with
  | nil => exact .inl ⟨rfl, h⟩
  | cons x y => exact .inr h
theorem fin_panic {rv : List ResultVar} {R : Ending → Hp → Prop} {t : Tm} {c : List PanicEntry} (h : fin P W n rv R (.panic c) t s) : (t n = undef ∧ R (.panicked c) s) ∨ DEF P W (t n) (some c) (resL P rv t fun vs => R (.returned (one vs))) s := by
  unfold fin at h
  simp only at h
  cases hx : t n <;> simp only [hx] at h <;> first | exact .inr h | skip
  rename_i l
  obtain ⟨l⟩ := l
  cases l with
  | nil => exact .inl ⟨rfl, h⟩
  | cons x y => exact .inr h

theorem does_of_vfun (P : Program) (W : World) (an : Nat → Ann) {f : FuncId} {fn fn' : Func} (hf : P.funcs[f]? = some fn') (e : fn' = fn) {args : List Value} (hok : okFn P f fn args.length = true) {R : Ending → Hp → Prop} {s : Hp}
    (h : vfun P W an fn args R s) : Does P W f args.toArray s R := by
  subst e
  unfold okFn at hok
  simp only [Bool.and_eq_true] at hok
  obtain ⟨⟨⟨⟨h1, h2⟩, h3⟩, h4⟩, h5⟩ := hok
  obtain ⟨c, hc⟩ := Option.isSome_iff_exists.1 h5
  have hbo : bodyOf fn' = c := by unfold bodyOf; rw [hc]
  have hlen : args.length ≤ fn'.ntmps := Nat.le_of_ble_eq_true h4
  refine ⟨h1, fun X hp d v => ?_⟩
  refine (callsIn_wide (n := 0)).1 (callsIn_of_wp_marks hf hc trivial ?_)
  have rl : Rel fn'.ntmps (hp.size ≤ ·) X hp { tmps := args.toArray ++ Array.replicate (fn'.ntmps - args.toArray.size) undef, defers := [] } (start args 0) := by
    refine ⟨by simp; omega, fun i hi => ?_, ?_⟩
    · rw [start_get, if_pos (Nat.zero_le _)]
      show Array.getD (args.toArray ++ _) i undef = _
      rw [Array.getD_eq_getD_getElem?]
      by_cases hlt : i < args.length
      · rw [Array.getElem?_append_left (by simpa using hlt)]
        simp [List.getD]
      · rw [Array.getElem?_append_right (by simpa using hlt)]
        have : args.getD (i - 0) undef = undef := by simp [List.getD]; rw [List.getElem?_eq_none (by omega)]; rfl
        rw [this, Array.getElem?_replicate]
        split <;> rfl
    · show start args 0 fn'.ntmps = undef
      rw [start_get, if_pos (Nat.zero_le _)]
      simp [List.getD]
      rw [List.getElem?_eq_none (by omega)]; rfl
  have hlt : ∀ b, X b → b < hp.size := fun b hx => v.lt hx
  have hs := vc_sound (W := W) (rs := fn'.ntmps :: slotsOf fn'.results.toList) (an := an) c (by rw [← hbo]; exact h2) none 0 (fin P W fn'.ntmps fn'.results.toList R) (hp.size ≤ ·) (start args 0) s _ X hp d (fun _ _ h => h) v rl (by unfold vfun at h; rw [hbo] at h; exact h)
  refine wpIn_mono hs ?_
  have hret : ∀ (a' : Act) (X' : Nat → Prop) (h' : Hp) (d' : Nat) (s' : Hp) (t' : Tm), Vis X' h' s' → Ev X hp X' h' → Rel fn'.ntmps (hp.size ≤ ·) X' h' a' t' → fin P W fn'.ntmps fn'.results.toList R .ret t' s' →
      LeavesInM Fence.wide 0 P fn' a'.tmps (fun e w' => Now W X hp (R e) w') a'.defers .returning (wat W h' d') := by
    intro a' X' h' d' s' t' v' e' rl' hk
    have ha : ∀ i ∈ resSlots fn'.results.toList, a'.tmps.getD i undef = t' i := fun i hi => rl'.tmp i (fun e => by
      have := List.all_eq_true.1 h3 i hi
      rw [e] at this; simp at this)
    have hd := rl'.dfr
    rcases fin_ret hk with ⟨hn, hk⟩ | hk
    · rw [hn] at hd
      exact leave_ret hlt ha _ X' h' d' s' v' e' hd hk
    · obtain ⟨f, args, hn, hdd⟩ := DEF_elim hk
      rw [hn] at hd
      exact leave_def (c := none) hlt (fun s hs => ⟨ha, hs⟩) _ X' h' d' s' f args v' e' hd hdd
  intro e a' w' q
  cases e with
  | normal => obtain ⟨X', h', d', s', t', rfl, v', e', rl', hk⟩ := q; exact hret a' X' h' d' s' t' v' e' rl' hk
  | ret => obtain ⟨X', h', d', s', t', rfl, v', e', rl', hk⟩ := q; exact hret a' X' h' d' s' t' v' e' rl' hk
  | panic c =>
    obtain ⟨X', h', d', s', t', rfl, v', e', rl', hk⟩ := q
    have hprj : ∀ i ∈ (fn'.ntmps :: slotsOf fn'.results.toList), prj (fn'.ntmps :: slotsOf fn'.results.toList) t' i = t' i := by
      intro i hi
      have key : ∀ (is : List Nat) (t0 : Tm), i ∈ is → known is (is.map t') t0 i = t' i := by
        intro is
        induction is with
        | nil => intro t0 hm; simp at hm
        | cons j is ih =>
          intro t0 hm
          simp only [List.map_cons, known]
          cases hb : Nat.beq i j with
          | true => rw [beq_iff.1 hb]
          | false =>
            simp only []
            refine ih t0 ((List.mem_cons.1 hm).resolve_left (fun e => ?_))
            rw [beq_iff.2 e] at hb; cases hb
      exact key _ _ hi
    have hd := rl'.dfr
    have hp0 := hprj fn'.ntmps (by simp)
    show LeavesInM Fence.wide 0 P fn' a'.tmps _ a'.defers (.panicking c) _
    rcases fin_panic hk with ⟨hn, hk⟩ | hk
    · rw [hp0] at hn
      rw [hn] at hd
      exact leave_panic hlt _ X' h' d' s' v' e' hd hk
    · obtain ⟨f, args, hn, hdd⟩ := DEF_elim hk
      rw [hp0] at hn
      rw [hn] at hd
      refine leave_def (c := some c) (t := prj (fn'.ntmps :: slotsOf fn'.results.toList) t') hlt (fun s hs => ⟨fun i hi => ?_, hs⟩) _ X' h' d' s' f args v' e' hd hdd
      have hne : i ≠ fn'.ntmps := fun e => by
        have := List.all_eq_true.1 h3 i hi
        rw [e] at this; simp at this
      rw [hprj i (List.mem_cons_of_mem _ hi)]
      exact rl'.tmp i (List.mem_cons_of_mem _ hi) hne
  | exit id => obtain ⟨X', h', d', s', t', rfl, v', e', rl', hk⟩ := q; exact hk.elim
  | goto l => exact q.elim
  | outgrown => exact q.elim
end
end Go.V

/- The text of conditions is monotone in what lies behind. -/
set_option linter.unusedSimpArgs false
set_option linter.unusedVariables false
namespace Go.V
section
variable {P : Program} {W : World} {s : Hp}

theorem ty1_pure {k : Kd} {v : Value} {K : VK} (h : ty1 k v K s) : K v s ∧ ∀ (K' : VK) (s' : Hp), K' v s' → ty1 k v K' s' := by
  unfold ty1 at h ⊢
  cases k <;> simp only at h ⊢
  case i k => unfold TYI at h ⊢; cases v <;> first | exact h.elim | (obtain ⟨rfl, h⟩ := h; exact ⟨h, fun K' s' h' => ⟨rfl, h'⟩⟩)
  case b => unfold TYB at h ⊢; cases v <;> first | exact h.elim | exact ⟨h, fun K' s' h' => h'⟩
  case s => unfold TYS at h ⊢; cases v <;> first | exact h.elim | exact ⟨h, fun K' s' h' => h'⟩
  case p => unfold TYP at h ⊢; cases v <;> first | exact h.elim | exact ⟨h, fun K' s' h' => h'⟩
  case l => unfold TYL at h ⊢; cases v <;> first | exact h.elim | exact ⟨h, fun K' s' h' => h'⟩
  case m => unfold TYM at h ⊢; cases v <;> first | exact h.elim | exact ⟨h, fun K' s' h' => h'⟩
  case v => exact ⟨h, fun K' s' h' => h'⟩
theorem tyN_pure : ∀ (ks : List Kd) (l : List Value) (K : List Value → Hp → Prop), tyN ks l K s → K l s ∧ ∀ (K' : List Value → Hp → Prop) (s' : Hp), K' l s' → tyN ks l K' s'
  | [], l, K, h => by obtain ⟨rfl, h⟩ := NL_elim h; exact ⟨h, fun K' s' h' => h'⟩
  | k :: ks, l, K, h => by
    obtain ⟨x, r, rfl, h'⟩ := HD_elim h
    obtain ⟨h1, h2⟩ := ty1_pure h'
    obtain ⟨h3, h4⟩ := tyN_pure ks r _ h1
    exact ⟨h3, fun K' s' hk => h2 (fun v => tyN ks r fun vs => K' (v :: vs)) s' (h4 (fun vs => K' (x :: vs)) s' hk)⟩
theorem tyT_pure {t : TypeId} {v : Value} {K : VK} (h : tyT P t v K s) : K v s ∧ ∀ (K' : VK) (s' : Hp), K' v s' → tyT P t v K' s' := by
  unfold tyT at h ⊢
  cases hb : isAg P t with
  | false => simp only [hb] at h ⊢; exact ty1_pure h
  | true =>
    simp only [hb] at h ⊢
    unfold AGG at h ⊢
    cases v <;> first | exact h.elim | skip
    rename_i a
    obtain ⟨h1, h2⟩ := tyN_pure _ _ _ h
    exact ⟨by simpa using h1, fun K' s' h' => h2 _ s' (by simpa using h')⟩
theorem tyTs_pure : ∀ (ts : List TypeId) (l : List Value) (K : List Value → Hp → Prop), tyTs P ts l K s → K l s ∧ ∀ (K' : List Value → Hp → Prop) (s' : Hp), K' l s' → tyTs P ts l K' s'
  | [], l, K, h => by obtain ⟨rfl, h⟩ := NL_elim h; exact ⟨h, fun K' s' h' => h'⟩
  | t :: ts, l, K, h => by
    obtain ⟨x, r, rfl, h'⟩ := HD_elim h
    obtain ⟨h1, h2⟩ := tyT_pure h'
    obtain ⟨h3, h4⟩ := tyTs_pure ts r _ h1
    exact ⟨h3, fun K' s' hk => h2 (fun v => tyTs P ts r fun vs => K' (v :: vs)) s' (h4 (fun vs => K' (x :: vs)) s' hk)⟩
theorem tyR_pure {t : TypeId} {v : Value} {K : VK} (h : tyR P t v K s) : K v s ∧ ∀ (K' : VK) (s' : Hp), K' v s' → tyR P t v K' s' := by
  unfold tyR at h ⊢
  cases hu : P.underlying t with
  | none => simp only [hu] at h ⊢; exact tyT_pure h
  | some d =>
    simp only [hu] at h ⊢
    cases d <;> first | exact tyT_pure h | skip
    unfold TUP at h ⊢
    cases v <;> first | exact h.elim | skip
    obtain ⟨h1, h2⟩ := tyTs_pure _ _ _ h
    exact ⟨by simpa using h1, fun K' s' h' => h2 _ s' (by simpa using h')⟩

theorem CS_mono {ag : Bool} {v : Value} {n : Nat} {K K' : List Value → Hp → Prop} (hk : ∀ l s, K l s → K' l s) (h : CS ag v n K s) : CS ag v n K' s := by
  unfold CS at h ⊢
  cases ag with
  | true =>
    cases v <;> first | exact h.elim | skip
    rename_i c
    cases hb : Nat.beq c.toList.length n with
    | false => simp only [hb] at h; exact h.elim
    | true => simp only [hb] at h ⊢; exact hk _ _ h
  | false =>
    cases hb : Nat.beq n 1 with
    | false => simp only [hb] at h; exact h.elim
    | true =>
      simp only [hb] at h ⊢
      unfold ONE at h ⊢
      cases h1 : oneCell v with
      | false => simp only [h1] at h; exact h.elim
      | true => simp only [h1] at h ⊢; exact hk _ _ h
theorem wrN_mono : ∀ (vs : List Value) (a : Addr) (i : Nat) (K K' : Hp → Prop) (hk : ∀ s, K s → K' s) (s : Hp), wrN vs a i K s → wrN vs a i K' s
  | [], a, i, K, K', hk, s, h => hk s h
  | v :: vs, a, i, K, K', hk, s, h => ⟨h.1, wrN_mono vs a (i + 1) K K' hk _ h.2⟩
theorem SZ_mono {t : TypeId} {K K' : Nat → Hp → Prop} (hk : ∀ m s, K m s → K' m s) (h : SZ P t K s) : SZ P t K' s := by
  obtain ⟨m, h1, h2⟩ := SZ_pure h
  exact h2 _ _ (hk _ _ h1)
theorem ST_mono {t : TypeId} {p v : Value} {K K' : Hp → Prop} (hk : ∀ s, K s → K' s) (h : ST P t p v K s) : ST P t p v K' s := by
  unfold ST at h ⊢
  cases p <;> first | exact h.elim | skip
  obtain ⟨a, rfl, h'⟩ := SO_elim h
  exact SZ_mono (fun m s h => CS_mono (fun l s h => wrN_mono _ _ _ _ _ hk _ h) h) h'
theorem BLD_mono {place : Nat → Option (Nat × Nat × Bool)} {cs : List Value} {ps : List (Nat × Value)} {K K' : List Value → Hp → Prop} (hk : ∀ l s, K l s → K' l s) (h : BLD place cs ps K s) : BLD place cs ps K' s := by
  obtain ⟨ds, h1, h2⟩ := BLD_pure _ _ _ h
  exact h2 _ _ (hk _ _ h1)
theorem BSL_mono {t : TypeId} {len : Nat} {ps : List (Nat × Value)} {K K' : VK} (hk : ∀ v s, K v s → K' v s) (h : BSL P t len ps K s) : BSL P t len ps K' s := by
  unfold BSL at h ⊢
  cases hc : (isSl P t && hasZero P (elemT P t) && Nat.beq (zc P (elemT P t)).length (P.cellsOf (elemT P t)) && Nat.ble (len * P.cellsOf (elemT P t)) 1000) with
  | false => simp only [hc] at h; exact h.elim
  | true => simp only [hc] at h ⊢; exact BLD_mono (fun l s h => hk _ _ h) h
theorem mks_mono {t : TypeId} {l c : Value} {K K' : VK} (hk : ∀ v s, K v s → K' v s) (h : mks P t l c K s) : mks P t l c K' s := by
  unfold mks at h ⊢
  cases l <;> first | exact h.elim | skip
  cases c <;> first | exact h.elim | skip
  simp only at h ⊢
  cases hc : (isSl P t && hasZero P (elemT P t) && Nat.beq (zc P (elemT P t)).length (P.cellsOf (elemT P t)) && Nat.ble (P.bytesOf (elemT P t)) 1000) with
  | false => simp only [hc] at h; exact h.elim
  | true => simp only [hc] at h ⊢; exact ⟨h.1, hk _ _ h.2⟩
theorem SO_mono {α : Type} {o : Option α} {K K' : α → Hp → Prop} (hk : ∀ a s, K a s → K' a s) {s : Hp} (h : SO o K s) : SO o K' s := by
  cases o with
  | none => exact h.elim
  | some a => exact hk a s h
theorem slc_mono {t : TypeId} {x : Value} {lo hi : Option Value} {K K' : VK} (hk : ∀ v s, K v s → K' v s) (h : slc P t x lo hi K s) : slc P t x lo hi K' s := by
  unfold slc at h ⊢
  cases hu : P.underlying t with
  | none => simp only [hu] at h; exact h.elim
  | some d =>
    simp only [hu] at h ⊢
    cases d <;> first | exact h.elim | skip
    case slice e =>
      cases x <;> first | exact h.elim | skip
      refine SZ_mono (fun m s h => ?_) h
      cases lo with
      | none =>
        cases hi with
        | none => exact ⟨h.1, hk _ _ h.2⟩
        | some v => cases v <;> first | exact h.elim | exact ⟨h.1, hk _ _ h.2⟩
      | some u =>
        cases hi with
        | none => cases u <;> first | exact h.elim | exact ⟨h.1, hk _ _ h.2⟩
        | some v => cases u <;> cases v <;> first | exact h.elim | exact ⟨h.1, hk _ _ h.2⟩
    case array n e =>
      cases x <;> first | exact h.elim | skip
      simp only at h ⊢
      refine SO_mono (fun a s h => SZ_mono (fun m s h => ?_) h) h
      cases lo with
      | none =>
        cases hi with
        | none => exact ⟨h.1, hk _ _ h.2⟩
        | some v => cases v <;> first | exact h.elim | exact ⟨h.1, hk _ _ h.2⟩
      | some u =>
        cases hi with
        | none => cases u <;> first | exact h.elim | exact ⟨h.1, hk _ _ h.2⟩
        | some v => cases u <;> cases v <;> first | exact h.elim | exact ⟨h.1, hk _ _ h.2⟩
theorem fad_mono {t : TypeId} {x : Value} {j : Nat} {K K' : VK} (hk : ∀ v s, K v s → K' v s) (h : fad P t x j K s) : fad P t x j K' s := by
  unfold fad at h ⊢
  cases hu : P.underlying t with
  | none => simp only [hu] at h; exact h.elim
  | some d =>
    simp only [hu] at h ⊢
    cases d <;> first | exact h.elim | skip
    rename_i fs
    cases x <;> first | exact h.elim | skip
    obtain ⟨a, rfl, h'⟩ := SO_elim h
    show (match fs.toList[j]? with | some f => _ | none => FF) s
    cases hf : fs.toList[j]? with
    | none => simp only [hf] at h'; exact h'.elim
    | some f =>
      simp only [hf] at h' ⊢
      refine SZ_mono (fun m s h => ?_) h'
      cases hb : Nat.beq m 0 with
      | false => simp only [hb] at h ⊢; exact hk _ _ h
      | true =>
        simp only [hb] at h ⊢
        cases hc : (Nat.beq f.offset 0 && Nat.beq f.byteOffset 0) with
        | false => simp only [hc] at h; exact h.elim
        | true => simp only [hc] at h ⊢; exact ⟨h.1, hk _ _ h.2⟩
theorem fld_mono {t : TypeId} {x : Value} {j : Nat} {K K' : VK} (hk : ∀ v s, K v s → K' v s) (h : fld P t x j K s) : fld P t x j K' s := by
  unfold fld at h ⊢
  cases hu : P.underlying t with
  | none => simp only [hu] at h; exact h.elim
  | some d =>
    simp only [hu] at h ⊢
    cases d <;> first | exact h.elim | skip
    rename_i fs
    cases x <;> first | exact h.elim | skip
    rename_i c
    simp only at h ⊢
    cases hf : fs.toList[j]? with
    | none => simp only [hf] at h; exact h.elim
    | some f =>
      simp only [hf] at h ⊢
      cases hag : agO P f.type with
      | none => simp only [hag] at h; exact h.elim
      | some b =>
        cases b with
        | true => simp only [hag] at h ⊢; exact SZ_mono (fun m s h => hk _ _ h) h
        | false =>
          simp only [hag] at h ⊢
          cases hv : c.toList[f.offset]? with
          | none => simp only [hv] at h; exact h.elim
          | some v => simp only [hv] at h ⊢; exact hk _ _ h
theorem APP_mono {t : TypeId} {es : Nat} {x : Option Addr} {l c : Nat} {y : Option Addr} {m : Nat} {K K' : Option Addr → Nat → Nat → Hp → Prop} (hk : ∀ a l c s, K a l c s → K' a l c s) (h : APP P t es x l c y m K s) : APP P t es x l c y m K' s := by
  obtain ⟨h1, vs, h2, h3⟩ := h
  refine ⟨h1, vs, h2, ?_⟩
  split at h3
  · rename_i hc
    rw [if_pos hc]
    cases x with
    | none => exact hk _ _ _ _ h3
    | some a => exact wrN_mono _ _ _ _ _ (fun s h => hk _ _ _ _ h) _ h3
  · rename_i hc
    rw [if_neg hc]
    obtain ⟨ws, h4, h5⟩ := h3
    exact ⟨ws, h4, fun c' g1 g2 => hk _ _ _ _ (h5 c' g1 g2)⟩
theorem COPY_mono {es : Nat} {x : Option Addr} {l : Nat} {y : Option Addr} {m : Nat} {K K' : Int → Hp → Prop} (hk : ∀ n s, K n s → K' n s) (h : COPY es x l y m K s) : COPY es x l y m K' s := by
  obtain ⟨vs, h1, h2⟩ := h
  refine ⟨vs, h1, ?_⟩
  cases x with
  | none => exact hk _ _ h2
  | some a => exact wrN_mono _ _ _ _ _ (fun s h => hk _ _ h) _ h2
theorem bltin_mono {b : Builtin} {ts : List TypeId} {args : List Value} {K K' : VK} (hk : ∀ v s, K v s → K' v s) (h : bltin P b ts args K s) : bltin P b ts args K' s := by
  have hlen : ∀ {args : List Value}, bltin P .len ts args K s → bltin P .len ts args K' s := fun {args} h => by
    by_cases hm : ∀ k v, (ts[0]?).bind P.underlying ≠ some (.map k v)
    · obtain ⟨v, h1, h2⟩ := len_pure hm h
      exact h2 _ _ (hk _ _ h1)
    · obtain ⟨k, hm⟩ := Classical.not_forall.1 hm
      obtain ⟨v, hm⟩ := Classical.not_forall.1 hm
      have hm := Classical.not_not.1 hm
      unfold bltin at h ⊢
      cases args with
      | nil => exact h.elim
      | cons x r =>
        cases r with
        | cons y z => exact h.elim
        | nil =>
          simp only [hm] at h ⊢
          cases x <;> first | exact h.elim | skip
          rename_i m
          cases m with
          | none => exact hk _ _ h
          | some r =>
            obtain ⟨es, cl, h1, h2⟩ := h
            exact ⟨es, cl, h1, hk _ _ h2⟩
  by_cases hb : b = .len
  · subst hb; exact hlen h
  · unfold bltin at h ⊢
    split at h
    · exact absurd rfl hb
    · exact hk _ _ h
    · exact hk _ _ h
    · exact hk _ _ h
    · rename_i x l c y m c2
      cases h0 : (ts[0]?).bind P.underlying with
      | none => simp only [h0] at h; exact h.elim
      | some d =>
        simp only [h0] at h ⊢
        cases d <;> first | exact h.elim | skip
        rename_i e
        cases h1 : (ts[1]?).map (isSl P) with
        | none => simp only [h1] at h; exact h.elim
        | some bb =>
          simp only [h1] at h ⊢
          cases bb <;> first | exact h.elim | skip
          cases hb : (hasZero P e && Nat.beq (zc P e).length (P.cellsOf e) && Nat.ble (P.bytesOf e) 1000 && Nat.ble 1 (P.bytesOf e)) with
          | false => simp only [hb] at h; exact h.elim
          | true => simp only [hb] at h ⊢; exact APP_mono (fun a l c s h => hk _ _ h) h
    · rename_i x l c y m c2
      cases h0 : (ts[0]?).bind P.underlying with
      | none => simp only [h0] at h; exact h.elim
      | some d =>
        simp only [h0] at h ⊢
        cases d <;> first | exact h.elim | skip
        exact SZ_mono (fun m s h => COPY_mono (fun n s h => hk _ _ h) h) h
    · exact sp_mono P _ (fun v s h => ⟨h.1, hk _ _ h.2⟩) (fun v s h => h) _ h
    · rename_i x l c
      cases h0 : (ts[0]?).bind P.underlying with
      | none => simp only [h0] at h; exact h.elim
      | some d =>
        simp only [h0] at h ⊢
        cases d <;> first | exact h.elim | exact hk _ _ h
    · exact sp_mono P _ (fun v s h => ⟨h.1, hk _ _ h.2⟩) (fun v s h => h) _ h
    · exact SLV_mono (fun x l c s h => hk _ _ h) h
    · exact h.elim
theorem tas_mono {ty : TypeId} {ok : Bool} {x : Value} {K K' : VK} (hk : ∀ v s, K v s → K' v s) (h : tas P ty ok x K s) : tas P ty ok x K' s := by
  unfold tas at h ⊢
  cases hu : P.underlying ty with
  | none => simp only [hu] at h; exact h.elim
  | some d =>
    simp only [hu] at h ⊢
    cases d <;> simp only at h ⊢ <;> first | exact h.elim | skip
    all_goals
      cases x <;> first | exact h.elim | skip
      rename_i t v
      simp only at h ⊢
      cases hb : Nat.beq t ty <;> simp only [hb] at h ⊢
      · cases ok with
        | false => exact h.elim
        | true =>
          cases hz : (P.info? ty).bind (·.zero) with
          | none => simp only [hz] at h; exact h.elim
          | some z => simp only [hz] at h ⊢; exact hk _ _ h
      · exact hk _ _ h
theorem PAN_mono {x : Value} {E E' : List PanicEntry → Hp → Prop} (he : ∀ c s, E c s → E' c s) (h : PAN x E s) : PAN x E' s := by
  unfold PAN at h ⊢
  cases x <;> first | exact h.elim | exact he _ _ h

theorem RNM_mono {t : TypeId} {x : Value} {K K' : Nat → Hp → Prop} (hk : ∀ b s, K b s → K' b s) (h : RNM P t x K s) : RNM P t x K' s := by
  unfold RNM at h ⊢
  cases hu : P.underlying t with
  | none => simp only [hu] at h; exact h.elim
  | some d =>
    simp only [hu] at h ⊢
    cases d <;> first | exact h.elim | skip
    cases x <;> first | exact h.elim | skip
    rename_i m
    cases m with
    | none => exact h.elim
    | some m =>
      obtain ⟨es, cl, h1, h2⟩ := h
      exact ⟨es, cl, h1, hk _ _ h2⟩
theorem ixv_mono {t : TypeId} {x i : Value} {K K' : VK} (hk : ∀ v s, K v s → K' v s) (h : ixv P t x i K s) : ixv P t x i K' s := by
  unfold ixv at h ⊢
  cases hu : P.underlying t with
  | none => simp only [hu] at h; exact h.elim
  | some d =>
    simp only [hu] at h ⊢
    cases d <;> first | exact h.elim | skip
    case array l e =>
      cases x <;> first | exact h.elim | skip
      rename_i c
      cases i <;> first | exact h.elim | skip
      rename_i k n
      simp only at h ⊢
      cases hag : agO P e with
      | none => simp only [hag] at h; exact h.elim
      | some b =>
        cases b with
        | true => simp only [hag] at h; exact h.elim
        | false =>
          simp only [hag] at h ⊢
          refine SZ_mono (fun m s h => ?_) h
          cases hd : decide (0 ≤ n ∧ n < l) with
          | false => simp only [hd] at h; exact h.elim
          | true =>
            cases hc : c.toList[n.toNat * m]? with
            | none => simp only [hd, hc] at h; exact h.elim
            | some v => simp only [hd, hc] at h ⊢; exact hk _ _ h
    case string =>
      cases x <;> first | exact h.elim | skip
      cases i <;> first | exact h.elim | skip
      exact ⟨h.1, hk _ _ h.2⟩
theorem vop_mono {o : Oper} {t : Tm} {K K' : VK} {E E' : List PanicEntry → Hp → Prop} (hk : ∀ v s, K v s → K' v s) (he : ∀ c s, E c s → E' c s) (h : vop P W o t K E s) : vop P W o t K' E' s := by
  by_cases hq : quiet o = true ∧ fieldOk P o = true
  · obtain ⟨v, h1, h2⟩ := vop_val hq.1 hq.2 h
    exact h2 _ _ (hk _ _ h1)
  · have ty : ∀ {v s}, tyR P o.type v K s → tyR P o.type v K' s := fun {v s} h => by
      obtain ⟨h1, h2⟩ := tyR_pure h
      exact h2 _ _ (hk _ _ h1)
    obtain ⟨dst, op, type, pos, after, guard⟩ := o
    unfold vop at h ⊢
    simp only at h ⊢ ty
    cases op <;> (try simp only at h ⊢) <;> first | exact h.elim | exact hk _ _ h | exact absurd ⟨rfl, rfl⟩ hq | skip
    case alloc e =>
      cases hz : hasZero P e with
      | false => simp only [hz] at h; exact h.elim
      | true => simp only [hz] at h ⊢; exact hk _ _ h
    case box e x => exact SZ_mono (fun m s h => CS_mono (fun l s h => hk _ _ h) h) h
    case buildSlice ty len ps => exact BSL_mono hk h
    case store ty p x => exact ST_mono (fun s h => hk _ _ h) h
    case makeSlice ty l c => exact mks_mono hk h
    case fieldAddr ty x j => exact fad_mono hk h
    case slice ty x lo hi mx =>
      cases mx with
      | some m => exact SLV_mono (fun x l c s h => hk _ _ h) h
      | none => exact slc_mono hk h
    case field ty x j => exact fld_mono hk h
    case typeAssert x xt ty ok => exact tas_mono hk h
    case makeMap ty r =>
      cases r with
      | some r => exact h.elim
      | none => exact hk _ _ h
    case lookup t0 x i ok => exact sp_mono P _ (fun v s h => ty h) (fun v s h => h) _ h
    case mapUpdate ty m k x => exact sp_mono P _ (fun v s h => hk _ _ h) (fun v s h => h) _ h
    case insert ty m k x => exact sp_mono P _ (fun v s h => hk _ _ h) (fun v s h => h) _ h
    case range ty x => exact RNM_mono (fun b s h => hk _ _ h) h
    case next it b =>
      cases b with
      | true => exact h.elim
      | false => exact sp_mono P _ (fun v s h => h.elim (fun h => .inl ⟨h.1, hk _ _ h.2⟩) (fun ⟨k, x, h1, h2⟩ => .inr ⟨k, x, h1, hk _ _ h2⟩)) (fun v s h => h) _ h
    case entry it => exact sp_mono P _ (fun v s ⟨k, x, h1, h2⟩ => ⟨k, x, h1, hk _ _ h2⟩) (fun v s h => h) _ h
    case index ty x i => exact ixv_mono hk h
    case panic x => exact PAN_mono he h
    case call c =>
      obtain ⟨callee, args, argTypes⟩ := c
      cases callee with
      | value x =>
        cases x with
        | func f =>
          cases hx : isExt P f with
          | false => simp only [hx] at h ⊢; exact CALL_mono (fun v s h => ty h) he h
          | true => simp only [hx] at h ⊢; exact EXT_mono (fun v s h => ty h) h
        | tmp i => exact CALLV_mono (fun v s h => ty h) he h
        | const v => exact CALLV_mono (fun v s h => ty h) he h
        | global g => exact CALLV_mono (fun v s h => ty h) he h
      | invoke x m => exact INV_mono (fun v s h => ty h) he h
      | builtin b => exact bltin_mono hk h
end

section
variable {P : Program} {W : World} {n : Nat} {rs : List Nat} {an : Nat → Ann}
theorem BR_mono {b : Bool} {x y x' y' : Hp → Prop} (hx : ∀ s, x s → x' s) (hy : ∀ s, y s → y' s) : ∀ s, BR b x y s → BR b x' y' s := by
  intro s h
  cases b with
  | true => exact hx s h
  | false => exact hy s h
theorem grd_mono {d : Option Nat} {want : Bool} {t : Tm} {run skip run' skip' : Tm → Hp → Prop} (hr : ∀ t s, run t s → run' t s) (hs : ∀ t s, skip t s → skip' t s) {s : Hp} (h : grd n d want t run skip s) : grd n d want t run' skip' s := by
  unfold grd at h ⊢
  cases d with
  | none => exact hs _ _ h
  | some d =>
    simp only at h ⊢
    cases ht : t d <;> simp only [ht] at h ⊢ <;> first | exact h.elim | exact hs _ _ h | skip
    cases want
    · exact BR_mono (fun s h => hs _ _ h) (fun s h => hr _ _ h) s h
    · exact BR_mono (fun s h => hr _ _ h) (fun s h => hs _ _ h) s h
theorem vrun_mono {rd : Bool} {o : Oper} {K K' : Kt} (hk : ∀ e t s, K e t s → K' e t s) {rest rest' : Tm → Hp → Prop} (hr : ∀ t s, rest t s → rest' t s) {t : Tm} {s : Hp} (h : vrun P W n rs rd o K rest t s) : vrun P W n rs rd o K' rest' t s := by
  by_cases hdf : ∃ c, o.op = .defer c
  · unfold vrun at h ⊢
    obtain ⟨⟨callee, args, ats⟩, hop⟩ := hdf
    simp only [hop] at h ⊢
    cases callee <;> first | exact h.elim | skip
    rename_i x
    cases x <;> first | exact h.elim | skip
    cases rd <;> first | exact h.elim | skip
    simp only at h ⊢
    cases ht : t n <;> simp only [ht] at h ⊢ <;> first | exact h.elim | skip
    rename_i l
    obtain ⟨l⟩ := l
    cases l with
    | nil => exact hr _ _ h
    | cons x y => exact h.elim
  · have hnd : ∀ c, o.op ≠ .defer c := fun c hc => hdf ⟨c, hc⟩
    have e : ∀ (K : Kt) (rest : Tm → Hp → Prop), vrun P W n rs rd o K rest t = vop P W o t (fun v => rest (updo n o.dst v t)) (fun c => K (.panic c) (prj rs t)) := by
      intro K rest
      unfold vrun
      cases hop : o.op <;> first | rfl | exact absurd hop (hnd _)
    rw [e] at h ⊢
    exact vop_mono (fun v s h => hr _ _ h) (fun c s h => hk _ _ _ h) h
theorem vops_mono {rd : Bool} {ops : List Oper} {K K' : Kt} (hk : ∀ e t s, K e t s → K' e t s) : ∀ (l : List Oper) (t : Tm) (s : Hp), vops P W n rs rd ops K l t s → vops P W n rs rd ops K' l t s
  | [], t, s, h => hk _ _ _ h
  | o :: l, t, s, h => by
    have ih := vops_mono (rd := rd) (ops := ops) hk l
    unfold vops at h ⊢
    cases hg : o.guard with
    | none => simp only [hg] at h ⊢; exact vrun_mono hk ih h
    | some jw =>
      obtain ⟨j, w⟩ := jw
      simp only [hg] at h ⊢
      exact grd_mono (fun t s h => vrun_mono hk ih h) (fun t s h => ih _ _ h) h
theorem sames_mono {ops : List Oper} {m : Nat} {t : Tm} {K K' : Hp → Prop} (hk : ∀ s, K s → K' s) : ∀ (L : List Nat) (s : Hp), sames P W n ops m t L K s → sames P W n ops m t L K' s
  | [], s, h => hk s h
  | q :: L, s, h => by
    have ih := sames_mono (ops := ops) (m := m) (t := t) hk L
    unfold sames at h ⊢
    cases ho : ops[q]? with
    | none => simp only [ho] at h ⊢; exact ih _ h
    | some o =>
      simp only [ho] at h ⊢
      cases hb : (isLoad o && !bit m q) with
      | false => simp only [hb] at h ⊢; exact ih _ h
      | true =>
        cases hd : o.dst with
        | none => simp only [hb, hd] at h ⊢; exact ih _ h
        | some d =>
          simp only [hb, hd] at h ⊢
          cases hg : o.guard with
          | none => simp only [hg] at h ⊢; exact ⟨h.1, ih _ h.2⟩
          | some jw => simp only [hg] at h ⊢; exact ⟨h.1, ih _ h.2⟩
theorem CONJ_map {α : Type} {f g : α → Hp → Prop} : ∀ (l : List α), (∀ x ∈ l, ∀ s, f x s → g x s) → ∀ s, CONJ (l.map f) s → CONJ (l.map g) s
  | [], _, s, h => h
  | [x], hl, s, h => hl x (by simp) s h
  | x :: y :: l, hl, s, h => ⟨hl x (by simp) s h.1, CONJ_map (y :: l) (fun z hz => hl z (by simp [hz])) s h.2⟩
theorem dops_mono {ops : List Oper} {ms : List Nat} {K K' : Kt} (hk : ∀ e t s, K e t s → K' e t s) : ∀ (f : Nat) (L : List Nat) (t : Tm) (s : Hp), dops P W n rs ops ms K f L t s → dops P W n rs ops ms K' f L t s
  | 0, L, t, s, h => h
  | f + 1, L, t, s, h => by
    have ih := dops_mono (ops := ops) (ms := ms) hk f
    unfold dops at h ⊢
    cases hq : findQ L ops 0 with
    | some io =>
      obtain ⟨i, o⟩ := io
      simp only [hq] at h ⊢
      cases hg : o.guard with
      | none => simp only [hg] at h ⊢; exact vop_mono (fun v s h => ih _ _ _ h) (fun c s h => h) h
      | some jw =>
        obtain ⟨j, w⟩ := jw
        simp only [hg] at h ⊢
        exact grd_mono (fun t s h => vop_mono (fun v s h => ih _ _ _ h) (fun c s h => h) h) (fun t s h => ih _ _ _ h) h
    | none =>
      simp only [hq] at h ⊢
      cases he : findE L ops 0 with
      | nil => simp only [he] at h ⊢; exact hk _ _ _ h
      | cons e es =>
        simp only [he] at h ⊢
        refine CONJ_map _ (fun io _ s h => ?_) s h
        obtain ⟨i, o⟩ := io
        simp only at h ⊢
        cases hg : o.guard with
        | none => simp only [hg] at h ⊢; exact vop_mono (fun v s h => sames_mono (fun s h => ih _ _ _ h) _ _ h) (fun c s h => hk _ _ _ h) h
        | some jw =>
          obtain ⟨j, w⟩ := jw
          simp only [hg] at h ⊢
          exact grd_mono (fun t s h => vop_mono (fun v s h => sames_mono (fun s h => ih _ _ _ h) _ _ h) (fun c s h => hk _ _ _ h) h) (fun t s h => ih _ _ _ h) h

theorem KSeq_mono {y y' : Tm → Hp → Prop} {K K' : Kt} (hy : ∀ t s, y t s → y' t s) (hk : ∀ e t s, K e t s → K' e t s) : ∀ e t s, KSeq y K e t s → KSeq y' K' e t s := by
  intro e t s h
  cases e <;> first | exact hy _ _ h | exact hk _ _ _ h
theorem KBlk_mono {id : Nat} {K K' : Kt} (hk : ∀ e t s, K e t s → K' e t s) : ∀ e t s, KBlk id K e t s → KBlk id K' e t s := by
  intro e t s h
  cases e <;> first | exact hk _ _ _ h | skip
  rename_i j
  simp only [KBlk] at h ⊢
  cases hb : Nat.beq j id <;> simp only [hb] at h ⊢ <;> exact hk _ _ _ h
theorem KLoop_K {ms us : List Nat} {zs : List Value} {nx : List Value → Hp → Prop} {K K' : Kt} (hk : ∀ e t s, K e t s → K' e t s) : ∀ e t s, KLoop ms us zs nx K e t s → KLoop ms us zs nx K' e t s := by
  intro e t s h
  cases e <;> first | exact h | exact hk _ _ _ h
theorem ALLK_mono : ∀ (ks : List Kd) (F G : List Value → Prop), (∀ vs, F vs → G vs) → ALLK ks F → ALLK ks G
  | [], F, G, h, a => h _ a
  | k :: ks, F, G, h, a => by
    cases k with
    | l => exact fun x l c => ALLK_mono ks _ _ (fun vs h' => h _ h') (a x l c)
    | _ => exact fun x => ALLK_mono ks _ _ (fun vs h' => h _ h') (a x)
theorem vc_mono : ∀ {rd : Bool} {c : Code} {b : Nat} {K K' : Kt}, (∀ e t s, K e t s → K' e t s) → ∀ t s, vc P W n rs an rd c b K t s → vc P W n rs an rd c b K' t s := by
  intro rd c
  induction c generalizing rd with
  | skip => exact fun h t s hv => h _ _ _ hv
  | label => exact fun h t s hv => h _ _ _ hv
  | ret => exact fun h t s hv => h _ _ _ hv
  | exit => exact fun h t s hv => h _ _ _ hv
  | goto => exact fun h t s hv => hv
  | refuse => exact fun h t s hv => hv
  | region id ops draws =>
    intro b K K' h t s hv
    cases draws with
    | false => exact vops_mono h _ _ _ hv
    | true =>
      unfold vc at hv ⊢
      cases hd : drOk P rs ops.toList with
      | false => simp only [hd] at hv; exact hv.elim
      | true => simp only [hd] at hv ⊢; exact dops_mono h _ _ _ _ hv
  | seq x y ihx ihy => exact fun h t s hv => ihx (KSeq_mono (fun t s h' => ihy h _ _ h') h) _ _ hv
  | cond c x y ihx ihy =>
    intro b K K' h t s hv
    unfold vc at hv ⊢
    cases hb : ev t c <;> simp only [hb] at hv ⊢ <;> first | exact hv.elim | skip
    exact BR_mono (fun s h' => ihx h _ _ h') (fun s h' => ihy h _ _ h') s hv
  | block id c ih => exact fun h t s hv => ih (KBlk_mono h) _ _ hv
  | loop c ih =>
    intro b K K' h t s hv
    unfold vc at hv ⊢
    obtain ⟨I, μ, h0, hB⟩ := hv
    refine ⟨I, μ, h0, ALLK_mono _ _ _ (fun ys hy s hI j => ?_) hB⟩
    exact ih (KLoop_K h) _ _ (hy s hI j)
  | scope c ih => exact fun h t s hv => ih h _ _ hv
  | rangeFunc f ps x y ihx ihy =>
    intro b K K' h t s hv
    unfold vc at hv ⊢
    cases rd with
    | true => exact hv
    | false =>
      obtain ⟨xs, R, I, S, g1, g2, g3, g4, g5, g6, g7, g8⟩ := hv
      refine ⟨xs, R, I, S, g1, g2, g3, g4, g5, g6, fun s hs => h _ _ _ (g7 s hs), fun c s hs => ?_⟩
      have := g8 c s hs
      simp only [AFT] at this ⊢
      cases c <;> first | exact this | skip
      case ret =>
        cases hrt : (an b).rt with
        | true => simp only [hrt] at this ⊢; exact h _ _ _ this
        | false => simp only [hrt] at this; exact this.elim
      case exit id =>
        have hex : ∀ (l : List Nat) (s : Hp), EXL l (fun id => K (.exit id) t) id s → EXL l (fun id => K' (.exit id) t) id s := by
          intro l
          induction l with
          | nil => exact fun s h => h
          | cons j l ih =>
            intro s h'
            unfold EXL at h' ⊢
            cases hb : Nat.beq id j with
            | true => simp only [hb] at h' ⊢; exact h _ _ _ h'
            | false => simp only [hb] at h' ⊢; exact ih s h'
        exact hex _ _ this
end
end Go.V

/- What the printed functions import. -/
namespace Go.V
theorem KLoop_mono {ms us : List Nat} {zs : List Value} {nx nx' : List Value → Hp → Prop} {K : Kt} (h : ∀ vs s, nx vs s → nx' vs s) : ∀ e t s, KLoop ms us zs nx K e t s → KLoop ms us zs nx' K e t s := by
  intro e t s hk
  cases e <;> first | exact hk | exact ⟨hk.1, h _ _ hk.2⟩
end Go.V

/- The visible heap: what goes on, own cells, what tactics do. -/
set_option linter.unusedSimpArgs false
set_option linter.unusedVariables false
namespace Go.V
section
variable {s s' s'' t : Hp} {a b : Addr} {v w : Value} {o : Obj}

theorem Ext.refl (s : Hp) : Ext s s := ⟨Nat.le_refl _, fun _ _ => rfl⟩
theorem Ext.trans (h : Ext s s') (k : Ext s' s'') : Ext s s'' := ⟨Nat.le_trans h.1 k.1, fun b hb => (k.2 b (Nat.lt_of_lt_of_le hb h.1)).trans (h.2 b hb)⟩
theorem Ext.push (h : Ext s s') : Ext s (s'.push o) := ⟨by simp; exact Nat.le_succ_of_le h.1, fun b hb => by
  rw [Array.getElem?_push, if_neg (by have := h.1; omega)]; exact h.2 b hb⟩
theorem Ext.setC (h : Ext s s') (hb : s.size ≤ a.block) : Ext s (setC s' a v) := ⟨by rw [setC_size]; exact h.1, fun b hlt => by
  rw [setC_get _ _ _ (by omega)]; exact h.2 b hlt⟩
theorem cell_lt (h : cellAt s a = some v) : a.block < s.size := by
  obtain ⟨c, t, f, hb⟩ := block_of_cell h
  exact (Array.getElem?_eq_some_iff.1 hb).1
theorem cell_of_block (h : s'[a.block]? = s[a.block]?) : cellAt s' a = cellAt s a := by unfold cellAt; rw [h]
theorem frozen_of_block (h : s'[a.block]? = s[a.block]?) : frozenAt s' a = frozenAt s a := by unfold frozenAt; rw [h]
theorem Ext.cell (e : Ext s s') (h : cellAt s a = some v) : cellAt s' a = some v := by rw [cell_of_block (e.2 _ (cell_lt h))]; exact h

/-- A cell that may be written. -/
def Own (s : Hp) (a : Addr) (v : Value) : Prop := cellAt s a = some v ∧ frozenAt s a = false
theorem Own.cell (h : Own s a v) : cellAt s a = some v := h.1
theorem Own.lt (h : Own s a v) : a.block < s.size := cell_lt h.1
theorem Ext.own (e : Ext s s') (h : Own s a v) : Own s' a v := ⟨e.cell h.1, by rw [frozen_of_block (e.2 _ h.lt)]; exact h.2⟩
theorem cell_push (h : cellAt s a = some v) : cellAt (s.push o) a = some v := ((Ext.refl s).push (o := o)).cell h
theorem own_push (h : Own s a v) : Own (s.push o) a v := ((Ext.refl s).push (o := o)).own h
theorem own_new {cs : List Value} {ty : TypeId} {i : Nat} (h : cs[i]? = some v) : Own (s.push (.cells cs.toArray ty (0, 0))) ⟨s.size, i, none⟩ v := by
  have hb : (s.push (.cells cs.toArray ty (0, 0)))[s.size]? = some (.cells cs.toArray ty (0, 0)) := by rw [Array.getElem?_push, if_pos rfl]
  refine ⟨?_, ?_⟩
  · unfold cellAt; simp only [hb]; simpa using h
  · unfold frozenAt; simp only [hb]; simp
theorem cell_new {cs : List Value} {ty : TypeId} {i : Nat} (h : cs[i]? = some v) : cellAt (s.push (.cells cs.toArray ty (0, 0))) ⟨s.size, i, none⟩ = some v := (own_new h).1
theorem setC_block {c : Array Value} {t : TypeId} {f : Nat × Nat} (h : s[a.block]? = some (.cells c t f)) (hs : a.spot = none) : (setC s a v)[a.block]? = some (.cells (c.setIfInBounds a.off v) t f) := by
  unfold Go.V.setC
  rw [Array.getElem?_modify, if_pos rfl, h]
  simp [hs]
theorem cell_spot (h : cellAt s a = some v) : a.spot = none := by
  obtain ⟨c, t, f, hb⟩ := block_of_cell h
  unfold cellAt at h
  simp only [hb] at h
  cases hs : a.spot with
  | none => rfl
  | some x => simp [hs] at h
theorem own_set (h : Own s a w) : Own (setC s a v) a v := by
  obtain ⟨c, t, f, hb⟩ := block_of_cell h.1
  have hs := cell_spot h.1
  have h2 := setC_block (v := v) hb hs
  have h1 := h.1
  unfold cellAt at h1
  simp only [hb, hs, Option.isSome_none, Bool.false_eq_true, if_false] at h1
  have hlt : a.off < c.size := (Array.getElem?_eq_some_iff.1 h1).1
  refine ⟨?_, ?_⟩
  · unfold cellAt
    simp only [h2, hs, Option.isSome_none, Bool.false_eq_true, if_false]
    simp [hlt]
  · have := h.2
    unfold frozenAt at this ⊢
    simp only [hb] at this
    simp only [h2]
    exact this
theorem cell_set_ne (hne : b.block ≠ a.block ∨ b.off ≠ a.off) (h : cellAt s b = some v) : cellAt (setC s a w) b = some v := by
  by_cases hb : b.block = a.block
  · have ho := hne.resolve_left (fun h => h hb)
    obtain ⟨c, t, f, hblk⟩ := block_of_cell h
    have hs := cell_spot h
    have h1 := h
    unfold cellAt at h1 ⊢
    simp only [hblk, hs, Option.isSome_none, Bool.false_eq_true, if_false] at h1
    unfold Go.V.setC
    rw [Array.getElem?_modify, if_pos hb.symm, hblk]
    simp only [Option.map_some, hs, Option.isSome_none, Bool.false_eq_true, if_false]
    cases a.spot with
    | none => simp only [Option.isSome_none, Bool.false_eq_true, if_false]; rw [Array.getElem?_setIfInBounds_ne (fun e => ho e.symm)]; exact h1
    | some x => simpa using h1
  · rw [cell_of_block (setC_get _ _ _ hb)]; exact h
theorem own_set_ne (hne : b.block ≠ a.block ∨ b.off ≠ a.off) (h : Own s b v) : Own (setC s a w) b v := by
  refine ⟨cell_set_ne hne h.1, ?_⟩
  by_cases hb : b.block = a.block
  · have hf := h.2
    obtain ⟨c, t, f, hblk⟩ := block_of_cell h.1
    unfold frozenAt at hf ⊢
    unfold Go.V.setC
    rw [Array.getElem?_modify, if_pos hb.symm, hblk]
    simp only [hblk] at hf
    simpa using hf
  · rw [frozen_of_block (setC_get _ _ _ hb)]; exact h.2

/-! ### Rules of nodes -/
theorem BR_dec {p : Prop} [Decidable p] {x y : Hp → Prop} (h1 : p → x s) (h2 : ¬ p → y s) : BR (decide p) x y s := by
  by_cases hp : p
  · rw [decide_eq_true hp]; exact h1 hp
  · rw [decide_eq_false hp]; exact h2 hp
theorem BR_bool {c : Bool} {x y : Hp → Prop} (h1 : c = true → x s) (h2 : c = false → y s) : BR c x y s := by
  cases c with
  | true => exact h1 rfl
  | false => exact h2 rfl
theorem BR_not {c : Bool} {x y : Hp → Prop} (h1 : c = false → x s) (h2 : c = true → y s) : BR (!c) x y s := by
  cases c with
  | true => exact h2 rfl
  | false => exact h1 rfl
theorem BR_eq {α : Type} [BEq α] [LawfulBEq α] {a b : α} {x y : Hp → Prop} (h1 : a = b → x s) (h2 : a ≠ b → y s) : BR (a == b) x y s :=
  BR_bool (fun h => h1 (by simpa using h)) (fun h => h2 (by simpa using h))
theorem BR_ne {α : Type} [BEq α] [LawfulBEq α] {a b : α} {x y : Hp → Prop} (h1 : a ≠ b → x s) (h2 : a = b → y s) : BR (a != b) x y s :=
  BR_bool (fun h => h1 (by simpa using h)) (fun h => h2 (by simpa using h))
theorem WR_own {x : Value} {K : Hp → Prop} (h : Own s a x) (h1 : oneCell v = true) (hk : K (setC s a v)) : WR a v K s := ⟨⟨h1, ⟨_, h.1⟩, h.2⟩, hk⟩
theorem CALL_of {P : Program} {W : World} {f : FuncId} {args : List Value} {K : VK} {E : List PanicEntry → Hp → Prop} (h : Does P W f args.toArray s (endK K E)) : CALL P W f args K E s := h
theorem CALLV_func {P : Program} {W : World} {f : FuncId} {args : List Value} {cap : Array Value} {K : VK} {E : List PanicEntry → Hp → Prop} (h : CALL P W f (args ++ cap.toList) K E s) : CALLV P W (.func (.func f) #[] cap) args K E s := by
  show Does P W f (#[] ++ args.toArray ++ cap) s _
  have e : (#[] ++ args.toArray ++ cap : Array Value) = (args ++ cap.toList).toArray := Array.ext' (by simp)
  rw [e]; exact h
end

theorem wrap_id {k : IntKind} {n : Int} (h0 : k.min ≤ n) (h1 : n ≤ k.max) : k.wrap n = n := by
  cases k <;> simp [IntKind.min, IntKind.max, IntKind.bits, IntKind.signed] at h0 h1 <;> simp [IntKind.wrap, IntKind.bits, IntKind.signed] <;> (try split) <;> omega
theorem wrap_i64 {n : Int} (h0 : -9223372036854775808 ≤ n) (h1 : n ≤ 9223372036854775807) : IntKind.i64.wrap n = n := wrap64_id h0 h1
theorem wrap_u64 {n : Int} (h0 : 0 ≤ n) (h1 : n ≤ 18446744073709551615) : IntKind.u64.wrap n = n := by
  simp [IntKind.wrap, IntKind.bits, IntKind.signed]; omega

/-! ### A function that recovers -/
section
variable {P : Program} {W : World} {s : Hp}
theorem rel_start {n : Nat} {k0 : Nat → Prop} {X : Nat → Prop} {h : Hp} {args : List Value} (hlen : args.length ≤ n) : Rel n k0 X h { tmps := args.toArray ++ Array.replicate (n - args.toArray.size) undef, defers := [] } (start args 0) := by
  refine ⟨by simp; omega, fun i hi => ?_, ?_⟩
  · rw [start_get, if_pos (Nat.zero_le _)]
    show Array.getD (args.toArray ++ _) i undef = _
    rw [Array.getD_eq_getD_getElem?]
    by_cases hlt : i < args.length
    · rw [Array.getElem?_append_left (by simpa using hlt)]
      simp [List.getD]
    · rw [Array.getElem?_append_right (by simpa using hlt)]
      have : args.getD (i - 0) undef = undef := by simp [List.getD]; rw [List.getElem?_eq_none (by omega)]; rfl
      rw [this, Array.getElem?_replicate]
      split <;> rfl
  · show start args 0 n = undef
    rw [start_get, if_pos (Nat.zero_le _)]
    simp [List.getD]
    rw [List.getElem?_eq_none (by omega)]; rfl
/-- How the text of the rest of such a function is gone on with. -/
def Kdone (n : Nat) (K : Hp → Prop) : Kt := fun e t => match e with | .normal | .ret => fun s => t n = undef ∧ K s | _ => FF
theorem Dcd_none {X : Nat → Prop} {h : Hp} : ∀ {ds : List Deferred}, Dcd (fun _ => False) X h ds undef → ds = []
  | [], _ => rfl
  | d :: ds, hd => by
    rcases hd with ⟨r, _, h2, _⟩ | ⟨f, args, _, h2, _⟩
    · exact h2.elim
    · simp [undef] at h2
theorem told_ok {f : FuncId} {fn : Func} {id : Nat} {d : Nat} {ty : TypeId} {pos : String} {c : Code} {an : Nat → Ann} {args : List Value} {K : Hp → Prop} {rec : Option (List PanicEntry)} {v : Value}
    (hf : P.funcs[f]? = some fn) (hc : callable P f = true) (hb : fn.body = some (.seq (.region id #[{ dst := some d, op := .call { callee := .builtin .recover, args := #[], argTypes := #[] }, type := ty, pos := pos, after := #[], guard := none }] false) c))
    (hok : codeOk fn.ntmps c = true) (hnr : hasR c = false) (hres : fn.results = #[]) (hlen : args.length ≤ fn.ntmps)
    (hrec : (rec = none ∧ v = .nilIface) ∨ (rec = some [{ v := v, recovered := false }]))
    (h : vc P W fn.ntmps [fn.ntmps] an false c 0 (Kdone fn.ntmps K) (updo fn.ntmps (some d) v (start args 0)) s) : DoesD P W f args rec s K := by
  refine ⟨hc, fun X hp dr vis => ?_⟩
  refine callsDIn_of_wpSIn hf hb trivial ?_
  intro c₀ cs hmode
  refine wpSIn_seq (wpSIn_region ?_)
  have hfin : ∀ u', settle u' = .returning →
      c.wpSIn Fence.wide 0 P (bodyPostS P fn c₀ cs fun e u w' => (∃ v, e = .returned v) ∧ settle u = .returning ∧ Now W X hp K w') (({ tmps := args.toArray ++ Array.replicate (fn.ntmps - args.toArray.size) undef, defers := [] } : Act).put (some d) v) ({ c₀ with mode := u' } :: cs) (wat W hp dr) := by
    intro u' hset
    refine wpSIn_of_wpIn rfl ?_
    have hs := vc_sound (W := W) (rs := [fn.ntmps]) (an := an) c hok none 0 (Kdone fn.ntmps K) (fun _ => False) _ s _ X hp dr (fun hh => by rw [hnr] at hh; cases hh) vis ((rel_start hlen).put (some d) v) h
    refine wpIn_mono hs ?_
    have hdone : ∀ (a' : Act) (X' : Nat → Prop) (h' : Hp) (d' : Nat) (s' : Hp) (t' : Tm), Vis X' h' s' → Ev X hp X' h' → Rel fn.ntmps (fun _ => False) X' h' a' t' → (t' fn.ntmps = undef ∧ K s') →
        a'.defers = [] ∧ ∃ u'', ({ c₀ with mode := u' } :: cs : List Frame) = { c₀ with mode := u'' } :: cs ∧ ∃ v, (results fn a'.tmps).run P (wat W h' d') = .ok v (wat W h' d') ∧ (∃ v', Ending.returned v = .returned v') ∧ settle u'' = .returning ∧ Now W X hp K (wat W h' d') := by
      intro a' X' h' d' s' t' v' e' rl' hk
      have hd := rl'.dfr
      rw [hk.1] at hd
      obtain ⟨vr, _, hrun⟩ := results_run (P := P) (W := W) (s := s') (fn := fn) (tmps := a'.tmps) (t := t') (R := fun _ _ => True) (by rw [hres]; intro i hi; simp [slotsOf] at hi) (by rw [hres]; trivial)
      exact ⟨Dcd_none hd, u', rfl, vr, hrun X' h' d' v', ⟨_, rfl⟩, hset, X', h', d', s', rfl, v', e', hk.2⟩
    intro e a' w' q
    cases e with
    | normal => obtain ⟨X', h', d', s', t', rfl, v', e', rl', hk⟩ := q; exact hdone a' X' h' d' s' t' v' e' rl' hk
    | ret => obtain ⟨X', h', d', s', t', rfl, v', e', rl', hk⟩ := q; exact hdone a' X' h' d' s' t' v' e' rl' hk
    | panic c => obtain ⟨X', h', d', s', t', rfl, v', e', rl', hk⟩ := q; exact hk.elim
    | exit id => obtain ⟨X', h', d', s', t', rfl, v', e', rl', hk⟩ := q; exact hk.elim
    | goto l => exact q.elim
    | outgrown => exact q.elim
  have hr : List.range (#[({ dst := some d, op := .call { callee := .builtin .recover, args := #[], argTypes := #[] }, type := ty, pos := pos, after := #[], guard := none } : Oper)]).size = [0] := rfl
  rw [hr]
  refine ⟨fun _ _ => trivial, ?_⟩
  show (match recoverD (c₀ :: cs) with
    | some (v, cs') => _
    | none => _)
  rcases hrec with ⟨rfl, rfl⟩ | rfl
  · have e1 : recoverD (c₀ :: cs) = none := by simp only [recoverD, hmode]
    rw [e1]
    have e2 : ({ c₀ with mode := .returning } : Frame) = c₀ := by
      have : c₀.mode = .returning := hmode
      rw [← this]
    have := hfin .returning rfl
    rw [e2] at this
    exact this
  · have e1 : recoverD (c₀ :: cs) = some (v, { c₀ with mode := .panicking [{ v := v, recovered := true }] } :: cs) := by simp only [recoverD, hmode]
    rw [e1]
    exact hfin _ rfl
end
end Go.V

/- Tactics over the visible heap. -/
set_option linter.unusedSimpArgs false
set_option linter.unusedVariables false
namespace Go.V
theorem ext_size {s s' : Hp} (h : Ext s s') : s.size ≤ s'.size := h.1
theorem own_cell {s : Hp} {a : Addr} {v : Value} (h : Own s a v) : cellAt s a = some v := h.1

theorem endK_ret {K : VK} {E : List PanicEntry → Hp → Prop} {v : Value} {s : Hp} (h : K v s) : endK K E (.returned v) s := h
theorem endK_pan {K : VK} {E : List PanicEntry → Hp → Prop} {c : List PanicEntry} {s : Hp} (h : E c s) : endK K E (.panicked c) s := h
end Go.V
namespace Go.V
section
variable {s : Hp}
theorem TUP_mk (l : List Value) (K : List Value → Hp → Prop) : TUP (.tuple l.toArray) K = K l := rfl
theorem AGG_mk (l : List Value) (K : List Value → Hp → Prop) : AGG (.agg l.toArray) K = K l := rfl
theorem HD_mk {α : Type} (x : α) (r : List α) (K : α → List α → Hp → Prop) : HD (x :: r) K = K x r := rfl
theorem NL_mk {α : Type} (K : Hp → Prop) : NL ([] : List α) K = K := rfl
theorem TYI_mk (k : IntKind) (n : Int) (K : Int → Hp → Prop) : TYI k (.int k n) K = K n := by funext s; simp [TYI]
theorem TYB_mk (b : Bool) (K : Bool → Hp → Prop) : TYB (.bool b) K = K b := rfl
theorem TYP_mk (b : Option Addr) (K : Option Addr → Hp → Prop) : TYP (.pointer b) K = K b := rfl
theorem TYL_mk (x : Option Addr) (l c : Nat) (K : Option Addr → Nat → Nat → Hp → Prop) : TYL (.slice x l c) K = K x l c := rfl
theorem TYS_mk (b : ByteArray) (K : ByteArray → Hp → Prop) : TYS (.string b) K = K b := rfl
theorem TYM_mk (b : Option Nat) (K : Option Nat → Hp → Prop) : TYM (.map b) K = K b := rfl
theorem SO_mk {α : Type} (b : α) (K : α → Hp → Prop) : SO (some b) K = K b := rfl
theorem NX_mk (l : List Value) (K : Hp → Prop) : NX l l K = K := by funext s; simp [NX]
theorem endK_mk (K : VK) (E : List PanicEntry → Hp → Prop) (v : Value) : endK K E (.returned v) = K v := rfl
theorem endK_mk' (K : VK) (E : List PanicEntry → Hp → Prop) (c : List PanicEntry) : endK K E (.panicked c) = E c := rfl
theorem add_0 (a : Addr) : a.add 0 = a := rfl
end
end Go.V
namespace Go.V
theorem cell_blind {s : Hp} {l : Nat} {o : Obj} {a : Addr} {v : Value} (hl : s[l]? = some o) (h : cellAt (s.setIfInBounds l junk) a = some v) : cellAt s a = some v := by
  by_cases e : a.block = l
  · have hlt : l < s.size := (Array.getElem?_eq_some_iff.1 hl).1
    unfold cellAt at h
    rw [e, set_eq hlt] at h
    cases h
  · rw [← cell_of_block (set_ne e)]; exact h
end Go.V
namespace Go.V
/-- Whatever lay is as it was, but for some blocks. -/
def Kp (C : Nat → Prop) (s s' : Hp) : Prop := s.size ≤ s'.size ∧ ∀ b, b < s.size → ¬ C b → s'[b]? = s[b]?
section
variable {C D : Nat → Prop} {s s' s'' : Hp} {a : Addr} {v : Value} {o : Obj}
theorem Kp.refl (s : Hp) : Kp C s s := ⟨Nat.le_refl _, fun _ _ _ => rfl⟩
theorem Ext.kp (e : Ext s s') : Kp C s s' := ⟨e.1, fun b hb _ => e.2 b hb⟩
theorem Kp.trans (h : Kp C s s') (k : Kp C s' s'') : Kp C s s'' := ⟨Nat.le_trans h.1 k.1, fun b hb hc => (k.2 b (Nat.lt_of_lt_of_le hb h.1) hc).trans (h.2 b hb hc)⟩
theorem Kp.ext (h : Kp C s s') (k : Ext s' s'') : Kp C s s'' := h.trans k.kp
theorem Kp.push (h : Kp C s s') : Kp C s (s'.push o) := h.ext (Ext.push (Ext.refl _))
theorem Kp.setC (h : Kp C s s') (hb : C a.block ∨ s.size ≤ a.block) : Kp C s (setC s' a v) := ⟨by rw [setC_size]; exact h.1, fun b hlt hc => by
  have hne : b ≠ a.block := fun e => by
    subst e
    rcases hb with hb | hb
    · exact hc hb
    · omega
  rw [setC_get _ _ _ hne]; exact h.2 b hlt hc⟩
theorem Kp.cell (e : Kp C s s') (hc : ¬ C a.block) (h : cellAt s a = some v) : cellAt s' a = some v := by rw [cell_of_block (e.2 _ (cell_lt h) hc)]; exact h
theorem Kp.own (e : Kp C s s') (hc : ¬ C a.block) (h : Own s a v) : Own s' a v := ⟨e.cell hc h.1, by rw [frozen_of_block (e.2 _ h.lt hc)]; exact h.2⟩
theorem Kp.mono (h : Kp C s s') (hc : ∀ b, C b → D b) : Kp D s s' := ⟨h.1, fun b hb hd => h.2 b hb (fun h => hd (hc b h))⟩
theorem Kp.fresh (h : Kp C s s') (hc : ∀ b, C b → s.size ≤ b) : Ext s s' := ⟨h.1, fun b hb => h.2 b hb (fun h => by have := hc b h; omega)⟩
end
end Go.V

/- Slices: reading, writing, appending. -/
set_option linter.unusedSimpArgs false
set_option linter.unusedVariables false
set_option maxRecDepth 20000
namespace Go.V
section
variable {s s' : Hp}
theorem add_blk (a : Addr) (n : Nat) : (a.add n).block = a.block := by unfold Addr.add; split <;> rfl
theorem add_of (a : Addr) (n : Nat) : (a.add n).off = a.off + n := by unfold Addr.add; split <;> simp_all
theorem add_nil {b o n : Nat} : (⟨b, o, none⟩ : Addr).add n = ⟨b, o + n, none⟩ := by unfold Addr.add; split <;> simp_all

theorem wrN_rule : ∀ (vs : List Value) (a : Addr) (j : Nat) (K : Hp → Prop) (s : Hp), (∀ i, i < vs.length → ∃ y, Own s (a.add (j + i)) y) → (∀ v ∈ vs, oneCell v = true) →
    (∀ s', Kp (· = a.block) s s' → s'.size = s.size → (∀ i (h : i < vs.length), Own s' (a.add (j + i)) vs[i]) → (∀ b y, (b.off < a.off + j ∨ a.off + j + vs.length ≤ b.off) → Own s b y → Own s' b y) → K s') → wrN vs a j K s
  | [], a, j, K, s, h1, h2, h => h s (Kp.refl s) rfl (fun i hi => by simp at hi) (fun b y _ ho => ho)
  | v :: vs, a, j, K, s, h1, h2, h => by
    obtain ⟨y, hy⟩ := h1 0 (by simp)
    rw [Nat.add_zero] at hy
    have hne : ∀ i, i ≠ j → (a.add i).block ≠ (a.add j).block ∨ (a.add i).off ≠ (a.add j).off := fun i hi => .inr (by rw [add_of, add_of]; omega)
    refine WR_own hy (h2 v (by simp)) ?_
    refine wrN_rule vs a (j + 1) K _ (fun i hi => ?_) (fun u hu => h2 u (by simp [hu])) ?_
    · obtain ⟨z, hz⟩ := h1 (i + 1) (by simp; omega)
      rw [show j + (i + 1) = j + 1 + i by omega] at hz
      exact ⟨z, own_set_ne (hne _ (by omega)) hz⟩
    · intro s' k z ho hk
      have k0 : Kp (· = a.block) s (setC s (a.add j) v) := Kp.setC (Kp.refl s) (.inl (add_blk a j))
      refine h s' (k0.trans k) (by rw [z, setC_size]) ?_ ?_
      · intro i hi
        cases i with
        | zero =>
          have := hk (a.add j) v (.inl (by rw [add_of]; omega)) (own_set hy)
          simpa using this
        | succ i =>
          have := ho i (by simpa using hi)
          rw [show j + (i + 1) = j + 1 + i by omega]
          simpa using this
      · intro b y' hi ho'
        simp only [List.length_cons] at hi
        exact hk b y' (by omega) (own_set_ne (.inr (by rw [add_of]; omega)) ho')

theorem cellsAt_of : ∀ (vs : List Value) (a : Addr) (j : Nat), (∀ i (h : i < vs.length), cellAt s (a.add (j + i)) = some vs[i]) → cellsAt s a j vs.length = some vs
  | [], a, j, h => rfl
  | v :: vs, a, j, h => by
    have h0 := h 0 (by simp)
    have ih := cellsAt_of vs a (j + 1) (fun i hi => by
      have := h (i + 1) (by simpa using hi)
      rw [show j + 1 + i = j + (i + 1) by omega]; simpa using this)
    simp only [List.length_cons, cellsAt]
    rw [Nat.add_zero] at h0
    rw [h0, ih]
    simp

/-- What a slice of cells holds. -/
def RowAt (s : Hp) (x : Option Addr) (vs : List Value) : Prop := ∀ i, (h : i < vs.length) → ∃ a, x = some a ∧ cellAt s (a.add (i * 1)) = some vs[i]
theorem RowAt.ext {x : Option Addr} {vs : List Value} (e : Ext s s') (h : RowAt s x vs) : RowAt s' x vs := fun i hi => by
  obtain ⟨a, h1, h2⟩ := h i hi
  exact ⟨a, h1, e.cell h2⟩
theorem RowAt.keep {D : Nat → Prop} {x : Option Addr} {vs : List Value} (h : RowAt s x vs) (k : Kp D s s') (hd : ∀ a, x = some a → ¬ D a.block) : RowAt s' x vs := fun i hi => by
  obtain ⟨a, h1, h2⟩ := h i hi
  exact ⟨a, h1, k.cell (by rw [add_blk]; exact hd a h1) h2⟩
theorem RowAt.cells {x : Option Addr} {vs : List Value} (h : RowAt s x vs) : cellsOpt s x vs.length = some vs := by
  cases x with
  | none =>
    cases vs with
    | nil => rfl
    | cons v vs => obtain ⟨a, h1, _⟩ := h 0 (by simp); cases h1
  | some a =>
    refine cellsAt_of vs a 0 (fun i hi => ?_)
    obtain ⟨b, h1, h2⟩ := h i hi
    cases h1
    rw [Nat.zero_add]
    rw [Nat.mul_one] at h2
    exact h2
/-- A slice whose whole room is one's own. -/
structure Buf (s : Hp) (x : Option Addr) (c : Nat) (vs : List Value) : Prop where
  le : vs.length ≤ c
  own : ∀ i, i < c → ∃ a, x = some a ∧ ∃ y, Own s (a.add i) y ∧ ∀ h : i < vs.length, y = vs[i]
theorem Buf.ext {x : Option Addr} {c : Nat} {vs : List Value} (e : Ext s s') (h : Buf s x c vs) : Buf s' x c vs := ⟨h.le, fun i hi => by
  obtain ⟨a, h1, y, h2, h3⟩ := h.own i hi
  exact ⟨a, h1, y, e.own h2, h3⟩⟩
theorem Buf.kp {D : Nat → Prop} {x : Option Addr} {c : Nat} {vs : List Value} (e : Kp D s s') (hd : ∀ a, x = some a → ¬ D a.block) (h : Buf s x c vs) : Buf s' x c vs := ⟨h.le, fun i hi => by
  obtain ⟨a, h1, y, h2, h3⟩ := h.own i hi
  exact ⟨a, h1, y, e.own (by rw [add_blk]; exact hd a h1) h2, h3⟩⟩
theorem Buf.row {x : Option Addr} {c : Nat} {vs : List Value} (h : Buf s x c vs) : RowAt s x vs := fun i hi => by
  obtain ⟨a, h1, y, h2, h3⟩ := h.own i (Nat.lt_of_lt_of_le hi h.le)
  refine ⟨a, h1, ?_⟩
  rw [Nat.mul_one, h2.cell, h3 hi]
theorem Buf.nil (s : Hp) : Buf s none 0 [] := ⟨Nat.le_refl _, fun i hi => by omega⟩

theorem repL_getD (z : Value) : ∀ (n i : Nat), i < n → (repL n [z])[i]? = some z
  | 0, i, h => by omega
  | n + 1, 0, h => rfl
  | n + 1, i + 1, h => by
    show (z :: repL n [z])[i + 1]? = some z
    rw [List.getElem?_cons_succ]
    exact repL_getD z n i (by omega)
theorem repL_length (z : Value) : ∀ n, (repL n [z]).length = n
  | 0 => rfl
  | n + 1 => by show (z :: repL n [z]).length = n + 1; rw [List.length_cons, repL_length]
/-- A new row. -/
theorem buf_new {cs vs : List Value} {ty : TypeId} (hl : vs.length ≤ cs.length) (hv : ∀ i (h : i < vs.length), cs[i]? = some vs[i]) : Buf (s.push (.cells cs.toArray ty (0, 0))) (some ⟨s.size, 0, none⟩) cs.length vs :=
  ⟨hl, fun i hi => ⟨_, rfl, cs[i], by rw [add_nil, Nat.zero_add]; exact own_new (by simp [hi]), fun h => by have := hv i h; rw [List.getElem?_eq_getElem hi] at this; simpa using this⟩⟩

/-- 'append(x, v...)' where x is one's own. -/
theorem APP_buf {P : Program} {t : TypeId} {x : Option Addr} {c : Nat} {vs ws : List Value} {y : Option Addr} {z : Value} {K : Option Addr → Nat → Nat → Hp → Prop} (hb : Buf s x c vs) (hy : RowAt s y ws) (hz : zc P t = [z]) (hws : ∀ v ∈ ws, oneCell v = true)
    (hlen : vs.length + ws.length ≤ 1000000) (hc : c ≤ 9223372036854775808)
    (h : ∀ s' x' c', Kp (fun b => ∃ a, x = some a ∧ a.block = b) s s' → (vs.length + ws.length ≤ c → x' = x ∧ c' = c) → (c < vs.length + ws.length → x' = some ⟨s.size, 0, none⟩ ∧ Ext s s') → c' ≤ 9223372036854775808 → Buf s' x' c' (vs ++ ws) → K x' (vs.length + ws.length) c' s') :
    APP P t 1 x vs.length c y ws.length K s := by
  refine ⟨⟨hlen, hc⟩, ws, by rw [Nat.mul_one]; exact hy.cells, ?_⟩
  split
  · rename_i hle
    cases x with
    | none =>
      have hc0 : c = 0 := by
        rcases Nat.eq_zero_or_pos c with h0 | h0
        · exact h0
        · obtain ⟨a, h1, _⟩ := hb.own 0 h0; cases h1
      have hws0 : ws = [] := List.eq_nil_of_length_eq_zero (by omega)
      subst hws0
      refine h s none c (Kp.refl s) (fun _ => ⟨rfl, rfl⟩) (fun hh => by simp at hle; simp at hh; omega) hc ?_
      rw [List.append_nil]; exact hb
    | some a =>
      simp only [Nat.mul_one]
      have key : ∀ i, i < c → ∃ y, Own s (a.add i) y ∧ ∀ h : i < vs.length, y = vs[i] := fun i hi => by
        obtain ⟨a', h1, h2⟩ := hb.own i hi
        cases h1; exact h2
      by_cases hw0 : ws = []
      · subst hw0
        refine h s (some a) c (Kp.refl s) (fun _ => ⟨rfl, rfl⟩) (fun hh => by simp at hle; simp at hh; omega) hc ?_
        rw [List.append_nil]; exact hb
      have hpos : 0 < ws.length := List.length_pos_iff.2 hw0
      have hspot : ∀ i, (a.add vs.length).add i = a.add (vs.length + i) := by
        intro i
        have h0 := cell_spot (key vs.length (by omega)).choose_spec.1.cell
        unfold Addr.add at h0 ⊢
        by_cases hv : vs.length = 0
        · simp [hv]
        · by_cases hi : i = 0
          · simp [hv, hi]
          · simp [hv, hi, Nat.add_assoc]
      refine wrN_rule ws (a.add vs.length) 0 _ s (fun i hi => ?_) hws ?_
      · rw [Nat.zero_add, hspot]
        obtain ⟨y, hy, _⟩ := key (vs.length + i) (by omega)
        exact ⟨y, hy⟩
      · intro s' k z' ho hk
        refine h s' (some a) c (k.mono (fun b hb => ⟨a, rfl, by rw [← add_blk a vs.length]; exact hb.symm⟩)) (fun _ => ⟨rfl, rfl⟩) (fun hh => by omega) hc ⟨by simp; omega, fun i hi => ⟨a, rfl, ?_⟩⟩
        by_cases h1 : i < vs.length
        · obtain ⟨y, hy1, hy2⟩ := key i hi
          refine ⟨y, ?_, fun h => by rw [hy2 h1]; simp [List.getElem_append, h1]⟩
          exact hk _ _ (.inl (by rw [add_of, add_of]; omega)) hy1
        · by_cases h2 : i < vs.length + ws.length
          · have := ho (i - vs.length) (by omega)
            rw [Nat.zero_add, hspot, show vs.length + (i - vs.length) = i by omega] at this
            refine ⟨_, this, fun h => ?_⟩
            rw [List.getElem_append_right (by omega)]
          · obtain ⟨y, hy1, _⟩ := key i hi
            have := hk (a.add i) y (.inr (by rw [add_of, add_of]; omega)) hy1
            exact ⟨y, this, fun h => by simp at h; omega⟩
  · rename_i hle
    refine ⟨vs, by rw [Nat.mul_one]; exact hb.row.cells, fun c' g1 g2 => ?_⟩
    rw [hz]
    have hlen' : (vs ++ ws ++ repL (c' - (vs.length + ws.length)) [z]).length = c' := by
      rw [List.length_append, List.length_append, repL_length]; omega
    have hbuf : Buf (s.push (.cells (vs ++ ws ++ repL (c' - (vs.length + ws.length)) [z]).toArray t (0, 0))) (some ⟨s.size, 0, none⟩) (vs ++ ws ++ repL (c' - (vs.length + ws.length)) [z]).length (vs ++ ws) :=
      buf_new (by simp) (fun i hi => by rw [List.getElem?_append_left hi]; simp [hi])
    rw [hlen'] at hbuf
    exact h _ _ c' (Ext.push (Ext.refl s)).kp (fun hh => by omega) (fun _ => ⟨rfl, Ext.push (Ext.refl s)⟩) (by omega) hbuf
end
end Go.V
namespace Go.V
section
variable {s : Hp}
theorem NEW_rule {t : TypeId} {cs : List Value} {K : Nat → Hp → Prop} (h : ∀ s', Ext s s' → s'.size = s.size + 1 → (∀ i v, cs[i]? = some v → Own s' ⟨s.size, i, none⟩ v) → shapeAt s' s.size = some (t, cs.length) → K s.size s') : NEW t cs K s :=
  h _ (Ext.push (Ext.refl _)) (by simp) (fun i v hv => own_new hv) (by unfold shapeAt; rw [Array.getElem?_push, if_pos rfl]; simp)
theorem NEWZ_rule {P : Program} {t : TypeId} {cs : List Value} {K : Nat → Hp → Prop} (hz : zc P t = cs) (h : ∀ s', Ext s s' → s'.size = s.size + 1 → (∀ i v, cs[i]? = some v → Own s' ⟨s.size, i, none⟩ v) → K s.size s') : NEWZ P t K s := by
  unfold NEWZ; rw [hz]
  exact h _ (Ext.push (Ext.refl _)) (by simp) (fun i v hv => own_new hv)
theorem CONJ_two {a b : Hp → Prop} (h1 : a s) (h2 : b s) : CONJ [a, b] s := ⟨h1, h2⟩
end
end Go.V

/- Rows of elements of several cells; a list that is appended to. -/
set_option linter.unusedSimpArgs false
set_option linter.unusedVariables false
set_option maxRecDepth 20000
namespace Go.V
section
variable {s s' : Hp}
theorem addr_add (a : Addr) (m n : Nat) : (a.add m).add n = a.add (m + n) := by
  unfold Addr.add
  by_cases hn : n = 0
  · simp [hn]
  · by_cases hm : m = 0
    · simp [hm, hn]
    · simp [hm, hn, Nat.add_assoc]
theorem NZI_pos {b : Int} {K : Hp → Prop} (hb : b ≠ 0) (h : K s) : NZI b K s := by
  unfold NZI
  split
  · exact absurd rfl hb
  · exact h
theorem repL_lenN (zs : List Value) : ∀ n, (repL n zs).length = n * zs.length
  | 0 => by simp [repL]
  | n + 1 => by show (zs ++ repL n zs).length = _; rw [List.length_append, repL_lenN zs n, Nat.add_mul]; omega

/-- 'append(x, v...)' where x is one's own: elements of 'es' cells. -/
theorem APP_bufN {P : Program} {t : TypeId} {es l m c : Nat} {x : Option Addr} {vs ws zs : List Value} {y : Option Addr} {K : Option Addr → Nat → Nat → Hp → Prop} (hb : Buf s x (c * es) vs) (hl : vs.length = l * es) (hy : RowAt s y ws) (hm : ws.length = m * es) (hz : zc P t = zs) (hzl : zs.length = es) (hes : 0 < es)
    (hws : ∀ v ∈ ws, oneCell v = true) (hlen : l + m ≤ 1000000) (hc : c ≤ 9223372036854775808)
    (h : ∀ s' x' c', Kp (fun b => ∃ a, x = some a ∧ a.block = b) s s' → (l + m ≤ c → x' = x ∧ c' = c) → (c < l + m → x' = some ⟨s.size, 0, none⟩ ∧ Ext s s') → c' ≤ 9223372036854775808 → Buf s' x' (c' * es) (vs ++ ws) → K x' (l + m) c' s') :
    APP P t es x l c y m K s := by
  have hrow := hb.row.cells
  rw [hl] at hrow
  have hyc := hy.cells
  rw [hm] at hyc
  refine ⟨⟨hlen, hc⟩, ws, hyc, ?_⟩
  split
  · rename_i hle
    cases x with
    | none =>
      have hc0 : c * es = 0 := by
        rcases Nat.eq_zero_or_pos (c * es) with h0 | h0
        · exact h0
        · obtain ⟨a, h1, _⟩ := hb.own 0 h0; cases h1
      have hc00 : c = 0 := by rcases Nat.mul_eq_zero.1 hc0 with h0 | h0 <;> omega
      have hm0 : m = 0 := by omega
      have hws0 : ws = [] := List.eq_nil_of_length_eq_zero (by rw [hm, hm0]; simp)
      subst hws0
      refine h s none c (Kp.refl s) (fun _ => ⟨rfl, rfl⟩) (fun hh => by omega) hc ?_
      rw [List.append_nil]; exact hb
    | some a =>
      have key : ∀ i, i < c * es → ∃ y, Own s (a.add i) y ∧ ∀ h : i < vs.length, y = vs[i] := fun i hi => by
        obtain ⟨a', h1, h2⟩ := hb.own i hi
        cases h1; exact h2
      by_cases hw0 : ws = []
      · subst hw0
        have hm0 : m = 0 := by
          have hm' : 0 = m * es := hm
          rcases Nat.mul_eq_zero.1 hm'.symm with h0 | h0 <;> omega
        refine h s (some a) c (Kp.refl s) (fun _ => ⟨rfl, rfl⟩) (fun hh => by omega) hc ?_
        rw [List.append_nil]; exact hb
      have hpos : 0 < ws.length := List.length_pos_iff.2 hw0
      have hfit : vs.length + ws.length ≤ c * es := by rw [hl, hm, ← Nat.add_mul]; exact Nat.mul_le_mul_right _ hle
      show wrN ws (a.add (l * es)) 0 _ s
      rw [← hl]
      refine wrN_rule ws (a.add vs.length) 0 _ s (fun i hi => ?_) hws ?_
      · rw [Nat.zero_add, addr_add]
        obtain ⟨y, hy, _⟩ := key (vs.length + i) (by omega)
        exact ⟨y, hy⟩
      · intro s' k z' ho hk
        refine h s' (some a) c (k.mono (fun b hb => ⟨a, rfl, by rw [← add_blk a vs.length]; exact hb.symm⟩)) (fun _ => ⟨rfl, rfl⟩) (fun hh => by omega) hc ⟨by simp; omega, fun i hi => ⟨a, rfl, ?_⟩⟩
        by_cases h1 : i < vs.length
        · obtain ⟨y, hy1, hy2⟩ := key i hi
          refine ⟨y, ?_, fun h => by rw [hy2 h1]; simp [List.getElem_append, h1]⟩
          exact hk _ _ (.inl (by rw [add_of, add_of]; omega)) hy1
        · by_cases h2 : i < vs.length + ws.length
          · have := ho (i - vs.length) (by omega)
            rw [Nat.zero_add, addr_add, show vs.length + (i - vs.length) = i by omega] at this
            refine ⟨_, this, fun h => ?_⟩
            rw [List.getElem_append_right (by omega)]
          · obtain ⟨y, hy1, _⟩ := key i hi
            have := hk (a.add i) y (.inr (by rw [add_of, add_of]; omega)) hy1
            exact ⟨y, this, fun h => by simp at h; omega⟩
  · rename_i hle
    refine ⟨vs, hrow, fun c' g1 g2 => ?_⟩
    rw [hz]
    have hlen' : (vs ++ ws ++ repL (c' - (l + m)) zs).length = c' * es := by
      rw [List.length_append, List.length_append, repL_lenN, hzl, hl, hm, ← Nat.add_mul, ← Nat.add_mul]
      congr 1; omega
    have hbuf : Buf (s.push (.cells (vs ++ ws ++ repL (c' - (l + m)) zs).toArray t (0, 0))) (some ⟨s.size, 0, none⟩) (vs ++ ws ++ repL (c' - (l + m)) zs).length (vs ++ ws) :=
      buf_new (by simp) (fun i hi => by rw [List.getElem?_append_left hi]; simp [hi])
    rw [hlen'] at hbuf
    exact h _ _ c' (Ext.push (Ext.refl s)).kp (fun hh => by omega) (fun _ => ⟨rfl, Ext.push (Ext.refl s)⟩) (by omega) hbuf

/-- A list that one has made: nothing of it lay before 'lo'. -/
structure Fr (lo : Nat) (s : Hp) (x : Option Addr) (l c es : Nat) (vs : List Value) : Prop where
  buf : Buf s x (c * es) vs
  len : vs.length = l * es
  fr : ∀ a, x = some a → lo ≤ a.block
  cap : c ≤ 9223372036854775808
theorem Fr.nil (lo : Nat) (s : Hp) (es : Nat) : Fr lo s none 0 0 es [] := ⟨⟨by simp, fun i hi => by simp at hi⟩, by simp, (fun a h => by cases h), by omega⟩
theorem Fr.ext {lo : Nat} {x : Option Addr} {l c es : Nat} {vs : List Value} (e : Ext s s') (h : Fr lo s x l c es vs) : Fr lo s' x l c es vs := ⟨h.buf.ext e, h.len, h.fr, h.cap⟩
theorem Fr.kp {D : Nat → Prop} {lo : Nat} {x : Option Addr} {l c es : Nat} {vs : List Value} (e : Kp D s s') (hd : ∀ a, x = some a → ¬ D a.block) (h : Fr lo s x l c es vs) : Fr lo s' x l c es vs := ⟨h.buf.kp e hd, h.len, h.fr, h.cap⟩
theorem Fr.row {lo : Nat} {x : Option Addr} {l c es : Nat} {vs : List Value} (h : Fr lo s x l c es vs) : RowAt s x vs := h.buf.row
theorem APP_fr {P : Program} {t : TypeId} {lo es l m c : Nat} {x : Option Addr} {vs ws zs : List Value} {y : Option Addr} {K : Option Addr → Nat → Nat → Hp → Prop} (hf : Fr lo s x l c es vs) (hlo : lo ≤ s.size) (hy : RowAt s y ws) (hm : ws.length = m * es) (hz : zc P t = zs) (hzl : zs.length = es) (hes : 0 < es)
    (hws : ∀ v ∈ ws, oneCell v = true) (hlen : l + m ≤ 1000000)
    (h : ∀ s' x' c', Kp (fun b => ∃ a, x = some a ∧ a.block = b) s s' → (∀ a, x' = some a → (∃ a', x = some a' ∧ a'.block = a.block) ∨ s.size ≤ a.block) → Fr lo s' x' (l + m) c' es (vs ++ ws) → K x' (l + m) c' s') :
    APP P t es x l c y m K s := by
  refine APP_bufN hf.buf hf.len hy hm hz hzl hes hws hlen hf.cap fun s' x' c' k g1 g2 g3 u => ?_
  have g : ∀ a, x' = some a → (∃ a', x = some a' ∧ a'.block = a.block) ∨ s.size ≤ a.block := by
    intro a ha
    rcases Nat.lt_or_ge c (l + m) with hc | hc
    · obtain ⟨q1, _⟩ := g2 hc
      rw [q1] at ha; cases ha
      exact .inr (Nat.le_refl _)
    · obtain ⟨q1, _⟩ := g1 hc
      rw [q1] at ha
      exact .inl ⟨a, ha, rfl⟩
  refine h s' x' c' k g ⟨u, by rw [List.length_append, hf.len, hm, Nat.add_mul], fun a ha => ?_, g3⟩
  rcases g a ha with ⟨a', h1, h2⟩ | h1
  · rw [← h2]; exact hf.fr a' h1
  · omega
/-- One cell of a row of one's own is written. -/
theorem Buf.set {x : Addr} {c i : Nat} {vs : List Value} {v : Value} (h : Buf s (some x) c vs) (hi : i < vs.length) : Buf (setC s (x.add i) v) (some x) c (vs.set i v) := by
  refine ⟨by rw [List.length_set]; exact h.le, fun j hj => ⟨x, rfl, ?_⟩⟩
  obtain ⟨a, h1, y, h2, h3⟩ := h.own j hj
  cases h1
  by_cases e : j = i
  · subst e
    exact ⟨v, own_set h2, fun hh => by simp⟩
  · refine ⟨y, own_set_ne (.inr (by rw [add_of, add_of]; omega)) h2, fun hh => ?_⟩
    rw [List.length_set] at hh
    rw [h3 hh, List.getElem_set_ne (fun e' => e e'.symm)]
theorem Buf.at {x : Addr} {c i : Nat} {vs : List Value} (h : Buf s (some x) c vs) (hi : i < vs.length) : Own s (x.add i) vs[i] := by
  obtain ⟨a, h1, y, h2, h3⟩ := h.own i (Nat.lt_of_lt_of_le hi h.le)
  cases h1
  rw [← h3 hi]; exact h2
end
end Go.V

/- From a contract over the visible heap to a given row. -/
set_option linter.unusedSimpArgs false
set_option linter.unusedVariables false
namespace Go.V
section
variable (P : Program) (s : Hp)
def RdF (R : TypeId → List Value → Prop) : List Field → List Value → Prop
  | [], _ => True
  | f :: r, cs => R f.type ((cs.drop f.offset).take (P.cellsOf f.type)) ∧ RdF R r cs
/-- What a type's cells read as, where they came in. -/
def Rds : Nat → TypeId → List Value → Prop
  | 0, _, _ => True
  | n + 1, t, cs => match P.underlying t with
    | some .bool => ∃ b, cs = [.bool b]
    | some (.int k) => ∃ m, cs = [.int k m] ∧ (Lit.int k m).wf = true
    | some .string => ∃ b, cs = [.string b] ∧ b.size ≤ maxLen
    | some (.slice e) => ∃ a l c, cs = [.slice a l c] ∧ l ≤ c ∧ c ≤ maxLen ∧ (a = none → l = 0 ∧ c = 0) ∧ ∀ i, i < l → ∃ b es, a = some b ∧ es.length = P.cellsOf e ∧ (∀ j v, es[j]? = some v → cellAt s ((b.add (i * P.cellsOf e)).add j) = some v) ∧ Rds n e es
    | some (.struct fs) => cs.length = P.cellsOf t ∧ RdF P (Rds n) fs.toList cs
    | some (.array m e) => cs.length = P.cellsOf t ∧ ∀ i, i < m → Rds n e ((cs.drop (i * P.cellsOf e)).take (P.cellsOf e))
    | _ => True
def RdV (t : TypeId) (v : Value) : Prop := ∃ cs, v = (match isAg P t with | true => .agg cs.toArray | false => cs.headD undef) ∧ Rds P s 8 t cs
end
section
variable {P : Program} {H : Type} {enc : TypeId × Value → H} {w : World} {base : Nat} {sp : Nat → Bool} {held : Bool}
theorem rdF_of {R : TypeId → List Value → Prop} : ∀ (fs : List Field) (cs : List Value), (∀ (i : Nat) (f : Field), fs[i]? = some f → R f.type ((cs.drop f.offset).take (P.cellsOf f.type))) → RdF P R fs cs
  | [], _, _ => trivial
  | f :: r, cs, h => ⟨h 0 f rfl, rdF_of r cs fun i g hg => h (i + 1) g (by simpa using hg)⟩
theorem trod_rds : ∀ (k fuel : Nat) (t : TypeId) (cs : List Value) (x : DataW H × List MemPlace), DataW.trod enc P w base sp held fuel t cs = some x → Rds P w.heap k t cs
  | 0, _, _, _, _, _ => trivial
  | k + 1, fuel, t, cs, x, h => by
    unfold Rds
    split
    · rename_i ht
      obtain ⟨b, rfl, _⟩ := DataW.trod_bool ht h
      exact ⟨b, rfl⟩
    · rename_i kd ht
      obtain ⟨n, rfl, _, hw⟩ := DataW.trod_int ht h
      exact ⟨n, rfl, hw⟩
    · rename_i ht
      obtain ⟨b, rfl, _, hw⟩ := DataW.trod_string ht h
      exact ⟨b, rfl, hw⟩
    · rename_i e ht
      rcases DataW.trod_slice ht h with ⟨rfl, _⟩ | ⟨a, len, cap, elems, rest, n, _, rfl, rfl, hb, hl, hm, hlen, hel, hsp, hns⟩
      · exact ⟨none, 0, 0, rfl, Nat.le_refl _, Nat.zero_le _, fun _ => ⟨rfl, rfl⟩, fun i hi => by omega⟩
      · refine ⟨some a, len, cap, rfl, hl, hm, (fun h => by cases h), fun i hi => ?_⟩
        have hi' : i < elems.length := by omega
        have h1 := hel i hi
        rw [List.getElem?_eq_getElem hi', Option.bind_eq_some_iff] at h1
        obtain ⟨es, h2, h3⟩ := h1
        obtain ⟨_, h4, h5⟩ := World.cells?_some h2
        refine ⟨a, es, rfl, h4, fun j v hv => ?_, trod_rds k _ _ _ _ h3⟩
        have hj : j < P.cellsOf e := by
          have := (List.getElem?_eq_some_iff.1 hv).1
          omega
        rw [← hv, ← h5 j hj]; rfl
    · rename_i fs ht
      obtain ⟨xs, n, _, rfl, h1, h2, h3⟩ := DataW.trod_struct ht h
      refine ⟨h1, rdF_of _ _ fun i f hf => ?_⟩
      have hfs : fs[i]? = some f := by simpa using hf
      have hi : i < xs.length := by
        have := (Array.getElem?_eq_some_iff.1 hfs).1
        omega
      have h4 := h3 i f hfs
      rw [List.getElem?_eq_getElem hi] at h4
      exact trod_rds k _ _ _ _ h4
    · rename_i m e ht
      cases fuel with
      | zero => simp [DataW.trod] at h
      | succ n =>
        unfold DataW.trod at h
        rw [ht] at h
        simp only at h
        split at h
        · rename_i hc
          refine ⟨hc, fun i hi => ?_⟩
          rw [Option.map_eq_some_iff] at h
          obtain ⟨xs, hx, _⟩ := h
          have hget := mapM_some_get hx i i (by simp [hi])
          have hlen : xs.length = m := by simpa using mapM_some_length hx
          rw [List.getElem?_eq_getElem (by omega)] at hget
          exact trod_rds k _ _ _ _ hget
        · cases h
    · trivial
theorem trod_rdV {t : TypeId} {v : Value} {d : DataW H} {ps : List MemPlace} {b0 : Nat} (hv : Value.okWide P w .any b0 t v) (h : DataW.Trod enc P w base sp held t v d ps) : RdV P w.heap t v := by
  obtain ⟨fuel, h⟩ := h
  refine ⟨v.cells.toList, ?_, trod_rds 8 _ _ _ _ h⟩
  unfold Value.okWide at hv
  split at hv
  · rename_i ht
    obtain ⟨cs, rfl, _⟩ := hv
    unfold isAg
    rw [ht]; simp [Value.cells]
  · rename_i ht
    obtain ⟨cs, rfl, _⟩ := hv
    unfold isAg
    rw [ht]; simp [Value.cells]
  · rename_i h1 h2
    have hag : isAg P t = false := by
      unfold isAg
      split
      · rename_i h; exact absurd h (h1 _)
      · rename_i h; exact absurd h (h2 _ _)
      · rfl
    rw [hag]
    cases v <;> first | rfl | (simp [Cell.okWide, Cell.ok] at hv; try (split at hv <;> simp_all))
end
theorem does_of_call {P : Program} {W : World} {f : FuncId} {args : List Value} {s : Hp} (h : CALL P W f args (fun v s' => v = .bool true ∧ Ext s s') (fun _ _ => False) s) : Does P W f args.toArray s fun e s' => e = .returned (.bool true) ∧ Ext s s' :=
  Does.mono h fun e s' he => by
    cases e with
    | returned v => exact ⟨by rw [he.1], he.2⟩
    | panicked c => exact he.elim
    | outgrown => exact he.elim
/-- A contract over the visible heap, that leaves what lay, as a call's. -/
theorem calls_of_does {P : Program} {f : FuncId} {args : Array Value} {W : World} (h : Does P W f args W.heap fun e s' => e = .returned (.bool true) ∧ Ext W.heap s') :
    Calls P f args W fun e w' => e = .returned (.bool true) ∧ Go.RowKit.Below W.heap.size W w' := by
  have h2 := h.2 (fun _ => False) W.heap W.drawn (Vis.refl W.heap)
  refine Calls.mono h2 ?_
  rintro e w' ⟨X', h', d', s', rfl, v, ev, he, ext⟩
  refine ⟨he, ⟨rfl, rfl, rfl, ?_, fun k hk => ?_⟩⟩
  · exact ev.size
  · show h'[k]? = W.heap[k]?
    have hx : ¬ X' k := fun hx => by
      rcases ev.new k hx with h0 | h0
      · exact h0
      · omega
    rw [← v.same k hx]
    exact ext.2 k hk
end Go.V

/- The functions' shallow texts, by gen.py, and that the text of conditions comes to them. -/
set_option linter.unusedVariables false
set_option maxRecDepth 100000
namespace Go.Proofs.Ytfaeokcbfnlgbaa.G
open Go.V
noncomputable abbrev Pg : Program := Try.prog
abbrev F_law13_PrizeReads : FuncId := 3
abbrev F_law13_PrizeLooks : FuncId := 4
abbrev F_law13_PrizeDue : FuncId := 5
abbrev F_law13_PrizeClub : FuncId := 6
abbrev F_law13_PrizeWorth : FuncId := 7
abbrev F_law13_PrizeMost : FuncId := 8
abbrev F_law13_PrizeStay : FuncId := 9
abbrev F_law13_PrizeFor : FuncId := 10
abbrev F_law13_PrizeEnd : FuncId := 11
abbrev F_law13_PrizeTurned : FuncId := 12
abbrev F_law13_far : FuncId := 13
abbrev F_law13_awake : FuncId := 14
abbrev F_prize_Can : FuncId := 15
abbrev F_ref13_Can : FuncId := 16
abbrev F_prize_Due : FuncId := 17
abbrev F_ref13_Due : FuncId := 18
abbrev F_prize_Wrong : FuncId := 19
abbrev F_ref13_Wrong : FuncId := 20
abbrev F_prize_Club : FuncId := 21
abbrev F_ref13_Club : FuncId := 22
abbrev F_prize_Worth : FuncId := 23
abbrev F_ref13_Worth : FuncId := 24
abbrev F_ref13_Ints : FuncId := 25
abbrev F_ref13_Prizes : FuncId := 26
abbrev F_prize_Most : FuncId := 27
abbrev F_ref13_Most : FuncId := 28
abbrev F_prize_Stay : FuncId := 29
abbrev F_ref13_Stay : FuncId := 30
abbrev F_prize_For : FuncId := 31
abbrev F_ref13_For : FuncId := 32
abbrev F_law13_sum : FuncId := 33
abbrev F_law13_made : FuncId := 34
abbrev F_ref13_Many : FuncId := 35
abbrev F_ref13_Without : FuncId := 36
abbrev F_law13_PrizeFor_c1 : FuncId := 37
abbrev F_ref13_Moved : FuncId := 38
abbrev F_law13_hasClub : FuncId := 39
abbrev F_law13_PrizeTurned_c1 : FuncId := 40
abbrev F_law13_sample : FuncId := 41
abbrev F_prize_told : FuncId := 42
abbrev F_prize_open : FuncId := 43
abbrev F_prize_must : FuncId := 44
abbrev F_prize_prizes_isMan : FuncId := 45
abbrev F_prize_prizes_isPrize : FuncId := 46
abbrev F_prize_prizes_can : FuncId := 47
abbrev F_ref13_check : FuncId := 48
abbrev F_ref13_Man : FuncId := 49
abbrev F_ref13_Prize : FuncId := 50
abbrev F_ref13_can : FuncId := 51
abbrev F_prize_prizes_due : FuncId := 52
abbrev F_ref13_due : FuncId := 53
abbrev F_prize_prizes_giving : FuncId := 54
abbrev F_ref13_Giving : FuncId := 55
abbrev F_prize_prizes_best : FuncId := 56
abbrev F_ref13_best : FuncId := 57
abbrev F_ref13_sum : FuncId := 58
abbrev F_prize_prizes_worths : FuncId := 59
abbrev F_prize_total : FuncId := 60
abbrev F_ref13_Fair : FuncId := 61
abbrev F_ref13_worths : FuncId := 62
abbrev F_ref13_in : FuncId := 63
abbrev F_prize_prizes_most : FuncId := 64
abbrev F_prize_taken_left : FuncId := 65
abbrev F_ref13_most : FuncId := 66
abbrev F_slices_Delete_api_Winner_api_Winner : FuncId := 67
abbrev F_slices_Clone_api_Winner_api_Winner : FuncId := 68
abbrev F_ref13_power : FuncId := 69
abbrev F_slices_Collect_int : FuncId := 70
abbrev F_prize_prizes_order : FuncId := 71
abbrev F_prize_For_c1 : FuncId := 72
abbrev F_slices_Insert_int_int : FuncId := 73
abbrev F_slices_Clone_int_int : FuncId := 74
abbrev F_slices_Contains_int_int : FuncId := 75
abbrev F_ref13_has : FuncId := 76
abbrev F_prize_who : FuncId := 77
abbrev F_prize_within : FuncId := 78
abbrev F_ref13_at : FuncId := 79
abbrev F_prize_prizes_best_c1 : FuncId := 80
abbrev F_prize_first_prize_club : FuncId := 81
abbrev F_prize_prizes_best_c2 : FuncId := 82
abbrev F_prize_prizes_most_c1 : FuncId := 83
abbrev F_slices_AppendSeq_int_int : FuncId := 84
abbrev F_prize_prizes_order_c1 : FuncId := 85
abbrev F_slices_rotateRight_int : FuncId := 87
abbrev F_slices_Index_int_int : FuncId := 88
abbrev F_prize_who_c1 : FuncId := 89
abbrev F_prize_who_c2 : FuncId := 90
abbrev F_prize_who_c3 : FuncId := 91
abbrev F_prize_who_c4 : FuncId := 92
abbrev F_prize_who_c5 : FuncId := 93
abbrev F_slices_rotateLeft_int : FuncId := 94
abbrev F_slices_Reverse_int_int : FuncId := 95
abbrev F_prize_plain_gives : FuncId := 111
abbrev F_prize_clubs_gives : FuncId := 112
abbrev F_prize_clubs_gives_c1 : FuncId := 113
def an_15 : Nat → Ann := fun b => match b with
  | _ => {}
abbrev rv_15 : List ResultVar := [.tmp 6, .cell 7 29]
abbrev rs_15 : List Nat := [24, 6, 7]
def J_prize_Can_0 (W : World) (R : Ending → Hp → Prop) (b26 : Bool) (p19 : Option Addr) (n7 : Int) (n8 : Int) (B10 : Nat) : Hp → Prop :=
  CALL Pg W F_prize_must [(.bool b26), (.int .i64 2)]
    (fun v27 => TUP v27 fun q29 => NL q29 <|
      CALL Pg W F_prize_prizes_can [(.pointer p19), (.int .i64 n7), (.int .i64 n8)]
        (fun v30 => TYB v30 fun b32 =>
          WR (Addr.add ⟨B10, 0, none⟩ 0) (.int .i64 0) <|
            DEF Pg W (.tuple #[(.func (.func 42) #[] #[]), (.tuple #[(.pointer (some ⟨B10, 0, none⟩))])]) none
              (RDI .i64 ⟨B10, 0, none⟩ fun n33 =>
                R (.returned (.tuple #[(.bool b32), (.int .i64 n33)]))))
          (fun e31 => DEF Pg W (.tuple #[(.func (.func 42) #[] #[]), (.tuple #[(.pointer (some ⟨B10, 0, none⟩))])]) (some e31) (RDI .i64 ⟨B10, 0, none⟩ fun n34 =>
            R (.returned (.tuple #[(.bool false), (.int .i64 n34)])))))
      (fun e28 => DEF Pg W (.tuple #[(.func (.func 42) #[] #[]), (.tuple #[(.pointer (some ⟨B10, 0, none⟩))])]) (some e28) (RDI .i64 ⟨B10, 0, none⟩ fun n35 =>
        R (.returned (.tuple #[(.bool false), (.int .i64 n35)]))))
def T_prize_Can (W : World) (x1 : Option Addr) (l2 : Nat) (c3 : Nat) (x4 : Option Addr) (l5 : Nat) (c6 : Nat) (n7 : Int) (n8 : Int) (R : Ending → Hp → Prop) : Hp → Prop :=
  NEW 25 [(.slice x1 l2 c3), (.slice x4 l5 c6)] fun B9 =>
    NEWZ Pg 29 fun B10 =>
      RDL (Addr.add ⟨B9, 0, none⟩ 0) fun x11 l12 c13 =>
        RDL (Addr.add ⟨B9, 0, none⟩ 1) fun x14 l15 c16 =>
          CALL Pg W F_prize_open [(.agg #[(.slice x11 l12 c13), (.slice x14 l15 c16)])]
            (fun v17 => TYP v17 fun p19 =>
              CALL Pg W F_prize_prizes_isMan [(.pointer p19), (.int .i64 n7)]
                (fun v20 => TYB v20 fun b22 =>
                  BR b22
                    (CALL Pg W F_prize_prizes_isPrize [(.pointer p19), (.int .i64 n8)]
                      (fun v23 => TYB v23 fun b25 =>
                        J_prize_Can_0 W R b25 p19 n7 n8 B10)
                        (fun e24 => DEF Pg W (.tuple #[(.func (.func 42) #[] #[]), (.tuple #[(.pointer (some ⟨B10, 0, none⟩))])]) (some e24) (RDI .i64 ⟨B10, 0, none⟩ fun n36 =>
                          R (.returned (.tuple #[(.bool false), (.int .i64 n36)])))))
                    (J_prize_Can_0 W R false p19 n7 n8 B10))
                  (fun e21 => DEF Pg W (.tuple #[(.func (.func 42) #[] #[]), (.tuple #[(.pointer (some ⟨B10, 0, none⟩))])]) (some e21) (RDI .i64 ⟨B10, 0, none⟩ fun n37 =>
                    R (.returned (.tuple #[(.bool false), (.int .i64 n37)])))))
              (fun e18 => DEF Pg W (.tuple #[(.func (.func 42) #[] #[]), (.tuple #[(.pointer (some ⟨B10, 0, none⟩))])]) (some e18) (RDI .i64 ⟨B10, 0, none⟩ fun n38 =>
                R (.returned (.tuple #[(.bool false), (.int .i64 n38)]))))
theorem T_prize_Can_eq (W : World) (x1 : Option Addr) (l2 : Nat) (c3 : Nat) (x4 : Option Addr) (l5 : Nat) (c6 : Nat) (n7 : Int) (n8 : Int) (R : Ending → Hp → Prop) : vfun Pg W an_15 Try.f15 [(.agg #[(.slice x1 l2 c3), (.slice x4 l5 c6)]), (.int .i64 n7), (.int .i64 n8)] R = T_prize_Can W x1 l2 c3 x4 l5 c6 n7 n8 R := by kernel_rfl
theorem does_prize_Can (W : World) (x1 : Option Addr) (l2 : Nat) (c3 : Nat) (x4 : Option Addr) (l5 : Nat) (c6 : Nat) (n7 : Int) (n8 : Int) (R : Ending → Hp → Prop) (s : Hp) (h : T_prize_Can W x1 l2 c3 x4 l5 c6 n7 n8 R s) : Does Pg W F_prize_Can #[(.agg #[(.slice x1 l2 c3), (.slice x4 l5 c6)]), (.int .i64 n7), (.int .i64 n8)] s R :=
  does_of_vfun Pg W an_15 Try.func15 rfl (by kernel_rfl) (by rw [T_prize_Can_eq]; exact h)
def an_17 : Nat → Ann := fun b => match b with
  | _ => {}
abbrev rv_17 : List ResultVar := [.tmp 2, .cell 3 29]
abbrev rs_17 : List Nat := [7, 2, 3]
def T_prize_Due (W : World) (x1 : Option Addr) (l2 : Nat) (c3 : Nat) (x4 : Option Addr) (l5 : Nat) (c6 : Nat) (R : Ending → Hp → Prop) : Hp → Prop :=
  NEW 25 [(.slice x1 l2 c3), (.slice x4 l5 c6)] fun B7 =>
    NEWZ Pg 29 fun B8 =>
      RDL (Addr.add ⟨B7, 0, none⟩ 0) fun x9 l10 c11 =>
        RDL (Addr.add ⟨B7, 0, none⟩ 1) fun x12 l13 c14 =>
          CALL Pg W F_prize_open [(.agg #[(.slice x9 l10 c11), (.slice x12 l13 c14)])]
            (fun v15 => TYP v15 fun p17 =>
              CALL Pg W F_prize_prizes_due [(.pointer p17)]
                (fun v18 => TYL v18 fun x20 l21 c22 =>
                  WR (Addr.add ⟨B8, 0, none⟩ 0) (.int .i64 0) <|
                    DEF Pg W (.tuple #[(.func (.func 42) #[] #[]), (.tuple #[(.pointer (some ⟨B8, 0, none⟩))])]) none
                      (RDI .i64 ⟨B8, 0, none⟩ fun n23 =>
                        R (.returned (.tuple #[(.slice x20 l21 c22), (.int .i64 n23)]))))
                  (fun e19 => DEF Pg W (.tuple #[(.func (.func 42) #[] #[]), (.tuple #[(.pointer (some ⟨B8, 0, none⟩))])]) (some e19) (RDI .i64 ⟨B8, 0, none⟩ fun n24 =>
                    R (.returned (.tuple #[(.slice none 0 0), (.int .i64 n24)])))))
              (fun e16 => DEF Pg W (.tuple #[(.func (.func 42) #[] #[]), (.tuple #[(.pointer (some ⟨B8, 0, none⟩))])]) (some e16) (RDI .i64 ⟨B8, 0, none⟩ fun n25 =>
                R (.returned (.tuple #[(.slice none 0 0), (.int .i64 n25)]))))
theorem T_prize_Due_eq (W : World) (x1 : Option Addr) (l2 : Nat) (c3 : Nat) (x4 : Option Addr) (l5 : Nat) (c6 : Nat) (R : Ending → Hp → Prop) : vfun Pg W an_17 Try.f17 [(.agg #[(.slice x1 l2 c3), (.slice x4 l5 c6)])] R = T_prize_Due W x1 l2 c3 x4 l5 c6 R := by kernel_rfl
theorem does_prize_Due (W : World) (x1 : Option Addr) (l2 : Nat) (c3 : Nat) (x4 : Option Addr) (l5 : Nat) (c6 : Nat) (R : Ending → Hp → Prop) (s : Hp) (h : T_prize_Due W x1 l2 c3 x4 l5 c6 R s) : Does Pg W F_prize_Due #[(.agg #[(.slice x1 l2 c3), (.slice x4 l5 c6)])] s R :=
  does_of_vfun Pg W an_17 Try.func17 rfl (by kernel_rfl) (by rw [T_prize_Due_eq]; exact h)
def an_19 : Nat → Ann := fun b => match b with
  | 0 => { ms := [19], ks := [.i .i64], us := [6, 8, 17, 18, 33], rt := false, ex := [] }
  | _ => {}
abbrev rv_19 : List ResultVar := [.tmp 4, .tmp 5, .cell 6 29]
abbrev rs_19 : List Nat := [33, 4, 5, 6]
def L_prize_Wrong_0 (W : World) (R : Ending → Hp → Prop) (za0 : Addr) (zp1 : Option Addr) (zl2 : Nat) (zl3 : Nat) (zp4 : Option Addr) (zl5 : Nat) (zl6 : Nat) (zn7 : Int) (n34 : Int) : Hp → Prop :=
  LOOPN [.i .i64] (fun ys next s => ∀ j : Tm, vc Pg W 33 rs_19 an_19 false (sub (bodyOf Try.f19) [1, 1, 1, 1, 0, 1, 0, 0]) 0 (KLoop [19] [6, 8, 17, 18, 33] [(.pointer (some za0)), (.slice zp1 zl2 zl3), (.slice zp4 zl5 zl6), (.int .i64 zn7), (.tuple #[(.func (.func 42) #[] #[]), (.tuple #[(.pointer (some za0))])])] next (KBlk 0 (KS Pg W 33 rs_19 an_19 false (sub (bodyOf Try.f19) [1, 1, 1, 1, 1]) 0 (fin Pg W 33 rv_19 R)))) (known [19] ys (known [6, 8, 17, 18, 33] [(.pointer (some za0)), (.slice zp1 zl2 zl3), (.slice zp4 zl5 zl6), (.int .i64 zn7), (.tuple #[(.func (.func 42) #[] #[]), (.tuple #[(.pointer (some za0))])])] j)) s) [(.int .i64 n34)]
def B_prize_Wrong_0 (W : World) (R : Ending → Hp → Prop) (za0 : Addr) (zp1 : Option Addr) (zl2 : Nat) (zl3 : Nat) (zp4 : Option Addr) (zl5 : Nat) (zl6 : Nat) (zn7 : Int) (n34 : Int) (nx0 : List Value → Hp → Prop) : Hp → Prop :=
  BR (decide (n34 < zn7))
    (IXS zp4 zl5 n34 1 fun a35 =>
      RDI .i64 a35 fun n36 =>
        IXS zp1 zl2 n34 1 fun a37 =>
          RDI .i64 a37 fun n38 =>
            BR (n38 != n36)
              (WR (Addr.add za0 0) (.int .i64 0) <|
                DEF Pg W (.tuple #[(.func (.func 42) #[] #[]), (.tuple #[(.pointer (some za0))])]) none
                  (RDI .i64 za0 fun n39 =>
                    R (.returned (.tuple #[(.int .i64 n34), (.int .i64 n36), (.int .i64 n39)]))))
              (NX [(.pointer (some za0)), (.slice zp1 zl2 zl3), (.slice zp4 zl5 zl6), (.int .i64 zn7), (.tuple #[(.func (.func 42) #[] #[]), (.tuple #[(.pointer (some za0))])])] [(.pointer (some za0)), (.slice zp1 zl2 zl3), (.slice zp4 zl5 zl6), (.int .i64 zn7), (.tuple #[(.func (.func 42) #[] #[]), (.tuple #[(.pointer (some za0))])])] (nx0 [(.int .i64 (IntKind.wrap .i64 (n34 + 1)))])))
    (WR (Addr.add za0 0) (.int .i64 4) <|
      DEF Pg W (.tuple #[(.func (.func 42) #[] #[]), (.tuple #[(.pointer (some za0))])]) none
        (RDI .i64 za0 fun n40 =>
          R (.returned (.tuple #[(.int .i64 0), (.int .i64 0), (.int .i64 n40)]))))
theorem B_prize_Wrong_0_eq (W : World) (R : Ending → Hp → Prop) (za0 : Addr) (zp1 : Option Addr) (zl2 : Nat) (zl3 : Nat) (zp4 : Option Addr) (zl5 : Nat) (zl6 : Nat) (zn7 : Int) (n34 : Int) (nx0 : List Value → Hp → Prop) (j : Tm) : vc Pg W 33 rs_19 an_19 false (sub (bodyOf Try.f19) [1, 1, 1, 1, 0, 1, 0, 0]) 0 (KLoop [19] [6, 8, 17, 18, 33] [(.pointer (some za0)), (.slice zp1 zl2 zl3), (.slice zp4 zl5 zl6), (.int .i64 zn7), (.tuple #[(.func (.func 42) #[] #[]), (.tuple #[(.pointer (some za0))])])] nx0 (KBlk 0 (KS Pg W 33 rs_19 an_19 false (sub (bodyOf Try.f19) [1, 1, 1, 1, 1]) 0 (fin Pg W 33 rv_19 R)))) (known [19] [(.int .i64 n34)] (known [6, 8, 17, 18, 33] [(.pointer (some za0)), (.slice zp1 zl2 zl3), (.slice zp4 zl5 zl6), (.int .i64 zn7), (.tuple #[(.func (.func 42) #[] #[]), (.tuple #[(.pointer (some za0))])])] j)) = B_prize_Wrong_0 W R za0 zp1 zl2 zl3 zp4 zl5 zl6 zn7 n34 nx0 := by kernel_rfl
def N_prize_Wrong_0 (I : Int → Hp → Prop) (μ : Int → Hp → Nat) (n340 : Int) (s : Hp) (vs : List Value) : Hp → Prop := fun s' => ∃ n34, vs = [(.int .i64 n34)] ∧ I n34 s' ∧ μ n34 s' < μ n340 s
theorem L_prize_Wrong_0_rule (W : World) (R : Ending → Hp → Prop) (za0 : Addr) (zp1 : Option Addr) (zl2 : Nat) (zl3 : Nat) (zp4 : Option Addr) (zl5 : Nat) (zl6 : Nat) (zn7 : Int) (I : Int → Hp → Prop) (μ : Int → Hp → Nat) (n340 : Int) (s : Hp) (h0 : I n340 s)
    (hr : ∀ (n34 : Int) (s : Hp), I n34 s → B_prize_Wrong_0 W R za0 zp1 zl2 zl3 zp4 zl5 zl6 zn7 n34 (fun vs => N_prize_Wrong_0 I μ n34 s vs) s) : L_prize_Wrong_0 W R za0 zp1 zl2 zl3 zp4 zl5 zl6 zn7 n340 s := by
  refine ⟨fun vs s => ∃ n34, vs = [(.int .i64 n34)] ∧ I n34 s, fun vs s => (match vs with | [.int _ n34] => μ n34 s | _ => 0), ⟨⟨⟨_, rfl⟩, trivial⟩, ⟨_, rfl, h0⟩⟩, ?_⟩
  intro n34 s hI j
  obtain ⟨n34', hy, hI⟩ := hI
  have hI' : I n34 s := by cases hy; exact hI
  have hh := hr n34 s hI'
  rw [← B_prize_Wrong_0_eq W R za0 zp1 zl2 zl3 zp4 zl5 zl6 zn7 n34 _ j] at hh
  refine vc_mono ?_ _ _ hh
  exact KLoop_mono (fun vs s' h => by obtain ⟨n341, rfl, h1, h2⟩ := h; exact ⟨⟨⟨_, rfl⟩, trivial⟩, ⟨_, rfl, h1⟩, h2⟩)
def T_prize_Wrong (W : World) (x1 : Option Addr) (l2 : Nat) (c3 : Nat) (x4 : Option Addr) (l5 : Nat) (c6 : Nat) (x7 : Option Addr) (l8 : Nat) (c9 : Nat) (R : Ending → Hp → Prop) : Hp → Prop :=
  NEW 25 [(.slice x1 l2 c3), (.slice x4 l5 c6)] fun B10 =>
    NEWZ Pg 29 fun B11 =>
      RDL (Addr.add ⟨B10, 0, none⟩ 0) fun x12 l13 c14 =>
        RDL (Addr.add ⟨B10, 0, none⟩ 1) fun x15 l16 c17 =>
          CALL Pg W F_prize_open [(.agg #[(.slice x12 l13 c14), (.slice x15 l16 c17)])]
            (fun v18 => TYP v18 fun p20 =>
              CALL Pg W F_prize_prizes_giving [(.pointer p20), (.slice x7 l8 c9)]
                (fun v21 => TYL v21 fun x23 l24 c25 =>
                  CALL Pg W F_prize_prizes_due [(.pointer p20)]
                    (fun v26 => TYL v26 fun x28 l29 c30 =>
                      L_prize_Wrong_0 W R ⟨B11, 0, none⟩ x23 l24 c25 x28 l29 c30 (↑l29 : Int) 0)
                      (fun e27 => DEF Pg W (.tuple #[(.func (.func 42) #[] #[]), (.tuple #[(.pointer (some ⟨B11, 0, none⟩))])]) (some e27) (RDI .i64 ⟨B11, 0, none⟩ fun n31 =>
                        R (.returned (.tuple #[(.int .i64 0), (.int .i64 0), (.int .i64 n31)])))))
                  (fun e22 => DEF Pg W (.tuple #[(.func (.func 42) #[] #[]), (.tuple #[(.pointer (some ⟨B11, 0, none⟩))])]) (some e22) (RDI .i64 ⟨B11, 0, none⟩ fun n32 =>
                    R (.returned (.tuple #[(.int .i64 0), (.int .i64 0), (.int .i64 n32)])))))
              (fun e19 => DEF Pg W (.tuple #[(.func (.func 42) #[] #[]), (.tuple #[(.pointer (some ⟨B11, 0, none⟩))])]) (some e19) (RDI .i64 ⟨B11, 0, none⟩ fun n33 =>
                R (.returned (.tuple #[(.int .i64 0), (.int .i64 0), (.int .i64 n33)]))))
theorem T_prize_Wrong_eq (W : World) (x1 : Option Addr) (l2 : Nat) (c3 : Nat) (x4 : Option Addr) (l5 : Nat) (c6 : Nat) (x7 : Option Addr) (l8 : Nat) (c9 : Nat) (R : Ending → Hp → Prop) : vfun Pg W an_19 Try.f19 [(.agg #[(.slice x1 l2 c3), (.slice x4 l5 c6)]), (.slice x7 l8 c9)] R = T_prize_Wrong W x1 l2 c3 x4 l5 c6 x7 l8 c9 R := by kernel_rfl
theorem does_prize_Wrong (W : World) (x1 : Option Addr) (l2 : Nat) (c3 : Nat) (x4 : Option Addr) (l5 : Nat) (c6 : Nat) (x7 : Option Addr) (l8 : Nat) (c9 : Nat) (R : Ending → Hp → Prop) (s : Hp) (h : T_prize_Wrong W x1 l2 c3 x4 l5 c6 x7 l8 c9 R s) : Does Pg W F_prize_Wrong #[(.agg #[(.slice x1 l2 c3), (.slice x4 l5 c6)]), (.slice x7 l8 c9)] s R :=
  does_of_vfun Pg W an_19 Try.func19 rfl (by kernel_rfl) (by rw [T_prize_Wrong_eq]; exact h)
def an_21 : Nat → Ann := fun b => match b with
  | _ => {}
abbrev rv_21 : List ResultVar := [.tmp 2, .tmp 3, .cell 4 29]
abbrev rs_21 : List Nat := [17, 2, 3, 4]
def T_prize_Club (W : World) (x1 : Option Addr) (l2 : Nat) (c3 : Nat) (x4 : Option Addr) (l5 : Nat) (c6 : Nat) (R : Ending → Hp → Prop) : Hp → Prop :=
  NEW 25 [(.slice x1 l2 c3), (.slice x4 l5 c6)] fun B7 =>
    NEWZ Pg 29 fun B8 =>
      RDL (Addr.add ⟨B7, 0, none⟩ 0) fun x9 l10 c11 =>
        RDL (Addr.add ⟨B7, 0, none⟩ 1) fun x12 l13 c14 =>
          CALL Pg W F_prize_open [(.agg #[(.slice x9 l10 c11), (.slice x12 l13 c14)])]
            (fun v15 => TYP v15 fun p17 =>
              CALL Pg W F_prize_prizes_best [(.pointer p17)]
                (fun v18 => AGG v18 fun q20 => HD q20 fun v21 r22 => TYI .i64 v21 fun n23 =>
                  HD r22 fun v24 r25 => TYI .i64 v24 fun n26 =>
                    NL r25 <|
                      NEWZ Pg 80 fun B27 =>
                        WR (Addr.add ⟨B27, 0, none⟩ 0) (.int .i64 n23) <|
                          WR (Addr.add ⟨B27, 0, none⟩ 1) (.int .i64 n26) <|
                            RDI .i64 (Addr.add ⟨B27, 0, none⟩ 0) fun n28 =>
                              RDI .i64 (Addr.add ⟨B27, 0, none⟩ 1) fun n29 =>
                                CALL Pg W F_prize_must [(.bool (!((n28 == 0) && (n29 == 0)))), (.int .i64 4)]
                                  (fun v30 => TUP v30 fun q32 => NL q32 <|
                                    RDI .i64 (Addr.add ⟨B27, 0, none⟩ 0) fun n33 =>
                                      RDI .i64 (Addr.add ⟨B27, 0, none⟩ 1) fun n34 =>
                                        ANDS (RDI .i64 (Addr.add ⟨B27, 0, none⟩ 1) fun n35 =>
                                          fun _ => ((.int .i64 n35) : Value) = (.int .i64 n34)) <|
                                          WR (Addr.add ⟨B8, 0, none⟩ 0) (.int .i64 0) <|
                                            DEF Pg W (.tuple #[(.func (.func 42) #[] #[]), (.tuple #[(.pointer (some ⟨B8, 0, none⟩))])]) none
                                              (RDI .i64 ⟨B8, 0, none⟩ fun n36 =>
                                                R (.returned (.tuple #[(.int .i64 n33), (.int .i64 n34), (.int .i64 n36)]))))
                                    (fun e31 => DEF Pg W (.tuple #[(.func (.func 42) #[] #[]), (.tuple #[(.pointer (some ⟨B8, 0, none⟩))])]) (some e31) (RDI .i64 ⟨B8, 0, none⟩ fun n37 =>
                                      R (.returned (.tuple #[(.int .i64 0), (.int .i64 0), (.int .i64 n37)])))))
                  (fun e19 => DEF Pg W (.tuple #[(.func (.func 42) #[] #[]), (.tuple #[(.pointer (some ⟨B8, 0, none⟩))])]) (some e19) (RDI .i64 ⟨B8, 0, none⟩ fun n38 =>
                    R (.returned (.tuple #[(.int .i64 0), (.int .i64 0), (.int .i64 n38)])))))
              (fun e16 => DEF Pg W (.tuple #[(.func (.func 42) #[] #[]), (.tuple #[(.pointer (some ⟨B8, 0, none⟩))])]) (some e16) (RDI .i64 ⟨B8, 0, none⟩ fun n39 =>
                R (.returned (.tuple #[(.int .i64 0), (.int .i64 0), (.int .i64 n39)]))))
theorem T_prize_Club_eq (W : World) (x1 : Option Addr) (l2 : Nat) (c3 : Nat) (x4 : Option Addr) (l5 : Nat) (c6 : Nat) (R : Ending → Hp → Prop) : vfun Pg W an_21 Try.f21 [(.agg #[(.slice x1 l2 c3), (.slice x4 l5 c6)])] R = T_prize_Club W x1 l2 c3 x4 l5 c6 R := by kernel_rfl
theorem does_prize_Club (W : World) (x1 : Option Addr) (l2 : Nat) (c3 : Nat) (x4 : Option Addr) (l5 : Nat) (c6 : Nat) (R : Ending → Hp → Prop) (s : Hp) (h : T_prize_Club W x1 l2 c3 x4 l5 c6 R s) : Does Pg W F_prize_Club #[(.agg #[(.slice x1 l2 c3), (.slice x4 l5 c6)])] s R :=
  does_of_vfun Pg W an_21 Try.func21 rfl (by kernel_rfl) (by rw [T_prize_Club_eq]; exact h)
def an_23 : Nat → Ann := fun b => match b with
  | 0 => { ms := [18], ks := [.i .i64], us := [4, 5, 6, 7, 8, 16, 17, 39], rt := false, ex := [] }
  | _ => {}
abbrev rv_23 : List ResultVar := [.tmp 4, .tmp 5, .cell 6 29]
abbrev rs_23 : List Nat := [39, 4, 5, 6]
def L_prize_Worth_0 (W : World) (R : Ending → Hp → Prop) (za0 : Addr) (zp1 : Option Addr) (zp2 : Option Addr) (zl3 : Nat) (zl4 : Nat) (zn5 : Int) (n28 : Int) : Hp → Prop :=
  LOOPN [.i .i64] (fun ys next s => ∀ j : Tm, vc Pg W 39 rs_23 an_23 false (sub (bodyOf Try.f23) [1, 1, 1, 1, 0, 1, 0, 0]) 0 (KLoop [18] [4, 5, 6, 7, 8, 16, 17, 39] [(.slice none 0 0), (.int .i64 0), (.pointer (some za0)), (.pointer zp1), (.slice zp2 zl3 zl4), (.slice zp2 zl3 zl4), (.int .i64 zn5), (.tuple #[(.func (.func 42) #[] #[]), (.tuple #[(.pointer (some za0))])])] next (KBlk 0 (KS Pg W 39 rs_23 an_23 false (sub (bodyOf Try.f23) [1, 1, 1, 1, 1]) 0 (fin Pg W 39 rv_23 R)))) (known [18] ys (known [4, 5, 6, 7, 8, 16, 17, 39] [(.slice none 0 0), (.int .i64 0), (.pointer (some za0)), (.pointer zp1), (.slice zp2 zl3 zl4), (.slice zp2 zl3 zl4), (.int .i64 zn5), (.tuple #[(.func (.func 42) #[] #[]), (.tuple #[(.pointer (some za0))])])] j)) s) [(.int .i64 n28)]
def J_prize_Worth_0 (W : World) (R : Ending → Hp → Prop) (b31 : Bool) (za0 : Addr) (zp1 : Option Addr) (zp2 : Option Addr) (zl3 : Nat) (zl4 : Nat) (zn5 : Int) (nx0 : List Value → Hp → Prop) (n28 : Int) : Hp → Prop :=
  CALL Pg W F_prize_must [(.bool b31), (.int .i64 4)]
    (fun v32 => TUP v32 fun q34 => NL q34 <|
      NX [(.slice none 0 0), (.int .i64 0), (.pointer (some za0)), (.pointer zp1), (.slice zp2 zl3 zl4), (.slice zp2 zl3 zl4), (.int .i64 zn5), (.tuple #[(.func (.func 42) #[] #[]), (.tuple #[(.pointer (some za0))])])] [(.slice none 0 0), (.int .i64 0), (.pointer (some za0)), (.pointer zp1), (.slice zp2 zl3 zl4), (.slice zp2 zl3 zl4), (.int .i64 zn5), (.tuple #[(.func (.func 42) #[] #[]), (.tuple #[(.pointer (some za0))])])] (nx0 [(.int .i64 (IntKind.wrap .i64 (n28 + 1)))]))
      (fun e33 => DEF Pg W (.tuple #[(.func (.func 42) #[] #[]), (.tuple #[(.pointer (some za0))])]) (some e33) (RDI .i64 za0 fun n35 =>
        R (.returned (.tuple #[(.slice none 0 0), (.int .i64 0), (.int .i64 n35)]))))
def B_prize_Worth_0 (W : World) (R : Ending → Hp → Prop) (za0 : Addr) (zp1 : Option Addr) (zp2 : Option Addr) (zl3 : Nat) (zl4 : Nat) (zn5 : Int) (n28 : Int) (nx0 : List Value → Hp → Prop) : Hp → Prop :=
  BR (decide (n28 < zn5))
    (IXS zp2 zl3 n28 1 fun a29 =>
      RDI .i64 a29 fun n30 =>
        BR (n30 == (-1))
          (J_prize_Worth_0 W R true za0 zp1 zp2 zl3 zl4 zn5 nx0 n28)
          (CALL Pg W F_prize_prizes_can [(.pointer zp1), (.int .i64 n30), (.int .i64 n28)]
            (fun v36 => TYB v36 fun b38 =>
              J_prize_Worth_0 W R b38 za0 zp1 zp2 zl3 zl4 zn5 nx0 n28)
              (fun e37 => DEF Pg W (.tuple #[(.func (.func 42) #[] #[]), (.tuple #[(.pointer (some za0))])]) (some e37) (RDI .i64 za0 fun n39 =>
                R (.returned (.tuple #[(.slice none 0 0), (.int .i64 0), (.int .i64 n39)]))))))
    (CALL Pg W F_prize_prizes_worths [(.pointer zp1), (.slice zp2 zl3 zl4)]
      (fun v40 => TYL v40 fun x42 l43 c44 =>
        CALL Pg W F_prize_total [(.slice x42 l43 c44)]
          (fun v45 => TYI .i64 v45 fun n47 =>
            WR (Addr.add za0 0) (.int .i64 0) <|
              DEF Pg W (.tuple #[(.func (.func 42) #[] #[]), (.tuple #[(.pointer (some za0))])]) none
                (RDI .i64 za0 fun n48 =>
                  R (.returned (.tuple #[(.slice x42 l43 c44), (.int .i64 n47), (.int .i64 n48)]))))
            (fun e46 => DEF Pg W (.tuple #[(.func (.func 42) #[] #[]), (.tuple #[(.pointer (some za0))])]) (some e46) (RDI .i64 za0 fun n49 =>
              R (.returned (.tuple #[(.slice x42 l43 c44), (.int .i64 0), (.int .i64 n49)])))))
        (fun e41 => DEF Pg W (.tuple #[(.func (.func 42) #[] #[]), (.tuple #[(.pointer (some za0))])]) (some e41) (RDI .i64 za0 fun n50 =>
          R (.returned (.tuple #[(.slice none 0 0), (.int .i64 0), (.int .i64 n50)])))))
theorem B_prize_Worth_0_eq (W : World) (R : Ending → Hp → Prop) (za0 : Addr) (zp1 : Option Addr) (zp2 : Option Addr) (zl3 : Nat) (zl4 : Nat) (zn5 : Int) (n28 : Int) (nx0 : List Value → Hp → Prop) (j : Tm) : vc Pg W 39 rs_23 an_23 false (sub (bodyOf Try.f23) [1, 1, 1, 1, 0, 1, 0, 0]) 0 (KLoop [18] [4, 5, 6, 7, 8, 16, 17, 39] [(.slice none 0 0), (.int .i64 0), (.pointer (some za0)), (.pointer zp1), (.slice zp2 zl3 zl4), (.slice zp2 zl3 zl4), (.int .i64 zn5), (.tuple #[(.func (.func 42) #[] #[]), (.tuple #[(.pointer (some za0))])])] nx0 (KBlk 0 (KS Pg W 39 rs_23 an_23 false (sub (bodyOf Try.f23) [1, 1, 1, 1, 1]) 0 (fin Pg W 39 rv_23 R)))) (known [18] [(.int .i64 n28)] (known [4, 5, 6, 7, 8, 16, 17, 39] [(.slice none 0 0), (.int .i64 0), (.pointer (some za0)), (.pointer zp1), (.slice zp2 zl3 zl4), (.slice zp2 zl3 zl4), (.int .i64 zn5), (.tuple #[(.func (.func 42) #[] #[]), (.tuple #[(.pointer (some za0))])])] j)) = B_prize_Worth_0 W R za0 zp1 zp2 zl3 zl4 zn5 n28 nx0 := by kernel_rfl
def N_prize_Worth_0 (I : Int → Hp → Prop) (μ : Int → Hp → Nat) (n280 : Int) (s : Hp) (vs : List Value) : Hp → Prop := fun s' => ∃ n28, vs = [(.int .i64 n28)] ∧ I n28 s' ∧ μ n28 s' < μ n280 s
theorem L_prize_Worth_0_rule (W : World) (R : Ending → Hp → Prop) (za0 : Addr) (zp1 : Option Addr) (zp2 : Option Addr) (zl3 : Nat) (zl4 : Nat) (zn5 : Int) (I : Int → Hp → Prop) (μ : Int → Hp → Nat) (n280 : Int) (s : Hp) (h0 : I n280 s)
    (hr : ∀ (n28 : Int) (s : Hp), I n28 s → B_prize_Worth_0 W R za0 zp1 zp2 zl3 zl4 zn5 n28 (fun vs => N_prize_Worth_0 I μ n28 s vs) s) : L_prize_Worth_0 W R za0 zp1 zp2 zl3 zl4 zn5 n280 s := by
  refine ⟨fun vs s => ∃ n28, vs = [(.int .i64 n28)] ∧ I n28 s, fun vs s => (match vs with | [.int _ n28] => μ n28 s | _ => 0), ⟨⟨⟨_, rfl⟩, trivial⟩, ⟨_, rfl, h0⟩⟩, ?_⟩
  intro n28 s hI j
  obtain ⟨n28', hy, hI⟩ := hI
  have hI' : I n28 s := by cases hy; exact hI
  have hh := hr n28 s hI'
  rw [← B_prize_Worth_0_eq W R za0 zp1 zp2 zl3 zl4 zn5 n28 _ j] at hh
  refine vc_mono ?_ _ _ hh
  exact KLoop_mono (fun vs s' h => by obtain ⟨n281, rfl, h1, h2⟩ := h; exact ⟨⟨⟨_, rfl⟩, trivial⟩, ⟨_, rfl, h1⟩, h2⟩)
def T_prize_Worth (W : World) (x1 : Option Addr) (l2 : Nat) (c3 : Nat) (x4 : Option Addr) (l5 : Nat) (c6 : Nat) (x7 : Option Addr) (l8 : Nat) (c9 : Nat) (R : Ending → Hp → Prop) : Hp → Prop :=
  NEW 25 [(.slice x1 l2 c3), (.slice x4 l5 c6)] fun B10 =>
    NEWZ Pg 29 fun B11 =>
      RDL (Addr.add ⟨B10, 0, none⟩ 0) fun x12 l13 c14 =>
        RDL (Addr.add ⟨B10, 0, none⟩ 1) fun x15 l16 c17 =>
          CALL Pg W F_prize_open [(.agg #[(.slice x12 l13 c14), (.slice x15 l16 c17)])]
            (fun v18 => TYP v18 fun p20 =>
              CALL Pg W F_prize_prizes_giving [(.pointer p20), (.slice x7 l8 c9)]
                (fun v21 => TYL v21 fun x23 l24 c25 =>
                  L_prize_Worth_0 W R ⟨B11, 0, none⟩ p20 x23 l24 c25 (↑l24 : Int) 0)
                  (fun e22 => DEF Pg W (.tuple #[(.func (.func 42) #[] #[]), (.tuple #[(.pointer (some ⟨B11, 0, none⟩))])]) (some e22) (RDI .i64 ⟨B11, 0, none⟩ fun n26 =>
                    R (.returned (.tuple #[(.slice none 0 0), (.int .i64 0), (.int .i64 n26)])))))
              (fun e19 => DEF Pg W (.tuple #[(.func (.func 42) #[] #[]), (.tuple #[(.pointer (some ⟨B11, 0, none⟩))])]) (some e19) (RDI .i64 ⟨B11, 0, none⟩ fun n27 =>
                R (.returned (.tuple #[(.slice none 0 0), (.int .i64 0), (.int .i64 n27)]))))
theorem T_prize_Worth_eq (W : World) (x1 : Option Addr) (l2 : Nat) (c3 : Nat) (x4 : Option Addr) (l5 : Nat) (c6 : Nat) (x7 : Option Addr) (l8 : Nat) (c9 : Nat) (R : Ending → Hp → Prop) : vfun Pg W an_23 Try.f23 [(.agg #[(.slice x1 l2 c3), (.slice x4 l5 c6)]), (.slice x7 l8 c9)] R = T_prize_Worth W x1 l2 c3 x4 l5 c6 x7 l8 c9 R := by kernel_rfl
theorem does_prize_Worth (W : World) (x1 : Option Addr) (l2 : Nat) (c3 : Nat) (x4 : Option Addr) (l5 : Nat) (c6 : Nat) (x7 : Option Addr) (l8 : Nat) (c9 : Nat) (R : Ending → Hp → Prop) (s : Hp) (h : T_prize_Worth W x1 l2 c3 x4 l5 c6 x7 l8 c9 R s) : Does Pg W F_prize_Worth #[(.agg #[(.slice x1 l2 c3), (.slice x4 l5 c6)]), (.slice x7 l8 c9)] s R :=
  does_of_vfun Pg W an_23 Try.func23 rfl (by kernel_rfl) (by rw [T_prize_Worth_eq]; exact h)
def an_27 : Nat → Ann := fun b => match b with
  | 0 => { ms := [3, 7, 26], ks := [.l, .i .i64, .i .i64], us := [2, 4, 5, 6, 25, 81], rt := false, ex := [] }
  | 2 => { ms := [9, 43], ks := [.i .i64, .i .i64], us := [2, 3, 4, 5, 6, 7, 8, 25, 26, 42, 81], rt := false, ex := [] }
  | _ => {}
abbrev rv_27 : List ResultVar := [.tmp 2, .tmp 3, .cell 4 29]
abbrev rs_27 : List Nat := [81, 2, 3, 4]
def L_prize_Most_0 (W : World) (R : Ending → Hp → Prop) (zn0 : Int) (za1 : Addr) (zp2 : Option Addr) (zm3 : Option Nat) (zn4 : Int) (x29 : Option Addr) (l30 : Nat) (c31 : Nat) (n32 : Int) (n33 : Int) : Hp → Prop :=
  LOOPN [.l, .i .i64, .i .i64] (fun ys next s => ∀ j : Tm, vc Pg W 81 rs_27 an_27 false (sub (bodyOf Try.f27) [1, 1, 1, 1, 1, 1, 1, 0, 1, 0, 0]) 0 (KLoop [3, 7, 26] [2, 4, 5, 6, 25, 81] [(.int .i64 zn0), (.pointer (some za1)), (.pointer zp2), (.map zm3), (.int .i64 zn4), (.tuple #[(.func (.func 42) #[] #[]), (.tuple #[(.pointer (some za1))])])] next (KBlk 0 (KS Pg W 81 rs_27 an_27 false (sub (bodyOf Try.f27) [1, 1, 1, 1, 1, 1, 1, 1]) 0 (fin Pg W 81 rv_27 R)))) (known [3, 7, 26] ys (known [2, 4, 5, 6, 25, 81] [(.int .i64 zn0), (.pointer (some za1)), (.pointer zp2), (.map zm3), (.int .i64 zn4), (.tuple #[(.func (.func 42) #[] #[]), (.tuple #[(.pointer (some za1))])])] j)) s) [(.slice x29 l30 c31), (.int .i64 n32), (.int .i64 n33)]
def L_prize_Most_1 (W : World) (R : Ending → Hp → Prop) (nx0 : List Value → Hp → Prop) (zn0 : Int) (zp1 : Option Addr) (zl2 : Nat) (zl3 : Nat) (za4 : Addr) (zp5 : Option Addr) (zm6 : Option Nat) (zn7 : Int) (zn8 : Int) (zn9 : Int) (zn10 : Int) (n47 : Int) (n48 : Int) : Hp → Prop :=
  LOOPN [.i .i64, .i .i64] (fun ys next s => ∀ j : Tm, vc Pg W 81 rs_27 an_27 false (sub (bodyOf Try.f27) [1, 1, 1, 1, 1, 1, 1, 0, 1, 0, 0, 1, 1, 0, 0, 1, 1, 0, 1, 0, 0, 1, 0, 0]) 2 (KLoop [9, 43] [2, 3, 4, 5, 6, 7, 8, 25, 26, 42, 81] [(.int .i64 zn0), (.slice zp1 zl2 zl3), (.pointer (some za4)), (.pointer zp5), (.map zm6), (.int .i64 zn7), (.int .i64 zn8), (.int .i64 zn9), (.int .i64 zn8), (.int .i64 zn10), (.tuple #[(.func (.func 42) #[] #[]), (.tuple #[(.pointer (some za4))])])] next (KBlk 2 (KS Pg W 81 rs_27 an_27 false (sub (bodyOf Try.f27) [1, 1, 1, 1, 1, 1, 1, 0, 1, 0, 0, 1, 1, 0, 0, 1, 1, 0, 1, 0, 1]) 1 (KS Pg W 81 rs_27 an_27 false (sub (bodyOf Try.f27) [1, 1, 1, 1, 1, 1, 1, 0, 1, 0, 0, 1, 1, 0, 0, 1, 1, 1]) 1 (KBlk 1 (KS Pg W 81 rs_27 an_27 false (sub (bodyOf Try.f27) [1, 1, 1, 1, 1, 1, 1, 0, 1, 0, 0, 1, 1, 1]) 0 (KLoop [3, 7, 26] [2, 4, 5, 6, 25, 81] [(.int .i64 zn0), (.pointer (some za4)), (.pointer zp5), (.map zm6), (.int .i64 zn9), (.tuple #[(.func (.func 42) #[] #[]), (.tuple #[(.pointer (some za4))])])] nx0 (KBlk 0 (KS Pg W 81 rs_27 an_27 false (sub (bodyOf Try.f27) [1, 1, 1, 1, 1, 1, 1, 1]) 0 (fin Pg W 81 rv_27 R)))))))))) (known [9, 43] ys (known [2, 3, 4, 5, 6, 7, 8, 25, 26, 42, 81] [(.int .i64 zn0), (.slice zp1 zl2 zl3), (.pointer (some za4)), (.pointer zp5), (.map zm6), (.int .i64 zn7), (.int .i64 zn8), (.int .i64 zn9), (.int .i64 zn8), (.int .i64 zn10), (.tuple #[(.func (.func 42) #[] #[]), (.tuple #[(.pointer (some za4))])])] j)) s) [(.int .i64 n47), (.int .i64 n48)]
def J_prize_Most_0 (W : World) (R : Ending → Hp → Prop) (zn0 : Int) (zp1 : Option Addr) (zl2 : Nat) (zl3 : Nat) (za4 : Addr) (zp5 : Option Addr) (zm6 : Option Nat) (zn7 : Int) (zn8 : Int) (zn9 : Int) (zn10 : Int) (nx1 : List Value → Hp → Prop) (n53 : Int) (n48 : Int) : Hp → Prop :=
  NX [(.int .i64 zn0), (.slice zp1 zl2 zl3), (.pointer (some za4)), (.pointer zp5), (.map zm6), (.int .i64 zn7), (.int .i64 zn8), (.int .i64 zn9), (.int .i64 zn8), (.int .i64 zn10), (.tuple #[(.func (.func 42) #[] #[]), (.tuple #[(.pointer (some za4))])])] [(.int .i64 zn0), (.slice zp1 zl2 zl3), (.pointer (some za4)), (.pointer zp5), (.map zm6), (.int .i64 zn7), (.int .i64 zn8), (.int .i64 zn9), (.int .i64 zn8), (.int .i64 zn10), (.tuple #[(.func (.func 42) #[] #[]), (.tuple #[(.pointer (some za4))])])] (nx1 [(.int .i64 n53), (.int .i64 (IntKind.wrap .i64 (n48 + 1)))])
def J_prize_Most_1 (W : World) (R : Ending → Hp → Prop) (b52 : Bool) (zn0 : Int) (zp1 : Option Addr) (zl2 : Nat) (zl3 : Nat) (za4 : Addr) (zp5 : Option Addr) (zm6 : Option Nat) (zn7 : Int) (zn8 : Int) (zn9 : Int) (zn10 : Int) (nx1 : List Value → Hp → Prop) (n47 : Int) (n48 : Int) (nx0 : List Value → Hp → Prop) : Hp → Prop :=
  BR b52
    (J_prize_Most_0 W R zn0 zp1 zl2 zl3 za4 zp5 zm6 zn7 zn8 zn9 zn10 nx1 n47 n48)
    (MUP Pg 88 (.map zm6) (.int .i64 n48) (.bool true) <|
      CALL Pg W F_prize_prizes_most [(.pointer zp5), (.int .i64 (IntKind.wrap .i64 (zn8 + 1))), (.func (.func 65) #[(.map zm6)] #[])]
        (fun v54 => TYI .i64 v54 fun n56 =>
          BR (n56 == (IntKind.wrap .i64 (zn7 - 1)))
            (NEW 3 [(.int .i64 n48)] fun B57 =>
              APP Pg 3 1 zp1 zl2 zl3 (some ⟨B57, 0, none⟩) 1 fun x58 l59 c60 =>
                NX [(.int .i64 zn0), (.pointer (some za4)), (.pointer zp5), (.map zm6), (.int .i64 zn9), (.tuple #[(.func (.func 42) #[] #[]), (.tuple #[(.pointer (some za4))])])] [(.int .i64 zn0), (.pointer (some za4)), (.pointer zp5), (.map zm6), (.int .i64 zn9), (.tuple #[(.func (.func 42) #[] #[]), (.tuple #[(.pointer (some za4))])])] (nx0 [(.slice x58 l59 c60), (.int .i64 (IntKind.wrap .i64 (zn7 - 1))), (.int .i64 (IntKind.wrap .i64 (zn8 + 1)))]))
            (MUP Pg 88 (.map zm6) (.int .i64 n48) (.bool false) <|
              J_prize_Most_0 W R zn0 zp1 zl2 zl3 za4 zp5 zm6 zn7 zn8 zn9 zn10 nx1 n47 n48))
          (fun e55 => DEF Pg W (.tuple #[(.func (.func 42) #[] #[]), (.tuple #[(.pointer (some za4))])]) (some e55) (RDI .i64 za4 fun n61 =>
            R (.returned (.tuple #[(.int .i64 zn0), (.slice zp1 zl2 zl3), (.int .i64 n61)])))))
def B_prize_Most_0 (W : World) (R : Ending → Hp → Prop) (zn0 : Int) (za1 : Addr) (zp2 : Option Addr) (zm3 : Option Nat) (zn4 : Int) (x29 : Option Addr) (l30 : Nat) (c31 : Nat) (n32 : Int) (n33 : Int) (nx0 : List Value → Hp → Prop) : Hp → Prop :=
  BR (decide (n33 < zn4))
    (CALL Pg W F_prize_prizes_most [(.pointer zp2), (.int .i64 (IntKind.wrap .i64 (n33 + 1))), (.func (.func 65) #[(.map zm3)] #[])]
      (fun v34 => TYI .i64 v34 fun n36 =>
        BR (decide (n36 < n32))
          (SO zp2 fun a37 =>
            RDL (Addr.add (Addr.add a37 0) 0) fun x38 l39 c40 =>
              L_prize_Most_1 W R nx0 zn0 x29 l30 c31 za1 zp2 zm3 n32 n33 zn4 (↑l39 : Int) (-1) 0)
          (NEW 3 [(.int .i64 (-1))] fun B41 =>
            APP Pg 3 1 x29 l30 c31 (some ⟨B41, 0, none⟩) 1 fun x42 l43 c44 =>
              NX [(.int .i64 zn0), (.pointer (some za1)), (.pointer zp2), (.map zm3), (.int .i64 zn4), (.tuple #[(.func (.func 42) #[] #[]), (.tuple #[(.pointer (some za1))])])] [(.int .i64 zn0), (.pointer (some za1)), (.pointer zp2), (.map zm3), (.int .i64 zn4), (.tuple #[(.func (.func 42) #[] #[]), (.tuple #[(.pointer (some za1))])])] (nx0 [(.slice x42 l43 c44), (.int .i64 n32), (.int .i64 (IntKind.wrap .i64 (n33 + 1)))])))
        (fun e35 => DEF Pg W (.tuple #[(.func (.func 42) #[] #[]), (.tuple #[(.pointer (some za1))])]) (some e35) (RDI .i64 za1 fun n45 =>
          R (.returned (.tuple #[(.int .i64 zn0), (.slice x29 l30 c31), (.int .i64 n45)])))))
    (WR (Addr.add za1 0) (.int .i64 0) <|
      DEF Pg W (.tuple #[(.func (.func 42) #[] #[]), (.tuple #[(.pointer (some za1))])]) none
        (RDI .i64 za1 fun n46 =>
          R (.returned (.tuple #[(.int .i64 zn0), (.slice x29 l30 c31), (.int .i64 n46)]))))
theorem B_prize_Most_0_eq (W : World) (R : Ending → Hp → Prop) (zn0 : Int) (za1 : Addr) (zp2 : Option Addr) (zm3 : Option Nat) (zn4 : Int) (x29 : Option Addr) (l30 : Nat) (c31 : Nat) (n32 : Int) (n33 : Int) (nx0 : List Value → Hp → Prop) (j : Tm) : vc Pg W 81 rs_27 an_27 false (sub (bodyOf Try.f27) [1, 1, 1, 1, 1, 1, 1, 0, 1, 0, 0]) 0 (KLoop [3, 7, 26] [2, 4, 5, 6, 25, 81] [(.int .i64 zn0), (.pointer (some za1)), (.pointer zp2), (.map zm3), (.int .i64 zn4), (.tuple #[(.func (.func 42) #[] #[]), (.tuple #[(.pointer (some za1))])])] nx0 (KBlk 0 (KS Pg W 81 rs_27 an_27 false (sub (bodyOf Try.f27) [1, 1, 1, 1, 1, 1, 1, 1]) 0 (fin Pg W 81 rv_27 R)))) (known [3, 7, 26] [(.slice x29 l30 c31), (.int .i64 n32), (.int .i64 n33)] (known [2, 4, 5, 6, 25, 81] [(.int .i64 zn0), (.pointer (some za1)), (.pointer zp2), (.map zm3), (.int .i64 zn4), (.tuple #[(.func (.func 42) #[] #[]), (.tuple #[(.pointer (some za1))])])] j)) = B_prize_Most_0 W R zn0 za1 zp2 zm3 zn4 x29 l30 c31 n32 n33 nx0 := by kernel_rfl
def N_prize_Most_0 (I : Option Addr → Nat → Nat → Int → Int → Hp → Prop) (μ : Option Addr → Nat → Nat → Int → Int → Hp → Nat) (x290 : Option Addr) (l300 : Nat) (c310 : Nat) (n320 : Int) (n330 : Int) (s : Hp) (vs : List Value) : Hp → Prop := fun s' => ∃ x29 l30 c31 n32 n33, vs = [(.slice x29 l30 c31), (.int .i64 n32), (.int .i64 n33)] ∧ I x29 l30 c31 n32 n33 s' ∧ μ x29 l30 c31 n32 n33 s' < μ x290 l300 c310 n320 n330 s
theorem L_prize_Most_0_rule (W : World) (R : Ending → Hp → Prop) (zn0 : Int) (za1 : Addr) (zp2 : Option Addr) (zm3 : Option Nat) (zn4 : Int) (I : Option Addr → Nat → Nat → Int → Int → Hp → Prop) (μ : Option Addr → Nat → Nat → Int → Int → Hp → Nat) (x290 : Option Addr) (l300 : Nat) (c310 : Nat) (n320 : Int) (n330 : Int) (s : Hp) (h0 : I x290 l300 c310 n320 n330 s)
    (hr : ∀ (x29 : Option Addr) (l30 : Nat) (c31 : Nat) (n32 : Int) (n33 : Int) (s : Hp), I x29 l30 c31 n32 n33 s → B_prize_Most_0 W R zn0 za1 zp2 zm3 zn4 x29 l30 c31 n32 n33 (fun vs => N_prize_Most_0 I μ x29 l30 c31 n32 n33 s vs) s) : L_prize_Most_0 W R zn0 za1 zp2 zm3 zn4 x290 l300 c310 n320 n330 s := by
  refine ⟨fun vs s => ∃ x29 l30 c31 n32 n33, vs = [(.slice x29 l30 c31), (.int .i64 n32), (.int .i64 n33)] ∧ I x29 l30 c31 n32 n33 s, fun vs s => (match vs with | [.slice x29 l30 c31, .int _ n32, .int _ n33] => μ x29 l30 c31 n32 n33 s | _ => 0), ⟨⟨⟨_, _, _, rfl⟩, ⟨⟨_, rfl⟩, ⟨⟨_, rfl⟩, trivial⟩⟩⟩, ⟨_, _, _, _, _, rfl, h0⟩⟩, ?_⟩
  intro x29 l30 c31 n32 n33 s hI j
  obtain ⟨x29', l30', c31', n32', n33', hy, hI⟩ := hI
  have hI' : I x29 l30 c31 n32 n33 s := by cases hy; exact hI
  have hh := hr x29 l30 c31 n32 n33 s hI'
  rw [← B_prize_Most_0_eq W R zn0 za1 zp2 zm3 zn4 x29 l30 c31 n32 n33 _ j] at hh
  refine vc_mono ?_ _ _ hh
  exact KLoop_mono (fun vs s' h => by obtain ⟨x291, l301, c311, n321, n331, rfl, h1, h2⟩ := h; exact ⟨⟨⟨_, _, _, rfl⟩, ⟨⟨_, rfl⟩, ⟨⟨_, rfl⟩, trivial⟩⟩⟩, ⟨_, _, _, _, _, rfl, h1⟩, h2⟩)
def B_prize_Most_1 (W : World) (R : Ending → Hp → Prop) (nx0 : List Value → Hp → Prop) (zn0 : Int) (zp1 : Option Addr) (zl2 : Nat) (zl3 : Nat) (za4 : Addr) (zp5 : Option Addr) (zm6 : Option Nat) (zn7 : Int) (zn8 : Int) (zn9 : Int) (zn10 : Int) (n47 : Int) (n48 : Int) (nx1 : List Value → Hp → Prop) : Hp → Prop :=
  BR (decide (n48 < zn10))
    (CALL Pg W F_prize_taken_left [(.map zm6), (.int .i64 n48)]
      (fun v49 => TYB v49 fun b51 =>
        BR (!b51)
          (J_prize_Most_1 W R true zn0 zp1 zl2 zl3 za4 zp5 zm6 zn7 zn8 zn9 zn10 nx1 n47 n48 nx0)
          (CALL Pg W F_prize_prizes_can [(.pointer zp5), (.int .i64 n48), (.int .i64 zn8)]
            (fun v62 => TYB v62 fun b64 =>
              J_prize_Most_1 W R (!b64) zn0 zp1 zl2 zl3 za4 zp5 zm6 zn7 zn8 zn9 zn10 nx1 n47 n48 nx0)
              (fun e63 => DEF Pg W (.tuple #[(.func (.func 42) #[] #[]), (.tuple #[(.pointer (some za4))])]) (some e63) (RDI .i64 za4 fun n65 =>
                R (.returned (.tuple #[(.int .i64 zn0), (.slice zp1 zl2 zl3), (.int .i64 n65)]))))))
        (fun e50 => DEF Pg W (.tuple #[(.func (.func 42) #[] #[]), (.tuple #[(.pointer (some za4))])]) (some e50) (RDI .i64 za4 fun n66 =>
          R (.returned (.tuple #[(.int .i64 zn0), (.slice zp1 zl2 zl3), (.int .i64 n66)])))))
    (NEW 3 [(.int .i64 n47)] fun B67 =>
      APP Pg 3 1 zp1 zl2 zl3 (some ⟨B67, 0, none⟩) 1 fun x68 l69 c70 =>
        NX [(.int .i64 zn0), (.pointer (some za4)), (.pointer zp5), (.map zm6), (.int .i64 zn9), (.tuple #[(.func (.func 42) #[] #[]), (.tuple #[(.pointer (some za4))])])] [(.int .i64 zn0), (.pointer (some za4)), (.pointer zp5), (.map zm6), (.int .i64 zn9), (.tuple #[(.func (.func 42) #[] #[]), (.tuple #[(.pointer (some za4))])])] (nx0 [(.slice x68 l69 c70), (.int .i64 (IntKind.wrap .i64 (zn7 - 1))), (.int .i64 (IntKind.wrap .i64 (zn8 + 1)))]))
theorem B_prize_Most_1_eq (W : World) (R : Ending → Hp → Prop) (nx0 : List Value → Hp → Prop) (zn0 : Int) (zp1 : Option Addr) (zl2 : Nat) (zl3 : Nat) (za4 : Addr) (zp5 : Option Addr) (zm6 : Option Nat) (zn7 : Int) (zn8 : Int) (zn9 : Int) (zn10 : Int) (n47 : Int) (n48 : Int) (nx1 : List Value → Hp → Prop) (j : Tm) : vc Pg W 81 rs_27 an_27 false (sub (bodyOf Try.f27) [1, 1, 1, 1, 1, 1, 1, 0, 1, 0, 0, 1, 1, 0, 0, 1, 1, 0, 1, 0, 0, 1, 0, 0]) 2 (KLoop [9, 43] [2, 3, 4, 5, 6, 7, 8, 25, 26, 42, 81] [(.int .i64 zn0), (.slice zp1 zl2 zl3), (.pointer (some za4)), (.pointer zp5), (.map zm6), (.int .i64 zn7), (.int .i64 zn8), (.int .i64 zn9), (.int .i64 zn8), (.int .i64 zn10), (.tuple #[(.func (.func 42) #[] #[]), (.tuple #[(.pointer (some za4))])])] nx1 (KBlk 2 (KS Pg W 81 rs_27 an_27 false (sub (bodyOf Try.f27) [1, 1, 1, 1, 1, 1, 1, 0, 1, 0, 0, 1, 1, 0, 0, 1, 1, 0, 1, 0, 1]) 1 (KS Pg W 81 rs_27 an_27 false (sub (bodyOf Try.f27) [1, 1, 1, 1, 1, 1, 1, 0, 1, 0, 0, 1, 1, 0, 0, 1, 1, 1]) 1 (KBlk 1 (KS Pg W 81 rs_27 an_27 false (sub (bodyOf Try.f27) [1, 1, 1, 1, 1, 1, 1, 0, 1, 0, 0, 1, 1, 1]) 0 (KLoop [3, 7, 26] [2, 4, 5, 6, 25, 81] [(.int .i64 zn0), (.pointer (some za4)), (.pointer zp5), (.map zm6), (.int .i64 zn9), (.tuple #[(.func (.func 42) #[] #[]), (.tuple #[(.pointer (some za4))])])] nx0 (KBlk 0 (KS Pg W 81 rs_27 an_27 false (sub (bodyOf Try.f27) [1, 1, 1, 1, 1, 1, 1, 1]) 0 (fin Pg W 81 rv_27 R)))))))))) (known [9, 43] [(.int .i64 n47), (.int .i64 n48)] (known [2, 3, 4, 5, 6, 7, 8, 25, 26, 42, 81] [(.int .i64 zn0), (.slice zp1 zl2 zl3), (.pointer (some za4)), (.pointer zp5), (.map zm6), (.int .i64 zn7), (.int .i64 zn8), (.int .i64 zn9), (.int .i64 zn8), (.int .i64 zn10), (.tuple #[(.func (.func 42) #[] #[]), (.tuple #[(.pointer (some za4))])])] j)) = B_prize_Most_1 W R nx0 zn0 zp1 zl2 zl3 za4 zp5 zm6 zn7 zn8 zn9 zn10 n47 n48 nx1 := by kernel_rfl
def N_prize_Most_1 (I : Int → Int → Hp → Prop) (μ : Int → Int → Hp → Nat) (n470 : Int) (n480 : Int) (s : Hp) (vs : List Value) : Hp → Prop := fun s' => ∃ n47 n48, vs = [(.int .i64 n47), (.int .i64 n48)] ∧ I n47 n48 s' ∧ μ n47 n48 s' < μ n470 n480 s
theorem L_prize_Most_1_rule (W : World) (R : Ending → Hp → Prop) (nx0 : List Value → Hp → Prop) (zn0 : Int) (zp1 : Option Addr) (zl2 : Nat) (zl3 : Nat) (za4 : Addr) (zp5 : Option Addr) (zm6 : Option Nat) (zn7 : Int) (zn8 : Int) (zn9 : Int) (zn10 : Int) (I : Int → Int → Hp → Prop) (μ : Int → Int → Hp → Nat) (n470 : Int) (n480 : Int) (s : Hp) (h0 : I n470 n480 s)
    (hr : ∀ (n47 : Int) (n48 : Int) (s : Hp), I n47 n48 s → B_prize_Most_1 W R nx0 zn0 zp1 zl2 zl3 za4 zp5 zm6 zn7 zn8 zn9 zn10 n47 n48 (fun vs => N_prize_Most_1 I μ n47 n48 s vs) s) : L_prize_Most_1 W R nx0 zn0 zp1 zl2 zl3 za4 zp5 zm6 zn7 zn8 zn9 zn10 n470 n480 s := by
  refine ⟨fun vs s => ∃ n47 n48, vs = [(.int .i64 n47), (.int .i64 n48)] ∧ I n47 n48 s, fun vs s => (match vs with | [.int _ n47, .int _ n48] => μ n47 n48 s | _ => 0), ⟨⟨⟨_, rfl⟩, ⟨⟨_, rfl⟩, trivial⟩⟩, ⟨_, _, rfl, h0⟩⟩, ?_⟩
  intro n47 n48 s hI j
  obtain ⟨n47', n48', hy, hI⟩ := hI
  have hI' : I n47 n48 s := by cases hy; exact hI
  have hh := hr n47 n48 s hI'
  rw [← B_prize_Most_1_eq W R nx0 zn0 zp1 zl2 zl3 za4 zp5 zm6 zn7 zn8 zn9 zn10 n47 n48 _ j] at hh
  refine vc_mono ?_ _ _ hh
  exact KLoop_mono (fun vs s' h => by obtain ⟨n471, n481, rfl, h1, h2⟩ := h; exact ⟨⟨⟨_, rfl⟩, ⟨⟨_, rfl⟩, trivial⟩⟩, ⟨_, _, rfl, h1⟩, h2⟩)
def T_prize_Most (W : World) (x1 : Option Addr) (l2 : Nat) (c3 : Nat) (x4 : Option Addr) (l5 : Nat) (c6 : Nat) (R : Ending → Hp → Prop) : Hp → Prop :=
  NEW 25 [(.slice x1 l2 c3), (.slice x4 l5 c6)] fun B7 =>
    NEWZ Pg 29 fun B8 =>
      RDL (Addr.add ⟨B7, 0, none⟩ 0) fun x9 l10 c11 =>
        RDL (Addr.add ⟨B7, 0, none⟩ 1) fun x12 l13 c14 =>
          CALL Pg W F_prize_open [(.agg #[(.slice x9 l10 c11), (.slice x12 l13 c14)])]
            (fun v15 => TYP v15 fun p17 =>
              MKM fun B18 =>
                CALL Pg W F_prize_prizes_most [(.pointer p17), (.int .i64 0), (.func (.func 65) #[(.map (some B18))] #[])]
                  (fun v19 => TYI .i64 v19 fun n21 =>
                    NEW 3 [] fun B22 =>
                      SO p17 fun a23 =>
                        RDL (Addr.add (Addr.add a23 0) 1) fun x24 l25 c26 =>
                          L_prize_Most_0 W R n21 ⟨B8, 0, none⟩ p17 (some B18) (↑l25 : Int) (some ⟨B22, 0, none⟩) 0 0 n21 0)
                    (fun e20 => DEF Pg W (.tuple #[(.func (.func 42) #[] #[]), (.tuple #[(.pointer (some ⟨B8, 0, none⟩))])]) (some e20) (RDI .i64 ⟨B8, 0, none⟩ fun n27 =>
                      R (.returned (.tuple #[(.int .i64 0), (.slice none 0 0), (.int .i64 n27)])))))
              (fun e16 => DEF Pg W (.tuple #[(.func (.func 42) #[] #[]), (.tuple #[(.pointer (some ⟨B8, 0, none⟩))])]) (some e16) (RDI .i64 ⟨B8, 0, none⟩ fun n28 =>
                R (.returned (.tuple #[(.int .i64 0), (.slice none 0 0), (.int .i64 n28)]))))
theorem T_prize_Most_eq (W : World) (x1 : Option Addr) (l2 : Nat) (c3 : Nat) (x4 : Option Addr) (l5 : Nat) (c6 : Nat) (R : Ending → Hp → Prop) : vfun Pg W an_27 Try.f27 [(.agg #[(.slice x1 l2 c3), (.slice x4 l5 c6)])] R = T_prize_Most W x1 l2 c3 x4 l5 c6 R := by kernel_rfl
theorem does_prize_Most (W : World) (x1 : Option Addr) (l2 : Nat) (c3 : Nat) (x4 : Option Addr) (l5 : Nat) (c6 : Nat) (R : Ending → Hp → Prop) (s : Hp) (h : T_prize_Most W x1 l2 c3 x4 l5 c6 R s) : Does Pg W F_prize_Most #[(.agg #[(.slice x1 l2 c3), (.slice x4 l5 c6)])] s R :=
  does_of_vfun Pg W an_27 Try.func27 rfl (by kernel_rfl) (by rw [T_prize_Most_eq]; exact h)
def an_29 : Nat → Ann := fun b => match b with
  | 0 => { ms := [40], ks := [.i .i64], us := [1, 2, 4, 5, 7, 8, 39, 96], rt := false, ex := [] }
  | 2 => { ms := [4, 73], ks := [.i .i64, .i .i64], us := [1, 5, 7, 71, 72, 96], rt := false, ex := [] }
  | _ => {}
abbrev rv_29 : List ResultVar := [.tmp 4, .cell 5 29]
abbrev rs_29 : List Nat := [96, 4, 5]
def L_prize_Stay_0 (W : World) (R : Ending → Hp → Prop) (zn0 : Int) (za1 : Addr) (za2 : Addr) (zp3 : Option Addr) (zl4 : Nat) (zl5 : Nat) (za6 : Addr) (zn7 : Int) (n69 : Int) : Hp → Prop :=
  LOOPN [.i .i64] (fun ys next s => ∀ j : Tm, vc Pg W 96 rs_29 an_29 false (sub (bodyOf Try.f29) [1, 1, 1, 1, 1, 1, 1, 1, 0, 1, 0, 0]) 0 (KLoop [40] [1, 2, 4, 5, 7, 8, 39, 96] [(.int .i64 zn0), (.pointer (some za1)), (.int .i64 0), (.pointer (some za2)), (.slice zp3 zl4 zl5), (.pointer (some za6)), (.int .i64 zn7), (.tuple #[(.func (.func 42) #[] #[]), (.tuple #[(.pointer (some za2))])])] next (KBlk 0 (KS Pg W 96 rs_29 an_29 false (sub (bodyOf Try.f29) [1, 1, 1, 1, 1, 1, 1, 1, 1]) 0 (fin Pg W 96 rv_29 R)))) (known [40] ys (known [1, 2, 4, 5, 7, 8, 39, 96] [(.int .i64 zn0), (.pointer (some za1)), (.int .i64 0), (.pointer (some za2)), (.slice zp3 zl4 zl5), (.pointer (some za6)), (.int .i64 zn7), (.tuple #[(.func (.func 42) #[] #[]), (.tuple #[(.pointer (some za2))])])] j)) s) [(.int .i64 n69)]
def L_prize_Stay_1 (W : World) (R : Ending → Hp → Prop) (zn0 : Int) (za1 : Addr) (zp2 : Option Addr) (zl3 : Nat) (zl4 : Nat) (zp5 : Option Addr) (zl6 : Nat) (zl7 : Nat) (zn8 : Int) (n108 : Int) (n109 : Int) : Hp → Prop :=
  LOOPN [.i .i64, .i .i64] (fun ys next s => ∀ j : Tm, vc Pg W 96 rs_29 an_29 false (sub (bodyOf Try.f29) [1, 1, 1, 1, 1, 1, 1, 1, 1, 1, 0, 1, 0, 0]) 2 (KLoop [4, 73] [1, 5, 7, 71, 72, 96] [(.int .i64 zn0), (.pointer (some za1)), (.slice zp2 zl3 zl4), (.slice zp5 zl6 zl7), (.int .i64 zn8), (.tuple #[(.func (.func 42) #[] #[]), (.tuple #[(.pointer (some za1))])])] next (KBlk 2 (KS Pg W 96 rs_29 an_29 false (sub (bodyOf Try.f29) [1, 1, 1, 1, 1, 1, 1, 1, 1, 1, 1]) 0 (fin Pg W 96 rv_29 R)))) (known [4, 73] ys (known [1, 5, 7, 71, 72, 96] [(.int .i64 zn0), (.pointer (some za1)), (.slice zp2 zl3 zl4), (.slice zp5 zl6 zl7), (.int .i64 zn8), (.tuple #[(.func (.func 42) #[] #[]), (.tuple #[(.pointer (some za1))])])] j)) s) [(.int .i64 n108), (.int .i64 n109)]
def J_prize_Stay_0 (W : World) (R : Ending → Hp → Prop) (zn0 : Int) (za1 : Addr) (za2 : Addr) (zp3 : Option Addr) (zl4 : Nat) (zl5 : Nat) (za6 : Addr) (zn7 : Int) (nx0 : List Value → Hp → Prop) (n69 : Int) : Hp → Prop :=
  NX [(.int .i64 zn0), (.pointer (some za1)), (.int .i64 0), (.pointer (some za2)), (.slice zp3 zl4 zl5), (.pointer (some za6)), (.int .i64 zn7), (.tuple #[(.func (.func 42) #[] #[]), (.tuple #[(.pointer (some za2))])])] [(.int .i64 zn0), (.pointer (some za1)), (.int .i64 0), (.pointer (some za2)), (.slice zp3 zl4 zl5), (.pointer (some za6)), (.int .i64 zn7), (.tuple #[(.func (.func 42) #[] #[]), (.tuple #[(.pointer (some za2))])])] (nx0 [(.int .i64 (IntKind.wrap .i64 (n69 + 1)))])
def J_prize_Stay_1 (W : World) (R : Ending → Hp → Prop) (zn0 : Int) (za1 : Addr) (zp2 : Option Addr) (zl3 : Nat) (zl4 : Nat) (zp5 : Option Addr) (zl6 : Nat) (zl7 : Nat) (zn8 : Int) (nx1 : List Value → Hp → Prop) (n115 : Int) (n109 : Int) : Hp → Prop :=
  NX [(.int .i64 zn0), (.pointer (some za1)), (.slice zp2 zl3 zl4), (.slice zp5 zl6 zl7), (.int .i64 zn8), (.tuple #[(.func (.func 42) #[] #[]), (.tuple #[(.pointer (some za1))])])] [(.int .i64 zn0), (.pointer (some za1)), (.slice zp2 zl3 zl4), (.slice zp5 zl6 zl7), (.int .i64 zn8), (.tuple #[(.func (.func 42) #[] #[]), (.tuple #[(.pointer (some za1))])])] (nx1 [(.int .i64 n115), (.int .i64 (IntKind.wrap .i64 (n109 + 1)))])
def J_prize_Stay_2 (W : World) (R : Ending → Hp → Prop) (zp2 : Option Addr) (zl3 : Nat) (n112 : Int) (n111 : Int) (zn0 : Int) (za1 : Addr) (zl4 : Nat) (zp5 : Option Addr) (zl6 : Nat) (zl7 : Nat) (zn8 : Int) (nx1 : List Value → Hp → Prop) (n108 : Int) (n109 : Int) : Hp → Prop :=
  IXS zp2 zl3 n112 1 fun a113 =>
    RDI .i64 a113 fun n114 =>
      BR (decide (n111 > n114))
        (NNI n112 <|
          J_prize_Stay_1 W R zn0 za1 zp2 zl3 zl4 zp5 zl6 zl7 zn8 nx1 (orv .i64 n108 (shlv .i64 1 n112)) n109)
        (J_prize_Stay_1 W R zn0 za1 zp2 zl3 zl4 zp5 zl6 zl7 zn8 nx1 n108 n109)
def B_prize_Stay_0 (W : World) (R : Ending → Hp → Prop) (zn0 : Int) (za1 : Addr) (za2 : Addr) (zp3 : Option Addr) (zl4 : Nat) (zl5 : Nat) (za6 : Addr) (zn7 : Int) (n69 : Int) (nx0 : List Value → Hp → Prop) : Hp → Prop :=
  BR (decide (n69 < zn7))
    (RDL (Addr.add za6 0) fun x70 l71 c72 =>
      IXS x70 l71 n69 4 fun a73 =>
        RDI .i64 (Addr.add a73 0) fun n74 =>
          RDL (Addr.add za1 0) fun x75 l76 c77 =>
            IXS x75 l76 zn0 4 fun a78 =>
              RDI .i64 (Addr.add a78 0) fun n79 =>
                BR (decide (n74 > n79))
                  (RDL (Addr.add za6 0) fun x80 l81 c82 =>
                    IXS x80 l81 n69 4 fun a83 =>
                      RDI .i64 (Addr.add a83 0) fun n84 =>
                        IXS x80 l81 n69 4 fun a85 =>
                          WR (Addr.add (Addr.add a85 0) 0) (.int .i64 (IntKind.wrap .i64 (n84 - 1))) <|
                            J_prize_Stay_0 W R zn0 za1 za2 zp3 zl4 zl5 za6 zn7 nx0 n69)
                  (J_prize_Stay_0 W R zn0 za1 za2 zp3 zl4 zl5 za6 zn7 nx0 n69))
    (RDL (Addr.add za6 0) fun x86 l87 c88 =>
      RDL (Addr.add za6 1) fun x89 l90 c91 =>
        CALL Pg W F_prize_open [(.agg #[(.slice x86 l87 c88), (.slice x89 l90 c91)])]
          (fun v92 => TYP v92 fun p94 =>
            CALL Pg W F_prize_prizes_due [(.pointer p94)]
              (fun v95 => TYL v95 fun x97 l98 c99 =>
                CALL Pg W F_prize_prizes_worths [(.pointer p94), (.slice x97 l98 c99)]
                  (fun v100 => TYL v100 fun x102 l103 c104 =>
                    L_prize_Stay_1 W R zn0 za2 zp3 zl4 zl5 x102 l103 c104 (↑l103 : Int) 0 0)
                    (fun e101 => DEF Pg W (.tuple #[(.func (.func 42) #[] #[]), (.tuple #[(.pointer (some za2))])]) (some e101) (RDI .i64 za2 fun n105 =>
                      R (.returned (.tuple #[(.int .i64 0), (.int .i64 n105)])))))
                (fun e96 => DEF Pg W (.tuple #[(.func (.func 42) #[] #[]), (.tuple #[(.pointer (some za2))])]) (some e96) (RDI .i64 za2 fun n106 =>
                  R (.returned (.tuple #[(.int .i64 0), (.int .i64 n106)])))))
            (fun e93 => DEF Pg W (.tuple #[(.func (.func 42) #[] #[]), (.tuple #[(.pointer (some za2))])]) (some e93) (RDI .i64 za2 fun n107 =>
              R (.returned (.tuple #[(.int .i64 0), (.int .i64 n107)])))))
theorem B_prize_Stay_0_eq (W : World) (R : Ending → Hp → Prop) (zn0 : Int) (za1 : Addr) (za2 : Addr) (zp3 : Option Addr) (zl4 : Nat) (zl5 : Nat) (za6 : Addr) (zn7 : Int) (n69 : Int) (nx0 : List Value → Hp → Prop) (j : Tm) : vc Pg W 96 rs_29 an_29 false (sub (bodyOf Try.f29) [1, 1, 1, 1, 1, 1, 1, 1, 0, 1, 0, 0]) 0 (KLoop [40] [1, 2, 4, 5, 7, 8, 39, 96] [(.int .i64 zn0), (.pointer (some za1)), (.int .i64 0), (.pointer (some za2)), (.slice zp3 zl4 zl5), (.pointer (some za6)), (.int .i64 zn7), (.tuple #[(.func (.func 42) #[] #[]), (.tuple #[(.pointer (some za2))])])] nx0 (KBlk 0 (KS Pg W 96 rs_29 an_29 false (sub (bodyOf Try.f29) [1, 1, 1, 1, 1, 1, 1, 1, 1]) 0 (fin Pg W 96 rv_29 R)))) (known [40] [(.int .i64 n69)] (known [1, 2, 4, 5, 7, 8, 39, 96] [(.int .i64 zn0), (.pointer (some za1)), (.int .i64 0), (.pointer (some za2)), (.slice zp3 zl4 zl5), (.pointer (some za6)), (.int .i64 zn7), (.tuple #[(.func (.func 42) #[] #[]), (.tuple #[(.pointer (some za2))])])] j)) = B_prize_Stay_0 W R zn0 za1 za2 zp3 zl4 zl5 za6 zn7 n69 nx0 := by kernel_rfl
def N_prize_Stay_0 (I : Int → Hp → Prop) (μ : Int → Hp → Nat) (n690 : Int) (s : Hp) (vs : List Value) : Hp → Prop := fun s' => ∃ n69, vs = [(.int .i64 n69)] ∧ I n69 s' ∧ μ n69 s' < μ n690 s
theorem L_prize_Stay_0_rule (W : World) (R : Ending → Hp → Prop) (zn0 : Int) (za1 : Addr) (za2 : Addr) (zp3 : Option Addr) (zl4 : Nat) (zl5 : Nat) (za6 : Addr) (zn7 : Int) (I : Int → Hp → Prop) (μ : Int → Hp → Nat) (n690 : Int) (s : Hp) (h0 : I n690 s)
    (hr : ∀ (n69 : Int) (s : Hp), I n69 s → B_prize_Stay_0 W R zn0 za1 za2 zp3 zl4 zl5 za6 zn7 n69 (fun vs => N_prize_Stay_0 I μ n69 s vs) s) : L_prize_Stay_0 W R zn0 za1 za2 zp3 zl4 zl5 za6 zn7 n690 s := by
  refine ⟨fun vs s => ∃ n69, vs = [(.int .i64 n69)] ∧ I n69 s, fun vs s => (match vs with | [.int _ n69] => μ n69 s | _ => 0), ⟨⟨⟨_, rfl⟩, trivial⟩, ⟨_, rfl, h0⟩⟩, ?_⟩
  intro n69 s hI j
  obtain ⟨n69', hy, hI⟩ := hI
  have hI' : I n69 s := by cases hy; exact hI
  have hh := hr n69 s hI'
  rw [← B_prize_Stay_0_eq W R zn0 za1 za2 zp3 zl4 zl5 za6 zn7 n69 _ j] at hh
  refine vc_mono ?_ _ _ hh
  exact KLoop_mono (fun vs s' h => by obtain ⟨n691, rfl, h1, h2⟩ := h; exact ⟨⟨⟨_, rfl⟩, trivial⟩, ⟨_, rfl, h1⟩, h2⟩)
def B_prize_Stay_1 (W : World) (R : Ending → Hp → Prop) (zn0 : Int) (za1 : Addr) (zp2 : Option Addr) (zl3 : Nat) (zl4 : Nat) (zp5 : Option Addr) (zl6 : Nat) (zl7 : Nat) (zn8 : Int) (n108 : Int) (n109 : Int) (nx1 : List Value → Hp → Prop) : Hp → Prop :=
  BR (decide (n109 < zn8))
    (IXS zp5 zl6 n109 1 fun a110 =>
      RDI .i64 a110 fun n111 =>
        BR (decide (n109 ≥ zn0))
          (J_prize_Stay_2 W R zp2 zl3 (IntKind.wrap .i64 (n109 + 1)) n111 zn0 za1 zl4 zp5 zl6 zl7 zn8 nx1 n108 n109)
          (J_prize_Stay_2 W R zp2 zl3 n109 n111 zn0 za1 zl4 zp5 zl6 zl7 zn8 nx1 n108 n109))
    (WR (Addr.add za1 0) (.int .i64 0) <|
      DEF Pg W (.tuple #[(.func (.func 42) #[] #[]), (.tuple #[(.pointer (some za1))])]) none
        (RDI .i64 za1 fun n116 =>
          R (.returned (.tuple #[(.int .i64 n108), (.int .i64 n116)]))))
theorem B_prize_Stay_1_eq (W : World) (R : Ending → Hp → Prop) (zn0 : Int) (za1 : Addr) (zp2 : Option Addr) (zl3 : Nat) (zl4 : Nat) (zp5 : Option Addr) (zl6 : Nat) (zl7 : Nat) (zn8 : Int) (n108 : Int) (n109 : Int) (nx1 : List Value → Hp → Prop) (j : Tm) : vc Pg W 96 rs_29 an_29 false (sub (bodyOf Try.f29) [1, 1, 1, 1, 1, 1, 1, 1, 1, 1, 0, 1, 0, 0]) 2 (KLoop [4, 73] [1, 5, 7, 71, 72, 96] [(.int .i64 zn0), (.pointer (some za1)), (.slice zp2 zl3 zl4), (.slice zp5 zl6 zl7), (.int .i64 zn8), (.tuple #[(.func (.func 42) #[] #[]), (.tuple #[(.pointer (some za1))])])] nx1 (KBlk 2 (KS Pg W 96 rs_29 an_29 false (sub (bodyOf Try.f29) [1, 1, 1, 1, 1, 1, 1, 1, 1, 1, 1]) 0 (fin Pg W 96 rv_29 R)))) (known [4, 73] [(.int .i64 n108), (.int .i64 n109)] (known [1, 5, 7, 71, 72, 96] [(.int .i64 zn0), (.pointer (some za1)), (.slice zp2 zl3 zl4), (.slice zp5 zl6 zl7), (.int .i64 zn8), (.tuple #[(.func (.func 42) #[] #[]), (.tuple #[(.pointer (some za1))])])] j)) = B_prize_Stay_1 W R zn0 za1 zp2 zl3 zl4 zp5 zl6 zl7 zn8 n108 n109 nx1 := by kernel_rfl
def N_prize_Stay_1 (I : Int → Int → Hp → Prop) (μ : Int → Int → Hp → Nat) (n1080 : Int) (n1090 : Int) (s : Hp) (vs : List Value) : Hp → Prop := fun s' => ∃ n108 n109, vs = [(.int .i64 n108), (.int .i64 n109)] ∧ I n108 n109 s' ∧ μ n108 n109 s' < μ n1080 n1090 s
theorem L_prize_Stay_1_rule (W : World) (R : Ending → Hp → Prop) (zn0 : Int) (za1 : Addr) (zp2 : Option Addr) (zl3 : Nat) (zl4 : Nat) (zp5 : Option Addr) (zl6 : Nat) (zl7 : Nat) (zn8 : Int) (I : Int → Int → Hp → Prop) (μ : Int → Int → Hp → Nat) (n1080 : Int) (n1090 : Int) (s : Hp) (h0 : I n1080 n1090 s)
    (hr : ∀ (n108 : Int) (n109 : Int) (s : Hp), I n108 n109 s → B_prize_Stay_1 W R zn0 za1 zp2 zl3 zl4 zp5 zl6 zl7 zn8 n108 n109 (fun vs => N_prize_Stay_1 I μ n108 n109 s vs) s) : L_prize_Stay_1 W R zn0 za1 zp2 zl3 zl4 zp5 zl6 zl7 zn8 n1080 n1090 s := by
  refine ⟨fun vs s => ∃ n108 n109, vs = [(.int .i64 n108), (.int .i64 n109)] ∧ I n108 n109 s, fun vs s => (match vs with | [.int _ n108, .int _ n109] => μ n108 n109 s | _ => 0), ⟨⟨⟨_, rfl⟩, ⟨⟨_, rfl⟩, trivial⟩⟩, ⟨_, _, rfl, h0⟩⟩, ?_⟩
  intro n108 n109 s hI j
  obtain ⟨n108', n109', hy, hI⟩ := hI
  have hI' : I n108 n109 s := by cases hy; exact hI
  have hh := hr n108 n109 s hI'
  rw [← B_prize_Stay_1_eq W R zn0 za1 zp2 zl3 zl4 zp5 zl6 zl7 zn8 n108 n109 _ j] at hh
  refine vc_mono ?_ _ _ hh
  exact KLoop_mono (fun vs s' h => by obtain ⟨n1081, n1091, rfl, h1, h2⟩ := h; exact ⟨⟨⟨_, rfl⟩, ⟨⟨_, rfl⟩, trivial⟩⟩, ⟨_, _, rfl, h1⟩, h2⟩)
def T_prize_Stay (W : World) (x1 : Option Addr) (l2 : Nat) (c3 : Nat) (x4 : Option Addr) (l5 : Nat) (c6 : Nat) (n7 : Int) (R : Ending → Hp → Prop) : Hp → Prop :=
  NEW 25 [(.slice x1 l2 c3), (.slice x4 l5 c6)] fun B8 =>
    NEWZ Pg 29 fun B9 =>
      RDL (Addr.add ⟨B8, 0, none⟩ 0) fun x10 l11 c12 =>
        RDL (Addr.add ⟨B8, 0, none⟩ 1) fun x13 l14 c15 =>
          CALL Pg W F_prize_open [(.agg #[(.slice x10 l11 c12), (.slice x13 l14 c15)])]
            (fun v16 => TYP v16 fun p18 =>
              CALL Pg W F_prize_prizes_isMan [(.pointer p18), (.int .i64 n7)]
                (fun v19 => TYB v19 fun b21 =>
                  CALL Pg W F_prize_must [(.bool b21), (.int .i64 2)]
                    (fun v22 => TUP v22 fun q24 => NL q24 <|
                      CALL Pg W F_prize_prizes_due [(.pointer p18)]
                        (fun v25 => TYL v25 fun x27 l28 c29 =>
                          CALL Pg W F_prize_prizes_worths [(.pointer p18), (.slice x27 l28 c29)]
                            (fun v30 => TYL v30 fun x32 l33 c34 =>
                              RDL (Addr.add ⟨B8, 0, none⟩ 0) fun x35 l36 c37 =>
                                BR ((↑l36 : Int) == 1)
                                  (WR (Addr.add ⟨B9, 0, none⟩ 0) (.int .i64 0) <|
                                    DEF Pg W (.tuple #[(.func (.func 42) #[] #[]), (.tuple #[(.pointer (some ⟨B9, 0, none⟩))])]) none
                                      (RDI .i64 ⟨B9, 0, none⟩ fun n38 =>
                                        R (.returned (.tuple #[(.int .i64 0), (.int .i64 n38)]))))
                                  (RDL (Addr.add ⟨B8, 0, none⟩ 0) fun x39 l40 c41 =>
                                    RDL (Addr.add ⟨B8, 0, none⟩ 1) fun x42 l43 c44 =>
                                      NEWZ Pg 25 fun B45 =>
                                        WR (Addr.add ⟨B45, 0, none⟩ 0) (.slice x39 l40 c41) <|
                                          WR (Addr.add ⟨B45, 0, none⟩ 1) (.slice x42 l43 c44) <|
                                            RDL (Addr.add ⟨B8, 0, none⟩ 0) fun x46 l47 c48 =>
                                              CALL Pg W F_slices_Clone_api_Winner_api_Winner [(.slice x46 l47 c48)]
                                                (fun v49 => TYL v49 fun x51 l52 c53 =>
                                                  CALL Pg W F_slices_Delete_api_Winner_api_Winner [(.slice x51 l52 c53), (.int .i64 n7), (.int .i64 (IntKind.wrap .i64 (n7 + 1)))]
                                                    (fun v54 => TYL v54 fun x56 l57 c58 =>
                                                      WR (Addr.add (Addr.add ⟨B45, 0, none⟩ 0) 0) (.slice x56 l57 c58) <|
                                                        RDL (Addr.add ⟨B45, 0, none⟩ 0) fun x59 l60 c61 =>
                                                          L_prize_Stay_0 W R n7 ⟨B8, 0, none⟩ ⟨B9, 0, none⟩ x32 l33 c34 ⟨B45, 0, none⟩ (↑l60 : Int) 0)
                                                      (fun e55 => DEF Pg W (.tuple #[(.func (.func 42) #[] #[]), (.tuple #[(.pointer (some ⟨B9, 0, none⟩))])]) (some e55) (RDI .i64 ⟨B9, 0, none⟩ fun n62 =>
                                                        R (.returned (.tuple #[(.int .i64 0), (.int .i64 n62)])))))
                                                  (fun e50 => DEF Pg W (.tuple #[(.func (.func 42) #[] #[]), (.tuple #[(.pointer (some ⟨B9, 0, none⟩))])]) (some e50) (RDI .i64 ⟨B9, 0, none⟩ fun n63 =>
                                                    R (.returned (.tuple #[(.int .i64 0), (.int .i64 n63)]))))))
                              (fun e31 => DEF Pg W (.tuple #[(.func (.func 42) #[] #[]), (.tuple #[(.pointer (some ⟨B9, 0, none⟩))])]) (some e31) (RDI .i64 ⟨B9, 0, none⟩ fun n64 =>
                                R (.returned (.tuple #[(.int .i64 0), (.int .i64 n64)])))))
                          (fun e26 => DEF Pg W (.tuple #[(.func (.func 42) #[] #[]), (.tuple #[(.pointer (some ⟨B9, 0, none⟩))])]) (some e26) (RDI .i64 ⟨B9, 0, none⟩ fun n65 =>
                            R (.returned (.tuple #[(.int .i64 0), (.int .i64 n65)])))))
                      (fun e23 => DEF Pg W (.tuple #[(.func (.func 42) #[] #[]), (.tuple #[(.pointer (some ⟨B9, 0, none⟩))])]) (some e23) (RDI .i64 ⟨B9, 0, none⟩ fun n66 =>
                        R (.returned (.tuple #[(.int .i64 0), (.int .i64 n66)])))))
                  (fun e20 => DEF Pg W (.tuple #[(.func (.func 42) #[] #[]), (.tuple #[(.pointer (some ⟨B9, 0, none⟩))])]) (some e20) (RDI .i64 ⟨B9, 0, none⟩ fun n67 =>
                    R (.returned (.tuple #[(.int .i64 0), (.int .i64 n67)])))))
              (fun e17 => DEF Pg W (.tuple #[(.func (.func 42) #[] #[]), (.tuple #[(.pointer (some ⟨B9, 0, none⟩))])]) (some e17) (RDI .i64 ⟨B9, 0, none⟩ fun n68 =>
                R (.returned (.tuple #[(.int .i64 0), (.int .i64 n68)]))))
theorem T_prize_Stay_eq (W : World) (x1 : Option Addr) (l2 : Nat) (c3 : Nat) (x4 : Option Addr) (l5 : Nat) (c6 : Nat) (n7 : Int) (R : Ending → Hp → Prop) : vfun Pg W an_29 Try.f29 [(.agg #[(.slice x1 l2 c3), (.slice x4 l5 c6)]), (.int .i64 n7)] R = T_prize_Stay W x1 l2 c3 x4 l5 c6 n7 R := by kernel_rfl
theorem does_prize_Stay (W : World) (x1 : Option Addr) (l2 : Nat) (c3 : Nat) (x4 : Option Addr) (l5 : Nat) (c6 : Nat) (n7 : Int) (R : Ending → Hp → Prop) (s : Hp) (h : T_prize_Stay W x1 l2 c3 x4 l5 c6 n7 R s) : Does Pg W F_prize_Stay #[(.agg #[(.slice x1 l2 c3), (.slice x4 l5 c6)]), (.int .i64 n7)] s R :=
  does_of_vfun Pg W an_29 Try.func29 rfl (by kernel_rfl) (by rw [T_prize_Stay_eq]; exact h)
def an_31 : Nat → Ann := fun b => match b with
  | 0 => { ms := [4, 8], ks := [.i .i64, .i .i64], us := [2, 3, 5, 7, 61], rt := false, ex := [] }
  | 2 => { ms := [42], ks := [.i .i64], us := [2, 3, 4, 5, 7, 8, 9, 40, 41, 61], rt := false, ex := [] }
  | _ => {}
abbrev rv_31 : List ResultVar := [.tmp 4, .cell 5 29]
abbrev rs_31 : List Nat := [61, 4, 5]
def L_prize_For_0 (W : World) (R : Ending → Hp → Prop) (za0 : Addr) (za1 : Addr) (za2 : Addr) (zp3 : Option Addr) (zl4 : Nat) (zl5 : Nat) (n42 : Int) (n43 : Int) : Hp → Prop :=
  LOOPN [.i .i64, .i .i64] (fun ys next s => ∀ j : Tm, vc Pg W 61 rs_31 an_31 false (sub (bodyOf Try.f31) [1, 1, 1, 1, 1, 0, 1, 0, 0]) 0 (KLoop [4, 8] [2, 3, 5, 7, 61] [(.pointer (some za0)), (.pointer (some za1)), (.pointer (some za2)), (.slice zp3 zl4 zl5), (.tuple #[(.func (.func 42) #[] #[]), (.tuple #[(.pointer (some za2))])])] next (KBlk 0 (KS Pg W 61 rs_31 an_31 false (sub (bodyOf Try.f31) [1, 1, 1, 1, 1, 1]) 0 (fin Pg W 61 rv_31 R)))) (known [4, 8] ys (known [2, 3, 5, 7, 61] [(.pointer (some za0)), (.pointer (some za1)), (.pointer (some za2)), (.slice zp3 zl4 zl5), (.tuple #[(.func (.func 42) #[] #[]), (.tuple #[(.pointer (some za2))])])] j)) s) [(.int .i64 n42), (.int .i64 n43)]
def L_prize_For_1 (W : World) (R : Ending → Hp → Prop) (nx0 : List Value → Hp → Prop) (za0 : Addr) (za1 : Addr) (zn2 : Int) (za3 : Addr) (zp4 : Option Addr) (zl5 : Nat) (zl6 : Nat) (zn7 : Int) (za8 : Addr) (zp9 : Option Addr) (zl10 : Nat) (zl11 : Nat) (zn12 : Int) (n95 : Int) : Hp → Prop :=
  LOOPN [.i .i64] (fun ys next s => ∀ j : Tm, vc Pg W 61 rs_31 an_31 false (sub (bodyOf Try.f31) [1, 1, 1, 1, 1, 0, 1, 0, 0, 1, 0, 0, 1, 1, 0, 1, 0, 0]) 2 (KLoop [42] [2, 3, 4, 5, 7, 8, 9, 40, 41, 61] [(.pointer (some za0)), (.pointer (some za1)), (.int .i64 zn2), (.pointer (some za3)), (.slice zp4 zl5 zl6), (.int .i64 zn7), (.pointer (some za8)), (.slice zp9 zl10 zl11), (.int .i64 zn12), (.tuple #[(.func (.func 42) #[] #[]), (.tuple #[(.pointer (some za3))])])] next (KBlk 2 (KS Pg W 61 rs_31 an_31 false (sub (bodyOf Try.f31) [1, 1, 1, 1, 1, 0, 1, 0, 0, 1, 0, 0, 1, 1, 1]) 1 (KBlk 1 (KS Pg W 61 rs_31 an_31 false (sub (bodyOf Try.f31) [1, 1, 1, 1, 1, 0, 1, 0, 0, 1, 1]) 0 (KLoop [4, 8] [2, 3, 5, 7, 61] [(.pointer (some za0)), (.pointer (some za1)), (.pointer (some za3)), (.slice zp4 zl5 zl6), (.tuple #[(.func (.func 42) #[] #[]), (.tuple #[(.pointer (some za3))])])] nx0 (KBlk 0 (KS Pg W 61 rs_31 an_31 false (sub (bodyOf Try.f31) [1, 1, 1, 1, 1, 1]) 0 (fin Pg W 61 rv_31 R))))))))) (known [42] ys (known [2, 3, 4, 5, 7, 8, 9, 40, 41, 61] [(.pointer (some za0)), (.pointer (some za1)), (.int .i64 zn2), (.pointer (some za3)), (.slice zp4 zl5 zl6), (.int .i64 zn7), (.pointer (some za8)), (.slice zp9 zl10 zl11), (.int .i64 zn12), (.tuple #[(.func (.func 42) #[] #[]), (.tuple #[(.pointer (some za3))])])] j)) s) [(.int .i64 n95)]
def J_prize_For_0 (W : World) (R : Ending → Hp → Prop) (nx0 : List Value → Hp → Prop) (za0 : Addr) (za1 : Addr) (n42 : Int) (za2 : Addr) (zp3 : Option Addr) (zl4 : Nat) (zl5 : Nat) (n43 : Int) (B50 : Nat) (x72 : Option Addr) (l73 : Nat) (c74 : Nat) (n75 : Int) (n76 : Int) : Hp → Prop :=
  L_prize_For_1 W R nx0 za0 za1 n42 za2 zp3 zl4 zl5 n43 ⟨B50, 0, none⟩ x72 l73 c74 n75 n76
def B_prize_For_0 (W : World) (R : Ending → Hp → Prop) (za0 : Addr) (za1 : Addr) (za2 : Addr) (zp3 : Option Addr) (zl4 : Nat) (zl5 : Nat) (n42 : Int) (n43 : Int) (nx0 : List Value → Hp → Prop) : Hp → Prop :=
  BR (decide (n43 > 0))
    (RDL (Addr.add za0 0) fun x44 l45 c46 =>
      RDL (Addr.add za0 1) fun x47 l48 c49 =>
        NEWZ Pg 25 fun B50 =>
          WR (Addr.add ⟨B50, 0, none⟩ 0) (.slice x44 l45 c46) <|
            WR (Addr.add ⟨B50, 0, none⟩ 1) (.slice x47 l48 c49) <|
              RDL (Addr.add za0 0) fun x51 l52 c53 =>
                CALL Pg W F_slices_Clone_api_Winner_api_Winner [(.slice x51 l52 c53)]
                  (fun v54 => TYL v54 fun x56 l57 c58 =>
                    WR (Addr.add (Addr.add ⟨B50, 0, none⟩ 0) 0) (.slice x56 l57 c58) <|
                      RDI .i64 za1 fun n59 =>
                        CONJ [
                          CALL Pg W F_slices_Clone_int_int [(.slice zp3 zl4 zl5)]
                            (fun v60 => TYL v60 fun x62 l63 c64 =>
                              ANDS (RDI .i64 za1 fun n65 =>
                                fun _ => ((.int .i64 n65) : Value) = (.int .i64 n59)) <|
                                NEW 3 [(.int .i64 n59)] fun B66 =>
                                  CALL Pg W F_slices_Insert_int_int [(.slice x62 l63 c64), (.int .i64 (IntKind.wrap .i64 (n43 - 1))), (.slice (some ⟨B66, 0, none⟩) 1 1)]
                                    (fun v67 => TYL v67 fun x69 l70 c71 =>
                                      J_prize_For_0 W R nx0 za0 za1 n42 za2 zp3 zl4 zl5 n43 B50 x69 l70 c71 (↑l70 : Int) 0)
                                      (fun e68 => DEF Pg W (.tuple #[(.func (.func 42) #[] #[]), (.tuple #[(.pointer (some za2))])]) (some e68) (RDI .i64 za2 fun n77 =>
                                        R (.returned (.tuple #[(.int .i64 n42), (.int .i64 n77)])))))
                              (fun e61 => DEF Pg W (.tuple #[(.func (.func 42) #[] #[]), (.tuple #[(.pointer (some za2))])]) (some e61) (RDI .i64 za2 fun n78 =>
                                R (.returned (.tuple #[(.int .i64 n42), (.int .i64 n78)])))),
                          NEW 3 [(.int .i64 n59)] fun B79 =>
                            CALL Pg W F_slices_Clone_int_int [(.slice zp3 zl4 zl5)]
                              (fun v80 => TYL v80 fun x82 l83 c84 =>
                                ANDS (RDI .i64 za1 fun n85 =>
                                  fun _ => ((.int .i64 n85) : Value) = (.int .i64 n59)) <|
                                  CALL Pg W F_slices_Insert_int_int [(.slice x82 l83 c84), (.int .i64 (IntKind.wrap .i64 (n43 - 1))), (.slice (some ⟨B79, 0, none⟩) 1 1)]
                                    (fun v86 => TYL v86 fun x88 l89 c90 =>
                                      J_prize_For_0 W R nx0 za0 za1 n42 za2 zp3 zl4 zl5 n43 B50 x88 l89 c90 (↑l89 : Int) 0)
                                      (fun e87 => DEF Pg W (.tuple #[(.func (.func 42) #[] #[]), (.tuple #[(.pointer (some za2))])]) (some e87) (RDI .i64 za2 fun n91 =>
                                        R (.returned (.tuple #[(.int .i64 n42), (.int .i64 n91)])))))
                                (fun e81 => DEF Pg W (.tuple #[(.func (.func 42) #[] #[]), (.tuple #[(.pointer (some za2))])]) (some e81) (RDI .i64 za2 fun n92 =>
                                  R (.returned (.tuple #[(.int .i64 n42), (.int .i64 n92)]))))])
                    (fun e55 => DEF Pg W (.tuple #[(.func (.func 42) #[] #[]), (.tuple #[(.pointer (some za2))])]) (some e55) (RDI .i64 za2 fun n93 =>
                      R (.returned (.tuple #[(.int .i64 n42), (.int .i64 n93)])))))
    (WR (Addr.add za2 0) (.int .i64 4) <|
      DEF Pg W (.tuple #[(.func (.func 42) #[] #[]), (.tuple #[(.pointer (some za2))])]) none
        (RDI .i64 za2 fun n94 =>
          R (.returned (.tuple #[(.int .i64 0), (.int .i64 n94)]))))
theorem B_prize_For_0_eq (W : World) (R : Ending → Hp → Prop) (za0 : Addr) (za1 : Addr) (za2 : Addr) (zp3 : Option Addr) (zl4 : Nat) (zl5 : Nat) (n42 : Int) (n43 : Int) (nx0 : List Value → Hp → Prop) (j : Tm) : vc Pg W 61 rs_31 an_31 false (sub (bodyOf Try.f31) [1, 1, 1, 1, 1, 0, 1, 0, 0]) 0 (KLoop [4, 8] [2, 3, 5, 7, 61] [(.pointer (some za0)), (.pointer (some za1)), (.pointer (some za2)), (.slice zp3 zl4 zl5), (.tuple #[(.func (.func 42) #[] #[]), (.tuple #[(.pointer (some za2))])])] nx0 (KBlk 0 (KS Pg W 61 rs_31 an_31 false (sub (bodyOf Try.f31) [1, 1, 1, 1, 1, 1]) 0 (fin Pg W 61 rv_31 R)))) (known [4, 8] [(.int .i64 n42), (.int .i64 n43)] (known [2, 3, 5, 7, 61] [(.pointer (some za0)), (.pointer (some za1)), (.pointer (some za2)), (.slice zp3 zl4 zl5), (.tuple #[(.func (.func 42) #[] #[]), (.tuple #[(.pointer (some za2))])])] j)) = B_prize_For_0 W R za0 za1 za2 zp3 zl4 zl5 n42 n43 nx0 := by kernel_rfl
def N_prize_For_0 (I : Int → Int → Hp → Prop) (μ : Int → Int → Hp → Nat) (n420 : Int) (n430 : Int) (s : Hp) (vs : List Value) : Hp → Prop := fun s' => ∃ n42 n43, vs = [(.int .i64 n42), (.int .i64 n43)] ∧ I n42 n43 s' ∧ μ n42 n43 s' < μ n420 n430 s
theorem L_prize_For_0_rule (W : World) (R : Ending → Hp → Prop) (za0 : Addr) (za1 : Addr) (za2 : Addr) (zp3 : Option Addr) (zl4 : Nat) (zl5 : Nat) (I : Int → Int → Hp → Prop) (μ : Int → Int → Hp → Nat) (n420 : Int) (n430 : Int) (s : Hp) (h0 : I n420 n430 s)
    (hr : ∀ (n42 : Int) (n43 : Int) (s : Hp), I n42 n43 s → B_prize_For_0 W R za0 za1 za2 zp3 zl4 zl5 n42 n43 (fun vs => N_prize_For_0 I μ n42 n43 s vs) s) : L_prize_For_0 W R za0 za1 za2 zp3 zl4 zl5 n420 n430 s := by
  refine ⟨fun vs s => ∃ n42 n43, vs = [(.int .i64 n42), (.int .i64 n43)] ∧ I n42 n43 s, fun vs s => (match vs with | [.int _ n42, .int _ n43] => μ n42 n43 s | _ => 0), ⟨⟨⟨_, rfl⟩, ⟨⟨_, rfl⟩, trivial⟩⟩, ⟨_, _, rfl, h0⟩⟩, ?_⟩
  intro n42 n43 s hI j
  obtain ⟨n42', n43', hy, hI⟩ := hI
  have hI' : I n42 n43 s := by cases hy; exact hI
  have hh := hr n42 n43 s hI'
  rw [← B_prize_For_0_eq W R za0 za1 za2 zp3 zl4 zl5 n42 n43 _ j] at hh
  refine vc_mono ?_ _ _ hh
  exact KLoop_mono (fun vs s' h => by obtain ⟨n421, n431, rfl, h1, h2⟩ := h; exact ⟨⟨⟨_, rfl⟩, ⟨⟨_, rfl⟩, trivial⟩⟩, ⟨_, _, rfl, h1⟩, h2⟩)
def B_prize_For_1 (W : World) (R : Ending → Hp → Prop) (nx0 : List Value → Hp → Prop) (za0 : Addr) (za1 : Addr) (zn2 : Int) (za3 : Addr) (zp4 : Option Addr) (zl5 : Nat) (zl6 : Nat) (zn7 : Int) (za8 : Addr) (zp9 : Option Addr) (zl10 : Nat) (zl11 : Nat) (zn12 : Int) (n95 : Int) (nx1 : List Value → Hp → Prop) : Hp → Prop :=
  BR (decide (n95 < zn12))
    (IXS zp9 zl10 n95 1 fun a96 =>
      RDI .i64 a96 fun n97 =>
        RDL (Addr.add za8 0) fun x98 l99 c100 =>
          IXS x98 l99 n97 4 fun a101 =>
            WR (Addr.add (Addr.add a101 0) 0) (.int .i64 (IntKind.wrap .i64 (n95 + 1))) <|
              NX [(.pointer (some za0)), (.pointer (some za1)), (.int .i64 zn2), (.pointer (some za3)), (.slice zp4 zl5 zl6), (.int .i64 zn7), (.pointer (some za8)), (.slice zp9 zl10 zl11), (.int .i64 zn12), (.tuple #[(.func (.func 42) #[] #[]), (.tuple #[(.pointer (some za3))])])] [(.pointer (some za0)), (.pointer (some za1)), (.int .i64 zn2), (.pointer (some za3)), (.slice zp4 zl5 zl6), (.int .i64 zn7), (.pointer (some za8)), (.slice zp9 zl10 zl11), (.int .i64 zn12), (.tuple #[(.func (.func 42) #[] #[]), (.tuple #[(.pointer (some za3))])])] (nx1 [(.int .i64 (IntKind.wrap .i64 (n95 + 1)))]))
    (RDL (Addr.add za8 0) fun x102 l103 c104 =>
      RDL (Addr.add za8 1) fun x105 l106 c107 =>
        RDI .i64 za1 fun n108 =>
          CALL Pg W F_prize_open [(.agg #[(.slice x102 l103 c104), (.slice x105 l106 c107)])]
            (fun v109 => TYP v109 fun p111 =>
              ANDS (RDI .i64 za1 fun n112 =>
                fun _ => ((.int .i64 n112) : Value) = (.int .i64 n108)) <|
                CALL Pg W F_prize_prizes_due [(.pointer p111)]
                  (fun v113 => TYL v113 fun x115 l116 c117 =>
                    ANDS (RDI .i64 za1 fun n118 =>
                      fun _ => ((.int .i64 n118) : Value) = (.int .i64 n108)) <|
                      CALL Pg W F_slices_Contains_int_int [(.slice x115 l116 c117), (.int .i64 n108)]
                        (fun v119 => TYB v119 fun b121 =>
                          BR b121
                            (WR (Addr.add za3 0) (.int .i64 0) <|
                              DEF Pg W (.tuple #[(.func (.func 42) #[] #[]), (.tuple #[(.pointer (some za3))])]) none
                                (RDI .i64 za3 fun n122 =>
                                  R (.returned (.tuple #[(.int .i64 zn7), (.int .i64 n122)]))))
                            (NX [(.pointer (some za0)), (.pointer (some za1)), (.pointer (some za3)), (.slice zp4 zl5 zl6), (.tuple #[(.func (.func 42) #[] #[]), (.tuple #[(.pointer (some za3))])])] [(.pointer (some za0)), (.pointer (some za1)), (.pointer (some za3)), (.slice zp4 zl5 zl6), (.tuple #[(.func (.func 42) #[] #[]), (.tuple #[(.pointer (some za3))])])] (nx0 [(.int .i64 zn2), (.int .i64 (IntKind.wrap .i64 (zn7 - 1)))])))
                          (fun e120 => DEF Pg W (.tuple #[(.func (.func 42) #[] #[]), (.tuple #[(.pointer (some za3))])]) (some e120) (RDI .i64 za3 fun n123 =>
                            R (.returned (.tuple #[(.int .i64 zn2), (.int .i64 n123)])))))
                    (fun e114 => DEF Pg W (.tuple #[(.func (.func 42) #[] #[]), (.tuple #[(.pointer (some za3))])]) (some e114) (RDI .i64 za3 fun n124 =>
                      R (.returned (.tuple #[(.int .i64 zn2), (.int .i64 n124)])))))
              (fun e110 => DEF Pg W (.tuple #[(.func (.func 42) #[] #[]), (.tuple #[(.pointer (some za3))])]) (some e110) (RDI .i64 za3 fun n125 =>
                R (.returned (.tuple #[(.int .i64 zn2), (.int .i64 n125)])))))
theorem B_prize_For_1_eq (W : World) (R : Ending → Hp → Prop) (nx0 : List Value → Hp → Prop) (za0 : Addr) (za1 : Addr) (zn2 : Int) (za3 : Addr) (zp4 : Option Addr) (zl5 : Nat) (zl6 : Nat) (zn7 : Int) (za8 : Addr) (zp9 : Option Addr) (zl10 : Nat) (zl11 : Nat) (zn12 : Int) (n95 : Int) (nx1 : List Value → Hp → Prop) (j : Tm) : vc Pg W 61 rs_31 an_31 false (sub (bodyOf Try.f31) [1, 1, 1, 1, 1, 0, 1, 0, 0, 1, 0, 0, 1, 1, 0, 1, 0, 0]) 2 (KLoop [42] [2, 3, 4, 5, 7, 8, 9, 40, 41, 61] [(.pointer (some za0)), (.pointer (some za1)), (.int .i64 zn2), (.pointer (some za3)), (.slice zp4 zl5 zl6), (.int .i64 zn7), (.pointer (some za8)), (.slice zp9 zl10 zl11), (.int .i64 zn12), (.tuple #[(.func (.func 42) #[] #[]), (.tuple #[(.pointer (some za3))])])] nx1 (KBlk 2 (KS Pg W 61 rs_31 an_31 false (sub (bodyOf Try.f31) [1, 1, 1, 1, 1, 0, 1, 0, 0, 1, 0, 0, 1, 1, 1]) 1 (KBlk 1 (KS Pg W 61 rs_31 an_31 false (sub (bodyOf Try.f31) [1, 1, 1, 1, 1, 0, 1, 0, 0, 1, 1]) 0 (KLoop [4, 8] [2, 3, 5, 7, 61] [(.pointer (some za0)), (.pointer (some za1)), (.pointer (some za3)), (.slice zp4 zl5 zl6), (.tuple #[(.func (.func 42) #[] #[]), (.tuple #[(.pointer (some za3))])])] nx0 (KBlk 0 (KS Pg W 61 rs_31 an_31 false (sub (bodyOf Try.f31) [1, 1, 1, 1, 1, 1]) 0 (fin Pg W 61 rv_31 R))))))))) (known [42] [(.int .i64 n95)] (known [2, 3, 4, 5, 7, 8, 9, 40, 41, 61] [(.pointer (some za0)), (.pointer (some za1)), (.int .i64 zn2), (.pointer (some za3)), (.slice zp4 zl5 zl6), (.int .i64 zn7), (.pointer (some za8)), (.slice zp9 zl10 zl11), (.int .i64 zn12), (.tuple #[(.func (.func 42) #[] #[]), (.tuple #[(.pointer (some za3))])])] j)) = B_prize_For_1 W R nx0 za0 za1 zn2 za3 zp4 zl5 zl6 zn7 za8 zp9 zl10 zl11 zn12 n95 nx1 := by kernel_rfl
def N_prize_For_1 (I : Int → Hp → Prop) (μ : Int → Hp → Nat) (n950 : Int) (s : Hp) (vs : List Value) : Hp → Prop := fun s' => ∃ n95, vs = [(.int .i64 n95)] ∧ I n95 s' ∧ μ n95 s' < μ n950 s
theorem L_prize_For_1_rule (W : World) (R : Ending → Hp → Prop) (nx0 : List Value → Hp → Prop) (za0 : Addr) (za1 : Addr) (zn2 : Int) (za3 : Addr) (zp4 : Option Addr) (zl5 : Nat) (zl6 : Nat) (zn7 : Int) (za8 : Addr) (zp9 : Option Addr) (zl10 : Nat) (zl11 : Nat) (zn12 : Int) (I : Int → Hp → Prop) (μ : Int → Hp → Nat) (n950 : Int) (s : Hp) (h0 : I n950 s)
    (hr : ∀ (n95 : Int) (s : Hp), I n95 s → B_prize_For_1 W R nx0 za0 za1 zn2 za3 zp4 zl5 zl6 zn7 za8 zp9 zl10 zl11 zn12 n95 (fun vs => N_prize_For_1 I μ n95 s vs) s) : L_prize_For_1 W R nx0 za0 za1 zn2 za3 zp4 zl5 zl6 zn7 za8 zp9 zl10 zl11 zn12 n950 s := by
  refine ⟨fun vs s => ∃ n95, vs = [(.int .i64 n95)] ∧ I n95 s, fun vs s => (match vs with | [.int _ n95] => μ n95 s | _ => 0), ⟨⟨⟨_, rfl⟩, trivial⟩, ⟨_, rfl, h0⟩⟩, ?_⟩
  intro n95 s hI j
  obtain ⟨n95', hy, hI⟩ := hI
  have hI' : I n95 s := by cases hy; exact hI
  have hh := hr n95 s hI'
  rw [← B_prize_For_1_eq W R nx0 za0 za1 zn2 za3 zp4 zl5 zl6 zn7 za8 zp9 zl10 zl11 zn12 n95 _ j] at hh
  refine vc_mono ?_ _ _ hh
  exact KLoop_mono (fun vs s' h => by obtain ⟨n951, rfl, h1, h2⟩ := h; exact ⟨⟨⟨_, rfl⟩, trivial⟩, ⟨_, rfl, h1⟩, h2⟩)
def T_prize_For (W : World) (x1 : Option Addr) (l2 : Nat) (c3 : Nat) (x4 : Option Addr) (l5 : Nat) (c6 : Nat) (n7 : Int) (R : Ending → Hp → Prop) : Hp → Prop :=
  NEW 25 [(.slice x1 l2 c3), (.slice x4 l5 c6)] fun B8 =>
    NEW 3 [(.int .i64 n7)] fun B9 =>
      NEWZ Pg 29 fun B10 =>
        RDL (Addr.add ⟨B8, 0, none⟩ 0) fun x11 l12 c13 =>
          RDL (Addr.add ⟨B8, 0, none⟩ 1) fun x14 l15 c16 =>
            CALL Pg W F_prize_open [(.agg #[(.slice x11 l12 c13), (.slice x14 l15 c16)])]
              (fun v17 => TYP v17 fun p19 =>
                RDI .i64 ⟨B9, 0, none⟩ fun n20 =>
                  CALL Pg W F_prize_prizes_isMan [(.pointer p19), (.int .i64 n20)]
                    (fun v21 => TYB v21 fun b23 =>
                      CALL Pg W F_prize_must [(.bool b23), (.int .i64 2)]
                        (fun v24 => TUP v24 fun q26 => NL q26 <|
                          CALL Pg W F_prize_prizes_order [(.pointer p19), (.func (.func 72) #[] #[(.pointer (some ⟨B9, 0, none⟩))])]
                            (fun v27 => CALL Pg W F_slices_Collect_int [v27]
                              (fun v29 => TYL v29 fun x31 l32 c33 =>
                                RDL (Addr.add ⟨B8, 0, none⟩ 0) fun x34 l35 c36 =>
                                  L_prize_For_0 W R ⟨B8, 0, none⟩ ⟨B9, 0, none⟩ ⟨B10, 0, none⟩ x31 l32 c33 0 (↑l35 : Int))
                                (fun e30 => DEF Pg W (.tuple #[(.func (.func 42) #[] #[]), (.tuple #[(.pointer (some ⟨B10, 0, none⟩))])]) (some e30) (RDI .i64 ⟨B10, 0, none⟩ fun n37 =>
                                  R (.returned (.tuple #[(.int .i64 0), (.int .i64 n37)])))))
                              (fun e28 => DEF Pg W (.tuple #[(.func (.func 42) #[] #[]), (.tuple #[(.pointer (some ⟨B10, 0, none⟩))])]) (some e28) (RDI .i64 ⟨B10, 0, none⟩ fun n38 =>
                                R (.returned (.tuple #[(.int .i64 0), (.int .i64 n38)])))))
                          (fun e25 => DEF Pg W (.tuple #[(.func (.func 42) #[] #[]), (.tuple #[(.pointer (some ⟨B10, 0, none⟩))])]) (some e25) (RDI .i64 ⟨B10, 0, none⟩ fun n39 =>
                            R (.returned (.tuple #[(.int .i64 0), (.int .i64 n39)])))))
                      (fun e22 => DEF Pg W (.tuple #[(.func (.func 42) #[] #[]), (.tuple #[(.pointer (some ⟨B10, 0, none⟩))])]) (some e22) (RDI .i64 ⟨B10, 0, none⟩ fun n40 =>
                        R (.returned (.tuple #[(.int .i64 0), (.int .i64 n40)])))))
                (fun e18 => DEF Pg W (.tuple #[(.func (.func 42) #[] #[]), (.tuple #[(.pointer (some ⟨B10, 0, none⟩))])]) (some e18) (RDI .i64 ⟨B10, 0, none⟩ fun n41 =>
                  R (.returned (.tuple #[(.int .i64 0), (.int .i64 n41)]))))
theorem T_prize_For_eq (W : World) (x1 : Option Addr) (l2 : Nat) (c3 : Nat) (x4 : Option Addr) (l5 : Nat) (c6 : Nat) (n7 : Int) (R : Ending → Hp → Prop) : vfun Pg W an_31 Try.f31 [(.agg #[(.slice x1 l2 c3), (.slice x4 l5 c6)]), (.int .i64 n7)] R = T_prize_For W x1 l2 c3 x4 l5 c6 n7 R := by kernel_rfl
theorem does_prize_For (W : World) (x1 : Option Addr) (l2 : Nat) (c3 : Nat) (x4 : Option Addr) (l5 : Nat) (c6 : Nat) (n7 : Int) (R : Ending → Hp → Prop) (s : Hp) (h : T_prize_For W x1 l2 c3 x4 l5 c6 n7 R s) : Does Pg W F_prize_For #[(.agg #[(.slice x1 l2 c3), (.slice x4 l5 c6)]), (.int .i64 n7)] s R :=
  does_of_vfun Pg W an_31 Try.func31 rfl (by kernel_rfl) (by rw [T_prize_For_eq]; exact h)
def an_43 : Nat → Ann := fun b => match b with
  | 0 => { ms := [28], ks := [.i .i64], us := [1, 2, 3, 4, 99], rt := false, ex := [] }
  | 2 => { ms := [40], ks := [.i .i64], us := [1, 2, 3, 4, 38, 39, 99], rt := false, ex := [] }
  | 4 => { ms := [76], ks := [.i .i64], us := [2, 3, 74, 75, 99], rt := false, ex := [] }
  | _ => {}
abbrev rv_43 : List ResultVar := [.tmp 2]
abbrev rs_43 : List Nat := [99, 2]
def L_prize_open_0 (W : World) (R : Ending → Hp → Prop) (za0 : Addr) (za1 : Addr) (zn2 : Int) (n37 : Int) : Hp → Prop :=
  LOOPN [.i .i64] (fun ys next s => ∀ j : Tm, vc Pg W 99 rs_43 an_43 false (sub (bodyOf Try.f43) [1, 1, 1, 1, 0, 1, 0, 0]) 0 (KLoop [28] [1, 2, 3, 4, 99] [(.pointer (some za0)), (.pointer none), (.pointer (some za1)), (.int .i64 zn2), (.tuple #[])] next (KBlk 0 (KS Pg W 99 rs_43 an_43 false (sub (bodyOf Try.f43) [1, 1, 1, 1, 1]) 0 (fin Pg W 99 rv_43 R)))) (known [28] ys (known [1, 2, 3, 4, 99] [(.pointer (some za0)), (.pointer none), (.pointer (some za1)), (.int .i64 zn2), (.tuple #[])] j)) s) [(.int .i64 n37)]
def L_prize_open_1 (W : World) (R : Ending → Hp → Prop) (za0 : Addr) (za1 : Addr) (zn2 : Int) (zp3 : Option Addr) (zl4 : Nat) (zl5 : Nat) (zn6 : Int) (n42 : Int) : Hp → Prop :=
  LOOPN [.i .i64] (fun ys next s => ∀ j : Tm, vc Pg W 99 rs_43 an_43 false (sub (bodyOf Try.f43) [1, 1, 1, 1, 1, 0, 1, 0, 0]) 2 (KLoop [40] [1, 2, 3, 4, 38, 39, 99] [(.pointer (some za0)), (.pointer none), (.pointer (some za1)), (.int .i64 zn2), (.slice zp3 zl4 zl5), (.int .i64 zn6), (.tuple #[])] next (KBlk 2 (KS Pg W 99 rs_43 an_43 false (sub (bodyOf Try.f43) [1, 1, 1, 1, 1, 1]) 0 (fin Pg W 99 rv_43 R)))) (known [40] ys (known [1, 2, 3, 4, 38, 39, 99] [(.pointer (some za0)), (.pointer none), (.pointer (some za1)), (.int .i64 zn2), (.slice zp3 zl4 zl5), (.int .i64 zn6), (.tuple #[])] j)) s) [(.int .i64 n42)]
def L_prize_open_2 (W : World) (R : Ending → Hp → Prop) (za0 : Addr) (zp1 : Option Addr) (zl2 : Nat) (zl3 : Nat) (zn4 : Int) (n87 : Int) : Hp → Prop :=
  LOOPN [.i .i64] (fun ys next s => ∀ j : Tm, vc Pg W 99 rs_43 an_43 false (sub (bodyOf Try.f43) [1, 1, 1, 1, 1, 1, 0, 1, 0, 0]) 4 (KLoop [76] [2, 3, 74, 75, 99] [(.pointer none), (.pointer (some za0)), (.slice zp1 zl2 zl3), (.int .i64 zn4), (.tuple #[])] next (KBlk 4 (KS Pg W 99 rs_43 an_43 false (sub (bodyOf Try.f43) [1, 1, 1, 1, 1, 1, 1]) 0 (fin Pg W 99 rv_43 R)))) (known [76] ys (known [2, 3, 74, 75, 99] [(.pointer none), (.pointer (some za0)), (.slice zp1 zl2 zl3), (.int .i64 zn4), (.tuple #[])] j)) s) [(.int .i64 n87)]
def J_prize_open_0 (W : World) (R : Ending → Hp → Prop) (b33 : Bool) (B7 : Nat) (B23 : Nat) (l25 : Nat) : Hp → Prop :=
  CALL Pg W F_prize_must [(.bool b33), (.int .i64 1)]
    (fun v34 => TUP v34 fun q36 => NL q36 <|
      L_prize_open_0 W R ⟨B7, 0, none⟩ ⟨B23, 0, none⟩ (↑l25 : Int) 0)
      (fun e35 => R (.panicked e35))
def J_prize_open_1 (W : World) (R : Ending → Hp → Prop) (b78 : Bool) (B48 : Nat) (za1 : Addr) (n42 : Int) (za0 : Addr) (zn2 : Int) (zp3 : Option Addr) (zl4 : Nat) (zl5 : Nat) (zn6 : Int) (nx1 : List Value → Hp → Prop) : Hp → Prop :=
  CALL Pg W F_prize_must [(.bool b78), (.int .i64 1)]
    (fun v79 => TUP v79 fun q81 => NL q81 <|
      RDI .i64 (Addr.add ⟨B48, 0, none⟩ 0) fun n82 =>
        IXA (Addr.add za1 3) 9 n82 1 fun a83 =>
          WR (Addr.add a83 0) (.int .i64 n42) <|
            NX [(.pointer (some za0)), (.pointer none), (.pointer (some za1)), (.int .i64 zn2), (.slice zp3 zl4 zl5), (.int .i64 zn6), (.tuple #[])] [(.pointer (some za0)), (.pointer none), (.pointer (some za1)), (.int .i64 zn2), (.slice zp3 zl4 zl5), (.int .i64 zn6), (.tuple #[])] (nx1 [(.int .i64 (IntKind.wrap .i64 (n42 + 1)))]))
      (fun e80 => R (.panicked e80))
def J_prize_open_2 (W : World) (R : Ending → Hp → Prop) (b63 : Bool) (B48 : Nat) (za1 : Addr) (n42 : Int) (za0 : Addr) (zn2 : Int) (zp3 : Option Addr) (zl4 : Nat) (zl5 : Nat) (zn6 : Int) (nx1 : List Value → Hp → Prop) : Hp → Prop :=
  BR b63
    (RDI .i64 (Addr.add ⟨B48, 0, none⟩ 1) fun n64 =>
      CALL Pg W F_prize_within [(.int .i64 n64), (.int .i64 0), (.int .i64 5)]
        (fun v65 => TYB v65 fun b67 =>
          J_prize_open_1 W R b67 B48 za1 n42 za0 zn2 zp3 zl4 zl5 zn6 nx1)
          (fun e66 => R (.panicked e66)))
    (J_prize_open_1 W R false B48 za1 n42 za0 zn2 zp3 zl4 zl5 zn6 nx1)
def J_prize_open_3 (W : World) (R : Ending → Hp → Prop) (b105 : Bool) (za0 : Addr) (zp1 : Option Addr) (zl2 : Nat) (zl3 : Nat) (zn4 : Int) (nx2 : List Value → Hp → Prop) (n87 : Int) : Hp → Prop :=
  CALL Pg W F_prize_must [(.bool b105), (.int .i64 1)]
    (fun v106 => TUP v106 fun q108 => NL q108 <|
      NX [(.pointer none), (.pointer (some za0)), (.slice zp1 zl2 zl3), (.int .i64 zn4), (.tuple #[])] [(.pointer none), (.pointer (some za0)), (.slice zp1 zl2 zl3), (.int .i64 zn4), (.tuple #[])] (nx2 [(.int .i64 (IntKind.wrap .i64 (n87 + 1)))]))
      (fun e107 => R (.panicked e107))
def B_prize_open_0 (W : World) (R : Ending → Hp → Prop) (za0 : Addr) (za1 : Addr) (zn2 : Int) (n37 : Int) (nx0 : List Value → Hp → Prop) : Hp → Prop :=
  BR (decide (n37 < 9))
    (IXA (Addr.add za1 3) 9 n37 1 fun a38 =>
      WR (Addr.add a38 0) (.int .i64 (-1)) <|
        NX [(.pointer (some za0)), (.pointer none), (.pointer (some za1)), (.int .i64 zn2), (.tuple #[])] [(.pointer (some za0)), (.pointer none), (.pointer (some za1)), (.int .i64 zn2), (.tuple #[])] (nx0 [(.int .i64 (IntKind.wrap .i64 (n37 + 1)))]))
    (RDL (Addr.add za0 0) fun x39 l40 c41 =>
      L_prize_open_1 W R za0 za1 zn2 x39 l40 c41 (↑l40 : Int) 0)
theorem B_prize_open_0_eq (W : World) (R : Ending → Hp → Prop) (za0 : Addr) (za1 : Addr) (zn2 : Int) (n37 : Int) (nx0 : List Value → Hp → Prop) (j : Tm) : vc Pg W 99 rs_43 an_43 false (sub (bodyOf Try.f43) [1, 1, 1, 1, 0, 1, 0, 0]) 0 (KLoop [28] [1, 2, 3, 4, 99] [(.pointer (some za0)), (.pointer none), (.pointer (some za1)), (.int .i64 zn2), (.tuple #[])] nx0 (KBlk 0 (KS Pg W 99 rs_43 an_43 false (sub (bodyOf Try.f43) [1, 1, 1, 1, 1]) 0 (fin Pg W 99 rv_43 R)))) (known [28] [(.int .i64 n37)] (known [1, 2, 3, 4, 99] [(.pointer (some za0)), (.pointer none), (.pointer (some za1)), (.int .i64 zn2), (.tuple #[])] j)) = B_prize_open_0 W R za0 za1 zn2 n37 nx0 := by kernel_rfl
def N_prize_open_0 (I : Int → Hp → Prop) (μ : Int → Hp → Nat) (n370 : Int) (s : Hp) (vs : List Value) : Hp → Prop := fun s' => ∃ n37, vs = [(.int .i64 n37)] ∧ I n37 s' ∧ μ n37 s' < μ n370 s
theorem L_prize_open_0_rule (W : World) (R : Ending → Hp → Prop) (za0 : Addr) (za1 : Addr) (zn2 : Int) (I : Int → Hp → Prop) (μ : Int → Hp → Nat) (n370 : Int) (s : Hp) (h0 : I n370 s)
    (hr : ∀ (n37 : Int) (s : Hp), I n37 s → B_prize_open_0 W R za0 za1 zn2 n37 (fun vs => N_prize_open_0 I μ n37 s vs) s) : L_prize_open_0 W R za0 za1 zn2 n370 s := by
  refine ⟨fun vs s => ∃ n37, vs = [(.int .i64 n37)] ∧ I n37 s, fun vs s => (match vs with | [.int _ n37] => μ n37 s | _ => 0), ⟨⟨⟨_, rfl⟩, trivial⟩, ⟨_, rfl, h0⟩⟩, ?_⟩
  intro n37 s hI j
  obtain ⟨n37', hy, hI⟩ := hI
  have hI' : I n37 s := by cases hy; exact hI
  have hh := hr n37 s hI'
  rw [← B_prize_open_0_eq W R za0 za1 zn2 n37 _ j] at hh
  refine vc_mono ?_ _ _ hh
  exact KLoop_mono (fun vs s' h => by obtain ⟨n371, rfl, h1, h2⟩ := h; exact ⟨⟨⟨_, rfl⟩, trivial⟩, ⟨_, rfl, h1⟩, h2⟩)
def B_prize_open_1 (W : World) (R : Ending → Hp → Prop) (za0 : Addr) (za1 : Addr) (zn2 : Int) (zp3 : Option Addr) (zl4 : Nat) (zl5 : Nat) (zn6 : Int) (n42 : Int) (nx1 : List Value → Hp → Prop) : Hp → Prop :=
  BR (decide (n42 < zn6))
    (IXS zp3 zl4 n42 4 fun a43 =>
      RDI .i64 (Addr.add a43 0) fun n44 =>
        RDI .i64 (Addr.add a43 1) fun n45 =>
          RDB (Addr.add a43 2) fun b46 =>
            RDB (Addr.add a43 3) fun b47 =>
              NEWZ Pg 48 fun B48 =>
                WR (Addr.add ⟨B48, 0, none⟩ 0) (.int .i64 n44) <|
                  WR (Addr.add ⟨B48, 0, none⟩ 1) (.int .i64 n45) <|
                    WR (Addr.add ⟨B48, 0, none⟩ 2) (.bool b46) <|
                      WR (Addr.add ⟨B48, 0, none⟩ 3) (.bool b47) <|
                        RDI .i64 (Addr.add ⟨B48, 0, none⟩ 0) fun n49 =>
                          CALL Pg W F_prize_within [(.int .i64 n49), (.int .i64 1), (.int .i64 zn2)]
                            (fun v50 => TYB v50 fun b52 =>
                              BR b52
                                (RDI .i64 (Addr.add ⟨B48, 0, none⟩ 0) fun n53 =>
                                  IXA (Addr.add za1 3) 9 n53 1 fun a54 =>
                                    RDI .i64 a54 fun n55 =>
                                      J_prize_open_2 W R (n55 == (-1)) B48 za1 n42 za0 zn2 zp3 zl4 zl5 zn6 nx1)
                                (J_prize_open_2 W R false B48 za1 n42 za0 zn2 zp3 zl4 zl5 zn6 nx1))
                              (fun e51 => R (.panicked e51)))
    (RDL (Addr.add za0 1) fun x84 l85 c86 =>
      L_prize_open_2 W R za1 x84 l85 c86 (↑l85 : Int) 0)
theorem B_prize_open_1_eq (W : World) (R : Ending → Hp → Prop) (za0 : Addr) (za1 : Addr) (zn2 : Int) (zp3 : Option Addr) (zl4 : Nat) (zl5 : Nat) (zn6 : Int) (n42 : Int) (nx1 : List Value → Hp → Prop) (j : Tm) : vc Pg W 99 rs_43 an_43 false (sub (bodyOf Try.f43) [1, 1, 1, 1, 1, 0, 1, 0, 0]) 2 (KLoop [40] [1, 2, 3, 4, 38, 39, 99] [(.pointer (some za0)), (.pointer none), (.pointer (some za1)), (.int .i64 zn2), (.slice zp3 zl4 zl5), (.int .i64 zn6), (.tuple #[])] nx1 (KBlk 2 (KS Pg W 99 rs_43 an_43 false (sub (bodyOf Try.f43) [1, 1, 1, 1, 1, 1]) 0 (fin Pg W 99 rv_43 R)))) (known [40] [(.int .i64 n42)] (known [1, 2, 3, 4, 38, 39, 99] [(.pointer (some za0)), (.pointer none), (.pointer (some za1)), (.int .i64 zn2), (.slice zp3 zl4 zl5), (.int .i64 zn6), (.tuple #[])] j)) = B_prize_open_1 W R za0 za1 zn2 zp3 zl4 zl5 zn6 n42 nx1 := by kernel_rfl
def N_prize_open_1 (I : Int → Hp → Prop) (μ : Int → Hp → Nat) (n420 : Int) (s : Hp) (vs : List Value) : Hp → Prop := fun s' => ∃ n42, vs = [(.int .i64 n42)] ∧ I n42 s' ∧ μ n42 s' < μ n420 s
theorem L_prize_open_1_rule (W : World) (R : Ending → Hp → Prop) (za0 : Addr) (za1 : Addr) (zn2 : Int) (zp3 : Option Addr) (zl4 : Nat) (zl5 : Nat) (zn6 : Int) (I : Int → Hp → Prop) (μ : Int → Hp → Nat) (n420 : Int) (s : Hp) (h0 : I n420 s)
    (hr : ∀ (n42 : Int) (s : Hp), I n42 s → B_prize_open_1 W R za0 za1 zn2 zp3 zl4 zl5 zn6 n42 (fun vs => N_prize_open_1 I μ n42 s vs) s) : L_prize_open_1 W R za0 za1 zn2 zp3 zl4 zl5 zn6 n420 s := by
  refine ⟨fun vs s => ∃ n42, vs = [(.int .i64 n42)] ∧ I n42 s, fun vs s => (match vs with | [.int _ n42] => μ n42 s | _ => 0), ⟨⟨⟨_, rfl⟩, trivial⟩, ⟨_, rfl, h0⟩⟩, ?_⟩
  intro n42 s hI j
  obtain ⟨n42', hy, hI⟩ := hI
  have hI' : I n42 s := by cases hy; exact hI
  have hh := hr n42 s hI'
  rw [← B_prize_open_1_eq W R za0 za1 zn2 zp3 zl4 zl5 zn6 n42 _ j] at hh
  refine vc_mono ?_ _ _ hh
  exact KLoop_mono (fun vs s' h => by obtain ⟨n421, rfl, h1, h2⟩ := h; exact ⟨⟨⟨_, rfl⟩, trivial⟩, ⟨_, rfl, h1⟩, h2⟩)
def B_prize_open_2 (W : World) (R : Ending → Hp → Prop) (za0 : Addr) (zp1 : Option Addr) (zl2 : Nat) (zl3 : Nat) (zn4 : Int) (n87 : Int) (nx2 : List Value → Hp → Prop) : Hp → Prop :=
  BR (decide (n87 < zn4))
    (IXS zp1 zl2 n87 2 fun a88 =>
      RDI .i64 (Addr.add a88 0) fun n89 =>
        RDI .i64 (Addr.add a88 1) fun n90 =>
          NEWZ Pg 50 fun B91 =>
            WR (Addr.add ⟨B91, 0, none⟩ 0) (.int .i64 n89) <|
              WR (Addr.add ⟨B91, 0, none⟩ 1) (.int .i64 n90) <|
                RDM (Addr.add za0 2) fun m92 =>
                  RDI .i64 (Addr.add ⟨B91, 0, none⟩ 0) fun n93 =>
                    LKP Pg 90 (.map m92) (.int .i64 n93) true fun v94 =>
                      TUP v94 fun q95 => HD q95 fun v96 r97 => HD r97 fun v98 r99 => TYB v98 fun b100 =>
                        NL r99 <|
                          BR b100
                            (RDI .i64 (Addr.add ⟨B91, 0, none⟩ 1) fun n101 =>
                              CALL Pg W F_prize_within [(.int .i64 n101), (.int .i64 0), (.int .i64 1000)]
                                (fun v102 => TYB v102 fun b104 =>
                                  J_prize_open_3 W R b104 za0 zp1 zl2 zl3 zn4 nx2 n87)
                                  (fun e103 => R (.panicked e103)))
                            (J_prize_open_3 W R false za0 zp1 zl2 zl3 zn4 nx2 n87))
    (R (.returned (.pointer (some za0))))
theorem B_prize_open_2_eq (W : World) (R : Ending → Hp → Prop) (za0 : Addr) (zp1 : Option Addr) (zl2 : Nat) (zl3 : Nat) (zn4 : Int) (n87 : Int) (nx2 : List Value → Hp → Prop) (j : Tm) : vc Pg W 99 rs_43 an_43 false (sub (bodyOf Try.f43) [1, 1, 1, 1, 1, 1, 0, 1, 0, 0]) 4 (KLoop [76] [2, 3, 74, 75, 99] [(.pointer none), (.pointer (some za0)), (.slice zp1 zl2 zl3), (.int .i64 zn4), (.tuple #[])] nx2 (KBlk 4 (KS Pg W 99 rs_43 an_43 false (sub (bodyOf Try.f43) [1, 1, 1, 1, 1, 1, 1]) 0 (fin Pg W 99 rv_43 R)))) (known [76] [(.int .i64 n87)] (known [2, 3, 74, 75, 99] [(.pointer none), (.pointer (some za0)), (.slice zp1 zl2 zl3), (.int .i64 zn4), (.tuple #[])] j)) = B_prize_open_2 W R za0 zp1 zl2 zl3 zn4 n87 nx2 := by kernel_rfl
def N_prize_open_2 (I : Int → Hp → Prop) (μ : Int → Hp → Nat) (n870 : Int) (s : Hp) (vs : List Value) : Hp → Prop := fun s' => ∃ n87, vs = [(.int .i64 n87)] ∧ I n87 s' ∧ μ n87 s' < μ n870 s
theorem L_prize_open_2_rule (W : World) (R : Ending → Hp → Prop) (za0 : Addr) (zp1 : Option Addr) (zl2 : Nat) (zl3 : Nat) (zn4 : Int) (I : Int → Hp → Prop) (μ : Int → Hp → Nat) (n870 : Int) (s : Hp) (h0 : I n870 s)
    (hr : ∀ (n87 : Int) (s : Hp), I n87 s → B_prize_open_2 W R za0 zp1 zl2 zl3 zn4 n87 (fun vs => N_prize_open_2 I μ n87 s vs) s) : L_prize_open_2 W R za0 zp1 zl2 zl3 zn4 n870 s := by
  refine ⟨fun vs s => ∃ n87, vs = [(.int .i64 n87)] ∧ I n87 s, fun vs s => (match vs with | [.int _ n87] => μ n87 s | _ => 0), ⟨⟨⟨_, rfl⟩, trivial⟩, ⟨_, rfl, h0⟩⟩, ?_⟩
  intro n87 s hI j
  obtain ⟨n87', hy, hI⟩ := hI
  have hI' : I n87 s := by cases hy; exact hI
  have hh := hr n87 s hI'
  rw [← B_prize_open_2_eq W R za0 zp1 zl2 zl3 zn4 n87 _ j] at hh
  refine vc_mono ?_ _ _ hh
  exact KLoop_mono (fun vs s' h => by obtain ⟨n871, rfl, h1, h2⟩ := h; exact ⟨⟨⟨_, rfl⟩, trivial⟩, ⟨_, rfl, h1⟩, h2⟩)
def T_prize_open (W : World) (x1 : Option Addr) (l2 : Nat) (c3 : Nat) (x4 : Option Addr) (l5 : Nat) (c6 : Nat) (R : Ending → Hp → Prop) : Hp → Prop :=
  NEW 25 [(.slice x1 l2 c3), (.slice x4 l5 c6)] fun B7 =>
    RDL (Addr.add ⟨B7, 0, none⟩ 0) fun x8 l9 c10 =>
      RDL (Addr.add ⟨B7, 0, none⟩ 1) fun x11 l12 c13 =>
        CALL Pg W F_prize_who []
          (fun v14 => TYM v14 fun m16 =>
            ANDS (RDL (Addr.add ⟨B7, 0, none⟩ 0) fun x17 l18 c19 =>
              RDL (Addr.add ⟨B7, 0, none⟩ 1) fun x20 l21 c22 =>
                fun _ => ((.agg #[(.slice x17 l18 c19), (.slice x20 l21 c22)]) : Value) = (.agg #[(.slice x8 l9 c10), (.slice x11 l12 c13)])) <|
              NEW 93 [(.slice x8 l9 c10), (.slice x11 l12 c13), (.map m16), (.int .i64 0), (.int .i64 0), (.int .i64 0), (.int .i64 0), (.int .i64 0), (.int .i64 0), (.int .i64 0), (.int .i64 0), (.int .i64 0)] fun B23 =>
                RDL (Addr.add ⟨B7, 0, none⟩ 0) fun x24 l25 c26 =>
                  CALL Pg W F_prize_within [(.int .i64 (↑l25 : Int)), (.int .i64 1), (.int .i64 8)]
                    (fun v27 => TYB v27 fun b29 =>
                      BR b29
                        (RDL (Addr.add ⟨B7, 0, none⟩ 1) fun x30 l31 c32 =>
                          J_prize_open_0 W R (decide ((↑l31 : Int) ≤ 6)) B7 B23 l25)
                        (J_prize_open_0 W R false B7 B23 l25))
                      (fun e28 => R (.panicked e28)))
            (fun e15 => R (.panicked e15))
theorem T_prize_open_eq (W : World) (x1 : Option Addr) (l2 : Nat) (c3 : Nat) (x4 : Option Addr) (l5 : Nat) (c6 : Nat) (R : Ending → Hp → Prop) : vfun Pg W an_43 Try.f43 [(.agg #[(.slice x1 l2 c3), (.slice x4 l5 c6)])] R = T_prize_open W x1 l2 c3 x4 l5 c6 R := by kernel_rfl
theorem does_prize_open (W : World) (x1 : Option Addr) (l2 : Nat) (c3 : Nat) (x4 : Option Addr) (l5 : Nat) (c6 : Nat) (R : Ending → Hp → Prop) (s : Hp) (h : T_prize_open W x1 l2 c3 x4 l5 c6 R s) : Does Pg W F_prize_open #[(.agg #[(.slice x1 l2 c3), (.slice x4 l5 c6)])] s R :=
  does_of_vfun Pg W an_43 Try.func43 rfl (by kernel_rfl) (by rw [T_prize_open_eq]; exact h)
def an_44 : Nat → Ann := fun b => match b with
  | _ => {}
abbrev rv_44 : List ResultVar := []
abbrev rs_44 : List Nat := [9]
def T_prize_must (W : World) (b1 : Bool) (n2 : Int) (R : Ending → Hp → Prop) : Hp → Prop :=
  BR (!b1)
    (R (.panicked [{ v := (.iface 103 (.agg #[(.int .i64 n2)])), recovered := false }]))
    (R (.returned (.tuple #[])))
theorem T_prize_must_eq (W : World) (b1 : Bool) (n2 : Int) (R : Ending → Hp → Prop) : vfun Pg W an_44 Try.f44 [(.bool b1), (.int .i64 n2)] R = T_prize_must W b1 n2 R := by kernel_rfl
theorem does_prize_must (W : World) (b1 : Bool) (n2 : Int) (R : Ending → Hp → Prop) (s : Hp) (h : T_prize_must W b1 n2 R s) : Does Pg W F_prize_must #[(.bool b1), (.int .i64 n2)] s R :=
  does_of_vfun Pg W an_44 Try.func44 rfl (by kernel_rfl) (by rw [T_prize_must_eq]; exact h)
def an_45 : Nat → Ann := fun b => match b with
  | _ => {}
abbrev rv_45 : List ResultVar := [.tmp 4]
abbrev rs_45 : List Nat := [14, 4]
def T_prize_prizes_isMan (W : World) (p1 : Option Addr) (n2 : Int) (R : Ending → Hp → Prop) : Hp → Prop :=
  SO p1 fun a3 =>
    RDL (Addr.add (Addr.add a3 0) 0) fun x4 l5 c6 =>
      CALL Pg W F_prize_within [(.int .i64 n2), (.int .i64 0), (.int .i64 (IntKind.wrap .i64 ((↑l5 : Int) - 1)))]
        (fun v7 => TYB v7 fun b9 =>
          R (.returned (.bool b9)))
          (fun e8 => R (.panicked e8))
theorem T_prize_prizes_isMan_eq (W : World) (p1 : Option Addr) (n2 : Int) (R : Ending → Hp → Prop) : vfun Pg W an_45 Try.f45 [(.pointer p1), (.int .i64 n2)] R = T_prize_prizes_isMan W p1 n2 R := by kernel_rfl
theorem does_prize_prizes_isMan (W : World) (p1 : Option Addr) (n2 : Int) (R : Ending → Hp → Prop) (s : Hp) (h : T_prize_prizes_isMan W p1 n2 R s) : Does Pg W F_prize_prizes_isMan #[(.pointer p1), (.int .i64 n2)] s R :=
  does_of_vfun Pg W an_45 Try.func45 rfl (by kernel_rfl) (by rw [T_prize_prizes_isMan_eq]; exact h)
def an_46 : Nat → Ann := fun b => match b with
  | _ => {}
abbrev rv_46 : List ResultVar := [.tmp 4]
abbrev rs_46 : List Nat := [14, 4]
def T_prize_prizes_isPrize (W : World) (p1 : Option Addr) (n2 : Int) (R : Ending → Hp → Prop) : Hp → Prop :=
  SO p1 fun a3 =>
    RDL (Addr.add (Addr.add a3 0) 1) fun x4 l5 c6 =>
      CALL Pg W F_prize_within [(.int .i64 n2), (.int .i64 0), (.int .i64 (IntKind.wrap .i64 ((↑l5 : Int) - 1)))]
        (fun v7 => TYB v7 fun b9 =>
          R (.returned (.bool b9)))
          (fun e8 => R (.panicked e8))
theorem T_prize_prizes_isPrize_eq (W : World) (p1 : Option Addr) (n2 : Int) (R : Ending → Hp → Prop) : vfun Pg W an_46 Try.f46 [(.pointer p1), (.int .i64 n2)] R = T_prize_prizes_isPrize W p1 n2 R := by kernel_rfl
theorem does_prize_prizes_isPrize (W : World) (p1 : Option Addr) (n2 : Int) (R : Ending → Hp → Prop) (s : Hp) (h : T_prize_prizes_isPrize W p1 n2 R s) : Does Pg W F_prize_prizes_isPrize #[(.pointer p1), (.int .i64 n2)] s R :=
  does_of_vfun Pg W an_46 Try.func46 rfl (by kernel_rfl) (by rw [T_prize_prizes_isPrize_eq]; exact h)
def an_47 : Nat → Ann := fun b => match b with
  | _ => {}
abbrev rv_47 : List ResultVar := [.tmp 6]
abbrev rs_47 : List Nat := [30, 6]
def T_prize_prizes_can (W : World) (p1 : Option Addr) (n2 : Int) (n3 : Int) (R : Ending → Hp → Prop) : Hp → Prop :=
  SO p1 fun a4 =>
    RDM (Addr.add a4 2) fun m5 =>
      SO p1 fun a6 =>
        RDL (Addr.add (Addr.add a6 0) 1) fun x7 l8 c9 =>
          IXS x7 l8 n3 2 fun a10 =>
            RDI .i64 (Addr.add a10 0) fun n11 =>
              SO p1 fun a12 =>
                RDL (Addr.add (Addr.add a12 0) 0) fun x13 l14 c15 =>
                  IXS x13 l14 n2 4 fun a16 =>
                    RDI .i64 (Addr.add a16 0) fun n17 =>
                      RDI .i64 (Addr.add a16 1) fun n18 =>
                        RDB (Addr.add a16 2) fun b19 =>
                          RDB (Addr.add a16 3) fun b20 =>
                            LKP Pg 90 (.map m5) (.int .i64 n11) false fun v21 =>
                              ANDS (RDI .i64 (Addr.add a16 0) fun n22 =>
                                RDI .i64 (Addr.add a16 1) fun n23 =>
                                  RDB (Addr.add a16 2) fun b24 =>
                                    RDB (Addr.add a16 3) fun b25 =>
                                      fun _ => ((.agg #[(.int .i64 n22), (.int .i64 n23), (.bool b24), (.bool b25)]) : Value) = (.agg #[(.int .i64 n17), (.int .i64 n18), (.bool b19), (.bool b20)])) <|
                                ANDS (RDL (Addr.add (Addr.add a12 0) 0) fun x26 l27 c28 =>
                                  fun _ => ((.slice x26 l27 c28) : Value) = (.slice x13 l14 c15)) <|
                                  CALLV Pg W v21 [(.agg #[(.int .i64 n17), (.int .i64 n18), (.bool b19), (.bool b20)])]
                                    (fun v29 => TYB v29 fun b31 =>
                                      R (.returned (.bool b31)))
                                      (fun e30 => R (.panicked e30))
theorem T_prize_prizes_can_eq (W : World) (p1 : Option Addr) (n2 : Int) (n3 : Int) (R : Ending → Hp → Prop) : vfun Pg W an_47 Try.f47 [(.pointer p1), (.int .i64 n2), (.int .i64 n3)] R = T_prize_prizes_can W p1 n2 n3 R := by kernel_rfl
theorem does_prize_prizes_can (W : World) (p1 : Option Addr) (n2 : Int) (n3 : Int) (R : Ending → Hp → Prop) (s : Hp) (h : T_prize_prizes_can W p1 n2 n3 R s) : Does Pg W F_prize_prizes_can #[(.pointer p1), (.int .i64 n2), (.int .i64 n3)] s R :=
  does_of_vfun Pg W an_47 Try.func47 rfl (by kernel_rfl) (by rw [T_prize_prizes_can_eq]; exact h)
def an_52 : Nat → Ann := fun b => match b with
  | 0 => { ms := [6, 31], ks := [.l, .i .i64], us := [2, 3, 4, 5, 30, 48], rt := false, ex := [] }
  | _ => {}
abbrev rv_52 : List ResultVar := [.tmp 2]
abbrev rs_52 : List Nat := [48, 2]
def L_prize_prizes_due_0 (W : World) (R : Ending → Hp → Prop) (zp0 : Option Addr) (zn1 : Int) (zn2 : Int) (zm3 : Option Nat) (zn4 : Int) (x21 : Option Addr) (l22 : Nat) (c23 : Nat) (n24 : Int) : Hp → Prop :=
  LOOPN [.l, .i .i64] (fun ys next s => ∀ j : Tm, vc Pg W 48 rs_52 an_52 false (sub (bodyOf Try.f52) [1, 1, 1, 1, 1, 0, 1, 0, 0]) 0 (KLoop [6, 31] [2, 3, 4, 5, 30, 48] [(.slice none 0 0), (.iface 110 (.agg #[(.pointer zp0), (.int .i64 zn1), (.int .i64 zn2)])), (.map zm3), (.func (.func 65) #[(.map zm3)] #[]), (.int .i64 zn4), (.tuple #[])] next (KBlk 0 (KS Pg W 48 rs_52 an_52 false (sub (bodyOf Try.f52) [1, 1, 1, 1, 1, 1]) 0 (fin Pg W 48 rv_52 R)))) (known [6, 31] ys (known [2, 3, 4, 5, 30, 48] [(.slice none 0 0), (.iface 110 (.agg #[(.pointer zp0), (.int .i64 zn1), (.int .i64 zn2)])), (.map zm3), (.func (.func 65) #[(.map zm3)] #[]), (.int .i64 zn4), (.tuple #[])] j)) s) [(.slice x21 l22 c23), (.int .i64 n24)]
def J_prize_prizes_due_0 (W : World) (R : Ending → Hp → Prop) (n27 : Int) (x21 : Option Addr) (l22 : Nat) (c23 : Nat) (zp0 : Option Addr) (zn1 : Int) (zn2 : Int) (zm3 : Option Nat) (zn4 : Int) (nx0 : List Value → Hp → Prop) (n24 : Int) : Hp → Prop :=
  NEW 3 [(.int .i64 n27)] fun B28 =>
    APP Pg 3 1 x21 l22 c23 (some ⟨B28, 0, none⟩) 1 fun x29 l30 c31 =>
      NX [(.slice none 0 0), (.iface 110 (.agg #[(.pointer zp0), (.int .i64 zn1), (.int .i64 zn2)])), (.map zm3), (.func (.func 65) #[(.map zm3)] #[]), (.int .i64 zn4), (.tuple #[])] [(.slice none 0 0), (.iface 110 (.agg #[(.pointer zp0), (.int .i64 zn1), (.int .i64 zn2)])), (.map zm3), (.func (.func 65) #[(.map zm3)] #[]), (.int .i64 zn4), (.tuple #[])] (nx0 [(.slice x29 l30 c31), (.int .i64 (IntKind.wrap .i64 (n24 + 1)))])
def B_prize_prizes_due_0 (W : World) (R : Ending → Hp → Prop) (zp0 : Option Addr) (zn1 : Int) (zn2 : Int) (zm3 : Option Nat) (zn4 : Int) (x21 : Option Addr) (l22 : Nat) (c23 : Nat) (n24 : Int) (nx0 : List Value → Hp → Prop) : Hp → Prop :=
  BR (decide (n24 < zn4))
    (INV Pg W (.iface 110 (.agg #[(.pointer zp0), (.int .i64 zn1), (.int .i64 zn2)])) "furrowworks/prize.gives" [(.int .i64 n24), (.func (.func 65) #[(.map zm3)] #[])]
      (fun v25 => TYI .i64 v25 fun n27 =>
        BR (n27 != (-1))
          (MUP Pg 88 (.map zm3) (.int .i64 n27) (.bool true) <|
            J_prize_prizes_due_0 W R n27 x21 l22 c23 zp0 zn1 zn2 zm3 zn4 nx0 n24)
          (J_prize_prizes_due_0 W R n27 x21 l22 c23 zp0 zn1 zn2 zm3 zn4 nx0 n24))
        (fun e26 => R (.panicked e26)))
    (R (.returned (.slice x21 l22 c23)))
theorem B_prize_prizes_due_0_eq (W : World) (R : Ending → Hp → Prop) (zp0 : Option Addr) (zn1 : Int) (zn2 : Int) (zm3 : Option Nat) (zn4 : Int) (x21 : Option Addr) (l22 : Nat) (c23 : Nat) (n24 : Int) (nx0 : List Value → Hp → Prop) (j : Tm) : vc Pg W 48 rs_52 an_52 false (sub (bodyOf Try.f52) [1, 1, 1, 1, 1, 0, 1, 0, 0]) 0 (KLoop [6, 31] [2, 3, 4, 5, 30, 48] [(.slice none 0 0), (.iface 110 (.agg #[(.pointer zp0), (.int .i64 zn1), (.int .i64 zn2)])), (.map zm3), (.func (.func 65) #[(.map zm3)] #[]), (.int .i64 zn4), (.tuple #[])] nx0 (KBlk 0 (KS Pg W 48 rs_52 an_52 false (sub (bodyOf Try.f52) [1, 1, 1, 1, 1, 1]) 0 (fin Pg W 48 rv_52 R)))) (known [6, 31] [(.slice x21 l22 c23), (.int .i64 n24)] (known [2, 3, 4, 5, 30, 48] [(.slice none 0 0), (.iface 110 (.agg #[(.pointer zp0), (.int .i64 zn1), (.int .i64 zn2)])), (.map zm3), (.func (.func 65) #[(.map zm3)] #[]), (.int .i64 zn4), (.tuple #[])] j)) = B_prize_prizes_due_0 W R zp0 zn1 zn2 zm3 zn4 x21 l22 c23 n24 nx0 := by kernel_rfl
def N_prize_prizes_due_0 (I : Option Addr → Nat → Nat → Int → Hp → Prop) (μ : Option Addr → Nat → Nat → Int → Hp → Nat) (x210 : Option Addr) (l220 : Nat) (c230 : Nat) (n240 : Int) (s : Hp) (vs : List Value) : Hp → Prop := fun s' => ∃ x21 l22 c23 n24, vs = [(.slice x21 l22 c23), (.int .i64 n24)] ∧ I x21 l22 c23 n24 s' ∧ μ x21 l22 c23 n24 s' < μ x210 l220 c230 n240 s
theorem L_prize_prizes_due_0_rule (W : World) (R : Ending → Hp → Prop) (zp0 : Option Addr) (zn1 : Int) (zn2 : Int) (zm3 : Option Nat) (zn4 : Int) (I : Option Addr → Nat → Nat → Int → Hp → Prop) (μ : Option Addr → Nat → Nat → Int → Hp → Nat) (x210 : Option Addr) (l220 : Nat) (c230 : Nat) (n240 : Int) (s : Hp) (h0 : I x210 l220 c230 n240 s)
    (hr : ∀ (x21 : Option Addr) (l22 : Nat) (c23 : Nat) (n24 : Int) (s : Hp), I x21 l22 c23 n24 s → B_prize_prizes_due_0 W R zp0 zn1 zn2 zm3 zn4 x21 l22 c23 n24 (fun vs => N_prize_prizes_due_0 I μ x21 l22 c23 n24 s vs) s) : L_prize_prizes_due_0 W R zp0 zn1 zn2 zm3 zn4 x210 l220 c230 n240 s := by
  refine ⟨fun vs s => ∃ x21 l22 c23 n24, vs = [(.slice x21 l22 c23), (.int .i64 n24)] ∧ I x21 l22 c23 n24 s, fun vs s => (match vs with | [.slice x21 l22 c23, .int _ n24] => μ x21 l22 c23 n24 s | _ => 0), ⟨⟨⟨_, _, _, rfl⟩, ⟨⟨_, rfl⟩, trivial⟩⟩, ⟨_, _, _, _, rfl, h0⟩⟩, ?_⟩
  intro x21 l22 c23 n24 s hI j
  obtain ⟨x21', l22', c23', n24', hy, hI⟩ := hI
  have hI' : I x21 l22 c23 n24 s := by cases hy; exact hI
  have hh := hr x21 l22 c23 n24 s hI'
  rw [← B_prize_prizes_due_0_eq W R zp0 zn1 zn2 zm3 zn4 x21 l22 c23 n24 _ j] at hh
  refine vc_mono ?_ _ _ hh
  exact KLoop_mono (fun vs s' h => by obtain ⟨x211, l221, c231, n241, rfl, h1, h2⟩ := h; exact ⟨⟨⟨_, _, _, rfl⟩, ⟨⟨_, rfl⟩, trivial⟩⟩, ⟨_, _, _, _, rfl, h1⟩, h2⟩)
def T_prize_prizes_due (W : World) (p1 : Option Addr) (R : Ending → Hp → Prop) : Hp → Prop :=
  CALL Pg W F_prize_prizes_best [(.pointer p1)]
    (fun v2 => AGG v2 fun q4 => HD q4 fun v5 r6 => TYI .i64 v5 fun n7 =>
      HD r6 fun v8 r9 => TYI .i64 v8 fun n10 =>
        NL r9 <|
          MKM fun B11 =>
            SO p1 fun a12 =>
              RDL (Addr.add (Addr.add a12 0) 1) fun x13 l14 c15 =>
                MKS Pg 3 0 (↑l14 : Int) fun B16 =>
                  SO p1 fun a17 =>
                    RDL (Addr.add (Addr.add a17 0) 1) fun x18 l19 c20 =>
                      L_prize_prizes_due_0 W R p1 n7 n10 (some B11) (↑l19 : Int) (some ⟨B16, 0, none⟩) (Int.toNat 0) (Int.toNat (↑l14 : Int)) 0)
      (fun e3 => R (.panicked e3))
theorem T_prize_prizes_due_eq (W : World) (p1 : Option Addr) (R : Ending → Hp → Prop) : vfun Pg W an_52 Try.f52 [(.pointer p1)] R = T_prize_prizes_due W p1 R := by kernel_rfl
theorem does_prize_prizes_due (W : World) (p1 : Option Addr) (R : Ending → Hp → Prop) (s : Hp) (h : T_prize_prizes_due W p1 R s) : Does Pg W F_prize_prizes_due #[(.pointer p1)] s R :=
  does_of_vfun Pg W an_52 Try.func52 rfl (by kernel_rfl) (by rw [T_prize_prizes_due_eq]; exact h)
def an_54 : Nat → Ann := fun b => match b with
  | 0 => { ms := [22], ks := [.i .i64], us := [0, 1, 4, 5, 20, 21, 51], rt := false, ex := [] }
  | _ => {}
abbrev rv_54 : List ResultVar := [.tmp 4]
abbrev rs_54 : List Nat := [51, 4]
def L_prize_prizes_giving_0 (W : World) (R : Ending → Hp → Prop) (zp0 : Option Addr) (zp1 : Option Addr) (zl2 : Nat) (zl3 : Nat) (zm4 : Option Nat) (zn5 : Int) (n13 : Int) : Hp → Prop :=
  LOOPN [.i .i64] (fun ys next s => ∀ j : Tm, vc Pg W 51 rs_54 an_54 false (sub (bodyOf Try.f54) [1, 1, 1, 0, 1, 0, 0]) 0 (KLoop [22] [0, 1, 4, 5, 20, 21, 51] [(.pointer zp0), (.slice zp1 zl2 zl3), (.slice none 0 0), (.map zm4), (.slice zp1 zl2 zl3), (.int .i64 zn5), (.tuple #[])] next (KBlk 0 (KS Pg W 51 rs_54 an_54 false (sub (bodyOf Try.f54) [1, 1, 1, 1]) 0 (fin Pg W 51 rv_54 R)))) (known [22] ys (known [0, 1, 4, 5, 20, 21, 51] [(.pointer zp0), (.slice zp1 zl2 zl3), (.slice none 0 0), (.map zm4), (.slice zp1 zl2 zl3), (.int .i64 zn5), (.tuple #[])] j)) s) [(.int .i64 n13)]
def J_prize_prizes_giving_0 (W : World) (R : Ending → Hp → Prop) (b16 : Bool) (zm4 : Option Nat) (n15 : Int) (zp0 : Option Addr) (zp1 : Option Addr) (zl2 : Nat) (zl3 : Nat) (zn5 : Int) (nx0 : List Value → Hp → Prop) (n13 : Int) : Hp → Prop :=
  CALL Pg W F_prize_must [(.bool b16), (.int .i64 2)]
    (fun v17 => TUP v17 fun q19 => NL q19 <|
      MUP Pg 88 (.map zm4) (.int .i64 n15) (.bool (n15 != (-1))) <|
        NX [(.pointer zp0), (.slice zp1 zl2 zl3), (.slice none 0 0), (.map zm4), (.slice zp1 zl2 zl3), (.int .i64 zn5), (.tuple #[])] [(.pointer zp0), (.slice zp1 zl2 zl3), (.slice none 0 0), (.map zm4), (.slice zp1 zl2 zl3), (.int .i64 zn5), (.tuple #[])] (nx0 [(.int .i64 (IntKind.wrap .i64 (n13 + 1)))]))
      (fun e18 => R (.panicked e18))
def B_prize_prizes_giving_0 (W : World) (R : Ending → Hp → Prop) (zp0 : Option Addr) (zp1 : Option Addr) (zl2 : Nat) (zl3 : Nat) (zm4 : Option Nat) (zn5 : Int) (n13 : Int) (nx0 : List Value → Hp → Prop) : Hp → Prop :=
  BR (decide (n13 < zn5))
    (IXS zp1 zl2 n13 1 fun a14 =>
      RDI .i64 a14 fun n15 =>
        BR (n15 == (-1))
          (J_prize_prizes_giving_0 W R true zm4 n15 zp0 zp1 zl2 zl3 zn5 nx0 n13)
          (CALL Pg W F_prize_prizes_isMan [(.pointer zp0), (.int .i64 n15)]
            (fun v20 => TYB v20 fun b22 =>
              BR b22
                (CALL Pg W F_prize_taken_left [(.map zm4), (.int .i64 n15)]
                  (fun v23 => TYB v23 fun b25 =>
                    J_prize_prizes_giving_0 W R b25 zm4 n15 zp0 zp1 zl2 zl3 zn5 nx0 n13)
                    (fun e24 => R (.panicked e24)))
                (J_prize_prizes_giving_0 W R false zm4 n15 zp0 zp1 zl2 zl3 zn5 nx0 n13))
              (fun e21 => R (.panicked e21))))
    (MKS Pg 3 (↑zl2 : Int) (↑zl2 : Int) fun B26 =>
      COPY 1 (some ⟨B26, 0, none⟩) (Int.toNat (↑zl2 : Int)) zp1 zl2 fun n27 =>
        R (.returned (.slice (some ⟨B26, 0, none⟩) (Int.toNat (↑zl2 : Int)) (Int.toNat (↑zl2 : Int)))))
theorem B_prize_prizes_giving_0_eq (W : World) (R : Ending → Hp → Prop) (zp0 : Option Addr) (zp1 : Option Addr) (zl2 : Nat) (zl3 : Nat) (zm4 : Option Nat) (zn5 : Int) (n13 : Int) (nx0 : List Value → Hp → Prop) (j : Tm) : vc Pg W 51 rs_54 an_54 false (sub (bodyOf Try.f54) [1, 1, 1, 0, 1, 0, 0]) 0 (KLoop [22] [0, 1, 4, 5, 20, 21, 51] [(.pointer zp0), (.slice zp1 zl2 zl3), (.slice none 0 0), (.map zm4), (.slice zp1 zl2 zl3), (.int .i64 zn5), (.tuple #[])] nx0 (KBlk 0 (KS Pg W 51 rs_54 an_54 false (sub (bodyOf Try.f54) [1, 1, 1, 1]) 0 (fin Pg W 51 rv_54 R)))) (known [22] [(.int .i64 n13)] (known [0, 1, 4, 5, 20, 21, 51] [(.pointer zp0), (.slice zp1 zl2 zl3), (.slice none 0 0), (.map zm4), (.slice zp1 zl2 zl3), (.int .i64 zn5), (.tuple #[])] j)) = B_prize_prizes_giving_0 W R zp0 zp1 zl2 zl3 zm4 zn5 n13 nx0 := by kernel_rfl
def N_prize_prizes_giving_0 (I : Int → Hp → Prop) (μ : Int → Hp → Nat) (n130 : Int) (s : Hp) (vs : List Value) : Hp → Prop := fun s' => ∃ n13, vs = [(.int .i64 n13)] ∧ I n13 s' ∧ μ n13 s' < μ n130 s
theorem L_prize_prizes_giving_0_rule (W : World) (R : Ending → Hp → Prop) (zp0 : Option Addr) (zp1 : Option Addr) (zl2 : Nat) (zl3 : Nat) (zm4 : Option Nat) (zn5 : Int) (I : Int → Hp → Prop) (μ : Int → Hp → Nat) (n130 : Int) (s : Hp) (h0 : I n130 s)
    (hr : ∀ (n13 : Int) (s : Hp), I n13 s → B_prize_prizes_giving_0 W R zp0 zp1 zl2 zl3 zm4 zn5 n13 (fun vs => N_prize_prizes_giving_0 I μ n13 s vs) s) : L_prize_prizes_giving_0 W R zp0 zp1 zl2 zl3 zm4 zn5 n130 s := by
  refine ⟨fun vs s => ∃ n13, vs = [(.int .i64 n13)] ∧ I n13 s, fun vs s => (match vs with | [.int _ n13] => μ n13 s | _ => 0), ⟨⟨⟨_, rfl⟩, trivial⟩, ⟨_, rfl, h0⟩⟩, ?_⟩
  intro n13 s hI j
  obtain ⟨n13', hy, hI⟩ := hI
  have hI' : I n13 s := by cases hy; exact hI
  have hh := hr n13 s hI'
  rw [← B_prize_prizes_giving_0_eq W R zp0 zp1 zl2 zl3 zm4 zn5 n13 _ j] at hh
  refine vc_mono ?_ _ _ hh
  exact KLoop_mono (fun vs s' h => by obtain ⟨n131, rfl, h1, h2⟩ := h; exact ⟨⟨⟨_, rfl⟩, trivial⟩, ⟨_, rfl, h1⟩, h2⟩)
def T_prize_prizes_giving (W : World) (p1 : Option Addr) (x2 : Option Addr) (l3 : Nat) (c4 : Nat) (R : Ending → Hp → Prop) : Hp → Prop :=
  SO p1 fun a5 =>
    RDL (Addr.add (Addr.add a5 0) 1) fun x6 l7 c8 =>
      CALL Pg W F_prize_must [(.bool ((↑l3 : Int) == (↑l7 : Int))), (.int .i64 2)]
        (fun v9 => TUP v9 fun q11 => NL q11 <|
          MKM fun B12 =>
            L_prize_prizes_giving_0 W R p1 x2 l3 c4 (some B12) (↑l3 : Int) 0)
          (fun e10 => R (.panicked e10))
theorem T_prize_prizes_giving_eq (W : World) (p1 : Option Addr) (x2 : Option Addr) (l3 : Nat) (c4 : Nat) (R : Ending → Hp → Prop) : vfun Pg W an_54 Try.f54 [(.pointer p1), (.slice x2 l3 c4)] R = T_prize_prizes_giving W p1 x2 l3 c4 R := by kernel_rfl
theorem does_prize_prizes_giving (W : World) (p1 : Option Addr) (x2 : Option Addr) (l3 : Nat) (c4 : Nat) (R : Ending → Hp → Prop) (s : Hp) (h : T_prize_prizes_giving W p1 x2 l3 c4 R s) : Does Pg W F_prize_prizes_giving #[(.pointer p1), (.slice x2 l3 c4)] s R :=
  does_of_vfun Pg W an_54 Try.func54 rfl (by kernel_rfl) (by rw [T_prize_prizes_giving_eq]; exact h)
def an_56 : Nat → Ann := fun b => match b with
  | 0 => { ms := [3, 4], ks := [.l, .p], us := [1, 2, 68], rt := false, ex := [] }
  | 2 => { ms := [], ks := [.i .i64], us := [], rt := false, ex := [] }
  | _ => {}
abbrev rv_56 : List ResultVar := [.cell 2 80]
abbrev rs_56 : List Nat := [68, 2]
def L_prize_prizes_best_0 (W : World) (R : Ending → Hp → Prop) (za0 : Addr) (za1 : Addr) (x5 : Option Addr) (l6 : Nat) (c7 : Nat) (p8 : Option Addr) : Hp → Prop :=
  LOOPN [.l, .p] (fun ys next s => ∀ j : Tm, vc Pg W 68 rs_56 an_56 false (sub (bodyOf Try.f56) [1, 1, 0, 1, 0, 0]) 0 (KLoop [3, 4] [1, 2, 68] [(.pointer (some za0)), (.pointer (some za1)), (.tuple #[])] next (KBlk 0 (KS Pg W 68 rs_56 an_56 false (sub (bodyOf Try.f56) [1, 1, 1]) 0 (fin Pg W 68 rv_56 R)))) (known [3, 4] ys (known [1, 2, 68] [(.pointer (some za0)), (.pointer (some za1)), (.tuple #[])] j)) s) [(.slice x5 l6 c7), (.pointer p8)]
def J_prize_prizes_best_0 (W : World) (R : Ending → Hp → Prop) (p8 : Option Addr) (za0 : Addr) (za1 : Addr) (nx0 : List Value → Hp → Prop) (x64 : Option Addr) (l65 : Nat) (c66 : Nat) : Hp → Prop :=
  SO p8 fun a67 =>
    RDI .i64 a67 fun n68 =>
      NEWZ Pg 3 fun B69 =>
        WR (Addr.add ⟨B69, 0, none⟩ 0) (.int .i64 n68) <|
          RDI .i64 ⟨B69, 0, none⟩ fun n70 =>
            WR (Addr.add ⟨B69, 0, none⟩ 0) (.int .i64 (IntKind.wrap .i64 (n70 + 1))) <|
              NX [(.pointer (some za0)), (.pointer (some za1)), (.tuple #[])] [(.pointer (some za0)), (.pointer (some za1)), (.tuple #[])] (nx0 [(.slice x64 l65 c66), (.pointer (some ⟨B69, 0, none⟩))])
def B_prize_prizes_best_0 (W : World) (R : Ending → Hp → Prop) (za0 : Addr) (za1 : Addr) (x5 : Option Addr) (l6 : Nat) (c7 : Nat) (p8 : Option Addr) (nx0 : List Value → Hp → Prop) : Hp → Prop :=
  SO p8 fun a9 =>
    RDI .i64 a9 fun n10 =>
      BR (decide (n10 ≤ 5))
        (NEWZ Pg 26 fun B11 =>
          RDP za0 fun p12 =>
            CALL Pg W F_prize_prizes_order [(.pointer p12), (.func (.func 80) #[] #[(.pointer (some za0)), (.pointer p8)])]
              (fun v13 => RNGN Pg W v13 1
                (fun y15 fin16 => HD y15 fun v17 r18 => TYI .i64 v17 fun n19 =>
                  NL r18 <|
                    RDL ⟨B11, 0, none⟩ fun x20 l21 c22 =>
                      RDP za0 fun p23 =>
                        SO p23 fun a24 =>
                          RDL (Addr.add (Addr.add a24 0) 0) fun x25 l26 c27 =>
                            IXS x25 l26 n19 4 fun a28 =>
                              RDI .i64 (Addr.add a28 0) fun n29 =>
                                NEW 3 [(.int .i64 n29)] fun B30 =>
                                  ANDS (RDL ⟨B11, 0, none⟩ fun x31 l32 c33 =>
                                    fun _ => ((.slice x31 l32 c33) : Value) = (.slice x20 l21 c22)) <|
                                    APP Pg 3 1 x20 l21 c22 (some ⟨B30, 0, none⟩) 1 fun x34 l35 c36 =>
                                      WR (Addr.add ⟨B11, 0, none⟩ 0) (.slice x34 l35 c36) <|
                                        fin16 none)
                (AFT
                  (RDL ⟨B11, 0, none⟩ fun x37 l38 c39 =>
                    BR ((↑l38 : Int) == 1)
                      (SO p8 fun a40 =>
                        RDI .i64 a40 fun n41 =>
                          RDL ⟨B11, 0, none⟩ fun x42 l43 c44 =>
                            IXS x42 l43 0 1 fun a45 =>
                              RDI .i64 a45 fun n46 =>
                                RDP za0 fun p47 =>
                                  SO p47 fun a48 =>
                                    RDL (Addr.add (Addr.add a48 0) 0) fun x49 l50 c51 =>
                                      NEW 3 [(.int .i64 n46), (.int .i64 (↑l50 : Int)), (.int .i64 1)] fun B52 =>
                                        ANDS (SO p8 fun a53 =>
                                          RDI .i64 a53 fun n54 =>
                                            fun _ => ((.int .i64 n54) : Value) = (.int .i64 n41)) <|
                                          CALL Pg W F_prize_total [(.slice (some ⟨B52, 0, none⟩) 3 3)]
                                            (fun v55 => TYI .i64 v55 fun n57 =>
                                              ANDS (SO p8 fun a58 =>
                                                RDI .i64 a58 fun n59 =>
                                                  fun _ => ((.int .i64 n59) : Value) = (.int .i64 n41)) <|
                                                NEW 80 [(.int .i64 n41), (.int .i64 n57)] fun B60 =>
                                                  APP Pg 80 2 x5 l6 c7 (some ⟨B60, 0, none⟩) 1 fun x61 l62 c63 =>
                                                    J_prize_prizes_best_0 W R p8 za0 za1 nx0 x61 l62 c63)
                                              (fun e56 => R (.panicked e56)))
                      (RDL ⟨B11, 0, none⟩ fun x71 l72 c73 =>
                        BR (decide ((↑l72 : Int) > 1))
                          (SO p8 fun a74 =>
                            RDI .i64 a74 fun n75 =>
                              RDL ⟨B11, 0, none⟩ fun x76 l77 c78 =>
                                SLS x76 c78 0 2 1 fun x79 l80 c81 =>
                                  ANDS (SO p8 fun a82 =>
                                    RDI .i64 a82 fun n83 =>
                                      fun _ => ((.int .i64 n83) : Value) = (.int .i64 n75)) <|
                                    CALL Pg W F_prize_total [(.slice x79 l80 c81)]
                                      (fun v84 => TYI .i64 v84 fun n86 =>
                                        ANDS (SO p8 fun a87 =>
                                          RDI .i64 a87 fun n88 =>
                                            fun _ => ((.int .i64 n88) : Value) = (.int .i64 n75)) <|
                                          NEW 80 [(.int .i64 n75), (.int .i64 n86)] fun B89 =>
                                            APP Pg 80 2 x5 l6 c7 (some ⟨B89, 0, none⟩) 1 fun x90 l91 c92 =>
                                              J_prize_prizes_best_0 W R p8 za0 za1 nx0 x90 l91 c92)
                                        (fun e85 => R (.panicked e85)))
                          (J_prize_prizes_best_0 W R p8 za0 za1 nx0 x5 l6 c7))) (FF) (EXL [] fun _ => FF)))
                (fun e14 => R (.panicked e14)))
        (CALL Pg W F_prize_first_prize_club [(.slice x5 l6 c7), (.func (.func 82) #[] #[])]
          (fun v93 => TUP v93 fun q95 => HD q95 fun v96 r97 => AGG v96 fun q98 => HD q98 fun v99 r100 => TYI .i64 v99 fun n101 =>
            HD r100 fun v102 r103 => TYI .i64 v102 fun n104 =>
              NL r103 <|
                HD r97 fun v105 r106 => TYB v105 fun b107 =>
                  NL r106 <|
                    NEWZ Pg 80 fun B108 =>
                      WR (Addr.add ⟨B108, 0, none⟩ 0) (.int .i64 n101) <|
                        WR (Addr.add ⟨B108, 0, none⟩ 1) (.int .i64 n104) <|
                          RDI .i64 (Addr.add ⟨B108, 0, none⟩ 0) fun n109 =>
                            RDI .i64 (Addr.add ⟨B108, 0, none⟩ 1) fun n110 =>
                              WR (Addr.add za1 0) (.int .i64 n109) <|
                                WR (Addr.add za1 1) (.int .i64 n110) <|
                                  RDI .i64 (Addr.add za1 0) fun n111 =>
                                    RDI .i64 (Addr.add za1 1) fun n112 =>
                                      R (.returned (.agg #[(.int .i64 n111), (.int .i64 n112)])))
            (fun e94 => R (.panicked e94)))
theorem B_prize_prizes_best_0_eq (W : World) (R : Ending → Hp → Prop) (za0 : Addr) (za1 : Addr) (x5 : Option Addr) (l6 : Nat) (c7 : Nat) (p8 : Option Addr) (nx0 : List Value → Hp → Prop) (j : Tm) : vc Pg W 68 rs_56 an_56 false (sub (bodyOf Try.f56) [1, 1, 0, 1, 0, 0]) 0 (KLoop [3, 4] [1, 2, 68] [(.pointer (some za0)), (.pointer (some za1)), (.tuple #[])] nx0 (KBlk 0 (KS Pg W 68 rs_56 an_56 false (sub (bodyOf Try.f56) [1, 1, 1]) 0 (fin Pg W 68 rv_56 R)))) (known [3, 4] [(.slice x5 l6 c7), (.pointer p8)] (known [1, 2, 68] [(.pointer (some za0)), (.pointer (some za1)), (.tuple #[])] j)) = B_prize_prizes_best_0 W R za0 za1 x5 l6 c7 p8 nx0 := by kernel_rfl
def N_prize_prizes_best_0 (I : Option Addr → Nat → Nat → Option Addr → Hp → Prop) (μ : Option Addr → Nat → Nat → Option Addr → Hp → Nat) (x50 : Option Addr) (l60 : Nat) (c70 : Nat) (p80 : Option Addr) (s : Hp) (vs : List Value) : Hp → Prop := fun s' => ∃ x5 l6 c7 p8, vs = [(.slice x5 l6 c7), (.pointer p8)] ∧ I x5 l6 c7 p8 s' ∧ μ x5 l6 c7 p8 s' < μ x50 l60 c70 p80 s
theorem L_prize_prizes_best_0_rule (W : World) (R : Ending → Hp → Prop) (za0 : Addr) (za1 : Addr) (I : Option Addr → Nat → Nat → Option Addr → Hp → Prop) (μ : Option Addr → Nat → Nat → Option Addr → Hp → Nat) (x50 : Option Addr) (l60 : Nat) (c70 : Nat) (p80 : Option Addr) (s : Hp) (h0 : I x50 l60 c70 p80 s)
    (hr : ∀ (x5 : Option Addr) (l6 : Nat) (c7 : Nat) (p8 : Option Addr) (s : Hp), I x5 l6 c7 p8 s → B_prize_prizes_best_0 W R za0 za1 x5 l6 c7 p8 (fun vs => N_prize_prizes_best_0 I μ x5 l6 c7 p8 s vs) s) : L_prize_prizes_best_0 W R za0 za1 x50 l60 c70 p80 s := by
  refine ⟨fun vs s => ∃ x5 l6 c7 p8, vs = [(.slice x5 l6 c7), (.pointer p8)] ∧ I x5 l6 c7 p8 s, fun vs s => (match vs with | [.slice x5 l6 c7, .pointer p8] => μ x5 l6 c7 p8 s | _ => 0), ⟨⟨⟨_, _, _, rfl⟩, ⟨⟨_, rfl⟩, trivial⟩⟩, ⟨_, _, _, _, rfl, h0⟩⟩, ?_⟩
  intro x5 l6 c7 p8 s hI j
  obtain ⟨x5', l6', c7', p8', hy, hI⟩ := hI
  have hI' : I x5 l6 c7 p8 s := by cases hy; exact hI
  have hh := hr x5 l6 c7 p8 s hI'
  rw [← B_prize_prizes_best_0_eq W R za0 za1 x5 l6 c7 p8 _ j] at hh
  refine vc_mono ?_ _ _ hh
  exact KLoop_mono (fun vs s' h => by obtain ⟨x51, l61, c71, p81, rfl, h1, h2⟩ := h; exact ⟨⟨⟨_, _, _, rfl⟩, ⟨⟨_, rfl⟩, trivial⟩⟩, ⟨_, _, _, _, rfl, h1⟩, h2⟩)
def T_prize_prizes_best (W : World) (p1 : Option Addr) (R : Ending → Hp → Prop) : Hp → Prop :=
  NEW 70 [(.pointer p1)] fun B2 =>
    NEWZ Pg 80 fun B3 =>
      NEWZ Pg 3 fun B4 =>
        WR (Addr.add ⟨B4, 0, none⟩ 0) (.int .i64 1) <|
          L_prize_prizes_best_0 W R ⟨B2, 0, none⟩ ⟨B3, 0, none⟩ none 0 0 (some ⟨B4, 0, none⟩)
theorem T_prize_prizes_best_eq (W : World) (p1 : Option Addr) (R : Ending → Hp → Prop) : vfun Pg W an_56 Try.f56 [(.pointer p1)] R = T_prize_prizes_best W p1 R := by kernel_rfl
theorem does_prize_prizes_best (W : World) (p1 : Option Addr) (R : Ending → Hp → Prop) (s : Hp) (h : T_prize_prizes_best W p1 R s) : Does Pg W F_prize_prizes_best #[(.pointer p1)] s R :=
  does_of_vfun Pg W an_56 Try.func56 rfl (by kernel_rfl) (by rw [T_prize_prizes_best_eq]; exact h)
def an_59 : Nat → Ann := fun b => match b with
  | 0 => { ms := [17], ks := [.i .i64], us := [0, 5, 15, 16, 38], rt := false, ex := [] }
  | _ => {}
abbrev rv_59 : List ResultVar := [.tmp 4]
abbrev rs_59 : List Nat := [38, 4]
def L_prize_prizes_worths_0 (W : World) (R : Ending → Hp → Prop) (zp0 : Option Addr) (za1 : Addr) (zl2 : Nat) (zp3 : Option Addr) (zl4 : Nat) (zl5 : Nat) (zn6 : Int) (n10 : Int) : Hp → Prop :=
  LOOPN [.i .i64] (fun ys next s => ∀ j : Tm, vc Pg W 38 rs_59 an_59 false (sub (bodyOf Try.f59) [1, 1, 0, 1, 0, 0]) 0 (KLoop [17] [0, 5, 15, 16, 38] [(.pointer zp0), (.slice (some za1) zl2 zl2), (.slice zp3 zl4 zl5), (.int .i64 zn6), (.tuple #[])] next (KBlk 0 (KS Pg W 38 rs_59 an_59 false (sub (bodyOf Try.f59) [1, 1, 1]) 0 (fin Pg W 38 rv_59 R)))) (known [17] ys (known [0, 5, 15, 16, 38] [(.pointer zp0), (.slice (some za1) zl2 zl2), (.slice zp3 zl4 zl5), (.int .i64 zn6), (.tuple #[])] j)) s) [(.int .i64 n10)]
def J_prize_prizes_worths_0 (W : World) (R : Ending → Hp → Prop) (zp0 : Option Addr) (za1 : Addr) (zl2 : Nat) (zp3 : Option Addr) (zl4 : Nat) (zl5 : Nat) (zn6 : Int) (nx0 : List Value → Hp → Prop) (n10 : Int) : Hp → Prop :=
  NX [(.pointer zp0), (.slice (some za1) zl2 zl2), (.slice zp3 zl4 zl5), (.int .i64 zn6), (.tuple #[])] [(.pointer zp0), (.slice (some za1) zl2 zl2), (.slice zp3 zl4 zl5), (.int .i64 zn6), (.tuple #[])] (nx0 [(.int .i64 (IntKind.wrap .i64 (n10 + 1)))])
def B_prize_prizes_worths_0 (W : World) (R : Ending → Hp → Prop) (zp0 : Option Addr) (za1 : Addr) (zl2 : Nat) (zp3 : Option Addr) (zl4 : Nat) (zl5 : Nat) (zn6 : Int) (n10 : Int) (nx0 : List Value → Hp → Prop) : Hp → Prop :=
  BR (decide (n10 < zn6))
    (IXS zp3 zl4 n10 1 fun a11 =>
      RDI .i64 a11 fun n12 =>
        BR (n12 != (-1))
          (SO zp0 fun a13 =>
            RDL (Addr.add (Addr.add a13 0) 1) fun x14 l15 c16 =>
              IXS x14 l15 n10 2 fun a17 =>
                RDI .i64 (Addr.add a17 1) fun n18 =>
                  IXS (some za1) zl2 n12 1 fun a19 =>
                    WR (Addr.add a19 0) (.int .i64 n18) <|
                      J_prize_prizes_worths_0 W R zp0 za1 zl2 zp3 zl4 zl5 zn6 nx0 n10)
          (J_prize_prizes_worths_0 W R zp0 za1 zl2 zp3 zl4 zl5 zn6 nx0 n10))
    (R (.returned (.slice (some za1) zl2 zl2)))
theorem B_prize_prizes_worths_0_eq (W : World) (R : Ending → Hp → Prop) (zp0 : Option Addr) (za1 : Addr) (zl2 : Nat) (zp3 : Option Addr) (zl4 : Nat) (zl5 : Nat) (zn6 : Int) (n10 : Int) (nx0 : List Value → Hp → Prop) (j : Tm) : vc Pg W 38 rs_59 an_59 false (sub (bodyOf Try.f59) [1, 1, 0, 1, 0, 0]) 0 (KLoop [17] [0, 5, 15, 16, 38] [(.pointer zp0), (.slice (some za1) zl2 zl2), (.slice zp3 zl4 zl5), (.int .i64 zn6), (.tuple #[])] nx0 (KBlk 0 (KS Pg W 38 rs_59 an_59 false (sub (bodyOf Try.f59) [1, 1, 1]) 0 (fin Pg W 38 rv_59 R)))) (known [17] [(.int .i64 n10)] (known [0, 5, 15, 16, 38] [(.pointer zp0), (.slice (some za1) zl2 zl2), (.slice zp3 zl4 zl5), (.int .i64 zn6), (.tuple #[])] j)) = B_prize_prizes_worths_0 W R zp0 za1 zl2 zp3 zl4 zl5 zn6 n10 nx0 := by kernel_rfl
def N_prize_prizes_worths_0 (I : Int → Hp → Prop) (μ : Int → Hp → Nat) (n100 : Int) (s : Hp) (vs : List Value) : Hp → Prop := fun s' => ∃ n10, vs = [(.int .i64 n10)] ∧ I n10 s' ∧ μ n10 s' < μ n100 s
theorem L_prize_prizes_worths_0_rule (W : World) (R : Ending → Hp → Prop) (zp0 : Option Addr) (za1 : Addr) (zl2 : Nat) (zp3 : Option Addr) (zl4 : Nat) (zl5 : Nat) (zn6 : Int) (I : Int → Hp → Prop) (μ : Int → Hp → Nat) (n100 : Int) (s : Hp) (h0 : I n100 s)
    (hr : ∀ (n10 : Int) (s : Hp), I n10 s → B_prize_prizes_worths_0 W R zp0 za1 zl2 zp3 zl4 zl5 zn6 n10 (fun vs => N_prize_prizes_worths_0 I μ n10 s vs) s) : L_prize_prizes_worths_0 W R zp0 za1 zl2 zp3 zl4 zl5 zn6 n100 s := by
  refine ⟨fun vs s => ∃ n10, vs = [(.int .i64 n10)] ∧ I n10 s, fun vs s => (match vs with | [.int _ n10] => μ n10 s | _ => 0), ⟨⟨⟨_, rfl⟩, trivial⟩, ⟨_, rfl, h0⟩⟩, ?_⟩
  intro n10 s hI j
  obtain ⟨n10', hy, hI⟩ := hI
  have hI' : I n10 s := by cases hy; exact hI
  have hh := hr n10 s hI'
  rw [← B_prize_prizes_worths_0_eq W R zp0 za1 zl2 zp3 zl4 zl5 zn6 n10 _ j] at hh
  refine vc_mono ?_ _ _ hh
  exact KLoop_mono (fun vs s' h => by obtain ⟨n101, rfl, h1, h2⟩ := h; exact ⟨⟨⟨_, rfl⟩, trivial⟩, ⟨_, rfl, h1⟩, h2⟩)
def T_prize_prizes_worths (W : World) (p1 : Option Addr) (x2 : Option Addr) (l3 : Nat) (c4 : Nat) (R : Ending → Hp → Prop) : Hp → Prop :=
  SO p1 fun a5 =>
    RDL (Addr.add (Addr.add a5 0) 0) fun x6 l7 c8 =>
      MKS Pg 3 (↑l7 : Int) (↑l7 : Int) fun B9 =>
        L_prize_prizes_worths_0 W R p1 ⟨B9, 0, none⟩ (Int.toNat (↑l7 : Int)) x2 l3 c4 (↑l3 : Int) 0
theorem T_prize_prizes_worths_eq (W : World) (p1 : Option Addr) (x2 : Option Addr) (l3 : Nat) (c4 : Nat) (R : Ending → Hp → Prop) : vfun Pg W an_59 Try.f59 [(.pointer p1), (.slice x2 l3 c4)] R = T_prize_prizes_worths W p1 x2 l3 c4 R := by kernel_rfl
theorem does_prize_prizes_worths (W : World) (p1 : Option Addr) (x2 : Option Addr) (l3 : Nat) (c4 : Nat) (R : Ending → Hp → Prop) (s : Hp) (h : T_prize_prizes_worths W p1 x2 l3 c4 R s) : Does Pg W F_prize_prizes_worths #[(.pointer p1), (.slice x2 l3 c4)] s R :=
  does_of_vfun Pg W an_59 Try.func59 rfl (by kernel_rfl) (by rw [T_prize_prizes_worths_eq]; exact h)
def an_60 : Nat → Ann := fun b => match b with
  | 0 => { ms := [2, 7], ks := [.i .i64, .i .i64], us := [5, 6, 16], rt := false, ex := [] }
  | _ => {}
abbrev rv_60 : List ResultVar := [.tmp 2]
abbrev rs_60 : List Nat := [16, 2]
def L_prize_total_0 (W : World) (R : Ending → Hp → Prop) (zp0 : Option Addr) (zl1 : Nat) (zl2 : Nat) (zn3 : Int) (n4 : Int) (n5 : Int) : Hp → Prop :=
  LOOPN [.i .i64, .i .i64] (fun ys next s => ∀ j : Tm, vc Pg W 16 rs_60 an_60 false (sub (bodyOf Try.f60) [1, 0, 1, 0, 0]) 0 (KLoop [2, 7] [5, 6, 16] [(.slice zp0 zl1 zl2), (.int .i64 zn3), (.tuple #[])] next (KBlk 0 (KS Pg W 16 rs_60 an_60 false (sub (bodyOf Try.f60) [1, 1]) 0 (fin Pg W 16 rv_60 R)))) (known [2, 7] ys (known [5, 6, 16] [(.slice zp0 zl1 zl2), (.int .i64 zn3), (.tuple #[])] j)) s) [(.int .i64 n4), (.int .i64 n5)]
def B_prize_total_0 (W : World) (R : Ending → Hp → Prop) (zp0 : Option Addr) (zl1 : Nat) (zl2 : Nat) (zn3 : Int) (n4 : Int) (n5 : Int) (nx0 : List Value → Hp → Prop) : Hp → Prop :=
  BR (decide (n5 < zn3))
    (IXS zp0 zl1 n5 1 fun a6 =>
      RDI .i64 a6 fun n7 =>
        NX [(.slice zp0 zl1 zl2), (.int .i64 zn3), (.tuple #[])] [(.slice zp0 zl1 zl2), (.int .i64 zn3), (.tuple #[])] (nx0 [(.int .i64 (IntKind.wrap .i64 (n4 + n7))), (.int .i64 (IntKind.wrap .i64 (n5 + 1)))]))
    (R (.returned (.int .i64 n4)))
theorem B_prize_total_0_eq (W : World) (R : Ending → Hp → Prop) (zp0 : Option Addr) (zl1 : Nat) (zl2 : Nat) (zn3 : Int) (n4 : Int) (n5 : Int) (nx0 : List Value → Hp → Prop) (j : Tm) : vc Pg W 16 rs_60 an_60 false (sub (bodyOf Try.f60) [1, 0, 1, 0, 0]) 0 (KLoop [2, 7] [5, 6, 16] [(.slice zp0 zl1 zl2), (.int .i64 zn3), (.tuple #[])] nx0 (KBlk 0 (KS Pg W 16 rs_60 an_60 false (sub (bodyOf Try.f60) [1, 1]) 0 (fin Pg W 16 rv_60 R)))) (known [2, 7] [(.int .i64 n4), (.int .i64 n5)] (known [5, 6, 16] [(.slice zp0 zl1 zl2), (.int .i64 zn3), (.tuple #[])] j)) = B_prize_total_0 W R zp0 zl1 zl2 zn3 n4 n5 nx0 := by kernel_rfl
def N_prize_total_0 (I : Int → Int → Hp → Prop) (μ : Int → Int → Hp → Nat) (n40 : Int) (n50 : Int) (s : Hp) (vs : List Value) : Hp → Prop := fun s' => ∃ n4 n5, vs = [(.int .i64 n4), (.int .i64 n5)] ∧ I n4 n5 s' ∧ μ n4 n5 s' < μ n40 n50 s
theorem L_prize_total_0_rule (W : World) (R : Ending → Hp → Prop) (zp0 : Option Addr) (zl1 : Nat) (zl2 : Nat) (zn3 : Int) (I : Int → Int → Hp → Prop) (μ : Int → Int → Hp → Nat) (n40 : Int) (n50 : Int) (s : Hp) (h0 : I n40 n50 s)
    (hr : ∀ (n4 : Int) (n5 : Int) (s : Hp), I n4 n5 s → B_prize_total_0 W R zp0 zl1 zl2 zn3 n4 n5 (fun vs => N_prize_total_0 I μ n4 n5 s vs) s) : L_prize_total_0 W R zp0 zl1 zl2 zn3 n40 n50 s := by
  refine ⟨fun vs s => ∃ n4 n5, vs = [(.int .i64 n4), (.int .i64 n5)] ∧ I n4 n5 s, fun vs s => (match vs with | [.int _ n4, .int _ n5] => μ n4 n5 s | _ => 0), ⟨⟨⟨_, rfl⟩, ⟨⟨_, rfl⟩, trivial⟩⟩, ⟨_, _, rfl, h0⟩⟩, ?_⟩
  intro n4 n5 s hI j
  obtain ⟨n4', n5', hy, hI⟩ := hI
  have hI' : I n4 n5 s := by cases hy; exact hI
  have hh := hr n4 n5 s hI'
  rw [← B_prize_total_0_eq W R zp0 zl1 zl2 zn3 n4 n5 _ j] at hh
  refine vc_mono ?_ _ _ hh
  exact KLoop_mono (fun vs s' h => by obtain ⟨n41, n51, rfl, h1, h2⟩ := h; exact ⟨⟨⟨_, rfl⟩, ⟨⟨_, rfl⟩, trivial⟩⟩, ⟨_, _, rfl, h1⟩, h2⟩)
def T_prize_total (W : World) (x1 : Option Addr) (l2 : Nat) (c3 : Nat) (R : Ending → Hp → Prop) : Hp → Prop :=
  L_prize_total_0 W R x1 l2 c3 (↑l2 : Int) 0 0
theorem T_prize_total_eq (W : World) (x1 : Option Addr) (l2 : Nat) (c3 : Nat) (R : Ending → Hp → Prop) : vfun Pg W an_60 Try.f60 [(.slice x1 l2 c3)] R = T_prize_total W x1 l2 c3 R := by kernel_rfl
theorem does_prize_total (W : World) (x1 : Option Addr) (l2 : Nat) (c3 : Nat) (R : Ending → Hp → Prop) (s : Hp) (h : T_prize_total W x1 l2 c3 R s) : Does Pg W F_prize_total #[(.slice x1 l2 c3)] s R :=
  does_of_vfun Pg W an_60 Try.func60 rfl (by kernel_rfl) (by rw [T_prize_total_eq]; exact h)
def an_64 : Nat → Ann := fun b => match b with
  | 0 => { ms := [6, 8], ks := [.i .i64, .i .i64], us := [3, 5, 7, 31], rt := false, ex := [] }
  | _ => {}
abbrev rv_64 : List ResultVar := [.tmp 6]
abbrev rs_64 : List Nat := [31, 6]
def L_prize_prizes_most_0 (W : World) (R : Ending → Hp → Prop) (za0 : Addr) (za1 : Addr) (za2 : Addr) (n8 : Int) (n9 : Int) : Hp → Prop :=
  LOOPN [.i .i64, .i .i64] (fun ys next s => ∀ j : Tm, vc Pg W 31 rs_64 an_64 false (sub (bodyOf Try.f64) [1, 1, 0, 1, 0, 0]) 0 (KLoop [6, 8] [3, 5, 7, 31] [(.pointer (some za0)), (.pointer (some za1)), (.pointer (some za2)), (.tuple #[])] next (KBlk 0 (KS Pg W 31 rs_64 an_64 false (sub (bodyOf Try.f64) [1, 1, 1]) 0 (fin Pg W 31 rv_64 R)))) (known [6, 8] ys (known [3, 5, 7, 31] [(.pointer (some za0)), (.pointer (some za1)), (.pointer (some za2)), (.tuple #[])] j)) s) [(.int .i64 n8), (.int .i64 n9)]
def B_prize_prizes_most_0 (W : World) (R : Ending → Hp → Prop) (za0 : Addr) (za1 : Addr) (za2 : Addr) (n8 : Int) (n9 : Int) (nx0 : List Value → Hp → Prop) : Hp → Prop :=
  RDP za0 fun p10 =>
    SO p10 fun a11 =>
      RDL (Addr.add (Addr.add a11 0) 1) fun x12 l13 c14 =>
        BR (decide (n9 < (↑l13 : Int)))
          (MKM fun B15 =>
            NEWZ Pg 88 fun B16 =>
              WR (Addr.add ⟨B16, 0, none⟩ 0) (.map (some B15)) <|
                NEWZ Pg 62 fun B17 =>
                  WR (Addr.add ⟨B17, 0, none⟩ 0) (.func (.func 83) #[] #[(.pointer (some za0)), (.pointer (some za1)), (.pointer (some ⟨B16, 0, none⟩)), (.pointer (some za2)), (.pointer (some ⟨B17, 0, none⟩))]) <|
                    RDV ⟨B17, 0, none⟩ fun v18 =>
                      CALLV Pg W v18 [(.int .i64 n9)]
                        (fun v19 => TYB v19 fun b21 =>
                          BR b21
                            (NX [(.pointer (some za0)), (.pointer (some za1)), (.pointer (some za2)), (.tuple #[])] [(.pointer (some za0)), (.pointer (some za1)), (.pointer (some za2)), (.tuple #[])] (nx0 [(.int .i64 (IntKind.wrap .i64 (n8 + 1))), (.int .i64 (IntKind.wrap .i64 (n9 + 1)))]))
                            (NX [(.pointer (some za0)), (.pointer (some za1)), (.pointer (some za2)), (.tuple #[])] [(.pointer (some za0)), (.pointer (some za1)), (.pointer (some za2)), (.tuple #[])] (nx0 [(.int .i64 n8), (.int .i64 (IntKind.wrap .i64 (n9 + 1)))])))
                          (fun e20 => R (.panicked e20)))
          (R (.returned (.int .i64 n8)))
theorem B_prize_prizes_most_0_eq (W : World) (R : Ending → Hp → Prop) (za0 : Addr) (za1 : Addr) (za2 : Addr) (n8 : Int) (n9 : Int) (nx0 : List Value → Hp → Prop) (j : Tm) : vc Pg W 31 rs_64 an_64 false (sub (bodyOf Try.f64) [1, 1, 0, 1, 0, 0]) 0 (KLoop [6, 8] [3, 5, 7, 31] [(.pointer (some za0)), (.pointer (some za1)), (.pointer (some za2)), (.tuple #[])] nx0 (KBlk 0 (KS Pg W 31 rs_64 an_64 false (sub (bodyOf Try.f64) [1, 1, 1]) 0 (fin Pg W 31 rv_64 R)))) (known [6, 8] [(.int .i64 n8), (.int .i64 n9)] (known [3, 5, 7, 31] [(.pointer (some za0)), (.pointer (some za1)), (.pointer (some za2)), (.tuple #[])] j)) = B_prize_prizes_most_0 W R za0 za1 za2 n8 n9 nx0 := by kernel_rfl
def N_prize_prizes_most_0 (I : Int → Int → Hp → Prop) (μ : Int → Int → Hp → Nat) (n80 : Int) (n90 : Int) (s : Hp) (vs : List Value) : Hp → Prop := fun s' => ∃ n8 n9, vs = [(.int .i64 n8), (.int .i64 n9)] ∧ I n8 n9 s' ∧ μ n8 n9 s' < μ n80 n90 s
theorem L_prize_prizes_most_0_rule (W : World) (R : Ending → Hp → Prop) (za0 : Addr) (za1 : Addr) (za2 : Addr) (I : Int → Int → Hp → Prop) (μ : Int → Int → Hp → Nat) (n80 : Int) (n90 : Int) (s : Hp) (h0 : I n80 n90 s)
    (hr : ∀ (n8 : Int) (n9 : Int) (s : Hp), I n8 n9 s → B_prize_prizes_most_0 W R za0 za1 za2 n8 n9 (fun vs => N_prize_prizes_most_0 I μ n8 n9 s vs) s) : L_prize_prizes_most_0 W R za0 za1 za2 n80 n90 s := by
  refine ⟨fun vs s => ∃ n8 n9, vs = [(.int .i64 n8), (.int .i64 n9)] ∧ I n8 n9 s, fun vs s => (match vs with | [.int _ n8, .int _ n9] => μ n8 n9 s | _ => 0), ⟨⟨⟨_, rfl⟩, ⟨⟨_, rfl⟩, trivial⟩⟩, ⟨_, _, rfl, h0⟩⟩, ?_⟩
  intro n8 n9 s hI j
  obtain ⟨n8', n9', hy, hI⟩ := hI
  have hI' : I n8 n9 s := by cases hy; exact hI
  have hh := hr n8 n9 s hI'
  rw [← B_prize_prizes_most_0_eq W R za0 za1 za2 n8 n9 _ j] at hh
  refine vc_mono ?_ _ _ hh
  exact KLoop_mono (fun vs s' h => by obtain ⟨n81, n91, rfl, h1, h2⟩ := h; exact ⟨⟨⟨_, rfl⟩, ⟨⟨_, rfl⟩, trivial⟩⟩, ⟨_, _, rfl, h1⟩, h2⟩)
def T_prize_prizes_most (W : World) (p1 : Option Addr) (n2 : Int) (v3 : Value) (R : Ending → Hp → Prop) : Hp → Prop :=
  NEW 70 [(.pointer p1)] fun B4 =>
    ONE v3 <|
      NEW 62 [v3] fun B5 =>
        MKM fun B6 =>
          NEWZ Pg 117 fun B7 =>
            WR (Addr.add ⟨B7, 0, none⟩ 0) (.map (some B6)) <|
              L_prize_prizes_most_0 W R ⟨B4, 0, none⟩ ⟨B5, 0, none⟩ ⟨B7, 0, none⟩ 0 n2
theorem T_prize_prizes_most_eq (W : World) (p1 : Option Addr) (n2 : Int) (v3 : Value) (R : Ending → Hp → Prop) : vfun Pg W an_64 Try.f64 [(.pointer p1), (.int .i64 n2), v3] R = T_prize_prizes_most W p1 n2 v3 R := by kernel_rfl
theorem does_prize_prizes_most (W : World) (p1 : Option Addr) (n2 : Int) (v3 : Value) (R : Ending → Hp → Prop) (s : Hp) (h : T_prize_prizes_most W p1 n2 v3 R s) : Does Pg W F_prize_prizes_most #[(.pointer p1), (.int .i64 n2), v3] s R :=
  does_of_vfun Pg W an_64 Try.func64 rfl (by kernel_rfl) (by rw [T_prize_prizes_most_eq]; exact h)
def an_65 : Nat → Ann := fun b => match b with
  | _ => {}
abbrev rv_65 : List ResultVar := [.tmp 4]
abbrev rs_65 : List Nat := [9, 4]
def T_prize_taken_left (W : World) (m1 : Option Nat) (n2 : Int) (R : Ending → Hp → Prop) : Hp → Prop :=
  LKP Pg 88 (.map m1) (.int .i64 n2) false fun v3 =>
    TYB v3 fun b4 =>
      R (.returned (.bool (!b4)))
theorem T_prize_taken_left_eq (W : World) (m1 : Option Nat) (n2 : Int) (R : Ending → Hp → Prop) : vfun Pg W an_65 Try.f65 [(.map m1), (.int .i64 n2)] R = T_prize_taken_left W m1 n2 R := by kernel_rfl
theorem does_prize_taken_left (W : World) (m1 : Option Nat) (n2 : Int) (R : Ending → Hp → Prop) (s : Hp) (h : T_prize_taken_left W m1 n2 R s) : Does Pg W F_prize_taken_left #[(.map m1), (.int .i64 n2)] s R :=
  does_of_vfun Pg W an_65 Try.func65 rfl (by kernel_rfl) (by rw [T_prize_taken_left_eq]; exact h)
def an_71 : Nat → Ann := fun b => match b with
  | _ => {}
abbrev rv_71 : List ResultVar := [.tmp 4]
abbrev rs_71 : List Nat := [6, 4]
def T_prize_prizes_order (W : World) (p1 : Option Addr) (v2 : Value) (R : Ending → Hp → Prop) : Hp → Prop :=
  NEW 70 [(.pointer p1)] fun B3 =>
    ONE v2 <|
      NEW 62 [v2] fun B4 =>
        R (.returned (.func (.func 85) #[] #[(.pointer (some ⟨B3, 0, none⟩)), (.pointer (some ⟨B4, 0, none⟩))]))
theorem T_prize_prizes_order_eq (W : World) (p1 : Option Addr) (v2 : Value) (R : Ending → Hp → Prop) : vfun Pg W an_71 Try.f71 [(.pointer p1), v2] R = T_prize_prizes_order W p1 v2 R := by kernel_rfl
theorem does_prize_prizes_order (W : World) (p1 : Option Addr) (v2 : Value) (R : Ending → Hp → Prop) (s : Hp) (h : T_prize_prizes_order W p1 v2 R s) : Does Pg W F_prize_prizes_order #[(.pointer p1), v2] s R :=
  does_of_vfun Pg W an_71 Try.func71 rfl (by kernel_rfl) (by rw [T_prize_prizes_order_eq]; exact h)
def an_72 : Nat → Ann := fun b => match b with
  | _ => {}
abbrev rv_72 : List ResultVar := [.tmp 3]
abbrev rs_72 : List Nat := [7, 3]
def T_prize_For_c1 (W : World) (n1 : Int) (a2 : Addr) (R : Ending → Hp → Prop) : Hp → Prop :=
  RDI .i64 a2 fun n3 =>
    R (.returned (.bool (n1 != n3)))
theorem T_prize_For_c1_eq (W : World) (n1 : Int) (a2 : Addr) (R : Ending → Hp → Prop) : vfun Pg W an_72 Try.f72 [(.int .i64 n1), (.pointer (some a2))] R = T_prize_For_c1 W n1 a2 R := by kernel_rfl
theorem does_prize_For_c1 (W : World) (n1 : Int) (a2 : Addr) (R : Ending → Hp → Prop) (s : Hp) (h : T_prize_For_c1 W n1 a2 R s) : Does Pg W F_prize_For_c1 #[(.int .i64 n1), (.pointer (some a2))] s R :=
  does_of_vfun Pg W an_72 Try.func72 rfl (by kernel_rfl) (by rw [T_prize_For_c1_eq]; exact h)
def an_77 : Nat → Ann := fun b => match b with
  | _ => {}
abbrev rv_77 : List ResultVar := [.tmp 0]
abbrev rs_77 : List Nat := [3, 0]
def T_prize_who (W : World) (R : Ending → Hp → Prop) : Hp → Prop :=
  MKM fun B1 =>
    MUP Pg 90 (.map (some B1)) (.int .i64 0) (.func (.func 89) #[] #[]) <|
      MUP Pg 90 (.map (some B1)) (.int .i64 1) (.func (.func 90) #[] #[]) <|
        MUP Pg 90 (.map (some B1)) (.int .i64 2) (.func (.func 91) #[] #[]) <|
          MUP Pg 90 (.map (some B1)) (.int .i64 3) (.func (.func 92) #[] #[]) <|
            MUP Pg 90 (.map (some B1)) (.int .i64 4) (.func (.func 93) #[] #[]) <|
              R (.returned (.map (some B1)))
theorem T_prize_who_eq (W : World) (R : Ending → Hp → Prop) : vfun Pg W an_77 Try.f77 [] R = T_prize_who W R := by kernel_rfl
theorem does_prize_who (W : World) (R : Ending → Hp → Prop) (s : Hp) (h : T_prize_who W R s) : Does Pg W F_prize_who #[] s R :=
  does_of_vfun Pg W an_77 Try.func77 rfl (by kernel_rfl) (by rw [T_prize_who_eq]; exact h)
def an_78 : Nat → Ann := fun b => match b with
  | _ => {}
abbrev rv_78 : List ResultVar := [.tmp 6]
abbrev rs_78 : List Nat := [15, 6]
def T_prize_within (W : World) (n1 : Int) (n2 : Int) (n3 : Int) (R : Ending → Hp → Prop) : Hp → Prop :=
  BR (decide (n2 ≤ n1))
    (R (.returned (.bool (decide (n1 ≤ n3)))))
    (R (.returned (.bool false)))
theorem T_prize_within_eq (W : World) (n1 : Int) (n2 : Int) (n3 : Int) (R : Ending → Hp → Prop) : vfun Pg W an_78 Try.f78 [(.int .i64 n1), (.int .i64 n2), (.int .i64 n3)] R = T_prize_within W n1 n2 n3 R := by kernel_rfl
theorem does_prize_within (W : World) (n1 : Int) (n2 : Int) (n3 : Int) (R : Ending → Hp → Prop) (s : Hp) (h : T_prize_within W n1 n2 n3 R s) : Does Pg W F_prize_within #[(.int .i64 n1), (.int .i64 n2), (.int .i64 n3)] s R :=
  does_of_vfun Pg W an_78 Try.func78 rfl (by kernel_rfl) (by rw [T_prize_within_eq]; exact h)
def an_80 : Nat → Ann := fun b => match b with
  | _ => {}
abbrev rv_80 : List ResultVar := [.tmp 4]
abbrev rs_80 : List Nat := [16, 4]
def T_prize_prizes_best_c1 (W : World) (n1 : Int) (a2 : Addr) (a3 : Addr) (R : Ending → Hp → Prop) : Hp → Prop :=
  RDP a2 fun p4 =>
    SO p4 fun a5 =>
      RDL (Addr.add (Addr.add a5 0) 0) fun x6 l7 c8 =>
        IXS x6 l7 n1 4 fun a9 =>
          RDI .i64 (Addr.add a9 1) fun n10 =>
            RDI .i64 a3 fun n11 =>
              R (.returned (.bool (n10 == n11)))
theorem T_prize_prizes_best_c1_eq (W : World) (n1 : Int) (a2 : Addr) (a3 : Addr) (R : Ending → Hp → Prop) : vfun Pg W an_80 Try.f80 [(.int .i64 n1), (.pointer (some a2)), (.pointer (some a3))] R = T_prize_prizes_best_c1 W n1 a2 a3 R := by kernel_rfl
theorem does_prize_prizes_best_c1 (W : World) (n1 : Int) (a2 : Addr) (a3 : Addr) (R : Ending → Hp → Prop) (s : Hp) (h : T_prize_prizes_best_c1 W n1 a2 a3 R s) : Does Pg W F_prize_prizes_best_c1 #[(.int .i64 n1), (.pointer (some a2)), (.pointer (some a3))] s R :=
  does_of_vfun Pg W an_80 Try.func80 rfl (by kernel_rfl) (by rw [T_prize_prizes_best_c1_eq]; exact h)
def an_81 : Nat → Ann := fun b => match b with
  | 0 => { ms := [5, 10], ks := [.b, .i .i64], us := [1, 4, 8, 9, 27], rt := false, ex := [] }
  | _ => {}
abbrev rv_81 : List ResultVar := [.cell 4 80, .tmp 5]
abbrev rs_81 : List Nat := [27, 4, 5]
def L_prize_first_prize_club_0 (W : World) (R : Ending → Hp → Prop) (zv0 : Value) (za1 : Addr) (zp2 : Option Addr) (zl3 : Nat) (zl4 : Nat) (zn5 : Int) (b6 : Bool) (n7 : Int) : Hp → Prop :=
  LOOPN [.b, .i .i64] (fun ys next s => ∀ j : Tm, vc Pg W 27 rs_81 an_81 false (sub (bodyOf Try.f81) [1, 0, 1, 0, 0]) 0 (KLoop [5, 10] [1, 4, 8, 9, 27] [zv0, (.pointer (some za1)), (.slice zp2 zl3 zl4), (.int .i64 zn5), (.tuple #[])] next (KBlk 0 (KS Pg W 27 rs_81 an_81 false (sub (bodyOf Try.f81) [1, 1]) 0 (fin Pg W 27 rv_81 R)))) (known [5, 10] ys (known [1, 4, 8, 9, 27] [zv0, (.pointer (some za1)), (.slice zp2 zl3 zl4), (.int .i64 zn5), (.tuple #[])] j)) s) [(.bool b6), (.int .i64 n7)]
def J_prize_first_prize_club_0 (W : World) (R : Ending → Hp → Prop) (b12 : Bool) (B11 : Nat) (za1 : Addr) (zv0 : Value) (zp2 : Option Addr) (zl3 : Nat) (zl4 : Nat) (zn5 : Int) (nx0 : List Value → Hp → Prop) (n7 : Int) (b6 : Bool) : Hp → Prop :=
  BR b12
    (RDI .i64 (Addr.add ⟨B11, 0, none⟩ 0) fun n13 =>
      RDI .i64 (Addr.add ⟨B11, 0, none⟩ 1) fun n14 =>
        WR (Addr.add za1 0) (.int .i64 n13) <|
          WR (Addr.add za1 1) (.int .i64 n14) <|
            NX [zv0, (.pointer (some za1)), (.slice zp2 zl3 zl4), (.int .i64 zn5), (.tuple #[])] [zv0, (.pointer (some za1)), (.slice zp2 zl3 zl4), (.int .i64 zn5), (.tuple #[])] (nx0 [(.bool true), (.int .i64 (IntKind.wrap .i64 (n7 + 1)))]))
    (NX [zv0, (.pointer (some za1)), (.slice zp2 zl3 zl4), (.int .i64 zn5), (.tuple #[])] [zv0, (.pointer (some za1)), (.slice zp2 zl3 zl4), (.int .i64 zn5), (.tuple #[])] (nx0 [(.bool b6), (.int .i64 (IntKind.wrap .i64 (n7 + 1)))]))
def B_prize_first_prize_club_0 (W : World) (R : Ending → Hp → Prop) (zv0 : Value) (za1 : Addr) (zp2 : Option Addr) (zl3 : Nat) (zl4 : Nat) (zn5 : Int) (b6 : Bool) (n7 : Int) (nx0 : List Value → Hp → Prop) : Hp → Prop :=
  BR (decide (n7 < zn5))
    (IXS zp2 zl3 n7 2 fun a8 =>
      RDI .i64 (Addr.add a8 0) fun n9 =>
        RDI .i64 (Addr.add a8 1) fun n10 =>
          NEWZ Pg 80 fun B11 =>
            WR (Addr.add ⟨B11, 0, none⟩ 0) (.int .i64 n9) <|
              WR (Addr.add ⟨B11, 0, none⟩ 1) (.int .i64 n10) <|
                BR (n7 == 0)
                  (J_prize_first_prize_club_0 W R true B11 za1 zv0 zp2 zl3 zl4 zn5 nx0 n7 b6)
                  (RDI .i64 (Addr.add ⟨B11, 0, none⟩ 0) fun n15 =>
                    RDI .i64 (Addr.add ⟨B11, 0, none⟩ 1) fun n16 =>
                      RDI .i64 (Addr.add za1 0) fun n17 =>
                        RDI .i64 (Addr.add za1 1) fun n18 =>
                          CALLV Pg W zv0 [(.agg #[(.int .i64 n15), (.int .i64 n16)]), (.agg #[(.int .i64 n17), (.int .i64 n18)])]
                            (fun v19 => TYB v19 fun b21 =>
                              J_prize_first_prize_club_0 W R b21 B11 za1 zv0 zp2 zl3 zl4 zn5 nx0 n7 b6)
                              (fun e20 => R (.panicked e20))))
    (RDI .i64 (Addr.add za1 0) fun n22 =>
      RDI .i64 (Addr.add za1 1) fun n23 =>
        WR (Addr.add za1 0) (.int .i64 n22) <|
          WR (Addr.add za1 1) (.int .i64 n23) <|
            RDI .i64 (Addr.add za1 0) fun n24 =>
              RDI .i64 (Addr.add za1 1) fun n25 =>
                R (.returned (.tuple #[(.agg #[(.int .i64 n24), (.int .i64 n25)]), (.bool b6)])))
theorem B_prize_first_prize_club_0_eq (W : World) (R : Ending → Hp → Prop) (zv0 : Value) (za1 : Addr) (zp2 : Option Addr) (zl3 : Nat) (zl4 : Nat) (zn5 : Int) (b6 : Bool) (n7 : Int) (nx0 : List Value → Hp → Prop) (j : Tm) : vc Pg W 27 rs_81 an_81 false (sub (bodyOf Try.f81) [1, 0, 1, 0, 0]) 0 (KLoop [5, 10] [1, 4, 8, 9, 27] [zv0, (.pointer (some za1)), (.slice zp2 zl3 zl4), (.int .i64 zn5), (.tuple #[])] nx0 (KBlk 0 (KS Pg W 27 rs_81 an_81 false (sub (bodyOf Try.f81) [1, 1]) 0 (fin Pg W 27 rv_81 R)))) (known [5, 10] [(.bool b6), (.int .i64 n7)] (known [1, 4, 8, 9, 27] [zv0, (.pointer (some za1)), (.slice zp2 zl3 zl4), (.int .i64 zn5), (.tuple #[])] j)) = B_prize_first_prize_club_0 W R zv0 za1 zp2 zl3 zl4 zn5 b6 n7 nx0 := by kernel_rfl
def N_prize_first_prize_club_0 (I : Bool → Int → Hp → Prop) (μ : Bool → Int → Hp → Nat) (b60 : Bool) (n70 : Int) (s : Hp) (vs : List Value) : Hp → Prop := fun s' => ∃ b6 n7, vs = [(.bool b6), (.int .i64 n7)] ∧ I b6 n7 s' ∧ μ b6 n7 s' < μ b60 n70 s
theorem L_prize_first_prize_club_0_rule (W : World) (R : Ending → Hp → Prop) (zv0 : Value) (za1 : Addr) (zp2 : Option Addr) (zl3 : Nat) (zl4 : Nat) (zn5 : Int) (I : Bool → Int → Hp → Prop) (μ : Bool → Int → Hp → Nat) (b60 : Bool) (n70 : Int) (s : Hp) (h0 : I b60 n70 s)
    (hr : ∀ (b6 : Bool) (n7 : Int) (s : Hp), I b6 n7 s → B_prize_first_prize_club_0 W R zv0 za1 zp2 zl3 zl4 zn5 b6 n7 (fun vs => N_prize_first_prize_club_0 I μ b6 n7 s vs) s) : L_prize_first_prize_club_0 W R zv0 za1 zp2 zl3 zl4 zn5 b60 n70 s := by
  refine ⟨fun vs s => ∃ b6 n7, vs = [(.bool b6), (.int .i64 n7)] ∧ I b6 n7 s, fun vs s => (match vs with | [.bool b6, .int _ n7] => μ b6 n7 s | _ => 0), ⟨⟨⟨_, rfl⟩, ⟨⟨_, rfl⟩, trivial⟩⟩, ⟨_, _, rfl, h0⟩⟩, ?_⟩
  intro b6 n7 s hI j
  obtain ⟨b6', n7', hy, hI⟩ := hI
  have hI' : I b6 n7 s := by cases hy; exact hI
  have hh := hr b6 n7 s hI'
  rw [← B_prize_first_prize_club_0_eq W R zv0 za1 zp2 zl3 zl4 zn5 b6 n7 _ j] at hh
  refine vc_mono ?_ _ _ hh
  exact KLoop_mono (fun vs s' h => by obtain ⟨b61, n71, rfl, h1, h2⟩ := h; exact ⟨⟨⟨_, rfl⟩, ⟨⟨_, rfl⟩, trivial⟩⟩, ⟨_, _, rfl, h1⟩, h2⟩)
def T_prize_first_prize_club (W : World) (x1 : Option Addr) (l2 : Nat) (c3 : Nat) (v4 : Value) (R : Ending → Hp → Prop) : Hp → Prop :=
  NEWZ Pg 80 fun B5 =>
    L_prize_first_prize_club_0 W R v4 ⟨B5, 0, none⟩ x1 l2 c3 (↑l2 : Int) false 0
theorem T_prize_first_prize_club_eq (W : World) (x1 : Option Addr) (l2 : Nat) (c3 : Nat) (v4 : Value) (R : Ending → Hp → Prop) : vfun Pg W an_81 Try.f81 [(.slice x1 l2 c3), v4] R = T_prize_first_prize_club W x1 l2 c3 v4 R := by kernel_rfl
theorem does_prize_first_prize_club (W : World) (x1 : Option Addr) (l2 : Nat) (c3 : Nat) (v4 : Value) (R : Ending → Hp → Prop) (s : Hp) (h : T_prize_first_prize_club W x1 l2 c3 v4 R s) : Does Pg W F_prize_first_prize_club #[(.slice x1 l2 c3), v4] s R :=
  does_of_vfun Pg W an_81 Try.func81 rfl (by kernel_rfl) (by rw [T_prize_first_prize_club_eq]; exact h)
def an_82 : Nat → Ann := fun b => match b with
  | _ => {}
abbrev rv_82 : List ResultVar := [.tmp 4]
abbrev rs_82 : List Nat := [10, 4]
def T_prize_prizes_best_c2 (W : World) (n1 : Int) (n2 : Int) (n3 : Int) (n4 : Int) (R : Ending → Hp → Prop) : Hp → Prop :=
  NEW 80 [(.int .i64 n1), (.int .i64 n2)] fun B5 =>
    NEW 80 [(.int .i64 n3), (.int .i64 n4)] fun B6 =>
      RDI .i64 (Addr.add ⟨B5, 0, none⟩ 1) fun n7 =>
        RDI .i64 (Addr.add ⟨B6, 0, none⟩ 1) fun n8 =>
          R (.returned (.bool (decide (n7 < n8))))
theorem T_prize_prizes_best_c2_eq (W : World) (n1 : Int) (n2 : Int) (n3 : Int) (n4 : Int) (R : Ending → Hp → Prop) : vfun Pg W an_82 Try.f82 [(.agg #[(.int .i64 n1), (.int .i64 n2)]), (.agg #[(.int .i64 n3), (.int .i64 n4)])] R = T_prize_prizes_best_c2 W n1 n2 n3 n4 R := by kernel_rfl
theorem does_prize_prizes_best_c2 (W : World) (n1 : Int) (n2 : Int) (n3 : Int) (n4 : Int) (R : Ending → Hp → Prop) (s : Hp) (h : T_prize_prizes_best_c2 W n1 n2 n3 n4 R s) : Does Pg W F_prize_prizes_best_c2 #[(.agg #[(.int .i64 n1), (.int .i64 n2)]), (.agg #[(.int .i64 n3), (.int .i64 n4)])] s R :=
  does_of_vfun Pg W an_82 Try.func82 rfl (by kernel_rfl) (by rw [T_prize_prizes_best_c2_eq]; exact h)
def an_83 : Nat → Ann := fun b => match b with
  | 0 => { ms := [], ks := [.i .i64], us := [], rt := true, ex := [] }
  | _ => {}
abbrev rv_83 : List ResultVar := [.cell 7 4]
abbrev rs_83 : List Nat := [43, 7]
def J_prize_prizes_most_c1_0 (W : World) (R : Ending → Hp → Prop) (b21 : Bool) (fin14 : Option Code → Hp → Prop) (a4 : Addr) (n17 : Int) (a5 : Addr) (B7 : Nat) (B8 : Nat) (a6 : Addr) : Hp → Prop :=
  BR b21
    (fin14 none)
    (RDM a4 fun m22 =>
      MUP Pg 88 (.map m22) (.int .i64 n17) (.bool true) <|
        RDM a5 fun m23 =>
          LKP Pg 117 (.map m23) (.int .i64 n17) true fun v24 =>
            TUP v24 fun q25 => HD q25 fun v26 r27 => TYI .i64 v26 fun n28 =>
              HD r27 fun v29 r30 => TYB v29 fun b31 =>
                NL r30 <|
                  BR (!b31)
                    (RDM a5 fun m32 =>
                      RDI .i64 ⟨B7, 0, none⟩ fun n33 =>
                        MUP Pg 117 (.map m32) (.int .i64 n17) (.int .i64 n33) <|
                          WR (Addr.add ⟨B8, 0, none⟩ 0) (.bool true) <|
                            fin14 (some .ret))
                    (RDV a6 fun v34 =>
                      CALLV Pg W v34 [(.int .i64 n28)]
                        (fun v35 => TYB v35 fun b37 =>
                          BR b37
                            (RDM a5 fun m38 =>
                              RDI .i64 ⟨B7, 0, none⟩ fun n39 =>
                                MUP Pg 117 (.map m38) (.int .i64 n17) (.int .i64 n39) <|
                                  WR (Addr.add ⟨B8, 0, none⟩ 0) (.bool true) <|
                                    fin14 (some .ret))
                            (fin14 none))
                          (fun e36 => FF)))
def T_prize_prizes_most_c1 (W : World) (n1 : Int) (a2 : Addr) (a3 : Addr) (a4 : Addr) (a5 : Addr) (a6 : Addr) (R : Ending → Hp → Prop) : Hp → Prop :=
  NEW 3 [(.int .i64 n1)] fun B7 =>
    NEWZ Pg 4 fun B8 =>
      RDP a2 fun p9 =>
        RDV a3 fun v10 =>
          CALL Pg W F_prize_prizes_order [(.pointer p9), v10]
            (fun v11 => RNGN Pg W v11 1
              (fun y13 fin14 => HD y13 fun v15 r16 => TYI .i64 v15 fun n17 =>
                NL r16 <|
                  RDM a4 fun m18 =>
                    LKP Pg 88 (.map m18) (.int .i64 n17) false fun v19 =>
                      TYB v19 fun b20 =>
                        BR b20
                          (J_prize_prizes_most_c1_0 W R true fin14 a4 n17 a5 B7 B8 a6)
                          (RDP a2 fun p40 =>
                            RDI .i64 ⟨B7, 0, none⟩ fun n41 =>
                              CALL Pg W F_prize_prizes_can [(.pointer p40), (.int .i64 n17), (.int .i64 n41)]
                                (fun v42 => TYB v42 fun b44 =>
                                  J_prize_prizes_most_c1_0 W R (!b44) fin14 a4 n17 a5 B7 B8 a6)
                                  (fun e43 => FF)))
              (AFT
                (WR (Addr.add ⟨B8, 0, none⟩ 0) (.bool false) <|
                  RDB ⟨B8, 0, none⟩ fun b45 =>
                    R (.returned (.bool b45))) (RDB ⟨B8, 0, none⟩ fun b46 =>
                R (.returned (.bool b46))) (EXL [] fun _ => FF)))
              (fun e12 => R (.panicked e12))
theorem T_prize_prizes_most_c1_eq (W : World) (n1 : Int) (a2 : Addr) (a3 : Addr) (a4 : Addr) (a5 : Addr) (a6 : Addr) (R : Ending → Hp → Prop) : vfun Pg W an_83 Try.f83 [(.int .i64 n1), (.pointer (some a2)), (.pointer (some a3)), (.pointer (some a4)), (.pointer (some a5)), (.pointer (some a6))] R = T_prize_prizes_most_c1 W n1 a2 a3 a4 a5 a6 R := by kernel_rfl
theorem does_prize_prizes_most_c1 (W : World) (n1 : Int) (a2 : Addr) (a3 : Addr) (a4 : Addr) (a5 : Addr) (a6 : Addr) (R : Ending → Hp → Prop) (s : Hp) (h : T_prize_prizes_most_c1 W n1 a2 a3 a4 a5 a6 R s) : Does Pg W F_prize_prizes_most_c1 #[(.int .i64 n1), (.pointer (some a2)), (.pointer (some a3)), (.pointer (some a4)), (.pointer (some a5)), (.pointer (some a6))] s R :=
  does_of_vfun Pg W an_83 Try.func83 rfl (by kernel_rfl) (by rw [T_prize_prizes_most_c1_eq]; exact h)
def an_85 : Nat → Ann := fun b => match b with
  | 0 => { ms := [18], ks := [.i .i64], us := [0, 2, 16, 17, 31], rt := false, ex := [] }
  | _ => {}
abbrev rv_85 : List ResultVar := []
abbrev rs_85 : List Nat := [31]
def L_prize_prizes_order_c1_0 (W : World) (R : Ending → Hp → Prop) (zv0 : Value) (za1 : Addr) (zp2 : Option Addr) (zl3 : Nat) (zl4 : Nat) (zn5 : Int) (n14 : Int) : Hp → Prop :=
  LOOPN [.i .i64] (fun ys next s => ∀ j : Tm, vc Pg W 31 rs_85 an_85 false (sub (bodyOf Try.f85) [0, 1, 1, 0, 0]) 0 (KLoop [18] [0, 2, 16, 17, 31] [zv0, (.pointer (some za1)), (.slice zp2 zl3 zl4), (.int .i64 zn5), (.tuple #[])] next (KBlk 0 (fin Pg W 31 rv_85 R))) (known [18] ys (known [0, 2, 16, 17, 31] [zv0, (.pointer (some za1)), (.slice zp2 zl3 zl4), (.int .i64 zn5), (.tuple #[])] j)) s) [(.int .i64 n14)]
def B_prize_prizes_order_c1_0 (W : World) (R : Ending → Hp → Prop) (zv0 : Value) (za1 : Addr) (zp2 : Option Addr) (zl3 : Nat) (zl4 : Nat) (zn5 : Int) (n14 : Int) (nx0 : List Value → Hp → Prop) : Hp → Prop :=
  BR (decide (n14 < zn5))
    (IXS zp2 zl3 n14 1 fun a15 =>
      RDI .i64 a15 fun n16 =>
        RDV za1 fun v17 =>
          CALLV Pg W v17 [(.int .i64 n16)]
            (fun v18 => TYB v18 fun b20 =>
              BR (!b20)
                (NX [zv0, (.pointer (some za1)), (.slice zp2 zl3 zl4), (.int .i64 zn5), (.tuple #[])] [zv0, (.pointer (some za1)), (.slice zp2 zl3 zl4), (.int .i64 zn5), (.tuple #[])] (nx0 [(.int .i64 (IntKind.wrap .i64 (n14 + 1)))]))
                (CALLV Pg W zv0 [(.int .i64 n16)]
                  (fun v21 => TYB v21 fun b23 =>
                    BR (!b23)
                      (R (.returned (.tuple #[])))
                      (NX [zv0, (.pointer (some za1)), (.slice zp2 zl3 zl4), (.int .i64 zn5), (.tuple #[])] [zv0, (.pointer (some za1)), (.slice zp2 zl3 zl4), (.int .i64 zn5), (.tuple #[])] (nx0 [(.int .i64 (IntKind.wrap .i64 (n14 + 1)))])))
                    (fun e22 => R (.panicked e22))))
              (fun e19 => R (.panicked e19)))
    (R (.returned (.tuple #[])))
theorem B_prize_prizes_order_c1_0_eq (W : World) (R : Ending → Hp → Prop) (zv0 : Value) (za1 : Addr) (zp2 : Option Addr) (zl3 : Nat) (zl4 : Nat) (zn5 : Int) (n14 : Int) (nx0 : List Value → Hp → Prop) (j : Tm) : vc Pg W 31 rs_85 an_85 false (sub (bodyOf Try.f85) [0, 1, 1, 0, 0]) 0 (KLoop [18] [0, 2, 16, 17, 31] [zv0, (.pointer (some za1)), (.slice zp2 zl3 zl4), (.int .i64 zn5), (.tuple #[])] nx0 (KBlk 0 (fin Pg W 31 rv_85 R))) (known [18] [(.int .i64 n14)] (known [0, 2, 16, 17, 31] [zv0, (.pointer (some za1)), (.slice zp2 zl3 zl4), (.int .i64 zn5), (.tuple #[])] j)) = B_prize_prizes_order_c1_0 W R zv0 za1 zp2 zl3 zl4 zn5 n14 nx0 := by kernel_rfl
def N_prize_prizes_order_c1_0 (I : Int → Hp → Prop) (μ : Int → Hp → Nat) (n140 : Int) (s : Hp) (vs : List Value) : Hp → Prop := fun s' => ∃ n14, vs = [(.int .i64 n14)] ∧ I n14 s' ∧ μ n14 s' < μ n140 s
theorem L_prize_prizes_order_c1_0_rule (W : World) (R : Ending → Hp → Prop) (zv0 : Value) (za1 : Addr) (zp2 : Option Addr) (zl3 : Nat) (zl4 : Nat) (zn5 : Int) (I : Int → Hp → Prop) (μ : Int → Hp → Nat) (n140 : Int) (s : Hp) (h0 : I n140 s)
    (hr : ∀ (n14 : Int) (s : Hp), I n14 s → B_prize_prizes_order_c1_0 W R zv0 za1 zp2 zl3 zl4 zn5 n14 (fun vs => N_prize_prizes_order_c1_0 I μ n14 s vs) s) : L_prize_prizes_order_c1_0 W R zv0 za1 zp2 zl3 zl4 zn5 n140 s := by
  refine ⟨fun vs s => ∃ n14, vs = [(.int .i64 n14)] ∧ I n14 s, fun vs s => (match vs with | [.int _ n14] => μ n14 s | _ => 0), ⟨⟨⟨_, rfl⟩, trivial⟩, ⟨_, rfl, h0⟩⟩, ?_⟩
  intro n14 s hI j
  obtain ⟨n14', hy, hI⟩ := hI
  have hI' : I n14 s := by cases hy; exact hI
  have hh := hr n14 s hI'
  rw [← B_prize_prizes_order_c1_0_eq W R zv0 za1 zp2 zl3 zl4 zn5 n14 _ j] at hh
  refine vc_mono ?_ _ _ hh
  exact KLoop_mono (fun vs s' h => by obtain ⟨n141, rfl, h1, h2⟩ := h; exact ⟨⟨⟨_, rfl⟩, trivial⟩, ⟨_, rfl, h1⟩, h2⟩)
def T_prize_prizes_order_c1 (W : World) (v1 : Value) (a2 : Addr) (a3 : Addr) (R : Ending → Hp → Prop) : Hp → Prop :=
  RDP a2 fun p4 =>
    SO p4 fun a5 =>
      RDP a2 fun p6 =>
        SO p6 fun a7 =>
          RDL (Addr.add (Addr.add a7 0) 0) fun x8 l9 c10 =>
            SLS (some (Addr.add a5 3)) 9 1 (IntKind.wrap .i64 ((↑l9 : Int) + 1)) 1 fun x11 l12 c13 =>
              L_prize_prizes_order_c1_0 W R v1 a3 x11 l12 c13 (↑l12 : Int) 0
theorem T_prize_prizes_order_c1_eq (W : World) (v1 : Value) (a2 : Addr) (a3 : Addr) (R : Ending → Hp → Prop) : vfun Pg W an_85 Try.f85 [v1, (.pointer (some a2)), (.pointer (some a3))] R = T_prize_prizes_order_c1 W v1 a2 a3 R := by kernel_rfl
theorem does_prize_prizes_order_c1 (W : World) (v1 : Value) (a2 : Addr) (a3 : Addr) (R : Ending → Hp → Prop) (s : Hp) (h : T_prize_prizes_order_c1 W v1 a2 a3 R s) : Does Pg W F_prize_prizes_order_c1 #[v1, (.pointer (some a2)), (.pointer (some a3))] s R :=
  does_of_vfun Pg W an_85 Try.func85 rfl (by kernel_rfl) (by rw [T_prize_prizes_order_c1_eq]; exact h)
def an_89 : Nat → Ann := fun b => match b with
  | _ => {}
abbrev rv_89 : List ResultVar := [.tmp 2]
abbrev rs_89 : List Nat := [3, 2]
def T_prize_who_c1 (W : World) (n1 : Int) (n2 : Int) (b3 : Bool) (b4 : Bool) (R : Ending → Hp → Prop) : Hp → Prop :=
  NEW 48 [(.int .i64 n1), (.int .i64 n2), (.bool b3), (.bool b4)] fun B5 =>
    R (.returned (.bool true))
theorem T_prize_who_c1_eq (W : World) (n1 : Int) (n2 : Int) (b3 : Bool) (b4 : Bool) (R : Ending → Hp → Prop) : vfun Pg W an_89 Try.f89 [(.agg #[(.int .i64 n1), (.int .i64 n2), (.bool b3), (.bool b4)])] R = T_prize_who_c1 W n1 n2 b3 b4 R := by kernel_rfl
theorem does_prize_who_c1 (W : World) (n1 : Int) (n2 : Int) (b3 : Bool) (b4 : Bool) (R : Ending → Hp → Prop) (s : Hp) (h : T_prize_who_c1 W n1 n2 b3 b4 R s) : Does Pg W F_prize_who_c1 #[(.agg #[(.int .i64 n1), (.int .i64 n2), (.bool b3), (.bool b4)])] s R :=
  does_of_vfun Pg W an_89 Try.func89 rfl (by kernel_rfl) (by rw [T_prize_who_c1_eq]; exact h)
def an_90 : Nat → Ann := fun b => match b with
  | _ => {}
abbrev rv_90 : List ResultVar := [.tmp 2]
abbrev rs_90 : List Nat := [5, 2]
def T_prize_who_c2 (W : World) (n1 : Int) (n2 : Int) (b3 : Bool) (b4 : Bool) (R : Ending → Hp → Prop) : Hp → Prop :=
  NEW 48 [(.int .i64 n1), (.int .i64 n2), (.bool b3), (.bool b4)] fun B5 =>
    RDB (Addr.add ⟨B5, 0, none⟩ 2) fun b6 =>
      R (.returned (.bool b6))
theorem T_prize_who_c2_eq (W : World) (n1 : Int) (n2 : Int) (b3 : Bool) (b4 : Bool) (R : Ending → Hp → Prop) : vfun Pg W an_90 Try.f90 [(.agg #[(.int .i64 n1), (.int .i64 n2), (.bool b3), (.bool b4)])] R = T_prize_who_c2 W n1 n2 b3 b4 R := by kernel_rfl
theorem does_prize_who_c2 (W : World) (n1 : Int) (n2 : Int) (b3 : Bool) (b4 : Bool) (R : Ending → Hp → Prop) (s : Hp) (h : T_prize_who_c2 W n1 n2 b3 b4 R s) : Does Pg W F_prize_who_c2 #[(.agg #[(.int .i64 n1), (.int .i64 n2), (.bool b3), (.bool b4)])] s R :=
  does_of_vfun Pg W an_90 Try.func90 rfl (by kernel_rfl) (by rw [T_prize_who_c2_eq]; exact h)
def an_91 : Nat → Ann := fun b => match b with
  | _ => {}
abbrev rv_91 : List ResultVar := [.tmp 2]
abbrev rs_91 : List Nat := [5, 2]
def T_prize_who_c3 (W : World) (n1 : Int) (n2 : Int) (b3 : Bool) (b4 : Bool) (R : Ending → Hp → Prop) : Hp → Prop :=
  NEW 48 [(.int .i64 n1), (.int .i64 n2), (.bool b3), (.bool b4)] fun B5 =>
    RDB (Addr.add ⟨B5, 0, none⟩ 3) fun b6 =>
      R (.returned (.bool b6))
theorem T_prize_who_c3_eq (W : World) (n1 : Int) (n2 : Int) (b3 : Bool) (b4 : Bool) (R : Ending → Hp → Prop) : vfun Pg W an_91 Try.f91 [(.agg #[(.int .i64 n1), (.int .i64 n2), (.bool b3), (.bool b4)])] R = T_prize_who_c3 W n1 n2 b3 b4 R := by kernel_rfl
theorem does_prize_who_c3 (W : World) (n1 : Int) (n2 : Int) (b3 : Bool) (b4 : Bool) (R : Ending → Hp → Prop) (s : Hp) (h : T_prize_who_c3 W n1 n2 b3 b4 R s) : Does Pg W F_prize_who_c3 #[(.agg #[(.int .i64 n1), (.int .i64 n2), (.bool b3), (.bool b4)])] s R :=
  does_of_vfun Pg W an_91 Try.func91 rfl (by kernel_rfl) (by rw [T_prize_who_c3_eq]; exact h)
def an_92 : Nat → Ann := fun b => match b with
  | _ => {}
abbrev rv_92 : List ResultVar := [.tmp 2]
abbrev rs_92 : List Nat := [9, 2]
def T_prize_who_c4 (W : World) (n1 : Int) (n2 : Int) (b3 : Bool) (b4 : Bool) (R : Ending → Hp → Prop) : Hp → Prop :=
  NEW 48 [(.int .i64 n1), (.int .i64 n2), (.bool b3), (.bool b4)] fun B5 =>
    RDB (Addr.add ⟨B5, 0, none⟩ 2) fun b6 =>
      BR b6
        (RDB (Addr.add ⟨B5, 0, none⟩ 3) fun b7 =>
          R (.returned (.bool b7)))
        (R (.returned (.bool false)))
theorem T_prize_who_c4_eq (W : World) (n1 : Int) (n2 : Int) (b3 : Bool) (b4 : Bool) (R : Ending → Hp → Prop) : vfun Pg W an_92 Try.f92 [(.agg #[(.int .i64 n1), (.int .i64 n2), (.bool b3), (.bool b4)])] R = T_prize_who_c4 W n1 n2 b3 b4 R := by kernel_rfl
theorem does_prize_who_c4 (W : World) (n1 : Int) (n2 : Int) (b3 : Bool) (b4 : Bool) (R : Ending → Hp → Prop) (s : Hp) (h : T_prize_who_c4 W n1 n2 b3 b4 R s) : Does Pg W F_prize_who_c4 #[(.agg #[(.int .i64 n1), (.int .i64 n2), (.bool b3), (.bool b4)])] s R :=
  does_of_vfun Pg W an_92 Try.func92 rfl (by kernel_rfl) (by rw [T_prize_who_c4_eq]; exact h)
def an_93 : Nat → Ann := fun b => match b with
  | _ => {}
abbrev rv_93 : List ResultVar := [.tmp 2]
abbrev rs_93 : List Nat := [6, 2]
def T_prize_who_c5 (W : World) (n1 : Int) (n2 : Int) (b3 : Bool) (b4 : Bool) (R : Ending → Hp → Prop) : Hp → Prop :=
  NEW 48 [(.int .i64 n1), (.int .i64 n2), (.bool b3), (.bool b4)] fun B5 =>
    RDI .i64 (Addr.add ⟨B5, 0, none⟩ 1) fun n6 =>
      R (.returned (.bool (n6 != 0)))
theorem T_prize_who_c5_eq (W : World) (n1 : Int) (n2 : Int) (b3 : Bool) (b4 : Bool) (R : Ending → Hp → Prop) : vfun Pg W an_93 Try.f93 [(.agg #[(.int .i64 n1), (.int .i64 n2), (.bool b3), (.bool b4)])] R = T_prize_who_c5 W n1 n2 b3 b4 R := by kernel_rfl
theorem does_prize_who_c5 (W : World) (n1 : Int) (n2 : Int) (b3 : Bool) (b4 : Bool) (R : Ending → Hp → Prop) (s : Hp) (h : T_prize_who_c5 W n1 n2 b3 b4 R s) : Does Pg W F_prize_who_c5 #[(.agg #[(.int .i64 n1), (.int .i64 n2), (.bool b3), (.bool b4)])] s R :=
  does_of_vfun Pg W an_93 Try.func93 rfl (by kernel_rfl) (by rw [T_prize_who_c5_eq]; exact h)
def an_111 : Nat → Ann := fun b => match b with
  | 0 => { ms := [], ks := [.i .i64], us := [], rt := true, ex := [] }
  | _ => {}
abbrev rv_111 : List ResultVar := [.cell 6 3]
abbrev rs_111 : List Nat := [19, 6]
def T_prize_plain_gives (W : World) (p1 : Option Addr) (n2 : Int) (v3 : Value) (R : Ending → Hp → Prop) : Hp → Prop :=
  NEW 108 [(.pointer p1)] fun B4 =>
    NEW 3 [(.int .i64 n2)] fun B5 =>
      NEWZ Pg 3 fun B6 =>
        RDP (Addr.add ⟨B4, 0, none⟩ 0) fun p7 =>
          CALL Pg W F_prize_prizes_order [(.pointer p7), v3]
            (fun v8 => RNGN Pg W v8 1
              (fun y10 fin11 => HD y10 fun v12 r13 => TYI .i64 v12 fun n14 =>
                NL r13 <|
                  RDP (Addr.add ⟨B4, 0, none⟩ 0) fun p15 =>
                    RDI .i64 ⟨B5, 0, none⟩ fun n16 =>
                      CALL Pg W F_prize_prizes_can [(.pointer p15), (.int .i64 n14), (.int .i64 n16)]
                        (fun v17 => TYB v17 fun b19 =>
                          BR b19
                            (WR (Addr.add ⟨B6, 0, none⟩ 0) (.int .i64 n14) <|
                              fin11 (some .ret))
                            (fin11 none))
                          (fun e18 => FF))
              (AFT
                (WR (Addr.add ⟨B6, 0, none⟩ 0) (.int .i64 (-1)) <|
                  RDI .i64 ⟨B6, 0, none⟩ fun n20 =>
                    R (.returned (.int .i64 n20))) (RDI .i64 ⟨B6, 0, none⟩ fun n21 =>
                R (.returned (.int .i64 n21))) (EXL [] fun _ => FF)))
              (fun e9 => R (.panicked e9))
theorem T_prize_plain_gives_eq (W : World) (p1 : Option Addr) (n2 : Int) (v3 : Value) (R : Ending → Hp → Prop) : vfun Pg W an_111 Try.f111 [(.agg #[(.pointer p1)]), (.int .i64 n2), v3] R = T_prize_plain_gives W p1 n2 v3 R := by kernel_rfl
theorem does_prize_plain_gives (W : World) (p1 : Option Addr) (n2 : Int) (v3 : Value) (R : Ending → Hp → Prop) (s : Hp) (h : T_prize_plain_gives W p1 n2 v3 R s) : Does Pg W F_prize_plain_gives #[(.agg #[(.pointer p1)]), (.int .i64 n2), v3] s R :=
  does_of_vfun Pg W an_111 Try.func111 rfl (by kernel_rfl) (by rw [T_prize_plain_gives_eq]; exact h)
def an_112 : Nat → Ann := fun b => match b with
  | _ => {}
abbrev rv_112 : List ResultVar := [.tmp 6]
abbrev rs_112 : List Nat := [33, 6]
def T_prize_clubs_gives (W : World) (p1 : Option Addr) (n2 : Int) (n3 : Int) (n4 : Int) (v5 : Value) (R : Ending → Hp → Prop) : Hp → Prop :=
  NEW 110 [(.pointer p1), (.int .i64 n2), (.int .i64 n3)] fun B6 =>
    ONE v5 <|
      NEW 62 [v5] fun B7 =>
        RDP (Addr.add (Addr.add ⟨B6, 0, none⟩ 0) 0) fun p8 =>
          SO p8 fun a9 =>
            RDL (Addr.add (Addr.add a9 0) 1) fun x10 l11 c12 =>
              IXS x10 l11 n4 2 fun a13 =>
                RDI .i64 (Addr.add a13 0) fun n14 =>
                  BR (n14 != 4)
                    (RDP (Addr.add (Addr.add ⟨B6, 0, none⟩ 0) 0) fun p15 =>
                      RDV ⟨B7, 0, none⟩ fun v16 =>
                        CALL Pg W F_prize_plain_gives [(.agg #[(.pointer p15)]), (.int .i64 n4), v16]
                          (fun v17 => TYI .i64 v17 fun n19 =>
                            R (.returned (.int .i64 n19)))
                            (fun e18 => R (.panicked e18)))
                    (RDI .i64 (Addr.add (Addr.add ⟨B6, 0, none⟩ 1) 0) fun n20 =>
                      RDI .i64 (Addr.add (Addr.add ⟨B6, 0, none⟩ 1) 1) fun n21 =>
                        BR ((n20 == 0) && (n21 == 0))
                          (R (.returned (.int .i64 (-1))))
                          (RDP (Addr.add (Addr.add ⟨B6, 0, none⟩ 0) 0) fun p22 =>
                            CALL Pg W F_prize_plain_gives [(.agg #[(.pointer p22)]), (.int .i64 n4), (.func (.func 113) #[] #[(.pointer (some ⟨B7, 0, none⟩)), (.pointer (some ⟨B6, 0, none⟩))])]
                              (fun v23 => TYI .i64 v23 fun n25 =>
                                R (.returned (.int .i64 n25)))
                                (fun e24 => R (.panicked e24))))
theorem T_prize_clubs_gives_eq (W : World) (p1 : Option Addr) (n2 : Int) (n3 : Int) (n4 : Int) (v5 : Value) (R : Ending → Hp → Prop) : vfun Pg W an_112 Try.f112 [(.agg #[(.pointer p1), (.int .i64 n2), (.int .i64 n3)]), (.int .i64 n4), v5] R = T_prize_clubs_gives W p1 n2 n3 n4 v5 R := by kernel_rfl
theorem does_prize_clubs_gives (W : World) (p1 : Option Addr) (n2 : Int) (n3 : Int) (n4 : Int) (v5 : Value) (R : Ending → Hp → Prop) (s : Hp) (h : T_prize_clubs_gives W p1 n2 n3 n4 v5 R s) : Does Pg W F_prize_clubs_gives #[(.agg #[(.pointer p1), (.int .i64 n2), (.int .i64 n3)]), (.int .i64 n4), v5] s R :=
  does_of_vfun Pg W an_112 Try.func112 rfl (by kernel_rfl) (by rw [T_prize_clubs_gives_eq]; exact h)
def an_113 : Nat → Ann := fun b => match b with
  | _ => {}
abbrev rv_113 : List ResultVar := [.tmp 4]
abbrev rs_113 : List Nat := [25, 4]
def T_prize_clubs_gives_c1 (W : World) (n1 : Int) (a2 : Addr) (a3 : Addr) (R : Ending → Hp → Prop) : Hp → Prop :=
  RDV a2 fun v4 =>
    CALLV Pg W v4 [(.int .i64 n1)]
      (fun v5 => TYB v5 fun b7 =>
        BR b7
          (RDP (Addr.add (Addr.add a3 0) 0) fun p8 =>
            SO p8 fun a9 =>
              RDL (Addr.add (Addr.add a9 0) 0) fun x10 l11 c12 =>
                IXS x10 l11 n1 4 fun a13 =>
                  RDI .i64 (Addr.add a13 1) fun n14 =>
                    RDI .i64 (Addr.add (Addr.add a3 1) 0) fun n15 =>
                      R (.returned (.bool (n14 == n15))))
          (R (.returned (.bool false))))
        (fun e6 => R (.panicked e6))
theorem T_prize_clubs_gives_c1_eq (W : World) (n1 : Int) (a2 : Addr) (a3 : Addr) (R : Ending → Hp → Prop) : vfun Pg W an_113 Try.f113 [(.int .i64 n1), (.pointer (some a2)), (.pointer (some a3))] R = T_prize_clubs_gives_c1 W n1 a2 a3 R := by kernel_rfl
theorem does_prize_clubs_gives_c1 (W : World) (n1 : Int) (a2 : Addr) (a3 : Addr) (R : Ending → Hp → Prop) (s : Hp) (h : T_prize_clubs_gives_c1 W n1 a2 a3 R s) : Does Pg W F_prize_clubs_gives_c1 #[(.int .i64 n1), (.pointer (some a2)), (.pointer (some a3))] s R :=
  does_of_vfun Pg W an_113 Try.func113 rfl (by kernel_rfl) (by rw [T_prize_clubs_gives_c1_eq]; exact h)
end Go.Proofs.Ytfaeokcbfnlgbaa.G

/- Shorter ways through texts over the visible heap: known conditions, counting, variables that are made and written. -/
set_option linter.unusedSimpArgs false
set_option linter.unusedVariables false
set_option maxRecDepth 20000
namespace Go.V
theorem BR_t (x y : Hp → Prop) : BR true x y = x := rfl
theorem BR_f (x y : Hp → Prop) : BR false x y = y := rfl
theorem wrap_succ {k : Nat} (h : k < 1000000000) : IntKind.i64.wrap ((k : Int) + 1) = ((k + 1 : Nat) : Int) := by rw [wrap_i64 (by omega) (by omega)]; rfl
theorem ms_succ {k n : Nat} (h : k < n) (h2 : n ≤ 1000000000) : ((n : Int) - IntKind.i64.wrap ((k : Int) + 1)).toNat < ((n : Int) - (k : Int)).toNat := by rw [wrap_succ (by omega)]; omega
theorem toNat_nat (k : Nat) : ((k : Nat) : Int).toNat = k := Int.toNat_natCast k
theorem NNI_of {b : Int} {K : Hp → Prop} {s : Hp} (hb : 0 ≤ b) (h : K s) : NNI b K s := by
  obtain ⟨n, rfl⟩ := Int.eq_ofNat_of_zero_le hb
  exact h
section
variable {s s0 s' : Hp} {K : Hp → Prop}
/-- A write into a block that was made behind 's0'. -/
theorem ext_kp {b : Nat} (e : Ext s0 s) (h : s0.size ≤ b) (k : Kp (· = b) s s') : Ext s0 s' := ⟨Nat.le_trans e.1 k.1, fun q hq => by
  rw [k.2 q (Nat.lt_of_lt_of_le hq e.1) (fun hh => by have h2 : q = b := hh; omega)]; exact e.2 q hq⟩
theorem kp_nil {C : Nat → Prop} (e : Ext s0 s) (h : ∀ b, C b → s0.size ≤ b) (k : Kp C s s') : Ext s0 s' := ⟨Nat.le_trans e.1 k.1, fun q hq => by
  rw [k.2 q (Nat.lt_of_lt_of_le hq e.1) (fun hh => by have := h q hh; omega)]; exact e.2 q hq⟩
theorem wr1 {a : Addr} {v y : Value} (ha : Own s a y) (h0 : oneCell v = true) (h : ∀ s', Kp (· = a.block) s s' → s'.size = s.size → Own s' a v → K s') : WR a v K s :=
  WR_own ha h0 (h _ (Kp.setC (Kp.refl s) (.inl rfl)) (setC_size _ _ _) (own_set ha))
end
section
variable {P : Program} {s : Hp} {t : TypeId}
/-- A new variable of one cell that is written. -/
theorem nw1 {z0 v0 : Value} {K : Nat → Hp → Prop} (hz : zc P t = [z0]) (h0 : oneCell v0 = true) (h : ∀ s', Ext s s' → s'.size = s.size + 1 → Own s' ⟨s.size, 0, none⟩ v0 → K s.size s') :
    NEWZ P t (fun B => WR (Addr.add ⟨B, 0, none⟩ 0) v0 (K B)) s := by
  refine NEWZ_rule hz fun s1 e1 z1 n1 => ?_
  refine wr1 (a := ⟨s.size, 0, none⟩) (n1 0 _ rfl) h0 fun s2 k2 z2 o2 => ?_
  exact h s2 (ext_kp e1 (Nat.le_refl _) k2) (by omega) o2
/-- .. of more cells. -/
theorem nwN {cs vs : List Value} {K : Nat → Hp → Prop} (hz : zc P t = cs) (hl : vs.length = cs.length) (hv : ∀ v ∈ vs, oneCell v = true) (h : ∀ s', Ext s s' → s'.size = s.size + 1 → (∀ i (h : i < vs.length), Own s' ⟨s.size, i, none⟩ vs[i]) → K s.size s') :
    NEWZ P t (fun B => wrN vs ⟨B, 0, none⟩ 0 (K B)) s := by
  refine NEWZ_rule hz fun s1 e1 z1 n1 => ?_
  refine wrN_rule vs _ 0 _ s1 (fun i hi => ⟨cs[i]'(by omega), ?_⟩) hv fun s2 k2 z2 o2 _ => ?_
  · have := n1 i cs[i] (List.getElem?_eq_getElem (by omega))
    rw [add_nil, Nat.zero_add, Nat.zero_add]; exact this
  · refine h s2 (ext_kp e1 (Nat.le_refl _) k2) (by omega) fun i hi => ?_
    have := o2 i hi
    rw [add_nil, Nat.zero_add, Nat.zero_add] at this; exact this
theorem nw2 {z0 z1 v0 v1 : Value} {K : Nat → Hp → Prop} (hz : zc P t = [z0, z1]) (h0 : oneCell v0 = true) (h1 : oneCell v1 = true) (h : ∀ s', Ext s s' → s'.size = s.size + 1 → Own s' ⟨s.size, 0, none⟩ v0 → Own s' ⟨s.size, 1, none⟩ v1 → K s.size s') :
    NEWZ P t (fun B => WR (Addr.add ⟨B, 0, none⟩ 0) v0 (WR (Addr.add ⟨B, 0, none⟩ 1) v1 (K B))) s :=
  nwN (vs := [v0, v1]) hz rfl (by simp [h0, h1]) fun s' e z o => h s' e z (o 0 (by simp)) (o 1 (by simp))
theorem nw3 {z0 z1 z2 v0 v1 v2 : Value} {K : Nat → Hp → Prop} (hz : zc P t = [z0, z1, z2]) (h0 : oneCell v0 = true) (h1 : oneCell v1 = true) (h2 : oneCell v2 = true) (h : ∀ s', Ext s s' → s'.size = s.size + 1 → Own s' ⟨s.size, 0, none⟩ v0 → Own s' ⟨s.size, 1, none⟩ v1 → Own s' ⟨s.size, 2, none⟩ v2 → K s.size s') :
    NEWZ P t (fun B => WR (Addr.add ⟨B, 0, none⟩ 0) v0 (WR (Addr.add ⟨B, 0, none⟩ 1) v1 (WR (Addr.add ⟨B, 0, none⟩ 2) v2 (K B)))) s :=
  nwN (vs := [v0, v1, v2]) hz rfl (by simp [h0, h1, h2]) fun s' e z o => h s' e z (o 0 (by simp)) (o 1 (by simp)) (o 2 (by simp))
theorem nw4 {z0 z1 z2 z3 v0 v1 v2 v3 : Value} {K : Nat → Hp → Prop} (hz : zc P t = [z0, z1, z2, z3]) (h0 : oneCell v0 = true) (h1 : oneCell v1 = true) (h2 : oneCell v2 = true) (h3 : oneCell v3 = true) (h : ∀ s', Ext s s' → s'.size = s.size + 1 → Own s' ⟨s.size, 0, none⟩ v0 → Own s' ⟨s.size, 1, none⟩ v1 → Own s' ⟨s.size, 2, none⟩ v2 → Own s' ⟨s.size, 3, none⟩ v3 → K s.size s') :
    NEWZ P t (fun B => WR (Addr.add ⟨B, 0, none⟩ 0) v0 (WR (Addr.add ⟨B, 0, none⟩ 1) v1 (WR (Addr.add ⟨B, 0, none⟩ 2) v2 (WR (Addr.add ⟨B, 0, none⟩ 3) v3 (K B))))) s :=
  nwN (vs := [v0, v1, v2, v3]) hz rfl (by simp [h0, h1, h2, h3]) fun s' e z o => h s' e z (o 0 (by simp)) (o 1 (by simp)) (o 2 (by simp)) (o 3 (by simp))
/-- A new variable as it is. -/
theorem nz1 {v0 : Value} {K : Nat → Hp → Prop} (hz : zc P t = [v0]) (h : ∀ s', Ext s s' → s'.size = s.size + 1 → Own s' ⟨s.size, 0, none⟩ v0 → K s.size s') : NEWZ P t K s :=
  NEWZ_rule hz fun s1 e1 z1 n1 => h s1 e1 z1 (n1 0 _ rfl)
theorem nz2 {v0 v1 : Value} {K : Nat → Hp → Prop} (hz : zc P t = [v0, v1]) (h : ∀ s', Ext s s' → s'.size = s.size + 1 → Own s' ⟨s.size, 0, none⟩ v0 → Own s' ⟨s.size, 1, none⟩ v1 → K s.size s') : NEWZ P t K s :=
  NEWZ_rule hz fun s1 e1 z1 n1 => h s1 e1 z1 (n1 0 _ rfl) (n1 1 _ rfl)
theorem nz4 {v0 v1 v2 v3 : Value} {K : Nat → Hp → Prop} (hz : zc P t = [v0, v1, v2, v3]) (h : ∀ s', Ext s s' → s'.size = s.size + 1 → Own s' ⟨s.size, 0, none⟩ v0 → Own s' ⟨s.size, 1, none⟩ v1 → Own s' ⟨s.size, 2, none⟩ v2 → Own s' ⟨s.size, 3, none⟩ v3 → K s.size s') : NEWZ P t K s :=
  NEWZ_rule hz fun s1 e1 z1 n1 => h s1 e1 z1 (n1 0 _ rfl) (n1 1 _ rfl) (n1 2 _ rfl) (n1 3 _ rfl)
theorem ne1 {v0 : Value} {K : Nat → Hp → Prop} (h : ∀ s', Ext s s' → s'.size = s.size + 1 → Own s' ⟨s.size, 0, none⟩ v0 → K s.size s') : NEW t [v0] K s :=
  NEW_rule fun s1 e1 z1 n1 _ => h s1 e1 z1 (n1 0 _ rfl)
theorem ne2 {v0 v1 : Value} {K : Nat → Hp → Prop} (h : ∀ s', Ext s s' → s'.size = s.size + 1 → Own s' ⟨s.size, 0, none⟩ v0 → Own s' ⟨s.size, 1, none⟩ v1 → K s.size s') : NEW t [v0, v1] K s :=
  NEW_rule fun s1 e1 z1 n1 _ => h s1 e1 z1 (n1 0 _ rfl) (n1 1 _ rfl)
theorem ne4 {v0 v1 v2 v3 : Value} {K : Nat → Hp → Prop} (h : ∀ s', Ext s s' → s'.size = s.size + 1 → Own s' ⟨s.size, 0, none⟩ v0 → Own s' ⟨s.size, 1, none⟩ v1 → Own s' ⟨s.size, 2, none⟩ v2 → Own s' ⟨s.size, 3, none⟩ v3 → K s.size s') : NEW t [v0, v1, v2, v3] K s :=
  NEW_rule fun s1 e1 z1 n1 _ => h s1 e1 z1 (n1 0 _ rfl) (n1 1 _ rfl) (n1 2 _ rfl) (n1 3 _ rfl)
end
end Go.V
namespace Go.V
theorem MKS_rule {P : Program} {t : TypeId} {n : Nat} {z : Value} {K : Nat → Hp → Prop} {s : Hp} (hz : zc P t = [z]) (hn : n ≤ 100000) (h : ∀ s', Ext s s' → s'.size = s.size + 1 → (∀ i, i < n → Own s' ⟨s.size, i, none⟩ z) → K s.size s') : MKS P t (n : Int) (n : Int) K s := by
  refine ⟨⟨by omega, by omega, by omega⟩, ?_⟩
  rw [hz, Int.toNat_natCast]
  exact h _ (Ext.push (Ext.refl _)) (by simp) fun i hi => own_new (repL_getD z n i hi)
theorem IXS_nat {a : Addr} {l i es : Nat} {K : Addr → Hp → Prop} {s : Hp} (h : i < l) (hk : K (a.add (i * es)) s) : IXS (some a) l (i : Int) es K s := ⟨a, rfl, ⟨by omega, by omega⟩, hk⟩
end Go.V
namespace Go.V
theorem BR_ff {c : Bool} {x y : Hp → Prop} {s : Hp} (h : c = false) (hk : y s) : BR c x y s := by rw [h]; exact hk
theorem BR_tt {c : Bool} {x y : Hp → Prop} {s : Hp} (h : c = true) (hk : x s) : BR c x y s := by rw [h]; exact hk
end Go.V
namespace Go.V
theorem ANDS_i {x K : Hp → Prop} {s : Hp} (h : x s) (k : K s) : ANDS x K s := ⟨h, k⟩
theorem CONJ_one {a : Hp → Prop} {s : Hp} (h : a s) : CONJ [a] s := h
theorem CONJ_more {s : Hp} {a b : Hp → Prop} {l : List (Hp → Prop)} (h1 : a s) (h2 : CONJ (b :: l) s) : CONJ (a :: b :: l) s := ⟨h1, h2⟩
end Go.V
