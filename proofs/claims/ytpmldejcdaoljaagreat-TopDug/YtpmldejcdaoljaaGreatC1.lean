import Derived.Test.YtpmldejcdaoljaaGreatC0
import Derived.RecoverIn
import Derived.Test.YtpmldejcdaoljaaGreatRows
import Derived.WalkKit
import Derived.ProofKit
import Derived.OpenShut
import Derived.ShutString
import Derived.ChangeOld
import Derived.Below
import Derived.SizedLaws
/- Lemmas: contracts over the visible heap, and that they are sound; no condition. -/
set_option linter.unusedSimpArgs false
set_option linter.unusedVariables false
set_option maxRecDepth 20000
namespace Go.V
def operOk (n : Nat) (x : Operand) : Bool := match x with | .tmp i => !Nat.beq i n | _ => true
def codeOk (n : Nat) : Code → Bool
  | .region _ ops _ => ops.toList.all (slotOk n ops.toList)
  | .seq x y => codeOk n x && codeOk n y
  | .cond c x y => operOk n c && codeOk n x && codeOk n y
  | .block _ c => codeOk n c
  | .loop c => codeOk n c
  | .scope c => codeOk n c
  | .rangeFunc f _ x y => operOk n f && codeOk n x && codeOk n y
  | _ => true
theorem known_self : ∀ (is : List Nat) (t : Tm), known is (is.map t) t = t
  | [], t => rfl
  | i :: is, t => by
    funext j
    simp only [List.map_cons, known]
    cases hb : Nat.beq j i with
    | true => rw [beq_iff.1 hb]
    | false => simp only []; rw [known_self is t]
theorem ALLK_elim : ∀ (ks : List Kd) (F : List Value → Prop), ALLK ks F → ∀ ys, areK ks ys → F ys
  | [], F, h, ys, hk => by cases ys <;> first | exact h | exact hk.elim
  | k :: ks, F, h, [], hk => by cases k <;> exact hk.elim
  | k :: ks, F, h, y :: ys, hk => by
    obtain ⟨h1, h2⟩ := hk
    cases k with
    | i k => obtain ⟨x, rfl⟩ := h1; exact ALLK_elim ks _ (h x) ys h2
    | b => obtain ⟨x, rfl⟩ := h1; exact ALLK_elim ks _ (h x) ys h2
    | s => obtain ⟨x, rfl⟩ := h1; exact ALLK_elim ks _ (h x) ys h2
    | p => obtain ⟨x, rfl⟩ := h1; exact ALLK_elim ks _ (h x) ys h2
    | l => obtain ⟨x, l, c, rfl⟩ := h1; exact ALLK_elim ks _ (h x l c) ys h2
    | m => obtain ⟨x, rfl⟩ := h1; exact ALLK_elim ks _ (h x) ys h2
    | v => exact ALLK_elim ks _ (h y) ys h2
section
variable {P : Program} {W : World} {n : Nat} {k0 : Nat → Prop} {rs : List Nat} {an : Nat → Ann} {B : Bool}
theorem eval_oper {X : Nat → Prop} {h : Hp} {a : Act} {t : Tm} {x : Operand} (rl : Rel n k0 X h a t) (ho : operOk n x = true) : a.eval x = ev t x := by
  cases x <;> try rfl
  rename_i i
  refine rl.tmp i ?_
  intro e; subst e
  simp [operOk] at ho
theorem hk_left {a b : Bool} {p : Prop} (h : (a || b) = true → p) : a = true → p := fun e => h (by rw [e]; rfl)
theorem hk_right {a b : Bool} {p : Prop} (h : (a || b) = true → p) : b = true → p := fun e => h (by rw [e]; cases a <;> rfl)
theorem hk_ev {b : Bool} {X X' : Nat → Prop} {h h' : Hp} {k0 : Nat → Prop} (e : Ev X h X' h') (hk : b = true → ∀ r, h.size ≤ r → k0 r) : b = true → ∀ r, h'.size ≤ r → k0 r := fun hb r hr => hk hb r (Nat.le_trans e.size hr)
theorem hB_left {B a b : Bool} (h : B = false → (a || b) = false) : B = false → a = false := fun e => by
  have := h e
  cases a with
  | true => cases this
  | false => rfl
theorem hB_right {B a b : Bool} (h : B = false → (a || b) = false) : B = false → b = false := fun e => by
  have := h e
  cases a with
  | true => cases this
  | false => exact this
def Sound (P : Program) (W : World) (n : Nat) (rs : List Nat) (an : Nat → Ann) (B : Bool) (c : Code) : Prop :=
  ∀ (r : Option Nat) (b : Nat) (K : Kt) (k0 : Nat → Prop) (t : Tm) (s : Hp) (a : Act) (X : Nat → Prop) (h : Hp) (d : Nat), (B = false → hasR c = false) → (hasR c = true → ∀ r, h.size ≤ r → k0 r) → Vis X h s → Rel n k0 X h a t → vc P W n rs an r.isSome c b K t s → WP B r P c (PQ W n rs k0 X h K) a (wat W h d)
theorem then_of {r : Option Nat} {y : Tm → Hp → Prop} {K : Kt} {c : Code} {X : Nat → Prop} {h : Hp} (hy : ∀ X' h' d' s' t' a', Vis X' h' s' → Ev X h X' h' → Rel n k0 X' h' a' t' → y t' s' → WP B r P c (PQ W n rs k0 X h K) a' (wat W h' d')) :
    ∀ e a w, PQ W n rs k0 X h (KSeq y K) e a w → Exit.then (fun a w => WP B r P c (PQ W n rs k0 X h K) a w) (PQ W n rs k0 X h K) e a w := by
  intro e a w q
  cases e with
  | normal => obtain ⟨X', h', d', s', t', rfl, v, e, rl, hk⟩ := q; exact hy X' h' d' s' t' a v e rl hk
  | exit id => exact q
  | goto l => exact q
  | ret => exact q
  | panic c => exact q
  | outgrown => exact q
theorem sound_seq {x y : Code} (hx : Sound P W n rs an B x) (hy : Sound P W n rs an B y) : Sound P W n rs an B (.seq x y) := by
  intro r b K k0 t s a X h d hB hk v rl hv
  refine WP_seq (WP_mono (hx r b (KSeq (vc P W n rs an r.isSome y b K) K) k0 t s a X h d (hB_left hB) (hk_left hk) v rl hv) ?_)
  refine then_of ?_
  intro X' h' d' s' t' a' v' e' rl' hy'
  exact WP_mono (hy r b K k0 t' s' a' X' h' d' (hB_right hB) (hk_ev e' (hk_right hk)) v' rl' hy') (fun _ _ _ q => q.ev e')
theorem sound_cond {c : Operand} {x y : Code} (hc : operOk n c = true) (hx : Sound P W n rs an B x) (hy : Sound P W n rs an B y) : Sound P W n rs an B (.cond c x y) := by
  intro r b K k0 t s a X h d hB hk v rl hv
  unfold vc at hv
  cases hb : ev t c <;> simp only [hb] at hv <;> first | exact hv.elim | skip
  rename_i q
  refine WP_cond (t := q) ((eval_oper rl hc).trans hb) ?_
  cases q with
  | true => exact hx r b K k0 t s a X h d (hB_left hB) (hk_left hk) v rl hv
  | false => exact hy r b K k0 t s a X h d (hB_right hB) (hk_right hk) v rl hv
theorem sound_block {id : Nat} {c : Code} (hc : Sound P W n rs an B c) : Sound P W n rs an B (.block id c) := by
  intro r b K k0 t s a X h d hB hk v rl hv
  refine WP_block (WP_mono (hc r id (KBlk id K) k0 t s a X h d hB hk v rl hv) ?_)
  intro e a w q
  cases e with
  | normal => exact q
  | exit j =>
    obtain ⟨X', h', d', s', t', rfl, v, e, rl, hk⟩ := q
    simp only [Exit.inBlock]
    simp only [KBlk] at hk
    cases hb : Nat.beq j id with
    | true => rw [if_pos (beq_iff.1 hb)]; simp only [hb] at hk; exact ⟨X', h', d', s', t', rfl, v, e, rl, hk⟩
    | false =>
      have hne : ¬ j = id := fun e => by rw [beq_iff.2 e] at hb; cases hb
      rw [if_neg hne]; simp only [hb] at hk; exact ⟨X', h', d', s', t', rfl, v, e, rl, hk⟩
  | goto l => exact q
  | ret => exact q
  | panic c => exact q
  | outgrown => exact q
theorem sound_loop {c : Code} (hc : Sound P W n rs an B c) : Sound P W n rs an B (.loop c) := by
  intro r b K k0 t s a X h d hB hk v rl hv
  unfold vc at hv
  obtain ⟨I, μ, ⟨hk0, h0⟩, hBb⟩ := hv
  have hB' := ALLK_elim _ _ hBb
  refine WP_loop (fun k a' w' => ∃ X' h' d' s' t', w' = wat W h' d' ∧ Vis X' h' s' ∧ Ev X h X' h' ∧ Rel n k0 X' h' a' t' ∧ (an b).us.map t' = (an b).us.map t ∧ areK (an b).ks ((an b).ms.map t') ∧ I ((an b).ms.map t') s' ∧ μ ((an b).ms.map t') s' = k)
    (μ ((an b).ms.map t) s) ⟨X, h, d, s, t, rfl, v, Ev.refl _ _, rl, rfl, hk0, h0, rfl⟩ ?_
  rintro k a' w' ⟨X', h', d', s', t', rfl, v', e', rl', hu, hks, hI, rfl⟩
  have hround := hB' _ hks s' hI t'
  rw [← hu, known_self, known_self, hu] at hround
  refine WP_mono (hc r b _ k0 t' s' a' X' h' d' hB (hk_ev e' hk) v' rl' hround) ?_
  intro e a2 w2 q
  cases e with
  | normal =>
    obtain ⟨X2, h2, d2, s2, t2, rfl, v2, e2, rl2, hu2, hk2, hI2, hlt⟩ := q
    exact ⟨_, hlt, X2, h2, d2, s2, t2, rfl, v2, e'.trans e2, rl2, hu2, hk2, hI2, rfl⟩
  | exit id => exact (PQ.ev e' q : PQ W n rs k0 X h K (.exit id) a2 w2)
  | goto l => exact q
  | ret => exact (PQ.ev e' q : PQ W n rs k0 X h K .ret a2 w2)
  | panic c => exact (PQ.ev e' q : PQ W n rs k0 X h K (.panic c) a2 w2)
  | outgrown => exact q
theorem sound_region {id : Nat} {ops : Array Oper} {draws : Bool} (ho : ops.toList.all (slotOk n ops.toList) = true) : Sound P W n rs an B (.region id ops draws) := by
  intro r b K k0 t s a X h d hB hk v rl hv
  have hsl := fun o (h : o ∈ ops.toList) => List.all_eq_true.1 ho o h
  cases draws with
  | false => exact WP_of (wpIn_region_list (vops_ok _ hsl t s a X h d v (Ev.refl _ _) rl hv))
  | true =>
    unfold vc at hv
    cases hd : drOk P rs ops.toList with
    | false => simp only [hd] at hv; exact hv.elim
    | true =>
      simp only [hd] at hv
      cases ha : (an (2000000 + id)).rt with
      | false => simp only [ha] at hv; exact WP_of (region_ok hd hsl v rl hv)
      | true =>
        simp only [ha] at hv
        have h2 := hv t
        rw [known_self] at h2
        exact WP_of (region_ok hd hsl v rl h2)
end
section
variable {P : Program} {W : World} {n : Nat} {k0 : Nat → Prop} {rs : List Nat} {an : Nat → Ann}
theorem getD_set {t : Array Value} {p : Nat} {v : Value} {t' : Tm} (hs : t.size = n) (ht : ∀ i, i ≠ n → t.getD i undef = t' i) : ∀ i, i ≠ n → (t.setIfInBounds p v).getD i undef = upd n p v t' i := by
  intro i hi
  have := put_get (a := { tmps := t, defers := [] }) (d := some p) (v := v) (t := t') (i := i) hs hi (fun _ => ht i hi) (fun _ => ht i hi)
  exact this
theorem updL_n : ∀ (ps : List Nat) (vs : List Value) (t : Tm), updL n ps vs t n = t n
  | [], _, t => by cases ‹List Value› <;> rfl
  | _ :: _, [], t => rfl
  | p :: ps, v :: vs, t => by
    show updL n ps vs (upd n p v t) n = t n
    rw [updL_n ps vs, upd_get, if_neg (by omega)]
theorem fold_upd : ∀ (ps : List Nat) (vs : List Value) (t : Array Value) (t' : Tm), t.size = n → (∀ i, i ≠ n → t.getD i undef = t' i) →
    ((ps.zip vs).foldl (fun tmps (x : Nat × Value) => tmps.setIfInBounds x.1 x.2) t).size = n ∧ ∀ i, i ≠ n → ((ps.zip vs).foldl (fun tmps (x : Nat × Value) => tmps.setIfInBounds x.1 x.2) t).getD i undef = updL n ps vs t' i
  | [], vs, t, t', hs, ht => by cases vs <;> exact ⟨hs, ht⟩
  | p :: ps, [], t, t', hs, ht => ⟨hs, ht⟩
  | p :: ps, v :: vs, t, t', hs, ht => by
    have := fold_upd ps vs (t.setIfInBounds p v) (upd n p v t') (by simpa using hs) (getD_set hs ht)
    exact this
theorem Dcd.marks {X : Nat → Prop} {h : Hp} : ∀ {ds : List Deferred} {v : Value}, Dcd k0 X h ds v → ∀ d ∈ ds, ∀ r, d.target = .collected r → X r
  | [], v, hd, d, hm, r, e => by simp at hm
  | d0 :: ds, v, hd, d, hm, r, e => by
    rcases hd with ⟨r0, h1, h2, h3, h4, h5, h6⟩ | ⟨f, cap, args, h1, h2, h3⟩
    · rcases List.mem_cons.1 hm with rfl | hm
      · rw [h1] at e; cases e; exact h3
      · exact h6.marks d hm r e
    · rcases List.mem_cons.1 hm with rfl | hm
      · rw [h1] at e; cases e
      · exact h3.marks d hm r e
theorem Dcd.swap {X : Nat → Prop} {h : Hp} {l : Nat} {r : Loop} {o : Obj} (hl : h[l]? = some (.loop r)) : ∀ {ds : List Deferred} {v : Value}, Dcd k0 X h ds v → Dcd k0 X (h.setIfInBounds l o) ds v
  | [], v, hd => hd
  | d0 :: ds, v, hd => by
    rcases hd with ⟨r0, h1, h2, h3, h4, h5, h6⟩ | ⟨f, cap, args, h1, h2, h3⟩
    · have hne : r0 ≠ l := fun e => by subst e; rw [hl] at h4; cases h4
      exact .inl ⟨r0, h1, h2, h3, by rw [Array.getElem?_setIfInBounds_ne (fun e' => hne e'.symm)]; exact h4, h5, h6.swap hl⟩
    · exact .inr ⟨f, cap, args, h1, h2, h3.swap hl⟩
theorem set_ne {h : Hp} {b c : Nat} {o : Obj} (e : c ≠ b) : (h.setIfInBounds b o)[c]? = h[c]? := Array.getElem?_setIfInBounds_ne (fun e' => e e'.symm)
theorem set_eq {h : Hp} {b : Nat} {o : Obj} (e : b < h.size) : (h.setIfInBounds b o)[b]? = some o := by simp [e]
theorem set_set {h : Hp} {b : Nat} {o o' : Obj} : (h.setIfInBounds b o).setIfInBounds b o' = h.setIfInBounds b o' := by
  apply Array.ext_getElem?
  intro c
  by_cases e : c = b
  · subst e; simp [Array.getElem?_setIfInBounds]
  · rw [set_ne e, set_ne e, set_ne e]
theorem set_id {h : Hp} {b : Nat} {o : Obj} (e : h[b]? = some o) : h.setIfInBounds b o = h := by
  apply Array.ext_getElem?
  intro c
  by_cases e' : c = b
  · subst e'; rw [set_eq (Array.getElem?_eq_some_iff.1 e).1, e]
  · rw [set_ne e']
theorem PRM_elim {pt : List TypeId} {ks : List Kd} {l : List Value} {K : List Value → Hp → Prop} {s : Hp} (h : PRM P pt ks l K s) : K l s := by
  unfold PRM at h
  cases pt with
  | nil => exact (tyN_elim _ _ _ h).1
  | cons t ts => exact tyTs_elim _ _ _ h
theorem sound_rangeN {f : Operand} {ps : Array Tmp} {assign body : Code} (hf : operOk n f = true) (ha : Sound P W n rs an true assign) (hb : Sound P W n rs an true body) (b : Nat) (K : Kt) (k0 : Nat → Prop) (t : Tm) (s : Hp) (a : Act) (X : Nat → Prop) (h : Hp) (d : Nat)
    (hk : ∀ r, h.size ≤ r → k0 r) (v : Vis X h s) (rl : Rel n k0 X h a t)
    (hv : RNGN P W (ev t f) ps.toList.length (fun x fin => PRM P (an b).pt (an b).ks x fun vs => vc P W n rs an true assign b (KAsg (vc P W n rs an true body b (KRnd fin))) (updL n ps.toList vs (setD n (.tuple #[]) t)))
      (AFT (K .normal t) (match (an b).rt with | true => K .ret t | false => FF) (EXL (an b).ex fun id => K (.exit id) t)) s) :
    wpB none P (Code.rangeFunc f ps assign body) (PQ W n rs k0 X h K) a (wat W h d) := by
  obtain ⟨N, Y, R, m, I, S, ⟨⟨fi, fa, fb, hg⟩, hiter⟩, hblind, hYb, hIR, hIext, hSext, hI0, hbody, hA0, hA1⟩ := hv
  refine wpB_range (fun fn hfn => ?_)
  let rec0 : Loop := { state := .ready, pending := none, fn := fn, tmps := a.tmps, params := ps, assign := assign, body := body, defers := h.size }
  let Lk := h.size + 1
  let h1 : Hp := (h.push (.deferred (some []))).push (.loop rec0)
  let s1 : Hp := (s.push junk).push (.loop rec0)
  let X1 : Nat → Prop := fun b => X b ∨ b = h.size
  have hLk : h1[Lk]? = some (.loop rec0) := by
    show ((h.push (.deferred (some []))).push (.loop rec0))[h.size + 1]? = _
    rw [Array.getElem?_push, if_pos (by simp)]
  have hDk : h1[h.size]? = some (.deferred (some [])) := by
    show ((h.push (.deferred (some []))).push (.loop rec0))[h.size]? = _
    rw [Array.getElem?_push, if_neg (by simp), Array.getElem?_push, if_pos rfl]
  have v1 : Vis X1 h1 s1 := by
    have va : Vis X (h.push (.deferred (some []))) (s.push (.deferred (some []))) := v.push _
    have vb := va.mask (b := h.size) (o := .deferred (some [])) (by rw [Array.getElem?_push, if_pos rfl]) rfl
    have e : (s.push (.deferred (some []))).setIfInBounds h.size junk = s.push junk := by
      apply Array.ext_getElem?
      intro c
      by_cases e : c = h.size
      · subst e
        rw [set_eq (by simp [v.size]), Array.getElem?_push, if_pos v.size.symm]
      · rw [set_ne e, Array.getElem?_push, Array.getElem?_push]
        have : ¬ c = s.size := by rw [v.size]; exact e
        rw [if_neg this, if_neg this]
    rw [e] at vb
    exact vb.push _
  have hsLk : s1[Lk]? = some (.loop rec0) := by
    show ((s.push junk).push (.loop rec0))[h.size + 1]? = _
    rw [Array.getElem?_push, if_pos (by simp [v.size])]
  have hs1m : s1.setIfInBounds Lk junk = (s.push junk).push junk := by
    apply Array.ext_getElem?
    intro c
    by_cases e : c = Lk
    · subst e
      rw [set_eq (Array.getElem?_eq_some_iff.1 hsLk).1]
      show _ = ((s.push junk).push junk)[h.size + 1]?
      rw [Array.getElem?_push, if_pos (by simp [v.size])]
    · rw [set_ne e]
      show ((s.push junk).push (.loop rec0))[c]? = ((s.push junk).push junk)[c]?
      have hne : ¬ c = (s.push junk).size := by simp [v.size]; exact e
      have e1 : ∀ o : Obj, ((s.push junk).push o)[c]? = (s.push junk)[c]? := fun o => by rw [Array.getElem?_push, if_neg hne]
      rw [e1, e1]
  -- what holds while the function that is ranged over goes on
  let I' : Nat → Hp → Prop := fun k s => s[Lk]? = some (.loop rec0) ∧ I k (s.setIfInBounds Lk junk)
  let J' : Hp → Prop := fun s => ∃ c, s[Lk]? = some (.loop { rec0 with state := .done, pending := some c }) ∧ S c (s.setIfInBounds Lk junk)
  have hIR' : ∀ k s, I' k s → R s := fun k s ⟨h1, h2⟩ => hblind s Lk _ h1 rfl (hIR k _ h2)
  have hs1 : s1.size = s.size + 2 := by show ((s.push _).push _).size = _; simp
  have hLs : Lk = s.size + 1 := by show h.size + 1 = _; rw [v.size]
  have hmask : ∀ (q : Nat → Prop) (t1 t2 : Hp), Lk < t1.size → t1.size ≤ t2.size → (∀ b, b < t1.size → ¬ q b → t2[b]? = t1[b]?) → ∀ b, b < (t1.setIfInBounds Lk junk).size → ¬ q b → (t2.setIfInBounds Lk junk)[b]? = (t1.setIfInBounds Lk junk)[b]? := by
    intro q t1 t2 hlt e1 e2 c hc hq
    by_cases e : c = Lk
    · subst e; rw [set_eq hlt, set_eq (Nat.lt_of_lt_of_le hlt e1)]
    · rw [set_ne e, set_ne e]; exact e2 c (by simpa using hc) hq
  have hIext' : ∀ k t1 t2, I' k t1 → t1.size ≤ t2.size → (∀ b, b < t1.size → ¬ (m = true ∧ s1.size ≤ b) → t2[b]? = t1[b]?) → I' k t2 := by
    rintro k t1 t2 ⟨h1, h2⟩ e1 e2
    rw [hs1] at e2
    have hlt : Lk < t1.size := (Array.getElem?_eq_some_iff.1 h1).1
    refine ⟨(e2 _ hlt (fun hh => by omega)).trans h1, hIext k _ _ h2 (by simpa using e1) (hmask _ _ _ hlt e1 e2)⟩
  have hJext' : m = true → ∀ t1 t2, J' t1 → t1.size ≤ t2.size → (∀ b, b < t1.size → ¬ s1.size ≤ b → t2[b]? = t1[b]?) → J' t2 := by
    rintro hm t1 t2 ⟨c, h1, h2⟩ e1 e2
    rw [hs1] at e2
    have hlt : Lk < t1.size := (Array.getElem?_eq_some_iff.1 h1).1
    exact ⟨c, (e2 _ hlt (by omega)).trans h1, hSext hm c _ _ h2 (by simpa using e1) (hmask _ _ _ hlt e1 e2)⟩
  have hyield : ∀ k x t1, k < N → I' k t1 → Y k x t1 → DoesV P W (.func (.yield Lk) #[] #[]) x.toArray t1 fun e t2 => FRM m (∀ b, s1.size ≤ b → b < t1.size → t2[b]? = t1[b]?) ((e = .returned (.bool true) ∧ I' (k + 1) t2) ∨ (e = .returned (.bool false) ∧ J' t2)) := by
    rintro k x s' hk ⟨hl, hI⟩ hY
    obtain ⟨hlen, hround⟩ := hbody k x _ hk hI (hYb _ _ _ _ _ hl rfl hY)
    refine ⟨rfl, rfl, fun X' h' d' v' => ?_⟩
    have hnX : ¬ X' Lk := fun hx' => by rw [v'.junk _ hx'] at hl; cases hl
    have hl' : h'[Lk]? = some (.loop rec0) := (v'.same _ hnX).symm.trans hl
    have hlt : Lk < h'.size := (Array.getElem?_eq_some_iff.1 hl').1
    refine ⟨_, _, _, _, run_yield hl' (by show x.toArray.size = ps.size; simpa using hlen), ?_⟩
    refine round_of_wpB hfn.choose_spec ?_
    have hvc := PRM_elim hround
    have v2 := v'.mask hl' rfl
    obtain ⟨f1, f2⟩ := fold_upd (n := n) ps.toList x a.tmps (setD n (.tuple #[]) t) rl.size (fun i hi => by
      rw [rl.tmp i hi]
      unfold setD
      cases hb : Nat.beq i n with
      | true => exact absurd (beq_iff.1 hb) hi
      | false => rfl)
    have hfold : (Array.zip ps x.toArray).foldl (fun tmps (x : Tmp × Value) => tmps.setIfInBounds x.1 x.2) a.tmps = (ps.toList.zip x).foldl (fun tmps (x : Nat × Value) => tmps.setIfInBounds x.1 x.2) a.tmps := by
      rw [← Array.foldl_toList, Array.toList_zip]
    have rl2 : Rel n (fun _ => True) (fun c => X' c ∨ c = Lk) h' { tmps := (Array.zip ps x.toArray).foldl (fun tmps (x : Tmp × Value) => tmps.setIfInBounds x.1 x.2) a.tmps, defers := [] } (updL n ps.toList x (setD n (.tuple #[]) t)) := by
      refine ⟨?_, fun i hi => ?_, ?_⟩
      · show Array.size (Array.foldl _ _ _) = n
        rw [hfold]; exact f1
      · show Array.getD (Array.foldl _ _ _) i undef = _
        rw [hfold]; exact f2 i hi
      · show Dcd _ _ _ [] _
        rw [updL_n]
        unfold setD
        have : Nat.beq n n = true := by simp
        rw [this]
        rfl
    refine wpB_mono (ha (some Lk) b _ (fun _ => True) _ _ _ _ h' d' (fun h => (by cases h)) (fun _ _ _ => trivial) v2 rl2 hvc) ?_
    intro e a3 w3 q
    cases e with
    | exit id => obtain ⟨_, _, _, _, _, _, _, _, _, hh⟩ := q; exact hh
    | ret => obtain ⟨_, _, _, _, _, _, _, _, _, hh⟩ := q; exact hh
    | panic c => obtain ⟨_, _, _, _, _, _, _, _, _, hh⟩ := q; exact hh
    | goto l => exact q
    | outgrown => exact q
    | normal =>
      obtain ⟨X3, h3, d3, s3, t3, rfl, v3, e3, rl3, hvc3⟩ := q
      have hX3 : X3 Lk := e3.sub _ (.inr rfl)
      have hl3 : h3[Lk]? = some (.loop rec0) := (e3.keep _ (.inr rfl)).trans hl'
      refine ⟨_, run_begin hl3 rfl, ?_⟩
      have v3' := v3.swap (o := .loop { rec0 with state := .busy }) hX3 rfl
      have hlt3 : Lk < h3.size := (Array.getElem?_eq_some_iff.1 hl3).1
      have hl3' : (h3.setIfInBounds Lk (.loop { rec0 with state := .busy }))[Lk]? = some (.loop { rec0 with state := .busy }) := set_eq hlt3
      have rl3' : Rel n (fun _ => True) X3 (h3.setIfInBounds Lk (.loop { rec0 with state := .busy })) a3 t3 := ⟨rl3.size, rl3.tmp, rl3.dfr.swap hl3⟩
      refine wpB_mono (hb (some Lk) b _ (fun _ => True) t3 s3 a3 X3 _ d3 (fun h => (by cases h)) (fun _ _ _ => trivial) v3' rl3' hvc3) ?_
      have hkp : ∀ (X4 : Nat → Prop) (h4 : Hp), Ev X3 (h3.setIfInBounds Lk (.loop { rec0 with state := .busy })) X4 h4 → h4[Lk]? = some (.loop { rec0 with state := .busy }) := fun X4 h4 e4 => (e4.keep _ hX3).trans hl3'
      -- the round's end
      have hend : ∀ (X4 : Nat → Prop) (h4 s4 : Hp) (d4 : Nat) (jump : Option Code) (R' : Hp → Prop), Vis X4 h4 s4 → Ev X3 (h3.setIfInBounds Lk (.loop { rec0 with state := .busy })) X4 h4 →
          (∀ s5, s5[Lk]? = some (.loop { rec0 with state := if jump.isNone then .ready else .done, pending := jump }) → s5.setIfInBounds Lk junk = s4 → R' s5) →
          ∃ w', (Instr.endRound Lk jump).run P (wat W h4 d4) = .ok (.bool jump.isNone) w' ∧ Now W X' h' R' w' := by
        intro X4 h4 s4 d4 jump R' v4 e4 hR
        have hl4 := hkp X4 h4 e4
        have hlt4 : Lk < h4.size := (Array.getElem?_eq_some_iff.1 hl4).1
        have hX4 : X4 Lk := e4.sub _ hX3
        refine ⟨_, run_end hl4 jump, _, _, d4, _, rfl, v4.show hX4, ?_, hR _ (set_eq (by rw [v4.size]; exact hlt4)) ?_⟩
        · refine ⟨?_, fun c hc => ?_, fun c hc => ?_, fun c hc => ?_⟩
          · have h1 := e3.size
            have h2 := e4.size
            simp only [Array.size_setIfInBounds] at h2 ⊢
            omega
          · exact ⟨e4.sub c (e3.sub c (.inl hc)), fun e => hnX (e ▸ hc)⟩
          · rcases e4.new c hc.1 with h5 | h5
            · rcases e3.new c h5 with h6 | h6
              · rcases h6 with h6 | h6
                · exact .inl h6
                · exact absurd h6 hc.2
              · exact .inr h6
            · right
              have := e3.size
              simp only [Array.size_setIfInBounds] at h5
              omega
          · have hcL : c ≠ Lk := fun e => hnX (e ▸ hc)
            rw [set_ne hcL, e4.keep c (e3.sub c (.inl hc)), set_ne hcL]
            exact e3.keep c (.inl hc)
        · rw [set_set]; exact set_id (v4.junk _ hX4)
      have hfrm : ∀ s4 s5 : Hp, s5.setIfInBounds Lk junk = s4 → (m = true → ∀ b, s.size + 2 ≤ b → b < (s'.setIfInBounds Lk junk).size → s4[b]? = (s'.setIfInBounds Lk junk)[b]?) → (m = true → ∀ b, s1.size ≤ b → b < s'.size → s5[b]? = s'[b]?) := by
        intro s4 s5 g2 hh hm c hc hlt
        have hne : c ≠ Lk := by omega
        have := hh hm c (by omega) (by simpa using hlt)
        rw [← g2, set_ne hne, set_ne hne] at this
        exact this
      intro e a4 w4 q4
      cases e with
      | goto l => exact (show False from q4).elim
      | outgrown => exact q4
      | panic c => obtain ⟨_, _, _, _, _, _, _, _, _, hh⟩ := q4; exact (show False from hh).elim
      | normal =>
        obtain ⟨X4, h4, d4, s4, t4, rfl, v4, e4, rl4, hk4⟩ := q4
        obtain ⟨w5, hr5, hn5⟩ := hend X4 h4 s4 d4 none (fun s5 => (m = true → ∀ b, s1.size ≤ b → b < s'.size → s5[b]? = s'[b]?) ∧ I' (k + 1) s5) v4 e4 (fun s5 g1 g2 => ⟨hfrm s4 s5 g2 (FRM_frame hk4), g1, by rw [g2]; exact FRM_val hk4⟩)
        exact ⟨_, w5, hr5, hn5.mono fun s5 g => FRM_intro g.1 (.inl ⟨rfl, g.2⟩)⟩
      | ret =>
        obtain ⟨X4, h4, d4, s4, t4, rfl, v4, e4, rl4, hk4⟩ := q4
        obtain ⟨w5, hr5, hn5⟩ := hend X4 h4 s4 d4 (some .ret) (fun s5 => (m = true → ∀ b, s1.size ≤ b → b < s'.size → s5[b]? = s'[b]?) ∧ J' s5) v4 e4 (fun s5 g1 g2 => ⟨hfrm s4 s5 g2 (FRM_frame hk4), _, g1, by rw [g2]; exact FRM_val hk4⟩)
        exact ⟨_, w5, hr5, hn5.mono fun s5 g => FRM_intro g.1 (.inr ⟨rfl, g.2⟩)⟩
      | exit id =>
        obtain ⟨X4, h4, d4, s4, t4, rfl, v4, e4, rl4, hk4⟩ := q4
        obtain ⟨w5, hr5, hn5⟩ := hend X4 h4 s4 d4 (some (.exit id)) (fun s5 => (m = true → ∀ b, s1.size ≤ b → b < s'.size → s5[b]? = s'[b]?) ∧ J' s5) v4 e4 (fun s5 g1 g2 => ⟨hfrm s4 s5 g2 (FRM_frame hk4), _, g1, by rw [g2]; exact FRM_val hk4⟩)
        exact ⟨_, w5, hr5, hn5.mono fun s5 g => FRM_intro g.1 (.inr ⟨rfl, g.2⟩)⟩
  have hall := hiter (.func (.yield Lk) #[] #[]) I' J' s1 rfl hIR' hIext' hJext' hyield ⟨hsLk, by rw [hs1m]; exact hI0⟩
  rw [hg] at hall
  have hcall : Does P W fi (fa ++ #[.func (.yield Lk) #[] #[]] ++ fb) s1 _ := hall
  refine ⟨Lk, [{ target := .collected h.size, args := #[] }], wat W h1 d, { target := .fn (.func fi) fb, args := fa ++ #[.func (.yield Lk) #[] #[]] }, wat W h1 d, fi, fa ++ #[.func (.yield Lk) #[] #[]] ++ fb, wat W h1 d, run_enter, ?_, run_invoke hcall.1, ?_⟩
  · have he : a.eval f = .func (.func fi) fa fb := (eval_oper rl hf).trans hg
    have hm : Array.map a.eval #[Operand.const (Value.func (Fn.yield Lk) #[] #[])] = #[Value.func (Fn.yield Lk) #[] #[]] := by simp [Act.eval]
    simp only [resolve, rangeCall, he, Deferred.ofValue, Sem.run_pure, hm]
  · refine calls_in ((hcall.2 X1 h1 d v1).mono ?_)
    rintro e w' ⟨X2, h2, d2, s2, rfl, v2, e2, ⟨val, rfl⟩, hres⟩
    have hDX : X2 h.size := e2.sub _ (.inr rfl)
    have hD2 : h2[h.size]? = some (.deferred (some [])) := (e2.keep _ (.inr rfl)).trans hDk
    have hsz1 : h1.size = h.size + 2 := by show ((h.push _).push _).size = _; simp
    -- the loop is over
    have hlast : ∀ (r' : Loop), s2[Lk]? = some (.loop r') → (r'.state == .busy) = false → (match r'.pending with
        | none => K .normal t (s2.setIfInBounds Lk junk)
        | some c => AFT (K .normal t) (match (an b).rt with | true => K .ret t | false => FF) (EXL (an b).ex fun id => K (.exit id) t) (some c) (s2.setIfInBounds Lk junk)) →
        rangePost (wideR none) 0 P Lk (PQ W n rs k0 X h K) { a with defers := [{ target := .collected h.size, args := #[] }] ++ a.defers } (.returned val) (wat W h2 d2) := by
      intro r' hl2 hst hafter
      have hnX2 : ¬ X2 Lk := fun hx' => by rw [v2.junk _ hx'] at hl2; cases hl2
      have hl2' : h2[Lk]? = some (.loop r') := (v2.same _ hnX2).symm.trans hl2
      have hlt2 : Lk < h2.size := (Array.getElem?_eq_some_iff.1 hl2').1
      refine ⟨r'.pending, _, run_endLoop hl2' hst, ?_⟩
      have v4 : Vis (fun c => X2 c ∨ c = Lk) (h2.setIfInBounds Lk (.loop { r' with state := .exhausted })) (s2.setIfInBounds Lk junk) := (v2.mask hl2' rfl).swap (.inr rfl) rfl
      have e4 : Ev X h (fun c => X2 c ∨ c = Lk) (h2.setIfInBounds Lk (.loop { r' with state := .exhausted })) := by
        refine ⟨?_, fun c hc => ?_, fun c hc => ?_, fun c hc => ?_⟩
        · have := e2.size
          simp only [Array.size_setIfInBounds]
          omega
        · exact .inl (e2.sub c (.inl hc))
        · rcases hc with hc | rfl
          · rcases e2.new c hc with h5 | h5
            · rcases h5 with h5 | rfl
              · exact .inl h5
              · exact .inr (Nat.le_refl _)
            · exact .inr (by omega)
          · exact .inr (by show h.size ≤ h.size + 1; omega)
        · have hlt := v.lt hc
          rw [set_ne (by show c ≠ h.size + 1; omega), e2.keep c (.inl hc)]
          show ((h.push _).push _)[c]? = _
          rw [Array.getElem?_push, if_neg (by simp; omega), Array.getElem?_push, if_neg (by omega)]
      have rl4 : Rel n k0 (fun c => X2 c ∨ c = Lk) (h2.setIfInBounds Lk (.loop { r' with state := .exhausted })) { a with defers := [{ target := .collected h.size, args := #[] }] ++ a.defers } t := by
        refine ⟨rl.size, rl.tmp, .inl ⟨h.size, rfl, hk _ (Nat.le_refl _), .inl hDX, ?_, ?_, rl.dfr.ev e4⟩⟩
        · rw [set_ne (by show h.size ≠ h.size + 1; omega)]; exact hD2
        · intro d' hd' htar
          have := v.lt (rl.dfr.marks d' hd' _ htar)
          omega
      generalize h2.setIfInBounds Lk (.loop { r' with state := .exhausted }) = H at v4 e4 rl4 ⊢
      cases hp : r'.pending with
      | none =>
        rw [hp] at hafter
        exact ⟨_, _, d2, _, t, rfl, v4, e4, rl4, hafter⟩
      | some c =>
        rw [hp] at hafter
        simp only [AFT] at hafter ⊢
        cases c <;> first | exact hafter.elim | skip
        case ret =>
          refine wpIn_ret ⟨_, _, d2, _, t, rfl, v4, e4, rl4, ?_⟩
          cases hrt : (an b).rt with
          | true => simp only [hrt] at hafter; exact hafter
          | false => simp only [hrt] at hafter; exact hafter.elim
        case exit id =>
          refine wpIn_exit ⟨_, _, d2, _, t, rfl, v4, e4, rl4, ?_⟩
          have hex : ∀ (l : List Nat) (s : Hp), EXL l (fun id => K (.exit id) t) id s → K (.exit id) t s := by
            intro l
            induction l with
            | nil => exact fun s h => h.elim
            | cons j l ih =>
              intro s h
              unfold EXL at h
              cases hb : Nat.beq id j with
              | true => simp only [hb] at h; rw [beq_iff.1 hb]; exact h
              | false => simp only [hb] at h; exact ih s h
          exact hex _ _ hafter
    rcases hres with ⟨g1, g2⟩ | ⟨c, g1, g2⟩
    · exact hlast rec0 g1 rfl (hA0 _ g2)
    · exact hlast _ g1 rfl (hA1 c _ g2)
theorem sound_rangeP {f : Operand} {ps : Array Tmp} {assign body : Code} (hf : operOk n f = true) (ha : Sound P W n rs an true assign) (hb : Sound P W n rs an true body) (hR : (hasR assign || hasR body || !(rs.any (Nat.beq n))) = false) (b : Nat) (K : Kt) (k0 : Nat → Prop) (t : Tm) (s : Hp) (a : Act) (X : Nat → Prop) (h : Hp) (d : Nat)
    (hk : ∀ r, h.size ≤ r → k0 r) (v : Vis X h s) (rl : Rel n k0 X h a t)
    (hv : RNGP P W (ev t f) ps.toList.length (fun x fin pe => PRM P (an b).pt (an b).ks x fun vs => vc P W n rs an true assign b (KAsg (vc P W n rs an true body b (KRndP n fin pe))) (updL n ps.toList vs (setD n (.tuple #[]) t)))
      (AFT (K .normal t) (match (an b).rt with | true => K .ret t | false => FF) (EXL (an b).ex fun id => K (.exit id) t)) (fun c => K (.panic c) (prj rs t)) s) :
    wpB none P (Code.rangeFunc f ps assign body) (PQ W n rs k0 X h K) a (wat W h d) := by
  obtain ⟨N, Y, R, R0, q, Fi, Z, I, S, T, ⟨⟨fi, fa, fb, hg⟩, hiter⟩, hblind, hblind0, hYb, hIR, hR00, hq, hI0, hIext, hSext, hText, hbody, hA0, hA1, hA2, hA3⟩ := hv
  have hRa : hasR assign = false := by cases hx : hasR assign with | true => rw [hx] at hR; cases hR | false => rfl
  have hRb : hasR body = false := by cases hx : hasR body with | true => rw [hRa, hx] at hR; cases hR | false => rfl
  have hRn : n ∈ rs := by
    rw [hRa, hRb] at hR
    cases hx : rs.any (Nat.beq n) with
    | false => rw [hx] at hR; cases hR
    | true =>
      obtain ⟨y, h1, h2⟩ := List.any_eq_true.1 hx
      rw [beq_iff.1 h2]; exact h1
  refine wpB_range (fun fn hfn => ?_)
  let rec0 : Loop := { state := .ready, pending := none, fn := fn, tmps := a.tmps, params := ps, assign := assign, body := body, defers := h.size }
  let Lk := h.size + 1
  let h1 : Hp := (h.push (.deferred (some []))).push (.loop rec0)
  let s1 : Hp := (s.push junk).push (.loop rec0)
  let X1 : Nat → Prop := fun b => X b ∨ b = h.size
  have hLk : h1[Lk]? = some (.loop rec0) := by
    show ((h.push (.deferred (some []))).push (.loop rec0))[h.size + 1]? = _
    rw [Array.getElem?_push, if_pos (by simp)]
  have hDk : h1[h.size]? = some (.deferred (some [])) := by
    show ((h.push (.deferred (some []))).push (.loop rec0))[h.size]? = _
    rw [Array.getElem?_push, if_neg (by simp), Array.getElem?_push, if_pos rfl]
  have v1 : Vis X1 h1 s1 := by
    have va : Vis X (h.push (.deferred (some []))) (s.push (.deferred (some []))) := v.push _
    have vb := va.mask (b := h.size) (o := .deferred (some [])) (by rw [Array.getElem?_push, if_pos rfl]) rfl
    have e : (s.push (.deferred (some []))).setIfInBounds h.size junk = s.push junk := by
      apply Array.ext_getElem?
      intro c
      by_cases e : c = h.size
      · subst e
        rw [set_eq (by simp [v.size]), Array.getElem?_push, if_pos v.size.symm]
      · rw [set_ne e, Array.getElem?_push, Array.getElem?_push]
        have : ¬ c = s.size := by rw [v.size]; exact e
        rw [if_neg this, if_neg this]
    rw [e] at vb
    exact vb.push _
  have hsLk : s1[Lk]? = some (.loop rec0) := by
    show ((s.push junk).push (.loop rec0))[h.size + 1]? = _
    rw [Array.getElem?_push, if_pos (by simp [v.size])]
  have hs1m : s1.setIfInBounds Lk junk = (s.push junk).push junk := by
    apply Array.ext_getElem?
    intro c
    by_cases e : c = Lk
    · subst e
      rw [set_eq (Array.getElem?_eq_some_iff.1 hsLk).1]
      show _ = ((s.push junk).push junk)[h.size + 1]?
      rw [Array.getElem?_push, if_pos (by simp [v.size])]
    · rw [set_ne e]
      show ((s.push junk).push (.loop rec0))[c]? = ((s.push junk).push junk)[c]?
      have hne : ¬ c = (s.push junk).size := by simp [v.size]; exact e
      have e1 : ∀ o : Obj, ((s.push junk).push o)[c]? = (s.push junk)[c]? := fun o => by rw [Array.getElem?_push, if_neg hne]
      rw [e1, e1]
  -- what holds while the function that is ranged over goes on
  let I' : Nat → Nat → Hp → Prop := fun z k s => s[Lk]? = some (.loop rec0) ∧ I z k (s.setIfInBounds Lk junk)
  let J' : Nat → Hp → Prop := fun z s => ∃ c, s[Lk]? = some (.loop { rec0 with state := .done, pending := some c }) ∧ S z c (s.setIfInBounds Lk junk)
  let E' : Nat → List PanicEntry → Hp → Prop := fun z c s => s[Lk]? = some (.loop { rec0 with state := .busy }) ∧ T z c (s.setIfInBounds Lk junk)
  have hIR' : ∀ z k s, I' z k s → R s := fun z k s ⟨h1, h2⟩ => hblind s Lk _ h1 rfl (hIR z k _ h2)
  have hs1 : s1.size = s.size + 2 := by show ((s.push _).push _).size = _; simp
  have hLs : Lk = s.size + 1 := by show h.size + 1 = _; rw [v.size]
  have hqL : ∀ z, ¬ OwnB q s1.size z Lk := fun z hh => by
    rcases hh with hh | hh
    · exact hq (by rw [← hLs]; exact hh)
    · omega
  have hmask : ∀ (O : Nat → Prop) (t1 t2 : Hp), Lk < t1.size → Same O t1 t2 → Same O (t1.setIfInBounds Lk junk) (t2.setIfInBounds Lk junk) := by
    intro O t1 t2 hlt e1
    refine ⟨by simpa using e1.1, fun c hc hO => ?_⟩
    by_cases e : c = Lk
    · subst e; rw [set_eq hlt, set_eq (Nat.lt_of_lt_of_le hlt e1.1)]
    · rw [set_ne e, set_ne e]; exact e1.2 c (by simpa using hc) hO
  have hgo : ∀ z (t1 t2 : Hp) (o : Obj), t1[Lk]? = some o → Same (OwnB q s1.size z) t1 t2 → t2[Lk]? = some o ∧ Same (OwnB q (s.size + 2) z) (t1.setIfInBounds Lk junk) (t2.setIfInBounds Lk junk) := by
    intro z t1 t2 o h1 e1
    have hlt : Lk < t1.size := (Array.getElem?_eq_some_iff.1 h1).1
    exact ⟨(e1.2 _ hlt (hqL z)).trans h1, by rw [← hs1]; exact hmask _ _ _ hlt e1⟩
  have hI0' : ∀ s0, Same q s1 s0 → I' s0.size 0 s0 := by
    intro s0 e1
    have hlt : Lk < s1.size := (Array.getElem?_eq_some_iff.1 hsLk).1
    refine ⟨(e1.2 _ hlt (fun hh => hqL 0 (.inl hh))).trans hsLk, ?_⟩
    have := hI0 (s0.setIfInBounds Lk junk) (by rw [← hs1m]; exact hmask _ _ _ hlt e1)
    simpa using this
  have hIext' : ∀ z k t1 t2, s1.size ≤ z → z ≤ t1.size → I' z k t1 → Same (OwnB q s1.size z) t1 t2 → I' z k t2 := by
    rintro z k t1 t2 hz hz1 ⟨h1, h2⟩ e1
    obtain ⟨g1, g2⟩ := hgo z t1 t2 _ h1 e1
    exact ⟨g1, hIext z k _ _ (by omega) (by simpa using hz1) h2 g2⟩
  have hJext' : ∀ z t1 t2, s1.size ≤ z → z ≤ t1.size → J' z t1 → Same (OwnB q s1.size z) t1 t2 → J' z t2 := by
    rintro z t1 t2 hz hz1 ⟨c, h1, h2⟩ e1
    obtain ⟨g1, g2⟩ := hgo z t1 t2 _ h1 e1
    exact ⟨c, g1, hSext z c _ _ (by omega) (by simpa using hz1) h2 g2⟩
  have hEext' : ∀ z c t1 t2, s1.size ≤ z → z ≤ t1.size → E' z c t1 → Same (OwnB q s1.size z) t1 t2 → E' z c t2 := by
    rintro z c t1 t2 hz hz1 ⟨h1, h2⟩ e1
    obtain ⟨g1, g2⟩ := hgo z t1 t2 _ h1 e1
    exact ⟨g1, hText z c _ _ (by omega) (by simpa using hz1) h2 g2⟩
  have hyield : ∀ z k x t0 t1, s1.size ≤ z → z ≤ t0.size → k < N → I' z k t0 → Same (OwnB q s1.size z) t0 t1 → Y z k x t0 t1 → DoesV P W (.func (.yield Lk) #[] #[]) x.toArray t1 fun e t2 => t1.size ≤ t2.size ∧ (∀ b, OwnB q s1.size z b → b < t1.size → t2[b]? = t1[b]?) ∧ ((e = .returned (.bool true) ∧ I' z (k + 1) t2) ∨ (e = .returned (.bool false) ∧ J' z t2) ∨ ∃ c, e = .panicked c ∧ E' z c t2) := by
    rintro z k x s0' s' hz hz1 hk ⟨hl0, hI⟩ hsame hY
    obtain ⟨hl, hsame'⟩ := hgo z s0' s' _ hl0 hsame
    obtain ⟨hlen, hround⟩ := hbody z k x _ _ (by omega) (by simpa using hz1) hk hI hsame' (hYb _ _ _ _ _ _ _ hl0 hl rfl hY)
    refine ⟨rfl, rfl, fun X' h' d' v' => ?_⟩
    have hnX : ¬ X' Lk := fun hx' => by rw [v'.junk _ hx'] at hl; cases hl
    have hl' : h'[Lk]? = some (.loop rec0) := (v'.same _ hnX).symm.trans hl
    have hlt : Lk < h'.size := (Array.getElem?_eq_some_iff.1 hl').1
    refine ⟨_, _, _, _, run_yield hl' (by show x.toArray.size = ps.size; simpa using hlen), ?_⟩
    refine round_of_wpB hfn.choose_spec ?_
    have hvc := PRM_elim hround
    have v2 := v'.mask hl' rfl
    obtain ⟨f1, f2⟩ := fold_upd (n := n) ps.toList x a.tmps (setD n (.tuple #[]) t) rl.size (fun i hi => by
      rw [rl.tmp i hi]
      unfold setD
      cases hb : Nat.beq i n with
      | true => exact absurd (beq_iff.1 hb) hi
      | false => rfl)
    have hfold : (Array.zip ps x.toArray).foldl (fun tmps (x : Tmp × Value) => tmps.setIfInBounds x.1 x.2) a.tmps = (ps.toList.zip x).foldl (fun tmps (x : Nat × Value) => tmps.setIfInBounds x.1 x.2) a.tmps := by
      rw [← Array.foldl_toList, Array.toList_zip]
    have rl2 : Rel n (fun _ => False) (fun c => X' c ∨ c = Lk) h' { tmps := (Array.zip ps x.toArray).foldl (fun tmps (x : Tmp × Value) => tmps.setIfInBounds x.1 x.2) a.tmps, defers := [] } (updL n ps.toList x (setD n (.tuple #[]) t)) := by
      refine ⟨?_, fun i hi => ?_, ?_⟩
      · show Array.size (Array.foldl _ _ _) = n
        rw [hfold]; exact f1
      · show Array.getD (Array.foldl _ _ _) i undef = _
        rw [hfold]; exact f2 i hi
      · show Dcd _ _ _ [] _
        rw [updL_n]
        unfold setD
        have : Nat.beq n n = true := by simp
        rw [this]
        rfl
    refine wpB_mono (ha (some Lk) b _ (fun _ => False) _ _ _ _ h' d' (fun h => (by cases h)) (fun h => by rw [hRa] at h; cases h) v2 rl2 hvc) ?_
    intro e a3 w3 q
    cases e with
    | exit id => obtain ⟨_, _, _, _, _, _, _, _, _, hh⟩ := q; exact hh
    | ret => obtain ⟨_, _, _, _, _, _, _, _, _, hh⟩ := q; exact hh
    | panic c => obtain ⟨_, _, _, _, _, _, _, _, _, hh⟩ := q; exact hh
    | goto l => exact q
    | outgrown => exact q
    | normal =>
      obtain ⟨X3, h3, d3, s3, t3, rfl, v3, e3, rl3, hvc3⟩ := q
      have hX3 : X3 Lk := e3.sub _ (.inr rfl)
      have hl3 : h3[Lk]? = some (.loop rec0) := (e3.keep _ (.inr rfl)).trans hl'
      refine ⟨_, run_begin hl3 rfl, ?_⟩
      have v3' := v3.swap (o := .loop { rec0 with state := .busy }) hX3 rfl
      have hlt3 : Lk < h3.size := (Array.getElem?_eq_some_iff.1 hl3).1
      have hl3' : (h3.setIfInBounds Lk (.loop { rec0 with state := .busy }))[Lk]? = some (.loop { rec0 with state := .busy }) := set_eq hlt3
      have rl3' : Rel n (fun _ => False) X3 (h3.setIfInBounds Lk (.loop { rec0 with state := .busy })) a3 t3 := ⟨rl3.size, rl3.tmp, rl3.dfr.swap hl3⟩
      refine wpB_mono (hb (some Lk) b _ (fun _ => False) t3 s3 a3 X3 _ d3 (fun h => (by cases h)) (fun h => by rw [hRb] at h; cases h) v3' rl3' hvc3) ?_
      have hkp : ∀ (X4 : Nat → Prop) (h4 : Hp), Ev X3 (h3.setIfInBounds Lk (.loop { rec0 with state := .busy })) X4 h4 → h4[Lk]? = some (.loop { rec0 with state := .busy }) := fun X4 h4 e4 => (e4.keep _ hX3).trans hl3'
      -- the round's end
      have hend : ∀ (X4 : Nat → Prop) (h4 s4 : Hp) (d4 : Nat) (jump : Option Code) (R' : Hp → Prop), Vis X4 h4 s4 → Ev X3 (h3.setIfInBounds Lk (.loop { rec0 with state := .busy })) X4 h4 →
          (∀ s5, s5[Lk]? = some (.loop { rec0 with state := if jump.isNone then .ready else .done, pending := jump }) → s5.setIfInBounds Lk junk = s4 → R' s5) →
          ∃ w', (Instr.endRound Lk jump).run P (wat W h4 d4) = .ok (.bool jump.isNone) w' ∧ Now W X' h' R' w' := by
        intro X4 h4 s4 d4 jump R' v4 e4 hR
        have hl4 := hkp X4 h4 e4
        have hlt4 : Lk < h4.size := (Array.getElem?_eq_some_iff.1 hl4).1
        have hX4 : X4 Lk := e4.sub _ hX3
        refine ⟨_, run_end hl4 jump, _, _, d4, _, rfl, v4.show hX4, ?_, hR _ (set_eq (by rw [v4.size]; exact hlt4)) ?_⟩
        · refine ⟨?_, fun c hc => ?_, fun c hc => ?_, fun c hc => ?_⟩
          · have h1 := e3.size
            have h2 := e4.size
            simp only [Array.size_setIfInBounds] at h2 ⊢
            omega
          · exact ⟨e4.sub c (e3.sub c (.inl hc)), fun e => hnX (e ▸ hc)⟩
          · rcases e4.new c hc.1 with h5 | h5
            · rcases e3.new c h5 with h6 | h6
              · rcases h6 with h6 | h6
                · exact .inl h6
                · exact absurd h6 hc.2
              · exact .inr h6
            · right
              have := e3.size
              simp only [Array.size_setIfInBounds] at h5
              omega
          · have hcL : c ≠ Lk := fun e => hnX (e ▸ hc)
            rw [set_ne hcL, e4.keep c (e3.sub c (.inl hc)), set_ne hcL]
            exact e3.keep c (.inl hc)
        · rw [set_set]; exact set_id (v4.junk _ hX4)
      have hfrm : ∀ s4 s5 : Hp, s5.setIfInBounds Lk junk = s4 → (∀ b, OwnB q (s.size + 2) z b → b < (s'.setIfInBounds Lk junk).size → s4[b]? = (s'.setIfInBounds Lk junk)[b]?) → (∀ b, OwnB q s1.size z b → b < s'.size → s5[b]? = s'[b]?) := by
        intro s4 s5 g2 hh c hc hlt
        have hne : c ≠ Lk := fun e => hqL z (e ▸ hc)
        have := hh c (by rw [← hs1]; exact hc) (by simpa using hlt)
        rw [← g2, set_ne hne, set_ne hne] at this
        exact this
      have hsz : ∀ (X4 : Nat → Prop) (h4 : Hp), Ev X3 (h3.setIfInBounds Lk (.loop { rec0 with state := .busy })) X4 h4 → h'.size ≤ h4.size := by
        intro X4 h4 e4
        have h5 := e3.size
        have h6 := e4.size
        simp only [Array.size_setIfInBounds] at h6
        omega
      have hszz : ∀ (X4 : Nat → Prop) (h4 s4 s5 : Hp), Vis X4 h4 s4 → Ev X3 (h3.setIfInBounds Lk (.loop { rec0 with state := .busy })) X4 h4 → s5.setIfInBounds Lk junk = s4 → s'.size ≤ s5.size := by
        intro X4 h4 s4 s5 v4 e4 g
        have h5 := hsz X4 h4 e4
        have h6 := v'.size
        have h7 := v4.size
        rw [← g] at h7
        simp only [Array.size_setIfInBounds] at h7
        omega
      intro e a4 w4 q4
      cases e with
      | goto l => exact (show False from q4).elim
      | outgrown => exact q4
      | panic c =>
        obtain ⟨X4, h4, d4, s4, t4, rfl, v4, e4, rl4, hk4⟩ := q4
        simp only [KRndP] at hk4
        have hp0 : prj rs t4 n = undef → a4.defers = [] := by
          intro hu
          have hd := rl4.dfr
          have ht : t4 n = undef := by
            have key : ∀ (is : List Nat) (t0 : Tm), n ∈ is → known is (is.map t4) t0 n = t4 n := by
              intro is
              induction is with
              | nil => intro t0 hm; simp at hm
              | cons j is ih =>
                intro t0 hm
                simp only [List.map_cons, known]
                cases hb : Nat.beq n j with
                | true => rw [beq_iff.1 hb]
                | false =>
                  simp only []
                  refine ih t0 ((List.mem_cons.1 hm).resolve_left (fun e => ?_))
                  rw [beq_iff.2 e] at hb; cases hb
            rw [← key rs (fun _ => undef) hRn]; exact hu
          rw [ht] at hd
          cases hds : a4.defers with
          | nil => rfl
          | cons d0 ds =>
            rw [hds] at hd
            rcases hd with ⟨r0, h1, h2, h3⟩ | ⟨f, cap, args, h1, h2, h3⟩
            · exact h2.elim
            · simp [undef] at h2
        have hl4 := hkp X4 h4 e4
        have hX4 : X4 Lk := e4.sub _ hX3
        have hlt4 : Lk < h4.size := (Array.getElem?_eq_some_iff.1 hl4).1
        cases hu : prj rs t4 n <;> simp only [hu] at hk4 <;> first | exact hk4.elim | skip
        rename_i ar
        obtain ⟨ar⟩ := ar
        cases ar with
        | cons x y => exact hk4.elim
        | nil =>
          refine ⟨hp0 hu, fun c => (X4 c ∧ c ≠ Lk), h4, d4, s4.setIfInBounds Lk (.loop { rec0 with state := .busy }), rfl, ?_, ?_, ?_⟩
          · have := v4.show (o := .loop { rec0 with state := .busy }) hX4
            rw [set_id hl4] at this
            exact this
          · refine ⟨hsz X4 h4 e4, fun c hc => ?_, fun c hc => ?_, fun c hc => ?_⟩
            · exact ⟨e4.sub c (e3.sub c (.inl hc)), fun e => hnX (e ▸ hc)⟩
            · rcases e4.new c hc.1 with h5 | h5
              · rcases e3.new c h5 with h6 | h6
                · rcases h6 with h6 | h6
                  · exact .inl h6
                  · exact absurd h6 hc.2
                · exact .inr h6
              · right
                have := e3.size
                simp only [Array.size_setIfInBounds] at h5
                omega
            · have hcL : c ≠ Lk := fun e => hnX (e ▸ hc)
              rw [e4.keep c (e3.sub c (.inl hc)), set_ne hcL]
              exact e3.keep c (.inl hc)
          · have e5 : (s4.setIfInBounds Lk (.loop { rec0 with state := .busy })).setIfInBounds Lk junk = s4 := by rw [set_set]; exact set_id (v4.junk _ hX4)
            refine ⟨?_, hfrm s4 _ e5 hk4.1, .inr (.inr ⟨c, rfl, ?_, ?_⟩)⟩
            · have h5 := hsz X4 h4 e4
              have h6 := v'.size
              have h7 := v4.size
              simp only [Array.size_setIfInBounds]
              omega
            · exact set_eq (by rw [v4.size]; exact hlt4)
            · rw [e5]; exact hk4.2
      | normal =>
        obtain ⟨X4, h4, d4, s4, t4, rfl, v4, e4, rl4, hk4⟩ := q4
        obtain ⟨w5, hr5, hn5⟩ := hend X4 h4 s4 d4 none (fun s5 => s'.size ≤ s5.size ∧ (∀ b, OwnB q s1.size z b → b < s'.size → s5[b]? = s'[b]?) ∧ I' z (k + 1) s5) v4 e4 (fun s5 g1 g2 => ⟨hszz X4 h4 s4 s5 v4 e4 g2, hfrm s4 s5 g2 hk4.1, g1, by rw [g2]; exact hk4.2⟩)
        exact ⟨_, w5, hr5, hn5.mono fun s5 g => ⟨g.1, g.2.1, .inl ⟨rfl, g.2.2⟩⟩⟩
      | ret =>
        obtain ⟨X4, h4, d4, s4, t4, rfl, v4, e4, rl4, hk4⟩ := q4
        obtain ⟨w5, hr5, hn5⟩ := hend X4 h4 s4 d4 (some .ret) (fun s5 => s'.size ≤ s5.size ∧ (∀ b, OwnB q s1.size z b → b < s'.size → s5[b]? = s'[b]?) ∧ J' z s5) v4 e4 (fun s5 g1 g2 => ⟨hszz X4 h4 s4 s5 v4 e4 g2, hfrm s4 s5 g2 hk4.1, _, g1, by rw [g2]; exact hk4.2⟩)
        exact ⟨_, w5, hr5, hn5.mono fun s5 g => ⟨g.1, g.2.1, .inr (.inl ⟨rfl, g.2.2⟩)⟩⟩
      | exit id =>
        obtain ⟨X4, h4, d4, s4, t4, rfl, v4, e4, rl4, hk4⟩ := q4
        obtain ⟨w5, hr5, hn5⟩ := hend X4 h4 s4 d4 (some (.exit id)) (fun s5 => s'.size ≤ s5.size ∧ (∀ b, OwnB q s1.size z b → b < s'.size → s5[b]? = s'[b]?) ∧ J' z s5) v4 e4 (fun s5 g1 g2 => ⟨hszz X4 h4 s4 s5 v4 e4 g2, hfrm s4 s5 g2 hk4.1, _, g1, by rw [g2]; exact hk4.2⟩)
        exact ⟨_, w5, hr5, hn5.mono fun s5 g => ⟨g.1, g.2.1, .inr (.inl ⟨rfl, g.2.2⟩)⟩⟩
  have hall := hiter (.func (.yield Lk) #[] #[]) I' J' E' s1 rfl (hblind0 s1 Lk _ hsLk rfl (by rw [hs1m]; exact hR00)) hIR' hI0' hIext' hJext' hEext' hyield
  rw [hg] at hall
  have hcall : Does P W fi (fa ++ #[.func (.yield Lk) #[] #[]] ++ fb) s1 _ := hall
  refine ⟨Lk, [{ target := .collected h.size, args := #[] }], wat W h1 d, { target := .fn (.func fi) fb, args := fa ++ #[.func (.yield Lk) #[] #[]] }, wat W h1 d, fi, fa ++ #[.func (.yield Lk) #[] #[]] ++ fb, wat W h1 d, run_enter, ?_, run_invoke hcall.1, ?_⟩
  · have he : a.eval f = .func (.func fi) fa fb := (eval_oper rl hf).trans hg
    have hm : Array.map a.eval #[Operand.const (Value.func (Fn.yield Lk) #[] #[])] = #[Value.func (Fn.yield Lk) #[] #[]] := by simp [Act.eval]
    simp only [resolve, rangeCall, he, Deferred.ofValue, Sem.run_pure, hm]
  · refine calls_in ((hcall.2 X1 h1 d v1).mono ?_)
    rintro e w' ⟨X2, h2, d2, s2, rfl, v2, e2, z, hz, hz2, hres⟩
    have hDX : X2 h.size := e2.sub _ (.inr rfl)
    have hD2 : h2[h.size]? = some (.deferred (some [])) := (e2.keep _ (.inr rfl)).trans hDk
    have hsz1 : h1.size = h.size + 2 := by show ((h.push _).push _).size = _; simp
    -- the loop's record is hidden again
    have hhide : ∀ (r' o' : Loop), s2[Lk]? = some (.loop r') → Vis (fun c => X2 c ∨ c = Lk) (h2.setIfInBounds Lk (.loop o')) (s2.setIfInBounds Lk junk) ∧ Ev X h (fun c => X2 c ∨ c = Lk) (h2.setIfInBounds Lk (.loop o')) ∧
        Rel n k0 (fun c => X2 c ∨ c = Lk) (h2.setIfInBounds Lk (.loop o')) { a with defers := [{ target := .collected h.size, args := #[] }] ++ a.defers } t := by
      intro r' o' hl2
      have hnX2 : ¬ X2 Lk := fun hx' => by rw [v2.junk _ hx'] at hl2; cases hl2
      have hl2' : h2[Lk]? = some (.loop r') := (v2.same _ hnX2).symm.trans hl2
      have hlt2 : Lk < h2.size := (Array.getElem?_eq_some_iff.1 hl2').1
      have v4 : Vis (fun c => X2 c ∨ c = Lk) (h2.setIfInBounds Lk (.loop o')) (s2.setIfInBounds Lk junk) := (v2.mask hl2' rfl).swap (.inr rfl) rfl
      have e4 : Ev X h (fun c => X2 c ∨ c = Lk) (h2.setIfInBounds Lk (.loop o')) := by
        refine ⟨?_, fun c hc => ?_, fun c hc => ?_, fun c hc => ?_⟩
        · have := e2.size
          simp only [Array.size_setIfInBounds]
          omega
        · exact .inl (e2.sub c (.inl hc))
        · rcases hc with hc | rfl
          · rcases e2.new c hc with h5 | h5
            · rcases h5 with h5 | rfl
              · exact .inl h5
              · exact .inr (Nat.le_refl _)
            · exact .inr (by omega)
          · exact .inr (by show h.size ≤ h.size + 1; omega)
        · have hlt := v.lt hc
          rw [set_ne (by show c ≠ h.size + 1; omega), e2.keep c (.inl hc)]
          show ((h.push _).push _)[c]? = _
          rw [Array.getElem?_push, if_neg (by simp; omega), Array.getElem?_push, if_neg (by omega)]
      have rl4 : Rel n k0 (fun c => X2 c ∨ c = Lk) (h2.setIfInBounds Lk (.loop o')) { a with defers := [{ target := .collected h.size, args := #[] }] ++ a.defers } t := by
        refine ⟨rl.size, rl.tmp, .inl ⟨h.size, rfl, hk _ (Nat.le_refl _), .inl hDX, ?_, ?_, rl.dfr.ev e4⟩⟩
        · rw [set_ne (by show h.size ≠ h.size + 1; omega)]; exact hD2
        · intro d' hd' htar
          have := v.lt (rl.dfr.marks d' hd' _ htar)
          omega
      exact ⟨v4, e4, rl4⟩
    -- the loop is over
    have hlast : ∀ (val : Value) (r' : Loop), s2[Lk]? = some (.loop r') → (r'.state == .busy) = false → (match r'.pending with
        | none => K .normal t (s2.setIfInBounds Lk junk)
        | some c => AFT (K .normal t) (match (an b).rt with | true => K .ret t | false => FF) (EXL (an b).ex fun id => K (.exit id) t) (some c) (s2.setIfInBounds Lk junk)) →
        rangePost (wideR none) 0 P Lk (PQ W n rs k0 X h K) { a with defers := [{ target := .collected h.size, args := #[] }] ++ a.defers } (.returned val) (wat W h2 d2) := by
      intro val r' hl2 hst hafter
      have hnX2 : ¬ X2 Lk := fun hx' => by rw [v2.junk _ hx'] at hl2; cases hl2
      have hl2' : h2[Lk]? = some (.loop r') := (v2.same _ hnX2).symm.trans hl2
      have hlt2 : Lk < h2.size := (Array.getElem?_eq_some_iff.1 hl2').1
      refine ⟨r'.pending, _, run_endLoop hl2' hst, ?_⟩
      obtain ⟨v4, e4, rl4⟩ := hhide r' { r' with state := .exhausted } hl2
      generalize h2.setIfInBounds Lk (.loop { r' with state := .exhausted }) = H at v4 e4 rl4 ⊢
      cases hp : r'.pending with
      | none =>
        rw [hp] at hafter
        exact ⟨_, _, d2, _, t, rfl, v4, e4, rl4, hafter⟩
      | some c =>
        rw [hp] at hafter
        simp only [AFT] at hafter ⊢
        cases c <;> first | exact hafter.elim | skip
        case ret =>
          refine wpIn_ret ⟨_, _, d2, _, t, rfl, v4, e4, rl4, ?_⟩
          cases hrt : (an b).rt with
          | true => simp only [hrt] at hafter; exact hafter
          | false => simp only [hrt] at hafter; exact hafter.elim
        case exit id =>
          refine wpIn_exit ⟨_, _, d2, _, t, rfl, v4, e4, rl4, ?_⟩
          have hex : ∀ (l : List Nat) (s : Hp), EXL l (fun id => K (.exit id) t) id s → K (.exit id) t s := by
            intro l
            induction l with
            | nil => exact fun s h => h.elim
            | cons j l ih =>
              intro s h
              unfold EXL at h
              cases hb : Nat.beq id j with
              | true => simp only [hb] at h; rw [beq_iff.1 hb]; exact h
              | false => simp only [hb] at h; exact ih s h
          exact hex _ _ hafter
    have hz' : s.size + 2 ≤ z := by omega
    have hz2' : z ≤ (s2.setIfInBounds Lk junk).size := by simpa using hz2
    have hpanic : ∀ (c : List PanicEntry) (r' : Loop), s2[Lk]? = some (.loop r') → K (.panic c) (prj rs t) (s2.setIfInBounds Lk junk) →
        rangePost (wideR none) 0 P Lk (PQ W n rs k0 X h K) { a with defers := [{ target := .collected h.size, args := #[] }] ++ a.defers } (.panicked c) (wat W h2 d2) := by
      intro c r' hl2 hK
      have hnX2 : ¬ X2 Lk := fun hx' => by rw [v2.junk _ hx'] at hl2; cases hl2
      have hl2' : h2[Lk]? = some (.loop r') := (v2.same _ hnX2).symm.trans hl2
      obtain ⟨v4, e4, rl4⟩ := hhide r' r' hl2
      rw [set_id hl2'] at v4 e4 rl4
      exact ⟨_, h2, d2, _, t, rfl, v4, e4, rl4.toP, hK⟩
    rcases hres with ⟨val, rfl, ⟨hFi, g1, g2⟩ | ⟨c, g1, g2⟩⟩ | ⟨c, rfl, ⟨g1, g2⟩ | ⟨k, hZ, g1, g2⟩⟩
    · exact hlast val rec0 g1 rfl (hA0 z _ hz' hz2' hFi g2)
    · exact hlast val _ g1 rfl (hA1 z c _ hz' hz2' g2)
    · exact hpanic c _ g1 (hA2 z c _ hz' hz2' g2)
    · exact hpanic c _ g1 (hA3 z k c _ hz' hz2' hZ g2)
theorem vc_sound : ∀ (c : Code) {B : Bool}, codeOk n c = true → Sound P W n rs an B c
  | .skip, B, _ => fun r b K k0 t s a X h d hB hk v rl hv => WP_of (wpIn_skip ⟨X, h, d, s, t, rfl, v, Ev.refl _ _, rl, hv⟩)
  | .label _, B, _ => fun r b K k0 t s a X h d hB hk v rl hv => WP_of (wpIn_label ⟨X, h, d, s, t, rfl, v, Ev.refl _ _, rl, hv⟩)
  | .ret, B, _ => fun r b K k0 t s a X h d hB hk v rl hv => WP_of (wpIn_ret ⟨X, h, d, s, t, rfl, v, Ev.refl _ _, rl, hv⟩)
  | .exit id, B, _ => fun r b K k0 t s a X h d hB hk v rl hv => WP_of (wpIn_exit ⟨X, h, d, s, t, rfl, v, Ev.refl _ _, rl, hv⟩)
  | .goto _, B, _ => fun r b K k0 t s a X h d hB hk v rl hv => hv.elim
  | .refuse _, B, _ => fun r b K k0 t s a X h d hB hk v rl hv => hv.elim
  | .region _ ops draws, B, ho => sound_region ho
  | .seq x y, B, ho => by
    simp only [codeOk, Bool.and_eq_true] at ho
    exact sound_seq (vc_sound x ho.1) (vc_sound y ho.2)
  | .cond c x y, B, ho => by
    simp only [codeOk, Bool.and_eq_true] at ho
    exact sound_cond ho.1.1 (vc_sound x ho.1.2) (vc_sound y ho.2)
  | .block id c, B, ho => sound_block (vc_sound c ho)
  | .loop c, B, ho => sound_loop (vc_sound c ho)
  | .scope c, B, ho => fun r b K k0 t s a X h d hB hk v rl hv => WP_scope (fun _ _ _ q => q) (vc_sound c ho r b K k0 t s a X h d hB hk v rl hv)
  | .rangeFunc f ps x y, B, ho => by
    simp only [codeOk, Bool.and_eq_true] at ho
    intro r b K k0 t s a X h d hB hk v rl hv
    cases B with
    | false => exact absurd (hB rfl) (by simp [hasR])
    | true =>
      unfold vc at hv
      cases r with
      | some l => exact hv.elim
      | none =>
        simp only [Option.isSome] at hv
        cases hpn : (an b).pn with
        | false =>
          simp only [hpn] at hv
          exact sound_rangeN ho.1.1 (vc_sound x ho.1.2) (vc_sound y ho.2) b K k0 t s a X h d (hk rfl) v rl hv
        | true =>
          simp only [hpn] at hv
          cases hR : hasR x || hasR y || !(rs.any (Nat.beq n)) with
          | true => simp only [hR] at hv; exact hv.elim
          | false =>
            simp only [hR] at hv
            exact sound_rangeP ho.1.1 (vc_sound x ho.1.2) (vc_sound y ho.2) hR b K k0 t s a X h d (hk rfl) v rl hv
end
section
variable {P : Program} {W : World} {n : Nat} {k0 : Nat → Prop} {s : Hp}
theorem LD_var {t : TypeId} {p : Value} {K : VK} (h : LD P t p K s) : ∃ a, p = .pointer (some a) ∧ spq P (loadVar t a) (fun v => K v s) s := by
  have h2 := LD_spq h
  unfold LD at h
  cases p <;> first | exact h.elim | skip
  rename_i o
  obtain ⟨a, rfl, h'⟩ := SO_elim h
  refine ⟨a, rfl, ?_⟩
  simpa only [Instr.loadAt, Instr.sureAddr, spq_bind, spq_pure] using h2
abbrev resSlots := slotsOf
def resF (tmps : Array Value) : ResultVar → Sem Value
  | .tmp t => pure (tmps.getD t undef)
  | .cell a t => do loadVar t (← asAddr (tmps.getD a undef))
theorem resL_spq {tmps : Array Value} {t : Tm} : ∀ (rv : List ResultVar) (K : List Value → Hp → Prop), (∀ i ∈ resSlots rv, tmps.getD i undef = t i) → resL P rv t K s → spq P (rv.mapM (resF tmps)) (fun vs => K vs s) s
  | [], K, ha, h => h
  | .tmp i :: r, K, ha, h => by
    rw [List.mapM_cons, spq_bind]
    show spq P (pure (tmps.getD i undef)) _ s
    rw [ha i (by simp [slotsOf]), spq_pure, spq_bind]
    refine spq_mono P _ s ?_ (resL_spq r _ (fun j hj => ha j (by simp [slotsOf, hj])) h)
    intro vs hv
    exact hv
  | .cell a ty :: r, K, ha, h => by
    rw [List.mapM_cons, spq_bind]
    obtain ⟨ad, hp, hl⟩ := LD_var h
    show spq P (do loadVar ty (← asAddr (tmps.getD a undef))) _ s
    rw [ha a (by simp [slotsOf]), hp]
    show spq P (do loadVar ty (← (pure ad : Sem Addr))) _ s
    rw [spq_bind, spq_pure]
    refine spq_mono P _ s ?_ hl
    intro v hv
    rw [spq_bind]
    refine spq_mono P _ s ?_ (resL_spq r _ (fun j hj => ha j (by simp [slotsOf, hj])) hv)
    intro vs hv
    exact hv
theorem results_run {fn : Func} {tmps : Array Value} {t : Tm} {R : Value → Hp → Prop} (ha : ∀ i ∈ resSlots fn.results.toList, tmps.getD i undef = t i) (h : resL P fn.results.toList t (fun vs => R (one vs)) s) :
    ∃ v, R v s ∧ ∀ (X : Nat → Prop) (h : Hp) (d : Nat), Vis X h s → (results fn tmps).run P (wat W h d) = .ok v (wat W h d) := by
  have h1 := resL_spq fn.results.toList _ ha h
  have h2 : spq P (results fn tmps) (fun v => R v s) s := by
    have e : (results fn tmps) = (do let vs ← fn.results.mapM (resF tmps); pure (if h : vs.size = 1 then vs[0] else .tuple vs)) := by
      unfold results
      congr 1
    rw [e, spq_bind, Array.mapM_eq_mapM_toList, map_eq_pure_bind, spq_bind]
    refine spq_mono P _ s ?_ h1
    intro vs hv
    rw [spq_pure, spq_pure]
    have : (if h : vs.toArray.size = 1 then vs.toArray[0] else .tuple vs.toArray) = one vs := by
      cases vs with
      | nil => rfl
      | cons x r => cases r with
        | nil => rfl
        | cons y r => simp [one]
    rw [this]; exact hv
  obtain ⟨v, hv, hr⟩ := spq_sound P W _ _ s h2
  exact ⟨v, hv, hr⟩
theorem run_take {h : Hp} {d r : Nat} (hr : h[r]? = some (.deferred (some []))) : (Instr.takeDeferred r).run P (wat W h d) = .ok [] (wat W (h.setIfInBounds r (.deferred none)) d) := by
  have e : (getObj r).run P (wat W h d) = .ok (.deferred (some [])) (wat W h d) := by
    simp only [getObj, Sem.run, show (wat W h d).heap[r]? = some (.deferred (some [])) from hr]
  have e2 : (setObj r (.deferred none)).run P (wat W h d) = .ok () (wat W (h.setIfInBounds r (.deferred none)) d) := by
    simp only [setObj, Sem.run, show (wat W h d).heap[r]? = some (.deferred (some [])) from hr]
    rfl
  simp only [Instr.takeDeferred, Sem.run_bind, e, Result.andThen, e2, Sem.run_pure]
theorem Dcd.take {X : Nat → Prop} {h : Hp} {r : Nat} : ∀ {ds : List Deferred} {v : Value}, (∀ d' ∈ ds, d'.target ≠ .collected r) → Dcd k0 X h ds v → Dcd k0 X (h.setIfInBounds r (.deferred none)) ds v
  | [], v, _, hd => hd
  | d0 :: ds, v, hn, hd => by
    rcases hd with ⟨r0, h1, h2, h3, h4, h5, h6⟩ | ⟨f, cap, args, h1, h2, h3⟩
    · have hne : r0 ≠ r := fun e => hn d0 (by simp) (by rw [h1, e])
      exact .inl ⟨r0, h1, h2, h3, by rw [set_ne hne]; exact h4, h5, h6.take (fun d' hd' => hn d' (by simp [hd']))⟩
    · exact .inr ⟨f, cap, args, h1, h2, h3.take (fun d' hd' => hn d' (by simp [hd']))⟩
section
variable {fn : Func} {tmps : Array Value} {R : Ending → Hp → Prop} {X0 : Nat → Prop} {h0 : Hp}
theorem leave_mark {X : Nat → Prop} {h : Hp} {d : Nat} {d0 : Deferred} {ds : List Deferred} {u : FrameMode} {v : Value} {Rw : Ending → World → Prop} {r : Nat} (hb : ∀ b, X0 b → b < h0.size) (vis : Vis X h s) (e : Ev X0 h0 X h) (hu : u ≠ .run)
    (h1 : d0 = { target := .collected r, args := #[] }) (h2 : h0.size ≤ r) (h3 : X r) (h4 : h[r]? = some (.deferred (some []))) (h5 : ∀ d' ∈ ds, d'.target ≠ .collected r) (h6 : Dcd (h0.size ≤ ·) X h ds v)
    (hk : ∀ h', Vis X h' s → Ev X0 h0 X h' → Dcd (h0.size ≤ ·) X h' ds v → LeavesInM Fence.wide 0 P fn tmps Rw ds u (wat W h' d)) : LeavesInM Fence.wide 0 P fn tmps Rw (d0 :: ds) u (wat W h d) := by
  refine ⟨hu, .inl ⟨r, _, by rw [h1], run_take h4, ?_⟩⟩
  refine hk _ (vis.swap h3 rfl) ⟨by simpa using e.size, e.sub, e.new, fun b hx => ?_⟩ (h6.take h5)
  have := hb b hx
  rw [set_ne (by omega)]; exact e.keep b hx
theorem leave_ret {t : Tm} (hb : ∀ b, X0 b → b < h0.size) (ha : ∀ i ∈ resSlots fn.results.toList, tmps.getD i undef = t i) : ∀ (ds : List Deferred) (X : Nat → Prop) (h : Hp) (d : Nat) (s : Hp), Vis X h s → Ev X0 h0 X h → Dcd (h0.size ≤ ·) X h ds undef →
    resL P fn.results.toList t (fun vs => R (.returned (one vs))) s → LeavesInM Fence.wide 0 P fn tmps (fun e w' => Now W X0 h0 (R e) w') ds .returning (wat W h d)
  | [], X, h, d, s, vis, e, hd, hr => by
    obtain ⟨v, h1, h2⟩ := results_run (W := W) (R := fun v => R (.returned v)) ha hr
    exact ⟨v, h2 X h d vis, X, h, d, s, rfl, vis, e, h1⟩
  | d0 :: ds, X, h, d, s, vis, e, hd, hr => by
    rcases hd with ⟨r0, h1, h2, h3, h4, h5, h6⟩ | ⟨f, cap, args, h1, h2, h3⟩
    · exact leave_mark hb vis e (by simp) h1 h2 h3 h4 h5 h6 (fun h' v' e' d' => leave_ret hb ha ds X h' d s v' e' d' hr)
    · simp [undef] at h2
theorem leave_panic {c : List PanicEntry} (hb : ∀ b, X0 b → b < h0.size) : ∀ (ds : List Deferred) (X : Nat → Prop) (h : Hp) (d : Nat) (s : Hp), Vis X h s → Ev X0 h0 X h → Dcd (h0.size ≤ ·) X h ds undef →
    R (.panicked c) s → LeavesInM Fence.wide 0 P fn tmps (fun e w' => Now W X0 h0 (R e) w') ds (.panicking c) (wat W h d)
  | [], X, h, d, s, vis, e, hd, hr => ⟨X, h, d, s, rfl, vis, e, hr⟩
  | d0 :: ds, X, h, d, s, vis, e, hd, hr => by
    rcases hd with ⟨r0, h1, h2, h3, h4, h5, h6⟩ | ⟨f, cap, args, h1, h2, h3⟩
    · exact leave_mark hb vis e (by simp) h1 h2 h3 h4 h5 h6 (fun h' v' e' d' => leave_panic hb ds X h' d s v' e' d' hr)
    · simp [undef] at h2
theorem leave_def {t : Tm} {c : Option (List PanicEntry)} {K : Hp → Prop} (hb : ∀ b, X0 b → b < h0.size) (hK : ∀ s, K s → (∀ i ∈ resSlots fn.results.toList, tmps.getD i undef = t i) ∧ resL P fn.results.toList t (fun vs => R (.returned (one vs))) s) : ∀ (ds : List Deferred) (X : Nat → Prop) (h : Hp) (d : Nat) (s : Hp) (f : FuncId) (cap args : Array Value), Vis X h s → Ev X0 h0 X h →
    Dcd (h0.size ≤ ·) X h ds (.tuple #[.func (.func f) #[] cap, .tuple args]) → DoesD P W f (args.toList ++ cap.toList) c s K →
    LeavesInM Fence.wide 0 P fn tmps (fun e w' => Now W X0 h0 (R e) w') ds (match c with | none => .returning | some c => .panicking c) (wat W h d)
  | [], X, h, d, s, f, cap, args, vis, e, hd, hr => by simp [Dcd, undef] at hd
  | d0 :: ds, X, h, d, s, f, cap, args, vis, e, hd, hr => by
    have hu : (match c with | none => FrameMode.returning | some c => .panicking c) ≠ .run := by cases c <;> simp
    rcases hd with ⟨r0, h1, h2, h3, h4, h5, h6⟩ | ⟨f', cap', args', h1, h2, h3⟩
    · exact leave_mark hb vis e hu h1 h2 h3 h4 h5 h6 (fun h' v' e' d' => leave_def hb hK ds X h' d s f cap args v' e' d' hr)
    · have hf : f' = f ∧ cap' = cap ∧ args' = args := by
        simp at h2
        exact ⟨h2.1.1.symm, h2.1.2.symm, h2.2.symm⟩
      obtain ⟨rfl, rfl, rfl⟩ := hf
      subst h1
      refine ⟨hu, .inr ⟨fun hh => (by cases hh), .func f', cap', f', args' ++ cap', rfl, ?_, fun _ _ => trivial, ?_⟩⟩
      · exact run_invoke (P := P) (cap := cap') (args := args') (w := wat W h d) hr.1
      · have hcd := hr.2 X h d vis
        have ea : (args'.toList ++ cap'.toList).toArray = args' ++ cap' := Array.ext' (by simp)
        rw [ea] at hcd
        refine CallsDIn.mono hcd ?_
        rintro e2 u2 w2 ⟨⟨v, rfl⟩, hset, X2, h2, d2, s2, rfl, vis2, ev2, hk⟩
        show LeavesInM Fence.wide 0 P fn tmps _ ds (settle u2) _
        rw [hset]
        exact leave_ret hb (hK _ hk).1 ds X2 h2 d2 s2 vis2 (e.trans ev2) (h3.ev ev2) (hK _ hk).2
end
def okFn (P : Program) (f : FuncId) (fn : Func) (k : Nat) : Bool :=
  callable P f && codeOk fn.ntmps (bodyOf fn) && (resSlots fn.results.toList).all (fun i => !Nat.beq i fn.ntmps) && Nat.ble k fn.ntmps && fn.body.isSome
theorem start_get : ∀ (args : List Value) (k i : Nat), start args k i = if k ≤ i then args.getD (i - k) undef else undef
  | [], k, i => by simp [start]
  | v :: vs, k, i => by
    unfold start
    cases hb : Nat.beq i k with
    | true =>
      have := beq_iff.1 hb
      subst this
      simp
    | false =>
      have hne : i ≠ k := fun e => by rw [beq_iff.2 e] at hb; cases hb
      simp only []
      rw [start_get vs (k + 1) i]
      by_cases hk : k ≤ i
      · rw [if_pos (by omega), if_pos hk]
        obtain ⟨m, hm⟩ : ∃ m, i - k = m + 1 := ⟨i - k - 1, by omega⟩
        rw [hm]
        have : i - (k + 1) = m := by omega
        rw [this]
        simp [List.getD]
      · rw [if_neg (by omega), if_neg hk]
theorem DEF_elim {d : Value} {c : Option (List PanicEntry)} {K : Hp → Prop} (h : DEF P W d c K s) : ∃ f cap args, d = .tuple #[.func (.func f) #[] cap, .tuple args] ∧ DoesD P W f (args.toList ++ cap.toList) c s K := by
  unfold DEF at h
  split at h
  · rename_i f cap args
    exact ⟨f, cap, args, rfl, h⟩
  · exact h.elim
theorem fin_ret {rv : List ResultVar} {R : Ending → Hp → Prop} {t : Tm} (h : fin P W n rv R .ret t s) : (t n = undef ∧ resL P rv t (fun vs => R (.returned (one vs))) s) ∨ DEF P W (t n) none (resL P rv t fun vs => R (.returned (one vs))) s := by
  unfold fin at h
  simp only at h
  cases hx : t n <;> simp only [hx] at h <;> first | exact .inr h | skip
  rename_i l
  obtain ⟨l⟩ := l
  cases l with
  | nil => exact .inl ⟨rfl, h⟩
  | cons x y => exact .inr h
theorem fin_panic {rv : List ResultVar} {R : Ending → Hp → Prop} {t : Tm} {c : List PanicEntry} (h : fin P W n rv R (.panic c) t s) : (t n = undef ∧ R (.panicked c) s) ∨ DEF P W (t n) (some c) (resL P rv t fun vs => R (.returned (one vs))) s := by
  unfold fin at h
  simp only at h
  cases hx : t n <;> simp only [hx] at h <;> first | exact .inr h | skip
  rename_i l
  obtain ⟨l⟩ := l
  cases l with
  | nil => exact .inl ⟨rfl, h⟩
  | cons x y => exact .inr h
theorem callsIn_of_wpB {f : FuncId} {fn : Func} {c : Code} {args : Array Value} {w : World} {R : Ending → World → Prop} (hf : P.funcs[f]? = some fn) (hb : fn.body = some c)
    (h : wpB none P c (bodyPostM Fence.wide 0 P fn R) { tmps := args ++ Array.replicate (fn.ntmps - args.size) undef, defers := [] } w) : CallsIn Fence.wide 0 P f args w R := by
  refine ⟨trivial, fun cs hr => ?_⟩
  let b : Frame := { (default : Frame) with fn := f, kind := .normal, roundOf := none }
  have henter : Frame.enter P f args .normal = b.atR { tmps := args ++ Array.replicate (fn.ntmps - args.size) undef, defers := [] } [.code c] := by
    simp [Frame.enter, Frame.atR, hf, hb, b]
  obtain ⟨e, a', w', hq, harr⟩ := h b [] cs rfl ⟨fn, hf⟩
  rw [← henter] at harr
  cases e with
  | normal =>
    obtain ⟨e', w'', fr', hR, hs, hfn, hl⟩ := leaves_stepsInM a'.defers .returning w' { b.atR a' [] with mode := .returning } cs rfl rfl rfl hf rfl trivial hr hq
    exact ⟨e', w'', fr', hR, ComesIn.of_steps (StepsIn.trans harr (.one (fencedR P none _) (stepR_end rfl))) hs, hfn, hl⟩
  | ret =>
    obtain ⟨todo, hs0⟩ := harr.1 rfl
    obtain ⟨e', w'', fr', hR, hs, hfn, hl⟩ := leaves_stepsInM a'.defers .returning w' { b.atR a' todo with mode := .returning } cs rfl rfl rfl hf rfl trivial hr hq
    exact ⟨e', w'', fr', hR, ComesIn.of_steps hs0 hs, hfn, hl⟩
  | panic ch =>
    obtain ⟨todo, hs0⟩ := harr
    obtain ⟨e', w'', fr', hR, hs, hfn, hl⟩ := leaves_stepsInM a'.defers (.panicking ch) w' { b.atR a' todo with mode := .panicking ch } cs rfl rfl rfl hf rfl trivial hr hq
    exact ⟨e', w'', fr', hR, ComesIn.of_steps hs0 hs, hfn, hl⟩
  | exit id => exact hq.elim
  | goto l => exact hq.elim
  | outgrown => exact ⟨.outgrown, w', b, hq, harr.resolve_left (by simp [b]), rfl, trivial⟩
theorem does_of_vfun (P : Program) (W : World) (an : Nat → Ann) {f : FuncId} {fn fn' : Func} (hf : P.funcs[f]? = some fn') (e : fn' = fn) {args : List Value} (hok : okFn P f fn args.length = true) {R : Ending → Hp → Prop} {s : Hp}
    (h : vfun P W an fn args R s) : Does P W f args.toArray s R := by
  subst e
  unfold okFn at hok
  simp only [Bool.and_eq_true] at hok
  obtain ⟨⟨⟨⟨h1, h2⟩, h3⟩, h4⟩, h5⟩ := hok
  obtain ⟨c, hc⟩ := Option.isSome_iff_exists.1 h5
  have hbo : bodyOf fn' = c := by unfold bodyOf; rw [hc]
  have hlen : args.length ≤ fn'.ntmps := Nat.le_of_ble_eq_true h4
  refine ⟨h1, fun X hp d v => ?_⟩
  refine (callsIn_wide (n := 0)).1 (callsIn_of_wpB hf hc ?_)
  have rl : Rel fn'.ntmps (hp.size ≤ ·) X hp { tmps := args.toArray ++ Array.replicate (fn'.ntmps - args.toArray.size) undef, defers := [] } (start args 0) := by
    refine ⟨by simp; omega, fun i hi => ?_, ?_⟩
    · rw [start_get, if_pos (Nat.zero_le _)]
      show Array.getD (args.toArray ++ _) i undef = _
      rw [Array.getD_eq_getD_getElem?]
      by_cases hlt : i < args.length
      · rw [Array.getElem?_append_left (by simpa using hlt)]
        simp [List.getD]
      · rw [Array.getElem?_append_right (by simpa using hlt)]
        have : args.getD (i - 0) undef = undef := by simp [List.getD]; rw [List.getElem?_eq_none (by omega)]; rfl
        rw [this, Array.getElem?_replicate]
        split <;> rfl
    · show start args 0 fn'.ntmps = undef
      rw [start_get, if_pos (Nat.zero_le _)]
      simp [List.getD]
      rw [List.getElem?_eq_none (by omega)]; rfl
  have hlt : ∀ b, X b → b < hp.size := fun b hx => v.lt hx
  have hs := vc_sound (B := true) (W := W) (rs := fn'.ntmps :: slotsOf fn'.results.toList) (an := an) c (by rw [← hbo]; exact h2) none 0 (fin P W fn'.ntmps fn'.results.toList R) (hp.size ≤ ·) (start args 0) s _ X hp d (fun h => (by cases h)) (fun _ _ h => h) v rl (by unfold vfun at h; rw [hbo] at h; exact h)
  refine wpB_mono hs ?_
  have hret : ∀ (a' : Act) (X' : Nat → Prop) (h' : Hp) (d' : Nat) (s' : Hp) (t' : Tm), Vis X' h' s' → Ev X hp X' h' → Rel fn'.ntmps (hp.size ≤ ·) X' h' a' t' → fin P W fn'.ntmps fn'.results.toList R .ret t' s' →
      LeavesInM Fence.wide 0 P fn' a'.tmps (fun e w' => Now W X hp (R e) w') a'.defers .returning (wat W h' d') := by
    intro a' X' h' d' s' t' v' e' rl' hk
    have ha : ∀ i ∈ resSlots fn'.results.toList, a'.tmps.getD i undef = t' i := fun i hi => rl'.tmp i (fun e => by
      have := List.all_eq_true.1 h3 i hi
      rw [e] at this; simp at this)
    have hd := rl'.dfr
    rcases fin_ret hk with ⟨hn, hk⟩ | hk
    · rw [hn] at hd
      exact leave_ret hlt ha _ X' h' d' s' v' e' hd hk
    · obtain ⟨f, cap, args, hn, hdd⟩ := DEF_elim hk
      rw [hn] at hd
      exact leave_def (c := none) hlt (fun s hs => ⟨ha, hs⟩) _ X' h' d' s' f cap args v' e' hd hdd
  intro e a' w' q
  cases e with
  | normal => obtain ⟨X', h', d', s', t', rfl, v', e', rl', hk⟩ := q; exact hret a' X' h' d' s' t' v' e' rl' hk
  | ret => obtain ⟨X', h', d', s', t', rfl, v', e', rl', hk⟩ := q; exact hret a' X' h' d' s' t' v' e' rl' hk
  | panic c =>
    obtain ⟨X', h', d', s', t', rfl, v', e', rl', hk⟩ := q
    have hprj : ∀ i ∈ (fn'.ntmps :: slotsOf fn'.results.toList), prj (fn'.ntmps :: slotsOf fn'.results.toList) t' i = t' i := by
      intro i hi
      have key : ∀ (is : List Nat) (t0 : Tm), i ∈ is → known is (is.map t') t0 i = t' i := by
        intro is
        induction is with
        | nil => intro t0 hm; simp at hm
        | cons j is ih =>
          intro t0 hm
          simp only [List.map_cons, known]
          cases hb : Nat.beq i j with
          | true => rw [beq_iff.1 hb]
          | false =>
            simp only []
            refine ih t0 ((List.mem_cons.1 hm).resolve_left (fun e => ?_))
            rw [beq_iff.2 e] at hb; cases hb
      exact key _ _ hi
    have hd := rl'.dfr
    have hp0 := hprj fn'.ntmps (by simp)
    show LeavesInM Fence.wide 0 P fn' a'.tmps _ a'.defers (.panicking c) _
    rcases fin_panic hk with ⟨hn, hk⟩ | hk
    · rw [hp0] at hn
      rw [hn] at hd
      exact leave_panic hlt _ X' h' d' s' v' e' hd hk
    · obtain ⟨f, cap, args, hn, hdd⟩ := DEF_elim hk
      rw [hp0] at hn
      rw [hn] at hd
      refine leave_def (c := some c) (t := prj (fn'.ntmps :: slotsOf fn'.results.toList) t') hlt (fun s hs => ⟨fun i hi => ?_, hs⟩) _ X' h' d' s' f cap args v' e' hd hdd
      have hne : i ≠ fn'.ntmps := fun e => by
        have := List.all_eq_true.1 h3 i hi
        rw [e] at this; simp at this
      rw [hprj i (List.mem_cons_of_mem _ hi)]
      exact rl'.tmp i (List.mem_cons_of_mem _ hi) hne
  | exit id => obtain ⟨X', h', d', s', t', rfl, v', e', rl', hk⟩ := q; exact hk.elim
  | goto l => exact q.elim
  | outgrown => exact q.elim
end
section
variable {P : Program} {W : World} {s : Hp}
theorem ty1_pure {k : Kd} {v : Value} {K : VK} (h : ty1 k v K s) : K v s ∧ ∀ (K' : VK) (s' : Hp), K' v s' → ty1 k v K' s' := by
  unfold ty1 at h ⊢
  cases k <;> simp only at h ⊢
  case i k => unfold TYI at h ⊢; cases v <;> first | exact h.elim | (obtain ⟨rfl, h⟩ := h; exact ⟨h, fun K' s' h' => ⟨rfl, h'⟩⟩)
  case b => unfold TYB at h ⊢; cases v <;> first | exact h.elim | exact ⟨h, fun K' s' h' => h'⟩
  case s => unfold TYS at h ⊢; cases v <;> first | exact h.elim | exact ⟨h, fun K' s' h' => h'⟩
  case p => unfold TYP at h ⊢; cases v <;> first | exact h.elim | exact ⟨h, fun K' s' h' => h'⟩
  case l => unfold TYL at h ⊢; cases v <;> first | exact h.elim | exact ⟨h, fun K' s' h' => h'⟩
  case m => unfold TYM at h ⊢; cases v <;> first | exact h.elim | exact ⟨h, fun K' s' h' => h'⟩
  case v => exact ⟨h, fun K' s' h' => h'⟩
theorem tyN_pure : ∀ (ks : List Kd) (l : List Value) (K : List Value → Hp → Prop), tyN ks l K s → K l s ∧ ∀ (K' : List Value → Hp → Prop) (s' : Hp), K' l s' → tyN ks l K' s'
  | [], l, K, h => by obtain ⟨rfl, h⟩ := NL_elim h; exact ⟨h, fun K' s' h' => h'⟩
  | k :: ks, l, K, h => by
    obtain ⟨x, r, rfl, h'⟩ := HD_elim h
    obtain ⟨h1, h2⟩ := ty1_pure h'
    obtain ⟨h3, h4⟩ := tyN_pure ks r _ h1
    exact ⟨h3, fun K' s' hk => h2 (fun v => tyN ks r fun vs => K' (v :: vs)) s' (h4 (fun vs => K' (x :: vs)) s' hk)⟩
theorem tyT_pure {t : TypeId} {v : Value} {K : VK} (h : tyT P t v K s) : K v s ∧ ∀ (K' : VK) (s' : Hp), K' v s' → tyT P t v K' s' := by
  unfold tyT at h ⊢
  cases hb : isAg P t with
  | false => simp only [hb] at h ⊢; exact ty1_pure h
  | true =>
    simp only [hb] at h ⊢
    unfold AGG at h ⊢
    cases v <;> first | exact h.elim | skip
    rename_i a
    obtain ⟨h1, h2⟩ := tyN_pure _ _ _ h
    exact ⟨by simpa using h1, fun K' s' h' => h2 _ s' (by simpa using h')⟩
theorem tyTs_pure : ∀ (ts : List TypeId) (l : List Value) (K : List Value → Hp → Prop), tyTs P ts l K s → K l s ∧ ∀ (K' : List Value → Hp → Prop) (s' : Hp), K' l s' → tyTs P ts l K' s'
  | [], l, K, h => by obtain ⟨rfl, h⟩ := NL_elim h; exact ⟨h, fun K' s' h' => h'⟩
  | t :: ts, l, K, h => by
    obtain ⟨x, r, rfl, h'⟩ := HD_elim h
    obtain ⟨h1, h2⟩ := tyT_pure h'
    obtain ⟨h3, h4⟩ := tyTs_pure ts r _ h1
    exact ⟨h3, fun K' s' hk => h2 (fun v => tyTs P ts r fun vs => K' (v :: vs)) s' (h4 (fun vs => K' (x :: vs)) s' hk)⟩
theorem tyR_pure {t : TypeId} {v : Value} {K : VK} (h : tyR P t v K s) : K v s ∧ ∀ (K' : VK) (s' : Hp), K' v s' → tyR P t v K' s' := by
  unfold tyR at h ⊢
  cases hu : P.underlying t with
  | none => simp only [hu] at h ⊢; exact tyT_pure h
  | some d =>
    simp only [hu] at h ⊢
    cases d <;> first | exact tyT_pure h | skip
    unfold TUP at h ⊢
    cases v <;> first | exact h.elim | skip
    obtain ⟨h1, h2⟩ := tyTs_pure _ _ _ h
    exact ⟨by simpa using h1, fun K' s' h' => h2 _ s' (by simpa using h')⟩
theorem CS_mono {ag : Bool} {v : Value} {n : Nat} {K K' : List Value → Hp → Prop} (hk : ∀ l s, K l s → K' l s) (h : CS ag v n K s) : CS ag v n K' s := by
  unfold CS at h ⊢
  cases ag with
  | true =>
    cases v <;> first | exact h.elim | skip
    rename_i c
    cases hb : Nat.beq c.toList.length n with
    | false => simp only [hb] at h; exact h.elim
    | true => simp only [hb] at h ⊢; exact hk _ _ h
  | false =>
    cases hb : Nat.beq n 1 with
    | false => simp only [hb] at h; exact h.elim
    | true =>
      simp only [hb] at h ⊢
      unfold ONE at h ⊢
      cases h1 : oneCell v with
      | false => simp only [h1] at h; exact h.elim
      | true => simp only [h1] at h ⊢; exact hk _ _ h
theorem wrN_mono : ∀ (vs : List Value) (a : Addr) (i : Nat) (K K' : Hp → Prop) (hk : ∀ s, K s → K' s) (s : Hp), wrN vs a i K s → wrN vs a i K' s
  | [], a, i, K, K', hk, s, h => hk s h
  | v :: vs, a, i, K, K', hk, s, h => ⟨h.1, wrN_mono vs a (i + 1) K K' hk _ h.2⟩
theorem SZ_mono {t : TypeId} {K K' : Nat → Hp → Prop} (hk : ∀ m s, K m s → K' m s) (h : SZ P t K s) : SZ P t K' s := by
  obtain ⟨m, h1, h2⟩ := SZ_pure h
  exact h2 _ _ (hk _ _ h1)
theorem ST_mono {t : TypeId} {p v : Value} {K K' : Hp → Prop} (hk : ∀ s, K s → K' s) (h : ST P t p v K s) : ST P t p v K' s := by
  unfold ST at h ⊢
  cases p <;> first | exact h.elim | skip
  obtain ⟨a, rfl, h'⟩ := SO_elim h
  exact SZ_mono (fun m s h => CS_mono (fun l s h => wrN_mono _ _ _ _ _ hk _ h) h) h'
theorem BLD_mono {place : Nat → Option (Nat × Nat × Bool)} {cs : List Value} {ps : List (Nat × Value)} {K K' : List Value → Hp → Prop} (hk : ∀ l s, K l s → K' l s) (h : BLD place cs ps K s) : BLD place cs ps K' s := by
  obtain ⟨ds, h1, h2⟩ := BLD_pure _ _ _ h
  exact h2 _ _ (hk _ _ h1)
theorem BSL_mono {t : TypeId} {len : Nat} {ps : List (Nat × Value)} {K K' : VK} (hk : ∀ v s, K v s → K' v s) (h : BSL P t len ps K s) : BSL P t len ps K' s := by
  unfold BSL at h ⊢
  cases hc : (isSl P t && hasZero P (elemT P t) && Nat.beq (zc P (elemT P t)).length (P.cellsOf (elemT P t)) && Nat.ble (len * P.cellsOf (elemT P t)) 1000) with
  | false => simp only [hc] at h; exact h.elim
  | true => simp only [hc] at h ⊢; exact BLD_mono (fun l s h => hk _ _ h) h
theorem mks_mono {t : TypeId} {l c : Value} {K K' : VK} (hk : ∀ v s, K v s → K' v s) (h : mks P t l c K s) : mks P t l c K' s := by
  unfold mks at h ⊢
  cases l <;> first | exact h.elim | skip
  cases c <;> first | exact h.elim | skip
  simp only at h ⊢
  cases hc : (isSl P t && hasZero P (elemT P t) && Nat.beq (zc P (elemT P t)).length (P.cellsOf (elemT P t)) && Nat.ble (P.bytesOf (elemT P t)) 1000) with
  | false => simp only [hc] at h; exact h.elim
  | true => simp only [hc] at h ⊢; exact ⟨h.1, hk _ _ h.2⟩
theorem SO_mono {α : Type} {o : Option α} {K K' : α → Hp → Prop} (hk : ∀ a s, K a s → K' a s) {s : Hp} (h : SO o K s) : SO o K' s := by
  cases o with
  | none => exact h.elim
  | some a => exact hk a s h
theorem tc1_mono {k : Kd} {v : Value} {K K' : VK} (hk : ∀ v s, K v s → K' v s) (h : tc1 k v K s) : tc1 k v K' s := by
  unfold tc1 at h ⊢
  cases k <;> simp only at h ⊢
  case i k =>
    unfold TYC at h ⊢
    cases v <;> first | exact h.elim | skip
    rename_i k' n
    simp only at h ⊢
    cases hd : decide (k' = k) with
    | false => simp only [hd] at h; exact h.elim
    | true => simp only [hd] at h ⊢; exact hk _ _ h
  case b => unfold TYB at h ⊢; cases v <;> first | exact h.elim | exact hk _ _ h
  case s => unfold TYS at h ⊢; cases v <;> first | exact h.elim | exact hk _ _ h
  case p => unfold TYP at h ⊢; cases v <;> first | exact h.elim | exact hk _ _ h
  case l => unfold TYL at h ⊢; cases v <;> first | exact h.elim | exact hk _ _ h
  case m => unfold TYM at h ⊢; cases v <;> first | exact h.elim | exact hk _ _ h
  case v => exact hk _ _ h
theorem tcN_mono : ∀ (ks : List Kd) (l : List Value) (K K' : List Value → Hp → Prop), (∀ v s, K v s → K' v s) → ∀ s, tcN ks l K s → tcN ks l K' s
  | [], l, K, K', hk, s, h => by cases l <;> first | exact hk _ _ h | exact h.elim
  | k :: ks, l, K, K', hk, s, h => by
    cases l with
    | nil => exact h.elim
    | cons x r => exact tc1_mono (K := fun v s => tcN ks r (fun vs => K (v :: vs)) s) (fun v s h => tcN_mono ks r _ _ (fun vs s h => hk _ _ h) s h) h
theorem tyC_mono {t : TypeId} {v : Value} {K K' : VK} (hk : ∀ v s, K v s → K' v s) (h : tyC P t v K s) : tyC P t v K' s := by
  unfold tyC at h ⊢
  cases hi : isAg P t with
  | false => simp only [hi] at h ⊢; exact tc1_mono hk h
  | true =>
    simp only [hi] at h ⊢
    unfold AGG at h ⊢
    cases v <;> first | exact h.elim | skip
    exact tcN_mono _ _ _ _ (fun vs s h => hk _ _ h) _ h
theorem CVT_mono {z d : TypeId} {x : Value} {K K' : VK} (hk : ∀ v s, K v s → K' v s) (h : CVT P z d x K s) : CVT P z d x K' s := by
  unfold CVT at h ⊢
  cases hs : P.underlying z with
  | none => simp only [hs] at h; exact h.elim
  | some ds =>
    cases hu : P.underlying d with
    | none => cases x <;> simp only [hs, hu] at h <;> first | exact h.elim | (cases ds <;> exact h.elim)
    | some dd =>
      cases x <;> simp only [hs, hu] at h ⊢ <;> first | exact h.elim | skip
      case int k n => cases dd <;> first | exact h.elim | (cases ds <;> exact h.elim) | exact hk _ _ h
      case slice a l c =>
        cases ds <;> first | exact h.elim | skip
        rename_i e
        cases dd <;> first | exact h.elim | skip
        simp only at h ⊢
        cases he : P.underlying e with
        | none => simp only [he] at h; exact h.elim
        | some de =>
          simp only [he] at h ⊢
          cases de <;> first | exact h.elim | skip
          rename_i ke
          cases ke <;> first | exact h.elim | skip
          obtain ⟨bs, h1, h2⟩ := h
          exact ⟨bs, h1, hk _ _ h2⟩
theorem slc_mono {t : TypeId} {x : Value} {lo hi : Option Value} {K K' : VK} (hk : ∀ v s, K v s → K' v s) (h : slc P t x lo hi K s) : slc P t x lo hi K' s := by
  unfold slc at h ⊢
  cases hu : P.underlying t with
  | none => simp only [hu] at h; exact h.elim
  | some d =>
    simp only [hu] at h ⊢
    cases d <;> first | exact h.elim | skip
    case string =>
      cases x <;> first | exact h.elim | skip
      simp only at h ⊢
      cases lo with
      | none =>
        cases hi with
        | none => exact ⟨h.1, hk _ _ h.2⟩
        | some v => cases v <;> first | exact h.elim | exact ⟨h.1, hk _ _ h.2⟩
      | some u =>
        cases hi with
        | none => cases u <;> first | exact h.elim | exact ⟨h.1, hk _ _ h.2⟩
        | some v => cases u <;> cases v <;> first | exact h.elim | exact ⟨h.1, hk _ _ h.2⟩
    case slice e =>
      cases x <;> first | exact h.elim | skip
      refine SZ_mono (fun m s h => ?_) h
      cases lo with
      | none =>
        cases hi with
        | none => exact ⟨h.1, hk _ _ h.2⟩
        | some v => cases v <;> first | exact h.elim | exact ⟨h.1, hk _ _ h.2⟩
      | some u =>
        cases hi with
        | none => cases u <;> first | exact h.elim | exact ⟨h.1, hk _ _ h.2⟩
        | some v => cases u <;> cases v <;> first | exact h.elim | exact ⟨h.1, hk _ _ h.2⟩
    case array n e =>
      cases x <;> first | exact h.elim | skip
      simp only at h ⊢
      refine SO_mono (fun a s h => SZ_mono (fun m s h => ?_) h) h
      cases lo with
      | none =>
        cases hi with
        | none => exact ⟨h.1, hk _ _ h.2⟩
        | some v => cases v <;> first | exact h.elim | exact ⟨h.1, hk _ _ h.2⟩
      | some u =>
        cases hi with
        | none => cases u <;> first | exact h.elim | exact ⟨h.1, hk _ _ h.2⟩
        | some v => cases u <;> cases v <;> first | exact h.elim | exact ⟨h.1, hk _ _ h.2⟩
theorem fad_mono {t : TypeId} {x : Value} {j : Nat} {K K' : VK} (hk : ∀ v s, K v s → K' v s) (h : fad P t x j K s) : fad P t x j K' s := by
  unfold fad at h ⊢
  cases hu : P.underlying t with
  | none => simp only [hu] at h; exact h.elim
  | some d =>
    simp only [hu] at h ⊢
    cases d <;> first | exact h.elim | skip
    rename_i fs
    cases x <;> first | exact h.elim | skip
    obtain ⟨a, rfl, h'⟩ := SO_elim h
    show (match fs.toList[j]? with | some f => _ | none => FF) s
    cases hf : fs.toList[j]? with
    | none => simp only [hf] at h'; exact h'.elim
    | some f =>
      simp only [hf] at h' ⊢
      refine SZ_mono (fun m s h => ?_) h'
      cases hb : Nat.beq m 0 with
      | false => simp only [hb] at h ⊢; exact hk _ _ h
      | true =>
        simp only [hb] at h ⊢
        cases hc : (Nat.beq f.offset 0 && Nat.beq f.byteOffset 0) with
        | false => simp only [hc] at h; exact h.elim
        | true => simp only [hc] at h ⊢; exact ⟨h.1, hk _ _ h.2⟩
theorem fld_mono {t : TypeId} {x : Value} {j : Nat} {K K' : VK} (hk : ∀ v s, K v s → K' v s) (h : fld P t x j K s) : fld P t x j K' s := by
  unfold fld at h ⊢
  cases hu : P.underlying t with
  | none => simp only [hu] at h; exact h.elim
  | some d =>
    simp only [hu] at h ⊢
    cases d <;> first | exact h.elim | skip
    rename_i fs
    cases x <;> first | exact h.elim | skip
    rename_i c
    simp only at h ⊢
    cases hf : fs.toList[j]? with
    | none => simp only [hf] at h; exact h.elim
    | some f =>
      simp only [hf] at h ⊢
      cases hag : agO P f.type with
      | none => simp only [hag] at h; exact h.elim
      | some b =>
        cases b with
        | true => simp only [hag] at h ⊢; exact SZ_mono (fun m s h => hk _ _ h) h
        | false =>
          simp only [hag] at h ⊢
          cases hv : c.toList[f.offset]? with
          | none => simp only [hv] at h; exact h.elim
          | some v => simp only [hv] at h ⊢; exact hk _ _ h
theorem APP_mono {t : TypeId} {es : Nat} {x : Option Addr} {l c : Nat} {y : Option Addr} {m : Nat} {K K' : Option Addr → Nat → Nat → Hp → Prop} (hk : ∀ a l c s, K a l c s → K' a l c s) (h : APP P t es x l c y m K s) : APP P t es x l c y m K' s := by
  obtain ⟨h1, vs, h2, h3⟩ := h
  refine ⟨h1, vs, h2, ?_⟩
  split at h3
  · rename_i hc
    rw [if_pos hc]
    cases x with
    | none => exact hk _ _ _ _ h3
    | some a => exact wrN_mono _ _ _ _ _ (fun s h => hk _ _ _ _ h) _ h3
  · rename_i hc
    rw [if_neg hc]
    obtain ⟨ws, h4, h5⟩ := h3
    exact ⟨ws, h4, fun c' g1 g2 => hk _ _ _ _ (h5 c' g1 g2)⟩
theorem COPY_mono {es : Nat} {x : Option Addr} {l : Nat} {y : Option Addr} {m : Nat} {K K' : Int → Hp → Prop} (hk : ∀ n s, K n s → K' n s) (h : COPY es x l y m K s) : COPY es x l y m K' s := by
  obtain ⟨vs, h1, h2⟩ := h
  refine ⟨vs, h1, ?_⟩
  cases x with
  | none => exact hk _ _ h2
  | some a => exact wrN_mono _ _ _ _ _ (fun s h => hk _ _ h) _ h2
theorem bltin_mono {b : Builtin} {ts : List TypeId} {args : List Value} {K K' : VK} (hk : ∀ v s, K v s → K' v s) (h : bltin P b ts args K s) : bltin P b ts args K' s := by
  have hlen : ∀ {args : List Value}, bltin P .len ts args K s → bltin P .len ts args K' s := fun {args} h => by
    by_cases hm : ∀ k v, (ts[0]?).bind P.underlying ≠ some (.map k v)
    · obtain ⟨v, h1, h2⟩ := len_pure hm h
      exact h2 _ _ (hk _ _ h1)
    · obtain ⟨k, hm⟩ := Classical.not_forall.1 hm
      obtain ⟨v, hm⟩ := Classical.not_forall.1 hm
      have hm := Classical.not_not.1 hm
      unfold bltin at h ⊢
      cases args with
      | nil => exact h.elim
      | cons x r =>
        cases r with
        | cons y z => exact h.elim
        | nil =>
          simp only [hm] at h ⊢
          cases x <;> first | exact h.elim | skip
          rename_i m
          cases m with
          | none => exact hk _ _ h
          | some r =>
            obtain ⟨es, cl, h1, h2⟩ := h
            exact ⟨es, cl, h1, hk _ _ h2⟩
  by_cases hb : b = .len
  · subst hb; exact hlen h
  · unfold bltin at h ⊢
    split at h
    · exact absurd rfl hb
    · exact hk _ _ h
    · exact hk _ _ h
    · rename_i k a x y z r
      cases hm : mxL a (x :: y :: z :: r) with
      | none => simp only [hm] at h; exact h.elim
      | some m => simp only [hm] at h ⊢; exact hk _ _ h
    · exact hk _ _ h
    · rename_i x l c y m c2
      cases h0 : (ts[0]?).bind P.underlying with
      | none => simp only [h0] at h; exact h.elim
      | some d =>
        simp only [h0] at h ⊢
        cases d <;> first | exact h.elim | skip
        rename_i e
        cases h1 : (ts[1]?).map (isSl P) with
        | none => simp only [h1] at h; exact h.elim
        | some bb =>
          simp only [h1] at h ⊢
          cases bb <;> first | exact h.elim | skip
          cases hb : (hasZero P e && Nat.beq (zc P e).length (P.cellsOf e) && Nat.ble (P.bytesOf e) 1000 && Nat.ble 1 (P.bytesOf e)) with
          | false => simp only [hb] at h; exact h.elim
          | true => simp only [hb] at h ⊢; exact APP_mono (fun a l c s h => hk _ _ h) h
    · rename_i x l c y m c2
      cases h0 : (ts[0]?).bind P.underlying with
      | none => simp only [h0] at h; exact h.elim
      | some d =>
        simp only [h0] at h ⊢
        cases d <;> first | exact h.elim | skip
        exact SZ_mono (fun m s h => COPY_mono (fun n s h => hk _ _ h) h) h
    · exact sp_mono P _ (fun v s h => ⟨h.1, hk _ _ h.2⟩) (fun v s h => h) _ h
    · rename_i x l c
      cases h0 : (ts[0]?).bind P.underlying with
      | none => simp only [h0] at h; exact h.elim
      | some d =>
        simp only [h0] at h ⊢
        cases d <;> first | exact h.elim | exact hk _ _ h
    · exact sp_mono P _ (fun v s h => ⟨h.1, hk _ _ h.2⟩) (fun v s h => h) _ h
    · exact SLV_mono (fun x l c s h => hk _ _ h) h
    · exact h.elim
theorem tas_mono {ty : TypeId} {ok : Bool} {x : Value} {K K' : VK} (hk : ∀ v s, K v s → K' v s) (h : tas P ty ok x K s) : tas P ty ok x K' s := by
  unfold tas at h ⊢
  cases hu : P.underlying ty with
  | none => simp only [hu] at h; exact h.elim
  | some d =>
    simp only [hu] at h ⊢
    cases d <;> simp only at h ⊢ <;> first | exact h.elim | skip
    all_goals
      unfold IFC at h ⊢
      cases x <;> first | exact h.elim | skip
      rename_i t v
      simp only at h ⊢
      cases hb : Nat.beq t ty <;> simp only [BR, hb] at h ⊢
      · cases ok with
        | false => exact h.elim
        | true =>
          cases hz : (P.info? ty).bind (·.zero) with
          | none => simp only [hz] at h; exact h.elim
          | some z => simp only [hz] at h ⊢; exact hk _ _ h
      · exact tyC_mono (fun v s h => hk _ _ h) h
theorem PAN_mono {x : Value} {E E' : List PanicEntry → Hp → Prop} (he : ∀ c s, E c s → E' c s) (h : PAN x E s) : PAN x E' s := by
  unfold PAN at h ⊢
  cases x <;> first | exact h.elim | exact he _ _ h
theorem RNM_mono {t : TypeId} {x : Value} {K K' : Nat → Hp → Prop} (hk : ∀ b s, K b s → K' b s) (h : RNM P t x K s) : RNM P t x K' s := by
  unfold RNM at h ⊢
  cases hu : P.underlying t with
  | none => simp only [hu] at h; exact h.elim
  | some d =>
    simp only [hu] at h ⊢
    cases d <;> first | exact h.elim | skip
    cases x <;> first | exact h.elim | skip
    rename_i m
    cases m with
    | none => exact h.elim
    | some m =>
      obtain ⟨es, cl, h1, h2⟩ := h
      exact ⟨es, cl, h1, hk _ _ h2⟩
theorem ixv_mono {t : TypeId} {x i : Value} {K K' : VK} (hk : ∀ v s, K v s → K' v s) (h : ixv P t x i K s) : ixv P t x i K' s := by
  unfold ixv at h ⊢
  cases hu : P.underlying t with
  | none => simp only [hu] at h; exact h.elim
  | some d =>
    simp only [hu] at h ⊢
    cases d <;> first | exact h.elim | skip
    case array l e =>
      cases x <;> first | exact h.elim | skip
      rename_i c
      cases i <;> first | exact h.elim | skip
      rename_i k n
      simp only at h ⊢
      cases hag : agO P e with
      | none => simp only [hag] at h; exact h.elim
      | some b =>
        cases b with
        | true =>
          simp only [hag] at h ⊢
          refine SZ_mono (fun m s h => ?_) h
          unfold IXH at h ⊢
          cases hd : decide (0 ≤ n ∧ n < l) with
          | false => simp only [hd] at h; exact h.elim
          | true => simp only [hd] at h ⊢; exact tyC_mono hk h
        | false =>
          simp only [hag] at h ⊢
          refine SZ_mono (fun m s h => ?_) h
          unfold IXG at h ⊢
          cases hd : decide (0 ≤ n ∧ n < l) with
          | false => simp only [hd] at h; exact h.elim
          | true =>
            cases hc : c.toList[n.toNat * m]? with
            | none => simp only [hd, hc] at h; exact h.elim
            | some v => simp only [hd, hc] at h ⊢; exact tc1_mono hk h
    case string =>
      cases x <;> first | exact h.elim | skip
      cases i <;> first | exact h.elim | skip
      exact ⟨h.1, hk _ _ h.2⟩
theorem vop_mono {o : Oper} {t : Tm} {K K' : VK} {E E' : List PanicEntry → Hp → Prop} (hk : ∀ v s, K v s → K' v s) (he : ∀ c s, E c s → E' c s) (h : vop P W o t K E s) : vop P W o t K' E' s := by
  by_cases hq : quiet o = true ∧ fieldOk P o = true
  · obtain ⟨v, h1, h2⟩ := vop_val hq.1 hq.2 h
    exact h2 _ _ (hk _ _ h1)
  · have ty : ∀ {v s}, tyR P o.type v K s → tyR P o.type v K' s := fun {v s} h => by
      obtain ⟨h1, h2⟩ := tyR_pure h
      exact h2 _ _ (hk _ _ h1)
    obtain ⟨dst, op, type, pos, after, guard⟩ := o
    unfold vop at h ⊢
    simp only at h ⊢ ty
    cases op <;> (try simp only at h ⊢) <;> first | exact h.elim | exact hk _ _ h | exact absurd ⟨rfl, rfl⟩ hq | skip
    case alloc e =>
      cases hz : hasZero P e with
      | false => simp only [hz] at h; exact h.elim
      | true => simp only [hz] at h ⊢; exact hk _ _ h
    case box e x => exact SZ_mono (fun m s h => CS_mono (fun l s h => hk _ _ h) h) h
    case buildSlice ty len ps => exact BSL_mono hk h
    case store ty p x => exact ST_mono (fun s h => hk _ _ h) h
    case makeSlice ty l c => exact mks_mono hk h
    case fieldAddr ty x j => exact fad_mono hk h
    case slice ty x lo hi mx =>
      cases mx with
      | some m => exact SLV_mono (fun x l c s h => hk _ _ h) h
      | none => exact slc_mono hk h
    case field ty x j => exact fld_mono hk h
    case typeAssert x xt ty ok => exact tas_mono hk h
    case convert z d x =>
      cases hb : (Nat.beq z d && isSl P z) with
      | true => simp only [hb] at h ⊢; exact SLV_mono (fun x l c s h => hk _ _ h) h
      | false => simp only [hb] at h ⊢; exact CVT_mono hk h
    case makeMap ty r =>
      cases r with
      | some r => exact h.elim
      | none => exact hk _ _ h
    case lookup t0 x i ok => exact sp_mono P _ (fun v s h => ty h) (fun v s h => h) _ h
    case mapUpdate ty m k x => exact sp_mono P _ (fun v s h => hk _ _ h) (fun v s h => h) _ h
    case insert ty m k x => exact sp_mono P _ (fun v s h => hk _ _ h) (fun v s h => h) _ h
    case range ty x => exact RNM_mono (fun b s h => hk _ _ h) h
    case next it b =>
      cases b with
      | true => exact h.elim
      | false => exact sp_mono P _ (fun v s h => h.elim (fun h => .inl ⟨h.1, hk _ _ h.2⟩) (fun ⟨k, x, h1, h2⟩ => .inr ⟨k, x, h1, hk _ _ h2⟩)) (fun v s h => h) _ h
    case entry it => exact sp_mono P _ (fun v s ⟨k, x, h1, h2⟩ => ⟨k, x, h1, hk _ _ h2⟩) (fun v s h => h) _ h
    case index ty x i => exact ixv_mono hk h
    case panic x => exact PAN_mono he h
    case call c =>
      obtain ⟨callee, args, argTypes⟩ := c
      cases callee with
      | value x =>
        cases x with
        | func f =>
          cases hx : isExt P f with
          | false => simp only [hx] at h ⊢; exact CALL_mono (fun v s h => ty h) he h
          | true => simp only [hx] at h ⊢; exact EXT_mono (fun v s h => ty h) h
        | tmp i => exact CALLV_mono (fun v s h => ty h) he h
        | const v => exact CALLV_mono (fun v s h => ty h) he h
        | global g => exact CALLV_mono (fun v s h => ty h) he h
      | invoke x m => exact INV_mono (fun v s h => ty h) he h
      | builtin b => exact bltin_mono hk h
end
section
variable {P : Program} {W : World} {n : Nat} {rs : List Nat} {an : Nat → Ann}
theorem BR_mono {b : Bool} {x y x' y' : Hp → Prop} (hx : ∀ s, x s → x' s) (hy : ∀ s, y s → y' s) : ∀ s, BR b x y s → BR b x' y' s := by
  intro s h
  cases b with
  | true => exact hx s h
  | false => exact hy s h
theorem grd_mono {d : Option Nat} {want : Bool} {t : Tm} {run skip run' skip' : Tm → Hp → Prop} (hr : ∀ t s, run t s → run' t s) (hs : ∀ t s, skip t s → skip' t s) {s : Hp} (h : grd n d want t run skip s) : grd n d want t run' skip' s := by
  unfold grd at h ⊢
  cases d with
  | none => exact hs _ _ h
  | some d =>
    simp only at h ⊢
    cases ht : t d <;> simp only [ht] at h ⊢ <;> first | exact h.elim | exact hs _ _ h | skip
    cases want
    · exact BR_mono (fun s h => hs _ _ h) (fun s h => hr _ _ h) s h
    · exact BR_mono (fun s h => hr _ _ h) (fun s h => hs _ _ h) s h
theorem ENTY_mono {r : List Oper} {o : Oper} {v : Value} {K K' : VK} {s : Hp} (hk : ∀ v s, K v s → K' v s) (h : ENTY P r o v K s) : ENTY P r o v K' s := by
  obtain ⟨dst, op, type, pos, after, guard⟩ := o
  unfold ENTY at h ⊢
  cases op <;> first | exact hk _ _ h | skip
  cases dst with
  | none => exact hk _ _ h
  | some d =>
  simp only at h ⊢
  cases h1 : exT r d 0 <;> simp only [h1] at h ⊢ <;> first | exact hk _ _ h | skip
  cases h2 : exT r d 1 <;> simp only [h2] at h ⊢ <;> first | exact hk _ _ h | skip
  rename_i t u
  cases hb : isAg P t || isAg P u <;> simp only [hb] at h ⊢ <;> first | exact hk _ _ h | skip
  unfold TUP at h ⊢
  cases v <;> first | exact h.elim | skip
  obtain ⟨h1, h2⟩ := tyTs_pure _ _ _ h
  exact h2 _ _ (hk _ _ h1)
theorem vrun_mono {rd : Bool} {r : List Oper} {o : Oper} {K K' : Kt} (hk : ∀ e t s, K e t s → K' e t s) {rest rest' : Tm → Hp → Prop} (hr : ∀ t s, rest t s → rest' t s) {t : Tm} {s : Hp} (h : vrun P W n rs rd r o K rest t s) : vrun P W n rs rd r o K' rest' t s := by
  by_cases hdf : ∃ c, o.op = .defer c
  · unfold vrun at h ⊢
    obtain ⟨⟨callee, args, ats⟩, hop⟩ := hdf
    simp only [hop] at h ⊢
    cases callee <;> first | exact h.elim | skip
    rename_i x
    cases rd <;> first | exact h.elim | skip
    simp only at h ⊢
    cases hx : ev t x <;> simp only [hx] at h ⊢ <;> first | exact h.elim | skip
    rename_i fn first cap
    obtain ⟨first⟩ := first
    cases fn <;> first | exact h.elim | skip
    cases first <;> first | exact h.elim | skip
    cases ht : t n <;> simp only [ht] at h ⊢ <;> first | exact h.elim | skip
    rename_i l
    obtain ⟨l⟩ := l
    cases l with
    | nil => exact hr _ _ h
    | cons x y => exact h.elim
  · have hnd : ∀ c, o.op ≠ .defer c := fun c hc => hdf ⟨c, hc⟩
    have e : ∀ (K : Kt) (rest : Tm → Hp → Prop), vrun P W n rs rd r o K rest t = vop P W o t (fun v => ENTY P r o v fun v => rest (updo n o.dst v t)) (fun c => K (.panic c) (prj rs t)) := by
      intro K rest
      unfold vrun
      cases hop : o.op <;> first | rfl | exact absurd hop (hnd _)
    rw [e] at h ⊢
    exact vop_mono (fun v s h => ENTY_mono (fun v s h => hr _ _ h) h) (fun c s h => hk _ _ _ h) h
theorem vops_mono {rd : Bool} {ops : List Oper} {K K' : Kt} (hk : ∀ e t s, K e t s → K' e t s) : ∀ (l : List Oper) (t : Tm) (s : Hp), vops P W n rs rd ops K l t s → vops P W n rs rd ops K' l t s
  | [], t, s, h => hk _ _ _ h
  | o :: l, t, s, h => by
    have ih := vops_mono (rd := rd) (ops := ops) hk l
    unfold vops at h ⊢
    cases hg : o.guard with
    | none => simp only [hg] at h ⊢; exact vrun_mono hk ih h
    | some jw =>
      obtain ⟨j, w⟩ := jw
      simp only [hg] at h ⊢
      exact grd_mono (fun t s h => vrun_mono hk ih h) (fun t s h => ih _ _ h) h
theorem sames_mono {ops : List Oper} {m : Nat} {t : Tm} {K K' : Hp → Prop} (hk : ∀ s, K s → K' s) : ∀ (L : List Nat) (s : Hp), sames P W n ops m t L K s → sames P W n ops m t L K' s
  | [], s, h => hk s h
  | q :: L, s, h => by
    have ih := sames_mono (ops := ops) (m := m) (t := t) hk L
    unfold sames at h ⊢
    cases ho : ops[q]? with
    | none => simp only [ho] at h ⊢; exact ih _ h
    | some o =>
      simp only [ho] at h ⊢
      cases hb : (isLoad o && !bit m q) with
      | false => simp only [hb] at h ⊢; exact ih _ h
      | true =>
        cases hd : o.dst with
        | none => simp only [hb, hd] at h ⊢; exact ih _ h
        | some d =>
          simp only [hb, hd] at h ⊢
          cases hg : o.guard with
          | none => simp only [hg] at h ⊢; exact ⟨h.1, ih _ h.2⟩
          | some jw => simp only [hg] at h ⊢; exact ⟨h.1, ih _ h.2⟩
theorem CONJ_map {α : Type} {f g : α → Hp → Prop} : ∀ (l : List α), (∀ x ∈ l, ∀ s, f x s → g x s) → ∀ s, CONJ (l.map f) s → CONJ (l.map g) s
  | [], _, s, h => h
  | [x], hl, s, h => hl x (by simp) s h
  | x :: y :: l, hl, s, h => ⟨hl x (by simp) s h.1, CONJ_map (y :: l) (fun z hz => hl z (by simp [hz])) s h.2⟩
theorem dops_mono {acc : Bool} {ops : List Oper} {ms : List Nat} {K K' : Kt} (hk : ∀ e t s, K e t s → K' e t s) : ∀ (f : Nat) (L : List Nat) (t : Tm) (s : Hp), dops P W n rs acc ops ms K f L t s → dops P W n rs acc ops ms K' f L t s
  | 0, L, t, s, h => h
  | f + 1, L, t, s, h => by
    have ih := dops_mono (acc := acc) (ops := ops) (ms := ms) hk f
    unfold dops at h ⊢
    cases hq : findQ L ops 0 with
    | some io =>
      obtain ⟨i, o⟩ := io
      simp only [hq] at h ⊢
      cases hg : o.guard with
      | none => simp only [hg] at h ⊢; exact vop_mono (fun v s h => ih _ _ _ h) (fun c s h => h) h
      | some jw =>
        obtain ⟨j, w⟩ := jw
        simp only [hg] at h ⊢
        exact grd_mono (fun t s h => vop_mono (fun v s h => ih _ _ _ h) (fun c s h => h) h) (fun t s h => ih _ _ _ h) h
    | none =>
      simp only [hq] at h ⊢
      cases he : findE L ops 0 with
      | nil => simp only [he] at h ⊢; exact hk _ _ _ h
      | cons e es =>
        simp only [he] at h ⊢
        refine CONJ_map _ (fun io _ s h => ?_) s h
        obtain ⟨i, o⟩ := io
        simp only at h ⊢
        cases hg : o.guard with
        | none => simp only [hg] at h ⊢; exact vop_mono (fun v s h => sames_mono (fun s h => ih _ _ _ h) _ _ h) (fun c s h => hk _ _ _ h) h
        | some jw =>
          obtain ⟨j, w⟩ := jw
          simp only [hg] at h ⊢
          exact grd_mono (fun t s h => vop_mono (fun v s h => sames_mono (fun s h => ih _ _ _ h) _ _ h) (fun c s h => hk _ _ _ h) h) (fun t s h => ih _ _ _ h) h
theorem KSeq_mono {y y' : Tm → Hp → Prop} {K K' : Kt} (hy : ∀ t s, y t s → y' t s) (hk : ∀ e t s, K e t s → K' e t s) : ∀ e t s, KSeq y K e t s → KSeq y' K' e t s := by
  intro e t s h
  cases e <;> first | exact hy _ _ h | exact hk _ _ _ h
theorem KBlk_mono {id : Nat} {K K' : Kt} (hk : ∀ e t s, K e t s → K' e t s) : ∀ e t s, KBlk id K e t s → KBlk id K' e t s := by
  intro e t s h
  cases e <;> first | exact hk _ _ _ h | skip
  rename_i j
  simp only [KBlk] at h ⊢
  cases hb : Nat.beq j id <;> simp only [hb] at h ⊢ <;> exact hk _ _ _ h
theorem KLoop_K {ms us : List Nat} {zs : List Value} {nx : List Value → Hp → Prop} {K K' : Kt} (hk : ∀ e t s, K e t s → K' e t s) : ∀ e t s, KLoop ms us zs nx K e t s → KLoop ms us zs nx K' e t s := by
  intro e t s h
  cases e <;> first | exact h | exact hk _ _ _ h
theorem ALLK_mono : ∀ (ks : List Kd) (F G : List Value → Prop), (∀ vs, F vs → G vs) → ALLK ks F → ALLK ks G
  | [], F, G, h, a => h _ a
  | k :: ks, F, G, h, a => by
    cases k with
    | l => exact fun x l c => ALLK_mono ks _ _ (fun vs h' => h _ h') (a x l c)
    | _ => exact fun x => ALLK_mono ks _ _ (fun vs h' => h _ h') (a x)
theorem vc_mono : ∀ {rd : Bool} {c : Code} {b : Nat} {K K' : Kt}, (∀ e t s, K e t s → K' e t s) → ∀ t s, vc P W n rs an rd c b K t s → vc P W n rs an rd c b K' t s := by
  intro rd c
  induction c generalizing rd with
  | skip => exact fun h t s hv => h _ _ _ hv
  | label => exact fun h t s hv => h _ _ _ hv
  | ret => exact fun h t s hv => h _ _ _ hv
  | exit => exact fun h t s hv => h _ _ _ hv
  | goto => exact fun h t s hv => hv
  | refuse => exact fun h t s hv => hv
  | region id ops draws =>
    intro b K K' h t s hv
    cases draws with
    | false => exact vops_mono h _ _ _ hv
    | true =>
      unfold vc at hv ⊢
      cases hd : drOk P rs ops.toList with
      | false => simp only [hd] at hv; exact hv.elim
      | true =>
        simp only [hd] at hv ⊢
        cases ha : (an (2000000 + id)).rt with
        | false => simp only [ha] at hv ⊢; exact dops_mono h _ _ _ _ hv
        | true => simp only [ha] at hv ⊢; exact fun j => dops_mono h _ _ _ _ (hv j)
  | seq x y ihx ihy => exact fun h t s hv => ihx (KSeq_mono (fun t s h' => ihy h _ _ h') h) _ _ hv
  | cond c x y ihx ihy =>
    intro b K K' h t s hv
    unfold vc at hv ⊢
    cases hb : ev t c <;> simp only [hb] at hv ⊢ <;> first | exact hv.elim | skip
    exact BR_mono (fun s h' => ihx h _ _ h') (fun s h' => ihy h _ _ h') s hv
  | block id c ih => exact fun h t s hv => ih (KBlk_mono h) _ _ hv
  | loop c ih =>
    intro b K K' h t s hv
    unfold vc at hv ⊢
    obtain ⟨I, μ, h0, hB⟩ := hv
    refine ⟨I, μ, h0, ALLK_mono _ _ _ (fun ys hy s hI j => ?_) hB⟩
    exact ih (KLoop_K h) _ _ (hy s hI j)
  | scope c ih => exact fun h t s hv => ih h _ _ hv
  | rangeFunc f ps x y ihx ihy =>
    intro b K K' h t s hv
    unfold vc at hv ⊢
    cases rd with
    | true => exact hv
    | false =>
      have haft : ∀ c s, AFT (K .normal t) (match (an b).rt with | true => K .ret t | false => FF) (EXL (an b).ex fun id => K (.exit id) t) (some c) s →
          AFT (K' .normal t) (match (an b).rt with | true => K' .ret t | false => FF) (EXL (an b).ex fun id => K' (.exit id) t) (some c) s := by
        intro c s this
        simp only [AFT] at this ⊢
        cases c <;> first | exact this | skip
        case ret =>
          cases hrt : (an b).rt with
          | true => simp only [hrt] at this ⊢; exact h _ _ _ this
          | false => simp only [hrt] at this; exact this.elim
        case exit id =>
          have hex : ∀ (l : List Nat) (s : Hp), EXL l (fun id => K (.exit id) t) id s → EXL l (fun id => K' (.exit id) t) id s := by
            intro l
            induction l with
            | nil => exact fun s h => h
            | cons j l ih =>
              intro s h'
              unfold EXL at h' ⊢
              cases hb : Nat.beq id j with
              | true => simp only [hb] at h' ⊢; exact h _ _ _ h'
              | false => simp only [hb] at h' ⊢; exact ih s h'
          exact hex _ _ this
      cases hpn : (an b).pn with
      | false =>
        simp only [hpn] at hv ⊢
        obtain ⟨N, Y, R, m, I, S, g1, g2, ga, g3, g4, gb, g5, g6, g7, g8⟩ := hv
        exact ⟨N, Y, R, m, I, S, g1, g2, ga, g3, g4, gb, g5, g6, fun s hs => h _ _ _ (g7 s hs), fun c s hs => haft c s (g8 c s hs)⟩
      | true =>
        simp only [hpn] at hv ⊢
        cases hR : hasR x || hasR y || !(rs.any (Nat.beq n)) with
        | true => simp only [hR] at hv; exact hv.elim
        | false =>
          simp only [hR] at hv ⊢
          obtain ⟨N, Y, R, R0, q, Fi, Z, I, S, T, g1, g2, g3, g4, g5, g6, g7, g8, g9, ga, gb, gc, gd, ge, gf, gg⟩ := hv
          exact ⟨N, Y, R, R0, q, Fi, Z, I, S, T, g1, g2, g3, g4, g5, g6, g7, g8, g9, ga, gb, gc, fun z s hz hz2 hF hs => h _ _ _ (gd z s hz hz2 hF hs), fun z c s hz hz2 hs => haft c s (ge z c s hz hz2 hs),
            fun z c s hz hz2 hs => h _ _ _ (gf z c s hz hz2 hs), fun z k c s hz hz2 hZ hs => h _ _ _ (gg z k c s hz hz2 hZ hs)⟩
end
section
variable {P : Program} {W : World} {n : Nat} {rs : List Nat}
def ru (ρ : Nat → Value) (k : Nat) (v : Value) : Nat → Value := fun i => if i = k then v else ρ i
end
theorem KLoop_mono {ms us : List Nat} {zs : List Value} {nx nx' : List Value → Hp → Prop} {K : Kt} (h : ∀ vs s, nx vs s → nx' vs s) : ∀ e t s, KLoop ms us zs nx K e t s → KLoop ms us zs nx' K e t s := by
  intro e t s hk
  cases e <;> first | exact hk | exact ⟨hk.1, h _ _ hk.2⟩
section
variable {s s' s'' t : Hp} {a b : Addr} {v w : Value} {o : Obj}
theorem Ext.refl (s : Hp) : Ext s s := ⟨Nat.le_refl _, fun _ _ => rfl⟩
theorem Ext.trans (h : Ext s s') (k : Ext s' s'') : Ext s s'' := ⟨Nat.le_trans h.1 k.1, fun b hb => (k.2 b (Nat.lt_of_lt_of_le hb h.1)).trans (h.2 b hb)⟩
theorem Ext.push (h : Ext s s') : Ext s (s'.push o) := ⟨by simp; exact Nat.le_succ_of_le h.1, fun b hb => by
  rw [Array.getElem?_push, if_neg (by have := h.1; omega)]; exact h.2 b hb⟩
theorem Ext.setC (h : Ext s s') (hb : s.size ≤ a.block) : Ext s (setC s' a v) := ⟨by rw [setC_size]; exact h.1, fun b hlt => by
  rw [setC_get _ _ _ (by omega)]; exact h.2 b hlt⟩
theorem cell_lt (h : cellAt s a = some v) : a.block < s.size := by
  obtain ⟨c, t, f, hb⟩ := block_of_cell h
  exact (Array.getElem?_eq_some_iff.1 hb).1
theorem cell_of_block (h : s'[a.block]? = s[a.block]?) : cellAt s' a = cellAt s a := by unfold cellAt; rw [h]
theorem frozen_of_block (h : s'[a.block]? = s[a.block]?) : frozenAt s' a = frozenAt s a := by unfold frozenAt; rw [h]
theorem Ext.cell (e : Ext s s') (h : cellAt s a = some v) : cellAt s' a = some v := by rw [cell_of_block (e.2 _ (cell_lt h))]; exact h
def Own (s : Hp) (a : Addr) (v : Value) : Prop := cellAt s a = some v ∧ frozenAt s a = false
theorem Own.cell (h : Own s a v) : cellAt s a = some v := h.1
theorem Own.lt (h : Own s a v) : a.block < s.size := cell_lt h.1
theorem Ext.own (e : Ext s s') (h : Own s a v) : Own s' a v := ⟨e.cell h.1, by rw [frozen_of_block (e.2 _ h.lt)]; exact h.2⟩
theorem own_new {cs : List Value} {ty : TypeId} {i : Nat} (h : cs[i]? = some v) : Own (s.push (.cells cs.toArray ty (0, 0))) ⟨s.size, i, none⟩ v := by
  have hb : (s.push (.cells cs.toArray ty (0, 0)))[s.size]? = some (.cells cs.toArray ty (0, 0)) := by rw [Array.getElem?_push, if_pos rfl]
  refine ⟨?_, ?_⟩
  · unfold cellAt; simp only [hb]; simpa using h
  · unfold frozenAt; simp only [hb]; simp
theorem setC_block {c : Array Value} {t : TypeId} {f : Nat × Nat} (h : s[a.block]? = some (.cells c t f)) (hs : a.spot = none) : (setC s a v)[a.block]? = some (.cells (c.setIfInBounds a.off v) t f) := by
  unfold Go.V.setC
  rw [Array.getElem?_modify, if_pos rfl, h]
  simp [hs]
theorem cell_spot (h : cellAt s a = some v) : a.spot = none := by
  obtain ⟨c, t, f, hb⟩ := block_of_cell h
  unfold cellAt at h
  simp only [hb] at h
  cases hs : a.spot with
  | none => rfl
  | some x => simp [hs] at h
theorem own_set (h : Own s a w) : Own (setC s a v) a v := by
  obtain ⟨c, t, f, hb⟩ := block_of_cell h.1
  have hs := cell_spot h.1
  have h2 := setC_block (v := v) hb hs
  have h1 := h.1
  unfold cellAt at h1
  simp only [hb, hs, Option.isSome_none, Bool.false_eq_true, if_false] at h1
  have hlt : a.off < c.size := (Array.getElem?_eq_some_iff.1 h1).1
  refine ⟨?_, ?_⟩
  · unfold cellAt
    simp only [h2, hs, Option.isSome_none, Bool.false_eq_true, if_false]
    simp [hlt]
  · have := h.2
    unfold frozenAt at this ⊢
    simp only [hb] at this
    simp only [h2]
    exact this
theorem cell_set_ne (hne : b.block ≠ a.block ∨ b.off ≠ a.off) (h : cellAt s b = some v) : cellAt (setC s a w) b = some v := by
  by_cases hb : b.block = a.block
  · have ho := hne.resolve_left (fun h => h hb)
    obtain ⟨c, t, f, hblk⟩ := block_of_cell h
    have hs := cell_spot h
    have h1 := h
    unfold cellAt at h1 ⊢
    simp only [hblk, hs, Option.isSome_none, Bool.false_eq_true, if_false] at h1
    unfold Go.V.setC
    rw [Array.getElem?_modify, if_pos hb.symm, hblk]
    simp only [Option.map_some, hs, Option.isSome_none, Bool.false_eq_true, if_false]
    cases a.spot with
    | none => simp only [Option.isSome_none, Bool.false_eq_true, if_false]; rw [Array.getElem?_setIfInBounds_ne (fun e => ho e.symm)]; exact h1
    | some x => simpa using h1
  · rw [cell_of_block (setC_get _ _ _ hb)]; exact h
theorem own_set_ne (hne : b.block ≠ a.block ∨ b.off ≠ a.off) (h : Own s b v) : Own (setC s a w) b v := by
  refine ⟨cell_set_ne hne h.1, ?_⟩
  by_cases hb : b.block = a.block
  · have hf := h.2
    obtain ⟨c, t, f, hblk⟩ := block_of_cell h.1
    unfold frozenAt at hf ⊢
    unfold Go.V.setC
    rw [Array.getElem?_modify, if_pos hb.symm, hblk]
    simp only [hblk] at hf
    simpa using hf
  · rw [frozen_of_block (setC_get _ _ _ hb)]; exact h.2
theorem BR_dec {p : Prop} [Decidable p] {x y : Hp → Prop} (h1 : p → x s) (h2 : ¬ p → y s) : BR (decide p) x y s := by
  by_cases hp : p
  · rw [decide_eq_true hp]; exact h1 hp
  · rw [decide_eq_false hp]; exact h2 hp
theorem BR_bool {c : Bool} {x y : Hp → Prop} (h1 : c = true → x s) (h2 : c = false → y s) : BR c x y s := by
  cases c with
  | true => exact h1 rfl
  | false => exact h2 rfl
theorem BR_not {c : Bool} {x y : Hp → Prop} (h1 : c = false → x s) (h2 : c = true → y s) : BR (!c) x y s := by
  cases c with
  | true => exact h2 rfl
  | false => exact h1 rfl
theorem BR_eq {α : Type} [BEq α] [LawfulBEq α] {a b : α} {x y : Hp → Prop} (h1 : a = b → x s) (h2 : a ≠ b → y s) : BR (a == b) x y s :=
  BR_bool (fun h => h1 (by simpa using h)) (fun h => h2 (by simpa using h))
theorem BR_ne {α : Type} [BEq α] [LawfulBEq α] {a b : α} {x y : Hp → Prop} (h1 : a ≠ b → x s) (h2 : a = b → y s) : BR (a != b) x y s :=
  BR_bool (fun h => h1 (by simpa using h)) (fun h => h2 (by simpa using h))
theorem WR_own {x : Value} {K : Hp → Prop} (h : Own s a x) (h1 : oneCell v = true) (hk : K (setC s a v)) : WR a v K s := ⟨⟨h1, ⟨_, h.1⟩, h.2⟩, hk⟩
theorem CALLV_func {P : Program} {W : World} {f : FuncId} {args : List Value} {cap : Array Value} {K : VK} {E : List PanicEntry → Hp → Prop} (h : CALL P W f (args ++ cap.toList) K E s) : CALLV P W (.func (.func f) #[] cap) args K E s := by
  show Does P W f (#[] ++ args.toArray ++ cap) s _
  have e : (#[] ++ args.toArray ++ cap : Array Value) = (args ++ cap.toList).toArray := Array.ext' (by simp)
  rw [e]; exact h
end
theorem wrap_i64 {n : Int} (h0 : -9223372036854775808 ≤ n) (h1 : n ≤ 9223372036854775807) : IntKind.i64.wrap n = n := wrap64_id h0 h1
section
variable {P : Program} {W : World} {s : Hp}
theorem rel_start {n : Nat} {k0 : Nat → Prop} {X : Nat → Prop} {h : Hp} {args : List Value} (hlen : args.length ≤ n) : Rel n k0 X h { tmps := args.toArray ++ Array.replicate (n - args.toArray.size) undef, defers := [] } (start args 0) := by
  refine ⟨by simp; omega, fun i hi => ?_, ?_⟩
  · rw [start_get, if_pos (Nat.zero_le _)]
    show Array.getD (args.toArray ++ _) i undef = _
    rw [Array.getD_eq_getD_getElem?]
    by_cases hlt : i < args.length
    · rw [Array.getElem?_append_left (by simpa using hlt)]
      simp [List.getD]
    · rw [Array.getElem?_append_right (by simpa using hlt)]
      have : args.getD (i - 0) undef = undef := by simp [List.getD]; rw [List.getElem?_eq_none (by omega)]; rfl
      rw [this, Array.getElem?_replicate]
      split <;> rfl
  · show start args 0 n = undef
    rw [start_get, if_pos (Nat.zero_le _)]
    simp [List.getD]
    rw [List.getElem?_eq_none (by omega)]; rfl
def Kdone (n : Nat) (K : Hp → Prop) : Kt := fun e t => match e with | .normal | .ret => fun s => t n = undef ∧ K s | _ => FF
theorem Dcd_none {X : Nat → Prop} {h : Hp} : ∀ {ds : List Deferred}, Dcd (fun _ => False) X h ds undef → ds = []
  | [], _ => rfl
  | d :: ds, hd => by
    rcases hd with ⟨r, _, h2, _⟩ | ⟨f, cap, args, _, h2, _⟩
    · exact h2.elim
    · simp [undef] at h2
theorem told_ok {f : FuncId} {fn : Func} {id : Nat} {d : Nat} {ty : TypeId} {pos : String} {c : Code} {an : Nat → Ann} {args : List Value} {K : Hp → Prop} {rec : Option (List PanicEntry)} {v : Value}
    (hf : P.funcs[f]? = some fn) (hc : callable P f = true) (hb : fn.body = some (.seq (.region id #[{ dst := some d, op := .call { callee := .builtin .recover, args := #[], argTypes := #[] }, type := ty, pos := pos, after := #[], guard := none }] false) c))
    (hok : codeOk fn.ntmps c = true) (hnr : hasR c = false) (hres : fn.results = #[]) (hlen : args.length ≤ fn.ntmps)
    (hrec : (rec = none ∧ v = .nilIface) ∨ (rec = some [{ v := v, recovered := false }]))
    (h : vc P W fn.ntmps [fn.ntmps] an false c 0 (Kdone fn.ntmps K) (updo fn.ntmps (some d) v (start args 0)) s) : DoesD P W f args rec s K := by
  refine ⟨hc, fun X hp dr vis => ?_⟩
  refine callsDIn_of_wpSIn hf hb trivial ?_
  intro c₀ cs hmode
  refine wpSIn_seq (wpSIn_region ?_)
  have hfin : ∀ u', settle u' = .returning →
      c.wpSIn Fence.wide 0 P (bodyPostS P fn c₀ cs fun e u w' => (∃ v, e = .returned v) ∧ settle u = .returning ∧ Now W X hp K w') (({ tmps := args.toArray ++ Array.replicate (fn.ntmps - args.toArray.size) undef, defers := [] } : Act).put (some d) v) ({ c₀ with mode := u' } :: cs) (wat W hp dr) := by
    intro u' hset
    refine wpSIn_of_wpIn rfl ?_
    have hs := vc_sound (B := false) (W := W) (rs := [fn.ntmps]) (an := an) c hok none 0 (Kdone fn.ntmps K) (fun _ => False) _ s _ X hp dr (fun _ => hnr) (fun hh => by rw [hnr] at hh; cases hh) vis ((rel_start hlen).put (some d) v) h
    refine wpIn_mono hs ?_
    have hdone : ∀ (a' : Act) (X' : Nat → Prop) (h' : Hp) (d' : Nat) (s' : Hp) (t' : Tm), Vis X' h' s' → Ev X hp X' h' → Rel fn.ntmps (fun _ => False) X' h' a' t' → (t' fn.ntmps = undef ∧ K s') →
        a'.defers = [] ∧ ∃ u'', ({ c₀ with mode := u' } :: cs : List Frame) = { c₀ with mode := u'' } :: cs ∧ ∃ v, (results fn a'.tmps).run P (wat W h' d') = .ok v (wat W h' d') ∧ (∃ v', Ending.returned v = .returned v') ∧ settle u'' = .returning ∧ Now W X hp K (wat W h' d') := by
      intro a' X' h' d' s' t' v' e' rl' hk
      have hd := rl'.dfr
      rw [hk.1] at hd
      obtain ⟨vr, _, hrun⟩ := results_run (P := P) (W := W) (s := s') (fn := fn) (tmps := a'.tmps) (t := t') (R := fun _ _ => True) (by rw [hres]; intro i hi; simp [slotsOf] at hi) (by rw [hres]; trivial)
      exact ⟨Dcd_none hd, u', rfl, vr, hrun X' h' d' v', ⟨_, rfl⟩, hset, X', h', d', s', rfl, v', e', hk.2⟩
    intro e a' w' q
    cases e with
    | normal => obtain ⟨X', h', d', s', t', rfl, v', e', rl', hk⟩ := q; exact hdone a' X' h' d' s' t' v' e' rl' hk
    | ret => obtain ⟨X', h', d', s', t', rfl, v', e', rl', hk⟩ := q; exact hdone a' X' h' d' s' t' v' e' rl' hk
    | panic c => obtain ⟨X', h', d', s', t', rfl, v', e', rl', hk⟩ := q; exact hk.elim
    | exit id => obtain ⟨X', h', d', s', t', rfl, v', e', rl', hk⟩ := q; exact hk.elim
    | goto l => exact q.elim
    | outgrown => exact q.elim
  have hr : List.range (#[({ dst := some d, op := .call { callee := .builtin .recover, args := #[], argTypes := #[] }, type := ty, pos := pos, after := #[], guard := none } : Oper)]).size = [0] := rfl
  rw [hr]
  refine ⟨fun _ _ => trivial, ?_⟩
  show (match recoverD (c₀ :: cs) with
    | some (v, cs') => _
    | none => _)
  rcases hrec with ⟨rfl, rfl⟩ | rfl
  · have e1 : recoverD (c₀ :: cs) = none := by simp only [recoverD, hmode]
    rw [e1]
    have e2 : ({ c₀ with mode := .returning } : Frame) = c₀ := by
      have : c₀.mode = .returning := hmode
      rw [← this]
    have := hfin .returning rfl
    rw [e2] at this
    exact this
  · have e1 : recoverD (c₀ :: cs) = some (v, { c₀ with mode := .panicking [{ v := v, recovered := true }] } :: cs) := by simp only [recoverD, hmode]
    rw [e1]
    exact hfin _ rfl
theorem wpSIn_recover {F : Fence} {m id : Nat} {o : Oper} {r : List Oper} {d : Nat} {a : Act} {cs : List Frame} {w : World} {Q : Exit → Act → List Frame → World → Prop} (hro : F.round = none) (hab : ∀ f, F.fn f)
    (hop : o.op = .call { callee := .builtin .recover, args := #[], argTypes := #[] }) (hd : o.dst = some d) (hg : o.guard = none)
    (h : ∃ v cs', cs'.length = cs.length ∧ (recoverD cs = some (v, cs') ∨ recoverD cs = none ∧ v = .nilIface ∧ cs' = cs) ∧
      wpOpsIn F m P (o :: r).toArray (fun e a' w' => Q e a' cs' w') (List.range' 1 r.length) (a.put (some d) v) w) : (Code.region id (o :: r).toArray false).wpSIn F m P Q a cs w := by
  intro b k hb hr hF hroom
  obtain ⟨v, cs', hlen, hrec, hw⟩ := h
  have hrange : List.range (o :: r).toArray.size = 0 :: List.range' 1 r.length := by
    rw [List.range_eq_range']; simp [List.range'_succ]
  obtain ⟨e, a', w', hq, harr⟩ := wp_opsIn _ _ _ hw b k cs' (hr.trans hro.symm) hF (hlen ▸ hroom)
  have ho : ((o :: r).toArray)[0]? = some o := rfl
  have hwant : Region.wanted o (yielded (o :: r).toArray a.tmps) = true := by simp only [Region.wanted, hg]
  have hst : step P (lone (b.atR a (.inRegion (o :: r).toArray (0 :: List.range' 1 r.length) :: k)) cs w) = .next (lone (b.atR (a.put (some d) v) (.inRegion (o :: r).toArray (List.range' 1 r.length) :: k)) cs' w) := by
    have hgo := stepGR_op (P := P) (b := b) (a := a) (k := k) (cs := cs) (w := w) (rest := List.range' 1 r.length) ho hwant
    rw [hr, Oper.semAt_none] at hgo
    have hfin : ∀ v, (b.atR a (.inRegion (o :: r).toArray (0 :: List.range' 1 r.length) :: k)).finish v = b.atR (a.put o.dst v) (.inRegion (o :: r).toArray (List.range' 1 r.length) :: k) := by
      intro v; rw [Frame.finish_atR, ho]; rfl
    have hk : (b.atR a (.inRegion (o :: r).toArray (0 :: List.range' 1 r.length) :: k)).kind = .deferred := hb
    have htr := tryRecover_deferred hk cs
    have hex : (execOp a.eval o).run P w = .ok .recover w := by
      unfold execOp
      rw [hop]
      rfl
    rw [← hd]
    refine step_lone_go ?_
    rw [hgo, ← hfin]
    simp only [Frame.atR, hr] at htr ⊢
    rcases hrec with hrec | ⟨hrec, rfl, rfl⟩
    · simp [stepG.apply, hex, htr, hrec]
    · simp [stepG.apply, hex, htr, hrec]
  refine ⟨e, a', cs', w', hlen, hq, .of_steps (.one (fenced_calm hF hroom rfl) stepR_region) ?_⟩
  rw [hrange]
  exact .of_steps (.one (fenced_oper hF hroom ho (fun f _ => hab f)) hst) harr
theorem told2_ok {f g : FuncId} {fn : Func} {id : Nat} {d d2 : Nat} {ty ty2 : TypeId} {pos pos2 : String} {ats : Array TypeId} {aft : Array Edge} {a1 : Value} {K : Hp → Prop} {rec : Option (List PanicEntry)} {v : Value}
    (hf : P.funcs[f]? = some fn) (hc : callable P f = true) (hb : fn.body = some (.region id #[{ dst := some d, op := .call { callee := .builtin .recover, args := #[], argTypes := #[] }, type := ty, pos := pos, after := #[], guard := none },
      { dst := some d2, op := .call { callee := .value (.func g), args := #[.tmp d, .tmp 0], argTypes := ats }, type := ty2, pos := pos2, after := aft, guard := none }] false))
    (hres : fn.results = #[]) (hn : d < fn.ntmps) (h0 : 0 < fn.ntmps) (hd0 : d ≠ 0) (hx : isExt P g = false)
    (hrec : (rec = none ∧ v = .nilIface) ∨ (rec = some [{ v := v, recovered := false }]))
    (h : CALL P W g [v, a1] (fun v => tyR P ty2 v fun _ => K) (fun _ => FF) s) : DoesD P W f [a1] rec s K := by
  refine ⟨hc, fun X hp dr vis => ?_⟩
  refine callsDIn_of_wpSIn hf hb trivial ?_
  intro c₀ cs hmode
  have rl0 : Rel fn.ntmps (fun _ => False) X hp { tmps := [a1].toArray ++ Array.replicate (fn.ntmps - [a1].toArray.size) undef, defers := [] } (start [a1] 0) := rel_start (by simp; omega)
  have hfin : ∀ u', settle u' = .returning →
      wpOpsIn Fence.wide 0 P ([({ dst := some d, op := .call { callee := .builtin .recover, args := #[], argTypes := #[] }, type := ty, pos := pos, after := #[], guard := none } : Oper), { dst := some d2, op := .call { callee := .value (.func g), args := #[.tmp d, .tmp 0], argTypes := ats }, type := ty2, pos := pos2, after := aft, guard := none }] : List Oper).toArray (fun e a' w' => bodyPostS P fn c₀ cs (fun e u w' => (∃ v, e = .returned v) ∧ settle u = .returning ∧ Now W X hp K w') e a' ({ c₀ with mode := u' } :: cs) w') [1] (({ tmps := [a1].toArray ++ Array.replicate (fn.ntmps - [a1].toArray.size) undef, defers := [] } : Act).put (some d) v) (wat W hp dr) := by
    intro u' hset
    have rl := rl0.put (some d) v
    unfold wpOpsIn
    simp only [List.getElem?_toArray, List.getElem?_cons_succ, List.getElem?_cons_zero]
    have hwant : ∀ (o : Oper) (y : Nat → Option Bool), o.guard = none → Region.wanted o y = true := fun o y hg => by simp only [Region.wanted, hg]
    rw [if_pos (hwant { dst := some d2, op := .call { callee := .value (.func g), args := #[.tmp d, .tmp 0], argTypes := ats }, type := ty2, pos := pos2, after := aft, guard := none } _ rfl)]
    have ht0 : start [a1] 0 0 = a1 := by rw [start_get]; rfl
    refine oper_ok (r := none) (K := fun _ => K) (E := fun _ => FF) (t := updo fn.ntmps (some d) v (start [a1] 0)) (s := s) rfl ?_ ?_ vis ?_ ?_
    · show vop P W _ _ _ _ s
      unfold vop
      simp only [hx]
      have e1 : ev (updo fn.ntmps (some d) v (start [a1] 0)) (.tmp d) = v := by
        show upd fn.ntmps d v (start [a1] 0) d = v
        rw [upd_get, if_pos ⟨rfl, by omega⟩]
      have e2 : ev (updo fn.ntmps (some d) v (start [a1] 0)) (.tmp 0) = a1 := by
        show upd fn.ntmps d v (start [a1] 0) 0 = a1
        rw [upd_get, if_neg (by omega), ht0]
      show CALL P W g [ev _ (.tmp d), ev _ (.tmp 0)] _ _ s
      rw [e1, e2]
      exact h
    · intro x hx'
      have hx2 : x = .func g ∨ x = .tmp d ∨ x = .tmp 0 := by
        simpa [Op.operands, Go.Call.operands] using hx'
      rcases hx2 with rfl | rfl | rfl
      · rfl
      · exact rl.tmp d (by omega)
      · exact rl.tmp 0 (by omega)
    · intro x X' h' d' s' v' e' hk
      have rl2 := (rl.ev e').put (some d2) x
      have hd := rl2.dfr
      have hs0 : updo fn.ntmps (some d2) x (updo fn.ntmps (some d) v (start [a1] 0)) fn.ntmps = undef := by
        show upd _ _ _ (upd _ _ _ _) _ = _
        rw [upd_get, if_neg (by omega), upd_get, if_neg (by omega), start_get, if_pos (Nat.zero_le _)]
        show List.getD [a1] (fn.ntmps - 0) undef = _
        simp [List.getD]
        rw [List.getElem?_eq_none (by simp; omega)]; rfl
      rw [hs0] at hd
      obtain ⟨vr, _, hrun⟩ := results_run (P := P) (W := W) (s := s') (fn := fn) (tmps := _) (t := updo fn.ntmps (some d2) x (updo fn.ntmps (some d) v (start [a1] 0))) (R := fun _ _ => True) (by rw [hres]; intro i hi; simp [slotsOf] at hi) (by rw [hres]; trivial)
      exact ⟨Dcd_none hd, u', rfl, vr, hrun X' h' d' v', ⟨_, rfl⟩, hset, X', h', d', s', rfl, v', e', hk⟩
    · intro c X' h' d' s' v' e' hk
      exact hk.elim
  rcases hrec with ⟨rfl, rfl⟩ | rfl
  · refine wpSIn_recover (o := _) (r := [_]) rfl (fun _ => trivial) rfl rfl rfl ⟨.nilIface, c₀ :: cs, rfl, .inr ⟨by simp only [recoverD, hmode], rfl, rfl⟩, ?_⟩
    have e2 : ({ c₀ with mode := .returning } : Frame) = c₀ := by
      have : c₀.mode = .returning := hmode
      rw [← this]
    have := hfin .returning rfl
    rw [e2] at this
    exact this
  · exact wpSIn_recover (o := _) (r := [_]) rfl (fun _ => trivial) rfl rfl rfl ⟨v, { c₀ with mode := .panicking [{ v := v, recovered := true }] } :: cs, rfl, .inl (by simp only [recoverD, hmode]), hfin _ rfl⟩
end
theorem ext_size {s s' : Hp} (h : Ext s s') : s.size ≤ s'.size := h.1
theorem own_cell {s : Hp} {a : Addr} {v : Value} (h : Own s a v) : cellAt s a = some v := h.1
section
variable {s : Hp}
theorem TUP_mk (l : List Value) (K : List Value → Hp → Prop) : TUP (.tuple l.toArray) K = K l := rfl
theorem AGG_mk (l : List Value) (K : List Value → Hp → Prop) : AGG (.agg l.toArray) K = K l := rfl
theorem HD_mk {α : Type} (x : α) (r : List α) (K : α → List α → Hp → Prop) : HD (x :: r) K = K x r := rfl
theorem NL_mk {α : Type} (K : Hp → Prop) : NL ([] : List α) K = K := rfl
theorem TYI_mk (k : IntKind) (n : Int) (K : Int → Hp → Prop) : TYI k (.int k n) K = K n := by funext s; simp [TYI]
theorem TYB_mk (b : Bool) (K : Bool → Hp → Prop) : TYB (.bool b) K = K b := rfl
theorem TYP_mk (b : Option Addr) (K : Option Addr → Hp → Prop) : TYP (.pointer b) K = K b := rfl
theorem TYL_mk (x : Option Addr) (l c : Nat) (K : Option Addr → Nat → Nat → Hp → Prop) : TYL (.slice x l c) K = K x l c := rfl
theorem TYS_mk (b : ByteArray) (K : ByteArray → Hp → Prop) : TYS (.string b) K = K b := rfl
theorem TYM_mk (b : Option Nat) (K : Option Nat → Hp → Prop) : TYM (.map b) K = K b := rfl
theorem SO_mk {α : Type} (b : α) (K : α → Hp → Prop) : SO (some b) K = K b := rfl
theorem NX_mk (l : List Value) (K : Hp → Prop) : NX l l K = K := by funext s; simp [NX]
theorem endK_mk (K : VK) (E : List PanicEntry → Hp → Prop) (v : Value) : endK K E (.returned v) = K v := rfl
theorem endK_mk' (K : VK) (E : List PanicEntry → Hp → Prop) (c : List PanicEntry) : endK K E (.panicked c) = E c := rfl
theorem add_0 (a : Addr) : a.add 0 = a := rfl
theorem na_ : (∀ (l : List Value) (K : List Value → Hp → Prop), TUP (.tuple l.toArray) K = K l) ∧ (∀ (l : List Value) (K : List Value → Hp → Prop), AGG (.agg l.toArray) K = K l) ∧ (∀ {α : Type} (x : α) (r : List α) (K : α → List α → Hp → Prop), HD (x :: r) K = K x r) ∧ (∀ {α : Type} (K : Hp → Prop), NL ([] : List α) K = K) ∧ (∀ (k : IntKind) (n : Int) (K : Int → Hp → Prop), TYI k (.int k n) K = K n) ∧ (∀ (b : Bool) (K : Bool → Hp → Prop), TYB (.bool b) K = K b) ∧ (∀ (b : Option Addr) (K : Option Addr → Hp → Prop), TYP (.pointer b) K = K b) ∧ (∀ (x : Option Addr) (l c : Nat) (K : Option Addr → Nat → Nat → Hp → Prop), TYL (.slice x l c) K = K x l c) ∧ (∀ (b : ByteArray) (K : ByteArray → Hp → Prop), TYS (.string b) K = K b) ∧ (∀ (b : Option Nat) (K : Option Nat → Hp → Prop), TYM (.map b) K = K b) ∧ (∀ {α : Type} (b : α) (K : α → Hp → Prop), SO (some b) K = K b) ∧ (∀ (l : List Value) (K : Hp → Prop), NX l l K = K) ∧ (∀ (K : VK) (E : List PanicEntry → Hp → Prop) (v : Value), endK K E (.returned v) = K v) ∧ (∀ (K : VK) (E : List PanicEntry → Hp → Prop) (c : List PanicEntry), endK K E (.panicked c) = E c) := ⟨@TUP_mk, @AGG_mk, @HD_mk, @NL_mk, @TYI_mk, @TYB_mk, @TYP_mk, @TYL_mk, @TYS_mk, @TYM_mk, @SO_mk, @NX_mk, @endK_mk, @endK_mk'⟩
theorem nd_ : (∀ (l : List Value) (K : List Value → Hp → Prop), TUP (.tuple l.toArray) K = K l) ∧ (∀ (l : List Value) (K : List Value → Hp → Prop), AGG (.agg l.toArray) K = K l) ∧ (∀ {α : Type} (x : α) (r : List α) (K : α → List α → Hp → Prop), HD (x :: r) K = K x r) ∧ (∀ {α : Type} (K : Hp → Prop), NL ([] : List α) K = K) ∧ (∀ (k : IntKind) (n : Int) (K : Int → Hp → Prop), TYI k (.int k n) K = K n) ∧ (∀ (b : Bool) (K : Bool → Hp → Prop), TYB (.bool b) K = K b) ∧ (∀ (b : Option Addr) (K : Option Addr → Hp → Prop), TYP (.pointer b) K = K b) ∧ (∀ (x : Option Addr) (l c : Nat) (K : Option Addr → Nat → Nat → Hp → Prop), TYL (.slice x l c) K = K x l c) ∧ (∀ (b : ByteArray) (K : ByteArray → Hp → Prop), TYS (.string b) K = K b) ∧ (∀ (b : Option Nat) (K : Option Nat → Hp → Prop), TYM (.map b) K = K b) ∧ (∀ {α : Type} (b : α) (K : α → Hp → Prop), SO (some b) K = K b) ∧ (∀ (l : List Value) (K : Hp → Prop), NX l l K = K) ∧ (∀ (K : VK) (E : List PanicEntry → Hp → Prop) (v : Value), endK K E (.returned v) = K v) ∧ (∀ (K : VK) (E : List PanicEntry → Hp → Prop) (c : List PanicEntry), endK K E (.panicked c) = E c) ∧ (∀ (a : Addr), a.add 0 = a) := ⟨@TUP_mk, @AGG_mk, @HD_mk, @NL_mk, @TYI_mk, @TYB_mk, @TYP_mk, @TYL_mk, @TYS_mk, @TYM_mk, @SO_mk, @NX_mk, @endK_mk, @endK_mk', @add_0⟩
theorem RDI_c {k : IntKind} {a : Addr} {K : Int → Hp → Prop} {s : Hp} {n : Int} (h : cellAt s a = some (.int k n)) (hk : K n s) : RDI k a K s := ⟨_, h, hk⟩
theorem RDB_c {a : Addr} {K : Bool → Hp → Prop} {s : Hp} {n : Bool} (h : cellAt s a = some (.bool n)) (hk : K n s) : RDB a K s := ⟨_, h, hk⟩
theorem RDS_c {a : Addr} {K : ByteArray → Hp → Prop} {s : Hp} {n : ByteArray} (h : cellAt s a = some (.string n)) (hk : K n s) : RDS a K s := ⟨_, h, hk⟩
theorem RDP_c {a : Addr} {K : Option Addr → Hp → Prop} {s : Hp} {n : Option Addr} (h : cellAt s a = some (.pointer n)) (hk : K n s) : RDP a K s := ⟨_, h, hk⟩
theorem RDM_c {a : Addr} {K : Option Nat → Hp → Prop} {s : Hp} {n : Option Nat} (h : cellAt s a = some (.map n)) (hk : K n s) : RDM a K s := ⟨_, h, hk⟩
theorem RDV_c {a : Addr} {K : Value → Hp → Prop} {s : Hp} {n : Value} (h : cellAt s a = some (n)) (hk : K n s) : RDV a K s := ⟨_, h, hk⟩
theorem RDL_c {a : Addr} {K : Option Addr → Nat → Nat → Hp → Prop} {s : Hp} {x : Option Addr} {l c : Nat} (h : cellAt s a = some (.slice x l c)) (hk : K x l c s) : RDL a K s := ⟨_, _, _, h, hk⟩
end
theorem cell_blind {s : Hp} {l : Nat} {o : Obj} {a : Addr} {v : Value} (hl : s[l]? = some o) (h : cellAt (s.setIfInBounds l junk) a = some v) : cellAt s a = some v := by
  by_cases e : a.block = l
  · have hlt : l < s.size := (Array.getElem?_eq_some_iff.1 hl).1
    unfold cellAt at h
    rw [e, set_eq hlt] at h
    cases h
  · rw [← cell_of_block (set_ne e)]; exact h
def Kp (C : Nat → Prop) (s s' : Hp) : Prop := s.size ≤ s'.size ∧ ∀ b, b < s.size → ¬ C b → s'[b]? = s[b]?
section
variable {C D : Nat → Prop} {s s' s'' : Hp} {a : Addr} {v : Value} {o : Obj}
theorem Kp.refl (s : Hp) : Kp C s s := ⟨Nat.le_refl _, fun _ _ _ => rfl⟩
theorem Ext.kp (e : Ext s s') : Kp C s s' := ⟨e.1, fun b hb _ => e.2 b hb⟩
theorem Kp.trans (h : Kp C s s') (k : Kp C s' s'') : Kp C s s'' := ⟨Nat.le_trans h.1 k.1, fun b hb hc => (k.2 b (Nat.lt_of_lt_of_le hb h.1) hc).trans (h.2 b hb hc)⟩
theorem Kp.ext (h : Kp C s s') (k : Ext s' s'') : Kp C s s'' := h.trans k.kp
theorem Kp.push (h : Kp C s s') : Kp C s (s'.push o) := h.ext (Ext.push (Ext.refl _))
theorem Kp.setC (h : Kp C s s') (hb : C a.block ∨ s.size ≤ a.block) : Kp C s (setC s' a v) := ⟨by rw [setC_size]; exact h.1, fun b hlt hc => by
  have hne : b ≠ a.block := fun e => by
    subst e
    rcases hb with hb | hb
    · exact hc hb
    · omega
  rw [setC_get _ _ _ hne]; exact h.2 b hlt hc⟩
theorem Kp.cell (e : Kp C s s') (hc : ¬ C a.block) (h : cellAt s a = some v) : cellAt s' a = some v := by rw [cell_of_block (e.2 _ (cell_lt h) hc)]; exact h
theorem Kp.own (e : Kp C s s') (hc : ¬ C a.block) (h : Own s a v) : Own s' a v := ⟨e.cell hc h.1, by rw [frozen_of_block (e.2 _ h.lt hc)]; exact h.2⟩
theorem Kp.mono (h : Kp C s s') (hc : ∀ b, C b → D b) : Kp D s s' := ⟨h.1, fun b hb hd => h.2 b hb (fun h => hd (hc b h))⟩
end
section
variable {s s' : Hp}
theorem add_blk (a : Addr) (n : Nat) : (a.add n).block = a.block := by unfold Addr.add; split <;> rfl
theorem add_of (a : Addr) (n : Nat) : (a.add n).off = a.off + n := by unfold Addr.add; split <;> simp_all
theorem add_nil {b o n : Nat} : (⟨b, o, none⟩ : Addr).add n = ⟨b, o + n, none⟩ := by unfold Addr.add; split <;> simp_all
theorem wrN_rule : ∀ (vs : List Value) (a : Addr) (j : Nat) (K : Hp → Prop) (s : Hp), (∀ i, i < vs.length → ∃ y, Own s (a.add (j + i)) y) → (∀ v ∈ vs, oneCell v = true) →
    (∀ s', Kp (· = a.block) s s' → s'.size = s.size → (∀ i (h : i < vs.length), Own s' (a.add (j + i)) vs[i]) → (∀ b y, (b.off < a.off + j ∨ a.off + j + vs.length ≤ b.off) → Own s b y → Own s' b y) → K s') → wrN vs a j K s
  | [], a, j, K, s, h1, h2, h => h s (Kp.refl s) rfl (fun i hi => by simp at hi) (fun b y _ ho => ho)
  | v :: vs, a, j, K, s, h1, h2, h => by
    obtain ⟨y, hy⟩ := h1 0 (by simp)
    rw [Nat.add_zero] at hy
    have hne : ∀ i, i ≠ j → (a.add i).block ≠ (a.add j).block ∨ (a.add i).off ≠ (a.add j).off := fun i hi => .inr (by rw [add_of, add_of]; omega)
    refine WR_own hy (h2 v (by simp)) ?_
    refine wrN_rule vs a (j + 1) K _ (fun i hi => ?_) (fun u hu => h2 u (by simp [hu])) ?_
    · obtain ⟨z, hz⟩ := h1 (i + 1) (by simp; omega)
      rw [show j + (i + 1) = j + 1 + i by omega] at hz
      exact ⟨z, own_set_ne (hne _ (by omega)) hz⟩
    · intro s' k z ho hk
      have k0 : Kp (· = a.block) s (setC s (a.add j) v) := Kp.setC (Kp.refl s) (.inl (add_blk a j))
      refine h s' (k0.trans k) (by rw [z, setC_size]) ?_ ?_
      · intro i hi
        cases i with
        | zero =>
          have := hk (a.add j) v (.inl (by rw [add_of]; omega)) (own_set hy)
          simpa using this
        | succ i =>
          have := ho i (by simpa using hi)
          rw [show j + (i + 1) = j + 1 + i by omega]
          simpa using this
      · intro b y' hi ho'
        simp only [List.length_cons] at hi
        exact hk b y' (by omega) (own_set_ne (.inr (by rw [add_of]; omega)) ho')
theorem cellsAt_of : ∀ (vs : List Value) (a : Addr) (j : Nat), (∀ i (h : i < vs.length), cellAt s (a.add (j + i)) = some vs[i]) → cellsAt s a j vs.length = some vs
  | [], a, j, h => rfl
  | v :: vs, a, j, h => by
    have h0 := h 0 (by simp)
    have ih := cellsAt_of vs a (j + 1) (fun i hi => by
      have := h (i + 1) (by simpa using hi)
      rw [show j + 1 + i = j + (i + 1) by omega]; simpa using this)
    simp only [List.length_cons, cellsAt]
    rw [Nat.add_zero] at h0
    rw [h0, ih]
    simp
def RowAt (s : Hp) (x : Option Addr) (vs : List Value) : Prop := ∀ i, (h : i < vs.length) → ∃ a, x = some a ∧ cellAt s (a.add (i * 1)) = some vs[i]
theorem RowAt.ext {x : Option Addr} {vs : List Value} (e : Ext s s') (h : RowAt s x vs) : RowAt s' x vs := fun i hi => by
  obtain ⟨a, h1, h2⟩ := h i hi
  exact ⟨a, h1, e.cell h2⟩
theorem RowAt.keep {D : Nat → Prop} {x : Option Addr} {vs : List Value} (h : RowAt s x vs) (k : Kp D s s') (hd : ∀ a, x = some a → ¬ D a.block) : RowAt s' x vs := fun i hi => by
  obtain ⟨a, h1, h2⟩ := h i hi
  exact ⟨a, h1, k.cell (by rw [add_blk]; exact hd a h1) h2⟩
theorem RowAt.cells {x : Option Addr} {vs : List Value} (h : RowAt s x vs) : cellsOpt s x vs.length = some vs := by
  cases x with
  | none =>
    cases vs with
    | nil => rfl
    | cons v vs => obtain ⟨a, h1, _⟩ := h 0 (by simp); cases h1
  | some a =>
    refine cellsAt_of vs a 0 (fun i hi => ?_)
    obtain ⟨b, h1, h2⟩ := h i hi
    cases h1
    rw [Nat.zero_add]
    rw [Nat.mul_one] at h2
    exact h2
structure Buf (s : Hp) (x : Option Addr) (c : Nat) (vs : List Value) : Prop where
  le : vs.length ≤ c
  own : ∀ i, i < c → ∃ a, x = some a ∧ ∃ y, Own s (a.add i) y ∧ ∀ h : i < vs.length, y = vs[i]
theorem Buf.ext {x : Option Addr} {c : Nat} {vs : List Value} (e : Ext s s') (h : Buf s x c vs) : Buf s' x c vs := ⟨h.le, fun i hi => by
  obtain ⟨a, h1, y, h2, h3⟩ := h.own i hi
  exact ⟨a, h1, y, e.own h2, h3⟩⟩
theorem Buf.kp {D : Nat → Prop} {x : Option Addr} {c : Nat} {vs : List Value} (e : Kp D s s') (hd : ∀ a, x = some a → ¬ D a.block) (h : Buf s x c vs) : Buf s' x c vs := ⟨h.le, fun i hi => by
  obtain ⟨a, h1, y, h2, h3⟩ := h.own i hi
  exact ⟨a, h1, y, e.own (by rw [add_blk]; exact hd a h1) h2, h3⟩⟩
theorem Buf.row {x : Option Addr} {c : Nat} {vs : List Value} (h : Buf s x c vs) : RowAt s x vs := fun i hi => by
  obtain ⟨a, h1, y, h2, h3⟩ := h.own i (Nat.lt_of_lt_of_le hi h.le)
  refine ⟨a, h1, ?_⟩
  rw [Nat.mul_one, h2.cell, h3 hi]
theorem Buf.nil (s : Hp) : Buf s none 0 [] := ⟨Nat.le_refl _, fun i hi => by omega⟩
theorem buf_new {cs vs : List Value} {ty : TypeId} (hl : vs.length ≤ cs.length) (hv : ∀ i (h : i < vs.length), cs[i]? = some vs[i]) : Buf (s.push (.cells cs.toArray ty (0, 0))) (some ⟨s.size, 0, none⟩) cs.length vs :=
  ⟨hl, fun i hi => ⟨_, rfl, cs[i], by rw [add_nil, Nat.zero_add]; exact own_new (by simp [hi]), fun h => by have := hv i h; rw [List.getElem?_eq_getElem hi] at this; simpa using this⟩⟩
end
section
variable {s : Hp}
theorem NEW_rule {t : TypeId} {cs : List Value} {K : Nat → Hp → Prop} (h : ∀ s', Ext s s' → s'.size = s.size + 1 → (∀ i v, cs[i]? = some v → Own s' ⟨s.size, i, none⟩ v) → shapeAt s' s.size = some (t, cs.length) → K s.size s') : NEW t cs K s :=
  h _ (Ext.push (Ext.refl _)) (by simp) (fun i v hv => own_new hv) (by unfold shapeAt; rw [Array.getElem?_push, if_pos rfl]; simp)
theorem NEWZ_rule {P : Program} {t : TypeId} {cs : List Value} {K : Nat → Hp → Prop} (hz : zc P t = cs) (h : ∀ s', Ext s s' → s'.size = s.size + 1 → (∀ i v, cs[i]? = some v → Own s' ⟨s.size, i, none⟩ v) → K s.size s') : NEWZ P t K s := by
  unfold NEWZ; rw [hz]
  exact h _ (Ext.push (Ext.refl _)) (by simp) (fun i v hv => own_new hv)
theorem CONJ_two {a b : Hp → Prop} (h1 : a s) (h2 : b s) : CONJ [a, b] s := ⟨h1, h2⟩
end
section
variable {s s' : Hp}
theorem addr_add (a : Addr) (m n : Nat) : (a.add m).add n = a.add (m + n) := by
  unfold Addr.add
  by_cases hn : n = 0
  · simp [hn]
  · by_cases hm : m = 0
    · simp [hm, hn]
    · simp [hm, hn, Nat.add_assoc]
theorem NZI_pos {b : Int} {K : Hp → Prop} (hb : b ≠ 0) (h : K s) : NZI b K s := by
  unfold NZI
  split
  · exact absurd rfl hb
  · exact h
theorem repL_lenN (zs : List Value) : ∀ n, (repL n zs).length = n * zs.length
  | 0 => by simp [repL]
  | n + 1 => by show (zs ++ repL n zs).length = _; rw [List.length_append, repL_lenN zs n, Nat.add_mul]; omega
theorem APP_bufN {P : Program} {t : TypeId} {es l m c : Nat} {x : Option Addr} {vs ws zs : List Value} {y : Option Addr} {K : Option Addr → Nat → Nat → Hp → Prop} (hb : Buf s x (c * es) vs) (hl : vs.length = l * es) (hy : RowAt s y ws) (hm : ws.length = m * es) (hz : zc P t = zs) (hzl : zs.length = es) (hes : 0 < es)
    (hws : ∀ v ∈ ws, oneCell v = true) (hlen : l + m ≤ 1000000) (hc : c ≤ 9223372036854775808)
    (h : ∀ s' x' c', Kp (fun b => ∃ a, x = some a ∧ a.block = b) s s' → (l + m ≤ c → x' = x ∧ c' = c) → (c < l + m → x' = some ⟨s.size, 0, none⟩ ∧ Ext s s') → c' ≤ 9223372036854775808 → Buf s' x' (c' * es) (vs ++ ws) → K x' (l + m) c' s') :
    APP P t es x l c y m K s := by
  have hrow := hb.row.cells
  rw [hl] at hrow
  have hyc := hy.cells
  rw [hm] at hyc
  refine ⟨⟨hlen, hc⟩, ws, hyc, ?_⟩
  split
  · rename_i hle
    cases x with
    | none =>
      have hc0 : c * es = 0 := by
        rcases Nat.eq_zero_or_pos (c * es) with h0 | h0
        · exact h0
        · obtain ⟨a, h1, _⟩ := hb.own 0 h0; cases h1
      have hc00 : c = 0 := by rcases Nat.mul_eq_zero.1 hc0 with h0 | h0 <;> omega
      have hm0 : m = 0 := by omega
      have hws0 : ws = [] := List.eq_nil_of_length_eq_zero (by rw [hm, hm0]; simp)
      subst hws0
      refine h s none c (Kp.refl s) (fun _ => ⟨rfl, rfl⟩) (fun hh => by omega) hc ?_
      rw [List.append_nil]; exact hb
    | some a =>
      have key : ∀ i, i < c * es → ∃ y, Own s (a.add i) y ∧ ∀ h : i < vs.length, y = vs[i] := fun i hi => by
        obtain ⟨a', h1, h2⟩ := hb.own i hi
        cases h1; exact h2
      by_cases hw0 : ws = []
      · subst hw0
        have hm0 : m = 0 := by
          have hm' : 0 = m * es := hm
          rcases Nat.mul_eq_zero.1 hm'.symm with h0 | h0 <;> omega
        refine h s (some a) c (Kp.refl s) (fun _ => ⟨rfl, rfl⟩) (fun hh => by omega) hc ?_
        rw [List.append_nil]; exact hb
      have hpos : 0 < ws.length := List.length_pos_iff.2 hw0
      have hfit : vs.length + ws.length ≤ c * es := by rw [hl, hm, ← Nat.add_mul]; exact Nat.mul_le_mul_right _ hle
      show wrN ws (a.add (l * es)) 0 _ s
      rw [← hl]
      refine wrN_rule ws (a.add vs.length) 0 _ s (fun i hi => ?_) hws ?_
      · rw [Nat.zero_add, addr_add]
        obtain ⟨y, hy, _⟩ := key (vs.length + i) (by omega)
        exact ⟨y, hy⟩
      · intro s' k z' ho hk
        refine h s' (some a) c (k.mono (fun b hb => ⟨a, rfl, by rw [← add_blk a vs.length]; exact hb.symm⟩)) (fun _ => ⟨rfl, rfl⟩) (fun hh => by omega) hc ⟨by simp; omega, fun i hi => ⟨a, rfl, ?_⟩⟩
        by_cases h1 : i < vs.length
        · obtain ⟨y, hy1, hy2⟩ := key i hi
          refine ⟨y, ?_, fun h => by rw [hy2 h1]; simp [List.getElem_append, h1]⟩
          exact hk _ _ (.inl (by rw [add_of, add_of]; omega)) hy1
        · by_cases h2 : i < vs.length + ws.length
          · have := ho (i - vs.length) (by omega)
            rw [Nat.zero_add, addr_add, show vs.length + (i - vs.length) = i by omega] at this
            refine ⟨_, this, fun h => ?_⟩
            rw [List.getElem_append_right (by omega)]
          · obtain ⟨y, hy1, _⟩ := key i hi
            have := hk (a.add i) y (.inr (by rw [add_of, add_of]; omega)) hy1
            exact ⟨y, this, fun h => by simp at h; omega⟩
  · rename_i hle
    refine ⟨vs, hrow, fun c' g1 g2 => ?_⟩
    rw [hz]
    have hlen' : (vs ++ ws ++ repL (c' - (l + m)) zs).length = c' * es := by
      rw [List.length_append, List.length_append, repL_lenN, hzl, hl, hm, ← Nat.add_mul, ← Nat.add_mul]
      congr 1; omega
    have hbuf : Buf (s.push (.cells (vs ++ ws ++ repL (c' - (l + m)) zs).toArray t (0, 0))) (some ⟨s.size, 0, none⟩) (vs ++ ws ++ repL (c' - (l + m)) zs).length (vs ++ ws) :=
      buf_new (by simp) (fun i hi => by rw [List.getElem?_append_left hi]; simp [hi])
    rw [hlen'] at hbuf
    exact h _ _ c' (Ext.push (Ext.refl s)).kp (fun hh => by omega) (fun _ => ⟨rfl, Ext.push (Ext.refl s)⟩) (by omega) hbuf
structure Fr (lo : Nat) (s : Hp) (x : Option Addr) (l c es : Nat) (vs : List Value) : Prop where
  buf : Buf s x (c * es) vs
  len : vs.length = l * es
  fr : ∀ a, x = some a → lo ≤ a.block
  cap : c ≤ 9223372036854775808
theorem Fr.nil (lo : Nat) (s : Hp) (es : Nat) : Fr lo s none 0 0 es [] := ⟨⟨by simp, fun i hi => by simp at hi⟩, by simp, (fun a h => by cases h), by omega⟩
theorem Fr.ext {lo : Nat} {x : Option Addr} {l c es : Nat} {vs : List Value} (e : Ext s s') (h : Fr lo s x l c es vs) : Fr lo s' x l c es vs := ⟨h.buf.ext e, h.len, h.fr, h.cap⟩
theorem Fr.kp {D : Nat → Prop} {lo : Nat} {x : Option Addr} {l c es : Nat} {vs : List Value} (e : Kp D s s') (hd : ∀ a, x = some a → ¬ D a.block) (h : Fr lo s x l c es vs) : Fr lo s' x l c es vs := ⟨h.buf.kp e hd, h.len, h.fr, h.cap⟩
theorem Fr.row {lo : Nat} {x : Option Addr} {l c es : Nat} {vs : List Value} (h : Fr lo s x l c es vs) : RowAt s x vs := h.buf.row
theorem APP_fr {P : Program} {t : TypeId} {lo es l m c : Nat} {x : Option Addr} {vs ws zs : List Value} {y : Option Addr} {K : Option Addr → Nat → Nat → Hp → Prop} (hf : Fr lo s x l c es vs) (hlo : lo ≤ s.size) (hy : RowAt s y ws) (hm : ws.length = m * es) (hz : zc P t = zs) (hzl : zs.length = es) (hes : 0 < es)
    (hws : ∀ v ∈ ws, oneCell v = true) (hlen : l + m ≤ 1000000)
    (h : ∀ s' x' c', Kp (fun b => ∃ a, x = some a ∧ a.block = b) s s' → (∀ a, x' = some a → (∃ a', x = some a' ∧ a'.block = a.block) ∨ s.size ≤ a.block) → Fr lo s' x' (l + m) c' es (vs ++ ws) → K x' (l + m) c' s') :
    APP P t es x l c y m K s := by
  refine APP_bufN hf.buf hf.len hy hm hz hzl hes hws hlen hf.cap fun s' x' c' k g1 g2 g3 u => ?_
  have g : ∀ a, x' = some a → (∃ a', x = some a' ∧ a'.block = a.block) ∨ s.size ≤ a.block := by
    intro a ha
    rcases Nat.lt_or_ge c (l + m) with hc | hc
    · obtain ⟨q1, _⟩ := g2 hc
      rw [q1] at ha; cases ha
      exact .inr (Nat.le_refl _)
    · obtain ⟨q1, _⟩ := g1 hc
      rw [q1] at ha
      exact .inl ⟨a, ha, rfl⟩
  refine h s' x' c' k g ⟨u, by rw [List.length_append, hf.len, hm, Nat.add_mul], fun a ha => ?_, g3⟩
  rcases g a ha with ⟨a', h1, h2⟩ | h1
  · rw [← h2]; exact hf.fr a' h1
  · omega
theorem Buf.set {x : Addr} {c i : Nat} {vs : List Value} {v : Value} (h : Buf s (some x) c vs) (hi : i < vs.length) : Buf (setC s (x.add i) v) (some x) c (vs.set i v) := by
  refine ⟨by rw [List.length_set]; exact h.le, fun j hj => ⟨x, rfl, ?_⟩⟩
  obtain ⟨a, h1, y, h2, h3⟩ := h.own j hj
  cases h1
  by_cases e : j = i
  · subst e
    exact ⟨v, own_set h2, fun hh => by simp⟩
  · refine ⟨y, own_set_ne (.inr (by rw [add_of, add_of]; omega)) h2, fun hh => ?_⟩
    rw [List.length_set] at hh
    rw [h3 hh, List.getElem_set_ne (fun e' => e e'.symm)]
theorem Buf.at {x : Addr} {c i : Nat} {vs : List Value} (h : Buf s (some x) c vs) (hi : i < vs.length) : Own s (x.add i) vs[i] := by
  obtain ⟨a, h1, y, h2, h3⟩ := h.own i (Nat.lt_of_lt_of_le hi h.le)
  cases h1
  rw [← h3 hi]; exact h2
end
section
variable (P : Program) (s : Hp)
def RdF (R : TypeId → List Value → Prop) : List Field → List Value → Prop
  | [], _ => True
  | f :: r, cs => R f.type ((cs.drop f.offset).take (P.cellsOf f.type)) ∧ RdF R r cs
def Rds : Nat → TypeId → List Value → Prop
  | 0, _, _ => True
  | n + 1, t, cs => match P.underlying t with
    | some .bool => ∃ b, cs = [.bool b]
    | some (.int k) => ∃ m, cs = [.int k m] ∧ (Lit.int k m).wf = true
    | some .string => ∃ b, cs = [.string b] ∧ b.size ≤ maxLen
    | some (.slice e) => ∃ a l c, cs = [.slice a l c] ∧ l ≤ c ∧ c ≤ maxLen ∧ (a = none → l = 0 ∧ c = 0) ∧ ∀ i, i < l → ∃ b es, a = some b ∧ es.length = P.cellsOf e ∧ (∀ j v, es[j]? = some v → cellAt s ((b.add (i * P.cellsOf e)).add j) = some v) ∧ Rds n e es
    | some (.struct fs) => cs.length = P.cellsOf t ∧ RdF P (Rds n) fs.toList cs
    | some (.array m e) => cs.length = P.cellsOf t ∧ ∀ i, i < m → Rds n e ((cs.drop (i * P.cellsOf e)).take (P.cellsOf e))
    | _ => True
def RdV (t : TypeId) (v : Value) : Prop := ∃ cs, v = (match isAg P t with | true => .agg cs.toArray | false => cs.headD undef) ∧ Rds P s 8 t cs
end
section
variable {P : Program} {H : Type} {enc : TypeId × Value → H} {w : World} {base : Nat} {sp : Nat → Bool} {held : Bool}
theorem rdF_of {R : TypeId → List Value → Prop} : ∀ (fs : List Field) (cs : List Value), (∀ (i : Nat) (f : Field), fs[i]? = some f → R f.type ((cs.drop f.offset).take (P.cellsOf f.type))) → RdF P R fs cs
  | [], _, _ => trivial
  | f :: r, cs, h => ⟨h 0 f rfl, rdF_of r cs fun i g hg => h (i + 1) g (by simpa using hg)⟩
theorem trod_rds : ∀ (k fuel : Nat) (t : TypeId) (cs : List Value) (x : DataW H × List MemPlace), DataW.trod enc P w base sp held fuel t cs = some x → Rds P w.heap k t cs
  | 0, _, _, _, _, _ => trivial
  | k + 1, fuel, t, cs, x, h => by
    unfold Rds
    split
    · rename_i ht
      obtain ⟨b, rfl, _⟩ := DataW.trod_bool ht h
      exact ⟨b, rfl⟩
    · rename_i kd ht
      obtain ⟨n, rfl, _, hw⟩ := DataW.trod_int ht h
      exact ⟨n, rfl, hw⟩
    · rename_i ht
      obtain ⟨b, rfl, _, hw⟩ := DataW.trod_string ht h
      exact ⟨b, rfl, hw⟩
    · rename_i e ht
      rcases DataW.trod_slice ht h with ⟨rfl, _⟩ | ⟨a, len, cap, elems, rest, n, _, rfl, rfl, hb, hl, hm, hlen, hel, hsp, hns⟩
      · exact ⟨none, 0, 0, rfl, Nat.le_refl _, Nat.zero_le _, fun _ => ⟨rfl, rfl⟩, fun i hi => by omega⟩
      · refine ⟨some a, len, cap, rfl, hl, hm, (fun h => by cases h), fun i hi => ?_⟩
        have hi' : i < elems.length := by omega
        have h1 := hel i hi
        rw [List.getElem?_eq_getElem hi', Option.bind_eq_some_iff] at h1
        obtain ⟨es, h2, h3⟩ := h1
        obtain ⟨_, h4, h5⟩ := World.cells?_some h2
        refine ⟨a, es, rfl, h4, fun j v hv => ?_, trod_rds k _ _ _ _ h3⟩
        have hj : j < P.cellsOf e := by
          have := (List.getElem?_eq_some_iff.1 hv).1
          omega
        rw [← hv, ← h5 j hj]; rfl
    · rename_i fs ht
      obtain ⟨xs, n, _, rfl, h1, h2, h3⟩ := DataW.trod_struct ht h
      refine ⟨h1, rdF_of _ _ fun i f hf => ?_⟩
      have hfs : fs[i]? = some f := by simpa using hf
      have hi : i < xs.length := by
        have := (Array.getElem?_eq_some_iff.1 hfs).1
        omega
      have h4 := h3 i f hfs
      rw [List.getElem?_eq_getElem hi] at h4
      exact trod_rds k _ _ _ _ h4
    · rename_i m e ht
      cases fuel with
      | zero => simp [DataW.trod] at h
      | succ n =>
        unfold DataW.trod at h
        rw [ht] at h
        simp only at h
        split at h
        · rename_i hc
          refine ⟨hc, fun i hi => ?_⟩
          rw [Option.map_eq_some_iff] at h
          obtain ⟨xs, hx, _⟩ := h
          have hget := mapM_some_get hx i i (by simp [hi])
          have hlen : xs.length = m := by simpa using mapM_some_length hx
          rw [List.getElem?_eq_getElem (by omega)] at hget
          exact trod_rds k _ _ _ _ hget
        · cases h
    · trivial
theorem trod_rdV {t : TypeId} {v : Value} {d : DataW H} {ps : List MemPlace} {b0 : Nat} (hv : Value.okWide P w .any b0 t v) (h : DataW.Trod enc P w base sp held t v d ps) : RdV P w.heap t v := by
  obtain ⟨fuel, h⟩ := h
  refine ⟨v.cells.toList, ?_, trod_rds 8 _ _ _ _ h⟩
  unfold Value.okWide at hv
  split at hv
  · rename_i ht
    obtain ⟨cs, rfl, _⟩ := hv
    unfold isAg
    rw [ht]; simp [Value.cells]
  · rename_i ht
    obtain ⟨cs, rfl, _⟩ := hv
    unfold isAg
    rw [ht]; simp [Value.cells]
  · rename_i h1 h2
    have hag : isAg P t = false := by
      unfold isAg
      split
      · rename_i h; exact absurd h (h1 _)
      · rename_i h; exact absurd h (h2 _ _)
      · rfl
    rw [hag]
    cases v <;> first | rfl | (simp [Cell.okWide, Cell.ok] at hv; try (split at hv <;> simp_all))
end
theorem does_of_call {P : Program} {W : World} {f : FuncId} {args : List Value} {s : Hp} (h : CALL P W f args (fun v s' => v = .bool true ∧ Ext s s') (fun _ _ => False) s) : Does P W f args.toArray s fun e s' => e = .returned (.bool true) ∧ Ext s s' :=
  Does.mono h fun e s' he => by
    cases e with
    | returned v => exact ⟨by rw [he.1], he.2⟩
    | panicked c => exact he.elim
    | outgrown => exact he.elim
theorem calls_of_does {P : Program} {f : FuncId} {args : Array Value} {W : World} (h : Does P W f args W.heap fun e s' => e = .returned (.bool true) ∧ Ext W.heap s') :
    Calls P f args W fun e w' => e = .returned (.bool true) ∧ Go.RowKit.Below W.heap.size W w' := by
  have h2 := h.2 (fun _ => False) W.heap W.drawn (Vis.refl W.heap)
  refine Calls.mono h2 ?_
  rintro e w' ⟨X', h', d', s', rfl, v, ev, he, ext⟩
  refine ⟨he, ⟨rfl, rfl, rfl, ?_, fun k hk => ?_⟩⟩
  · exact ev.size
  · show h'[k]? = W.heap[k]?
    have hx : ¬ X' k := fun hx => by
      rcases ev.new k hx with h0 | h0
      · exact h0
      · omega
    rw [← v.same k hx]
    exact ext.2 k hk
end Go.V
