import Derived.Test.YtknpmijgdfeliaaC4
/- With a reading more, a link more, or narrower bounds nothing is told less exactly, for every input. -/
/- Clock: ClockMore: a reading more, a link more: the statement. -/
set_option linter.unusedSimpArgs false
set_option linter.unusedVariables false
set_option maxRecDepth 20000
namespace Go.Proofs.Ytknpmijgdfeliaa.G
open Go.V
section
variable {W : World} {K : VK} {E : List PanicEntry → Hp → Prop} {s : Hp} {c : Clk} {x y z : Option Addr} {c1 c2 c3 cb : Nat} {r : Rd} {l : Lk} {a0 b0 w0 by' : Int}
theorem HL.row {lo : Nat} {t : Hp} {ty es n : Nat} {vs : List Value} {x : Option Addr} {n' cc : Nat} (h : HL lo t ty es n vs (.slice x n' cc)) : n' = n ∧ RowAt t x vs ∧ ∀ a, x = some a → lo ≤ a.block := by
  obtain ⟨a, c', h1, h2, _⟩ := h.ex
  cases h1
  exact ⟨rfl, h2.row, h2.fr⟩
theorem more_lists {s1 : Hp} {b1 b2 b3 : Nat} (hc : ClV s c x y z) (hv : VdC c) (h : TM s c x y z c1 c2 c3 r l cb s1) (hb1 : cb + 2 < b1 ∧ b1 < s1.size) (hb2 : cb + 2 < b2 ∧ b2 < s1.size) (hb3 : cb + 2 < b3 ∧ b3 < s1.size) (h12 : b1 ≠ b2) (h13 : b1 ≠ b3) (h23 : b2 ≠ b3) (o1 : CV4 s1 b1 c x y z c1 c2 c3) (o2 : CV4 s1 b2 c x y z c1 c2 c3) (o3 : CV4 s1 b3 c x y z c1 c2 c3)
    (hk : ∀ t x6 d6 x13 d13, TM s c x y z c1 c2 c3 r l cb t → s1.size ≤ t.size → C4 t b1 (.slice x c.ws.length c1) (.int .i64 c.n) (.slice x6 (c.rs.length + 1) d6) (.slice z c.ls.length c3) → C4 t b2 (.slice x c.ws.length c1) (.int .i64 c.n) (.slice y c.rs.length c2) (.slice x13 (c.ls.length + 1) d13) → CV4 t b3 c x y z c1 c2 c3 →
      RowAt t x6 (rdV (c.rs ++ [r])) → (∀ a, x6 = some a → s1.size ≤ a.block) → RowAt t x13 (lkV (c.ls ++ [l])) → (∀ a, x13 = some a → s1.size ≤ a.block) →
      A_law07_ClockMore_1 W (endK K E) a0 b0 w0 by' ⟨cb, 0, none⟩ ⟨cb + 1, 0, none⟩ ⟨cb + 2, 0, none⟩ ⟨b1, 0, none⟩ ⟨b2, 0, none⟩ ⟨b3, 0, none⟩ t) :
    D_law07_ClockMore_1 W (endK K E) a0 b0 w0 by' ⟨cb, 0, none⟩ ⟨cb + 1, 0, none⟩ ⟨cb + 2, 0, none⟩ ⟨b1, 0, none⟩ ⟨b2, 0, none⟩ ⟨b3, 0, none⟩ s1 := by
  have hr8 := hv.r8
  have hl5 := hv.l5
  have hX : ∀ t, Kp (fun d => d = b1 ∨ d = b2) s1 t → TM s c x y z c1 c2 c3 r l cb t := fun t k => h.keep k fun d hd => by omega
  have hC : ∀ t, Kp (fun d => d = b1 ∨ d = b2) s1 t → ClV t c x y z := fun t k => hc.ext (hX t k).ext
  refine D_law07_ClockMore_1_rule W _ a0 b0 w0 by' _ _ _ _ _ _ (PD s1 c x y z c1 c2 c3 r l cb b1 b2) (fun ρ => ⟨Kp.refl _, (fun k hk => by cases hk), (fun k hk => by cases hk), (fun k hk => by cases hk), (fun h => by cases h), (fun h => by cases h), ⟨(fun e => absurd rfl e), (fun _ => o1.2.2.2), o1.1, o1.2.1, _, o1.2.2.1⟩, ⟨(fun _ => o2.2.2.1), (fun e => absurd rfl e), o2.1, o2.2.1, _, o2.2.2.2⟩⟩) ?_ ?_ ?_ ?_ ?_ ?_ ?_ ?_ ?_ ?_ ?_ ?_ ?_ ?_ ?_ ?_ ?_ ?_ ?_ ?_ ?_ ?_ ?_
  · intro L ρ t hp h0
    exact H0.new hp.kp.1 fun t' e hh => hp.ext h0 e trivial hh (by simp [deps]) (by omega) (by omega) (by omega)
  · intro L ρ t hp h0
    exact hp.ext h0 (Ext.refl _) rfl trivial (by simp [deps]) (by omega) (by omega) (by omega)
  · intro L ρ t hp h0 h1
    exact ⟨_, hp.pu 1 h1, _, _, _, (hX t hp.kp).o2.cell, hp.ext h0 (Ext.refl _) rfl trivial (by simp [deps]) (by omega) (by omega) (by omega)⟩
  · intro L ρ t hp h0 h1 h2
    obtain ⟨a, e0, ha, hs⟩ := hp.hl 0 h1 (fun _ => h0)
    exact ⟨_, _, _, _, _, _, e0, hp.pu 2 h2, H0.app ha hs hp.kp.1 (rd_rowF (hC t hp.kp).rs) (rdV_len _) zc_61 rfl (by omega) (by omega) fun t' x' c' e hh => hp.ext h0 e trivial hh (by simp [deps]) (by omega) (by omega) (by omega)⟩
  · intro L ρ t hp h0
    have hx := hX t hp.kp
    exact ⟨_, hx.r0.cell, ⟨_, hx.r1.cell, ⟨_, hx.r2.cell, hp.ext h0 (Ext.refl _) rfl trivial (by simp [deps]) (by omega) (by omega) (by omega)⟩⟩⟩
  · intro L ρ t hp h0 h1
    exact ⟨_, _, _, hp.pu 4 h1, HL.new (n := 1) (es := 3) hp.kp.1 rfl (by omega) fun t' e hh => hp.ext h0 e trivial hh (by simp [deps]) (by omega) (by omega) (by omega)⟩
  · intro L ρ t hp h0 h3 h5
    obtain ⟨a, cc, e3, fr, sh⟩ := (hp.hl 3 h3 (fun _ => h0)).ex
    obtain ⟨a5, cc5, e5, fr5, sh5⟩ := (hp.hl 5 h5 (fun _ => h0)).ex
    refine ⟨_, _, _, _, _, _, e3, e5, HL.app e3 fr sh hp.kp.1 fr5.row rfl zc_61 rfl (by omega) (by simp [rd3, oneCell]) (by omega) fun t' x' c' k hs hh => ?_⟩
    have n10 : 10 ∉ L := fun h => h0 (hp.cl 10 h 6 (by simp [deps]))
    have n13 : 13 ∉ L := fun h => n10 (hp.cl 13 h 10 (by simp [deps]))
    have n15 : 15 ∉ L := fun h => h0 (hp.cl 15 h 6 (by simp [deps]))
    have n17 : 17 ∉ L := fun h => n15 (hp.cl 17 h 15 (by simp [deps]))
    have hal := fr.fr a rfl
    refine hp.step h0 (by omega) (kp_step hp.kp k fun d hd => .inr (by have : d = a.block := hd; omega)) trivial ?_ ?_ (by simp [deps]; exact ⟨h3, h5⟩) (fun hm => absurd (mem_of' hm (by omega)) n15) (fun hm => absurd (mem_of' hm (by omega)) n17) (hp.q1.kp k (by show ¬ b1 = a.block; omega)) (hp.q2.kp k (by show ¬ b2 = a.block; omega))
    · have e : rdV (c.rs ++ [r]) = rdV c.rs ++ rd3 r := by rw [rdV_app]; simp [rdV]
      show HL s1.size t' 61 3 (c.rs.length + 1) (rdV (c.rs ++ [r])) _
      rw [e]; exact hh
    · intro j hj hn hne hx
      unfold HLk at hx ⊢
      split at hx
      · exact absurd h3 (hn (by decide))
      · exact absurd rfl hne
      · exact absurd rfl hne
      · exact absurd hj h0
      · obtain ⟨a', q1, q2, nn, q3⟩ := hx
        exact ⟨a', q1, q2, nn, by rw [hs _ (SH.lt ⟨nn, q3⟩)]; exact q3⟩
      · exact absurd hj n10
      · exact hx.other k hs sh (by decide)
      · exact absurd hj n13
      · trivial
  · intro L ρ t hp h0
    exact H0.new hp.kp.1 fun t' e hh => hp.ext h0 e trivial hh (by simp [deps]) (by omega) (by omega) (by omega)
  · intro L ρ t hp h0
    exact hp.ext h0 (Ext.refl _) rfl trivial (by simp [deps]) (by omega) (by omega) (by omega)
  · intro L ρ t hp h0 h1
    exact ⟨_, hp.pu 8 h1, _, _, _, (hX t hp.kp).o3.cell, hp.ext h0 (Ext.refl _) rfl trivial (by simp [deps]) (by omega) (by omega) (by omega)⟩
  · intro L ρ t hp h0 h6 h1 h2
    obtain ⟨a, e0, ha, hs⟩ := hp.hl 7 h1 (fun _ => h0)
    exact ⟨_, _, _, _, _, _, e0, hp.pu 9 h2, H0.app ha hs hp.kp.1 (lk_row (hC t hp.kp).ls) (flat_len (M := 4) (f := lk4) _ fun x _ => rfl) zc_63 rfl (by omega) (by omega) fun t' x' c' e hh => hp.ext h0 e trivial hh (by simp [deps]; exact h6) (by omega) (by omega) (by omega)⟩
  · intro L ρ t hp h0
    have hx := hX t hp.kp
    exact ⟨_, hx.l0.cell, ⟨_, hx.l1.cell, ⟨_, hx.l2.cell, ⟨_, hx.l3.cell, hp.ext h0 (Ext.refl _) rfl trivial (by simp [deps]) (by omega) (by omega) (by omega)⟩⟩⟩⟩
  · intro L ρ t hp h0 h1
    exact ⟨_, _, _, _, hp.pu 11 h1, HL.new (n := 1) (es := 4) hp.kp.1 rfl (by omega) fun t' e hh => hp.ext h0 e trivial hh (by simp [deps]) (by omega) (by omega) (by omega)⟩
  · intro L ρ t hp h0 h10 h12'
    obtain ⟨a, cc, e3, fr, sh⟩ := (hp.hl 10 h10 (fun _ => h0)).ex
    obtain ⟨a5, cc5, e5, fr5, sh5⟩ := (hp.hl 12 h12' (fun _ => h0)).ex
    refine ⟨_, _, _, _, _, _, e3, e5, HL.app e3 fr sh hp.kp.1 fr5.row rfl zc_63 rfl (by omega) (by simp [lk4, oneCell]) (by omega) fun t' x' c' k hs hh => ?_⟩
    have h6 : 6 ∈ L := hp.cl 10 h10 6 (by simp [deps])
    have h3 : 3 ∈ L := hp.cl 6 h6 3 (by simp [deps])
    have n15 : 15 ∉ L := fun h => h0 (hp.cl 15 h 13 (by simp [deps]))
    have n17 : 17 ∉ L := fun h => n15 (hp.cl 17 h 15 (by simp [deps]))
    have hal := fr.fr a rfl
    refine hp.step h0 (by omega) (kp_step hp.kp k fun d hd => .inr (by have : d = a.block := hd; omega)) trivial ?_ ?_ (by simp [deps]; exact ⟨h10, h12'⟩) (fun hm => absurd (mem_of' hm (by omega)) n15) (fun hm => absurd (mem_of' hm (by omega)) n17) (hp.q1.kp k (by show ¬ b1 = a.block; omega)) (hp.q2.kp k (by show ¬ b2 = a.block; omega))
    · have e : lkV (c.ls ++ [l]) = lkV c.ls ++ lk4 l := by unfold lkV; rw [List.flatMap_append]; simp
      show HL s1.size t' 63 4 (c.ls.length + 1) (lkV (c.ls ++ [l])) _
      rw [e]; exact hh
    · intro j hj hn hne hx
      unfold HLk at hx ⊢
      split at hx
      · exact absurd h3 (hn (by decide))
      · exact absurd h6 (hn (by decide))
      · exact absurd h6 (hn (by decide))
      · exact hx.other k hs sh (by decide)
      · exact absurd h10 (hn (by decide))
      · exact absurd rfl hne
      · exact absurd rfl hne
      · exact absurd hj h0
      · trivial
  · intro L ρ t hp h0 _ _ _ _ _ _ _
    exact hp.ext h0 (Ext.refl _) rfl trivial (by simp [deps]) (by omega) (by omega) (by omega)
  · intro L ρ t hp h0 _ _ _ _ _ _ h6 h13' h14
    obtain ⟨a, cc, e6, fr, sh⟩ := (hp.hl 6 h6 (fun h => absurd h (by decide))).ex
    obtain ⟨g2, g3, g0, g1, v, gv⟩ := hp.q1
    refine ⟨_, _, _, _, e6, hp.pu 14 h14, ?_⟩
    refine wrOne (i := 2) gv rfl fun t' k sz w wk => ?_
    have hal := fr.fr a rfl
    have n17 : 17 ∉ L := fun h => h0 (hp.cl 17 h 15 (by simp [deps]))
    refine hp.step h0 (by omega) (kp_step hp.kp k fun d hd => .inl (.inl hd)) trivial trivial ?_ (by simp [deps]; exact ⟨h6, h13'⟩) (fun _ => by rw [e6]; exact w) (fun hm => absurd (mem_of' hm (by omega)) n17) ⟨fun e => absurd rfl e, fun _ => wk 3 _ (by omega) (g3 (by omega)), wk 0 _ (by omega) g0, wk 1 _ (by omega) g1, _, w⟩ (hp.q2.kp k (fun e => h12 e.symm))
    have hsz := hp.kp.1
    intro j hj hn hne hx
    have key : ∀ {ty es n : Nat} {vs : List Value} {v : Value}, HL s1.size t ty es n vs v → HL s1.size t' ty es n vs v := fun hx => by
      obtain ⟨a', c', q1, q2, q3⟩ := hx.ex
      have := q2.fr a' rfl
      obtain ⟨nn, q4⟩ := q3
      refine ⟨a', c', q1, q2.kp k fun a2 ha2 hb2 => ?_, nn, ?_⟩
      · have := q2.fr a2 ha2; have : a2.block = b1 := hb2; omega
      · rw [shape_of_block (k.2 _ (SH.lt ⟨nn, q4⟩) (fun e => by have : a'.block = b1 := e; omega))]; exact q4
    have key0 : ∀ {ty : Nat} {v : Value}, H0 s1.size t ty v → H0 s1.size t' ty v := fun hx => by
      obtain ⟨a', q1, q2, nn, q4⟩ := hx
      exact ⟨a', q1, q2, nn, by rw [shape_of_block (k.2 _ (SH.lt ⟨nn, q4⟩) (fun e => by have : a'.block = b1 := e; omega))]; exact q4⟩
    unfold HLk at hx ⊢
    split at hx <;> first | exact key hx | exact key0 hx | trivial
  · intro L ρ t hp h0
    intros
    exact hp.ext h0 (Ext.refl _) rfl trivial (by simp [deps]) (by omega) (by omega) (by omega)
  · intro L ρ t hp h0 _ _ _ _ _ _ _ _ _ _ _ _ _ h13' _ h15 h16
    have h13 : 13 ∈ L := hp.cl 15 h15 13 (by simp [deps])
    obtain ⟨a, cc, e6, fr, sh⟩ := (hp.hl 13 h13 (fun h => absurd h (by decide))).ex
    obtain ⟨g2, g3, g0, g1, v, gv⟩ := hp.q2
    refine ⟨_, _, _, _, e6, hp.pu 16 h16, ?_⟩
    refine wrOne (i := 3) gv rfl fun t' k sz w wk => ?_
    have hal := fr.fr a rfl
    refine hp.step h0 (by omega) (kp_step hp.kp k fun d hd => .inl (.inr hd)) trivial trivial ?_ (by simp [deps]; exact ⟨h15, h13⟩) (fun _ => k.own (fun e => h12 e) (hp.h15 h15)) (fun _ => by rw [e6]; exact w) (hp.q1.kp k (fun e => h12 e)) ⟨fun _ => wk 2 _ (by omega) (g2 (by omega)), fun e => absurd rfl e, wk 0 _ (by omega) g0, wk 1 _ (by omega) g1, _, w⟩
    have hsz := hp.kp.1
    intro j hj hn hne hx
    have key : ∀ {ty es n : Nat} {vs : List Value} {v : Value}, HL s1.size t ty es n vs v → HL s1.size t' ty es n vs v := fun hx => by
      obtain ⟨a', c', q1, q2, q3⟩ := hx.ex
      have := q2.fr a' rfl
      obtain ⟨nn, q4⟩ := q3
      refine ⟨a', c', q1, q2.kp k fun a2 ha2 hb2 => ?_, nn, ?_⟩
      · have := q2.fr a2 ha2; have : a2.block = b2 := hb2; omega
      · rw [shape_of_block (k.2 _ (SH.lt ⟨nn, q4⟩) (fun e => by have : a'.block = b2 := e; omega))]; exact q4
    have key0 : ∀ {ty : Nat} {v : Value}, H0 s1.size t ty v → H0 s1.size t' ty v := fun hx => by
      obtain ⟨a', q1, q2, nn, q4⟩ := hx
      exact ⟨a', q1, q2, nn, by rw [shape_of_block (k.2 _ (SH.lt ⟨nn, q4⟩) (fun e => by have : a'.block = b2 := e; omega))]; exact q4⟩
    unfold HLk at hx ⊢
    split at hx <;> first | exact key hx | exact key0 hx | trivial
  · intro L ρ t hp h0 h1
    intros
    have e2 : ρ 2 = .slice y c.rs.length c2 := hp.pu 2 h0
    exact ⟨_, hp.pu 1 h1, _, _, _, (hX t hp.kp).o2.cell, e2.symm⟩
  · intro L ρ t hp h0
    intros
    have hx := hX t hp.kp
    have e2 : ρ 4 = .agg #[.int .i64 r.ev, .int .i64 r.wa, .int .i64 r.sh] := hp.pu 4 h0
    exact ⟨_, hx.r0.cell, ⟨_, hx.r1.cell, ⟨_, hx.r2.cell, e2.symm⟩⟩⟩
  · intro L ρ t hp h0 h1
    intros
    have e2 : ρ 9 = .slice z c.ls.length c3 := hp.pu 9 h0
    exact ⟨_, hp.pu 8 h1, _, _, _, (hX t hp.kp).o3.cell, e2.symm⟩
  · intro L ρ t hp h0
    intros
    have hx := hX t hp.kp
    have e2 : ρ 11 = .agg #[.int .i64 l.a, .int .i64 l.b, .int .i64 l.lo, .int .i64 l.hi] := hp.pu 11 h0
    exact ⟨_, hx.l0.cell, ⟨_, hx.l1.cell, ⟨_, hx.l2.cell, ⟨_, hx.l3.cell, e2.symm⟩⟩⟩⟩
  · intro L ρ t hp hall
    obtain ⟨a6, d6, e6, fr6, _⟩ := (hp.hl 6 (hall 6 (by omega)) (fun h => absurd h (by decide))).ex
    obtain ⟨a13, d13, e13, fr13, _⟩ := (hp.hl 13 (hall 13 (by omega)) (fun h => absurd h (by decide))).ex
    have w1 := hp.h15 (hall 15 (by omega))
    have w2 := hp.h17 (hall 17 (by omega))
    rw [e6] at w1
    rw [e13] at w2
    obtain ⟨_, g3, g0, g1, _⟩ := hp.q1
    obtain ⟨k2, _, k0, k1, _⟩ := hp.q2
    exact hk t (some a6) d6 (some a13) d13 (hX t hp.kp) hp.kp.1 ⟨g0, g1, w1, g3 (by omega)⟩ ⟨k0, k1, k2 (by omega), w2⟩ (o3.kp hp.kp (by omega)) fr6.row fr6.fr fr13.row fr13.fr
end
end Go.Proofs.Ytknpmijgdfeliaa.G

/- Clock: ClockMore: narrower bounds. -/
set_option linter.unusedSimpArgs false
set_option linter.unusedVariables false
set_option maxRecDepth 20000
namespace Go.Proofs.Ytknpmijgdfeliaa.G
open Go.V
theorem wtV_set {a b : Int} : ∀ (ws : List Wt) (i : Nat) (hi : i < ws.length), ((wtV ws).set (i * 4) (.int .i64 a)).set (i * 4 + 3) (.int .i64 b) = wtV (ws.set i ⟨a, ws[i].zhi, ws[i].rlo, b⟩)
  | w :: ws, 0, _ => rfl
  | w :: ws, i + 1, hi => by
    have ih := wtV_set (a := a) (b := b) ws i (by simpa using hi)
    show ((Value.int .i64 w.zlo :: .int .i64 w.zhi :: .int .i64 w.rlo :: .int .i64 w.rhi :: wtV ws).set ((i + 1) * 4) _).set ((i + 1) * 4 + 3) _ = Value.int .i64 w.zlo :: .int .i64 w.zhi :: .int .i64 w.rlo :: .int .i64 w.rhi :: wtV (ws.set i _)
    rw [show (i + 1) * 4 = i * 4 + 4 by omega]
    simp only [List.set_cons_succ, List.getElem_cons_succ]
    rw [ih]
theorem lkV_set {a : Int} : ∀ (ls : List Lk) (i : Nat) (hi : i < ls.length), (lkV ls).set (i * 4 + 2) (.int .i64 a) = lkV (ls.set i ⟨ls[i].a, ls[i].b, a, ls[i].hi⟩)
  | w :: ls, 0, _ => rfl
  | w :: ls, i + 1, hi => by
    have ih := lkV_set (a := a) ls i (by simpa using hi)
    show (Value.int .i64 w.a :: .int .i64 w.b :: .int .i64 w.lo :: .int .i64 w.hi :: lkV ls).set ((i + 1) * 4 + 2) _ = Value.int .i64 w.a :: .int .i64 w.b :: .int .i64 w.lo :: .int .i64 w.hi :: lkV (ls.set i _)
    rw [show (i + 1) * 4 + 2 = i * 4 + 2 + 4 by omega]
    simp only [List.set_cons_succ, List.getElem_cons_succ]
    rw [ih]
/-- One cell of a list is written. -/
theorem HL.set {lo : Nat} {t : Hp} {ty es n cc i : Nat} {vs : List Value} {a : Addr} {v : Value} {K : Hp → Prop} (h : HL lo t ty es n vs (.slice (some a) n cc)) (hi : i < vs.length) (h1 : oneCell v = true) (hk : ∀ t', Kp (· = a.block) t t' → t'.size = t.size → (∀ r, shapeAt t' r = shapeAt t r) → HL lo t' ty es n (vs.set i v) (.slice (some a) n cc) → K t') : WR (a.add i) v K t := by
  obtain ⟨a', c', e, fr, nn, sh⟩ := h.ex
  cases e
  refine WR_own (fr.buf.at hi) h1 ?_
  have hsh : ∀ r, shapeAt (setC t (a.add i) v) r = shapeAt t r := fun r => shape_setC r
  exact hk _ (Kp.setC (Kp.refl t) (.inl (add_blk a i))) (setC_size _ _ _) hsh ⟨a, cc, rfl, ⟨fr.buf.set hi, by rw [List.length_set]; exact fr.len, fr.fr, fr.cap⟩, nn, by rw [hsh]; exact sh⟩
theorem HL.at {lo : Nat} {t : Hp} {ty es n cc i : Nat} {vs : List Value} {a : Addr} (h : HL lo t ty es n vs (.slice (some a) n cc)) (hi : i < vs.length) : cellAt t (a.add i) = some vs[i] := by
  obtain ⟨a', c', e, fr, _⟩ := h.ex
  cases e
  exact (fr.buf.at hi).cell
theorem wt_len (l : List Wt) : (wtV l).length = l.length * 4 := flat_len (M := 4) (f := wt4) l fun x _ => rfl
theorem lk_len (l : List Lk) : (lkV l).length = l.length * 4 := flat_len (M := 4) (f := lk4) l fun x _ => rfl
theorem wt_at {l : List Wt} {i e : Nat} (hi : i < l.length) (he : e < 4) (h : i * 4 + e < (wtV l).length) : (wtV l)[i * 4 + e] = (wt4 l[i])[e]'he := by
  have hg := flat_get (M := 4) (f := wt4) l (fun x _ => rfl) i hi e he
  have h2 : (wtV l)[i * 4 + e]? = (wt4 l[i])[e]? := hg
  rw [List.getElem?_eq_getElem h, List.getElem?_eq_getElem (show e < (wt4 l[i]).length from he)] at h2
  exact Option.some.inj h2
theorem lk_at {l : List Lk} {i e : Nat} (hi : i < l.length) (he : e < 4) (h : i * 4 + e < (lkV l).length) : (lkV l)[i * 4 + e] = (lk4 l[i])[e]'he := by
  have hg := flat_get (M := 4) (f := lk4) l (fun x _ => rfl) i hi e he
  have h2 : (lkV l)[i * 4 + e]? = (lk4 l[i])[e]? := hg
  rw [List.getElem?_eq_getElem h, List.getElem?_eq_getElem (show e < (lk4 l[i]).length from he)] at h2
  exact Option.some.inj h2
theorem rem_u8 {b m : Nat} (hb : b < 256) (hm : 0 < m) (hm2 : m ≤ 1000) : Int.tmod (IntKind.i64.wrap (b : Int)) ((m : Nat) : Int) = ((b % m : Nat) : Int) := by
  rw [wrap_i64 (by omega) (by omega), Int.tmod_eq_emod_of_nonneg (by omega)]; rfl
section
variable {W : World} {K : VK} {E : List PanicEntry → Hp → Prop} {s : Hp} {c : Clk} {x y z : Option Addr} {c1 c2 c3 cb : Nat} {r : Rd} {l : Lk} {a0 b0 w0 : Int} {by' : Nat} {b1 b2 b3 : Nat}
/-- All three clocks as they stand ahead of the questions. -/
structure M3 (s : Hp) (c : Clk) (x y z : Option Addr) (c1 c2 c3 : Nat) (r : Rd) (l : Lk) (cb b1 b2 : Nat) (x6 x13 : Option Addr) (d6 d13 : Nat) (t : Hp) : Prop where
  tm : TM s c x y z c1 c2 c3 r l cb t
  q1 : C4 t b1 (.slice x c.ws.length c1) (.int .i64 c.n) (.slice x6 (c.rs.length + 1) d6) (.slice z c.ls.length c3)
  q2 : C4 t b2 (.slice x c.ws.length c1) (.int .i64 c.n) (.slice y c.rs.length c2) (.slice x13 (c.ls.length + 1) d13)
  r6 : RowAt t x6 (rdV (c.rs ++ [r]))
  r13 : RowAt t x13 (lkV (c.ls ++ [l]))
theorem M3.kp {D : Nat → Prop} {t t' : Hp} {x6 x13 : Option Addr} {d6 d13 : Nat} (h : M3 s c x y z c1 c2 c3 r l cb b1 b2 x6 x13 d6 d13 t) (k : Kp D t t') (hd : ∀ d, D d → cb + 2 < d ∧ d ≠ b1 ∧ d ≠ b2 ∧ (∀ a, x6 = some a → a.block ≠ d) ∧ (∀ a, x13 = some a → a.block ≠ d)) : M3 s c x y z c1 c2 c3 r l cb b1 b2 x6 x13 d6 d13 t' :=
  ⟨h.tm.keep k fun d hD => (hd d hD).1, h.q1.kp k fun hD => (hd _ hD).2.1 rfl, h.q2.kp k fun hD => (hd _ hD).2.2.1 rfl, h.r6.keep k fun a ha hD => (hd _ hD).2.2.2.1 a ha rfl, h.r13.keep k fun a ha hD => (hd _ hD).2.2.2.2 a ha rfl⟩
theorem M3.ext {t t' : Hp} {x6 x13 : Option Addr} {d6 d13 : Nat} (h : M3 s c x y z c1 c2 c3 r l cb b1 b2 x6 x13 d6 d13 t) (e : Ext t t') : M3 s c x y z c1 c2 c3 r l cb b1 b2 x6 x13 d6 d13 t' := h.kp (D := fun _ => False) e.kp fun d h => h.elim
theorem more_j2 {t0 : Hp} {lo : Nat} {x6 x13 xw xl : Option Addr} {d6 d13 cw cl : Nat} {ws' : List Wt} (hv : VdC c) (hby : by' < 256) (hT : M3 s c x y z c1 c2 c3 r l cb b1 b2 x6 x13 d6 d13 t0) (hb1 : cb + 2 < b1 ∧ b1 < lo) (hb2 : cb + 2 < b2 ∧ b2 < lo) (hb3 : cb + 2 < b3 ∧ b3 < lo) (hx6 : ∀ a, x6 = some a → a.block < lo ∧ a.block ≠ b3) (hx13 : ∀ a, x13 = some a → a.block < lo ∧ a.block ≠ b3)
    (q3 : C4 t0 b3 (.slice xw ws'.length cw) (.int .i64 c.n) (.slice y c.rs.length c2) (.slice xl c.ls.length cl)) (hw : HL lo t0 66 4 ws'.length (wtV ws') (.slice xw ws'.length cw)) (hl : HL lo t0 63 4 c.ls.length (lkV c.ls) (.slice xl c.ls.length cl))
    (hk : ∀ t ls', ls' = (narC c by').ls → M3 s c x y z c1 c2 c3 r l cb b1 b2 x6 x13 d6 d13 t → C4 t b3 (.slice xw ws'.length cw) (.int .i64 c.n) (.slice y c.rs.length c2) (.slice xl ls'.length cl) → RowAt t xw (wtV ws') → RowAt t xl (lkV ls') → J_law07_ClockMore_1 W (endK K E) ⟨cb, 0, none⟩ a0 b0 w0 ⟨b1, 0, none⟩ ⟨b2, 0, none⟩ ⟨b3, 0, none⟩ t) :
    J_law07_ClockMore_2 W (endK K E) ⟨b3, 0, none⟩ (by' : Int) ⟨cb, 0, none⟩ a0 b0 w0 ⟨b1, 0, none⟩ ⟨b2, 0, none⟩ t0 := by
  have hl5 := hv.l5
  unfold J_law07_ClockMore_2
  refine ⟨_, _, _, q3.2.2.2.cell, BR_dec (fun hpos => ?_) (fun hno => ?_)⟩
  · have h0 : 0 < c.ls.length := by omega
    have hi : by' % c.ls.length < c.ls.length := Nat.mod_lt _ h0
    obtain ⟨a, cc, e, fr, sh⟩ := hl.ex
    cases e
    have hlen := lk_len c.ls
    refine ⟨_, _, _, q3.2.2.2.cell, NZI_pos (by omega) ?_⟩
    rw [rem_u8 hby h0 (by omega)]
    generalize hii : by' % c.ls.length = i at hi
    have hlv := hv.lk _ (List.getElem_mem hi)
    refine IXS_nat hi ?_
    have eA : ∀ e, (((a.add (i * 4)).add 2).add e) = a.add (i * 4 + (2 + e)) := fun e => by rw [addr_add, addr_add]
    have g3 : cellAt t0 (((a.add (i * 4)).add 2).add 1) = some (.int .i64 c.ls[i].hi) := by
      rw [eA, hl.at (by omega), lk_at hi (by omega) (by omega)]; rfl
    have g2 : cellAt t0 (((a.add (i * 4)).add 2).add 0) = some (.int .i64 c.ls[i].lo) := by
      rw [eA, hl.at (by omega), lk_at hi (by omega) (by omega)]; rfl
    refine ⟨_, g3, ⟨_, g2, ?_⟩⟩
    have e7 : Int.tmod (IntKind.i64.wrap (by' : Int)) 7 = ((by' % 7 : Nat) : Int) := rem_u8 (m := 7) hby (by omega) (by omega)
    have e8 : IntKind.i64.wrap (c.ls[i].lo + ((by' % 7 : Nat) : Int)) = c.ls[i].lo + ((by' % 7 : Nat) : Int) := wrap_i64 (by omega) (by omega)
    dsimp only
    rw [e7, e8]
    have e9 : (if c.ls[i].lo + ((by' % 7 : Nat) : Int) < c.ls[i].hi then c.ls[i].lo + ((by' % 7 : Nat) : Int) else c.ls[i].hi) = min c.ls[i].hi (c.ls[i].lo + ((by' % 7 : Nat) : Int)) := by rw [Int.min_def]; split <;> split <;> omega
    rw [e9, add_0, eA]
    refine hl.set (i := i * 4 + (2 + 0)) (by omega) rfl fun t' k sz hsh hl' => ?_
    have hal := fr.fr a rfl
    have eset : (lkV c.ls).set (i * 4 + (2 + 0)) (.int .i64 (min c.ls[i].hi (c.ls[i].lo + ((by' % 7 : Nat) : Int)))) = lkV (narC c by').ls := by
      have e := lkV_set (a := min c.ls[i].hi (c.ls[i].lo + ((by' % 7 : Nat) : Int))) c.ls i hi
      rw [Nat.add_zero, e]
      show lkV _ = lkV (if h : 0 < c.ls.length then _ else c.ls)
      rw [dif_pos h0]
      subst hii
      rfl
    have hnl : (narC c by').ls.length = c.ls.length := by
      show (if h : 0 < c.ls.length then _ else c.ls).length = _
      rw [dif_pos h0]; simp
    obtain ⟨aw, cw', ew, frw, shw⟩ := hw.ex
    cases ew
    have hne : aw.block ≠ a.block := SH.ne shw sh (by decide)
    refine hk t' _ rfl (hT.kp k fun d hd => ?_) ?_ (hw.row.2.1.keep k fun a2 ha2 hb2 => by cases ha2; exact hne hb2) ?_
    · have : d = a.block := hd
      subst this
      exact ⟨by omega, by omega, by omega, fun a2 ha2 => by have := hx6 a2 ha2; omega, fun a2 ha2 => by have := hx13 a2 ha2; omega⟩
    · rw [hnl]; exact q3.kp k (by show ¬ b3 = a.block; omega)
    · rw [← eset]; exact hl'.row.2.1
  · have h0 : c.ls.length = 0 := by omega
    have e : (narC c by').ls = c.ls := by
      show (if h : 0 < c.ls.length then _ else c.ls) = _
      rw [dif_neg (by omega)]
    exact hk t0 c.ls e.symm hT q3 hw.row.2.1 hl.row.2.1
theorem more_j3 {t0 : Hp} {lo : Nat} {x6 x13 xw xl : Option Addr} {d6 d13 cw cl : Nat} (hv : VdC c) (hby : by' < 256) (hT : M3 s c x y z c1 c2 c3 r l cb b1 b2 x6 x13 d6 d13 t0) (hb1 : cb + 2 < b1 ∧ b1 < lo) (hb2 : cb + 2 < b2 ∧ b2 < lo) (hb3 : cb + 2 < b3 ∧ b3 < lo) (hx6 : ∀ a, x6 = some a → a.block < lo ∧ a.block ≠ b3) (hx13 : ∀ a, x13 = some a → a.block < lo ∧ a.block ≠ b3)
    (q3 : C4 t0 b3 (.slice xw c.ws.length cw) (.int .i64 c.n) (.slice y c.rs.length c2) (.slice xl c.ls.length cl)) (hw : HL lo t0 66 4 c.ws.length (wtV c.ws) (.slice xw c.ws.length cw)) (hl : HL lo t0 63 4 c.ls.length (lkV c.ls) (.slice xl c.ls.length cl))
    (hk : ∀ t, M3 s c x y z c1 c2 c3 r l cb b1 b2 x6 x13 d6 d13 t → C4 t b3 (.slice xw (narC c by').ws.length cw) (.int .i64 c.n) (.slice y c.rs.length c2) (.slice xl (narC c by').ls.length cl) → RowAt t xw (wtV (narC c by').ws) → RowAt t xl (lkV (narC c by').ls) → J_law07_ClockMore_1 W (endK K E) ⟨cb, 0, none⟩ a0 b0 w0 ⟨b1, 0, none⟩ ⟨b2, 0, none⟩ ⟨b3, 0, none⟩ t) :
    J_law07_ClockMore_3 W (endK K E) ⟨b3, 0, none⟩ (by' : Int) ⟨cb, 0, none⟩ a0 b0 w0 ⟨b1, 0, none⟩ ⟨b2, 0, none⟩ t0 := by
  have hw2 := hv.w2
  unfold J_law07_ClockMore_3
  refine ⟨_, _, _, q3.1.cell, BR_dec (fun hpos => ?_) (fun hno => ?_)⟩
  · have h0 : 0 < c.ws.length := by omega
    have hi : by' % c.ws.length < c.ws.length := Nat.mod_lt _ h0
    obtain ⟨a, cc, e, fr, sh⟩ := hw.ex
    cases e
    have hlen := wt_len c.ws
    refine ⟨_, _, _, q3.1.cell, NZI_pos (by omega) ?_⟩
    rw [rem_u8 hby h0 (by omega)]
    generalize hii : by' % c.ws.length = i at hi
    have hwv := hv.wt _ (List.getElem_mem hi)
    have eA : ∀ d e, (((a.add (i * 4)).add d).add e) = a.add (i * 4 + (d + e)) := fun d e => by rw [addr_add, addr_add]
    obtain ⟨al, cl', el, frl, shl⟩ := hl.ex
    cases el
    have hne : al.block ≠ a.block := SH.ne shl sh (by decide)
    have hal := fr.fr a rfl
    -- the cells
    have G : ∀ t vs, HL lo t 66 4 c.ws.length vs (.slice (some a) c.ws.length cw) → ∀ e (h : i * 4 + e < vs.length), cellAt t (a.add (i * 4 + e)) = some (vs[i * 4 + e]) := fun t vs h e he => h.at he
    have g1 : cellAt t0 (((a.add (i * 4)).add 0).add 1) = some (.int .i64 c.ws[i].zhi) := by
      rw [eA, hw.at (by omega), wt_at hi (by omega) (by omega)]; rfl
    have g0 : cellAt t0 (((a.add (i * 4)).add 0).add 0) = some (.int .i64 c.ws[i].zlo) := by
      rw [eA, hw.at (by omega), wt_at hi (by omega) (by omega)]; rfl
    have g2 : cellAt t0 (((a.add (i * 4)).add 2).add 0) = some (.int .i64 c.ws[i].rlo) := by
      rw [eA, hw.at (by omega), wt_at hi (by omega) (by omega)]; rfl
    have g3 : cellAt t0 (((a.add (i * 4)).add 2).add 1) = some (.int .i64 c.ws[i].rhi) := by
      rw [eA, hw.at (by omega), wt_at hi (by omega) (by omega)]; rfl
    refine IXS_nat hi ⟨_, g1, ⟨_, g0, ⟨_, g2, ⟨_, g3, ?_⟩⟩⟩⟩
    have e1 : IntKind.i64.wrap (c.ws[i].zlo + 1) = c.ws[i].zlo + 1 := wrap_i64 (by omega) (by omega)
    have e2 : IntKind.i64.wrap (c.ws[i].rhi - 1) = c.ws[i].rhi - 1 := wrap_i64 (by omega) (by omega)
    have e3 : (if c.ws[i].zlo + 1 < c.ws[i].zhi then c.ws[i].zlo + 1 else c.ws[i].zhi) = min c.ws[i].zhi (c.ws[i].zlo + 1) := by rw [Int.min_def]; split <;> split <;> omega
    have e4 : (if c.ws[i].rhi - 1 > c.ws[i].rlo then c.ws[i].rhi - 1 else c.ws[i].rlo) = max c.ws[i].rlo (c.ws[i].rhi - 1) := by rw [Int.max_def]; split <;> split <;> omega
    have hfin : ∀ t', Kp (· = a.block) t0 t' → t'.size = t0.size → (∀ q, shapeAt t' q = shapeAt t0 q) → HL lo t' 66 4 c.ws.length (((wtV c.ws).set (i * 4) (.int .i64 (min c.ws[i].zhi (c.ws[i].zlo + 1)))).set (i * 4 + 3) (.int .i64 (max c.ws[i].rlo (c.ws[i].rhi - 1)))) (.slice (some a) c.ws.length cw) → J_law07_ClockMore_2 W (endK K E) ⟨b3, 0, none⟩ (by' : Int) ⟨cb, 0, none⟩ a0 b0 w0 ⟨b1, 0, none⟩ ⟨b2, 0, none⟩ t' := by
      intro t' k sz hsh hw'
      have hnw : (narC c by').ws.length = c.ws.length := Mo.nar (by' := by') hv |>.wl
      have eset : ((wtV c.ws).set (i * 4) (.int .i64 (min c.ws[i].zhi (c.ws[i].zlo + 1)))).set (i * 4 + 3) (.int .i64 (max c.ws[i].rlo (c.ws[i].rhi - 1))) = wtV (narC c by').ws := by
        rw [wtV_set c.ws i hi]
        show _ = wtV (if h : 0 < c.ws.length then _ else c.ws)
        rw [dif_pos h0]
        subst hii
        rfl
      rw [eset] at hw'
      refine more_j2 (ws' := (narC c by').ws) (xl := some al) (cl := cl) hv hby (hT.kp k fun d hd => ?_) hb1 hb2 hb3 hx6 hx13 ?_ (by rw [hnw]; exact hw') ?_ fun t ls' e g1 g2 g3 g4 => ?_
      · have : d = a.block := hd
        subst this
        exact ⟨by omega, by omega, by omega, fun a2 ha2 => by have := hx6 a2 ha2; omega, fun a2 ha2 => by have := hx13 a2 ha2; omega⟩
      · rw [hnw]; exact q3.kp k (by show ¬ b3 = a.block; omega)
      · exact ⟨al, cl, rfl, frl.kp k fun a2 ha2 hb2 => by cases ha2; exact hne hb2, by obtain ⟨nn, hn⟩ := shl; exact ⟨nn, by rw [hsh]; exact hn⟩⟩
      · rw [e] at g2 g4
        exact hk t g1 g2 g3 g4
    -- a write to the first, then to the last cell
    have hW : ∀ (J : Hp → Prop), (∀ t', Kp (· = a.block) t0 t' → t'.size = t0.size → (∀ q, shapeAt t' q = shapeAt t0 q) → HL lo t' 66 4 c.ws.length ((wtV c.ws).set (i * 4) (.int .i64 (min c.ws[i].zhi (c.ws[i].zlo + 1)))) (.slice (some a) c.ws.length cw) → J t') →
        WR (((a.add (i * 4)).add 0).add 0 |>.add 0) (.int .i64 (if IntKind.i64.wrap (c.ws[i].zlo + 1) < c.ws[i].zhi then IntKind.i64.wrap (c.ws[i].zlo + 1) else c.ws[i].zhi)) J t0 := fun J hJ => by
      rw [e1, e3, add_0, eA]
      refine hw.set (i := i * 4 + (0 + 0)) (by omega) rfl fun t' k sz hsh hw' => hJ t' k sz hsh ?_
      exact hw'
    have hW2 : ∀ t', Kp (· = a.block) t0 t' → t'.size = t0.size → (∀ q, shapeAt t' q = shapeAt t0 q) → HL lo t' 66 4 c.ws.length ((wtV c.ws).set (i * 4) (.int .i64 (min c.ws[i].zhi (c.ws[i].zlo + 1)))) (.slice (some a) c.ws.length cw) →
        WR (((a.add (i * 4)).add 2).add 1 |>.add 0) (.int .i64 (if IntKind.i64.wrap (c.ws[i].rhi - 1) > c.ws[i].rlo then IntKind.i64.wrap (c.ws[i].rhi - 1) else c.ws[i].rlo)) (J_law07_ClockMore_2 W (endK K E) ⟨b3, 0, none⟩ (by' : Int) ⟨cb, 0, none⟩ a0 b0 w0 ⟨b1, 0, none⟩ ⟨b2, 0, none⟩) t' := fun t' k sz hsh hw' => by
      rw [e2, e4, add_0, eA]
      refine hw'.set (i := i * 4 + (2 + 1)) (by rw [List.length_set]; omega) rfl fun t2 k2 sz2 hsh2 hw2' => ?_
      exact hfin t2 (k.trans k2) (by omega) (fun q => by rw [hsh2, hsh]) hw2'
    refine ⟨ANDS_i ⟨_, g3, rfl⟩ (ANDS_i ⟨_, g2, rfl⟩ (CONJ_two ?_ ?_)), ?_⟩
    · exact hW _ hW2
    · exact hW _ hW2
    · exact ANDS_i ⟨_, g0, rfl⟩ (ANDS_i ⟨_, g1, rfl⟩ (hW _ hW2))
  · have h0 : c.ws.length = 0 := by omega
    have e : (narC c by').ws = c.ws := by
      show (if h : 0 < c.ws.length then _ else c.ws) = _
      rw [dif_neg (by omega)]
    refine more_j2 (ws' := c.ws) hv hby hT hb1 hb2 hb3 hx6 hx13 q3 hw hl fun t ls' e' g1 g2 g3 g4 => ?_
    rw [← e] at g2 g3
    rw [e'] at g2 g4
    exact hk t g1 g2 g3 g4
theorem more_a1 {t0 : Hp} {x6 x13 : Option Addr} {d6 d13 : Nat} (hc : ClV s c x y z) (hv : VdC c) (hby : by' < 256) (hT : M3 s c x y z c1 c2 c3 r l cb b1 b2 x6 x13 d6 d13 t0) (hb1 : cb + 2 < b1 ∧ b1 < t0.size) (hb2 : cb + 2 < b2 ∧ b2 < t0.size) (hb3 : cb + 2 < b3 ∧ b3 < t0.size) (hn13 : b1 ≠ b3) (hn23 : b2 ≠ b3) (hx6 : ∀ a, x6 = some a → a.block < t0.size ∧ a.block ≠ b3) (hx13 : ∀ a, x13 = some a → a.block < t0.size ∧ a.block ≠ b3)
    (q3 : CV4 t0 b3 c x y z c1 c2 c3)
    (hk : ∀ t xw xl cw cl, M3 s c x y z c1 c2 c3 r l cb b1 b2 x6 x13 d6 d13 t → C4 t b3 (.slice xw (narC c by').ws.length cw) (.int .i64 c.n) (.slice y c.rs.length c2) (.slice xl (narC c by').ls.length cl) → RowAt t xw (wtV (narC c by').ws) → RowAt t xl (lkV (narC c by').ls) → J_law07_ClockMore_1 W (endK K E) ⟨cb, 0, none⟩ a0 b0 w0 ⟨b1, 0, none⟩ ⟨b2, 0, none⟩ ⟨b3, 0, none⟩ t) :
    A_law07_ClockMore_1 W (endK K E) a0 b0 w0 (by' : Int) ⟨cb, 0, none⟩ ⟨cb + 1, 0, none⟩ ⟨cb + 2, 0, none⟩ ⟨b1, 0, none⟩ ⟨b2, 0, none⟩ ⟨b3, 0, none⟩ t0 := by
  have hl5 := hv.l5
  have hw2 := hv.w2
  have hX : ∀ t, Ext t0 t → TM s c x y z c1 c2 c3 r l cb t := fun t e => hT.tm.extk e
  have hCw : ∀ t, Ext t0 t → RowAt t x (wtV c.ws) := fun t e => wt_row (hc.ext (hX t e).ext).ws
  have hCl : ∀ t, Ext t0 t → RowAt t z (lkV c.ls) := fun t e => lk_row (hc.ext (hX t e).ext).ls
  have B3 : ∀ t, Ext t0 t → (RDL (Addr.add ⟨cb, 0, none⟩ 3) fun x443 l444 c445 => fun _ => ((.slice x443 l444 c445) : Value) = (.slice z c.ls.length c3)) t := fun t e => ⟨_, _, _, (hX t e).o3.cell, rfl⟩
  have B0 : ∀ t, Ext t0 t → (RDL (Addr.add ⟨cb, 0, none⟩ 0) fun x443 l444 c445 => fun _ => ((.slice x443 l444 c445) : Value) = (.slice x c.ws.length c1)) t := fun t e => ⟨_, _, _, (hX t e).o0.cell, rfl⟩
  have hfin : ∀ t xw cw xl cl, Ext t0 t → HL t0.size t 66 4 c.ws.length (wtV c.ws) (.slice xw c.ws.length cw) → HL t0.size t 63 4 c.ls.length (lkV c.ls) (.slice xl c.ls.length cl) →
      (WR (Addr.add (Addr.add ⟨b3, 0, none⟩ 0) 0) (.slice xw c.ws.length cw) <| WR (Addr.add (Addr.add ⟨b3, 0, none⟩ 3) 0) (.slice xl c.ls.length cl) <| J_law07_ClockMore_3 W (endK K E) ⟨b3, 0, none⟩ (by' : Int) ⟨cb, 0, none⟩ a0 b0 w0 ⟨b1, 0, none⟩ ⟨b2, 0, none⟩) t := by
    intro t xw cw xl cl e hw hl
    have q := q3.ext e
    refine wrOne (i := 0) q.1 rfl fun t1 k1 z1 w0' wk => ?_
    refine wrOne (i := 3) (wk 3 _ (by omega) q.2.2.2) rfl fun t2 k2 z2 w3' wk2 => ?_
    have kk : Kp (· = b3) t t2 := k1.trans k2
    have hh : ∀ {ty es n : Nat} {vs : List Value} {v : Value}, HL t0.size t ty es n vs v → HL t0.size t2 ty es n vs v := fun h => by
      obtain ⟨a, cc, h1, h2, nn, h3⟩ := h.ex
      have hf := h2.fr a rfl
      refine ⟨a, cc, h1, h2.kp kk fun a2 ha2 hb2 => ?_, nn, ?_⟩
      · have := h2.fr a2 ha2; have : a2.block = b3 := hb2; omega
      · rw [shape_of_block (kk.2 _ (SH.lt ⟨nn, h3⟩) (fun e => by have : a.block = b3 := e; omega))]; exact h3
    refine more_j3 hv hby ((hT.ext e).kp kk fun d hd => ?_) hb1 hb2 hb3 hx6 hx13 ⟨wk2 0 _ (by omega) w0', wk2 1 _ (by omega) (wk 1 _ (by omega) q.2.1), wk2 2 _ (by omega) (wk 2 _ (by omega) q.2.2.1), w3'⟩ (hh hw) (hh hl) fun t' g1 g2 g3 g4 => hk t' xw xl cw cl g1 g2 g3 g4
    have : d = b3 := hd
    subst this
    exact ⟨by omega, Ne.symm hn13, Ne.symm hn23, fun a ha => (hx6 a ha).2, fun a ha => (hx13 a ha).2⟩
  unfold A_law07_ClockMore_1
  refine ⟨_, _, _, (hX t0 (Ext.refl _)).o0.cell, ⟨_, _, _, (hX t0 (Ext.refl _)).o3.cell, ?_⟩⟩
  refine CONJ_two ?_ ?_
  · refine H0.new (lo := t0.size) (Nat.le_refl _) fun t1 e1 h1 => ?_
    refine ANDS_i (B3 t1 e1) (ANDS_i (B0 t1 e1) (CONJ_two ?_ ?_))
    · obtain ⟨a, ea, ha, hs⟩ := h1
      cases ea
      refine H0.app ha hs e1.1 (hCw t1 e1) (wt_len _) zc_66 rfl (by omega) (by omega) fun t2 xw cw e2 hw => ?_
      have e02 := e1.trans e2
      refine ANDS_i (B3 t2 e02) ?_
      refine H0.new (lo := t0.size) e02.1 fun t3 e3 h3 => ?_
      have e03 := e02.trans e3
      refine ANDS_i (B3 t3 e03) ?_
      obtain ⟨a3, ea3, ha3, hs3⟩ := h3
      cases ea3
      exact H0.app ha3 hs3 e03.1 (hCl t3 e03) (lk_len _) zc_63 rfl (by omega) (by omega) fun t4 xl cl e4 hl => hfin t4 xw cw xl cl (e03.trans e4) (hw.ext (e3.trans e4)) hl
    · refine H0.new (lo := t0.size) e1.1 fun t2 e2 h2 => ?_
      have e02 := e1.trans e2
      refine ANDS_i (B3 t2 e02) (ANDS_i (B0 t2 e02) ?_)
      obtain ⟨a, ea, ha, hs⟩ := h1
      cases ea
      refine H0.app ha (hs.ext e2) e02.1 (hCw t2 e02) (wt_len _) zc_66 rfl (by omega) (by omega) fun t3 xw cw e3 hw => ?_
      have e03 := e02.trans e3
      refine ANDS_i (B3 t3 e03) ?_
      obtain ⟨a3, ea3, ha3, hs3⟩ := h2
      cases ea3
      exact H0.app ha3 (hs3.ext e3) e03.1 (hCl t3 e03) (lk_len _) zc_63 rfl (by omega) (by omega) fun t4 xl cl e4 hl => hfin t4 xw cw xl cl (e03.trans e4) (hw.ext e4) hl
  · refine H0.new (lo := t0.size) (Nat.le_refl _) fun t1 e1 h1 => ?_
    refine ANDS_i (B3 t1 e1) (ANDS_i (B0 t1 e1) ?_)
    refine H0.new (lo := t0.size) e1.1 fun t2 e2 h2 => ?_
    have e02 := e1.trans e2
    refine ANDS_i (B3 t2 e02) (ANDS_i (B0 t2 e02) ?_)
    obtain ⟨a, ea, ha, hs⟩ := h2
    cases ea
    refine H0.app ha hs e02.1 (hCw t2 e02) (wt_len _) zc_66 rfl (by omega) (by omega) fun t3 xw cw e3 hw => ?_
    have e03 := e02.trans e3
    refine ANDS_i (B3 t3 e03) ?_
    obtain ⟨a3, ea3, ha3, hs3⟩ := h1
    cases ea3
    exact H0.app ha3 ((hs3.ext e2).ext e3) e03.1 (hCl t3 e03) (lk_len _) zc_63 rfl (by omega) (by omega) fun t4 xl cl e4 hl => hfin t4 xw cw xl cl (e03.trans e4) (hw.ext e4) hl
end
end Go.Proofs.Ytknpmijgdfeliaa.G

/- Clock: ClockMore: what more is told of. -/
set_option linter.unusedSimpArgs false
set_option linter.unusedVariables false
set_option maxRecDepth 20000
namespace Go.Proofs.Ytknpmijgdfeliaa.G
open Go.V
/-- A span that is held in two cells. -/
def S2 (t : Hp) (b : Nat) (lo hi : Int) : Prop := Own t ⟨b, 0, none⟩ (.int .i64 lo) ∧ Own t ⟨b, 1, none⟩ (.int .i64 hi)
theorem S2.ext {t t' : Hp} {b : Nat} {lo hi : Int} (h : S2 t b lo hi) (e : Ext t t') : S2 t' b lo hi := ⟨e.own h.1, e.own h.2⟩
/-- What is told of the clock. -/
structure Ans (c : Clk) (a b w : Int) (t : Hp) (d e : Int) (bs : Nat) (f : Int) (bt : Nat) (g fn h : Int) (bu bv : Nat) (i : Int) (bw : Nat) (k : Int) : Prop where
  vd : VdC c
  qd : DropR c d e
  qs : ∃ lo hi, QR c (decide (0 ≤ a ∧ a < c.n)) (laterV (-1) a) lo hi f ∧ S2 t bs lo hi
  qt : ∃ lo hi, QR c (decide (0 ≤ a ∧ a < c.n) && decide (0 ≤ b ∧ b < c.n)) (laterV a b) lo hi g ∧ S2 t bt lo hi
  qn : ∃ lo hi, QR c (decide (0 ≤ a ∧ a < c.n) && decide (0 ≤ b ∧ b < c.n)) (laterV a b) lo hi h ∧ fn = firstN lo hi h
  qu : ∃ lo hi, QR c (decide (0 ≤ w ∧ w < c.ws.length)) (zeroV w) lo hi i ∧ S2 t bu lo hi
  qv : ∃ lo hi, QR c (decide (0 ≤ w ∧ w < c.ws.length)) (rateV w) lo hi i ∧ S2 t bv lo hi
  qw : ∃ lo hi, QR c (decide (0 ≤ w ∧ w < c.ws.length) && decide (0 ≤ a ∧ a < c.n)) (showV w a) lo hi k ∧ S2 t bw lo hi
theorem Ans.ext {c : Clk} {a b w : Int} {t t' : Hp} {d e : Int} {bs : Nat} {f : Int} {bt : Nat} {g fn h : Int} {bu bv : Nat} {i : Int} {bw : Nat} {k : Int} (x : Ans c a b w t d e bs f bt g fn h bu bv i bw k) (ex : Ext t t') : Ans c a b w t' d e bs f bt g fn h bu bv i bw k where
  vd := x.vd
  qd := x.qd
  qs := by obtain ⟨lo, hi, h1, h2⟩ := x.qs; exact ⟨lo, hi, h1, h2.ext ex⟩
  qt := by obtain ⟨lo, hi, h1, h2⟩ := x.qt; exact ⟨lo, hi, h1, h2.ext ex⟩
  qn := x.qn
  qu := by obtain ⟨lo, hi, h1, h2⟩ := x.qu; exact ⟨lo, hi, h1, h2.ext ex⟩
  qv := by obtain ⟨lo, hi, h1, h2⟩ := x.qv; exact ⟨lo, hi, h1, h2.ext ex⟩
  qw := by obtain ⟨lo, hi, h1, h2⟩ := x.qw; exact ⟨lo, hi, h1, h2.ext ex⟩
section
variable {W : World} {K : VK} {E : List PanicEntry → Hp → Prop} {s : Hp}
theorem c_in {lo hi lo' hi' : Int} (h0 : lo' ≤ lo) (h1 : hi ≤ hi') (h : ∀ s', Ext s s' → K (.bool true) s') : CALLV Pg W (.func (.func 30) #[] #[]) [.agg #[.int .i64 lo, .int .i64 hi], .agg #[.int .i64 lo', .int .i64 hi']] K E s := by
  refine CALLV_func ?_
  refine does_law07_ClockMore_c1 W lo hi lo' hi' _ s ?_
  unfold T_law07_ClockMore_c1
  refine ne2 fun s1 e1 z1 o0 o1 => ?_
  refine ne2 fun s2 e2 z2 p0 p1 => ?_
  refine ⟨_, (e2.own o0).cell, ⟨_, p0.cell, BR_tt (decide_eq_true h0) ⟨_, (e2.own o1).cell, ⟨_, p1.cell, ?_⟩⟩⟩⟩
  dsimp only
  rw [decide_eq_true h1]
  exact h s2 (e1.trans e2)
/-- Three clocks in a row. -/
structure Tri3 (c : Clk) (t : Hp) (A : Nat) (cs : Nat → Clk) (xs ys zs : Nat → Option Addr) (d1 d2 d3 : Nat → Nat) : Prop where
  mo : ∀ k, k < 3 → Mo c (cs k)
  cl : ∀ k, k < 3 → ClV t (cs k) (xs k) (ys k) (zs k)
  p0 : ∀ k, k < 3 → cellAt t ⟨A, k * 4, none⟩ = some (.slice (xs k) (cs k).ws.length (d1 k))
  p1 : ∀ k, k < 3 → cellAt t ⟨A, k * 4 + 1, none⟩ = some (.int .i64 (cs k).n)
  p2 : ∀ k, k < 3 → cellAt t ⟨A, k * 4 + 2, none⟩ = some (.slice (ys k) (cs k).rs.length (d2 k))
  p3 : ∀ k, k < 3 → cellAt t ⟨A, k * 4 + 3, none⟩ = some (.slice (zs k) (cs k).ls.length (d3 k))
theorem more_loop {c : Clk} {a b w : Int} {t0 : Hp} {d e : Int} {bs : Nat} {f : Int} {bt : Nat} {g fn hh : Int} {bu bv : Nat} {i : Int} {bw : Nat} {kk : Int} {A : Nat} {cs : Nat → Clk} {xs ys zs : Nat → Option Addr} {d1 d2 d3 : Nat → Nat} (ha : Ans c a b w t0 d e bs f bt g fn hh bu bv i bw kk) (h3 : Tri3 c t0 A cs xs ys zs d1 d2 d3) (hk : ∀ t, Ext t0 t → K (.bool true) t) :
    L_law07_ClockMore_0 W (endK K E) a b w d e ⟨bs, 0, none⟩ f ⟨bt, 0, none⟩ g fn hh ⟨bu, 0, none⟩ ⟨bv, 0, none⟩ i ⟨bw, 0, none⟩ kk ⟨A, 0, none⟩ false 0 t0 := by
  have hv := ha.vd
  refine L_law07_ClockMore_0_rule W _ _ _ _ _ _ _ _ _ _ _ _ _ _ _ _ _ _ (fun _ n u => Ext t0 u ∧ ∃ j : Nat, n = j ∧ j ≤ 3) (fun _ n _ => (3 - n).toNat) false 0 t0 ⟨Ext.refl _, 0, rfl, by omega⟩ ?_
  rintro bb n u ⟨eu, j, rfl, hj⟩
  generalize hnx : (fun vs => N_law07_ClockMore_0 _ _ bb (j : Int) u vs) = nx
  unfold B_law07_ClockMore_0
  refine BR_dec (fun hlt => ?_) (fun hge => c_alive fun t e => hk t (eu.trans e))
  have hj3 : j < 3 := by omega
  have hfin : ∀ t bb', Ext t0 t → nx [.bool bb', .int .i64 (IntKind.wrap .i64 ((j : Int) + 1))] t := fun t bb' et => by
    rw [← hnx]
    refine ⟨_, _, rfl, ⟨et, j + 1, wrap_succ (by omega), by omega⟩, ?_⟩
    rw [wrap_succ (by omega)]
    show (3 - ((j + 1 : Nat) : Int)).toNat < (3 - (j : Int)).toNat
    omega
  clear hnx
  have hmo := h3.mo j hj3
  have hcl := h3.cl j hj3
  have p0 := h3.p0 j hj3
  have p1 := h3.p1 j hj3
  have p2 := h3.p2 j hj3
  have p3 := h3.p3 j hj3
  generalize cs j = q at hmo hcl p0 p1 p2 p3
  generalize xs j = x at hcl p0
  generalize ys j = y at hcl p2
  generalize zs j = z at hcl p3
  generalize d1 j = c1 at p0
  generalize d2 j = c2 at p2
  generalize d3 j = c3 at p3
  have eadr : ∀ m, ((⟨A, 0, none⟩ : Addr).add (j * 4)).add m = ⟨A, j * 4 + m, none⟩ := fun m => by rw [addr_add, add_nil, Nat.zero_add]
  refine IXS_nat hj3 ?_
  refine ⟨_, _, _, by rw [eadr]; exact eu.cell p0, ⟨_, by rw [eadr]; exact eu.cell p1, ⟨_, _, _, by rw [eadr]; exact eu.cell p2, ⟨_, _, _, by rw [eadr]; exact eu.cell p3, ?_⟩⟩⟩⟩
  refine nw4 zc_26 rfl rfl rfl rfl fun u1 e1 z1 o0 o1 o2 o3 => ?_
  have eu1 := eu.trans e1
  have hC : ∀ t, Ext u1 t → ClV t q x y z := fun t e => hcl.ext (eu1.trans e)
  refine ⟨_, _, _, o0.cell, ⟨_, o1.cell, ⟨_, _, _, o2.cell, ⟨_, _, _, o3.cell, ?_⟩⟩⟩⟩
  refine f_Clock (hC u1 (Ext.refl _)) fun u2 e2 => ?_
  try simp only [TUP_mk, AGG_mk, HD_mk, NL_mk, TYI_mk, TYB_mk, TYP_mk, TYL_mk, TYS_mk, TYM_mk, SO_mk, NX_mk, endK_mk, endK_mk', add_0]
  cases hok : okC q with
  | false =>
    refine BR_tt rfl ?_
    unfold J_law07_ClockMore_4
    try simp only [TUP_mk, AGG_mk, HD_mk, NL_mk, TYI_mk, TYB_mk, TYP_mk, TYL_mk, TYS_mk, TYM_mk, SO_mk, NX_mk, endK_mk, endK_mk', add_0]
    exact hfin u2 bb (eu1.trans e2)
  | true =>
  have hv' := okC_iff.1 hok
  have hw2' := hv'.w2
  have hJ4 : ∀ t, Ext u1 t → J_law07_ClockMore_4 W (endK K E) a b w d e ⟨bs, 0, none⟩ f ⟨bt, 0, none⟩ g fn hh ⟨bu, 0, none⟩ ⟨bv, 0, none⟩ i ⟨bw, 0, none⟩ kk ⟨A, 0, none⟩ nx bb (j : Int) t := fun t e => by
    unfold J_law07_ClockMore_4
    try simp only [TUP_mk, AGG_mk, HD_mk, NL_mk, TYI_mk, TYB_mk, TYP_mk, TYL_mk, TYS_mk, TYM_mk, SO_mk, NX_mk, endK_mk, endK_mk', add_0]
    exact hfin t bb (eu1.trans e)
  have hJ5 : ∀ t, Ext u1 t → J_law07_ClockMore_5 W (endK K E) false a b w d e ⟨bs, 0, none⟩ f ⟨bt, 0, none⟩ g fn hh ⟨bu, 0, none⟩ ⟨bv, 0, none⟩ i ⟨bw, 0, none⟩ kk ⟨A, 0, none⟩ nx bb (j : Int) t := fun t e => by
    unfold J_law07_ClockMore_5
    exact BR_ff rfl (hJ4 t e)
  clear hfin
  -- all other questions
  have hJ10 : ∀ t, Ext u1 t → J_law07_ClockMore_10 W (endK K E) false u.size a b w f i d e ⟨bs, 0, none⟩ ⟨bt, 0, none⟩ g fn hh ⟨bu, 0, none⟩ ⟨bv, 0, none⟩ ⟨bw, 0, none⟩ kk ⟨A, 0, none⟩ nx bb (j : Int) t := by
    intro t et
    unfold J_law07_ClockMore_10
    have R : ∀ t, Ext u1 t → cellAt t (Addr.add ⟨u.size, 0, none⟩ 0) = some (.slice x q.ws.length c1) ∧ cellAt t (Addr.add ⟨u.size, 0, none⟩ 1) = some (.int .i64 q.n) ∧ cellAt t (Addr.add ⟨u.size, 0, none⟩ 2) = some (.slice y q.rs.length c2) ∧ cellAt t (Addr.add ⟨u.size, 0, none⟩ 3) = some (.slice z q.ls.length c3) := fun t e => ⟨(e.own o0).cell, (e.own o1).cell, (e.own o2).cell, (e.own o3).cell⟩
    have hm := hmo.n
    have hm2 := hmo.wl
    obtain ⟨r0, r1, r2, r3⟩ := R t et
    refine BR_ff rfl ⟨_, _, _, r0, ⟨_, r1, ⟨_, _, _, r2, ⟨_, _, _, r3, ?_⟩⟩⟩⟩
    refine c_When (hC t et) fun t1 olo ohi op f1 qo => ?_
    try simp only [TUP_mk, AGG_mk, HD_mk, NL_mk, TYI_mk, TYB_mk, TYP_mk, TYL_mk, TYS_mk, TYM_mk, SO_mk, NX_mk, endK_mk, endK_mk', add_0]
    refine nw2 zc_34 rfl rfl fun t2 f2 y2 os0 os1 => ?_
    have g2 := et.trans (f1.trans f2)
    obtain ⟨r0, r1, r2, r3⟩ := R t2 g2
    refine ⟨_, _, _, r0, ⟨_, r1, ⟨_, _, _, r2, ⟨_, _, _, r3, ?_⟩⟩⟩⟩
    refine c_Lasted (hC t2 g2) fun t3 alo ahi ap f3 qa => ?_
    try simp only [TUP_mk, AGG_mk, HD_mk, NL_mk, TYI_mk, TYB_mk, TYP_mk, TYL_mk, TYS_mk, TYM_mk, SO_mk, NX_mk, endK_mk, endK_mk', add_0]
    refine nw2 zc_34 rfl rfl fun t4 f4 y4 as0 as1 => ?_
    have f24 := f3.trans f4
    have g4 := g2.trans f24
    obtain ⟨r0, r1, r2, r3⟩ := R t4 g4
    refine ⟨_, _, _, r0, ⟨_, r1, ⟨_, _, _, r2, ⟨_, _, _, r3, ?_⟩⟩⟩⟩
    refine c_First (hC t4 g4) fun t5 clo chi cp f5 qc => ?_
    try simp only [TUP_mk, AGG_mk, HD_mk, NL_mk, TYI_mk, TYB_mk, TYP_mk, TYL_mk, TYS_mk, TYM_mk, SO_mk, NX_mk, endK_mk, endK_mk', add_0]
    have g5 := g4.trans f5
    obtain ⟨r0, r1, r2, r3⟩ := R t5 g5
    refine ⟨_, _, _, r0, ⟨_, r1, ⟨_, _, _, r2, ⟨_, _, _, r3, ?_⟩⟩⟩⟩
    refine c_Goes (hC t5 g5) (by omega) fun t6 elo ehi flo fhi ep f6 qe qf => ?_
    try simp only [TUP_mk, AGG_mk, HD_mk, NL_mk, TYI_mk, TYB_mk, TYP_mk, TYL_mk, TYS_mk, TYM_mk, SO_mk, NX_mk, endK_mk, endK_mk', add_0]
    refine nz2 zc_34 fun t7 f7 y7 v0 v1 => ?_
    refine nz2 zc_34 fun t8 f8 y8 w0 w1 => ?_
    refine wrB (f8.own v0) (f8.own v1) rfl rfl fun t9 k9 y9 v0' v1' => ?_
    have n1 : ¬ t7.size = t6.size := by omega
    have n2 : ¬ t6.size = t7.size := by omega
    refine wrB (k9.own n1 w0) (k9.own n1 w1) rfl rfl fun ta ka ya w0' w1' => ?_
    have v0'' := ka.own n2 v0'
    have v1'' := ka.own n2 v1'
    have e5a : Ext t5 ta := kp_nil (kp_nil ((f6.trans f7).trans f8) (fun d hd => by have : d = t6.size := hd; have := f6.1; omega) k9) (fun d hd => by have : d = t7.size := hd; have := (f6.trans f7).1; omega) ka
    have ga := g5.trans e5a
    obtain ⟨r0, r1, r2, r3⟩ := R ta ga
    refine ⟨_, _, _, r0, ⟨_, r1, ⟨_, _, _, r2, ⟨_, _, _, r3, ?_⟩⟩⟩⟩
    refine c_Shows (hC ta ga) (by omega) fun tb hlo hhi hp fb qh => ?_
    try simp only [TUP_mk, AGG_mk, HD_mk, NL_mk, TYI_mk, TYB_mk, TYP_mk, TYL_mk, TYS_mk, TYM_mk, SO_mk, NX_mk, endK_mk, endK_mk', add_0]
    refine nw2 zc_34 rfl rfl fun tc fc yc hs0 hs1 => ?_
    have fac := fb.trans fc
    have gc := ga.trans fac
    have e4c : Ext t4 tc := f5.trans (e5a.trans fac)
    have e2c : Ext t2 tc := f24.trans e4c
    rw [hm] at qo qa qc qh
    rw [hm2] at qe qf qh
    have AN : ∀ t, Ext u1 t → Ans c a b w t d e bs f bt g fn hh bu bv i bw kk := fun t e => ha.ext (eu1.trans e)
    have hJ6 : ∀ t, Ext tc t → J_law07_ClockMore_6 W (endK K E) false a b w d e ⟨bs, 0, none⟩ f ⟨bt, 0, none⟩ g fn hh ⟨bu, 0, none⟩ ⟨bv, 0, none⟩ i ⟨bw, 0, none⟩ kk ⟨A, 0, none⟩ nx bb (j : Int) hp tb.size t := by
      intro t et
      unfold J_law07_ClockMore_6
      refine BR_ff rfl (BR_eq (fun he => ?_) (fun _ => hJ5 t (gc.trans et)))
      obtain ⟨lo, hi, qq, sp⟩ := (AN t (gc.trans et)).qw
      obtain ⟨z0, z1, z2, _⟩ := hmo.qr hv hv' qq qh he
      refine BR_ff (by rw [z0]; rfl) ⟨_, (et.own hs0).cell, ⟨_, (et.own hs1).cell, ⟨_, sp.1.cell, ⟨_, sp.2.cell, ?_⟩⟩⟩⟩
      refine c_in z1 z2 fun t' e' => ?_
      try simp only [TUP_mk, AGG_mk, HD_mk, NL_mk, TYI_mk, TYB_mk, TYP_mk, TYL_mk, TYS_mk, TYM_mk, SO_mk, NX_mk, endK_mk, endK_mk', add_0]
      exact hJ5 t' (gc.trans (et.trans e'))
    have hJ7 : ∀ t, Ext tc t → J_law07_ClockMore_7 W (endK K E) false ep i a b w d e ⟨bs, 0, none⟩ f ⟨bt, 0, none⟩ g fn hh ⟨bu, 0, none⟩ ⟨bv, 0, none⟩ ⟨bw, 0, none⟩ kk ⟨A, 0, none⟩ nx bb (j : Int) hp tb.size t6.size t7.size t := by
      intro t et
      unfold J_law07_ClockMore_7
      refine BR_ff rfl (BR_eq (fun he => ?_) (fun _ => hJ6 t et))
      obtain ⟨lo, hi, qq, sp⟩ := (AN t (gc.trans et)).qu
      obtain ⟨lo', hi', qq', sp'⟩ := (AN t (gc.trans et)).qv
      obtain ⟨z0, z1, z2, _⟩ := hmo.qr hv hv' qq qe he
      obtain ⟨_, y1, y2, _⟩ := hmo.qr hv hv' qq' qf he
      have eat : Ext ta t := fac.trans et
      refine BR_ff (by rw [z0]; rfl) ⟨_, (eat.own v0'').cell, ⟨_, (eat.own v1'').cell, ⟨_, sp.1.cell, ⟨_, sp.2.cell, ?_⟩⟩⟩⟩
      refine c_in z1 z2 fun t' e' => ?_
      try simp only [TUP_mk, AGG_mk, HD_mk, NL_mk, TYI_mk, TYB_mk, TYP_mk, TYL_mk, TYS_mk, TYM_mk, SO_mk, NX_mk, endK_mk, endK_mk', add_0]
      have sp2 := sp'.ext e'
      refine BR_ff rfl ⟨_, ((eat.trans e').own w0').cell, ⟨_, ((eat.trans e').own w1').cell, ⟨_, sp2.1.cell, ⟨_, sp2.2.cell, ?_⟩⟩⟩⟩
      refine c_in y1 y2 fun t'' e'' => ?_
      try simp only [TUP_mk, AGG_mk, HD_mk, NL_mk, TYI_mk, TYB_mk, TYP_mk, TYL_mk, TYS_mk, TYM_mk, SO_mk, NX_mk, endK_mk, endK_mk', add_0]
      exact hJ6 t'' (et.trans (e'.trans e''))
    have hJ8 : ∀ t, Ext tc t → J_law07_ClockMore_8 W (endK K E) false ep i a b w d e ⟨bs, 0, none⟩ f ⟨bt, 0, none⟩ g fn hh ⟨bu, 0, none⟩ ⟨bv, 0, none⟩ ⟨bw, 0, none⟩ kk ⟨A, 0, none⟩ nx bb (j : Int) hp tb.size t6.size t7.size cp (firstN clo chi cp) t := by
      intro t et
      unfold J_law07_ClockMore_8
      refine BR_ff rfl (BR_eq (fun he => ?_) (fun _ => hJ7 t et))
      obtain ⟨lo, hi, qq, rfl⟩ := ha.qn
      obtain ⟨z0, z1, z2, z3⟩ := hmo.qr hv hv' qq qc he
      refine BR_ff (by rw [z0]; rfl) (BR_ne (fun hne => ?_) (fun _ => hJ7 t et))
      have hf : firstN lo hi hh = firstN clo chi cp := by
        rw [z0] at hne ⊢
        rw [he]
        exact first_more z1 z2 z3 hne
      rw [hf]
      have := hJ7 t et
      simp only [bne_self_eq_false]
      rw [hf] at this
      exact this
    have hJ9 : ∀ t, Ext tc t → J_law07_ClockMore_9 W (endK K E) false ep i a b w d e ⟨bs, 0, none⟩ f ⟨bt, 0, none⟩ g fn hh ⟨bu, 0, none⟩ ⟨bv, 0, none⟩ ⟨bw, 0, none⟩ kk ⟨A, 0, none⟩ nx bb (j : Int) hp tb.size t6.size t7.size cp (firstN clo chi cp) ap t3.size t := by
      intro t et
      unfold J_law07_ClockMore_9
      refine BR_ff rfl (BR_eq (fun he => ?_) (fun _ => hJ8 t et))
      obtain ⟨lo, hi, qq, sp⟩ := (AN t (gc.trans et)).qt
      obtain ⟨z0, z1, z2, _⟩ := hmo.qr hv hv' qq qa he
      refine BR_ff (by rw [z0]; rfl) ⟨_, ((e4c.trans et).own as0).cell, ⟨_, ((e4c.trans et).own as1).cell, ⟨_, sp.1.cell, ⟨_, sp.2.cell, ?_⟩⟩⟩⟩
      refine c_in z1 z2 fun t' e' => ?_
      try simp only [TUP_mk, AGG_mk, HD_mk, NL_mk, TYI_mk, TYB_mk, TYP_mk, TYL_mk, TYS_mk, TYM_mk, SO_mk, NX_mk, endK_mk, endK_mk', add_0]
      exact hJ8 t' (et.trans e')
    refine BR_eq (fun he => ?_) (fun _ => hJ9 tc (Ext.refl _))
    obtain ⟨lo, hi, qq, sp⟩ := (AN tc gc).qs
    obtain ⟨z0, z1, z2, _⟩ := hmo.qr hv hv' qq qo he
    refine BR_ff (by rw [z0]; rfl) ⟨_, (e2c.own os0).cell, ⟨_, (e2c.own os1).cell, ⟨_, sp.1.cell, ⟨_, sp.2.cell, ?_⟩⟩⟩⟩
    refine c_in z1 z2 fun t' e' => ?_
    try simp only [TUP_mk, AGG_mk, HD_mk, NL_mk, TYI_mk, TYB_mk, TYP_mk, TYL_mk, TYS_mk, TYM_mk, SO_mk, NX_mk, endK_mk, endK_mk', add_0]
    exact hJ9 t' e'
  refine BR_ff rfl ⟨_, _, _, (e2.own o0).cell, ⟨_, (e2.own o1).cell, ⟨_, _, _, (e2.own o2).cell, ⟨_, _, _, (e2.own o3).cell, ?_⟩⟩⟩⟩
  refine c_Drop (hC u2 e2) fun u3 m jj e3 qm => ?_
  try simp only [TUP_mk, AGG_mk, HD_mk, NL_mk, TYI_mk, TYB_mk, TYP_mk, TYL_mk, TYS_mk, TYM_mk, SO_mk, NX_mk, endK_mk, endK_mk', add_0]
  have e13 := e2.trans e3
  obtain ⟨m1, m2⟩ := hmo.drop hv hv' ha.qd qm
  have hJ11 : ∀ t, Ext u1 t → J_law07_ClockMore_11 W (endK K E) false u.size a b w f i d e ⟨bs, 0, none⟩ ⟨bt, 0, none⟩ g fn hh ⟨bu, 0, none⟩ ⟨bv, 0, none⟩ ⟨bw, 0, none⟩ kk ⟨A, 0, none⟩ nx bb (j : Int) jj t := by
    intro t et
    unfold J_law07_ClockMore_11
    refine BR_ff rfl (BR_ne (fun hne => ?_) (fun _ => hJ10 t et))
    have : jj = 10 := m1.resolve_left hne
    rw [this]
    exact hJ10 t et
  refine BR_eq (fun he => ?_) (fun _ => hJ11 u3 e13)
  obtain ⟨q0, nn, nn', rfl, rfl, q3, q4, q5⟩ := m2 he
  refine BR_ff (by rw [q0]; rfl) (BR_ff (decide_eq_false (by omega)) (BR_ff (decide_eq_false (by omega)) ?_))
  refine f_Size q4 ?_
  try simp only [TUP_mk, AGG_mk, HD_mk, NL_mk, TYI_mk, TYB_mk, TYP_mk, TYL_mk, TYS_mk, TYM_mk, SO_mk, NX_mk, endK_mk, endK_mk', add_0]
  refine f_Size q3 ?_
  try simp only [TUP_mk, AGG_mk, HD_mk, NL_mk, TYI_mk, TYB_mk, TYP_mk, TYL_mk, TYS_mk, TYM_mk, SO_mk, NX_mk, endK_mk, endK_mk', add_0]
  rw [decide_eq_false (show ¬ ((popN nn' : Nat) : Int) < ((popN nn : Nat) : Int) by omega)]
  exact hJ11 u3 e13
end
end Go.Proofs.Ytknpmijgdfeliaa.G

/- Clock: ClockMore. -/
set_option linter.unusedSimpArgs false
set_option linter.unusedVariables false
set_option maxRecDepth 20000
namespace Go.Proofs.Ytknpmijgdfeliaa.G
open Go.V
section
variable {W : World} {K : VK} {E : List PanicEntry → Hp → Prop} {s : Hp} {c : Clk} {x y z : Option Addr} {c1 c2 c3 cb b1 b2 b3 : Nat} {r : Rd} {l : Lk} {a b w : Int} {by' : Nat}
theorem more_j1 {t0 : Hp} {x6 x13 xw xl : Option Addr} {d6 d13 cw cl : Nat} (hc : ClV s c x y z) (hv : VdC c) (hT : M3 s c x y z c1 c2 c3 r l cb b1 b2 x6 x13 d6 d13 t0)
    (q3 : C4 t0 b3 (.slice xw (narC c by').ws.length cw) (.int .i64 c.n) (.slice y c.rs.length c2) (.slice xl (narC c by').ls.length cl)) (hw : RowAt t0 xw (wtV (narC c by').ws)) (hl : RowAt t0 xl (lkV (narC c by').ls)) (hk : ∀ t, Ext t0 t → K (.bool true) t) :
    J_law07_ClockMore_1 W (endK K E) ⟨cb, 0, none⟩ a b w ⟨b1, 0, none⟩ ⟨b2, 0, none⟩ ⟨b3, 0, none⟩ t0 := by
  have hw2 := hv.w2
  have hX : ∀ t, Ext t0 t → TM s c x y z c1 c2 c3 r l cb t := fun t e => hT.tm.extk e
  have hC : ∀ t, Ext t0 t → ClV t c x y z := fun t e => hc.ext (hX t e).ext
  have R : ∀ t, Ext t0 t → cellAt t (Addr.add ⟨cb, 0, none⟩ 0) = some (.slice x c.ws.length c1) ∧ cellAt t (Addr.add ⟨cb, 0, none⟩ 1) = some (.int .i64 c.n) ∧ cellAt t (Addr.add ⟨cb, 0, none⟩ 2) = some (.slice y c.rs.length c2) ∧ cellAt t (Addr.add ⟨cb, 0, none⟩ 3) = some (.slice z c.ls.length c3) := fun t e => ⟨(hX t e).o0.cell, (hX t e).o1.cell, (hX t e).o2.cell, (hX t e).o3.cell⟩
  unfold J_law07_ClockMore_1
  obtain ⟨r0, r1, r2, r3⟩ := R t0 (Ext.refl _)
  refine ⟨_, _, _, r0, ⟨_, r1, ⟨_, _, _, r2, ⟨_, _, _, r3, ?_⟩⟩⟩⟩
  refine c_Drop (hC t0 (Ext.refl _)) fun t1 d e f1 qd => ?_
  try simp only [TUP_mk, AGG_mk, HD_mk, NL_mk, TYI_mk, TYB_mk, TYP_mk, TYL_mk, TYS_mk, TYM_mk, SO_mk, NX_mk, endK_mk, endK_mk', add_0]
  obtain ⟨r0, r1, r2, r3⟩ := R t1 f1
  refine ⟨_, _, _, r0, ⟨_, r1, ⟨_, _, _, r2, ⟨_, _, _, r3, ?_⟩⟩⟩⟩
  refine c_When (hC t1 f1) fun t2 slo shi f f2 qs => ?_
  try simp only [TUP_mk, AGG_mk, HD_mk, NL_mk, TYI_mk, TYB_mk, TYP_mk, TYL_mk, TYS_mk, TYM_mk, SO_mk, NX_mk, endK_mk, endK_mk', add_0]
  refine nw2 zc_34 rfl rfl fun t3 f3 y3 s0 s1 => ?_
  have g3 := f1.trans (f2.trans f3)
  obtain ⟨r0, r1, r2, r3⟩ := R t3 g3
  refine ⟨_, _, _, r0, ⟨_, r1, ⟨_, _, _, r2, ⟨_, _, _, r3, ?_⟩⟩⟩⟩
  refine c_Lasted (hC t3 g3) fun t4 tlo thi g f4 qt => ?_
  try simp only [TUP_mk, AGG_mk, HD_mk, NL_mk, TYI_mk, TYB_mk, TYP_mk, TYL_mk, TYS_mk, TYM_mk, SO_mk, NX_mk, endK_mk, endK_mk', add_0]
  refine nw2 zc_34 rfl rfl fun t5 f5 y5 u0 u1 => ?_
  have f35 := f4.trans f5
  have g5 := g3.trans f35
  obtain ⟨r0, r1, r2, r3⟩ := R t5 g5
  refine ⟨_, _, _, r0, ⟨_, r1, ⟨_, _, _, r2, ⟨_, _, _, r3, ?_⟩⟩⟩⟩
  refine c_First (hC t5 g5) fun t6 nlo nhi h f6 qn => ?_
  try simp only [TUP_mk, AGG_mk, HD_mk, NL_mk, TYI_mk, TYB_mk, TYP_mk, TYL_mk, TYS_mk, TYM_mk, SO_mk, NX_mk, endK_mk, endK_mk', add_0]
  have g6 := g5.trans f6
  obtain ⟨r0, r1, r2, r3⟩ := R t6 g6
  refine ⟨_, _, _, r0, ⟨_, r1, ⟨_, _, _, r2, ⟨_, _, _, r3, ?_⟩⟩⟩⟩
  refine c_Goes (hC t6 g6) (by omega) fun t7 zlo zhi rlo rhi i f7 qu qv => ?_
  try simp only [TUP_mk, AGG_mk, HD_mk, NL_mk, TYI_mk, TYB_mk, TYP_mk, TYL_mk, TYS_mk, TYM_mk, SO_mk, NX_mk, endK_mk, endK_mk', add_0]
  refine nz2 zc_34 fun t8 f8 y8 v0 v1 => ?_
  refine nz2 zc_34 fun t9 f9 y9 w0 w1 => ?_
  refine wrB (f9.own v0) (f9.own v1) rfl rfl fun ta ka ya v0' v1' => ?_
  have n1 : ¬ t8.size = t7.size := by omega
  have n2 : ¬ t7.size = t8.size := by omega
  refine wrB (ka.own n1 w0) (ka.own n1 w1) rfl rfl fun tb kb yb w0' w1' => ?_
  have v0'' := kb.own n2 v0'
  have v1'' := kb.own n2 v1'
  have e6b : Ext t6 tb := kp_nil (kp_nil ((f7.trans f8).trans f9) (fun d hd => by have : d = t7.size := hd; have := f7.1; omega) ka) (fun d hd => by have : d = t8.size := hd; have := (f7.trans f8).1; omega) kb
  have gb := g6.trans e6b
  obtain ⟨r0, r1, r2, r3⟩ := R tb gb
  refine ⟨_, _, _, r0, ⟨_, r1, ⟨_, _, _, r2, ⟨_, _, _, r3, ?_⟩⟩⟩⟩
  refine c_Shows (hC tb gb) (by omega) fun tc wlo whi k fc qw => ?_
  try simp only [TUP_mk, AGG_mk, HD_mk, NL_mk, TYI_mk, TYB_mk, TYP_mk, TYL_mk, TYS_mk, TYM_mk, SO_mk, NX_mk, endK_mk, endK_mk', add_0]
  refine nw2 zc_34 rfl rfl fun td fd yd m0 m1 => ?_
  have fbd := fc.trans fd
  have gd := gb.trans fbd
  have hM := hT.ext gd
  have q3' := q3.ext gd
  refine ⟨_, _, _, hM.q1.1.cell, ⟨_, hM.q1.2.1.cell, ⟨_, _, _, hM.q1.2.2.1.cell, ⟨_, _, _, hM.q1.2.2.2.cell, ?_⟩⟩⟩⟩
  refine ⟨_, _, _, hM.q2.1.cell, ⟨_, hM.q2.2.1.cell, ⟨_, _, _, hM.q2.2.2.1.cell, ⟨_, _, _, hM.q2.2.2.2.cell, ?_⟩⟩⟩⟩
  refine ⟨_, _, _, q3'.1.cell, ⟨_, q3'.2.1.cell, ⟨_, _, _, q3'.2.2.1.cell, ⟨_, _, _, q3'.2.2.2.cell, ?_⟩⟩⟩⟩
  refine NEW_rule fun te fe ye nn _ => ?_
  have e5d : Ext t5 td := f6.trans (e6b.trans fbd)
  have e3d : Ext t3 td := f35.trans e5d
  have ge := gd.trans fe
  refine more_loop (c := c) (cs := fun k => match k with | 0 => moreR c r | 1 => moreL c l | _ => narC c by') (xs := fun k => match k with | 0 => x | 1 => x | _ => xw) (ys := fun k => match k with | 0 => x6 | 1 => y | _ => y) (zs := fun k => match k with | 0 => z | 1 => x13 | _ => xl) (d1 := fun k => match k with | 0 => c1 | 1 => c1 | _ => cw) (d2 := fun k => match k with | 0 => d6 | 1 => c2 | _ => c2) (d3 := fun k => match k with | 0 => c3 | 1 => d13 | _ => cl)
    ⟨hv, qd, ⟨_, _, qs, (e3d.trans fe).own s0, (e3d.trans fe).own s1⟩, ⟨_, _, qt, (e5d.trans fe).own u0, (e5d.trans fe).own u1⟩, ⟨_, _, qn, rfl⟩, ⟨_, _, qu, (fbd.trans fe).own v0'', (fbd.trans fe).own v1''⟩, ⟨_, _, qv, (fbd.trans fe).own w0', (fbd.trans fe).own w1'⟩, ⟨_, _, qw, fe.own m0, fe.own m1⟩⟩ ?_ fun t e => hk t (ge.trans e)
  have hCe := hC te ge
  have hMe := hT.ext ge
  have l1 : (moreR c r).rs.length = c.rs.length + 1 := by show (c.rs ++ [r]).length = _; simp
  have l2 : (moreL c l).ls.length = c.ls.length + 1 := by show (c.ls ++ [l]).length = _; simp
  refine ⟨fun k hk => ?_, fun k hk => ?_, fun k hk => ?_, fun k hk => ?_, fun k hk => ?_, fun k hk => ?_⟩
  · match k, hk with
    | 0, _ => exact Mo.read
    | 1, _ => exact Mo.link
    | 2, _ => exact Mo.nar hv
  · match k, hk with
    | 0, _ => exact ⟨hCe.ws, row_rd hMe.r6, hCe.ls⟩
    | 1, _ => exact ⟨hCe.ws, hCe.rs, row_lk hMe.r13⟩
    | 2, _ => exact ⟨row_wt (hw.ext ge), hCe.rs, row_lk (hl.ext ge)⟩
  · match k, hk with
    | 0, _ => exact (nn 0 _ rfl).cell
    | 1, _ => exact (nn 4 _ rfl).cell
    | 2, _ => exact (nn 8 _ rfl).cell
  · match k, hk with
    | 0, _ => exact (nn 1 _ rfl).cell
    | 1, _ => exact (nn 5 _ rfl).cell
    | 2, _ => exact (nn 9 _ rfl).cell
  · match k, hk with
    | 0, _ =>
      show cellAt te ⟨td.size, 2, none⟩ = some (.slice x6 (moreR c r).rs.length d6)
      rw [l1]; exact (nn 2 _ rfl).cell
    | 1, _ => exact (nn 6 _ rfl).cell
    | 2, _ => exact (nn 10 _ rfl).cell
  · match k, hk with
    | 0, _ => exact (nn 3 _ rfl).cell
    | 1, _ =>
      show cellAt te ⟨td.size, 7, none⟩ = some (.slice x13 (moreL c l).ls.length d13)
      rw [l2]; exact (nn 7 _ rfl).cell
    | 2, _ => exact (nn 11 _ rfl).cell
theorem w_ClockMore (hby : by' < 256) (hc : ClV s c x y z) (hk : ∀ t, Ext s t → K (.bool true) t) : CALL Pg W F_law07_ClockMore [clkV c x y z c1 c2 c3, .agg #[.int .i64 r.ev, .int .i64 r.wa, .int .i64 r.sh], .agg #[.int .i64 l.a, .int .i64 l.b, .int .i64 l.lo, .int .i64 l.hi], .int .i64 a, .int .i64 b, .int .i64 w, .int .u8 (by' : Int)] K E s := by
  unfold clkV
  refine does_law07_ClockMore W x _ c1 c.n y _ c2 z _ c3 r.ev r.wa r.sh l.a l.b l.lo l.hi a b w by' _ s ?_
  unfold T_law07_ClockMore
  refine ne4 fun s1 e1 z1 o0 o1 o2 o3 => ?_
  refine NEW_rule fun s2 e2 z2 n2 _ => ?_
  refine ne4 fun s3 e3 z3 l0 l1 l2 l3 => ?_
  have e23 := e2.trans e3
  have e13 := e1.trans e23
  have hb1 : s1.size = s.size + 1 := z1
  have hb2 : s2.size = s.size + 2 := by omega
  have hTM : TM s c x y z c1 c2 c3 r l s.size s3 := by
    have r0 := e3.own (n2 0 _ rfl)
    have r1 := e3.own (n2 1 _ rfl)
    have r2 := e3.own (n2 2 _ rfl)
    rw [hb1] at r0 r1 r2
    rw [hb2] at l0 l1 l2 l3
    exact ⟨e13, ⟨Nat.le_refl _, by omega⟩, e23.own o0, e23.own o1, e23.own o2, e23.own o3, r0, r1, r2, l0, l1, l2, l3⟩
  rw [hb1, hb2]
  clear l0 l1 l2 l3 n2 o0 o1 o2 o3
  have hX : ∀ t, Ext s3 t → TM s c x y z c1 c2 c3 r l s.size t := fun t e => hTM.extk e
  have hC : ∀ t, Ext s3 t → ClV t c x y z := fun t e => hc.ext (e13.trans e)
  have fin : ∀ t, Ext s3 t → CALL Pg W F_law07_alive [] (fun v34 => TYB v34 fun b36 => (endK K E) (.returned (.bool b36))) (fun e27 => (endK K E) (.panicked e27)) t := fun t e => c_alive fun t2 e2 => hk t2 ((e13.trans e).trans e2)
  have hJ0t : ∀ t, Ext s3 t → J_law07_ClockMore_0 W (endK K E) true s.size a b w by' (s.size + 1) (s.size + 2) t := fun t e => by
    unfold J_law07_ClockMore_0
    exact BR_tt rfl (fin t e)
  have h3 := hX s3 (Ext.refl _)
  refine ⟨_, _, _, h3.o0.cell, ⟨_, h3.o1.cell, ⟨_, _, _, h3.o2.cell, ⟨_, _, _, h3.o3.cell, ?_⟩⟩⟩⟩
  refine c_heavy (hC s3 (Ext.refl _)) fun s4 qh e4 hhv => ?_
  try simp only [TUP_mk, AGG_mk, HD_mk, NL_mk, TYI_mk, TYB_mk, TYP_mk, TYL_mk, TYS_mk, TYM_mk, SO_mk, NX_mk, endK_mk, endK_mk', add_0]
  refine BR_bool (fun _ => hJ0t s4 e4) (fun hqf => ?_)
  have h4 := hX s4 e4
  refine ⟨_, _, _, h4.o0.cell, ⟨_, h4.o1.cell, ⟨_, _, _, h4.o2.cell, ⟨_, _, _, h4.o3.cell, ?_⟩⟩⟩⟩
  refine f_Clock (hC s4 e4) fun s5 e5 => ?_
  try simp only [TUP_mk, AGG_mk, HD_mk, NL_mk, TYI_mk, TYB_mk, TYP_mk, TYL_mk, TYS_mk, TYM_mk, SO_mk, NX_mk, endK_mk, endK_mk', add_0]
  have e35 := e4.trans e5
  cases hok : okC c with
  | false => exact hJ0t s5 e35
  | true =>
  have hv := okC_iff.1 hok
  have h5 := hX s5 e35
  unfold J_law07_ClockMore_0
  refine BR_ff rfl ⟨_, _, _, h5.o3.cell, BR_dec (fun _ => fin s5 e35) (fun _ => ?_)⟩
  refine more_copies h5 fun t1 B1 B2 B3 f1 g1 g2 g3 n12 n13 n23 q1 q2 q3 => ?_
  have hT1 := hX t1 (e35.trans f1)
  have hs5 := h5.lt.2
  refine more_lists hc hv hT1 ⟨by omega, g1.2⟩ ⟨by omega, g2.2⟩ ⟨by omega, g3.2⟩ n12 n13 n23 q1 q2 q3 fun t2 x6 d6 x13 d13 hT2 hs2 p1 p2 p3 r6 hr6 r13 hr13 => ?_
  have hlt : ∀ {x' : Option Addr} {vs : List Value}, RowAt t2 x' vs → 0 < vs.length → ∀ a, x' = some a → a.block < t2.size := fun hr h0 a ha => by
    obtain ⟨a', h1, h2⟩ := hr 0 h0
    rw [ha] at h1; cases h1
    have := cell_lt h2
    rw [add_blk] at this
    exact this
  refine more_a1 hc hv hby ⟨hT2, p1, p2, r6, r13⟩ ⟨by omega, by omega⟩ ⟨by omega, by omega⟩ ⟨by omega, by omega⟩ n13 n23 (fun a ha => ⟨hlt r6 (by rw [rdV_len]; simp) a ha, by have := hr6 a ha; omega⟩) (fun a ha => ⟨hlt r13 (by rw [lk_len]; simp) a ha, by have := hr13 a ha; omega⟩) p3 fun t3 xw xl cw cl hM g4 hw hl => ?_
  exact more_j1 hc hv hM g4 hw hl fun t4 e4' => hk t4 (hM.tm.ext.trans e4')
end
end Go.Proofs.Ytknpmijgdfeliaa.G

/- ClockMore, from any arguments. -/
set_option maxRecDepth 20000
namespace Go.Proofs.Ytknpmijgdfeliaa.G
open Go.V
theorem v_ClockMore {W : World} {s : Hp} {v0 v1 v2 v3 v4 v5 v6 : Value} (k0 : RdV Pg s 26 v0) (k1 : RdV Pg s 61 v1) (k2 : RdV Pg s 63 v2) (k3 : RdV Pg s 3 v3) (k4 : RdV Pg s 3 v4) (k5 : RdV Pg s 3 v5) (k6 : RdV Pg s 5 v6) : CALL Pg W F_law07_ClockMore [v0, v1, v2, v3, v4, v5, v6] (fun v s' => v = .bool true ∧ Ext s s') (fun _ _ => False) s := by
  obtain ⟨c, x, y, z, c1, c2, c3, rfl, hc⟩ := clk_rd k0
  obtain ⟨cs1, rfl, h1⟩ := k1
  rw [ag_61] at *
  obtain ⟨r, rfl⟩ := rd_rds (n := 6) h1
  obtain ⟨cs2, rfl, h2⟩ := k2
  rw [ag_63] at *
  obtain ⟨l, rfl⟩ := lk_rds (n := 5) h2
  obtain ⟨a, rfl⟩ := int_rd k3
  obtain ⟨b, rfl⟩ := int_rd k4
  obtain ⟨w, rfl⟩ := int_rd k5
  obtain ⟨p, rfl, hp⟩ := u8_rd k6
  exact w_ClockMore hp hc fun s' e => ⟨rfl, e⟩
end Go.Proofs.Ytknpmijgdfeliaa.G

/- The row of the statement ClockMore. -/
namespace Go.Proofs.Ytknpmijgdfeliaa.clockMore
open Go.ChangeShapes Go.WideShapes Go.ChangeAt Go.RowKit Go.V
set_option linter.unusedVariables false
theorem own : ownKnob Try.prog.godebug = none := by kernel_rfl
theorem laidOut : laidOutB Try.prog = true := by kernel_rfl
set_option maxRecDepth 100000 in
theorem lifted (os : Os) (started : os.Started) (H : Type) (enc : TypeId × Value → H) :
    ReturnsInHanded {} Try.checked os 6 .any (Rows.clockMoreSpec.pre6 enc Try.prog Try.f6 Rows.clockMoreRow.domain false) (Rows.clockMoreSpec.post enc Try.prog Try.f6 false true false false) := by
  refine returnsInHanded_of_change_sized (C := Try.checked) own started (by kernel_rfl) Try.func6
    (ChangeSpec.witness6 (enc := enc) (C := Try.checked) false ⟨#[], #[(.agg #[(.slice none 0 0), (.int .i64 0), (.slice none 0 0), (.slice none 0 0)]), (.agg #[(.int .i64 0), (.int .i64 0), (.int .i64 0)]), (.agg #[(.int .i64 0), (.int .i64 0), (.int .i64 0), (.int .i64 0)]), (.int .i64 0), (.int .i64 0), (.int .i64 0), (.int .u8 0)], []⟩ 8 (by kernel_rfl) (by kernel_rfl) (by kernel_rfl) (by kernel_rfl)) ?_
  intro W base args ds gs before hval0 hW hcnd hsz0 _
  have hsz : (DataW.weightsEach Try.prog (Try.f6.params.toList ++ Rows.clockMoreSpec.plain.varTypes Try.prog) (ds ++ gs)).all (· ≤ reachBytes) = true := hsz0
  have hval : ∀ (j : Nat) t v, Try.f6.params[j]? = some t → args[j]? = some v → Value.okWide Try.prog W .any base t v := hval0
  have hW' := hW
  obtain ⟨p, q, hA0, hV, rfl, hfz, hnd⟩ := hW
  have hA : DataW.TrodAll enc Try.prog W 0 (fun _ => true) true Try.f6.params.toList args.toList ds p := hA0
  rw [Try.params6] at hA hval hsz
  obtain ⟨v0, vs0, d0, ds0, p0, q0, hargs, rfl, rfl, h0, r0⟩ := trodAll_cons hA
  obtain ⟨v1, vs1, d1, ds1, p1, q1, rfl, rfl, rfl, h1, r1⟩ := trodAll_cons r0
  obtain ⟨v2, vs2, d2, ds2, p2, q2, rfl, rfl, rfl, h2, r2⟩ := trodAll_cons r1
  obtain ⟨v3, vs3, d3, ds3, p3, q3, rfl, rfl, rfl, h3, r3⟩ := trodAll_cons r2
  obtain ⟨v4, vs4, d4, ds4, p4, q4, rfl, rfl, rfl, h4, r4⟩ := trodAll_cons r3
  obtain ⟨v5, vs5, d5, ds5, p5, q5, rfl, rfl, rfl, h5, r5⟩ := trodAll_cons r4
  obtain ⟨v6, vs6, d6, ds6, p6, q6, rfl, rfl, rfl, h6, r6⟩ := trodAll_cons r5
  obtain ⟨rfl, rfl, rfl⟩ := trodAll_nil r6
  obtain rfl : args = #[v0, v1, v2, v3, v4, v5, v6] := by cases args; simp_all
  obtain ⟨rfl, rfl⟩ := trodVars_none hV
  have k0 := trod_rdV (hval 0 26 v0 rfl rfl) h0
  have lt0 : ∀ x ∈ p0, x.block < W.heap.size := by obtain ⟨m, hm⟩ := h0; exact DataW.trod_lt m _ _ _ hm
  have k1 := trod_rdV (hval 1 61 v1 rfl rfl) h1
  have lt1 : ∀ x ∈ p1, x.block < W.heap.size := by obtain ⟨m, hm⟩ := h1; exact DataW.trod_lt m _ _ _ hm
  have k2 := trod_rdV (hval 2 63 v2 rfl rfl) h2
  have lt2 : ∀ x ∈ p2, x.block < W.heap.size := by obtain ⟨m, hm⟩ := h2; exact DataW.trod_lt m _ _ _ hm
  have k3 := trod_rdV (hval 3 3 v3 rfl rfl) h3
  have lt3 : ∀ x ∈ p3, x.block < W.heap.size := by obtain ⟨m, hm⟩ := h3; exact DataW.trod_lt m _ _ _ hm
  have k4 := trod_rdV (hval 4 3 v4 rfl rfl) h4
  have lt4 : ∀ x ∈ p4, x.block < W.heap.size := by obtain ⟨m, hm⟩ := h4; exact DataW.trod_lt m _ _ _ hm
  have k5 := trod_rdV (hval 5 3 v5 rfl rfl) h5
  have lt5 : ∀ x ∈ p5, x.block < W.heap.size := by obtain ⟨m, hm⟩ := h5; exact DataW.trod_lt m _ _ _ hm
  have k6 := trod_rdV (hval 6 5 v6 rfl rfl) h6
  have lt6 : ∀ x ∈ p6, x.block < W.heap.size := by obtain ⟨m, hm⟩ := h6; exact DataW.trod_lt m _ _ _ hm
  refine (calls_of_does (does_of_call (G.v_ClockMore (W := W) (s := W.heap) k0 k1 k2 k3 k4 k5 k6))).mono fun e W' ⟨he, bel⟩ => ?_
  subst he
  exact ⟨_, rfl, _, _, _, [], _, [], hW', trodAll_mk1 (shut_bool Try.underlying4 _), (trodAll_cons_mk (Below.trod laidOut (by kernel_rfl) (of_decide_eq_true (by kernel_rfl)) h0 bel lt0) (trodAll_cons_mk (Below.trod laidOut (by kernel_rfl) (of_decide_eq_true (by kernel_rfl)) h1 bel lt1) (trodAll_cons_mk (Below.trod laidOut (by kernel_rfl) (of_decide_eq_true (by kernel_rfl)) h2 bel lt2) (trodAll_cons_mk (Below.trod laidOut (by kernel_rfl) (of_decide_eq_true (by kernel_rfl)) h3 bel lt3) (trodAll_cons_mk (Below.trod laidOut (by kernel_rfl) (of_decide_eq_true (by kernel_rfl)) h4 bel lt4) (trodAll_cons_mk (Below.trod laidOut (by kernel_rfl) (of_decide_eq_true (by kernel_rfl)) h5 bel lt5) (trodAll_cons_mk (Below.trod laidOut (by kernel_rfl) (of_decide_eq_true (by kernel_rfl)) h6 bel lt6) trodAll_mk0))))))), rfl, bel.frame _, fun h => by cases h⟩
theorem over : Rows.clockMoreRow.holds Try.pinned (OpenSpec.ofChange Rows.clockMoreSpec) :=
  OpenClaim.holds_of_wide 6 Try.f6 rfl rfl rfl rfl rfl rfl rfl ⟨rfl, rfl, rfl, rfl, rfl⟩ rfl rfl rfl rfl rfl (by kernel_rfl) Try.func6 (by kernel_rfl)
    (of_decide_eq_true (by kernel_rfl)) (by unfold Func.isWrapper; first | (rw [if_pos (by decide +kernel)]; kernel_rfl) | (rw [if_neg (by decide +kernel)]; exact ⟨rfl, rfl⟩))
    (fun os started H enc _ => lifted os started H enc)
theorem proved : Rows.ClockMoreSaid := over
end Go.Proofs.Ytknpmijgdfeliaa.clockMore
namespace Go.Proofs.Ytknpmijgdfeliaa
/-- The row, under a short name. -/
theorem clockMore_holds : Rows.ClockMoreSaid := clockMore.proved
end Go.Proofs.Ytknpmijgdfeliaa
