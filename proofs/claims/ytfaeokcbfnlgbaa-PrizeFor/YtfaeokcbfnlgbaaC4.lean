import Derived.Test.YtfaeokcbfnlgbaaC3
/- At the place that is told the ploughman gets a prize by the due giving, and at no greater one; at each better place, by a remainder, it is so too, if no prize is for a club; and none is told just if there is no prize at any place. -/
/- Prize: plain: at a better place one gets a prize, too. -/
set_option linter.unusedSimpArgs false
set_option linter.unusedVariables false
set_option maxRecDepth 20000
namespace Go.Proofs.Ytfaeokcbfnlgbaa.G
open Go.V
theorem for_spec {T : PT} {m : Nat} : ∀ k, (∃ p : Nat, 1 ≤ p ∧ p ≤ k ∧ forL T m k = ((p : Int), 0) ∧ getsP T m p = true ∧ ∀ q, p < q → q ≤ k → getsP T m q = false) ∨ (forL T m k = (0, 4) ∧ ∀ q, 1 ≤ q → q ≤ k → getsP T m q = false)
  | 0 => .inr ⟨rfl, fun q h1 h2 => by omega⟩
  | k + 1 => by
    have hs : forL T m (k + 1) = if getsP T m (k + 1) then (((k + 1 : Nat) : Int), 0) else forL T m k := rfl
    cases hg : getsP T m (k + 1) with
    | true =>
      rw [hg] at hs
      exact .inl ⟨k + 1, by omega, by omega, hs, hg, fun q h1 h2 => by omega⟩
    | false =>
      rw [hg] at hs
      have hs : forL T m (k + 1) = forL T m k := hs
      rw [hs]
      rcases for_spec (T := T) (m := m) k with ⟨p, h1, h2, h3, h4, h5⟩ | ⟨h1, h2⟩
      · refine .inl ⟨p, h1, by omega, h3, h4, fun q q1 q2 => ?_⟩
        by_cases e : q = k + 1
        · rw [e]; exact hg
        · exact h5 q q1 (by omega)
      · refine .inr ⟨h1, fun q q1 q2 => ?_⟩
        by_cases e : q = k + 1
        · rw [e]; exact hg
        · exact h2 q q1 (by omega)
def insN (os : List Nat) (i m : Nat) : List Nat := os.take i ++ m :: os.drop i
theorem nats_ins (os : List Nat) (i m : Nat) : nats (insN os i m) = insL (nats os) i (m : Int) := by
  unfold nats insN insL
  rw [List.map_append, List.map_cons, List.map_take, List.map_drop]
theorem ord_moved {T : PT} (hok : okP T = true) {m pl : Nat} (hm : m < T.n) (h1 : 1 ≤ pl) (h2 : pl ≤ T.n) : ordP (movedP T m (pl : Int)) = insN (othL T m) (pl - 1) m := by
  have hv := okP_vd hok
  have hokM := ok_moved (pl := (pl : Int)) hok hm (by omega) (by omega)
  have hvM := okP_vd hokM
  have hn := moved_n T m (pl : Int)
  have hlo := oth_len hv hm
  have hli : (insN (othL T m) (pl - 1) m).length = T.n := by
    unfold insN
    rw [List.length_append, List.length_cons, List.length_take, List.length_drop]
    omega
  refine List.ext_getElem (by rw [ord_len, hn, hli]) fun j g1 g2 => ?_
  rw [hli] at g2
  obtain ⟨i, hi, hget, hnew⟩ := new_order hv hm h1 h2 g2
  rw [← nats_ins] at hget
  have e1 : (insN (othL T m) (pl - 1) m)[j]'(by rw [hli]; exact g2) = i := by
    unfold nats at hget
    rw [List.getElem?_map, List.getElem?_eq_getElem (by rw [hli]; exact g2)] at hget
    have := Option.some.inj hget
    have : (((insN (othL T m) (pl - 1) m)[j]'(by rw [hli]; exact g2) : Nat) : Int) = (i : Int) := this
    omega
  rw [e1, ord_at g1]
  obtain ⟨q1, q2⟩ := hvM.sur ((j + 1 : Nat) : Int) (by omega) (by rw [hn]; omega)
  refine hvM.inj _ _ q1 (by rw [hn]; exact hi) ?_
  rw [q2, moved_man hi]
  exact hnew.symm
theorem canC_moved {T : PT} (hnc : noClub T = true) {m i z : Nat} {pl : Int} (hi : i < T.n) (hz : z < T.z) : canC (movedP T m pl) i z = canC T i z := by
  have h4 := noClub_at hnc hz
  have e1 : canC (movedP T m pl) i z = canP (movedP T m pl) i z := by
    unfold canC
    have : ¬ ((movedP T m pl).pz z).kind = 4 := h4
    rw [decide_eq_true this]; simp
  have e2 : canC T i z = canP T i z := by
    unfold canC
    rw [decide_eq_true h4]; simp
  rw [e1, e2]
  unfold canP
  rw [moved_man hi]
  rfl
theorem filter_ne {m : Nat} : ∀ {l : List Nat}, ¬ m ∈ l → l.filter (fun k => !decide (k = m)) = l
  | [], _ => rfl
  | x :: l, h => by
    have hx : ¬ x = m := fun e => h (by simp [e])
    rw [List.filter_cons, if_pos (by simpa using hx), filter_ne (fun hm => h (by simp [hm]))]
theorem ins_mono {can : Nat → Nat → Bool} {m : Nat} {A B C : List Nat} (hA : ¬ m ∈ A) (hB : ¬ m ∈ B) (hC : ¬ m ∈ C) : ∀ k, some m ∈ dueO can (A ++ B ++ m :: C) k → some m ∈ dueO can (A ++ m :: (B ++ C)) k
  | 0, h => by cases h
  | k + 1, h => by
    refine Classical.byContradiction fun hno => ?_
    have hno' : ¬ some m ∈ dueO can (A ++ m :: (B ++ C)) k ++ [(A ++ m :: (B ++ C)).find? (freeQ can (dueO can (A ++ m :: (B ++ C)) k) k)] := hno
    have hn2 : ¬ some m ∈ dueO can (A ++ m :: (B ++ C)) k := fun hh => hno' (List.mem_append_left _ hh)
    have hn1 : ¬ some m ∈ dueO can (A ++ B ++ m :: C) k := fun hh => hn2 (ins_mono hA hB hC k hh)
    have f1 : (A ++ B ++ m :: C).filter (fun k => !decide (k = m)) = A ++ B ++ C := by
      rw [List.filter_append, List.filter_append, filter_ne hA, filter_ne hB, List.filter_cons, if_neg (by simp), filter_ne hC]
    have f2 : (A ++ m :: (B ++ C)).filter (fun k => !decide (k = m)) = A ++ B ++ C := by
      rw [List.filter_append, filter_ne hA, List.filter_cons, if_neg (by simp), List.filter_append, filter_ne hB, filter_ne hC, List.append_assoc]
    have key : ∀ l : List Nat, l.filter (fun k => !decide (k = m)) = A ++ B ++ C → ¬ some m ∈ dueO can l k → dueO can (A ++ B ++ C) k = dueO can l k := by
      intro l hl hn
      have := due_ren (can := can) (can' := can) (l := l) (σ := id) (D := fun k => !decide (k = m)) (fun i _ j _ _ _ e => e) k (fun i _ _ z _ => rfl) (fun q hq => by
        have : q ≠ m := fun e => hn (by rw [← e]; exact hq)
        simpa using this)
      rw [hl] at this
      simpa using this
    have k1 := key _ f1 hn1
    have k2 := key _ f2 hn2
    have hlast : (A ++ B ++ m :: C).find? (freeQ can (dueO can (A ++ B ++ m :: C) k) k) = some m := by
      have h' : some m ∈ dueO can (A ++ B ++ m :: C) k ++ [(A ++ B ++ m :: C).find? (freeQ can (dueO can (A ++ B ++ m :: C) k) k)] := h
      rcases List.mem_append.1 h' with hh | hh
      · exact absurd hh hn1
      · exact (List.mem_singleton.1 hh).symm
    rw [← k1] at hlast
    rw [← k2] at hno'
    generalize dueO can (A ++ B ++ C) k = d at hlast hno'
    have hqm := List.find?_some hlast
    have hAn : A.find? (freeQ can d k) = none := by
      rw [List.find?_append, List.find?_append] at hlast
      cases hf : A.find? (freeQ can d k) with
      | none => rfl
      | some j =>
        rw [hf] at hlast
        have : some j = some m := hlast
        have hj := List.mem_of_find?_eq_some hf
        rw [Option.some.inj this] at hj
        exact absurd hj hA
    refine hno' (List.mem_append_right _ ?_)
    rw [List.find?_append, hAn, List.find?_cons, hqm]
    simp
theorem gets_mono {T : PT} (hok : okP T = true) {m p q : Nat} (hm : m < T.n) (hnc : noClub T = true) (h1 : 1 ≤ q) (h2 : q ≤ p) (h3 : p ≤ T.n) (h : getsP T m p = true) : getsP T m q = true := by
  have hv := okP_vd hok
  have key : ∀ pl, 1 ≤ pl → pl ≤ T.n → (getsP T m pl = true ↔ some m ∈ dueO (canC T) (insN (othL T m) (pl - 1) m) T.z) := by
    intro pl a b
    unfold getsP
    rw [decide_eq_true_eq, man_mem_iff]
    have e : dueP (movedP T m (pl : Int)) = dueO (canC T) (insN (othL T m) (pl - 1) m) T.z := by
      show dueL (movedP T m (pl : Int)) T.z = _
      rw [dueL_O, ord_moved hok hm a b]
      refine dueO_congr T.z fun i hi z hz => canC_moved hnc ?_ hz
      have : i ∈ ordP (movedP T m (pl : Int)) := by rw [ord_moved hok hm a b]; exact hi
      have := (ord_mem (okP_vd (ok_moved (pl := (pl : Int)) hok hm (by omega) (by omega)))).1 this
      rw [moved_n] at this; exact this
    rw [e]
  rw [key q h1 (by omega)]
  rw [key p (by omega) h3] at h
  have hno : ¬ m ∈ othL T m := fun hh => by
    have := (List.mem_filter.1 hh).2
    simp at this
  have hp : (othL T m).take (p - 1) = (othL T m).take (q - 1) ++ ((othL T m).take (p - 1)).drop (q - 1) := by
    have := List.take_append_drop (q - 1) ((othL T m).take (p - 1))
    rw [List.take_take, Nat.min_eq_left (by omega)] at this
    exact this.symm
  have hd : (othL T m).drop (q - 1) = ((othL T m).take (p - 1)).drop (q - 1) ++ (othL T m).drop (p - 1) := by
    have h0 := List.take_append_drop (p - 1) (othL T m)
    conv => lhs; rw [← h0]
    rw [List.drop_append]
    congr 1
    rw [List.length_take]
    have hl := oth_len hv hm
    rw [Nat.min_eq_left (by omega), show q - 1 - (p - 1) = 0 by omega, List.drop_zero]
  unfold insN at h ⊢
  rw [hp] at h
  rw [hd]
  refine ins_mono (fun hh => hno (List.mem_of_mem_take hh)) (fun hh => hno (List.mem_of_mem_take (List.mem_of_mem_drop hh))) (fun hh => hno (List.mem_of_mem_drop hh)) T.z h
end Go.Proofs.Ytfaeokcbfnlgbaa.G

/- More of the functions' shallow texts, by gen.py. -/
set_option linter.unusedVariables false
set_option maxRecDepth 100000
namespace Go.Proofs.Ytfaeokcbfnlgbaa.G
open Go.V
def an_28 : Nat → Ann := fun b => match b with
  | _ => {}
abbrev rv_28 : List ResultVar := [.tmp 2, .tmp 3, .tmp 4]
abbrev rs_28 : List Nat := [17, 2, 3, 4]
def T_ref13_Most (W : World) (x1 : Option Addr) (l2 : Nat) (c3 : Nat) (x4 : Option Addr) (l5 : Nat) (c6 : Nat) (R : Ending → Hp → Prop) : Hp → Prop :=
  NEW 25 [(.slice x1 l2 c3), (.slice x4 l5 c6)] fun B7 =>
    RDL (Addr.add ⟨B7, 0, none⟩ 0) fun x8 l9 c10 =>
      RDL (Addr.add ⟨B7, 0, none⟩ 1) fun x11 l12 c13 =>
        CALL Pg W F_ref13_check [(.agg #[(.slice x8 l9 c10), (.slice x11 l12 c13)]), (.bool true)]
          (fun v14 => TYI .i64 v14 fun n16 =>
            BR (n16 != 0)
              (R (.returned (.tuple #[(.int .i64 0), (.slice none 0 0), (.int .i64 n16)])))
              (RDL (Addr.add ⟨B7, 0, none⟩ 0) fun x17 l18 c19 =>
                RDL (Addr.add ⟨B7, 0, none⟩ 1) fun x20 l21 c22 =>
                  CALL Pg W F_ref13_most [(.agg #[(.slice x17 l18 c19), (.slice x20 l21 c22)]), (.slice none 0 0)]
                    (fun v23 => TYL v23 fun x25 l26 c27 =>
                      CALL Pg W F_ref13_Many [(.slice x25 l26 c27)]
                        (fun v28 => TYI .i64 v28 fun n30 =>
                          R (.returned (.tuple #[(.int .i64 n30), (.slice x25 l26 c27), (.int .i64 0)])))
                          (fun e29 => R (.panicked e29)))
                      (fun e24 => R (.panicked e24))))
            (fun e15 => R (.panicked e15))
theorem T_ref13_Most_eq (W : World) (x1 : Option Addr) (l2 : Nat) (c3 : Nat) (x4 : Option Addr) (l5 : Nat) (c6 : Nat) (R : Ending → Hp → Prop) : vfun Pg W an_28 Try.f28 [(.agg #[(.slice x1 l2 c3), (.slice x4 l5 c6)])] R = T_ref13_Most W x1 l2 c3 x4 l5 c6 R := by kernel_rfl
theorem does_ref13_Most (W : World) (x1 : Option Addr) (l2 : Nat) (c3 : Nat) (x4 : Option Addr) (l5 : Nat) (c6 : Nat) (R : Ending → Hp → Prop) (s : Hp) (h : T_ref13_Most W x1 l2 c3 x4 l5 c6 R s) : Does Pg W F_ref13_Most #[(.agg #[(.slice x1 l2 c3), (.slice x4 l5 c6)])] s R :=
  does_of_vfun Pg W an_28 Try.func28 rfl (by kernel_rfl) (by rw [T_ref13_Most_eq]; exact h)
def an_30 : Nat → Ann := fun b => match b with
  | 0 => { ms := [10, 11, 12], ks := [.i .i64, .i .i64, .i .i64], us := [1, 2, 4, 5, 8, 9, 58], rt := false, ex := [] }
  | _ => {}
abbrev rv_30 : List ResultVar := [.tmp 4, .tmp 5]
abbrev rs_30 : List Nat := [58, 4, 5]
def L_ref13_Stay_0 (W : World) (R : Ending → Hp → Prop) (zn0 : Int) (za1 : Addr) (zp2 : Option Addr) (zl3 : Nat) (zl4 : Nat) (zp5 : Option Addr) (zl6 : Nat) (zl7 : Nat) (n133 : Int) (n134 : Int) (n135 : Int) : Hp → Prop :=
  LOOPN [.i .i64, .i .i64, .i .i64] (fun ys next s => ∀ j : Tm, vc Pg W 58 rs_30 an_30 false (sub (bodyOf Try.f30) [1, 1, 1, 1, 1, 1, 0, 1, 0, 0]) 0 (KLoop [10, 11, 12] [1, 2, 4, 5, 8, 9, 58] [(.int .i64 zn0), (.pointer (some za1)), (.int .i64 0), (.int .i64 0), (.slice zp2 zl3 zl4), (.slice zp5 zl6 zl7), (.tuple #[])] next (KBlk 0 (KS Pg W 58 rs_30 an_30 false (sub (bodyOf Try.f30) [1, 1, 1, 1, 1, 1, 1]) 0 (fin Pg W 58 rv_30 R)))) (known [10, 11, 12] ys (known [1, 2, 4, 5, 8, 9, 58] [(.int .i64 zn0), (.pointer (some za1)), (.int .i64 0), (.int .i64 0), (.slice zp2 zl3 zl4), (.slice zp5 zl6 zl7), (.tuple #[])] j)) s) [(.int .i64 n133), (.int .i64 n134), (.int .i64 n135)]
def J_ref13_Stay_0 (W : World) (R : Ending → Hp → Prop) (zn0 : Int) (za1 : Addr) (zp2 : Option Addr) (zl3 : Nat) (zl4 : Nat) (zp5 : Option Addr) (zl6 : Nat) (zl7 : Nat) (nx0 : List Value → Hp → Prop) (n139 : Int) (n140 : Int) (n135 : Int) : Hp → Prop :=
  NX [(.int .i64 zn0), (.pointer (some za1)), (.int .i64 0), (.int .i64 0), (.slice zp2 zl3 zl4), (.slice zp5 zl6 zl7), (.tuple #[])] [(.int .i64 zn0), (.pointer (some za1)), (.int .i64 0), (.int .i64 0), (.slice zp2 zl3 zl4), (.slice zp5 zl6 zl7), (.tuple #[])] (nx0 [(.int .i64 n139), (.int .i64 n140), (.int .i64 (IntKind.wrap .i64 (n135 + 1)))])
def J_ref13_Stay_1 (W : World) (R : Ending → Hp → Prop) (zn0 : Int) (za1 : Addr) (zp2 : Option Addr) (zl3 : Nat) (zl4 : Nat) (zp5 : Option Addr) (zl6 : Nat) (zl7 : Nat) (nx0 : List Value → Hp → Prop) (n148 : Int) (n134 : Int) (n135 : Int) : Hp → Prop :=
  J_ref13_Stay_0 W R zn0 za1 zp2 zl3 zl4 zp5 zl6 zl7 nx0 n148 (IntKind.wrap .i64 (n134 + 1)) n135
def B_ref13_Stay_0 (W : World) (R : Ending → Hp → Prop) (zn0 : Int) (za1 : Addr) (zp2 : Option Addr) (zl3 : Nat) (zl4 : Nat) (zp5 : Option Addr) (zl6 : Nat) (zl7 : Nat) (n133 : Int) (n134 : Int) (n135 : Int) (nx0 : List Value → Hp → Prop) : Hp → Prop :=
  RDL (Addr.add za1 0) fun x136 l137 c138 =>
    BR (decide (n135 < (↑l137 : Int)))
      (BR (n135 == zn0)
        (J_ref13_Stay_0 W R zn0 za1 zp2 zl3 zl4 zp5 zl6 zl7 nx0 n133 n134 n135)
        (IXS zp5 zl6 n134 1 fun a141 =>
          RDI .i64 a141 fun n142 =>
            IXS zp2 zl3 n135 1 fun a143 =>
              RDI .i64 a143 fun n144 =>
                BR (decide (n142 > n144))
                  (CALL Pg W F_ref13_power [(.int .i64 n135)]
                    (fun v145 => TYI .i64 v145 fun n147 =>
                      J_ref13_Stay_1 W R zn0 za1 zp2 zl3 zl4 zp5 zl6 zl7 nx0 (IntKind.wrap .i64 (n133 + n147)) n134 n135)
                      (fun e146 => R (.panicked e146)))
                  (J_ref13_Stay_1 W R zn0 za1 zp2 zl3 zl4 zp5 zl6 zl7 nx0 n133 n134 n135)))
      (R (.returned (.tuple #[(.int .i64 n133), (.int .i64 0)])))
theorem B_ref13_Stay_0_eq (W : World) (R : Ending → Hp → Prop) (zn0 : Int) (za1 : Addr) (zp2 : Option Addr) (zl3 : Nat) (zl4 : Nat) (zp5 : Option Addr) (zl6 : Nat) (zl7 : Nat) (n133 : Int) (n134 : Int) (n135 : Int) (nx0 : List Value → Hp → Prop) (j : Tm) : vc Pg W 58 rs_30 an_30 false (sub (bodyOf Try.f30) [1, 1, 1, 1, 1, 1, 0, 1, 0, 0]) 0 (KLoop [10, 11, 12] [1, 2, 4, 5, 8, 9, 58] [(.int .i64 zn0), (.pointer (some za1)), (.int .i64 0), (.int .i64 0), (.slice zp2 zl3 zl4), (.slice zp5 zl6 zl7), (.tuple #[])] nx0 (KBlk 0 (KS Pg W 58 rs_30 an_30 false (sub (bodyOf Try.f30) [1, 1, 1, 1, 1, 1, 1]) 0 (fin Pg W 58 rv_30 R)))) (known [10, 11, 12] [(.int .i64 n133), (.int .i64 n134), (.int .i64 n135)] (known [1, 2, 4, 5, 8, 9, 58] [(.int .i64 zn0), (.pointer (some za1)), (.int .i64 0), (.int .i64 0), (.slice zp2 zl3 zl4), (.slice zp5 zl6 zl7), (.tuple #[])] j)) = B_ref13_Stay_0 W R zn0 za1 zp2 zl3 zl4 zp5 zl6 zl7 n133 n134 n135 nx0 := by kernel_rfl
def N_ref13_Stay_0 (I : Int → Int → Int → Hp → Prop) (μ : Int → Int → Int → Hp → Nat) (n1330 : Int) (n1340 : Int) (n1350 : Int) (s : Hp) (vs : List Value) : Hp → Prop := fun s' => ∃ n133 n134 n135, vs = [(.int .i64 n133), (.int .i64 n134), (.int .i64 n135)] ∧ I n133 n134 n135 s' ∧ μ n133 n134 n135 s' < μ n1330 n1340 n1350 s
theorem L_ref13_Stay_0_rule (W : World) (R : Ending → Hp → Prop) (zn0 : Int) (za1 : Addr) (zp2 : Option Addr) (zl3 : Nat) (zl4 : Nat) (zp5 : Option Addr) (zl6 : Nat) (zl7 : Nat) (I : Int → Int → Int → Hp → Prop) (μ : Int → Int → Int → Hp → Nat) (n1330 : Int) (n1340 : Int) (n1350 : Int) (s : Hp) (h0 : I n1330 n1340 n1350 s)
    (hr : ∀ (n133 : Int) (n134 : Int) (n135 : Int) (s : Hp), I n133 n134 n135 s → B_ref13_Stay_0 W R zn0 za1 zp2 zl3 zl4 zp5 zl6 zl7 n133 n134 n135 (fun vs => N_ref13_Stay_0 I μ n133 n134 n135 s vs) s) : L_ref13_Stay_0 W R zn0 za1 zp2 zl3 zl4 zp5 zl6 zl7 n1330 n1340 n1350 s := by
  refine ⟨fun vs s => ∃ n133 n134 n135, vs = [(.int .i64 n133), (.int .i64 n134), (.int .i64 n135)] ∧ I n133 n134 n135 s, fun vs s => (match vs with | [.int _ n133, .int _ n134, .int _ n135] => μ n133 n134 n135 s | _ => 0), ⟨⟨⟨_, rfl⟩, ⟨⟨_, rfl⟩, ⟨⟨_, rfl⟩, trivial⟩⟩⟩, ⟨_, _, _, rfl, h0⟩⟩, ?_⟩
  intro n133 n134 n135 s hI j
  obtain ⟨n133', n134', n135', hy, hI⟩ := hI
  have hI' : I n133 n134 n135 s := by cases hy; exact hI
  have hh := hr n133 n134 n135 s hI'
  rw [← B_ref13_Stay_0_eq W R zn0 za1 zp2 zl3 zl4 zp5 zl6 zl7 n133 n134 n135 _ j] at hh
  refine vc_mono ?_ _ _ hh
  exact KLoop_mono (fun vs s' h => by obtain ⟨n1331, n1341, n1351, rfl, h1, h2⟩ := h; exact ⟨⟨⟨_, rfl⟩, ⟨⟨_, rfl⟩, ⟨⟨_, rfl⟩, trivial⟩⟩⟩, ⟨_, _, _, rfl, h1⟩, h2⟩)
def T_ref13_Stay (W : World) (x1 : Option Addr) (l2 : Nat) (c3 : Nat) (x4 : Option Addr) (l5 : Nat) (c6 : Nat) (n7 : Int) (R : Ending → Hp → Prop) : Hp → Prop :=
  NEW 25 [(.slice x1 l2 c3), (.slice x4 l5 c6)] fun B8 =>
    RDL (Addr.add ⟨B8, 0, none⟩ 0) fun x9 l10 c11 =>
      RDL (Addr.add ⟨B8, 0, none⟩ 1) fun x12 l13 c14 =>
        RDL (Addr.add ⟨B8, 0, none⟩ 0) fun x15 l16 c17 =>
          RDL (Addr.add ⟨B8, 0, none⟩ 1) fun x18 l19 c20 =>
            CALL Pg W F_ref13_Man [(.agg #[(.slice x15 l16 c17), (.slice x18 l19 c20)]), (.int .i64 n7)]
              (fun v21 => TYB v21 fun b23 =>
                ANDS (RDL (Addr.add ⟨B8, 0, none⟩ 0) fun x24 l25 c26 =>
                  RDL (Addr.add ⟨B8, 0, none⟩ 1) fun x27 l28 c29 =>
                    fun _ => ((.agg #[(.slice x24 l25 c26), (.slice x27 l28 c29)]) : Value) = (.agg #[(.slice x9 l10 c11), (.slice x12 l13 c14)])) <|
                  CALL Pg W F_ref13_check [(.agg #[(.slice x9 l10 c11), (.slice x12 l13 c14)]), (.bool b23)]
                    (fun v30 => TYI .i64 v30 fun n32 =>
                      BR (n32 != 0)
                        (R (.returned (.tuple #[(.int .i64 0), (.int .i64 n32)])))
                        (RDL (Addr.add ⟨B8, 0, none⟩ 0) fun x33 l34 c35 =>
                          RDL (Addr.add ⟨B8, 0, none⟩ 1) fun x36 l37 c38 =>
                            CALL Pg W F_ref13_Without [(.agg #[(.slice x33 l34 c35), (.slice x36 l37 c38)]), (.int .i64 n7)]
                              (fun v39 => AGG v39 fun q41 => HD q41 fun v42 r43 => TYL v42 fun x44 l45 c46 =>
                                HD r43 fun v47 r48 => TYL v47 fun x49 l50 c51 =>
                                  NL r48 <|
                                    NEWZ Pg 25 fun B52 =>
                                      WR (Addr.add ⟨B52, 0, none⟩ 0) (.slice x44 l45 c46) <|
                                        WR (Addr.add ⟨B52, 0, none⟩ 1) (.slice x49 l50 c51) <|
                                          RDL (Addr.add ⟨B8, 0, none⟩ 0) fun x53 l54 c55 =>
                                            RDL (Addr.add ⟨B8, 0, none⟩ 1) fun x56 l57 c58 =>
                                              RDL (Addr.add ⟨B8, 0, none⟩ 0) fun x59 l60 c61 =>
                                                RDL (Addr.add ⟨B8, 0, none⟩ 1) fun x62 l63 c64 =>
                                                  RDL (Addr.add ⟨B52, 0, none⟩ 0) fun x65 l66 c67 =>
                                                    RDL (Addr.add ⟨B52, 0, none⟩ 1) fun x68 l69 c70 =>
                                                      RDL (Addr.add ⟨B52, 0, none⟩ 0) fun x71 l72 c73 =>
                                                        RDL (Addr.add ⟨B52, 0, none⟩ 1) fun x74 l75 c76 =>
                                                          CALL Pg W F_ref13_due [(.agg #[(.slice x59 l60 c61), (.slice x62 l63 c64)])]
                                                            (fun v77 => TYL v77 fun x79 l80 c81 =>
                                                              ANDS (RDL (Addr.add ⟨B52, 0, none⟩ 0) fun x82 l83 c84 =>
                                                                RDL (Addr.add ⟨B52, 0, none⟩ 1) fun x85 l86 c87 =>
                                                                  fun _ => ((.agg #[(.slice x82 l83 c84), (.slice x85 l86 c87)]) : Value) = (.agg #[(.slice x71 l72 c73), (.slice x74 l75 c76)])) <|
                                                                ANDS (RDL (Addr.add ⟨B52, 0, none⟩ 0) fun x88 l89 c90 =>
                                                                  RDL (Addr.add ⟨B52, 0, none⟩ 1) fun x91 l92 c93 =>
                                                                    fun _ => ((.agg #[(.slice x88 l89 c90), (.slice x91 l92 c93)]) : Value) = (.agg #[(.slice x65 l66 c67), (.slice x68 l69 c70)])) <|
                                                                  ANDS (RDL (Addr.add ⟨B8, 0, none⟩ 0) fun x94 l95 c96 =>
                                                                    RDL (Addr.add ⟨B8, 0, none⟩ 1) fun x97 l98 c99 =>
                                                                      fun _ => ((.agg #[(.slice x94 l95 c96), (.slice x97 l98 c99)]) : Value) = (.agg #[(.slice x53 l54 c55), (.slice x56 l57 c58)])) <|
                                                                    CALL Pg W F_ref13_worths [(.agg #[(.slice x53 l54 c55), (.slice x56 l57 c58)]), (.slice x79 l80 c81)]
                                                                      (fun v100 => TYL v100 fun x102 l103 c104 =>
                                                                        ANDS (RDL (Addr.add ⟨B52, 0, none⟩ 0) fun x105 l106 c107 =>
                                                                          RDL (Addr.add ⟨B52, 0, none⟩ 1) fun x108 l109 c110 =>
                                                                            fun _ => ((.agg #[(.slice x105 l106 c107), (.slice x108 l109 c110)]) : Value) = (.agg #[(.slice x71 l72 c73), (.slice x74 l75 c76)])) <|
                                                                          ANDS (RDL (Addr.add ⟨B52, 0, none⟩ 0) fun x111 l112 c113 =>
                                                                            RDL (Addr.add ⟨B52, 0, none⟩ 1) fun x114 l115 c116 =>
                                                                              fun _ => ((.agg #[(.slice x111 l112 c113), (.slice x114 l115 c116)]) : Value) = (.agg #[(.slice x65 l66 c67), (.slice x68 l69 c70)])) <|
                                                                            CALL Pg W F_ref13_due [(.agg #[(.slice x71 l72 c73), (.slice x74 l75 c76)])]
                                                                              (fun v117 => TYL v117 fun x119 l120 c121 =>
                                                                                ANDS (RDL (Addr.add ⟨B52, 0, none⟩ 0) fun x122 l123 c124 =>
                                                                                  RDL (Addr.add ⟨B52, 0, none⟩ 1) fun x125 l126 c127 =>
                                                                                    fun _ => ((.agg #[(.slice x122 l123 c124), (.slice x125 l126 c127)]) : Value) = (.agg #[(.slice x65 l66 c67), (.slice x68 l69 c70)])) <|
                                                                                  CALL Pg W F_ref13_worths [(.agg #[(.slice x65 l66 c67), (.slice x68 l69 c70)]), (.slice x119 l120 c121)]
                                                                                    (fun v128 => TYL v128 fun x130 l131 c132 =>
                                                                                      L_ref13_Stay_0 W R n7 ⟨B8, 0, none⟩ x102 l103 c104 x130 l131 c132 0 0 0)
                                                                                      (fun e129 => R (.panicked e129)))
                                                                                (fun e118 => R (.panicked e118)))
                                                                        (fun e101 => R (.panicked e101)))
                                                              (fun e78 => R (.panicked e78)))
                                (fun e40 => R (.panicked e40))))
                      (fun e31 => R (.panicked e31)))
                (fun e22 => R (.panicked e22))
theorem T_ref13_Stay_eq (W : World) (x1 : Option Addr) (l2 : Nat) (c3 : Nat) (x4 : Option Addr) (l5 : Nat) (c6 : Nat) (n7 : Int) (R : Ending → Hp → Prop) : vfun Pg W an_30 Try.f30 [(.agg #[(.slice x1 l2 c3), (.slice x4 l5 c6)]), (.int .i64 n7)] R = T_ref13_Stay W x1 l2 c3 x4 l5 c6 n7 R := by kernel_rfl
theorem does_ref13_Stay (W : World) (x1 : Option Addr) (l2 : Nat) (c3 : Nat) (x4 : Option Addr) (l5 : Nat) (c6 : Nat) (n7 : Int) (R : Ending → Hp → Prop) (s : Hp) (h : T_ref13_Stay W x1 l2 c3 x4 l5 c6 n7 R s) : Does Pg W F_ref13_Stay #[(.agg #[(.slice x1 l2 c3), (.slice x4 l5 c6)]), (.int .i64 n7)] s R :=
  does_of_vfun Pg W an_30 Try.func30 rfl (by kernel_rfl) (by rw [T_ref13_Stay_eq]; exact h)
def an_32 : Nat → Ann := fun b => match b with
  | 0 => { ms := [4, 5, 7], ks := [.i .i64, .i .i64, .i .i64], us := [1, 2, 31], rt := false, ex := [] }
  | _ => {}
abbrev rv_32 : List ResultVar := [.tmp 4, .tmp 5]
abbrev rs_32 : List Nat := [31, 4, 5]
def L_ref13_For_0 (W : World) (R : Ending → Hp → Prop) (zn0 : Int) (za1 : Addr) (n36 : Int) (n37 : Int) (n38 : Int) : Hp → Prop :=
  LOOPN [.i .i64, .i .i64, .i .i64] (fun ys next s => ∀ j : Tm, vc Pg W 31 rs_32 an_32 false (sub (bodyOf Try.f32) [1, 1, 1, 0, 1, 0, 0]) 0 (KLoop [4, 5, 7] [1, 2, 31] [(.int .i64 zn0), (.pointer (some za1)), (.tuple #[])] next (KBlk 0 (KS Pg W 31 rs_32 an_32 false (sub (bodyOf Try.f32) [1, 1, 1, 1]) 0 (fin Pg W 31 rv_32 R)))) (known [4, 5, 7] ys (known [1, 2, 31] [(.int .i64 zn0), (.pointer (some za1)), (.tuple #[])] j)) s) [(.int .i64 n36), (.int .i64 n37), (.int .i64 n38)]
def B_ref13_For_0 (W : World) (R : Ending → Hp → Prop) (zn0 : Int) (za1 : Addr) (n36 : Int) (n37 : Int) (n38 : Int) (nx0 : List Value → Hp → Prop) : Hp → Prop :=
  BR (decide (n38 ≥ 1))
    (RDL (Addr.add za1 0) fun x39 l40 c41 =>
      RDL (Addr.add za1 1) fun x42 l43 c44 =>
        CALL Pg W F_ref13_Moved [(.agg #[(.slice x39 l40 c41), (.slice x42 l43 c44)]), (.int .i64 zn0), (.int .i64 n38)]
          (fun v45 => AGG v45 fun q47 => HD q47 fun v48 r49 => TYL v48 fun x50 l51 c52 =>
            HD r49 fun v53 r54 => TYL v53 fun x55 l56 c57 =>
              NL r54 <|
                CALL Pg W F_ref13_due [(.agg #[(.slice x50 l51 c52), (.slice x55 l56 c57)])]
                  (fun v58 => TYL v58 fun x60 l61 c62 =>
                    CALL Pg W F_ref13_has [(.slice x60 l61 c62), (.int .i64 zn0)]
                      (fun v63 => TYB v63 fun b65 =>
                        BR b65
                          (R (.returned (.tuple #[(.int .i64 n38), (.int .i64 0)])))
                          (NX [(.int .i64 zn0), (.pointer (some za1)), (.tuple #[])] [(.int .i64 zn0), (.pointer (some za1)), (.tuple #[])] (nx0 [(.int .i64 n36), (.int .i64 n37), (.int .i64 (IntKind.wrap .i64 (n38 - 1)))])))
                        (fun e64 => R (.panicked e64)))
                    (fun e59 => R (.panicked e59)))
            (fun e46 => R (.panicked e46)))
    (R (.returned (.tuple #[(.int .i64 0), (.int .i64 4)])))
theorem B_ref13_For_0_eq (W : World) (R : Ending → Hp → Prop) (zn0 : Int) (za1 : Addr) (n36 : Int) (n37 : Int) (n38 : Int) (nx0 : List Value → Hp → Prop) (j : Tm) : vc Pg W 31 rs_32 an_32 false (sub (bodyOf Try.f32) [1, 1, 1, 0, 1, 0, 0]) 0 (KLoop [4, 5, 7] [1, 2, 31] [(.int .i64 zn0), (.pointer (some za1)), (.tuple #[])] nx0 (KBlk 0 (KS Pg W 31 rs_32 an_32 false (sub (bodyOf Try.f32) [1, 1, 1, 1]) 0 (fin Pg W 31 rv_32 R)))) (known [4, 5, 7] [(.int .i64 n36), (.int .i64 n37), (.int .i64 n38)] (known [1, 2, 31] [(.int .i64 zn0), (.pointer (some za1)), (.tuple #[])] j)) = B_ref13_For_0 W R zn0 za1 n36 n37 n38 nx0 := by kernel_rfl
def N_ref13_For_0 (I : Int → Int → Int → Hp → Prop) (μ : Int → Int → Int → Hp → Nat) (n360 : Int) (n370 : Int) (n380 : Int) (s : Hp) (vs : List Value) : Hp → Prop := fun s' => ∃ n36 n37 n38, vs = [(.int .i64 n36), (.int .i64 n37), (.int .i64 n38)] ∧ I n36 n37 n38 s' ∧ μ n36 n37 n38 s' < μ n360 n370 n380 s
theorem L_ref13_For_0_rule (W : World) (R : Ending → Hp → Prop) (zn0 : Int) (za1 : Addr) (I : Int → Int → Int → Hp → Prop) (μ : Int → Int → Int → Hp → Nat) (n360 : Int) (n370 : Int) (n380 : Int) (s : Hp) (h0 : I n360 n370 n380 s)
    (hr : ∀ (n36 : Int) (n37 : Int) (n38 : Int) (s : Hp), I n36 n37 n38 s → B_ref13_For_0 W R zn0 za1 n36 n37 n38 (fun vs => N_ref13_For_0 I μ n36 n37 n38 s vs) s) : L_ref13_For_0 W R zn0 za1 n360 n370 n380 s := by
  refine ⟨fun vs s => ∃ n36 n37 n38, vs = [(.int .i64 n36), (.int .i64 n37), (.int .i64 n38)] ∧ I n36 n37 n38 s, fun vs s => (match vs with | [.int _ n36, .int _ n37, .int _ n38] => μ n36 n37 n38 s | _ => 0), ⟨⟨⟨_, rfl⟩, ⟨⟨_, rfl⟩, ⟨⟨_, rfl⟩, trivial⟩⟩⟩, ⟨_, _, _, rfl, h0⟩⟩, ?_⟩
  intro n36 n37 n38 s hI j
  obtain ⟨n36', n37', n38', hy, hI⟩ := hI
  have hI' : I n36 n37 n38 s := by cases hy; exact hI
  have hh := hr n36 n37 n38 s hI'
  rw [← B_ref13_For_0_eq W R zn0 za1 n36 n37 n38 _ j] at hh
  refine vc_mono ?_ _ _ hh
  exact KLoop_mono (fun vs s' h => by obtain ⟨n361, n371, n381, rfl, h1, h2⟩ := h; exact ⟨⟨⟨_, rfl⟩, ⟨⟨_, rfl⟩, ⟨⟨_, rfl⟩, trivial⟩⟩⟩, ⟨_, _, _, rfl, h1⟩, h2⟩)
def T_ref13_For (W : World) (x1 : Option Addr) (l2 : Nat) (c3 : Nat) (x4 : Option Addr) (l5 : Nat) (c6 : Nat) (n7 : Int) (R : Ending → Hp → Prop) : Hp → Prop :=
  NEW 25 [(.slice x1 l2 c3), (.slice x4 l5 c6)] fun B8 =>
    RDL (Addr.add ⟨B8, 0, none⟩ 0) fun x9 l10 c11 =>
      RDL (Addr.add ⟨B8, 0, none⟩ 1) fun x12 l13 c14 =>
        RDL (Addr.add ⟨B8, 0, none⟩ 0) fun x15 l16 c17 =>
          RDL (Addr.add ⟨B8, 0, none⟩ 1) fun x18 l19 c20 =>
            CALL Pg W F_ref13_Man [(.agg #[(.slice x15 l16 c17), (.slice x18 l19 c20)]), (.int .i64 n7)]
              (fun v21 => TYB v21 fun b23 =>
                ANDS (RDL (Addr.add ⟨B8, 0, none⟩ 0) fun x24 l25 c26 =>
                  RDL (Addr.add ⟨B8, 0, none⟩ 1) fun x27 l28 c29 =>
                    fun _ => ((.agg #[(.slice x24 l25 c26), (.slice x27 l28 c29)]) : Value) = (.agg #[(.slice x9 l10 c11), (.slice x12 l13 c14)])) <|
                  CALL Pg W F_ref13_check [(.agg #[(.slice x9 l10 c11), (.slice x12 l13 c14)]), (.bool b23)]
                    (fun v30 => TYI .i64 v30 fun n32 =>
                      BR (n32 != 0)
                        (R (.returned (.tuple #[(.int .i64 0), (.int .i64 n32)])))
                        (RDL (Addr.add ⟨B8, 0, none⟩ 0) fun x33 l34 c35 =>
                          L_ref13_For_0 W R n7 ⟨B8, 0, none⟩ 0 0 (↑l34 : Int)))
                      (fun e31 => R (.panicked e31)))
                (fun e22 => R (.panicked e22))
theorem T_ref13_For_eq (W : World) (x1 : Option Addr) (l2 : Nat) (c3 : Nat) (x4 : Option Addr) (l5 : Nat) (c6 : Nat) (n7 : Int) (R : Ending → Hp → Prop) : vfun Pg W an_32 Try.f32 [(.agg #[(.slice x1 l2 c3), (.slice x4 l5 c6)]), (.int .i64 n7)] R = T_ref13_For W x1 l2 c3 x4 l5 c6 n7 R := by kernel_rfl
theorem does_ref13_For (W : World) (x1 : Option Addr) (l2 : Nat) (c3 : Nat) (x4 : Option Addr) (l5 : Nat) (c6 : Nat) (n7 : Int) (R : Ending → Hp → Prop) (s : Hp) (h : T_ref13_For W x1 l2 c3 x4 l5 c6 n7 R s) : Does Pg W F_ref13_For #[(.agg #[(.slice x1 l2 c3), (.slice x4 l5 c6)]), (.int .i64 n7)] s R :=
  does_of_vfun Pg W an_32 Try.func32 rfl (by kernel_rfl) (by rw [T_ref13_For_eq]; exact h)
def an_36 : Nat → Ann := fun b => match b with
  | 0 => { ms := [6], ks := [.i .i64], us := [1, 2, 4, 5, 45], rt := false, ex := [] }
  | _ => {}
abbrev rv_36 : List ResultVar := [.cell 4 25]
abbrev rs_36 : List Nat := [45, 4]
def L_ref13_Without_0 (W : World) (R : Ending → Hp → Prop) (zn0 : Int) (za1 : Addr) (za2 : Addr) (za3 : Addr) (n17 : Int) : Hp → Prop :=
  LOOPN [.i .i64] (fun ys next s => ∀ j : Tm, vc Pg W 45 rs_36 an_36 false (sub (bodyOf Try.f36) [1, 1, 1, 0, 1, 0, 0]) 0 (KLoop [6] [1, 2, 4, 5, 45] [(.int .i64 zn0), (.pointer (some za1)), (.pointer (some za2)), (.pointer (some za3)), (.tuple #[])] next (KBlk 0 (KS Pg W 45 rs_36 an_36 false (sub (bodyOf Try.f36) [1, 1, 1, 1]) 0 (fin Pg W 45 rv_36 R)))) (known [6] ys (known [1, 2, 4, 5, 45] [(.int .i64 zn0), (.pointer (some za1)), (.pointer (some za2)), (.pointer (some za3)), (.tuple #[])] j)) s) [(.int .i64 n17)]
def J_ref13_Without_0 (W : World) (R : Ending → Hp → Prop) (zn0 : Int) (za1 : Addr) (za2 : Addr) (za3 : Addr) (nx0 : List Value → Hp → Prop) (n17 : Int) : Hp → Prop :=
  NX [(.int .i64 zn0), (.pointer (some za1)), (.pointer (some za2)), (.pointer (some za3)), (.tuple #[])] [(.int .i64 zn0), (.pointer (some za1)), (.pointer (some za2)), (.pointer (some za3)), (.tuple #[])] (nx0 [(.int .i64 (IntKind.wrap .i64 (n17 + 1)))])
def J_ref13_Without_1 (W : World) (R : Ending → Hp → Prop) (za3 : Addr) (B29 : Nat) (zn0 : Int) (za1 : Addr) (za2 : Addr) (nx0 : List Value → Hp → Prop) (n17 : Int) : Hp → Prop :=
  RDL (Addr.add za3 0) fun x37 l38 c39 =>
    RDI .i64 (Addr.add ⟨B29, 0, none⟩ 0) fun n40 =>
      RDI .i64 (Addr.add ⟨B29, 0, none⟩ 1) fun n41 =>
        RDB (Addr.add ⟨B29, 0, none⟩ 2) fun b42 =>
          RDB (Addr.add ⟨B29, 0, none⟩ 3) fun b43 =>
            NEW 48 [(.int .i64 n40), (.int .i64 n41), (.bool b42), (.bool b43)] fun B44 =>
              APP Pg 48 4 x37 l38 c39 (some ⟨B44, 0, none⟩) 1 fun x45 l46 c47 =>
                WR (Addr.add (Addr.add za3 0) 0) (.slice x45 l46 c47) <|
                  J_ref13_Without_0 W R zn0 za1 za2 za3 nx0 n17
def B_ref13_Without_0 (W : World) (R : Ending → Hp → Prop) (zn0 : Int) (za1 : Addr) (za2 : Addr) (za3 : Addr) (n17 : Int) (nx0 : List Value → Hp → Prop) : Hp → Prop :=
  RDL (Addr.add za1 0) fun x18 l19 c20 =>
    BR (decide (n17 < (↑l19 : Int)))
      (BR (n17 == zn0)
        (J_ref13_Without_0 W R zn0 za1 za2 za3 nx0 n17)
        (RDL (Addr.add za1 0) fun x21 l22 c23 =>
          IXS x21 l22 n17 4 fun a24 =>
            RDI .i64 (Addr.add a24 0) fun n25 =>
              RDI .i64 (Addr.add a24 1) fun n26 =>
                RDB (Addr.add a24 2) fun b27 =>
                  RDB (Addr.add a24 3) fun b28 =>
                    NEWZ Pg 48 fun B29 =>
                      WR (Addr.add ⟨B29, 0, none⟩ 0) (.int .i64 n25) <|
                        WR (Addr.add ⟨B29, 0, none⟩ 1) (.int .i64 n26) <|
                          WR (Addr.add ⟨B29, 0, none⟩ 2) (.bool b27) <|
                            WR (Addr.add ⟨B29, 0, none⟩ 3) (.bool b28) <|
                              RDI .i64 (Addr.add ⟨B29, 0, none⟩ 0) fun n30 =>
                                RDL (Addr.add za1 0) fun x31 l32 c33 =>
                                  IXS x31 l32 zn0 4 fun a34 =>
                                    RDI .i64 (Addr.add a34 0) fun n35 =>
                                      BR (decide (n30 > n35))
                                        (RDI .i64 (Addr.add ⟨B29, 0, none⟩ 0) fun n36 =>
                                          WR (Addr.add (Addr.add ⟨B29, 0, none⟩ 0) 0) (.int .i64 (IntKind.wrap .i64 (n36 - 1))) <|
                                            J_ref13_Without_1 W R za3 B29 zn0 za1 za2 nx0 n17)
                                        (J_ref13_Without_1 W R za3 B29 zn0 za1 za2 nx0 n17)))
      (RDL (Addr.add za3 0) fun x48 l49 c50 =>
        RDL (Addr.add za3 1) fun x51 l52 c53 =>
          WR (Addr.add za2 0) (.slice x48 l49 c50) <|
            WR (Addr.add za2 1) (.slice x51 l52 c53) <|
              RDL (Addr.add za2 0) fun x54 l55 c56 =>
                RDL (Addr.add za2 1) fun x57 l58 c59 =>
                  R (.returned (.agg #[(.slice x54 l55 c56), (.slice x57 l58 c59)])))
theorem B_ref13_Without_0_eq (W : World) (R : Ending → Hp → Prop) (zn0 : Int) (za1 : Addr) (za2 : Addr) (za3 : Addr) (n17 : Int) (nx0 : List Value → Hp → Prop) (j : Tm) : vc Pg W 45 rs_36 an_36 false (sub (bodyOf Try.f36) [1, 1, 1, 0, 1, 0, 0]) 0 (KLoop [6] [1, 2, 4, 5, 45] [(.int .i64 zn0), (.pointer (some za1)), (.pointer (some za2)), (.pointer (some za3)), (.tuple #[])] nx0 (KBlk 0 (KS Pg W 45 rs_36 an_36 false (sub (bodyOf Try.f36) [1, 1, 1, 1]) 0 (fin Pg W 45 rv_36 R)))) (known [6] [(.int .i64 n17)] (known [1, 2, 4, 5, 45] [(.int .i64 zn0), (.pointer (some za1)), (.pointer (some za2)), (.pointer (some za3)), (.tuple #[])] j)) = B_ref13_Without_0 W R zn0 za1 za2 za3 n17 nx0 := by kernel_rfl
def N_ref13_Without_0 (I : Int → Hp → Prop) (μ : Int → Hp → Nat) (n170 : Int) (s : Hp) (vs : List Value) : Hp → Prop := fun s' => ∃ n17, vs = [(.int .i64 n17)] ∧ I n17 s' ∧ μ n17 s' < μ n170 s
theorem L_ref13_Without_0_rule (W : World) (R : Ending → Hp → Prop) (zn0 : Int) (za1 : Addr) (za2 : Addr) (za3 : Addr) (I : Int → Hp → Prop) (μ : Int → Hp → Nat) (n170 : Int) (s : Hp) (h0 : I n170 s)
    (hr : ∀ (n17 : Int) (s : Hp), I n17 s → B_ref13_Without_0 W R zn0 za1 za2 za3 n17 (fun vs => N_ref13_Without_0 I μ n17 s vs) s) : L_ref13_Without_0 W R zn0 za1 za2 za3 n170 s := by
  refine ⟨fun vs s => ∃ n17, vs = [(.int .i64 n17)] ∧ I n17 s, fun vs s => (match vs with | [.int _ n17] => μ n17 s | _ => 0), ⟨⟨⟨_, rfl⟩, trivial⟩, ⟨_, rfl, h0⟩⟩, ?_⟩
  intro n17 s hI j
  obtain ⟨n17', hy, hI⟩ := hI
  have hI' : I n17 s := by cases hy; exact hI
  have hh := hr n17 s hI'
  rw [← B_ref13_Without_0_eq W R zn0 za1 za2 za3 n17 _ j] at hh
  refine vc_mono ?_ _ _ hh
  exact KLoop_mono (fun vs s' h => by obtain ⟨n171, rfl, h1, h2⟩ := h; exact ⟨⟨⟨_, rfl⟩, trivial⟩, ⟨_, rfl, h1⟩, h2⟩)
def T_ref13_Without (W : World) (x1 : Option Addr) (l2 : Nat) (c3 : Nat) (x4 : Option Addr) (l5 : Nat) (c6 : Nat) (n7 : Int) (R : Ending → Hp → Prop) : Hp → Prop :=
  NEW 25 [(.slice x1 l2 c3), (.slice x4 l5 c6)] fun B8 =>
    NEWZ Pg 25 fun B9 =>
      RDL (Addr.add ⟨B8, 0, none⟩ 0) fun x10 l11 c12 =>
        RDL (Addr.add ⟨B8, 0, none⟩ 1) fun x13 l14 c15 =>
          NEWZ Pg 25 fun B16 =>
            WR (Addr.add ⟨B16, 0, none⟩ 0) (.slice x10 l11 c12) <|
              WR (Addr.add ⟨B16, 0, none⟩ 1) (.slice x13 l14 c15) <|
                WR (Addr.add (Addr.add ⟨B16, 0, none⟩ 0) 0) (.slice none 0 0) <|
                  L_ref13_Without_0 W R n7 ⟨B8, 0, none⟩ ⟨B9, 0, none⟩ ⟨B16, 0, none⟩ 0
theorem T_ref13_Without_eq (W : World) (x1 : Option Addr) (l2 : Nat) (c3 : Nat) (x4 : Option Addr) (l5 : Nat) (c6 : Nat) (n7 : Int) (R : Ending → Hp → Prop) : vfun Pg W an_36 Try.f36 [(.agg #[(.slice x1 l2 c3), (.slice x4 l5 c6)]), (.int .i64 n7)] R = T_ref13_Without W x1 l2 c3 x4 l5 c6 n7 R := by kernel_rfl
theorem does_ref13_Without (W : World) (x1 : Option Addr) (l2 : Nat) (c3 : Nat) (x4 : Option Addr) (l5 : Nat) (c6 : Nat) (n7 : Int) (R : Ending → Hp → Prop) (s : Hp) (h : T_ref13_Without W x1 l2 c3 x4 l5 c6 n7 R s) : Does Pg W F_ref13_Without #[(.agg #[(.slice x1 l2 c3), (.slice x4 l5 c6)]), (.int .i64 n7)] s R :=
  does_of_vfun Pg W an_36 Try.func36 rfl (by kernel_rfl) (by rw [T_ref13_Without_eq]; exact h)
def an_38 : Nat → Ann := fun b => match b with
  | 0 => { ms := [9], ks := [.i .i64], us := [1, 2, 6, 7, 8, 77], rt := false, ex := [] }
  | _ => {}
abbrev rv_38 : List ResultVar := [.cell 6 25]
abbrev rs_38 : List Nat := [77, 6]
def L_ref13_Moved_0 (W : World) (R : Ending → Hp → Prop) (zn0 : Int) (zn1 : Int) (za2 : Addr) (za3 : Addr) (zn4 : Int) (n30 : Int) : Hp → Prop :=
  LOOPN [.i .i64] (fun ys next s => ∀ j : Tm, vc Pg W 77 rs_38 an_38 false (sub (bodyOf Try.f38) [1, 1, 1, 1, 0, 1, 0, 0]) 0 (KLoop [9] [1, 2, 6, 7, 8, 77] [(.int .i64 zn0), (.int .i64 zn1), (.pointer (some za2)), (.pointer (some za3)), (.int .i64 zn4), (.tuple #[])] next (KBlk 0 (KS Pg W 77 rs_38 an_38 false (sub (bodyOf Try.f38) [1, 1, 1, 1, 1]) 0 (fin Pg W 77 rv_38 R)))) (known [9] ys (known [1, 2, 6, 7, 8, 77] [(.int .i64 zn0), (.int .i64 zn1), (.pointer (some za2)), (.pointer (some za3)), (.int .i64 zn4), (.tuple #[])] j)) s) [(.int .i64 n30)]
def J_ref13_Moved_0 (W : World) (R : Ending → Hp → Prop) (zn0 : Int) (zn1 : Int) (za2 : Addr) (za3 : Addr) (zn4 : Int) (nx0 : List Value → Hp → Prop) (n30 : Int) : Hp → Prop :=
  NX [(.int .i64 zn0), (.int .i64 zn1), (.pointer (some za2)), (.pointer (some za3)), (.int .i64 zn4), (.tuple #[])] [(.int .i64 zn0), (.int .i64 zn1), (.pointer (some za2)), (.pointer (some za3)), (.int .i64 zn4), (.tuple #[])] (nx0 [(.int .i64 (IntKind.wrap .i64 (n30 + 1)))])
def J_ref13_Moved_1 (W : World) (R : Ending → Hp → Prop) (b46 : Bool) (za3 : Addr) (n30 : Int) (zn0 : Int) (zn1 : Int) (za2 : Addr) (zn4 : Int) (nx0 : List Value → Hp → Prop) : Hp → Prop :=
  BR b46
    (RDL (Addr.add za3 0) fun x47 l48 c49 =>
      IXS x47 l48 n30 4 fun a50 =>
        RDI .i64 (Addr.add a50 0) fun n51 =>
          IXS x47 l48 n30 4 fun a52 =>
            WR (Addr.add (Addr.add a52 0) 0) (.int .i64 (IntKind.wrap .i64 (n51 + 1))) <|
              J_ref13_Moved_0 W R zn0 zn1 za2 za3 zn4 nx0 n30)
    (J_ref13_Moved_0 W R zn0 zn1 za2 za3 zn4 nx0 n30)
def J_ref13_Moved_2 (W : World) (R : Ending → Hp → Prop) (n38 : Int) (zn4 : Int) (zn1 : Int) (za3 : Addr) (n30 : Int) (zn0 : Int) (za2 : Addr) (nx0 : List Value → Hp → Prop) : Hp → Prop :=
  BR (decide (n38 < zn4))
    (J_ref13_Moved_1 W R (decide (n38 ≥ zn1)) za3 n30 zn0 zn1 za2 zn4 nx0)
    (J_ref13_Moved_1 W R false za3 n30 zn0 zn1 za2 zn4 nx0)
def J_ref13_Moved_3 (W : World) (R : Ending → Hp → Prop) (b39 : Bool) (za3 : Addr) (n30 : Int) (n38 : Int) (zn4 : Int) (zn1 : Int) (zn0 : Int) (za2 : Addr) (nx0 : List Value → Hp → Prop) : Hp → Prop :=
  BR b39
    (RDL (Addr.add za3 0) fun x40 l41 c42 =>
      IXS x40 l41 n30 4 fun a43 =>
        RDI .i64 (Addr.add a43 0) fun n44 =>
          IXS x40 l41 n30 4 fun a45 =>
            WR (Addr.add (Addr.add a45 0) 0) (.int .i64 (IntKind.wrap .i64 (n44 - 1))) <|
              J_ref13_Moved_2 W R n38 zn4 zn1 za3 n30 zn0 za2 nx0)
    (J_ref13_Moved_2 W R n38 zn4 zn1 za3 n30 zn0 za2 nx0)
def B_ref13_Moved_0 (W : World) (R : Ending → Hp → Prop) (zn0 : Int) (zn1 : Int) (za2 : Addr) (za3 : Addr) (zn4 : Int) (n30 : Int) (nx0 : List Value → Hp → Prop) : Hp → Prop :=
  RDL (Addr.add za3 0) fun x31 l32 c33 =>
    BR (decide (n30 < (↑l32 : Int)))
      (RDL (Addr.add za3 0) fun x34 l35 c36 =>
        IXS x34 l35 n30 4 fun a37 =>
          RDI .i64 (Addr.add a37 0) fun n38 =>
            BR (decide (n38 > zn4))
              (J_ref13_Moved_3 W R (decide (n38 ≤ zn1)) za3 n30 n38 zn4 zn1 zn0 za2 nx0)
              (J_ref13_Moved_3 W R false za3 n30 n38 zn4 zn1 zn0 za2 nx0))
      (RDL (Addr.add za3 0) fun x53 l54 c55 =>
        IXS x53 l54 zn0 4 fun a56 =>
          WR (Addr.add (Addr.add a56 0) 0) (.int .i64 zn1) <|
            RDL (Addr.add za3 0) fun x57 l58 c59 =>
              RDL (Addr.add za3 1) fun x60 l61 c62 =>
                WR (Addr.add za2 0) (.slice x57 l58 c59) <|
                  WR (Addr.add za2 1) (.slice x60 l61 c62) <|
                    RDL (Addr.add za2 0) fun x63 l64 c65 =>
                      RDL (Addr.add za2 1) fun x66 l67 c68 =>
                        R (.returned (.agg #[(.slice x63 l64 c65), (.slice x66 l67 c68)])))
theorem B_ref13_Moved_0_eq (W : World) (R : Ending → Hp → Prop) (zn0 : Int) (zn1 : Int) (za2 : Addr) (za3 : Addr) (zn4 : Int) (n30 : Int) (nx0 : List Value → Hp → Prop) (j : Tm) : vc Pg W 77 rs_38 an_38 false (sub (bodyOf Try.f38) [1, 1, 1, 1, 0, 1, 0, 0]) 0 (KLoop [9] [1, 2, 6, 7, 8, 77] [(.int .i64 zn0), (.int .i64 zn1), (.pointer (some za2)), (.pointer (some za3)), (.int .i64 zn4), (.tuple #[])] nx0 (KBlk 0 (KS Pg W 77 rs_38 an_38 false (sub (bodyOf Try.f38) [1, 1, 1, 1, 1]) 0 (fin Pg W 77 rv_38 R)))) (known [9] [(.int .i64 n30)] (known [1, 2, 6, 7, 8, 77] [(.int .i64 zn0), (.int .i64 zn1), (.pointer (some za2)), (.pointer (some za3)), (.int .i64 zn4), (.tuple #[])] j)) = B_ref13_Moved_0 W R zn0 zn1 za2 za3 zn4 n30 nx0 := by kernel_rfl
def N_ref13_Moved_0 (I : Int → Hp → Prop) (μ : Int → Hp → Nat) (n300 : Int) (s : Hp) (vs : List Value) : Hp → Prop := fun s' => ∃ n30, vs = [(.int .i64 n30)] ∧ I n30 s' ∧ μ n30 s' < μ n300 s
theorem L_ref13_Moved_0_rule (W : World) (R : Ending → Hp → Prop) (zn0 : Int) (zn1 : Int) (za2 : Addr) (za3 : Addr) (zn4 : Int) (I : Int → Hp → Prop) (μ : Int → Hp → Nat) (n300 : Int) (s : Hp) (h0 : I n300 s)
    (hr : ∀ (n30 : Int) (s : Hp), I n30 s → B_ref13_Moved_0 W R zn0 zn1 za2 za3 zn4 n30 (fun vs => N_ref13_Moved_0 I μ n30 s vs) s) : L_ref13_Moved_0 W R zn0 zn1 za2 za3 zn4 n300 s := by
  refine ⟨fun vs s => ∃ n30, vs = [(.int .i64 n30)] ∧ I n30 s, fun vs s => (match vs with | [.int _ n30] => μ n30 s | _ => 0), ⟨⟨⟨_, rfl⟩, trivial⟩, ⟨_, rfl, h0⟩⟩, ?_⟩
  intro n30 s hI j
  obtain ⟨n30', hy, hI⟩ := hI
  have hI' : I n30 s := by cases hy; exact hI
  have hh := hr n30 s hI'
  rw [← B_ref13_Moved_0_eq W R zn0 zn1 za2 za3 zn4 n30 _ j] at hh
  refine vc_mono ?_ _ _ hh
  exact KLoop_mono (fun vs s' h => by obtain ⟨n301, rfl, h1, h2⟩ := h; exact ⟨⟨⟨_, rfl⟩, trivial⟩, ⟨_, rfl, h1⟩, h2⟩)
def T_ref13_Moved (W : World) (x1 : Option Addr) (l2 : Nat) (c3 : Nat) (x4 : Option Addr) (l5 : Nat) (c6 : Nat) (n7 : Int) (n8 : Int) (R : Ending → Hp → Prop) : Hp → Prop :=
  NEW 25 [(.slice x1 l2 c3), (.slice x4 l5 c6)] fun B9 =>
    NEWZ Pg 25 fun B10 =>
      RDL (Addr.add ⟨B9, 0, none⟩ 0) fun x11 l12 c13 =>
        RDL (Addr.add ⟨B9, 0, none⟩ 1) fun x14 l15 c16 =>
          NEWZ Pg 25 fun B17 =>
            WR (Addr.add ⟨B17, 0, none⟩ 0) (.slice x11 l12 c13) <|
              WR (Addr.add ⟨B17, 0, none⟩ 1) (.slice x14 l15 c16) <|
                NEW 48 [] fun B18 =>
                  RDL (Addr.add ⟨B9, 0, none⟩ 0) fun x19 l20 c21 =>
                    APP Pg 48 4 (some ⟨B18, 0, none⟩) 0 0 x19 l20 fun x22 l23 c24 =>
                      WR (Addr.add (Addr.add ⟨B17, 0, none⟩ 0) 0) (.slice x22 l23 c24) <|
                        RDL (Addr.add ⟨B9, 0, none⟩ 0) fun x25 l26 c27 =>
                          IXS x25 l26 n7 4 fun a28 =>
                            RDI .i64 (Addr.add a28 0) fun n29 =>
                              L_ref13_Moved_0 W R n7 n8 ⟨B10, 0, none⟩ ⟨B17, 0, none⟩ n29 0
theorem T_ref13_Moved_eq (W : World) (x1 : Option Addr) (l2 : Nat) (c3 : Nat) (x4 : Option Addr) (l5 : Nat) (c6 : Nat) (n7 : Int) (n8 : Int) (R : Ending → Hp → Prop) : vfun Pg W an_38 Try.f38 [(.agg #[(.slice x1 l2 c3), (.slice x4 l5 c6)]), (.int .i64 n7), (.int .i64 n8)] R = T_ref13_Moved W x1 l2 c3 x4 l5 c6 n7 n8 R := by kernel_rfl
theorem does_ref13_Moved (W : World) (x1 : Option Addr) (l2 : Nat) (c3 : Nat) (x4 : Option Addr) (l5 : Nat) (c6 : Nat) (n7 : Int) (n8 : Int) (R : Ending → Hp → Prop) (s : Hp) (h : T_ref13_Moved W x1 l2 c3 x4 l5 c6 n7 n8 R s) : Does Pg W F_ref13_Moved #[(.agg #[(.slice x1 l2 c3), (.slice x4 l5 c6)]), (.int .i64 n7), (.int .i64 n8)] s R :=
  does_of_vfun Pg W an_38 Try.func38 rfl (by kernel_rfl) (by rw [T_ref13_Moved_eq]; exact h)
def an_66 : Nat → Ann := fun b => match b with
  | 0 => { ms := [5, 6, 7], ks := [.l, .b, .i .i64], us := [1, 2, 4, 57], rt := false, ex := [] }
  | _ => {}
abbrev rv_66 : List ResultVar := [.tmp 4]
abbrev rs_66 : List Nat := [57, 4]
def L_ref13_most_0 (W : World) (R : Ending → Hp → Prop) (zp0 : Option Addr) (zl1 : Nat) (zl2 : Nat) (za3 : Addr) (x14 : Option Addr) (l15 : Nat) (c16 : Nat) (b17 : Bool) (n18 : Int) : Hp → Prop :=
  LOOPN [.l, .b, .i .i64] (fun ys next s => ∀ j : Tm, vc Pg W 57 rs_66 an_66 false (sub (bodyOf Try.f66) [1, 1, 1, 1, 0, 1, 0, 0]) 0 (KLoop [5, 6, 7] [1, 2, 4, 57] [(.slice zp0 zl1 zl2), (.pointer (some za3)), (.slice none 0 0), (.tuple #[])] next (KBlk 0 (KS Pg W 57 rs_66 an_66 false (sub (bodyOf Try.f66) [1, 1, 1, 1, 1]) 0 (fin Pg W 57 rv_66 R)))) (known [5, 6, 7] ys (known [1, 2, 4, 57] [(.slice zp0 zl1 zl2), (.pointer (some za3)), (.slice none 0 0), (.tuple #[])] j)) s) [(.slice x14 l15 c16), (.bool b17), (.int .i64 n18)]
def J_ref13_most_0 (W : World) (R : Ending → Hp → Prop) (b72 : Bool) (zp0 : Option Addr) (zl1 : Nat) (zl2 : Nat) (za3 : Addr) (nx0 : List Value → Hp → Prop) (x69 : Option Addr) (l70 : Nat) (c71 : Nat) (n18 : Int) (x14 : Option Addr) (l15 : Nat) (c16 : Nat) (b17 : Bool) : Hp → Prop :=
  BR b72
    (NX [(.slice zp0 zl1 zl2), (.pointer (some za3)), (.slice none 0 0), (.tuple #[])] [(.slice zp0 zl1 zl2), (.pointer (some za3)), (.slice none 0 0), (.tuple #[])] (nx0 [(.slice x69 l70 c71), (.bool true), (.int .i64 (IntKind.wrap .i64 (n18 + 1)))]))
    (NX [(.slice zp0 zl1 zl2), (.pointer (some za3)), (.slice none 0 0), (.tuple #[])] [(.slice zp0 zl1 zl2), (.pointer (some za3)), (.slice none 0 0), (.tuple #[])] (nx0 [(.slice x14 l15 c16), (.bool b17), (.int .i64 (IntKind.wrap .i64 (n18 + 1)))]))
def J_ref13_most_1 (W : World) (R : Ending → Hp → Prop) (b17 : Bool) (zp0 : Option Addr) (zl1 : Nat) (zl2 : Nat) (za3 : Addr) (nx0 : List Value → Hp → Prop) (x69 : Option Addr) (l70 : Nat) (c71 : Nat) (n18 : Int) (x14 : Option Addr) (l15 : Nat) (c16 : Nat) : Hp → Prop :=
  BR (!b17)
    (J_ref13_most_0 W R true zp0 zl1 zl2 za3 nx0 x69 l70 c71 n18 x14 l15 c16 b17)
    (CALL Pg W F_ref13_Many [(.slice x69 l70 c71)]
      (fun v73 => TYI .i64 v73 fun n75 =>
        CALL Pg W F_ref13_Many [(.slice x14 l15 c16)]
          (fun v76 => TYI .i64 v76 fun n78 =>
            J_ref13_most_0 W R (decide (n75 > n78)) zp0 zl1 zl2 za3 nx0 x69 l70 c71 n18 x14 l15 c16 b17)
            (fun e77 => R (.panicked e77)))
        (fun e74 => R (.panicked e74)))
def J_ref13_most_2 (W : World) (R : Ending → Hp → Prop) (b25 : Bool) (zp0 : Option Addr) (zl1 : Nat) (zl2 : Nat) (za3 : Addr) (nx0 : List Value → Hp → Prop) (x14 : Option Addr) (l15 : Nat) (c16 : Nat) (b17 : Bool) (n18 : Int) : Hp → Prop :=
  BR b25
    (NX [(.slice zp0 zl1 zl2), (.pointer (some za3)), (.slice none 0 0), (.tuple #[])] [(.slice zp0 zl1 zl2), (.pointer (some za3)), (.slice none 0 0), (.tuple #[])] (nx0 [(.slice x14 l15 c16), (.bool b17), (.int .i64 (IntKind.wrap .i64 (n18 + 1)))]))
    (RDL (Addr.add za3 0) fun x26 l27 c28 =>
      RDL (Addr.add za3 1) fun x29 l30 c31 =>
        CONJ [
          NEW 3 [] fun B32 =>
            ANDS (RDL (Addr.add za3 0) fun x33 l34 c35 =>
              RDL (Addr.add za3 1) fun x36 l37 c38 =>
                fun _ => ((.agg #[(.slice x33 l34 c35), (.slice x36 l37 c38)]) : Value) = (.agg #[(.slice x26 l27 c28), (.slice x29 l30 c31)])) <|
              CONJ [
                APP Pg 3 1 (some ⟨B32, 0, none⟩) 0 0 zp0 zl1 fun x39 l40 c41 =>
                  ANDS (RDL (Addr.add za3 0) fun x42 l43 c44 =>
                    RDL (Addr.add za3 1) fun x45 l46 c47 =>
                      fun _ => ((.agg #[(.slice x42 l43 c44), (.slice x45 l46 c47)]) : Value) = (.agg #[(.slice x26 l27 c28), (.slice x29 l30 c31)])) <|
                    NEW 3 [(.int .i64 n18)] fun B48 =>
                      ANDS (RDL (Addr.add za3 0) fun x49 l50 c51 =>
                        RDL (Addr.add za3 1) fun x52 l53 c54 =>
                          fun _ => ((.agg #[(.slice x49 l50 c51), (.slice x52 l53 c54)]) : Value) = (.agg #[(.slice x26 l27 c28), (.slice x29 l30 c31)])) <|
                        APP Pg 3 1 x39 l40 c41 (some ⟨B48, 0, none⟩) 1 fun x55 l56 c57 =>
                          ANDS (RDL (Addr.add za3 0) fun x58 l59 c60 =>
                            RDL (Addr.add za3 1) fun x61 l62 c63 =>
                              fun _ => ((.agg #[(.slice x58 l59 c60), (.slice x61 l62 c63)]) : Value) = (.agg #[(.slice x26 l27 c28), (.slice x29 l30 c31)])) <|
                            CALL Pg W F_ref13_most [(.agg #[(.slice x26 l27 c28), (.slice x29 l30 c31)]), (.slice x55 l56 c57)]
                              (fun v64 => TYL v64 fun x66 l67 c68 =>
                                J_ref13_most_1 W R b17 zp0 zl1 zl2 za3 nx0 x66 l67 c68 n18 x14 l15 c16)
                                (fun e65 => R (.panicked e65)),
                NEW 3 [(.int .i64 n18)] fun B79 =>
                  ANDS (RDL (Addr.add za3 0) fun x80 l81 c82 =>
                    RDL (Addr.add za3 1) fun x83 l84 c85 =>
                      fun _ => ((.agg #[(.slice x80 l81 c82), (.slice x83 l84 c85)]) : Value) = (.agg #[(.slice x26 l27 c28), (.slice x29 l30 c31)])) <|
                    APP Pg 3 1 (some ⟨B32, 0, none⟩) 0 0 zp0 zl1 fun x86 l87 c88 =>
                      ANDS (RDL (Addr.add za3 0) fun x89 l90 c91 =>
                        RDL (Addr.add za3 1) fun x92 l93 c94 =>
                          fun _ => ((.agg #[(.slice x89 l90 c91), (.slice x92 l93 c94)]) : Value) = (.agg #[(.slice x26 l27 c28), (.slice x29 l30 c31)])) <|
                        APP Pg 3 1 x86 l87 c88 (some ⟨B79, 0, none⟩) 1 fun x95 l96 c97 =>
                          ANDS (RDL (Addr.add za3 0) fun x98 l99 c100 =>
                            RDL (Addr.add za3 1) fun x101 l102 c103 =>
                              fun _ => ((.agg #[(.slice x98 l99 c100), (.slice x101 l102 c103)]) : Value) = (.agg #[(.slice x26 l27 c28), (.slice x29 l30 c31)])) <|
                            CALL Pg W F_ref13_most [(.agg #[(.slice x26 l27 c28), (.slice x29 l30 c31)]), (.slice x95 l96 c97)]
                              (fun v104 => TYL v104 fun x106 l107 c108 =>
                                J_ref13_most_1 W R b17 zp0 zl1 zl2 za3 nx0 x106 l107 c108 n18 x14 l15 c16)
                                (fun e105 => R (.panicked e105))],
          NEW 3 [(.int .i64 n18)] fun B109 =>
            ANDS (RDL (Addr.add za3 0) fun x110 l111 c112 =>
              RDL (Addr.add za3 1) fun x113 l114 c115 =>
                fun _ => ((.agg #[(.slice x110 l111 c112), (.slice x113 l114 c115)]) : Value) = (.agg #[(.slice x26 l27 c28), (.slice x29 l30 c31)])) <|
              NEW 3 [] fun B116 =>
                ANDS (RDL (Addr.add za3 0) fun x117 l118 c119 =>
                  RDL (Addr.add za3 1) fun x120 l121 c122 =>
                    fun _ => ((.agg #[(.slice x117 l118 c119), (.slice x120 l121 c122)]) : Value) = (.agg #[(.slice x26 l27 c28), (.slice x29 l30 c31)])) <|
                  APP Pg 3 1 (some ⟨B116, 0, none⟩) 0 0 zp0 zl1 fun x123 l124 c125 =>
                    ANDS (RDL (Addr.add za3 0) fun x126 l127 c128 =>
                      RDL (Addr.add za3 1) fun x129 l130 c131 =>
                        fun _ => ((.agg #[(.slice x126 l127 c128), (.slice x129 l130 c131)]) : Value) = (.agg #[(.slice x26 l27 c28), (.slice x29 l30 c31)])) <|
                      APP Pg 3 1 x123 l124 c125 (some ⟨B109, 0, none⟩) 1 fun x132 l133 c134 =>
                        ANDS (RDL (Addr.add za3 0) fun x135 l136 c137 =>
                          RDL (Addr.add za3 1) fun x138 l139 c140 =>
                            fun _ => ((.agg #[(.slice x135 l136 c137), (.slice x138 l139 c140)]) : Value) = (.agg #[(.slice x26 l27 c28), (.slice x29 l30 c31)])) <|
                          CALL Pg W F_ref13_most [(.agg #[(.slice x26 l27 c28), (.slice x29 l30 c31)]), (.slice x132 l133 c134)]
                            (fun v141 => TYL v141 fun x143 l144 c145 =>
                              J_ref13_most_1 W R b17 zp0 zl1 zl2 za3 nx0 x143 l144 c145 n18 x14 l15 c16)
                              (fun e142 => R (.panicked e142))])
def B_ref13_most_0 (W : World) (R : Ending → Hp → Prop) (zp0 : Option Addr) (zl1 : Nat) (zl2 : Nat) (za3 : Addr) (x14 : Option Addr) (l15 : Nat) (c16 : Nat) (b17 : Bool) (n18 : Int) (nx0 : List Value → Hp → Prop) : Hp → Prop :=
  RDL (Addr.add za3 0) fun x19 l20 c21 =>
    BR (decide (n18 < (↑l20 : Int)))
      (BR (decide (n18 ≥ 0))
        (CALL Pg W F_ref13_has [(.slice zp0 zl1 zl2), (.int .i64 n18)]
          (fun v22 => TYB v22 fun b24 =>
            BR b24
              (J_ref13_most_2 W R true zp0 zl1 zl2 za3 nx0 x14 l15 c16 b17 n18)
              (RDL (Addr.add za3 0) fun x146 l147 c148 =>
                RDL (Addr.add za3 1) fun x149 l150 c151 =>
                  CALL Pg W F_ref13_can [(.agg #[(.slice x146 l147 c148), (.slice x149 l150 c151)]), (.int .i64 n18), (.int .i64 (↑zl1 : Int))]
                    (fun v152 => TYB v152 fun b154 =>
                      J_ref13_most_2 W R (!b154) zp0 zl1 zl2 za3 nx0 x14 l15 c16 b17 n18)
                      (fun e153 => R (.panicked e153))))
            (fun e23 => R (.panicked e23)))
        (J_ref13_most_2 W R false zp0 zl1 zl2 za3 nx0 x14 l15 c16 b17 n18))
      (R (.returned (.slice x14 l15 c16)))
theorem B_ref13_most_0_eq (W : World) (R : Ending → Hp → Prop) (zp0 : Option Addr) (zl1 : Nat) (zl2 : Nat) (za3 : Addr) (x14 : Option Addr) (l15 : Nat) (c16 : Nat) (b17 : Bool) (n18 : Int) (nx0 : List Value → Hp → Prop) (j : Tm) : vc Pg W 57 rs_66 an_66 false (sub (bodyOf Try.f66) [1, 1, 1, 1, 0, 1, 0, 0]) 0 (KLoop [5, 6, 7] [1, 2, 4, 57] [(.slice zp0 zl1 zl2), (.pointer (some za3)), (.slice none 0 0), (.tuple #[])] nx0 (KBlk 0 (KS Pg W 57 rs_66 an_66 false (sub (bodyOf Try.f66) [1, 1, 1, 1, 1]) 0 (fin Pg W 57 rv_66 R)))) (known [5, 6, 7] [(.slice x14 l15 c16), (.bool b17), (.int .i64 n18)] (known [1, 2, 4, 57] [(.slice zp0 zl1 zl2), (.pointer (some za3)), (.slice none 0 0), (.tuple #[])] j)) = B_ref13_most_0 W R zp0 zl1 zl2 za3 x14 l15 c16 b17 n18 nx0 := by kernel_rfl
def N_ref13_most_0 (I : Option Addr → Nat → Nat → Bool → Int → Hp → Prop) (μ : Option Addr → Nat → Nat → Bool → Int → Hp → Nat) (x140 : Option Addr) (l150 : Nat) (c160 : Nat) (b170 : Bool) (n180 : Int) (s : Hp) (vs : List Value) : Hp → Prop := fun s' => ∃ x14 l15 c16 b17 n18, vs = [(.slice x14 l15 c16), (.bool b17), (.int .i64 n18)] ∧ I x14 l15 c16 b17 n18 s' ∧ μ x14 l15 c16 b17 n18 s' < μ x140 l150 c160 b170 n180 s
theorem L_ref13_most_0_rule (W : World) (R : Ending → Hp → Prop) (zp0 : Option Addr) (zl1 : Nat) (zl2 : Nat) (za3 : Addr) (I : Option Addr → Nat → Nat → Bool → Int → Hp → Prop) (μ : Option Addr → Nat → Nat → Bool → Int → Hp → Nat) (x140 : Option Addr) (l150 : Nat) (c160 : Nat) (b170 : Bool) (n180 : Int) (s : Hp) (h0 : I x140 l150 c160 b170 n180 s)
    (hr : ∀ (x14 : Option Addr) (l15 : Nat) (c16 : Nat) (b17 : Bool) (n18 : Int) (s : Hp), I x14 l15 c16 b17 n18 s → B_ref13_most_0 W R zp0 zl1 zl2 za3 x14 l15 c16 b17 n18 (fun vs => N_ref13_most_0 I μ x14 l15 c16 b17 n18 s vs) s) : L_ref13_most_0 W R zp0 zl1 zl2 za3 x140 l150 c160 b170 n180 s := by
  refine ⟨fun vs s => ∃ x14 l15 c16 b17 n18, vs = [(.slice x14 l15 c16), (.bool b17), (.int .i64 n18)] ∧ I x14 l15 c16 b17 n18 s, fun vs s => (match vs with | [.slice x14 l15 c16, .bool b17, .int _ n18] => μ x14 l15 c16 b17 n18 s | _ => 0), ⟨⟨⟨_, _, _, rfl⟩, ⟨⟨_, rfl⟩, ⟨⟨_, rfl⟩, trivial⟩⟩⟩, ⟨_, _, _, _, _, rfl, h0⟩⟩, ?_⟩
  intro x14 l15 c16 b17 n18 s hI j
  obtain ⟨x14', l15', c16', b17', n18', hy, hI⟩ := hI
  have hI' : I x14 l15 c16 b17 n18 s := by cases hy; exact hI
  have hh := hr x14 l15 c16 b17 n18 s hI'
  rw [← B_ref13_most_0_eq W R zp0 zl1 zl2 za3 x14 l15 c16 b17 n18 _ j] at hh
  refine vc_mono ?_ _ _ hh
  exact KLoop_mono (fun vs s' h => by obtain ⟨x141, l151, c161, b171, n181, rfl, h1, h2⟩ := h; exact ⟨⟨⟨_, _, _, rfl⟩, ⟨⟨_, rfl⟩, ⟨⟨_, rfl⟩, trivial⟩⟩⟩, ⟨_, _, _, _, _, rfl, h1⟩, h2⟩)
def T_ref13_most (W : World) (x1 : Option Addr) (l2 : Nat) (c3 : Nat) (x4 : Option Addr) (l5 : Nat) (c6 : Nat) (x7 : Option Addr) (l8 : Nat) (c9 : Nat) (R : Ending → Hp → Prop) : Hp → Prop :=
  NEW 25 [(.slice x1 l2 c3), (.slice x4 l5 c6)] fun B10 =>
    RDL (Addr.add ⟨B10, 0, none⟩ 1) fun x11 l12 c13 =>
      BR ((↑l8 : Int) == (↑l12 : Int))
        (R (.returned (.slice x7 l8 c9)))
        (L_ref13_most_0 W R x7 l8 c9 ⟨B10, 0, none⟩ none 0 0 false (-1))
theorem T_ref13_most_eq (W : World) (x1 : Option Addr) (l2 : Nat) (c3 : Nat) (x4 : Option Addr) (l5 : Nat) (c6 : Nat) (x7 : Option Addr) (l8 : Nat) (c9 : Nat) (R : Ending → Hp → Prop) : vfun Pg W an_66 Try.f66 [(.agg #[(.slice x1 l2 c3), (.slice x4 l5 c6)]), (.slice x7 l8 c9)] R = T_ref13_most W x1 l2 c3 x4 l5 c6 x7 l8 c9 R := by kernel_rfl
theorem does_ref13_most (W : World) (x1 : Option Addr) (l2 : Nat) (c3 : Nat) (x4 : Option Addr) (l5 : Nat) (c6 : Nat) (x7 : Option Addr) (l8 : Nat) (c9 : Nat) (R : Ending → Hp → Prop) (s : Hp) (h : T_ref13_most W x1 l2 c3 x4 l5 c6 x7 l8 c9 R s) : Does Pg W F_ref13_most #[(.agg #[(.slice x1 l2 c3), (.slice x4 l5 c6)]), (.slice x7 l8 c9)] s R :=
  does_of_vfun Pg W an_66 Try.func66 rfl (by kernel_rfl) (by rw [T_ref13_most_eq]; exact h)
def an_69 : Nat → Ann := fun b => match b with
  | 0 => { ms := [3, 4], ks := [.i .i64, .i .i64], us := [0, 13], rt := false, ex := [] }
  | _ => {}
abbrev rv_69 : List ResultVar := [.tmp 2]
abbrev rs_69 : List Nat := [13, 2]
def L_ref13_power_0 (W : World) (R : Ending → Hp → Prop) (zn0 : Int) (n2 : Int) (n3 : Int) : Hp → Prop :=
  LOOPN [.i .i64, .i .i64] (fun ys next s => ∀ j : Tm, vc Pg W 13 rs_69 an_69 false (sub (bodyOf Try.f69) [1, 1, 0, 1, 0, 0]) 0 (KLoop [3, 4] [0, 13] [(.int .i64 zn0), (.tuple #[])] next (KBlk 0 (KS Pg W 13 rs_69 an_69 false (sub (bodyOf Try.f69) [1, 1, 1]) 0 (fin Pg W 13 rv_69 R)))) (known [3, 4] ys (known [0, 13] [(.int .i64 zn0), (.tuple #[])] j)) s) [(.int .i64 n2), (.int .i64 n3)]
def B_ref13_power_0 (W : World) (R : Ending → Hp → Prop) (zn0 : Int) (n2 : Int) (n3 : Int) (nx0 : List Value → Hp → Prop) : Hp → Prop :=
  BR (decide (n3 < zn0))
    (NX [(.int .i64 zn0), (.tuple #[])] [(.int .i64 zn0), (.tuple #[])] (nx0 [(.int .i64 (IntKind.wrap .i64 (2 * n2))), (.int .i64 (IntKind.wrap .i64 (n3 + 1)))]))
    (R (.returned (.int .i64 n2)))
theorem B_ref13_power_0_eq (W : World) (R : Ending → Hp → Prop) (zn0 : Int) (n2 : Int) (n3 : Int) (nx0 : List Value → Hp → Prop) (j : Tm) : vc Pg W 13 rs_69 an_69 false (sub (bodyOf Try.f69) [1, 1, 0, 1, 0, 0]) 0 (KLoop [3, 4] [0, 13] [(.int .i64 zn0), (.tuple #[])] nx0 (KBlk 0 (KS Pg W 13 rs_69 an_69 false (sub (bodyOf Try.f69) [1, 1, 1]) 0 (fin Pg W 13 rv_69 R)))) (known [3, 4] [(.int .i64 n2), (.int .i64 n3)] (known [0, 13] [(.int .i64 zn0), (.tuple #[])] j)) = B_ref13_power_0 W R zn0 n2 n3 nx0 := by kernel_rfl
def N_ref13_power_0 (I : Int → Int → Hp → Prop) (μ : Int → Int → Hp → Nat) (n20 : Int) (n30 : Int) (s : Hp) (vs : List Value) : Hp → Prop := fun s' => ∃ n2 n3, vs = [(.int .i64 n2), (.int .i64 n3)] ∧ I n2 n3 s' ∧ μ n2 n3 s' < μ n20 n30 s
theorem L_ref13_power_0_rule (W : World) (R : Ending → Hp → Prop) (zn0 : Int) (I : Int → Int → Hp → Prop) (μ : Int → Int → Hp → Nat) (n20 : Int) (n30 : Int) (s : Hp) (h0 : I n20 n30 s)
    (hr : ∀ (n2 : Int) (n3 : Int) (s : Hp), I n2 n3 s → B_ref13_power_0 W R zn0 n2 n3 (fun vs => N_ref13_power_0 I μ n2 n3 s vs) s) : L_ref13_power_0 W R zn0 n20 n30 s := by
  refine ⟨fun vs s => ∃ n2 n3, vs = [(.int .i64 n2), (.int .i64 n3)] ∧ I n2 n3 s, fun vs s => (match vs with | [.int _ n2, .int _ n3] => μ n2 n3 s | _ => 0), ⟨⟨⟨_, rfl⟩, ⟨⟨_, rfl⟩, trivial⟩⟩, ⟨_, _, rfl, h0⟩⟩, ?_⟩
  intro n2 n3 s hI j
  obtain ⟨n2', n3', hy, hI⟩ := hI
  have hI' : I n2 n3 s := by cases hy; exact hI
  have hh := hr n2 n3 s hI'
  rw [← B_ref13_power_0_eq W R zn0 n2 n3 _ j] at hh
  refine vc_mono ?_ _ _ hh
  exact KLoop_mono (fun vs s' h => by obtain ⟨n21, n31, rfl, h1, h2⟩ := h; exact ⟨⟨⟨_, rfl⟩, ⟨⟨_, rfl⟩, trivial⟩⟩, ⟨_, _, rfl, h1⟩, h2⟩)
def T_ref13_power (W : World) (n1 : Int) (R : Ending → Hp → Prop) : Hp → Prop :=
  L_ref13_power_0 W R n1 1 0
theorem T_ref13_power_eq (W : World) (n1 : Int) (R : Ending → Hp → Prop) : vfun Pg W an_69 Try.f69 [(.int .i64 n1)] R = T_ref13_power W n1 R := by kernel_rfl
theorem does_ref13_power (W : World) (n1 : Int) (R : Ending → Hp → Prop) (s : Hp) (h : T_ref13_power W n1 R s) : Does Pg W F_ref13_power #[(.int .i64 n1)] s R :=
  does_of_vfun Pg W an_69 Try.func69 rfl (by kernel_rfl) (by rw [T_ref13_power_eq]; exact h)
end Go.Proofs.Ytfaeokcbfnlgbaa.G

/- Prize: the document's Many, most, Most. -/
set_option linter.unusedSimpArgs false
set_option linter.unusedVariables false
set_option maxRecDepth 20000
namespace Go.Proofs.Ytfaeokcbfnlgbaa.G
open Go.V
section
variable {W : World} {K : VK} {E : List PanicEntry → Hp → Prop} {s : Hp} {T : PT}
theorem cntG_take {ds : List Int} {k : Nat} (h : k < ds.length) : cntG (ds.take (k + 1)) = cntG (ds.take k) + if ds.getD k 0 ≥ 0 then 1 else 0 := by
  unfold cntG
  rw [List.take_add_one, List.getElem?_eq_getElem h, getD_lt h, List.filter_append, List.length_append]
  congr 1
  show (List.filter _ [ds[k]]).length = _
  by_cases h1 : ds[k] ≥ 0
  · rw [if_pos h1, List.filter_cons, if_pos (decide_eq_true h1)]; rfl
  · rw [if_neg h1, List.filter_cons, if_neg (by simpa using h1)]; rfl
theorem cntG_le (ds : List Int) : cntG ds ≤ ds.length := List.length_filter_le _ _
theorem f_Many {x : Option Addr} {c l : Nat} {ds : List Int} (hx : RowAt s x (ints ds)) (hl : l = ds.length) (h8 : ds.length ≤ 100000) (h : K (.int .i64 (cntG ds : Nat)) s) : CALL Pg W F_ref13_Many [.slice x l c] K E s := by
  subst hl
  refine does_ref13_Many W x ds.length c _ s ?_
  unfold T_ref13_Many
  refine L_ref13_Many_0_rule W _ x ds.length c (fun n4 n5 t => t = s ∧ ∃ k : Nat, k ≤ ds.length ∧ n5 = k ∧ n4 = (cntG (ds.take k) : Nat)) (fun _ n5 _ => ((ds.length : Int) - n5).toNat) 0 0 s ⟨rfl, 0, by omega, rfl, rfl⟩ ?_
  rintro n4 n5 t ⟨rfl, k, hk, rfl, rfl⟩
  unfold B_ref13_Many_0
  refine BR_dec (fun h1 => ?_) (fun h1 => ?_)
  · have hkl : k < ds.length := by omega
    obtain ⟨a, ha, g⟩ := row_int hx hkl
    have hc := cntG_take hkl
    have hle := cntG_le (ds.take k)
    rw [List.length_take] at hle
    refine IXS_at ha hkl ?_
    refine ⟨_, g, ?_⟩
    refine BR_dec (fun h2 => ?_) (fun h2 => ?_)
    · rw [if_pos h2] at hc
      refine ⟨rfl, _, _, rfl, ⟨rfl, k + 1, hkl, wrap_succ (by omega), ?_⟩, ms_succ hkl (by omega)⟩
      rw [hc, wrap_succ (by omega)]
    · rw [if_neg h2] at hc
      refine ⟨rfl, _, _, rfl, ⟨rfl, k + 1, hkl, wrap_succ (by omega), ?_⟩, ms_succ hkl (by omega)⟩
      rw [hc]; rfl
  · have hkl : k = ds.length := by omega
    subst hkl
    rw [List.take_length]
    exact h
theorem f_most {x y : Option Addr} {c c' : Nat} (hok : okP T = true) (hx : MnAt s x T.men) (hy : PzAt s y T.list) : ∀ (r : Nat) (b : List (Option Nat)) (u : Hp) (q : Option Addr) (cq : Nat) (K : VK) (E : List PanicEntry → Hp → Prop), b.length + r = T.z → Ext s u → RowAt u q (ints (manL b)) →
    (∀ u' w cw, Ext u u' → RowAt u' w (ints (manL (b ++ bestG T r b.length (freeG b)))) → K (.slice w T.z cw) u') → CALL Pg W F_ref13_most [.agg #[.slice x T.n c, .slice y T.z c'], .slice q b.length cq] K E u := by
  have hv := okP_vd hok
  have h8 := hv.n8
  have h6 := hv.z6
  intro r
  induction r with
  | zero =>
    intro b u q cq K E hb eu hq h
    refine does_ref13_most W x T.n c y T.z c' q b.length cq _ u ?_
    unfold T_ref13_most
    refine ne2 fun s1 e1 z1 o1 o2 => ?_
    refine ⟨_, _, _, o2.cell, ?_⟩
    refine BR_eq (fun h1 => ?_) (fun h1 => absurd (by omega) h1)
    have := h s1 q cq e1 (by
      have e : bestG T 0 b.length (freeG b) = [] := rfl
      rw [e, List.append_nil]; exact hq.ext e1)
    have e : b.length = T.z := hb
    rw [e]; exact this
  | succ r ih =>
    intro b u q cq K E hb eu hq h
    have hbz : b.length < T.z := by omega
    refine does_ref13_most W x T.n c y T.z c' q b.length cq _ u ?_
    unfold T_ref13_most
    refine ne2 fun s1 e1 z1 o1 o2 => ?_
    refine ⟨_, _, _, o2.cell, ?_⟩
    refine BR_eq (fun h1 => absurd h1 (by omega)) (fun _ => ?_)
    have hml : (manL b).length = b.length := by unfold manL; rw [List.length_map]
    refine L_ref13_most_0_rule W _ q b.length cq ⟨u.size, 0, none⟩ (fun x14 l15 c16 b17 n18 t => Ext s1 t ∧ ∃ k : Nat, k ≤ T.n + 1 ∧ n18 = (k : Int) - 1 ∧ b17 = decide (0 < k) ∧ (0 < k → l15 = T.z ∧ RowAt t x14 (ints (manL (b ++ stG T r b.length (freeG b) (k - 1))))))
      (fun _ _ _ _ n18 _ => ((T.n : Int) - n18).toNat) none 0 0 false (-1) s1 ⟨Ext.refl _, 0, by omega, rfl, rfl, fun hh => by omega⟩ ?_
    rintro x14 l15 c16 b17 n18 t ⟨et, k, hk, rfl, rfl, hres⟩
    unfold B_ref13_most_0
    have eut := e1.trans et
    have est := eu.trans eut
    have o1t := et.cell o1.cell
    have o2t := et.cell o2.cell
    refine ⟨_, _, _, o1t, ?_⟩
    have hw : IntKind.i64.wrap (((k : Int) - 1) + 1) = ((k + 1 : Nat) : Int) - 1 := by rw [wrap_i64 (by omega) (by omega)]; omega
    refine BR_dec (fun h1 => ?_) (fun h1 => ?_)
    · have hkn : k ≤ T.n := by omega
      have hms : ((T.n : Int) - (((k + 1 : Nat) : Int) - 1)).toNat < ((T.n : Int) - ((k : Int) - 1)).toNat := by omega
      generalize hnx : (fun vs => N_ref13_most_0 _ _ _ _ _ _ _ t vs) = nx
      -- somebody who is not asked
      have skip : 0 < k → (freeG b (k - 1) && canP T (k - 1) b.length) = false → ∀ t', Ext t t' → J_ref13_most_2 W (endK K E) true q b.length cq ⟨u.size, 0, none⟩ nx x14 l15 c16 (decide (0 < k)) ((k : Int) - 1) t' := by
        intro h0 hno t ft
        have et := et.trans ft
        have eut := eut.trans ft
        have est := est.trans ft
        have o1t := ft.cell o1t
        have o2t := ft.cell o2t
        have hres : 0 < k → l15 = T.z ∧ RowAt t x14 (ints (manL (b ++ stG T r b.length (freeG b) (k - 1)))) := fun h0 => ⟨(hres h0).1, (hres h0).2.ext ft⟩
        unfold J_ref13_most_2
        obtain ⟨g1, g2⟩ := hres h0
        rw [← hnx]
        refine ⟨rfl, _, _, _, _, _, rfl, ⟨et, k + 1, by omega, hw, ?_, fun _ => ⟨g1, ?_⟩⟩, ?_⟩
        · rw [decide_eq_true h0, decide_eq_true (show 0 < k + 1 by omega)]
        · have : stG T r b.length (freeG b) (k + 1 - 1) = stG T r b.length (freeG b) (k - 1) := by
            have e : k + 1 - 1 = (k - 1) + 1 := by omega
            rw [e]; exact stG_no hno
          rw [this]; exact g2
        · rw [hw]; exact hms
      -- a prize more
      have try1 : ∀ o : Option Nat, manI o = (k : Int) - 1 → (k = 0 → o = none) → (0 < k → o = some (k - 1) ∧ (freeG b (k - 1) && canP T (k - 1) b.length) = true) → ∀ t', Ext t t' → J_ref13_most_2 W (endK K E) false q b.length cq ⟨u.size, 0, none⟩ nx x14 l15 c16 (decide (0 < k)) ((k : Int) - 1) t' := by
        intro o ho hk0 hk1 t ft
        have et := et.trans ft
        have eut := eut.trans ft
        have est := est.trans ft
        have o1t := ft.cell o1t
        have o2t := ft.cell o2t
        have hres : 0 < k → l15 = T.z ∧ RowAt t x14 (ints (manL (b ++ stG T r b.length (freeG b) (k - 1)))) := fun h0 => ⟨(hres h0).1, (hres h0).2.ext ft⟩
        unfold J_ref13_most_2
        have hbo : manL (b ++ [o]) = manL b ++ [(k : Int) - 1] := by rw [manL_app]; unfold manL; rw [List.map_singleton, ho]
        have hlo : (b ++ [o]).length = b.length + 1 := by simp
        have fin : ∀ (v : Hp) (w : Option Addr) (cw : Nat), Ext t v → RowAt v w (ints (manL (b ++ [o]))) →
            CALL Pg W F_ref13_most [.agg #[.slice x T.n c, .slice y T.z c'], .slice w (b.length + 1) cw] (fun v64 => TYL v64 fun x66 l67 c68 => J_ref13_most_1 W (endK K E) (decide (0 < k)) q b.length cq ⟨u.size, 0, none⟩ nx x66 l67 c68 ((k : Int) - 1) x14 l15 c16) (fun e => endK K E (.panicked e)) v := by
          intro v w cw ev hw'
          rw [← hlo]
          refine ih (b ++ [o]) v w cw _ _ (by omega) (est.trans ev) hw' fun v' w' cw' ev' hr => ?_
          try simp only [TUP_mk, AGG_mk, HD_mk, NL_mk, TYI_mk, TYB_mk, TYP_mk, TYL_mk, TYS_mk, TYM_mk, SO_mk, NX_mk, endK_mk, endK_mk', add_0]
          unfold J_ref13_most_1
          rw [hlo, List.append_assoc] at hr
          have etv := ev.trans ev'
          by_cases h0 : 0 < k
          · obtain ⟨ho', hcan⟩ := hk1 h0
            obtain ⟨g1, g2⟩ := hres h0
            subst ho'
            rw [freeG_some] at hr
            have hcs : ([some (k - 1)] ++ bestG T r (b.length + 1) (less (freeG b) (k - 1))) = some (k - 1) :: bestG T r (b.length + 1) (less (freeG b) (k - 1)) := rfl
            rw [hcs] at hr
            refine BR_ff (by rw [decide_eq_true h0]; rfl) ?_
            have hlen1 : T.z = (manL (b ++ (some (k - 1) :: bestG T r (b.length + 1) (less (freeG b) (k - 1))))).length := by unfold manL; simp [bestG_len]; omega
            have hlen2 : T.z = (manL (b ++ stG T r b.length (freeG b) (k - 1))).length := by unfold manL; simp [stG_len]; omega
            refine f_Many hr hlen1 (by omega) ?_
            try simp only [TUP_mk, AGG_mk, HD_mk, NL_mk, TYI_mk, TYB_mk, TYP_mk, TYL_mk, TYS_mk, TYM_mk, SO_mk, NX_mk, endK_mk, endK_mk', add_0]
            refine f_Many (g2.ext etv) (by rw [g1]; exact hlen2) (by omega) ?_
            try simp only [TUP_mk, AGG_mk, HD_mk, NL_mk, TYI_mk, TYB_mk, TYP_mk, TYL_mk, TYS_mk, TYM_mk, SO_mk, NX_mk, endK_mk, endK_mk', add_0]
            rw [cntG_man, cntG_man, many_app, many_app]
            have hs := stG_succ (r := r) hcan
            have ek : k + 1 - 1 = (k - 1) + 1 := by omega
            unfold J_ref13_most_0
            refine BR_dec (fun h2 => ?_) (fun h2 => ?_)
            · rw [if_pos (by omega)] at hs
              rw [← hnx]
              refine ⟨rfl, _, _, _, _, _, rfl, ⟨et.trans etv, k + 1, by omega, hw, (decide_eq_true (show 0 < k + 1 by omega)).symm, fun _ => ⟨rfl, ?_⟩⟩, ?_⟩
              · rw [ek, hs]; exact hr
              · rw [hw]; exact hms
            · rw [if_neg (by omega)] at hs
              rw [← hnx]
              refine ⟨rfl, _, _, _, _, _, rfl, ⟨et.trans etv, k + 1, by omega, hw, by rw [decide_eq_true h0, decide_eq_true (show 0 < k + 1 by omega)], fun _ => ⟨g1, ?_⟩⟩, ?_⟩
              · rw [ek, hs]; exact g2.ext etv
              · rw [hw]; exact hms
          · have hkz : k = 0 := by omega
            subst hkz
            have ho' := hk0 rfl
            subst ho'
            rw [freeG_none] at hr
            refine BR_tt rfl ?_
            unfold J_ref13_most_0
            refine BR_tt rfl ?_
            rw [← hnx]
            refine ⟨rfl, _, _, _, _, _, rfl, ⟨et.trans etv, 1, by omega, hw, rfl, fun _ => ⟨rfl, ?_⟩⟩, ?_⟩
            · rw [show 1 - 1 = 0 from rfl, stG_zero]; exact hr
            · rw [hw]; exact hms
        refine ⟨_, _, _, o1t, _, _, _, o2t, ?_⟩
        have rd : ∀ v, Ext t v → (RDL (Addr.add ⟨u.size, 0, none⟩ 0) fun x33 l34 c35 => RDL (Addr.add ⟨u.size, 0, none⟩ 1) fun x36 l37 c38 => fun _ => ((.agg #[(.slice x33 l34 c35), (.slice x36 l37 c38)]) : Value) = (.agg #[(.slice x T.n c), (.slice y T.z c')])) v := fun v ev => ⟨_, _, _, ev.cell o1t, _, _, _, ev.cell o2t, rfl⟩
        have hqt : ∀ v, Ext t v → RowAt v q (ints (manL b)) := fun v ev => hq.ext (eut.trans ev)
        have hmb : (ints (manL b)).length = b.length * 1 := by rw [ints_len, hml]; omega
        have fr0 : ∀ (v : Hp) (B lo : Nat), lo ≤ B → Fr lo v (some ⟨B, 0, none⟩) 0 0 1 [] := fun v B lo hB => ⟨⟨Nat.le_refl _, fun i hi => by omega⟩, rfl, fun a ha => by cases ha; exact hB, by omega⟩
        have rown : ∀ (v : Hp) (B : Nat), cellAt v ⟨B, 0, none⟩ = some (.int .i64 ((k : Int) - 1)) → RowAt v (some ⟨B, 0, none⟩) [.int .i64 ((k : Int) - 1)] := fun v B hc i hi => by
          have hi0 : i = 0 := by simp at hi; omega
          subst hi0
          exact ⟨_, rfl, hc⟩
        have last : ∀ v w cw, Fr t.size v w (0 + b.length + 1) cw 1 ([] ++ ints (manL b) ++ [.int .i64 ((k : Int) - 1)]) → RowAt v w (ints (manL (b ++ [o]))) := fun v w cw f => by
          rw [hbo, ints_app]
          have := f.row
          rw [List.nil_append] at this
          exact this
        have hz0 : 0 + b.length + 1 = b.length + 1 := by omega
        refine CONJ_two ?_ ?_
        · refine NEW_rule fun t1 f1 y1 n1 _ => ?_
          refine ANDS_i (rd t1 f1) ?_
          refine CONJ_two ?_ ?_
          · refine APP_fr (lo := t.size) (fr0 t1 _ _ (Nat.le_refl _)) f1.1 (ws := ints (manL b)) (hqt t1 f1) hmb zc_3 rfl (by omega) (ints_one _) (by omega) fun t2 x2 c2 k2 hx2 g2 => ?_
            have f2 : Ext t t2 := kp_nil f1 (fun b hb => by obtain ⟨a, ha, rfl⟩ := hb; cases ha; exact Nat.le_refl _) k2
            refine ANDS_i (rd t2 f2) ?_
            refine ne1 fun t3 f3 y3 n3 => ?_
            have f03 := f2.trans f3
            refine ANDS_i (rd t3 f03) ?_
            refine APP_fr (lo := t.size) (g2.ext f3) f03.1 (ws := [.int .i64 ((k : Int) - 1)]) (rown t3 _ n3.cell) rfl zc_3 rfl (by omega) (by simp [oneCell]) (by omega) fun t4 x4 c4 k4 hx4 g4 => ?_
            have f4 : Ext t t4 := kp_nil f03 (fun b hb => by obtain ⟨a, ha, rfl⟩ := hb; exact g2.fr a ha) k4
            refine ANDS_i (rd t4 f4) ?_
            rw [hz0]
            exact fin t4 x4 c4 f4 (last _ _ _ g4)
          · refine ne1 fun t2 f2 y2 n2 => ?_
            have f02 := f1.trans f2
            refine ANDS_i (rd t2 f02) ?_
            refine APP_fr (lo := t.size) (fr0 t2 _ _ (Nat.le_refl _)) f02.1 (ws := ints (manL b)) (hqt t2 f02) hmb zc_3 rfl (by omega) (ints_one _) (by omega) fun t3 x3 c3 k3 hx3 g3 => ?_
            have f3 : Ext t t3 := kp_nil f02 (fun b hb => by obtain ⟨a, ha, rfl⟩ := hb; cases ha; exact Nat.le_refl _) k3
            have n3 : Own t3 ⟨t1.size, 0, none⟩ (.int .i64 ((k : Int) - 1)) := k3.own (fun hb => by obtain ⟨a, ha, hb⟩ := hb; cases ha; have hb' : t.size = t1.size := hb; omega) n2
            refine ANDS_i (rd t3 f3) ?_
            refine APP_fr (lo := t.size) g3 f3.1 (ws := [.int .i64 ((k : Int) - 1)]) (rown t3 _ n3.cell) rfl zc_3 rfl (by omega) (by simp [oneCell]) (by omega) fun t4 x4 c4 k4 hx4 g4 => ?_
            have f4 : Ext t t4 := kp_nil f3 (fun b hb => by obtain ⟨a, ha, rfl⟩ := hb; exact g3.fr a ha) k4
            refine ANDS_i (rd t4 f4) ?_
            rw [hz0]
            exact fin t4 x4 c4 f4 (last _ _ _ g4)
        · refine ne1 fun t1 f1 y1 n1 => ?_
          refine ANDS_i (rd t1 f1) ?_
          refine NEW_rule fun t2 f2 y2 _ _ => ?_
          have f02 := f1.trans f2
          refine ANDS_i (rd t2 f02) ?_
          refine APP_fr (lo := t.size) (fr0 t2 _ _ f1.1) f02.1 (ws := ints (manL b)) (hqt t2 f02) hmb zc_3 rfl (by omega) (ints_one _) (by omega) fun t3 x3 c3 k3 hx3 g3 => ?_
          have f3 : Ext t t3 := kp_nil f02 (fun b hb => by obtain ⟨a, ha, rfl⟩ := hb; cases ha; exact f1.1) k3
          have n3 : Own t3 ⟨t.size, 0, none⟩ (.int .i64 ((k : Int) - 1)) := k3.own (fun hb => by obtain ⟨a, ha, hb⟩ := hb; cases ha; have hb' : t1.size = t.size := hb; omega) (f2.own n1)
          refine ANDS_i (rd t3 f3) ?_
          refine APP_fr (lo := t.size) g3 f3.1 (ws := [.int .i64 ((k : Int) - 1)]) (rown t3 _ n3.cell) rfl zc_3 rfl (by omega) (by simp [oneCell]) (by omega) fun t4 x4 c4 k4 hx4 g4 => ?_
          have f4 : Ext t t4 := kp_nil f3 (fun b hb => by obtain ⟨a, ha, rfl⟩ := hb; exact g3.fr a ha) k4
          refine ANDS_i (rd t4 f4) ?_
          rw [hz0]
          exact fin t4 x4 c4 f4 (last _ _ _ g4)
      refine BR_dec (fun h2 => ?_) (fun h2 => ?_)
      · have h0 : 0 < k := by omega
        obtain ⟨j, rfl⟩ : ∃ j, k = j + 1 := ⟨k - 1, by omega⟩
        have ej : ((j + 1 : Nat) : Int) - 1 = (j : Nat) := by omega
        have ej2 : j + 1 - 1 = j := rfl
        rw [ej2] at skip try1
        rw [ej] at skip try1 ⊢
        refine f_has (hq.ext eut) hml.symm (by omega) ?_
        try simp only [TUP_mk, AGG_mk, HD_mk, NL_mk, TYI_mk, TYB_mk, TYP_mk, TYL_mk, TYS_mk, TYM_mk, SO_mk, NX_mk, endK_mk, endK_mk', add_0]
        refine BR_bool (fun h3 => ?_) (fun h3 => ?_)
        · have hm := man_mem_iff.1 (of_decide_eq_true h3)
          refine skip h0 ?_ _ (Ext.refl _)
          have : freeG b j = false := by unfold freeG tkF; rw [decide_eq_true hm]; rfl
          rw [this]; rfl
        · have hm : ¬ some j ∈ b := fun hm => (of_decide_eq_false h3) (man_mem_iff.2 hm)
          have hf : freeG b j = true := by unfold freeG tkF; rw [decide_eq_false hm]; rfl
          refine ⟨_, _, _, o1t, _, _, _, o2t, ?_⟩
          refine f_can (hx.ext est) (hy.ext est) (by omega) hbz fun t1 f1 => ?_
          try simp only [TUP_mk, AGG_mk, HD_mk, NL_mk, TYI_mk, TYB_mk, TYP_mk, TYL_mk, TYS_mk, TYM_mk, SO_mk, NX_mk, endK_mk, endK_mk', add_0]
          cases hcan : canP T j b.length with
          | true => exact try1 (some j) rfl (fun hh => by omega) (fun _ => ⟨rfl, by rw [hf, hcan]; rfl⟩) t1 f1
          | false => exact skip h0 (by rw [hf, hcan]; rfl) t1 f1
      · have h0 : k = 0 := by omega
        subst h0
        exact try1 none rfl (fun _ => rfl) (fun hh => by omega) _ (Ext.refl _)
    · have hkn : k = T.n + 1 := by omega
      subst hkn
      obtain ⟨g1, g2⟩ := hres (by omega)
      subst g1
      have := h t x14 c16 eut (by
        have e : T.n + 1 - 1 = T.n := by omega
        rw [e, stG_full] at g2
        exact g2)
      exact this
theorem f_Most {x y : Option Addr} {c c' : Nat} (hx : MnAt s x T.men) (hy : PzAt s y T.list) (h : ∀ s' q cq, Ext s s' → RowAt s' q (ints (mostR T).2.1) → K (.tuple #[.int .i64 (mostR T).1, .slice q (mostR T).2.1.length cq, .int .i64 (mostR T).2.2]) s') :
    CALL Pg W F_ref13_Most [.agg #[.slice x T.n c, .slice y T.z c']] K E s := by
  refine does_ref13_Most W x T.n c y T.z c' _ s ?_
  unfold T_ref13_Most
  refine ne2 fun s1 e1 z1 o1 o2 => ?_
  refine ⟨_, _, _, o1.cell, _, _, _, o2.cell, ?_⟩
  refine f_check (hx.ext e1) (hy.ext e1) fun s2 e2 => ?_
  try simp only [TUP_mk, AGG_mk, HD_mk, NL_mk, TYI_mk, TYB_mk, TYP_mk, TYL_mk, TYS_mk, TYM_mk, SO_mk, NX_mk, endK_mk, endK_mk', add_0]
  have e02 := e1.trans e2
  cases hok : okP T with
  | false =>
    refine BR_ne (fun _ => ?_) (fun h3 => by cases h3)
    have := h s2 none 0 e02
    unfold mostR at this
    rw [hok] at this
    exact this (fun i hi => by simp [ints] at hi)
  | true =>
    have hv := okP_vd hok
    have h6 := hv.z6
    refine BR_ne (fun h3 => absurd rfl h3) (fun _ => ?_)
    refine ⟨_, _, _, e2.cell o1.cell, _, _, _, e2.cell o2.cell, ?_⟩
    refine f_most (b := []) hok (hx.ext e02) (hy.ext e02) T.z s2 none 0 _ _ (by simp) (Ext.refl _) (fun i hi => by simp [ints, manL] at hi) fun s3 w cw e3 hr => ?_
    try simp only [TUP_mk, AGG_mk, HD_mk, NL_mk, TYI_mk, TYB_mk, TYP_mk, TYL_mk, TYS_mk, TYM_mk, SO_mk, NX_mk, endK_mk, endK_mk', add_0]
    rw [freeG_nil, List.nil_append] at hr
    have hlen : T.z = (manL (bestG T T.z 0 allF)).length := by unfold manL; simp [bestG_len]
    have hr' : RowAt s3 w (ints (manL (bestG T T.z 0 allF))) := hr
    refine f_Many hr' hlen (by omega) ?_
    try simp only [TUP_mk, AGG_mk, HD_mk, NL_mk, TYI_mk, TYB_mk, TYP_mk, TYL_mk, TYS_mk, TYM_mk, SO_mk, NX_mk, endK_mk, endK_mk', add_0]
    rw [cntG_man, bestG_many]
    have := h s3 w cw (e02.trans e3)
    unfold mostR at this
    rw [if_pos hok] at this
    have := this hr'
    rw [← hlen] at this
    exact this
end
end Go.Proofs.Ytfaeokcbfnlgbaa.G

/- More of the functions' shallow texts, by gen.py. -/
set_option linter.unusedVariables false
set_option maxRecDepth 100000
namespace Go.Proofs.Ytfaeokcbfnlgbaa.G
open Go.V
def an_13 : Nat → Ann := fun b => match b with
  | _ => {}
abbrev rv_13 : List ResultVar := [.tmp 4]
abbrev rs_13 : List Nat := [20, 4]
def T_law13_far (W : World) (x1 : Option Addr) (l2 : Nat) (c3 : Nat) (x4 : Option Addr) (l5 : Nat) (c6 : Nat) (x7 : Option Addr) (l8 : Nat) (c9 : Nat) (R : Ending → Hp → Prop) : Hp → Prop :=
  NEW 25 [(.slice x1 l2 c3), (.slice x4 l5 c6)] fun B10 =>
    RDL (Addr.add ⟨B10, 0, none⟩ 0) fun x11 l12 c13 =>
      BR (decide ((↑l12 : Int) > 40))
        (R (.returned (.bool true)))
        (RDL (Addr.add ⟨B10, 0, none⟩ 1) fun x14 l15 c16 =>
          BR (decide ((↑l15 : Int) > 40))
            (R (.returned (.bool true)))
            (R (.returned (.bool (decide ((↑l8 : Int) > 40))))))
theorem T_law13_far_eq (W : World) (x1 : Option Addr) (l2 : Nat) (c3 : Nat) (x4 : Option Addr) (l5 : Nat) (c6 : Nat) (x7 : Option Addr) (l8 : Nat) (c9 : Nat) (R : Ending → Hp → Prop) : vfun Pg W an_13 Try.f13 [(.agg #[(.slice x1 l2 c3), (.slice x4 l5 c6)]), (.slice x7 l8 c9)] R = T_law13_far W x1 l2 c3 x4 l5 c6 x7 l8 c9 R := by kernel_rfl
theorem does_law13_far (W : World) (x1 : Option Addr) (l2 : Nat) (c3 : Nat) (x4 : Option Addr) (l5 : Nat) (c6 : Nat) (x7 : Option Addr) (l8 : Nat) (c9 : Nat) (R : Ending → Hp → Prop) (s : Hp) (h : T_law13_far W x1 l2 c3 x4 l5 c6 x7 l8 c9 R s) : Does Pg W F_law13_far #[(.agg #[(.slice x1 l2 c3), (.slice x4 l5 c6)]), (.slice x7 l8 c9)] s R :=
  does_of_vfun Pg W an_13 Try.func13 rfl (by kernel_rfl) (by rw [T_law13_far_eq]; exact h)
def an_41 : Nat → Ann := fun b => match b with
  | _ => {}
abbrev rv_41 : List ResultVar := [.cell 0 25]
abbrev rs_41 : List Nat := [14, 0]
def T_law13_sample (W : World) (R : Ending → Hp → Prop) : Hp → Prop :=
  NEWZ Pg 25 fun B1 =>
    NEW 48 [(.int .i64 2), (.int .i64 1), (.bool false), (.bool false), (.int .i64 1), (.int .i64 2), (.bool false), (.bool false), (.int .i64 3), (.int .i64 1), (.bool true), (.bool false), (.int .i64 5), (.int .i64 0), (.bool true), (.bool true), (.int .i64 4), (.int .i64 2), (.bool false), (.bool true)] fun B2 =>
      NEW 50 [(.int .i64 0), (.int .i64 100), (.int .i64 1), (.int .i64 50), (.int .i64 4), (.int .i64 80), (.int .i64 2), (.int .i64 40), (.int .i64 3), (.int .i64 20)] fun B3 =>
        WR (Addr.add ⟨B1, 0, none⟩ 0) (.slice (some ⟨B2, 0, none⟩) 5 5) <|
          WR (Addr.add ⟨B1, 0, none⟩ 1) (.slice (some ⟨B3, 0, none⟩) 5 5) <|
            RDL (Addr.add ⟨B1, 0, none⟩ 0) fun x4 l5 c6 =>
              RDL (Addr.add ⟨B1, 0, none⟩ 1) fun x7 l8 c9 =>
                R (.returned (.agg #[(.slice x4 l5 c6), (.slice x7 l8 c9)]))
theorem T_law13_sample_eq (W : World) (R : Ending → Hp → Prop) : vfun Pg W an_41 Try.f41 [] R = T_law13_sample W R := by kernel_rfl
theorem does_law13_sample (W : World) (R : Ending → Hp → Prop) (s : Hp) (h : T_law13_sample W R s) : Does Pg W F_law13_sample #[] s R :=
  does_of_vfun Pg W an_41 Try.func41 rfl (by kernel_rfl) (by rw [T_law13_sample_eq]; exact h)
end Go.Proofs.Ytfaeokcbfnlgbaa.G

/- More of the functions' shallow texts, by gen.py. -/
set_option linter.unusedVariables false
set_option maxRecDepth 100000
namespace Go.Proofs.Ytfaeokcbfnlgbaa.G
open Go.V
def an_14 : Nat → Ann := fun b => match b with
  | _ => {}
abbrev rv_14 : List ResultVar := [.tmp 0]
abbrev rs_14 : List Nat := [147, 0]
def J_law13_awake_0 (W : World) (R : Ending → Hp → Prop) (b212 : Bool) (n151 : Int) (n170 : Int) (n173 : Int) (n192 : Int) (n195 : Int) : Hp → Prop :=
  BR b212
    (BR (n151 == 0)
      (BR (n170 == 24)
        (BR (n173 == 0)
          (BR (n192 == 3)
            (R (.returned (.bool (n195 == 0))))
            (R (.returned (.bool false))))
          (R (.returned (.bool false))))
        (R (.returned (.bool false))))
      (R (.returned (.bool false))))
    (R (.returned (.bool false)))
def J_law13_awake_1 (W : World) (R : Ending → Hp → Prop) (b207 : Bool) (n143 : Int) (x146 : Option Addr) (l147 : Nat) (c148 : Nat) (n151 : Int) (n170 : Int) (n173 : Int) (n192 : Int) (n195 : Int) : Hp → Prop :=
  BR b207
    (R (.returned (.bool false)))
    (BR (n143 == 5)
      (NEW 3 [(.int .i64 0), (.int .i64 2), (.int .i64 1), (.int .i64 4), (.int .i64 3)] fun B208 =>
        CALL Pg W F_ref13_Ints [(.slice x146 l147 c148), (.slice (some ⟨B208, 0, none⟩) 5 5)]
          (fun v209 => TYB v209 fun b211 =>
            J_law13_awake_0 W R b211 n151 n170 n173 n192 n195)
            (fun e210 => R (.panicked e210)))
      (J_law13_awake_0 W R false n151 n170 n173 n192 n195))
def J_law13_awake_2 (W : World) (R : Ending → Hp → Prop) (b206 : Bool) (n143 : Int) (x146 : Option Addr) (l147 : Nat) (c148 : Nat) (n151 : Int) (n170 : Int) (n173 : Int) (n192 : Int) (n195 : Int) (n124 : Int) : Hp → Prop :=
  BR b206
    (J_law13_awake_1 W R true n143 x146 l147 c148 n151 n170 n173 n192 n195)
    (J_law13_awake_1 W R (n124 != 0) n143 x146 l147 c148 n151 n170 n173 n192 n195)
def J_law13_awake_3 (W : World) (R : Ending → Hp → Prop) (b205 : Bool) (n143 : Int) (x146 : Option Addr) (l147 : Nat) (c148 : Nat) (n151 : Int) (n170 : Int) (n173 : Int) (n192 : Int) (n195 : Int) (n124 : Int) (n121 : Int) : Hp → Prop :=
  BR b205
    (J_law13_awake_2 W R true n143 x146 l147 c148 n151 n170 n173 n192 n195 n124)
    (J_law13_awake_2 W R (n121 != 290) n143 x146 l147 c148 n151 n170 n173 n192 n195 n124)
def J_law13_awake_4 (W : World) (R : Ending → Hp → Prop) (b204 : Bool) (n143 : Int) (x146 : Option Addr) (l147 : Nat) (c148 : Nat) (n151 : Int) (n170 : Int) (n173 : Int) (n192 : Int) (n195 : Int) (n124 : Int) (n121 : Int) (x116 : Option Addr) (l117 : Nat) (c118 : Nat) : Hp → Prop :=
  BR b204
    (J_law13_awake_3 W R true n143 x146 l147 c148 n151 n170 n173 n192 n195 n124 n121)
    (NEW 3 [(.int .i64 80), (.int .i64 100), (.int .i64 50), (.int .i64 20), (.int .i64 40)] fun B213 =>
      CALL Pg W F_ref13_Ints [(.slice x116 l117 c118), (.slice (some ⟨B213, 0, none⟩) 5 5)]
        (fun v214 => TYB v214 fun b216 =>
          J_law13_awake_3 W R (!b216) n143 x146 l147 c148 n151 n170 n173 n192 n195 n124 n121)
          (fun e215 => R (.panicked e215)))
def J_law13_awake_5 (W : World) (R : Ending → Hp → Prop) (b203 : Bool) (n143 : Int) (x146 : Option Addr) (l147 : Nat) (c148 : Nat) (n151 : Int) (n170 : Int) (n173 : Int) (n192 : Int) (n195 : Int) (n124 : Int) (n121 : Int) (x116 : Option Addr) (l117 : Nat) (c118 : Nat) (n97 : Int) : Hp → Prop :=
  BR b203
    (J_law13_awake_4 W R true n143 x146 l147 c148 n151 n170 n173 n192 n195 n124 n121 x116 l117 c118)
    (J_law13_awake_4 W R (n97 != 0) n143 x146 l147 c148 n151 n170 n173 n192 n195 n124 n121 x116 l117 c118)
def J_law13_awake_6 (W : World) (R : Ending → Hp → Prop) (b202 : Bool) (n143 : Int) (x146 : Option Addr) (l147 : Nat) (c148 : Nat) (n151 : Int) (n170 : Int) (n173 : Int) (n192 : Int) (n195 : Int) (n124 : Int) (n121 : Int) (x116 : Option Addr) (l117 : Nat) (c118 : Nat) (n97 : Int) (n94 : Int) : Hp → Prop :=
  BR b202
    (J_law13_awake_5 W R true n143 x146 l147 c148 n151 n170 n173 n192 n195 n124 n121 x116 l117 c118 n97)
    (J_law13_awake_5 W R (n94 != 5) n143 x146 l147 c148 n151 n170 n173 n192 n195 n124 n121 x116 l117 c118 n97)
def J_law13_awake_7 (W : World) (R : Ending → Hp → Prop) (b201 : Bool) (n143 : Int) (x146 : Option Addr) (l147 : Nat) (c148 : Nat) (n151 : Int) (n170 : Int) (n173 : Int) (n192 : Int) (n195 : Int) (n124 : Int) (n121 : Int) (x116 : Option Addr) (l117 : Nat) (c118 : Nat) (n97 : Int) (n94 : Int) (n91 : Int) : Hp → Prop :=
  BR b201
    (J_law13_awake_6 W R true n143 x146 l147 c148 n151 n170 n173 n192 n195 n124 n121 x116 l117 c118 n97 n94)
    (J_law13_awake_6 W R (n91 != 1) n143 x146 l147 c148 n151 n170 n173 n192 n195 n124 n121 x116 l117 c118 n97 n94)
def J_law13_awake_8 (W : World) (R : Ending → Hp → Prop) (b200 : Bool) (n143 : Int) (x146 : Option Addr) (l147 : Nat) (c148 : Nat) (n151 : Int) (n170 : Int) (n173 : Int) (n192 : Int) (n195 : Int) (n124 : Int) (n121 : Int) (x116 : Option Addr) (l117 : Nat) (c118 : Nat) (n97 : Int) (n94 : Int) (n91 : Int) (n72 : Int) : Hp → Prop :=
  BR b200
    (J_law13_awake_7 W R true n143 x146 l147 c148 n151 n170 n173 n192 n195 n124 n121 x116 l117 c118 n97 n94 n91)
    (J_law13_awake_7 W R (n72 != 0) n143 x146 l147 c148 n151 n170 n173 n192 n195 n124 n121 x116 l117 c118 n97 n94 n91)
def J_law13_awake_9 (W : World) (R : Ending → Hp → Prop) (b199 : Bool) (n143 : Int) (x146 : Option Addr) (l147 : Nat) (c148 : Nat) (n151 : Int) (n170 : Int) (n173 : Int) (n192 : Int) (n195 : Int) (n124 : Int) (n121 : Int) (x116 : Option Addr) (l117 : Nat) (c118 : Nat) (n97 : Int) (n94 : Int) (n91 : Int) (n72 : Int) (n69 : Int) : Hp → Prop :=
  BR b199
    (J_law13_awake_8 W R true n143 x146 l147 c148 n151 n170 n173 n192 n195 n124 n121 x116 l117 c118 n97 n94 n91 n72)
    (J_law13_awake_8 W R (n69 != 3) n143 x146 l147 c148 n151 n170 n173 n192 n195 n124 n121 x116 l117 c118 n97 n94 n91 n72)
def J_law13_awake_10 (W : World) (R : Ending → Hp → Prop) (b198 : Bool) (n143 : Int) (x146 : Option Addr) (l147 : Nat) (c148 : Nat) (n151 : Int) (n170 : Int) (n173 : Int) (n192 : Int) (n195 : Int) (n124 : Int) (n121 : Int) (x116 : Option Addr) (l117 : Nat) (c118 : Nat) (n97 : Int) (n94 : Int) (n91 : Int) (n72 : Int) (n69 : Int) (n66 : Int) : Hp → Prop :=
  BR b198
    (J_law13_awake_9 W R true n143 x146 l147 c148 n151 n170 n173 n192 n195 n124 n121 x116 l117 c118 n97 n94 n91 n72 n69)
    (J_law13_awake_9 W R (n66 != 4) n143 x146 l147 c148 n151 n170 n173 n192 n195 n124 n121 x116 l117 c118 n97 n94 n91 n72 n69)
def J_law13_awake_11 (W : World) (R : Ending → Hp → Prop) (b197 : Bool) (n143 : Int) (x146 : Option Addr) (l147 : Nat) (c148 : Nat) (n151 : Int) (n170 : Int) (n173 : Int) (n192 : Int) (n195 : Int) (n124 : Int) (n121 : Int) (x116 : Option Addr) (l117 : Nat) (c118 : Nat) (n97 : Int) (n94 : Int) (n91 : Int) (n72 : Int) (n69 : Int) (n66 : Int) (n46 : Int) : Hp → Prop :=
  BR b197
    (J_law13_awake_10 W R true n143 x146 l147 c148 n151 n170 n173 n192 n195 n124 n121 x116 l117 c118 n97 n94 n91 n72 n69 n66)
    (J_law13_awake_10 W R (n46 != 0) n143 x146 l147 c148 n151 n170 n173 n192 n195 n124 n121 x116 l117 c118 n97 n94 n91 n72 n69 n66)
def J_law13_awake_12 (W : World) (R : Ending → Hp → Prop) (b196 : Bool) (n143 : Int) (x146 : Option Addr) (l147 : Nat) (c148 : Nat) (n151 : Int) (n170 : Int) (n173 : Int) (n192 : Int) (n195 : Int) (n124 : Int) (n121 : Int) (x116 : Option Addr) (l117 : Nat) (c118 : Nat) (n97 : Int) (n94 : Int) (n91 : Int) (n72 : Int) (n69 : Int) (n66 : Int) (n46 : Int) (x41 : Option Addr) (l42 : Nat) (c43 : Nat) : Hp → Prop :=
  BR b196
    (J_law13_awake_11 W R true n143 x146 l147 c148 n151 n170 n173 n192 n195 n124 n121 x116 l117 c118 n97 n94 n91 n72 n69 n66 n46)
    (NEW 3 [(.int .i64 1), (.int .i64 2), (.int .i64 0), (.int .i64 4), (.int .i64 3)] fun B217 =>
      CALL Pg W F_ref13_Ints [(.slice x41 l42 c43), (.slice (some ⟨B217, 0, none⟩) 5 5)]
        (fun v218 => TYB v218 fun b220 =>
          J_law13_awake_11 W R (!b220) n143 x146 l147 c148 n151 n170 n173 n192 n195 n124 n121 x116 l117 c118 n97 n94 n91 n72 n69 n66 n46)
          (fun e219 => R (.panicked e219)))
def T_law13_awake (W : World) (R : Ending → Hp → Prop) : Hp → Prop :=
  CALL Pg W F_law13_sample []
    (fun v1 => AGG v1 fun q3 => HD q3 fun v4 r5 => TYL v4 fun x6 l7 c8 =>
      HD r5 fun v9 r10 => TYL v9 fun x11 l12 c13 =>
        NL r10 <|
          CALL Pg W F_prize_Can [(.agg #[(.slice x6 l7 c8), (.slice x11 l12 c13)]), (.int .i64 3), (.int .i64 2)]
            (fun v14 => TUP v14 fun q16 => HD q16 fun v17 r18 => TYB v17 fun b19 =>
              HD r18 fun v20 r21 => TYI .i64 v20 fun n22 =>
                NL r21 <|
                  CALL Pg W F_law13_sample []
                    (fun v23 => AGG v23 fun q25 => HD q25 fun v26 r27 => TYL v26 fun x28 l29 c30 =>
                      HD r27 fun v31 r32 => TYL v31 fun x33 l34 c35 =>
                        NL r32 <|
                          CALL Pg W F_prize_Due [(.agg #[(.slice x28 l29 c30), (.slice x33 l34 c35)])]
                            (fun v36 => TUP v36 fun q38 => HD q38 fun v39 r40 => TYL v39 fun x41 l42 c43 =>
                              HD r40 fun v44 r45 => TYI .i64 v44 fun n46 =>
                                NL r45 <|
                                  CALL Pg W F_law13_sample []
                                    (fun v47 => AGG v47 fun q49 => HD q49 fun v50 r51 => TYL v50 fun x52 l53 c54 =>
                                      HD r51 fun v55 r56 => TYL v55 fun x57 l58 c59 =>
                                        NL r56 <|
                                          NEW 3 [(.int .i64 1), (.int .i64 2), (.int .i64 0), (.int .i64 4), (.int .i64 (-1))] fun B60 =>
                                            CALL Pg W F_prize_Wrong [(.agg #[(.slice x52 l53 c54), (.slice x57 l58 c59)]), (.slice (some ⟨B60, 0, none⟩) 5 5)]
                                              (fun v61 => TUP v61 fun q63 => HD q63 fun v64 r65 => TYI .i64 v64 fun n66 =>
                                                HD r65 fun v67 r68 => TYI .i64 v67 fun n69 =>
                                                  HD r68 fun v70 r71 => TYI .i64 v70 fun n72 =>
                                                    NL r71 <|
                                                      CALL Pg W F_law13_sample []
                                                        (fun v73 => AGG v73 fun q75 => HD q75 fun v76 r77 => TYL v76 fun x78 l79 c80 =>
                                                          HD r77 fun v81 r82 => TYL v81 fun x83 l84 c85 =>
                                                            NL r82 <|
                                                              CALL Pg W F_prize_Club [(.agg #[(.slice x78 l79 c80), (.slice x83 l84 c85)])]
                                                                (fun v86 => TUP v86 fun q88 => HD q88 fun v89 r90 => TYI .i64 v89 fun n91 =>
                                                                  HD r90 fun v92 r93 => TYI .i64 v92 fun n94 =>
                                                                    HD r93 fun v95 r96 => TYI .i64 v95 fun n97 =>
                                                                      NL r96 <|
                                                                        CALL Pg W F_law13_sample []
                                                                          (fun v98 => AGG v98 fun q100 => HD q100 fun v101 r102 => TYL v101 fun x103 l104 c105 =>
                                                                            HD r102 fun v106 r107 => TYL v106 fun x108 l109 c110 =>
                                                                              NL r107 <|
                                                                                CALL Pg W F_prize_Worth [(.agg #[(.slice x103 l104 c105), (.slice x108 l109 c110)]), (.slice x41 l42 c43)]
                                                                                  (fun v111 => TUP v111 fun q113 => HD q113 fun v114 r115 => TYL v114 fun x116 l117 c118 =>
                                                                                    HD r115 fun v119 r120 => TYI .i64 v119 fun n121 =>
                                                                                      HD r120 fun v122 r123 => TYI .i64 v122 fun n124 =>
                                                                                        NL r123 <|
                                                                                          CALL Pg W F_law13_sample []
                                                                                            (fun v125 => AGG v125 fun q127 => HD q127 fun v128 r129 => TYL v128 fun x130 l131 c132 =>
                                                                                              HD r129 fun v133 r134 => TYL v133 fun x135 l136 c137 =>
                                                                                                NL r134 <|
                                                                                                  CALL Pg W F_prize_Most [(.agg #[(.slice x130 l131 c132), (.slice x135 l136 c137)])]
                                                                                                    (fun v138 => TUP v138 fun q140 => HD q140 fun v141 r142 => TYI .i64 v141 fun n143 =>
                                                                                                      HD r142 fun v144 r145 => TYL v144 fun x146 l147 c148 =>
                                                                                                        HD r145 fun v149 r150 => TYI .i64 v149 fun n151 =>
                                                                                                          NL r150 <|
                                                                                                            CALL Pg W F_law13_sample []
                                                                                                              (fun v152 => AGG v152 fun q154 => HD q154 fun v155 r156 => TYL v155 fun x157 l158 c159 =>
                                                                                                                HD r156 fun v160 r161 => TYL v160 fun x162 l163 c164 =>
                                                                                                                  NL r161 <|
                                                                                                                    CALL Pg W F_prize_Stay [(.agg #[(.slice x157 l158 c159), (.slice x162 l163 c164)]), (.int .i64 0)]
                                                                                                                      (fun v165 => TUP v165 fun q167 => HD q167 fun v168 r169 => TYI .i64 v168 fun n170 =>
                                                                                                                        HD r169 fun v171 r172 => TYI .i64 v171 fun n173 =>
                                                                                                                          NL r172 <|
                                                                                                                            CALL Pg W F_law13_sample []
                                                                                                                              (fun v174 => AGG v174 fun q176 => HD q176 fun v177 r178 => TYL v177 fun x179 l180 c181 =>
                                                                                                                                HD r178 fun v182 r183 => TYL v182 fun x184 l185 c186 =>
                                                                                                                                  NL r183 <|
                                                                                                                                    CALL Pg W F_prize_For [(.agg #[(.slice x179 l180 c181), (.slice x184 l185 c186)]), (.int .i64 0)]
                                                                                                                                      (fun v187 => TUP v187 fun q189 => HD q189 fun v190 r191 => TYI .i64 v190 fun n192 =>
                                                                                                                                        HD r191 fun v193 r194 => TYI .i64 v193 fun n195 =>
                                                                                                                                          NL r194 <|
                                                                                                                                            BR b19
                                                                                                                                              (J_law13_awake_12 W R true n143 x146 l147 c148 n151 n170 n173 n192 n195 n124 n121 x116 l117 c118 n97 n94 n91 n72 n69 n66 n46 x41 l42 c43)
                                                                                                                                              (J_law13_awake_12 W R (n22 != 0) n143 x146 l147 c148 n151 n170 n173 n192 n195 n124 n121 x116 l117 c118 n97 n94 n91 n72 n69 n66 n46 x41 l42 c43))
                                                                                                                                        (fun e188 => R (.panicked e188)))
                                                                                                                                (fun e175 => R (.panicked e175)))
                                                                                                                        (fun e166 => R (.panicked e166)))
                                                                                                                (fun e153 => R (.panicked e153)))
                                                                                                      (fun e139 => R (.panicked e139)))
                                                                                              (fun e126 => R (.panicked e126)))
                                                                                    (fun e112 => R (.panicked e112)))
                                                                            (fun e99 => R (.panicked e99)))
                                                                  (fun e87 => R (.panicked e87)))
                                                          (fun e74 => R (.panicked e74)))
                                                (fun e62 => R (.panicked e62)))
                                      (fun e48 => R (.panicked e48)))
                              (fun e37 => R (.panicked e37)))
                      (fun e24 => R (.panicked e24)))
              (fun e15 => R (.panicked e15)))
      (fun e2 => R (.panicked e2))
theorem T_law13_awake_eq (W : World) (R : Ending → Hp → Prop) : vfun Pg W an_14 Try.f14 [] R = T_law13_awake W R := by kernel_rfl
theorem does_law13_awake (W : World) (R : Ending → Hp → Prop) (s : Hp) (h : T_law13_awake W R s) : Does Pg W F_law13_awake #[] s R :=
  does_of_vfun Pg W an_14 Try.func14 rfl (by kernel_rfl) (by rw [T_law13_awake_eq]; exact h)
end Go.Proofs.Ytfaeokcbfnlgbaa.G

/- Prize: what the document fixes. -/
set_option linter.unusedSimpArgs false
set_option linter.unusedVariables false
set_option maxRecDepth 20000
namespace Go.Proofs.Ytfaeokcbfnlgbaa.G
open Go.V
def pz2 (m : Pz) : List Value := [.int .i64 m.kind, .int .i64 m.worth]
def pzV (l : List Pz) : List Value := l.flatMap pz2
theorem pzV_len : ∀ l : List Pz, (pzV l).length = l.length * 2
  | [] => rfl
  | x :: l => by
    have ih := pzV_len l
    show (pz2 x ++ pzV l).length = _
    rw [List.length_append, ih, List.length_cons]
    show 2 + _ = _
    omega
theorem pzV_one (l : List Pz) : ∀ v ∈ pzV l, oneCell v = true := by
  intro v hv
  obtain ⟨m, _, h⟩ := List.mem_flatMap.1 hv
  simp [pz2] at h
  rcases h with rfl | rfl <;> rfl
theorem pzV_get : ∀ (l : List Pz) (k : Nat) (h : k < l.length), (pzV l)[k * 2]? = some (.int .i64 l[k].kind) ∧ (pzV l)[k * 2 + 1]? = some (.int .i64 l[k].worth)
  | [], k, h => by simp at h
  | x :: l, 0, h => ⟨rfl, rfl⟩
  | x :: l, k + 1, h => by
    obtain ⟨h1, h2⟩ := pzV_get l k (by simpa using h)
    have e : ∀ j : Nat, (pzV (x :: l))[2 + j]? = (pzV l)[j]? := fun j => by
      show (pz2 x ++ pzV l)[2 + j]? = _
      rw [List.getElem?_append_right (show (pz2 x).length ≤ 2 + j by show 2 ≤ _; omega)]
      congr 1
      show 2 + j - 2 = j
      omega
    refine ⟨?_, ?_⟩
    · rw [show (k + 1) * 2 = 2 + k * 2 by omega, e, h1]; rfl
    · rw [show (k + 1) * 2 + 1 = 2 + (k * 2 + 1) by omega, e, h2]; rfl
theorem row_pz {s : Hp} {x : Option Addr} {l : List Pz} (h : RowAt s x (pzV l)) : PzAt s x l := fun i hi => by
  obtain ⟨g1, g2⟩ := pzV_get l i hi
  obtain ⟨a, h0, h1⟩ := row_get h g1
  obtain ⟨b, k0, h2⟩ := row_get h g2
  rw [h0] at k0; cases k0
  exact ⟨a, h0, by rw [addr_add]; exact h1, by rw [addr_add]; exact h2⟩
theorem pz_row' {s : Hp} {x : Option Addr} {l : List Pz} (h : PzAt s x l) : RowAt s x (pzV l) := fun i hi => by
  have hi' := hi
  rw [pzV_len] at hi'
  have hk : i / 2 < l.length := by omega
  obtain ⟨a, h0, h1, h2⟩ := h (i / 2) hk
  obtain ⟨g1, g2⟩ := pzV_get l (i / 2) hk
  refine ⟨a, h0, ?_⟩
  rw [Nat.mul_one]
  rcases Nat.mod_two_eq_zero_or_one i with e | e
  · have e' : i / 2 * 2 = i := by omega
    rw [addr_add] at h1
    simp only [e', Nat.add_zero] at h1 g1
    rw [h1, ← g1, List.getElem?_eq_getElem hi]
  · have e' : i / 2 * 2 + 1 = i := by omega
    rw [addr_add] at h2
    simp only [e'] at h2 g2
    rw [h2, ← g2, List.getElem?_eq_getElem hi]
/-- The prizes of the document's examples. -/
def SP : PT := ⟨[⟨2, 1, false, false⟩, ⟨1, 2, false, false⟩, ⟨3, 1, true, false⟩, ⟨5, 0, true, true⟩, ⟨4, 2, false, true⟩], [⟨0, 100⟩, ⟨1, 50⟩, ⟨4, 80⟩, ⟨2, 40⟩, ⟨3, 20⟩]⟩
theorem sp_can : canR SP 3 2 = (false, 0) := by decide +kernel
theorem sp_due : dueR SP = ([1, 2, 0, 4, 3], 0) := by decide +kernel
theorem sp_wrong : wrongR SP [1, 2, 0, 4, -1] = (4, 3, 0) := by decide +kernel
theorem sp_club : clubR SP = (1, 5, 0) := by decide +kernel
theorem sp_worth : worthR SP [1, 2, 0, 4, 3] = ([80, 100, 50, 20, 40], 290, 0) := by decide +kernel
theorem sp_most : mostR SP = (5, [0, 2, 1, 4, 3], 0) := by decide +kernel
theorem sp_stay : stayR SP 0 = (24, 0) := by decide +kernel
theorem sp_for : forR SP 0 = (3, 0) := by decide +kernel
section
variable {W : World} {K : VK} {E : List PanicEntry → Hp → Prop} {s : Hp} {T : PT}
theorem c_far {x y q : Option Addr} {c c' l cq : Nat} (h : ∀ s' b, Ext s s' → (b = false → T.n ≤ 40 ∧ T.z ≤ 40 ∧ l ≤ 40) → K (.bool b) s') :
    CALL Pg W F_law13_far [.agg #[.slice x T.n c, .slice y T.z c'], .slice q l cq] K E s := by
  refine does_law13_far W x T.n c y T.z c' q l cq _ s ?_
  unfold T_law13_far
  refine ne2 fun s1 e1 z1 o1 o2 => ?_
  refine ⟨_, _, _, o1.cell, ?_⟩
  refine BR_dec (fun h1 => h s1 true e1 (fun hh => by cases hh)) (fun h1 => ?_)
  refine ⟨_, _, _, o2.cell, ?_⟩
  refine BR_dec (fun h2 => h s1 true e1 (fun hh => by cases hh)) (fun h2 => ?_)
  exact h s1 _ e1 (fun hh => by have := of_decide_eq_false hh; omega)
theorem wr2 {a : Addr} {v0 v1 : Value} {K : Hp → Prop} (h0 : oneCell v0 = true) (h1 : oneCell v1 = true) (ha : ∀ j, j < 2 → ∃ y, Own s (a.add j) y) (h : ∀ s', Kp (· = a.block) s s' → s'.size = s.size → Own s' (a.add 0) v0 → Own s' (a.add 1) v1 → K s') :
    (WR (a.add 0) v0 <| WR (a.add 1) v1 <| K) s := by
  show wrN [v0, v1] a 0 K s
  refine wrN_rule _ a 0 K s (fun i hi => ?_) ?_ ?_
  · rw [Nat.zero_add]; exact ha i hi
  · intro w hw
    simp at hw
    rcases hw with rfl | rfl <;> assumption
  · intro s' k z ho _
    exact h s' k z (ho 0 (by simp)) (ho 1 (by simp))
theorem c_sample (h : ∀ s' x y, Ext s s' → MnAt s' x SP.men → PzAt s' y SP.list → K (.agg #[.slice x 5 5, .slice y 5 5]) s') : CALL Pg W F_law13_sample [] K E s := by
  refine does_law13_sample W _ s ?_
  unfold T_law13_sample
  refine nz2 zc_25 fun s1 e1 z1 q1 q2 => ?_
  refine NEW_rule fun s2 e2 z2 n2 _ => ?_
  refine NEW_rule fun s3 e3 z3 n3 _ => ?_
  have e13 := e2.trans e3
  have hs12 : s.size < s1.size := by omega
  refine wr2 (a := ⟨s.size, 0, none⟩) rfl rfl (fun j hj => ?_) fun t k z o0 o1 => ?_
  · match j, hj with
    | 0, _ => exact ⟨_, e13.own q1⟩
    | 1, _ => exact ⟨_, e13.own q2⟩
  · refine ⟨_, _, _, o0.cell, _, _, _, o1.cell, ?_⟩
    refine h t _ _ (ext_kp (e1.trans e13) (Nat.le_refl _) k) (row_mn ?_) (row_pz ?_)
    · exact ((row_new (vs := mnV SP.men) n2).ext e3).keep k (fun a ha => by cases ha; show ¬ s1.size = s.size; omega)
    · exact (row_new (vs := pzV SP.list) n3).keep k (fun a ha => by cases ha; show ¬ s2.size = s.size; have := e2.1; omega)
theorem x_Can {x y : Option Addr} {c c' : Nat} (hx : MnAt s x SP.men) (hy : PzAt s y SP.list) (h : ∀ s', Ext s s' → K (.tuple #[.bool false, .int .i64 0]) s') : CALL Pg W F_prize_Can [.agg #[.slice x 5 c, .slice y 5 c'], .int .i64 3, .int .i64 2] K E s :=
  c_Can (T := SP) (m := 3) (z := 2) hx hy (by rw [sp_can]; exact h)
theorem x_Due {x y : Option Addr} {c c' : Nat} (hx : MnAt s x SP.men) (hy : PzAt s y SP.list) (h : ∀ s' q cq, Ext s s' → RowAt s' q (ints [1, 2, 0, 4, 3]) → K (.tuple #[.slice q 5 cq, .int .i64 0]) s') : CALL Pg W F_prize_Due [.agg #[.slice x 5 c, .slice y 5 c']] K E s :=
  c_Due (T := SP) hx hy (by rw [sp_due]; exact fun s' q cq e f => h s' q cq e f.row)
theorem x_Wrong {x y q : Option Addr} {c c' cq : Nat} (hx : MnAt s x SP.men) (hy : PzAt s y SP.list) (hq : RowAt s q (ints [1, 2, 0, 4, -1])) (h : ∀ s', Ext s s' → K (.tuple #[.int .i64 4, .int .i64 3, .int .i64 0]) s') : CALL Pg W F_prize_Wrong [.agg #[.slice x 5 c, .slice y 5 c'], .slice q 5 cq] K E s :=
  c_Wrong (T := SP) (ds := [1, 2, 0, 4, -1]) hx hy hq (by rw [sp_wrong]; exact h)
theorem x_Club {x y : Option Addr} {c c' : Nat} (hx : MnAt s x SP.men) (hy : PzAt s y SP.list) (h : ∀ s', Ext s s' → K (.tuple #[.int .i64 1, .int .i64 5, .int .i64 0]) s') : CALL Pg W F_prize_Club [.agg #[.slice x 5 c, .slice y 5 c']] K E s :=
  c_Club (T := SP) hx hy (by rw [sp_club]; exact h)
theorem x_Worth {x y q : Option Addr} {c c' cq : Nat} (hx : MnAt s x SP.men) (hy : PzAt s y SP.list) (hq : RowAt s q (ints [1, 2, 0, 4, 3])) (h : ∀ s' w cw, Ext s s' → RowAt s' w (ints [80, 100, 50, 20, 40]) → K (.tuple #[.slice w 5 cw, .int .i64 290, .int .i64 0]) s') : CALL Pg W F_prize_Worth [.agg #[.slice x 5 c, .slice y 5 c'], .slice q 5 cq] K E s :=
  c_Worth (T := SP) (ds := [1, 2, 0, 4, 3]) hx hy hq (by rw [sp_worth]; exact fun s' w cw e f => h s' w cw e f.row)
theorem x_Most {x y : Option Addr} {c c' : Nat} (hx : MnAt s x SP.men) (hy : PzAt s y SP.list) (h : ∀ s' q cq, Ext s s' → RowAt s' q (ints [0, 2, 1, 4, 3]) → K (.tuple #[.int .i64 5, .slice q 5 cq, .int .i64 0]) s') : CALL Pg W F_prize_Most [.agg #[.slice x 5 c, .slice y 5 c']] K E s :=
  c_Most (T := SP) hx hy (by rw [sp_most]; exact fun s' q cq e f => h s' q cq e f.row)
theorem x_Stay {x y : Option Addr} {c c' : Nat} (hx : MnAt s x SP.men) (hy : PzAt s y SP.list) (h : ∀ s', Ext s s' → K (.tuple #[.int .i64 24, .int .i64 0]) s') : CALL Pg W F_prize_Stay [.agg #[.slice x 5 c, .slice y 5 c'], .int .i64 0] K E s :=
  c_Stay (T := SP) (m := 0) hx hy (by rw [sp_stay]; exact h)
theorem x_For {x y : Option Addr} {c c' : Nat} (hx : MnAt s x SP.men) (hy : PzAt s y SP.list) (h : ∀ s', Ext s s' → K (.tuple #[.int .i64 3, .int .i64 0]) s') : CALL Pg W F_prize_For [.agg #[.slice x 5 c, .slice y 5 c'], .int .i64 0] K E s :=
  c_For (T := SP) (m := 0) hx hy (by rw [sp_for]; exact h)
theorem c_awake (h : ∀ s', Ext s s' → K (.bool true) s') : CALL Pg W F_law13_awake [] K E s := by
  refine does_law13_awake W _ s ?_
  unfold T_law13_awake
  refine c_sample fun s1 x1 y1 e1 r1 q1 => ?_
  try simp only [TUP_mk, AGG_mk, HD_mk, NL_mk, TYI_mk, TYB_mk, TYP_mk, TYL_mk, TYS_mk, TYM_mk, SO_mk, NX_mk, endK_mk, endK_mk', add_0]
  refine x_Can r1 q1 fun s2 e2 => ?_
  try simp only [TUP_mk, AGG_mk, HD_mk, NL_mk, TYI_mk, TYB_mk, TYP_mk, TYL_mk, TYS_mk, TYM_mk, SO_mk, NX_mk, endK_mk, endK_mk', add_0]
  refine c_sample fun s3 x3 y3 e3 r3 q3 => ?_
  try simp only [TUP_mk, AGG_mk, HD_mk, NL_mk, TYI_mk, TYB_mk, TYP_mk, TYL_mk, TYS_mk, TYM_mk, SO_mk, NX_mk, endK_mk, endK_mk', add_0]
  refine x_Due r3 q3 fun s4 d4 cd4 e4 w4 => ?_
  try simp only [TUP_mk, AGG_mk, HD_mk, NL_mk, TYI_mk, TYB_mk, TYP_mk, TYL_mk, TYS_mk, TYM_mk, SO_mk, NX_mk, endK_mk, endK_mk', add_0]
  refine c_sample fun s5 x5 y5 e5 r5 q5 => ?_
  try simp only [TUP_mk, AGG_mk, HD_mk, NL_mk, TYI_mk, TYB_mk, TYP_mk, TYL_mk, TYS_mk, TYM_mk, SO_mk, NX_mk, endK_mk, endK_mk', add_0]
  refine NEW_rule fun s6 e6 z6 n6 _ => ?_
  refine x_Wrong (r5.ext e6) (q5.ext e6) (row_new (vs := ints [1, 2, 0, 4, -1]) n6) fun s7 e7 => ?_
  try simp only [TUP_mk, AGG_mk, HD_mk, NL_mk, TYI_mk, TYB_mk, TYP_mk, TYL_mk, TYS_mk, TYM_mk, SO_mk, NX_mk, endK_mk, endK_mk', add_0]
  refine c_sample fun s8 x8 y8 e8 r8 q8 => ?_
  try simp only [TUP_mk, AGG_mk, HD_mk, NL_mk, TYI_mk, TYB_mk, TYP_mk, TYL_mk, TYS_mk, TYM_mk, SO_mk, NX_mk, endK_mk, endK_mk', add_0]
  refine x_Club r8 q8 fun s9 e9 => ?_
  try simp only [TUP_mk, AGG_mk, HD_mk, NL_mk, TYI_mk, TYB_mk, TYP_mk, TYL_mk, TYS_mk, TYM_mk, SO_mk, NX_mk, endK_mk, endK_mk', add_0]
  refine c_sample fun t1 x11 y11 f1 r11 q11 => ?_
  try simp only [TUP_mk, AGG_mk, HD_mk, NL_mk, TYI_mk, TYB_mk, TYP_mk, TYL_mk, TYS_mk, TYM_mk, SO_mk, NX_mk, endK_mk, endK_mk', add_0]
  have g5 := e5.trans (e6.trans (e7.trans (e8.trans (e9.trans f1))))
  refine x_Worth r11 q11 (w4.ext g5) fun t2 w2 cw2 f2 v2 => ?_
  try simp only [TUP_mk, AGG_mk, HD_mk, NL_mk, TYI_mk, TYB_mk, TYP_mk, TYL_mk, TYS_mk, TYM_mk, SO_mk, NX_mk, endK_mk, endK_mk', add_0]
  refine c_sample fun t3 x13 y13 f3 r13 q13 => ?_
  try simp only [TUP_mk, AGG_mk, HD_mk, NL_mk, TYI_mk, TYB_mk, TYP_mk, TYL_mk, TYS_mk, TYM_mk, SO_mk, NX_mk, endK_mk, endK_mk', add_0]
  refine x_Most r13 q13 fun t4 m4 cm4 f4 v4 => ?_
  try simp only [TUP_mk, AGG_mk, HD_mk, NL_mk, TYI_mk, TYB_mk, TYP_mk, TYL_mk, TYS_mk, TYM_mk, SO_mk, NX_mk, endK_mk, endK_mk', add_0]
  refine c_sample fun t5 x15 y15 f5 r15 q15 => ?_
  try simp only [TUP_mk, AGG_mk, HD_mk, NL_mk, TYI_mk, TYB_mk, TYP_mk, TYL_mk, TYS_mk, TYM_mk, SO_mk, NX_mk, endK_mk, endK_mk', add_0]
  refine x_Stay r15 q15 fun t6 f6 => ?_
  try simp only [TUP_mk, AGG_mk, HD_mk, NL_mk, TYI_mk, TYB_mk, TYP_mk, TYL_mk, TYS_mk, TYM_mk, SO_mk, NX_mk, endK_mk, endK_mk', add_0]
  refine c_sample fun t7 x17 y17 f7 r17 q17 => ?_
  try simp only [TUP_mk, AGG_mk, HD_mk, NL_mk, TYI_mk, TYB_mk, TYP_mk, TYL_mk, TYS_mk, TYM_mk, SO_mk, NX_mk, endK_mk, endK_mk', add_0]
  refine x_For r17 q17 fun t8 f8 => ?_
  try simp only [TUP_mk, AGG_mk, HD_mk, NL_mk, TYI_mk, TYB_mk, TYP_mk, TYL_mk, TYS_mk, TYM_mk, SO_mk, NX_mk, endK_mk, endK_mk', add_0]
  have g8 := f5.trans (f6.trans (f7.trans f8))
  have g28 := f3.trans (f4.trans g8)
  have e0t := e1.trans (e2.trans (e3.trans (e4.trans (g5.trans (f2.trans g28)))))
  refine BR_bool (fun hh => by cases hh) (fun _ => ?_)
  unfold J_law13_awake_12
  refine BR_ne (fun hh => absurd rfl hh) (fun _ => ?_)
  refine NEW_rule fun u1 h1 _ n1 _ => ?_
  refine f_Ints (a := [1, 2, 0, 4, 3]) (b := [1, 2, 0, 4, 3]) (w4.ext (g5.trans (f2.trans (g28.trans h1)))) (row_new (vs := ints [1, 2, 0, 4, 3]) n1) rfl rfl (by decide) ?_
  try simp only [TUP_mk, AGG_mk, HD_mk, NL_mk, TYI_mk, TYB_mk, TYP_mk, TYL_mk, TYS_mk, TYM_mk, SO_mk, NX_mk, endK_mk, endK_mk', add_0]
  unfold J_law13_awake_11
  refine BR_bool (fun hh => absurd hh (by decide)) (fun _ => ?_)
  unfold J_law13_awake_10
  refine BR_ne (fun hh => absurd rfl hh) (fun _ => ?_)
  unfold J_law13_awake_9
  refine BR_ne (fun hh => absurd rfl hh) (fun _ => ?_)
  unfold J_law13_awake_8
  refine BR_ne (fun hh => absurd rfl hh) (fun _ => ?_)
  unfold J_law13_awake_7
  refine BR_ne (fun hh => absurd rfl hh) (fun _ => ?_)
  unfold J_law13_awake_6
  refine BR_ne (fun hh => absurd rfl hh) (fun _ => ?_)
  unfold J_law13_awake_5
  refine BR_ne (fun hh => absurd rfl hh) (fun _ => ?_)
  unfold J_law13_awake_4
  refine BR_ne (fun hh => absurd rfl hh) (fun _ => ?_)
  refine NEW_rule fun u2 h2 _ n2 _ => ?_
  refine f_Ints (a := [80, 100, 50, 20, 40]) (b := [80, 100, 50, 20, 40]) (v2.ext (g28.trans (h1.trans h2))) (row_new (vs := ints [80, 100, 50, 20, 40]) n2) rfl rfl (by decide) ?_
  try simp only [TUP_mk, AGG_mk, HD_mk, NL_mk, TYI_mk, TYB_mk, TYP_mk, TYL_mk, TYS_mk, TYM_mk, SO_mk, NX_mk, endK_mk, endK_mk', add_0]
  unfold J_law13_awake_3
  refine BR_bool (fun hh => absurd hh (by decide)) (fun _ => ?_)
  unfold J_law13_awake_2
  refine BR_ne (fun hh => absurd rfl hh) (fun _ => ?_)
  unfold J_law13_awake_1
  refine BR_ne (fun hh => absurd rfl hh) (fun _ => ?_)
  refine BR_eq (fun _ => ?_) (fun hh => absurd rfl hh)
  refine NEW_rule fun u3 h3 _ n3 _ => ?_
  refine f_Ints (a := [0, 2, 1, 4, 3]) (b := [0, 2, 1, 4, 3]) (v4.ext (g8.trans (h1.trans (h2.trans h3)))) (row_new (vs := ints [0, 2, 1, 4, 3]) n3) rfl rfl (by decide) ?_
  try simp only [TUP_mk, AGG_mk, HD_mk, NL_mk, TYI_mk, TYB_mk, TYP_mk, TYL_mk, TYS_mk, TYM_mk, SO_mk, NX_mk, endK_mk, endK_mk', add_0]
  unfold J_law13_awake_0
  refine BR_bool (fun _ => ?_) (fun hh => absurd hh (by decide))
  refine BR_eq (fun _ => ?_) (fun hh => absurd rfl hh)
  refine BR_eq (fun _ => ?_) (fun hh => absurd rfl hh)
  refine BR_eq (fun _ => ?_) (fun hh => absurd rfl hh)
  refine BR_eq (fun _ => ?_) (fun hh => absurd rfl hh)
  exact h u3 (e0t.trans (h1.trans (h2.trans h3)))
theorem c_awake' {s0 : Hp} (e : Ext s0 s) (h : ∀ s', Ext s0 s' → K (.bool true) s') : CALL Pg W F_law13_awake [] K E s := c_awake fun s' e' => h s' (e.trans e')
end
end Go.Proofs.Ytfaeokcbfnlgbaa.G

/- Prize: the document's power, Without, and due without anybody. -/
set_option linter.unusedSimpArgs false
set_option linter.unusedVariables false
set_option maxRecDepth 20000
namespace Go.Proofs.Ytfaeokcbfnlgbaa.G
open Go.V
def wL (T : PT) (m k : Nat) : List Mn := ((T.men.take k).eraseIdx m).map (decP (T.man m).place)
theorem wL_full (T : PT) (m : Nat) : wL T m T.n = (withoutP T m).men := by unfold wL withoutP PT.n; rw [List.take_length]
theorem wL_succ {T : PT} {m k : Nat} (h : k < T.n) : wL T m (k + 1) = if k = m then wL T m k else wL T m k ++ [decP (T.man m).place (T.man k)] := by
  unfold wL
  have hk : T.men.take (k + 1) = T.men.take k ++ [T.man k] := by
    rw [List.take_add_one, List.getElem?_eq_getElem h]
    unfold PT.man
    rw [getD_lt h]; rfl
  have hl : (T.men.take k).length = k := by rw [List.length_take]; exact Nat.min_eq_left (Nat.le_of_lt h)
  rw [hk]
  by_cases e : k = m
  · subst e
    rw [if_pos rfl, List.eraseIdx_append_of_length_le (by omega), hl, Nat.sub_self, List.eraseIdx_of_length_le (l := T.men.take k) (by omega)]
    simp
  · rw [if_neg e]
    by_cases e2 : k < m
    · rw [List.eraseIdx_of_length_le (l := T.men.take k ++ [T.man k]) (by rw [List.length_append, hl]; show k + 1 ≤ m; omega), List.eraseIdx_of_length_le (l := T.men.take k) (by omega), List.map_append]; rfl
    · rw [List.eraseIdx_append_of_lt_length (by omega), List.map_append]; rfl
theorem mnV_app (a : List Mn) (w : Mn) : mnV (a ++ [w]) = mnV a ++ mn4 w := by unfold mnV; rw [List.flatMap_append]; simp
section
variable {W : World} {K : VK} {E : List PanicEntry → Hp → Prop} {s : Hp} {T : PT}
theorem f_power {n : Nat} (h8 : n ≤ 8) (h : K (.int .i64 ((2 ^ n : Nat) : Int)) s) : CALL Pg W F_ref13_power [.int .i64 (n : Nat)] K E s := by
  refine does_ref13_power W n _ s ?_
  unfold T_ref13_power
  refine L_ref13_power_0_rule W _ n (fun n2 n3 t => t = s ∧ ∃ k : Nat, k ≤ n ∧ n3 = k ∧ n2 = ((2 ^ k : Nat) : Int)) (fun _ n3 _ => ((n : Int) - n3).toNat) 1 0 s ⟨rfl, 0, by omega, rfl, rfl⟩ ?_
  rintro n2 n3 t ⟨rfl, k, hk, rfl, rfl⟩
  unfold B_ref13_power_0
  refine BR_dec (fun h1 => ?_) (fun h1 => ?_)
  · have hkn : k < n := by omega
    have hp : (2 : Nat) ^ (k + 1) ≤ 2 ^ 8 := Nat.pow_le_pow_right (by omega) (by omega)
    have hp2 : (2 : Nat) ^ (k + 1) = 2 * 2 ^ k := by rw [Nat.pow_succ]; omega
    refine ⟨rfl, _, _, rfl, ⟨rfl, k + 1, hkn, wrap_succ (by omega), ?_⟩, ms_succ hkn (by omega)⟩
    rw [wrap_i64 (by omega) (by omega), hp2]
    omega
  · have hkn : k = n := by omega
    subst hkn
    exact h
theorem f_Without {x y : Option Addr} {c c' m : Nat} (hv : VdP T) (hm : m < T.n) (hx : MnAt s x T.men) (hy : PzAt s y T.list) (h : ∀ s' q cq, Ext s s' → Fr s.size s' q (withoutP T m).n cq 4 (mnV (withoutP T m).men) → K (.agg #[.slice q (withoutP T m).n cq, .slice y T.z c']) s') :
    CALL Pg W F_ref13_Without [.agg #[.slice x T.n c, .slice y T.z c'], .int .i64 (m : Nat)] K E s := by
  have h8 := hv.n8
  refine does_ref13_Without W x T.n c y T.z c' m _ s ?_
  unfold T_ref13_Without
  refine ne2 fun s1 e1 z1 o1 o2 => ?_
  refine nz2 zc_25 fun s2 e2 z2 q1 q2 => ?_
  refine ⟨_, _, _, e2.cell o1.cell, _, _, _, e2.cell o2.cell, ?_⟩
  refine nw2 zc_25 rfl rfl fun s3 e3 z3 p1 p2 => ?_
  refine WR_own p1 rfl ?_
  have p1w := own_set (v := .slice none 0 0) p1
  have p2w : Own (setC s3 ⟨s2.size, 0, none⟩ (.slice none 0 0)) ⟨s2.size, 1, none⟩ (.slice y T.z c') := own_set_ne (.inr (by show (1 : Nat) ≠ 0; omega)) p2
  have e24 : Ext s2 (setC s3 ⟨s2.size, 0, none⟩ (.slice none 0 0)) := Ext.setC e3 (Nat.le_refl _)
  have hsz4 : s2.size + 1 ≤ (setC s3 ⟨s2.size, 0, none⟩ (.slice none 0 0)).size := by rw [setC_size]; omega
  refine L_ref13_Without_0_rule W _ m ⟨s.size, 0, none⟩ ⟨s1.size, 0, none⟩ ⟨s2.size, 0, none⟩
    (fun n17 t => Ext s2 t ∧ Own t ⟨s2.size, 1, none⟩ (.slice y T.z c') ∧ s2.size + 1 ≤ t.size ∧ ∃ k : Nat, k ≤ T.n ∧ n17 = k ∧ ∃ xo lo co, Own t ⟨s2.size, 0, none⟩ (.slice xo lo co) ∧ Fr (s2.size + 1) t xo lo co 4 (mnV (wL T m k)))
    (fun n17 _ => ((T.n : Int) - n17).toNat) 0 _ ⟨e24, p2w, hsz4, 0, by omega, rfl, none, 0, 0, p1w, Fr.nil _ _ _⟩ ?_
  rintro n17 t ⟨et, p2, hsz, k, hk, rfl, xo, lo, co, p1, hfr⟩
  unfold B_ref13_Without_0
  have e1t := e2.trans et
  have e0t := e1.trans e1t
  refine ⟨_, _, _, e1t.cell o1.cell, ?_⟩
  refine BR_dec (fun h1 => ?_) (fun h1 => ?_)
  · have hkn : k < T.n := by omega
    have hws := wL_succ (m := m) hkn
    have hwl : (wL T m k).length = lo := by
      have := hfr.len
      rw [mnV_len] at this; omega
    have hwk : (wL T m k).length ≤ k := by
      unfold wL
      rw [List.length_map]
      exact Nat.le_trans (List.length_eraseIdx_le _ _) (by rw [List.length_take]; omega)
    refine BR_eq (fun h2 => ?_) (fun h2 => ?_)
    · have hkm : k = m := by omega
      unfold J_ref13_Without_0
      refine ⟨rfl, _, rfl, ⟨et, p2, hsz, k + 1, hkn, wrap_succ (by omega), xo, lo, co, p1, ?_⟩, ms_succ hkn (by omega)⟩
      rw [hws, if_pos hkm]; exact hfr
    · have hkm : ¬ k = m := fun e => h2 (by rw [e])
      rw [if_neg hkm] at hws
      obtain ⟨ax, w0, w1, w2, w3, w4⟩ := man_row (hx.ext e0t) hkn
      refine ⟨_, _, _, e1t.cell o1.cell, ?_⟩
      refine IXS_at w0 hkn ?_
      refine ⟨_, w1, _, w2, _, w3, _, w4, ?_⟩
      refine nw4 zc_48 rfl rfl rfl rfl fun t2 f2 y2 r1 r2 r3 r4 => ?_
      refine ⟨_, r1.cell, ?_⟩
      refine ⟨_, _, _, (e1t.trans f2).cell o1.cell, ?_⟩
      obtain ⟨am, v0, v1, _⟩ := man_row (hx.ext (e0t.trans f2)) hm
      refine IXS_at v0 hm ?_
      refine ⟨_, v1, ?_⟩
      have J1 : ∀ (t3 : Hp) (w : Mn), w = decP (T.man m).place (T.man k) → Ext t t3 → Own t3 ⟨t.size, 0, none⟩ (.int .i64 w.place) → Own t3 ⟨t.size, 1, none⟩ (.int .i64 w.club) → Own t3 ⟨t.size, 2, none⟩ (.bool w.nov) → Own t3 ⟨t.size, 3, none⟩ (.bool w.hor) →
          J_ref13_Without_1 W (endK K E) ⟨s2.size, 0, none⟩ t.size m ⟨s.size, 0, none⟩ ⟨s1.size, 0, none⟩ (fun vs => N_ref13_Without_0 (fun n17 t => Ext s2 t ∧ Own t ⟨s2.size, 1, none⟩ (.slice y T.z c') ∧ s2.size + 1 ≤ t.size ∧ ∃ k : Nat, k ≤ T.n ∧ n17 = k ∧ ∃ xo lo co, Own t ⟨s2.size, 0, none⟩ (.slice xo lo co) ∧ Fr (s2.size + 1) t xo lo co 4 (mnV (wL T m k))) (fun n17 _ => ((T.n : Int) - n17).toNat) k t vs) k t3 := by
        intro t3 w hw f3 r1 r2 r3 r4
        unfold J_ref13_Without_1
        have p1' := f3.own p1
        refine ⟨_, _, _, p1'.cell, _, r1.cell, _, r2.cell, _, r3.cell, _, r4.cell, ?_⟩
        refine NEW_rule fun t4 f4 y4 n4 _ => ?_
        have f04 := f3.trans f4
        refine APP_fr (lo := s2.size + 1) (hfr.ext f04) (Nat.le_trans hsz f04.1) (ws := mn4 w) (row_new (vs := mn4 w) n4) rfl zc_48 rfl (by omega) (by simp [mn4, oneCell]) (by omega) fun t5 x5 c5 k5 hx5 g5 => ?_
        have f5 : Ext s2 t5 := kp_nil (et.trans f04) (fun b hb => by obtain ⟨a, ha, rfl⟩ := hb; have := hfr.fr a ha; omega) k5
        have hnb : ∀ a, xo = some a → ¬ a.block = s2.size := fun a ha hb => by have := hfr.fr a ha; omega
        have p1x : Own t5 ⟨s2.size, 0, none⟩ (.slice xo lo co) := k5.own (fun hb => by obtain ⟨a, ha, hb⟩ := hb; exact hnb a ha hb) (f4.own p1')
        have p2x : Own t5 ⟨s2.size, 1, none⟩ (.slice y T.z c') := k5.own (fun hb => by obtain ⟨a, ha, hb⟩ := hb; exact hnb a ha hb) (f04.own p2)
        refine WR_own p1x rfl ?_
        unfold J_ref13_Without_0
        have hsz5 : s2.size + 1 ≤ t5.size := Nat.le_trans hsz (Nat.le_trans f04.1 k5.1)
        refine ⟨rfl, _, rfl, ⟨Ext.setC f5 (Nat.le_refl _), own_set_ne (.inr (by show (1 : Nat) ≠ 0; omega)) p2x, by rw [setC_size]; exact hsz5, k + 1, hkn, wrap_succ (by omega), x5, lo + 1, c5, own_set p1x, ?_⟩, ms_succ hkn (by omega)⟩
        rw [hws, mnV_app, ← hw]
        exact g5.kp (D := (· = s2.size)) (Kp.setC (Kp.refl _) (.inl rfl)) fun a ha hb => by have := g5.fr a ha; have hb' : a.block = s2.size := hb; omega
      refine BR_dec (fun h3 => ?_) (fun h3 => ?_)
      · refine ⟨_, r1.cell, ?_⟩
        have hp1 := hv.pl k hkn
        have hp2 := hv.pl m hm
        refine (fun hh => by rw [wrap_i64 (by omega) (by omega)]; exact hh : WR _ (.int .i64 ((T.man k).place - 1)) _ _ → WR _ (.int .i64 (IntKind.i64.wrap ((T.man k).place - 1))) _ _) ?_
        refine WR_own r1 rfl ?_
        refine J1 _ { T.man k with place := (T.man k).place - 1 } ?_ (Ext.setC f2 (Nat.le_refl _)) (own_set r1) (own_set_ne (.inr (by show (1 : Nat) ≠ 0; omega)) r2) (own_set_ne (.inr (by show (2 : Nat) ≠ 0; omega)) r3) (own_set_ne (.inr (by show (3 : Nat) ≠ 0; omega)) r4)
        unfold decP
        rw [if_pos h3]
      · refine J1 t2 (T.man k) ?_ f2 r1 r2 r3 r4
        unfold decP
        rw [if_neg h3]
  · have hkn : k = T.n := by omega
    subst hkn
    rw [wL_full] at hfr
    have hlo : lo = (withoutP T m).n := by
      have := hfr.len
      rw [mnV_len] at this
      show lo = (withoutP T m).men.length
      omega
    subst hlo
    refine ⟨_, _, _, p1.cell, _, _, _, p2.cell, ?_⟩
    refine wr2 (a := ⟨s1.size, 0, none⟩) rfl rfl (fun j hj => ?_) fun t2 k2 z2 r0 r1 => ?_
    · match j, hj with
      | 0, _ => exact ⟨_, et.own q1⟩
      | 1, _ => exact ⟨_, et.own q2⟩
    · refine ⟨_, _, _, r0.cell, _, _, _, r1.cell, ?_⟩
      have hs := e1.1
      refine h t2 xo co (ext_kp e0t hs k2) ?_
      exact (hfr.le (by have := e2.1; omega)).kp k2 fun a ha hb => by have := hfr.fr a ha; have hb' : a.block = s1.size := hb; omega
theorem f_due_0 {x y : Option Addr} {c c' : Nat} (h0 : T.n = 0) (h6 : T.z ≤ 6) (hy : PzAt s y T.list) (h : ∀ s' q cq, Ext s s' → Fr s.size s' q T.z cq 1 (ints (List.replicate T.z (-1))) → K (.slice q T.z cq) s') : CALL Pg W F_ref13_due [.agg #[.slice x T.n c, .slice y T.z c']] K E s := by
  refine does_ref13_due W x T.n c y T.z c' _ s ?_
  unfold T_ref13_due
  refine ne2 fun s1 e1 z1 o1 o2 => ?_
  refine L_ref13_due_0_rule W _ ⟨s.size, 0, none⟩ (fun x l c n t => Ext s1 t ∧ ∃ k : Nat, k ≤ T.z ∧ n = k ∧ Fr s1.size t x l c 1 (ints (List.replicate k (-1)))) (fun _ _ _ n _ => (T.z - n).toNat) none 0 0 0 s1 ⟨Ext.refl _, 0, by omega, rfl, Fr.nil _ _ _⟩ ?_
  rintro qx ql qc n t ⟨et, k, hk, rfl, hfr⟩
  have hlen : ql = k := by have := hfr.len; rw [ints_len, List.length_replicate] at this; omega
  unfold B_ref13_due_0
  refine ⟨_, _, _, et.cell o2.cell, ?_⟩
  generalize hnx : (fun vs : List Value => _) = nx
  refine BR_dec (fun h1 => ?_) (fun h1 => ?_)
  · have hkz : k < T.z := by omega
    refine L_ref13_due_1_rule W _ nx ⟨s.size, 0, none⟩ qx ql qc k (fun w i t' => t' = t ∧ w = -1 ∧ i = 1) (fun _ _ _ => 0) (-1) 1 t ⟨rfl, rfl, rfl⟩ ?_
    rintro w i t' ⟨rfl, rfl, rfl⟩
    unfold B_ref13_due_1
    refine ⟨_, _, _, et.cell o1.cell, ?_⟩
    refine BR_dec (fun h2 => absurd h2 (by omega)) (fun h2 => ?_)
    unfold J_ref13_due_4
    refine BR_ff rfl ?_
    refine ne1 fun t3 e3' z3' q3 => ?_
    have et3 := et.trans e3'
    refine APP_fr (lo := s1.size) (hfr.ext e3') et3.1 (ws := [.int .i64 (-1)]) (fun i hi => ⟨⟨t'.size, 0, none⟩, rfl, ?_⟩) rfl zc_3 rfl (by omega) (by simp [oneCell]) (by omega) fun t4 x4 c4 k4 hx4 g4 => ?_
    · have hi0 : i = 0 := by simp at hi; omega
      subst hi0; exact q3.cell
    have e4 : Ext s1 t4 := kp_nil et3 (fun b hb => by obtain ⟨y, hy, rfl⟩ := hb; exact hfr.fr y hy) k4
    rw [← hnx]
    refine ⟨rfl, _, _, _, _, rfl, ⟨e4, k + 1, hkz, wrap_succ (by omega), ?_⟩, ms_succ hkz (by omega)⟩
    have e : List.replicate (k + 1) (-1 : Int) = List.replicate k (-1) ++ [-1] := List.replicate_succ'
    rw [e, ints_app]
    exact g4
  · have hkz : k = T.z := by omega
    subst hkz
    subst hlen
    exact h t qx qc (e1.trans et) (hfr.le e1.1)
end
end Go.Proofs.Ytfaeokcbfnlgbaa.G

/- Prize: the document's Moved, For. -/
set_option linter.unusedSimpArgs false
set_option linter.unusedVariables false
set_option maxRecDepth 20000
namespace Go.Proofs.Ytfaeokcbfnlgbaa.G
open Go.V
def movL (T : PT) (m : Nat) (pl : Int) (k : Nat) : List Mn := (List.range T.n).map fun i => if i < k then { T.man i with place := movN (T.man m).place pl (T.man i).place } else T.man i
theorem movL_len (T : PT) (m : Nat) (pl : Int) (k : Nat) : (movL T m pl k).length = T.n := by simp [movL]
theorem movL_get (T : PT) (m : Nat) (pl : Int) (k i : Nat) (h : i < (movL T m pl k).length) : (movL T m pl k)[i] = if i < k then { T.man i with place := movN (T.man m).place pl (T.man i).place } else T.man i := by simp [movL]
theorem movL_0 (T : PT) (m : Nat) (pl : Int) : movL T m pl 0 = T.men := by
  refine List.ext_getElem (movL_len T m pl 0) fun i g1 g2 => ?_
  rw [movL_get, if_neg (by omega)]
  exact getD_lt g2
theorem movL_succ {T : PT} {m k : Nat} {pl : Int} (hk : k < (movL T m pl k).length) : movL T m pl (k + 1) = (movL T m pl k).set k { (movL T m pl k)[k] with place := movN (T.man m).place pl (T.man k).place } := by
  refine List.ext_getElem (by rw [List.length_set, movL_len, movL_len]) fun j g1 g2 => ?_
  rw [List.getElem_set]
  by_cases e : k = j
  · subst e
    rw [if_pos rfl, movL_get, movL_get, if_pos (by omega), if_neg (by omega)]
  · rw [if_neg e, movL_get, movL_get]
    by_cases q : j < k
    · rw [if_pos (by omega), if_pos q]
    · rw [if_neg (by omega), if_neg q]
theorem movL_same {T : PT} {m k : Nat} {pl : Int} (hk : k < (movL T m pl k).length) (h : movN (T.man m).place pl (T.man k).place = (T.man k).place) : movL T m pl (k + 1) = movL T m pl k := by
  rw [movL_succ hk, h]
  have : (movL T m pl k)[k] = T.man k := by rw [movL_get, if_neg (by omega)]
  have e : ({ (movL T m pl k)[k] with place := (T.man k).place } : Mn) = (movL T m pl k)[k] := by rw [this]
  rw [e]
  exact List.set_getElem_self hk
theorem movL_full {T : PT} {m : Nat} {pl : Int} (hm : m < (movL T m pl T.n).length) : (movL T m pl T.n).set m { (movL T m pl T.n)[m] with place := pl } = (movedP T m pl).men := by
  refine List.ext_getElem (by rw [List.length_set, movL_len]; simp [movedP]) fun j g1 g2 => ?_
  have hj : j < T.n := by rw [List.length_set, movL_len] at g1; exact g1
  have h1 : (movedP T m pl).men[j] = { T.man j with place := newP T m pl j } := by simp [movedP]
  rw [h1, List.getElem_set]
  by_cases e : m = j
  · subst e
    rw [if_pos rfl, movL_get, if_pos hj]
    unfold newP
    rw [if_pos rfl]
  · rw [if_neg e, movL_get, if_pos hj]
    unfold newP
    rw [if_neg (fun e' => e e'.symm)]
section
variable {W : World} {K : VK} {E : List PanicEntry → Hp → Prop} {s : Hp} {T : PT}
theorem f_Moved {x y : Option Addr} {c c' m : Nat} {pl : Int} (hv : VdP T) (hm : m < T.n) (h1 : 1 ≤ pl) (h2 : pl ≤ T.n) (hx : MnAt s x T.men) (hy : PzAt s y T.list) (h : ∀ s' q cq, Ext s s' → Fr s.size s' q (movedP T m pl).n cq 4 (mnV (movedP T m pl).men) → K (.agg #[.slice q (movedP T m pl).n cq, .slice y T.z c']) s') :
    CALL Pg W F_ref13_Moved [.agg #[.slice x T.n c, .slice y T.z c'], .int .i64 (m : Nat), .int .i64 pl] K E s := by
  have h8 := hv.n8
  refine does_ref13_Moved W x T.n c y T.z c' m pl _ s ?_
  unfold T_ref13_Moved
  refine ne2 fun s1 e1 z1 o1 o2 => ?_
  refine nz2 zc_25 fun s2 e2 z2 q1 q2 => ?_
  refine ⟨_, _, _, e2.cell o1.cell, _, _, _, e2.cell o2.cell, ?_⟩
  refine nw2 zc_25 rfl rfl fun s3 e3 z3 p1 p2 => ?_
  refine NEW_rule fun s4 e4 z4 _ _ => ?_
  have e24 := e3.trans e4
  have e14 := e2.trans e24
  have e04 := e1.trans e14
  refine ⟨_, _, _, e14.cell o1.cell, ?_⟩
  refine APP_fr (lo := s3.size) (vs := []) ⟨⟨Nat.le_refl _, fun i hi => by omega⟩, rfl, fun a ha => by cases ha; exact Nat.le_refl _, by omega⟩ e4.1 (ws := mnV T.men) (mn_row (hx.ext e04)) (mnV_len T.men) zc_48 rfl (by omega) (mnV_one T.men) (by show 0 + T.n ≤ _; omega) fun s5 xa ca k5 hx5 g5 => ?_
  rw [List.nil_append] at g5
  have e35 : Ext s3 s5 := kp_nil e4 (fun b hb => by obtain ⟨a, ha, rfl⟩ := hb; cases ha; exact Nat.le_refl _) k5
  have p1' := e35.own p1
  have p2' := e35.own p2
  refine WR_own (a := ⟨s2.size, 0, none⟩) p1' rfl ?_
  have hzn : 0 + T.n = T.n := Nat.zero_add _
  rw [hzn] at g5 ⊢
  have p1w := own_set (v := .slice xa T.n ca) p1'
  have p2w : Own (setC s5 ⟨s2.size, 0, none⟩ (.slice xa T.n ca)) ⟨s2.size, 1, none⟩ (.slice y T.z c') := own_set_ne (.inr (by show (1 : Nat) ≠ 0; omega)) p2'
  have e2w : Ext s2 (setC s5 ⟨s2.size, 0, none⟩ (.slice xa T.n ca)) := Ext.setC (e3.trans e35) (Nat.le_refl _)
  have gw : Fr s3.size (setC s5 ⟨s2.size, 0, none⟩ (.slice xa T.n ca)) xa T.n ca 4 (mnV T.men) := g5.kp (D := (· = s2.size)) (Kp.setC (Kp.refl _) (.inl rfl)) fun a ha hb => by have := g5.fr a ha; have hb' : a.block = s2.size := hb; omega
  generalize hs6 : setC s5 ⟨s2.size, 0, none⟩ (.slice xa T.n ca) = s6 at *
  have e16 := e2.trans e2w
  have e06 := e1.trans e16
  refine ⟨_, _, _, e16.cell o1.cell, ?_⟩
  obtain ⟨am, v0, v1, _⟩ := man_row (hx.ext e06) hm
  refine IXS_at v0 hm ?_
  refine ⟨_, v1, ?_⟩
  have hpm := hv.pl m hm
  refine L_ref13_Moved_0_rule W _ m pl ⟨s1.size, 0, none⟩ ⟨s2.size, 0, none⟩ (T.man m).place
    (fun n t => Ext s2 t ∧ Own t ⟨s2.size, 0, none⟩ (.slice xa T.n ca) ∧ Own t ⟨s2.size, 1, none⟩ (.slice y T.z c') ∧ ∃ k : Nat, k ≤ T.n ∧ n = k ∧ Fr s3.size t xa T.n ca 4 (mnV (movL T m pl k)))
    (fun n _ => ((T.n : Int) - n).toNat) 0 s6 ⟨e2w, p1w, p2w, 0, by omega, rfl, by rw [movL_0]; exact gw⟩ ?_
  rintro n t ⟨et, r1, r2, k, hk, rfl, hfr⟩
  unfold B_ref13_Moved_0
  -- a place is written
  have wr : ∀ (i : Nat) (v : Int) (l : List Mn) (hi : i < l.length) (u : Hp) (KK : Hp → Prop), Ext s2 u → Own u ⟨s2.size, 0, none⟩ (.slice xa T.n ca) → Own u ⟨s2.size, 1, none⟩ (.slice y T.z c') → Fr s3.size u xa T.n ca 4 (mnV l) →
      (∀ u', Ext s2 u' → Own u' ⟨s2.size, 0, none⟩ (.slice xa T.n ca) → Own u' ⟨s2.size, 1, none⟩ (.slice y T.z c') → Fr s3.size u' xa T.n ca 4 (mnV (l.set i { l[i] with place := v })) → KK u') → ∀ a, xa = some a → WR (Addr.add (Addr.add (a.add (i * 4)) 0) 0) (.int .i64 v) KK u := by
    intro i v l hi u KK eu a1 a2 hf hK a ha
    subst ha
    have hi4 : i * 4 < (mnV l).length := by rw [mnV_len]; omega
    refine WR_own (hf.buf.at hi4) rfl ?_
    have hset := hf.buf.set (v := .int .i64 v) hi4
    have hfa := hf.fr a rfl
    have hne : (⟨s2.size, 0, none⟩ : Addr).block ≠ (a.add (i * 4)).block := by rw [add_blk]; show s2.size ≠ _; omega
    refine hK _ (Ext.setC eu (by show s2.size ≤ (a.add (i * 4)).block; rw [add_blk]; omega)) (own_set_ne (.inl hne) a1) (own_set_ne (.inl hne) a2) ?_
    rw [← mnV_set _ _ _ hi]
    exact ⟨hset, by rw [List.length_set]; exact hf.len, hf.fr, hf.cap⟩
  refine ⟨_, _, _, r1.cell, ?_⟩
  refine BR_dec (fun g1 => ?_) (fun g1 => ?_)
  · have hkn : k < T.n := by omega
    have hkl : k < (movL T m pl k).length := by rw [movL_len]; exact hkn
    have hat : (movL T m pl k)[k] = T.man k := by rw [movL_get, if_neg (by omega)]
    have hpk := hv.pl k hkn
    obtain ⟨b, hb, cb⟩ := row_get hfr.row (mnV_get (movL T m pl k) k hkl).1
    rw [hat] at cb
    refine ⟨_, _, _, r1.cell, ?_⟩
    refine IXS_at hb hkn ?_
    refine ⟨_, cb, ?_⟩
    generalize hnx : (fun vs => N_ref13_Moved_0 _ _ _ t vs) = nx
    have J0 : ∀ u, Ext s2 u → Own u ⟨s2.size, 0, none⟩ (.slice xa T.n ca) → Own u ⟨s2.size, 1, none⟩ (.slice y T.z c') → Fr s3.size u xa T.n ca 4 (mnV (movL T m pl (k + 1))) → J_ref13_Moved_0 W (endK K E) m pl ⟨s1.size, 0, none⟩ ⟨s2.size, 0, none⟩ (T.man m).place nx k u := by
      intro u eu a1 a2 hf
      unfold J_ref13_Moved_0
      rw [← hnx]
      exact ⟨rfl, _, rfl, ⟨eu, a1, a2, k + 1, hkn, wrap_succ (by omega), hf⟩, ms_succ hkn (by omega)⟩
    by_cases hA : (T.man k).place > (T.man m).place ∧ (T.man k).place ≤ pl
    · refine BR_tt (decide_eq_true hA.1) ?_
      unfold J_ref13_Moved_3
      refine BR_tt (decide_eq_true hA.2) ?_
      refine ⟨_, _, _, r1.cell, ?_⟩
      refine IXS_at hb hkn ?_
      refine ⟨_, cb, ?_⟩
      refine IXS_at hb hkn ?_
      refine (fun hh => by rw [wrap_i64 (by omega) (by omega)]; exact hh : WR _ (.int .i64 ((T.man k).place - 1)) _ _ → WR _ (.int .i64 (IntKind.i64.wrap ((T.man k).place - 1))) _ _) ?_
      refine wr k _ (movL T m pl k) hkl t _ et r1 r2 hfr (fun u eu a1 a2 hf => ?_) b hb
      unfold J_ref13_Moved_2
      refine BR_ff (decide_eq_false (by omega)) ?_
      unfold J_ref13_Moved_1
      refine BR_ff rfl ?_
      refine J0 u eu a1 a2 ?_
      rw [movL_succ hkl]
      have : movN (T.man m).place pl (T.man k).place = (T.man k).place - 1 := by unfold movN; rw [if_pos hA]
      rw [this]; exact hf
    · have J2 : J_ref13_Moved_2 W (endK K E) (T.man k).place (T.man m).place pl ⟨s2.size, 0, none⟩ k m ⟨s1.size, 0, none⟩ nx t := by
        unfold J_ref13_Moved_2
        by_cases hB : (T.man k).place < (T.man m).place ∧ (T.man k).place ≥ pl
        · refine BR_tt (decide_eq_true hB.1) ?_
          unfold J_ref13_Moved_1
          refine BR_tt (decide_eq_true hB.2) ?_
          refine ⟨_, _, _, r1.cell, ?_⟩
          refine IXS_at hb hkn ?_
          refine ⟨_, cb, ?_⟩
          refine IXS_at hb hkn ?_
          refine (fun hh => by rw [wrap_i64 (by omega) (by omega)]; exact hh : WR _ (.int .i64 ((T.man k).place + 1)) _ _ → WR _ (.int .i64 (IntKind.i64.wrap ((T.man k).place + 1))) _ _) ?_
          refine wr k _ (movL T m pl k) hkl t _ et r1 r2 hfr (fun u eu a1 a2 hf => ?_) b hb
          refine J0 u eu a1 a2 ?_
          rw [movL_succ hkl]
          have : movN (T.man m).place pl (T.man k).place = (T.man k).place + 1 := by unfold movN; rw [if_neg hA, if_pos hB]
          rw [this]; exact hf
        · have hsame : movN (T.man m).place pl (T.man k).place = (T.man k).place := by unfold movN; rw [if_neg hA, if_neg hB]
          have fin : J_ref13_Moved_1 W (endK K E) false ⟨s2.size, 0, none⟩ k m pl ⟨s1.size, 0, none⟩ (T.man m).place nx t := by
            unfold J_ref13_Moved_1
            refine BR_ff rfl ?_
            refine J0 t et r1 r2 ?_
            rw [movL_same hkl hsame]; exact hfr
          refine BR_dec (fun hb1 => ?_) (fun _ => fin)
          have : decide ((T.man k).place ≥ pl) = false := decide_eq_false (fun hh => hB ⟨hb1, hh⟩)
          rw [this]; exact fin
      have J3 : J_ref13_Moved_3 W (endK K E) false ⟨s2.size, 0, none⟩ k (T.man k).place (T.man m).place pl m ⟨s1.size, 0, none⟩ nx t := by
        unfold J_ref13_Moved_3
        exact BR_ff rfl J2
      refine BR_dec (fun hb1 => ?_) (fun _ => J3)
      have : decide ((T.man k).place ≤ pl) = false := decide_eq_false (fun hh => hA ⟨hb1, hh⟩)
      rw [this]; exact J3
  · have hkn : k = T.n := by omega
    subst hkn
    refine ⟨_, _, _, r1.cell, ?_⟩
    have hml : m < (movL T m pl T.n).length := by rw [movL_len]; exact hm
    obtain ⟨b, hb, cb⟩ := row_get hfr.row (mnV_get (movL T m pl T.n) m hml).1
    refine IXS_at hb hm ?_
    refine wr m pl (movL T m pl T.n) hml t _ et r1 r2 hfr (fun u eu a1 a2 hf => ?_) b hb
    rw [movL_full hml] at hf
    refine ⟨_, _, _, a1.cell, _, _, _, a2.cell, ?_⟩
    refine wr2 (a := ⟨s1.size, 0, none⟩) rfl rfl (fun j hj => ?_) fun u2 k2 z2' b0 b1 => ?_
    · match j, hj with
      | 0, _ => exact ⟨_, eu.own q1⟩
      | 1, _ => exact ⟨_, eu.own q2⟩
    · refine ⟨_, _, _, b0.cell, _, _, _, b1.cell, ?_⟩
      have hs := e1.1
      have hle : s.size ≤ s3.size := by have := e2.1; have := e3.1; omega
      have := h u2 xa ca (ext_kp (e1.trans (e2.trans eu)) hs k2) (by
        rw [moved_n]
        exact (hf.le hle).kp k2 fun a ha hb => by have := hf.fr a ha; have hb' : a.block = s1.size := hb; have := e2.1; have := e3.1; omega)
      rw [moved_n] at this
      exact this
theorem f_For {x y : Option Addr} {c c' : Nat} {m : Int} (h4 : T.n ≤ 100000) (hx : MnAt s x T.men) (hy : PzAt s y T.list) (h : ∀ s', Ext s s' → K (.tuple #[.int .i64 (forR T m).1, .int .i64 (forR T m).2]) s') :
    CALL Pg W F_ref13_For [.agg #[.slice x T.n c, .slice y T.z c'], .int .i64 m] K E s := by
  refine does_ref13_For W x T.n c y T.z c' m _ s ?_
  unfold T_ref13_For
  refine ne2 fun s1 e1 z1 o1 o2 => ?_
  have rd : ∀ v, Ext s1 v → (RDL (Addr.add ⟨s.size, 0, none⟩ 0) fun x33 l34 c35 => RDL (Addr.add ⟨s.size, 0, none⟩ 1) fun x36 l37 c38 => fun _ => ((.agg #[(.slice x33 l34 c35), (.slice x36 l37 c38)]) : Value) = (.agg #[(.slice x T.n c), (.slice y T.z c')])) v := fun v ev => ⟨_, _, _, ev.cell o1.cell, _, _, _, ev.cell o2.cell, rfl⟩
  refine ⟨_, _, _, o1.cell, _, _, _, o2.cell, _, _, _, o1.cell, _, _, _, o2.cell, ?_⟩
  refine f_Man h4 fun s2 e2 => ?_
  try simp only [TUP_mk, AGG_mk, HD_mk, NL_mk, TYI_mk, TYB_mk, TYP_mk, TYL_mk, TYS_mk, TYM_mk, SO_mk, NX_mk, endK_mk, endK_mk', add_0]
  refine ANDS_i (rd s2 e2) ?_
  have e02 := e1.trans e2
  refine f_check (hx.ext e02) (hy.ext e02) fun s3 e3 => ?_
  try simp only [TUP_mk, AGG_mk, HD_mk, NL_mk, TYI_mk, TYB_mk, TYP_mk, TYL_mk, TYS_mk, TYM_mk, SO_mk, NX_mk, endK_mk, endK_mk', add_0]
  have e13 := e2.trans e3
  have e03 := e1.trans e13
  have hdec : decide (0 ≤ m ∧ m < T.n) = isM T m := rfl
  rw [hdec]
  cases hok : okP T with
  | false =>
    refine BR_ne (fun _ => ?_) (fun h3 => by cases h3)
    have := h s3 e03
    unfold forR at this
    rw [hok] at this
    exact this
  | true =>
    cases hM : isM T m with
    | false =>
      refine BR_ne (fun _ => ?_) (fun h3 => by cases h3)
      have := h s3 e03
      unfold forR at this
      rw [if_pos hok, hM] at this
      exact this
    | true =>
      refine BR_ne (fun h3 => absurd rfl h3) (fun _ => ?_)
      have hv := okP_vd hok
      have h8 := hv.n8
      have hm' := of_decide_eq_true hM
      obtain ⟨j, rfl⟩ := Int.eq_ofNat_of_zero_le hm'.1
      have hj : j < T.n := by omega
      have hR : forR T (j : Int) = forL T j T.n := by unfold forR; rw [if_pos hok, if_pos hM, toNat_nat]
      rw [hR] at h
      refine ⟨_, _, _, e13.cell o1.cell, ?_⟩
      refine L_ref13_For_0_rule W _ j ⟨s.size, 0, none⟩ (fun n36 n37 n38 t => n36 = 0 ∧ n37 = 0 ∧ Ext s3 t ∧ ∃ k : Nat, k ≤ T.n ∧ n38 = k ∧ forL T j T.n = forL T j k) (fun _ _ n38 _ => n38.toNat) 0 0 T.n s3 ⟨rfl, rfl, Ext.refl _, T.n, Nat.le_refl _, rfl, rfl⟩ ?_
      rintro n36 n37 n38 t ⟨rfl, rfl, et, k, hk, rfl, hfl⟩
      unfold B_ref13_For_0
      have e1t := e13.trans et
      have e0t := e1.trans e1t
      refine BR_dec (fun g1 => ?_) (fun g1 => ?_)
      · obtain ⟨q, rfl⟩ : ∃ q, k = q + 1 := ⟨k - 1, by omega⟩
        refine ⟨_, _, _, e1t.cell o1.cell, _, _, _, e1t.cell o2.cell, ?_⟩
        refine f_Moved hv hj (by omega) (by omega) (hx.ext e0t) (hy.ext e0t) fun t1 p cp f1 r1 => ?_
        try simp only [TUP_mk, AGG_mk, HD_mk, NL_mk, TYI_mk, TYB_mk, TYP_mk, TYL_mk, TYS_mk, TYM_mk, SO_mk, NX_mk, endK_mk, endK_mk', add_0]
        have hokM := ok_moved (pl := ((q + 1 : Nat) : Int)) hok hj (by omega) (by omega)
        have hvM := okP_vd hokM
        have h6M := hvM.z6
        refine f_due (T := movedP T j ((q + 1 : Nat) : Int)) hokM (row_mn r1.row) (hy.ext (e0t.trans f1)) fun t2 d cd f2 r2 => ?_
        try simp only [TUP_mk, AGG_mk, HD_mk, NL_mk, TYI_mk, TYB_mk, TYP_mk, TYL_mk, TYS_mk, TYM_mk, SO_mk, NX_mk, endK_mk, endK_mk', add_0]
        have hdl : (manL (dueP (movedP T j ((q + 1 : Nat) : Int)))).length = (movedP T j ((q + 1 : Nat) : Int)).z := by unfold manL dueP; simp [dueL_len]
        refine f_has r2.row hdl.symm (by omega) ?_
        try simp only [TUP_mk, AGG_mk, HD_mk, NL_mk, TYI_mk, TYB_mk, TYP_mk, TYL_mk, TYS_mk, TYM_mk, SO_mk, NX_mk, endK_mk, endK_mk', add_0]
        have hstep : forL T j (q + 1) = if getsP T j (q + 1) then (((q + 1 : Nat) : Int), 0) else forL T j q := rfl
        refine BR_bool (fun hg => ?_) (fun hg => ?_)
        · have := h t2 (e0t.trans (f1.trans f2))
          rw [hfl, hstep, if_pos (show getsP T j (q + 1) = true from hg)] at this
          exact this
        · have hw : IntKind.i64.wrap (((q + 1 : Nat) : Int) - 1) = (q : Nat) := by rw [wrap_i64 (by omega) (by omega)]; omega
          have hg' : ¬ getsP T j (q + 1) = true := by rw [show getsP T j (q + 1) = false from hg]; simp
          rw [if_neg hg'] at hstep
          refine ⟨_, _, _, rfl, ⟨rfl, rfl, et.trans (f1.trans f2), q, by omega, hw, ?_⟩, ?_⟩
          · rw [hfl, hstep]
          · rw [hw]; show ((q : Nat) : Int).toNat < ((q + 1 : Nat) : Int).toNat; omega
      · have hk0 : k = 0 := by omega
        subst hk0
        have := h t e0t
        rw [hfl] at this
        exact this
end
end Go.Proofs.Ytfaeokcbfnlgbaa.G

/- Prize: contracts for valid prizes. -/
set_option linter.unusedSimpArgs false
set_option linter.unusedVariables false
set_option maxRecDepth 20000
namespace Go.Proofs.Ytfaeokcbfnlgbaa.G
open Go.V
theorem due_len (T : PT) : (manL (dueP T)).length = T.z := by unfold manL dueP; rw [List.length_map, dueL_len]
section
variable {W : World} {K : VK} {E : List PanicEntry → Hp → Prop} {s : Hp} {T : PT}
theorem c_DueV {x y : Option Addr} {c c' : Nat} (hok : okP T = true) (hx : MnAt s x T.men) (hy : PzAt s y T.list) (h : ∀ s' q cq, Ext s s' → Fr s.size s' q T.z cq 1 (ints (manL (dueP T))) → K (.tuple #[.slice q T.z cq, .int .i64 0]) s') :
    CALL Pg W F_prize_Due [.agg #[.slice x T.n c, .slice y T.z c']] K E s := by
  refine c_Due hx hy fun s' q cq e f => ?_
  have hD : dueR T = (manL (dueP T), 0) := by unfold dueR; rw [if_pos hok]
  have hl := due_len T
  rw [hD] at f ⊢
  simp only [hl] at f ⊢
  exact h s' q cq e f
theorem c_DueN {x y : Option Addr} {c c' : Nat} (hok : okP T = false) (hx : MnAt s x T.men) (hy : PzAt s y T.list) (h : ∀ s' q cq, Ext s s' → K (.tuple #[.slice q 0 cq, .int .i64 1]) s') :
    CALL Pg W F_prize_Due [.agg #[.slice x T.n c, .slice y T.z c']] K E s := by
  refine c_Due hx hy fun s' q cq e f => ?_
  have hD : dueR T = ([], 1) := by unfold dueR; rw [hok]; rfl
  rw [hD]
  exact h s' q cq e
theorem c_ClubN {x y : Option Addr} {c c' : Nat} (hok : okP T = false) (hx : MnAt s x T.men) (hy : PzAt s y T.list) (h : ∀ s', Ext s s' → K (.tuple #[.int .i64 0, .int .i64 0, .int .i64 1]) s') :
    CALL Pg W F_prize_Club [.agg #[.slice x T.n c, .slice y T.z c']] K E s := by
  refine c_Club hx hy fun s' e => ?_
  have hD : clubR T = (0, 0, 1) := by unfold clubR; rw [hok]; rfl
  rw [hD]
  exact h s' e
theorem c_ClubV {x y : Option Addr} {c c' : Nat} (hok : okP T = true) (hx : MnAt s x T.men) (hy : PzAt s y T.list) (h : ∀ s', Ext s s' → K (.tuple #[.int .i64 (bestP T).1, .int .i64 (bestP T).2, .int .i64 (if bestP T = (0, 0) then 4 else 0)]) s') :
    CALL Pg W F_prize_Club [.agg #[.slice x T.n c, .slice y T.z c']] K E s := by
  refine c_Club hx hy fun s' e => ?_
  have hD : clubR T = ((bestP T).1, (bestP T).2, if bestP T = (0, 0) then 4 else 0) := by
    unfold clubR
    rw [if_pos hok]
    by_cases hb : bestP T = (0, 0)
    · rw [if_pos hb, if_pos hb, hb]
    · rw [if_neg hb, if_neg hb]
  rw [hD]
  exact h s' e
theorem c_CanV {x y : Option Addr} {c c' m z : Nat} (hok : okP T = true) (hm : m < T.n) (hz : z < T.z) (hx : MnAt s x T.men) (hy : PzAt s y T.list) (h : ∀ s', Ext s s' → K (.tuple #[.bool (canP T m z), .int .i64 0]) s') :
    CALL Pg W F_prize_Can [.agg #[.slice x T.n c, .slice y T.z c'], .int .i64 (m : Nat), .int .i64 (z : Nat)] K E s := by
  refine c_Can hx hy fun s' e => ?_
  have h1 : isM T (m : Nat) = true := decide_eq_true (by omega)
  have h2 : isZ T (z : Nat) = true := decide_eq_true (by omega)
  have hD : canR T (m : Nat) (z : Nat) = (canP T m z, 0) := by unfold canR; rw [if_pos hok, h1, h2, toNat_nat, toNat_nat]; rfl
  rw [hD]
  exact h s' e
theorem c_WrongL {x y q : Option Addr} {c c' cq l : Nat} {ds : List Int} (hl : l = ds.length) (hx : MnAt s x T.men) (hy : PzAt s y T.list) (hq : RowAt s q (ints ds)) (h : ∀ s', Ext s s' → K (.tuple #[.int .i64 (wrongR T ds).1, .int .i64 (wrongR T ds).2.1, .int .i64 (wrongR T ds).2.2]) s') :
    CALL Pg W F_prize_Wrong [.agg #[.slice x T.n c, .slice y T.z c'], .slice q l cq] K E s := by
  subst hl; exact c_Wrong hx hy hq h
theorem c_WorthL {x y q : Option Addr} {c c' cq l : Nat} {ds : List Int} (hl : l = ds.length) (hx : MnAt s x T.men) (hy : PzAt s y T.list) (hq : RowAt s q (ints ds)) (h : ∀ s' w cw, Ext s s' → Fr s.size s' w (worthR T ds).1.length cw 1 (ints (worthR T ds).1) → K (.tuple #[.slice w (worthR T ds).1.length cw, .int .i64 (worthR T ds).2.1, .int .i64 (worthR T ds).2.2]) s') :
    CALL Pg W F_prize_Worth [.agg #[.slice x T.n c, .slice y T.z c'], .slice q l cq] K E s := by
  subst hl; exact c_Worth hx hy hq h
end
theorem canC_no {T : PT} {k z : Nat} (hb : bestP T = (0, 0)) (h4 : (T.pz z).kind = 4) : canC T k z = false := by
  unfold canC canP canK
  rw [h4, hb]
  by_cases hc : (T.man k).club = 0 <;> simp [hc]
theorem canC_not4 {T : PT} {k z : Nat} (h4 : ¬ (T.pz z).kind = 4) : canC T k z = canP T k z := by
  unfold canC
  rw [decide_eq_true h4]; simp
theorem canC_4 {T : PT} {k z : Nat} (h4 : (T.pz z).kind = 4) : canC T k z = (canP T k z && ((T.man k).club == (bestP T).1)) := by
  unfold canC
  rw [h4]; simp
end Go.Proofs.Ytfaeokcbfnlgbaa.G

/- More of the functions' shallow texts, by gen.py. -/
set_option linter.unusedVariables false
set_option maxRecDepth 100000
namespace Go.Proofs.Ytfaeokcbfnlgbaa.G
open Go.V
def an_10 : Nat → Ann := fun b => match b with
  | 0 => { ms := [6, 11], ks := [.b, .i .i64], us := [2, 3, 8, 9, 10, 108], rt := false, ex := [] }
  | 2 => { ms := [12, 79], ks := [.b, .i .i64], us := [2, 6, 8, 10, 77, 78, 108], rt := false, ex := [] }
  | _ => {}
abbrev rv_10 : List ResultVar := [.tmp 6]
abbrev rs_10 : List Nat := [108, 6]
def L_law13_PrizeFor_0 (W : World) (R : Ending → Hp → Prop) (zn0 : Int) (za1 : Addr) (zn2 : Int) (zn3 : Int) (za4 : Addr) (b57 : Bool) (n58 : Int) : Hp → Prop :=
  LOOPN [.b, .i .i64] (fun ys next s => ∀ j : Tm, vc Pg W 108 rs_10 an_10 false (sub (bodyOf Try.f10) [1, 1, 1, 1, 1, 1, 0, 1, 0, 0]) 0 (KLoop [6, 11] [2, 3, 8, 9, 10, 108] [(.int .u8 zn0), (.pointer (some za1)), (.int .i64 zn2), (.int .i64 zn3), (.func (.func 37) #[] #[(.pointer (some za1)), (.pointer (some za4))]), (.tuple #[])] next (KBlk 0 (KS Pg W 108 rs_10 an_10 false (sub (bodyOf Try.f10) [1, 1, 1, 1, 1, 1, 1]) 0 (fin Pg W 108 rv_10 R)))) (known [6, 11] ys (known [2, 3, 8, 9, 10, 108] [(.int .u8 zn0), (.pointer (some za1)), (.int .i64 zn2), (.int .i64 zn3), (.func (.func 37) #[] #[(.pointer (some za1)), (.pointer (some za4))]), (.tuple #[])] j)) s) [(.bool b57), (.int .i64 n58)]
def L_law13_PrizeFor_1 (W : World) (R : Ending → Hp → Prop) (zn0 : Int) (zb1 : Bool) (zn2 : Int) (za3 : Addr) (za4 : Addr) (zp5 : Option Addr) (zl6 : Nat) (zl7 : Nat) (zn8 : Int) (b71 : Bool) (n72 : Int) : Hp → Prop :=
  LOOPN [.b, .i .i64] (fun ys next s => ∀ j : Tm, vc Pg W 108 rs_10 an_10 false (sub (bodyOf Try.f10) [1, 1, 1, 1, 1, 1, 1, 1, 1, 0, 1, 0, 0]) 2 (KLoop [12, 79] [2, 6, 8, 10, 77, 78, 108] [(.int .u8 zn0), (.bool zb1), (.int .i64 zn2), (.func (.func 37) #[] #[(.pointer (some za3)), (.pointer (some za4))]), (.slice zp5 zl6 zl7), (.int .i64 zn8), (.tuple #[])] next (KBlk 2 (KS Pg W 108 rs_10 an_10 false (sub (bodyOf Try.f10) [1, 1, 1, 1, 1, 1, 1, 1, 1, 1]) 0 (fin Pg W 108 rv_10 R)))) (known [12, 79] ys (known [2, 6, 8, 10, 77, 78, 108] [(.int .u8 zn0), (.bool zb1), (.int .i64 zn2), (.func (.func 37) #[] #[(.pointer (some za3)), (.pointer (some za4))]), (.slice zp5 zl6 zl7), (.int .i64 zn8), (.tuple #[])] j)) s) [(.bool b71), (.int .i64 n72)]
def J_law13_PrizeFor_0 (W : World) (R : Ending → Hp → Prop) (b44 : Bool) (n8 : Int) (B9 : Nat) (n39 : Int) (n42 : Int) (B26 : Nat) : Hp → Prop :=
  BR b44
    (R (.returned (.bool false)))
    (L_law13_PrizeFor_0 W R n8 ⟨B9, 0, none⟩ n39 n42 ⟨B26, 0, none⟩ false (IntKind.wrap .i64 (n39 + 1)))
def J_law13_PrizeFor_1 (W : World) (R : Ending → Hp → Prop) (b43 : Bool) (n8 : Int) (B9 : Nat) (n39 : Int) (n42 : Int) (B26 : Nat) : Hp → Prop :=
  BR b43
    (J_law13_PrizeFor_0 W R true n8 B9 n39 n42 B26)
    (BR (n42 == 0)
      (BR (decide (n39 < 1))
        (J_law13_PrizeFor_0 W R true n8 B9 n39 n42 B26)
        (RDL (Addr.add ⟨B9, 0, none⟩ 0) fun x45 l46 c47 =>
          J_law13_PrizeFor_0 W R (decide (n39 > (↑l46 : Int))) n8 B9 n39 n42 B26))
      (J_law13_PrizeFor_0 W R false n8 B9 n39 n42 B26))
def J_law13_PrizeFor_2 (W : World) (R : Ending → Hp → Prop) (b19 : Bool) (B9 : Nat) (n7 : Int) (n8 : Int) : Hp → Prop :=
  BR b19
    (CALL Pg W F_law13_awake []
      (fun v20 => TYB v20 fun b22 =>
        R (.returned (.bool b22)))
        (fun e21 => R (.panicked e21)))
    (RDL (Addr.add ⟨B9, 0, none⟩ 0) fun x23 l24 c25 =>
      NZI (↑l24 : Int) <|
        NEWZ Pg 3 fun B26 =>
          WR (Addr.add ⟨B26, 0, none⟩ 0) (.int .i64 (Int.tmod (IntKind.wrap .i64 n7) (↑l24 : Int))) <|
            RDL (Addr.add ⟨B9, 0, none⟩ 0) fun x27 l28 c29 =>
              RDL (Addr.add ⟨B9, 0, none⟩ 1) fun x30 l31 c32 =>
                RDI .i64 ⟨B26, 0, none⟩ fun n33 =>
                  CALL Pg W F_prize_For [(.agg #[(.slice x27 l28 c29), (.slice x30 l31 c32)]), (.int .i64 n33)]
                    (fun v34 => TUP v34 fun q36 => HD q36 fun v37 r38 => TYI .i64 v37 fun n39 =>
                      HD r38 fun v40 r41 => TYI .i64 v40 fun n42 =>
                        NL r41 <|
                          BR (n42 != 0)
                            (BR (n42 != 4)
                              (J_law13_PrizeFor_1 W R true n8 B9 n39 n42 B26)
                              (J_law13_PrizeFor_1 W R (n39 != 0) n8 B9 n39 n42 B26))
                            (J_law13_PrizeFor_1 W R false n8 B9 n39 n42 B26))
                      (fun e35 => R (.panicked e35)))
def J_law13_PrizeFor_3 (W : World) (R : Ending → Hp → Prop) (zn0 : Int) (zb1 : Bool) (zn2 : Int) (za3 : Addr) (za4 : Addr) (zp5 : Option Addr) (zl6 : Nat) (zl7 : Nat) (zn8 : Int) (nx1 : List Value → Hp → Prop) (b77 : Bool) (n72 : Int) : Hp → Prop :=
  NX [(.int .u8 zn0), (.bool zb1), (.int .i64 zn2), (.func (.func 37) #[] #[(.pointer (some za3)), (.pointer (some za4))]), (.slice zp5 zl6 zl7), (.int .i64 zn8), (.tuple #[])] [(.int .u8 zn0), (.bool zb1), (.int .i64 zn2), (.func (.func 37) #[] #[(.pointer (some za3)), (.pointer (some za4))]), (.slice zp5 zl6 zl7), (.int .i64 zn8), (.tuple #[])] (nx1 [(.bool b77), (.int .i64 (IntKind.wrap .i64 (n72 + 1)))])
def B_law13_PrizeFor_0 (W : World) (R : Ending → Hp → Prop) (zn0 : Int) (za1 : Addr) (zn2 : Int) (zn3 : Int) (za4 : Addr) (b57 : Bool) (n58 : Int) (nx0 : List Value → Hp → Prop) : Hp → Prop :=
  RDL (Addr.add za1 0) fun x59 l60 c61 =>
    BR (decide (n58 ≤ (↑l60 : Int)))
      (CALLV Pg W (.func (.func 37) #[] #[(.pointer (some za1)), (.pointer (some za4))]) [(.int .i64 n58)]
        (fun v62 => TYB v62 fun b64 =>
          BR b64
            (R (.returned (.bool false)))
            (NX [(.int .u8 zn0), (.pointer (some za1)), (.int .i64 zn2), (.int .i64 zn3), (.func (.func 37) #[] #[(.pointer (some za1)), (.pointer (some za4))]), (.tuple #[])] [(.int .u8 zn0), (.pointer (some za1)), (.int .i64 zn2), (.int .i64 zn3), (.func (.func 37) #[] #[(.pointer (some za1)), (.pointer (some za4))]), (.tuple #[])] (nx0 [(.bool b57), (.int .i64 (IntKind.wrap .i64 (n58 + 1)))])))
          (fun e63 => R (.panicked e63)))
      (BR (zn3 != 0)
        (CALL Pg W F_law13_awake []
          (fun v65 => TYB v65 fun b67 =>
            R (.returned (.bool b67)))
            (fun e66 => R (.panicked e66)))
        (RDL (Addr.add za1 1) fun x68 l69 c70 =>
          L_law13_PrizeFor_1 W R zn0 b57 zn2 za1 za4 x68 l69 c70 (↑l69 : Int) false 0))
theorem B_law13_PrizeFor_0_eq (W : World) (R : Ending → Hp → Prop) (zn0 : Int) (za1 : Addr) (zn2 : Int) (zn3 : Int) (za4 : Addr) (b57 : Bool) (n58 : Int) (nx0 : List Value → Hp → Prop) (j : Tm) : vc Pg W 108 rs_10 an_10 false (sub (bodyOf Try.f10) [1, 1, 1, 1, 1, 1, 0, 1, 0, 0]) 0 (KLoop [6, 11] [2, 3, 8, 9, 10, 108] [(.int .u8 zn0), (.pointer (some za1)), (.int .i64 zn2), (.int .i64 zn3), (.func (.func 37) #[] #[(.pointer (some za1)), (.pointer (some za4))]), (.tuple #[])] nx0 (KBlk 0 (KS Pg W 108 rs_10 an_10 false (sub (bodyOf Try.f10) [1, 1, 1, 1, 1, 1, 1]) 0 (fin Pg W 108 rv_10 R)))) (known [6, 11] [(.bool b57), (.int .i64 n58)] (known [2, 3, 8, 9, 10, 108] [(.int .u8 zn0), (.pointer (some za1)), (.int .i64 zn2), (.int .i64 zn3), (.func (.func 37) #[] #[(.pointer (some za1)), (.pointer (some za4))]), (.tuple #[])] j)) = B_law13_PrizeFor_0 W R zn0 za1 zn2 zn3 za4 b57 n58 nx0 := by kernel_rfl
def N_law13_PrizeFor_0 (I : Bool → Int → Hp → Prop) (μ : Bool → Int → Hp → Nat) (b570 : Bool) (n580 : Int) (s : Hp) (vs : List Value) : Hp → Prop := fun s' => ∃ b57 n58, vs = [(.bool b57), (.int .i64 n58)] ∧ I b57 n58 s' ∧ μ b57 n58 s' < μ b570 n580 s
theorem L_law13_PrizeFor_0_rule (W : World) (R : Ending → Hp → Prop) (zn0 : Int) (za1 : Addr) (zn2 : Int) (zn3 : Int) (za4 : Addr) (I : Bool → Int → Hp → Prop) (μ : Bool → Int → Hp → Nat) (b570 : Bool) (n580 : Int) (s : Hp) (h0 : I b570 n580 s)
    (hr : ∀ (b57 : Bool) (n58 : Int) (s : Hp), I b57 n58 s → B_law13_PrizeFor_0 W R zn0 za1 zn2 zn3 za4 b57 n58 (fun vs => N_law13_PrizeFor_0 I μ b57 n58 s vs) s) : L_law13_PrizeFor_0 W R zn0 za1 zn2 zn3 za4 b570 n580 s := by
  refine ⟨fun vs s => ∃ b57 n58, vs = [(.bool b57), (.int .i64 n58)] ∧ I b57 n58 s, fun vs s => (match vs with | [.bool b57, .int _ n58] => μ b57 n58 s | _ => 0), ⟨⟨⟨_, rfl⟩, ⟨⟨_, rfl⟩, trivial⟩⟩, ⟨_, _, rfl, h0⟩⟩, ?_⟩
  intro b57 n58 s hI j
  obtain ⟨b57', n58', hy, hI⟩ := hI
  have hI' : I b57 n58 s := by cases hy; exact hI
  have hh := hr b57 n58 s hI'
  rw [← B_law13_PrizeFor_0_eq W R zn0 za1 zn2 zn3 za4 b57 n58 _ j] at hh
  refine vc_mono ?_ _ _ hh
  exact KLoop_mono (fun vs s' h => by obtain ⟨b571, n581, rfl, h1, h2⟩ := h; exact ⟨⟨⟨_, rfl⟩, ⟨⟨_, rfl⟩, trivial⟩⟩, ⟨_, _, rfl, h1⟩, h2⟩)
def B_law13_PrizeFor_1 (W : World) (R : Ending → Hp → Prop) (zn0 : Int) (zb1 : Bool) (zn2 : Int) (za3 : Addr) (za4 : Addr) (zp5 : Option Addr) (zl6 : Nat) (zl7 : Nat) (zn8 : Int) (b71 : Bool) (n72 : Int) (nx1 : List Value → Hp → Prop) : Hp → Prop :=
  BR (decide (n72 < zn8))
    (IXS zp5 zl6 n72 2 fun a73 =>
      RDI .i64 (Addr.add a73 0) fun n74 =>
        RDI .i64 (Addr.add a73 1) fun n75 =>
          NEWZ Pg 50 fun B76 =>
            WR (Addr.add ⟨B76, 0, none⟩ 0) (.int .i64 n74) <|
              WR (Addr.add ⟨B76, 0, none⟩ 1) (.int .i64 n75) <|
                BR b71
                  (J_law13_PrizeFor_3 W R zn0 zb1 zn2 za3 za4 zp5 zl6 zl7 zn8 nx1 true n72)
                  (RDI .i64 (Addr.add ⟨B76, 0, none⟩ 0) fun n78 =>
                    J_law13_PrizeFor_3 W R zn0 zb1 zn2 za3 za4 zp5 zl6 zl7 zn8 nx1 (n78 == 4) n72))
    (CALLV Pg W (.func (.func 37) #[] #[(.pointer (some za3)), (.pointer (some za4))]) [(.int .i64 zn2)]
      (fun v79 => TYB v79 fun b81 =>
        BR b81
          (BR b71
            (CALL Pg W F_law13_awake []
              (fun v82 => TYB v82 fun b84 =>
                R (.returned (.bool b84)))
                (fun e83 => R (.panicked e83)))
            (NZI zn2 <|
              CALLV Pg W (.func (.func 37) #[] #[(.pointer (some za3)), (.pointer (some za4))]) [(.int .i64 (IntKind.wrap .i64 (1 + (Int.tmod (IntKind.wrap .i64 zn0) zn2))))]
                (fun v85 => TYB v85 fun b87 =>
                  BR b87
                    (CALL Pg W F_law13_awake []
                      (fun v88 => TYB v88 fun b90 =>
                        R (.returned (.bool b90)))
                        (fun e89 => R (.panicked e89)))
                    (R (.returned (.bool false))))
                  (fun e86 => R (.panicked e86))))
          (R (.returned (.bool false))))
        (fun e80 => R (.panicked e80)))
theorem B_law13_PrizeFor_1_eq (W : World) (R : Ending → Hp → Prop) (zn0 : Int) (zb1 : Bool) (zn2 : Int) (za3 : Addr) (za4 : Addr) (zp5 : Option Addr) (zl6 : Nat) (zl7 : Nat) (zn8 : Int) (b71 : Bool) (n72 : Int) (nx1 : List Value → Hp → Prop) (j : Tm) : vc Pg W 108 rs_10 an_10 false (sub (bodyOf Try.f10) [1, 1, 1, 1, 1, 1, 1, 1, 1, 0, 1, 0, 0]) 2 (KLoop [12, 79] [2, 6, 8, 10, 77, 78, 108] [(.int .u8 zn0), (.bool zb1), (.int .i64 zn2), (.func (.func 37) #[] #[(.pointer (some za3)), (.pointer (some za4))]), (.slice zp5 zl6 zl7), (.int .i64 zn8), (.tuple #[])] nx1 (KBlk 2 (KS Pg W 108 rs_10 an_10 false (sub (bodyOf Try.f10) [1, 1, 1, 1, 1, 1, 1, 1, 1, 1]) 0 (fin Pg W 108 rv_10 R)))) (known [12, 79] [(.bool b71), (.int .i64 n72)] (known [2, 6, 8, 10, 77, 78, 108] [(.int .u8 zn0), (.bool zb1), (.int .i64 zn2), (.func (.func 37) #[] #[(.pointer (some za3)), (.pointer (some za4))]), (.slice zp5 zl6 zl7), (.int .i64 zn8), (.tuple #[])] j)) = B_law13_PrizeFor_1 W R zn0 zb1 zn2 za3 za4 zp5 zl6 zl7 zn8 b71 n72 nx1 := by kernel_rfl
def N_law13_PrizeFor_1 (I : Bool → Int → Hp → Prop) (μ : Bool → Int → Hp → Nat) (b710 : Bool) (n720 : Int) (s : Hp) (vs : List Value) : Hp → Prop := fun s' => ∃ b71 n72, vs = [(.bool b71), (.int .i64 n72)] ∧ I b71 n72 s' ∧ μ b71 n72 s' < μ b710 n720 s
theorem L_law13_PrizeFor_1_rule (W : World) (R : Ending → Hp → Prop) (zn0 : Int) (zb1 : Bool) (zn2 : Int) (za3 : Addr) (za4 : Addr) (zp5 : Option Addr) (zl6 : Nat) (zl7 : Nat) (zn8 : Int) (I : Bool → Int → Hp → Prop) (μ : Bool → Int → Hp → Nat) (b710 : Bool) (n720 : Int) (s : Hp) (h0 : I b710 n720 s)
    (hr : ∀ (b71 : Bool) (n72 : Int) (s : Hp), I b71 n72 s → B_law13_PrizeFor_1 W R zn0 zb1 zn2 za3 za4 zp5 zl6 zl7 zn8 b71 n72 (fun vs => N_law13_PrizeFor_1 I μ b71 n72 s vs) s) : L_law13_PrizeFor_1 W R zn0 zb1 zn2 za3 za4 zp5 zl6 zl7 zn8 b710 n720 s := by
  refine ⟨fun vs s => ∃ b71 n72, vs = [(.bool b71), (.int .i64 n72)] ∧ I b71 n72 s, fun vs s => (match vs with | [.bool b71, .int _ n72] => μ b71 n72 s | _ => 0), ⟨⟨⟨_, rfl⟩, ⟨⟨_, rfl⟩, trivial⟩⟩, ⟨_, _, rfl, h0⟩⟩, ?_⟩
  intro b71 n72 s hI j
  obtain ⟨b71', n72', hy, hI⟩ := hI
  have hI' : I b71 n72 s := by cases hy; exact hI
  have hh := hr b71 n72 s hI'
  rw [← B_law13_PrizeFor_1_eq W R zn0 zb1 zn2 za3 za4 zp5 zl6 zl7 zn8 b71 n72 _ j] at hh
  refine vc_mono ?_ _ _ hh
  exact KLoop_mono (fun vs s' h => by obtain ⟨b711, n721, rfl, h1, h2⟩ := h; exact ⟨⟨⟨_, rfl⟩, ⟨⟨_, rfl⟩, trivial⟩⟩, ⟨_, _, rfl, h1⟩, h2⟩)
def T_law13_PrizeFor (W : World) (x1 : Option Addr) (l2 : Nat) (c3 : Nat) (x4 : Option Addr) (l5 : Nat) (c6 : Nat) (n7 : Int) (n8 : Int) (R : Ending → Hp → Prop) : Hp → Prop :=
  NEW 25 [(.slice x1 l2 c3), (.slice x4 l5 c6)] fun B9 =>
    RDL (Addr.add ⟨B9, 0, none⟩ 0) fun x10 l11 c12 =>
      RDL (Addr.add ⟨B9, 0, none⟩ 1) fun x13 l14 c15 =>
        CALL Pg W F_law13_far [(.agg #[(.slice x10 l11 c12), (.slice x13 l14 c15)]), (.slice none 0 0)]
          (fun v16 => TYB v16 fun b18 =>
            BR b18
              (J_law13_PrizeFor_2 W R true B9 n7 n8)
              (RDL (Addr.add ⟨B9, 0, none⟩ 0) fun x48 l49 c50 =>
                RDL (Addr.add ⟨B9, 0, none⟩ 1) fun x51 l52 c53 =>
                  CALL Pg W F_ref13_Prizes [(.agg #[(.slice x48 l49 c50), (.slice x51 l52 c53)])]
                    (fun v54 => TYB v54 fun b56 =>
                      J_law13_PrizeFor_2 W R (!b56) B9 n7 n8)
                      (fun e55 => R (.panicked e55))))
            (fun e17 => R (.panicked e17))
theorem T_law13_PrizeFor_eq (W : World) (x1 : Option Addr) (l2 : Nat) (c3 : Nat) (x4 : Option Addr) (l5 : Nat) (c6 : Nat) (n7 : Int) (n8 : Int) (R : Ending → Hp → Prop) : vfun Pg W an_10 Try.f10 [(.agg #[(.slice x1 l2 c3), (.slice x4 l5 c6)]), (.int .u8 n7), (.int .u8 n8)] R = T_law13_PrizeFor W x1 l2 c3 x4 l5 c6 n7 n8 R := by kernel_rfl
theorem does_law13_PrizeFor (W : World) (x1 : Option Addr) (l2 : Nat) (c3 : Nat) (x4 : Option Addr) (l5 : Nat) (c6 : Nat) (n7 : Int) (n8 : Int) (R : Ending → Hp → Prop) (s : Hp) (h : T_law13_PrizeFor W x1 l2 c3 x4 l5 c6 n7 n8 R s) : Does Pg W F_law13_PrizeFor #[(.agg #[(.slice x1 l2 c3), (.slice x4 l5 c6)]), (.int .u8 n7), (.int .u8 n8)] s R :=
  does_of_vfun Pg W an_10 Try.func10 rfl (by kernel_rfl) (by rw [T_law13_PrizeFor_eq]; exact h)
def an_37 : Nat → Ann := fun b => match b with
  | 0 => { ms := [19], ks := [.i .i64], us := [2, 6, 17, 18, 29], rt := false, ex := [] }
  | _ => {}
abbrev rv_37 : List ResultVar := [.tmp 4]
abbrev rs_37 : List Nat := [29, 4]
def L_law13_PrizeFor_c1_0 (W : World) (R : Ending → Hp → Prop) (za0 : Addr) (zn1 : Int) (zp2 : Option Addr) (zl3 : Nat) (zl4 : Nat) (zn5 : Int) (n35 : Int) : Hp → Prop :=
  LOOPN [.i .i64] (fun ys next s => ∀ j : Tm, vc Pg W 29 rs_37 an_37 false (sub (bodyOf Try.f37) [1, 1, 0, 1, 0, 0]) 0 (KLoop [19] [2, 6, 17, 18, 29] [(.pointer (some za0)), (.int .i64 zn1), (.slice zp2 zl3 zl4), (.int .i64 zn5), (.tuple #[])] next (KBlk 0 (KS Pg W 29 rs_37 an_37 false (sub (bodyOf Try.f37) [1, 1, 1]) 0 (fin Pg W 29 rv_37 R)))) (known [19] ys (known [2, 6, 17, 18, 29] [(.pointer (some za0)), (.int .i64 zn1), (.slice zp2 zl3 zl4), (.int .i64 zn5), (.tuple #[])] j)) s) [(.int .i64 n35)]
def B_law13_PrizeFor_c1_0 (W : World) (R : Ending → Hp → Prop) (za0 : Addr) (zn1 : Int) (zp2 : Option Addr) (zl3 : Nat) (zl4 : Nat) (zn5 : Int) (n35 : Int) (nx0 : List Value → Hp → Prop) : Hp → Prop :=
  BR (decide (n35 < zn5))
    (IXS zp2 zl3 n35 1 fun a36 =>
      RDI .i64 a36 fun n37 =>
        RDI .i64 za0 fun n38 =>
          BR (n37 == n38)
            (R (.returned (.bool (zn1 == 0))))
            (NX [(.pointer (some za0)), (.int .i64 zn1), (.slice zp2 zl3 zl4), (.int .i64 zn5), (.tuple #[])] [(.pointer (some za0)), (.int .i64 zn1), (.slice zp2 zl3 zl4), (.int .i64 zn5), (.tuple #[])] (nx0 [(.int .i64 (IntKind.wrap .i64 (n35 + 1)))])))
    (R (.returned (.bool false)))
theorem B_law13_PrizeFor_c1_0_eq (W : World) (R : Ending → Hp → Prop) (za0 : Addr) (zn1 : Int) (zp2 : Option Addr) (zl3 : Nat) (zl4 : Nat) (zn5 : Int) (n35 : Int) (nx0 : List Value → Hp → Prop) (j : Tm) : vc Pg W 29 rs_37 an_37 false (sub (bodyOf Try.f37) [1, 1, 0, 1, 0, 0]) 0 (KLoop [19] [2, 6, 17, 18, 29] [(.pointer (some za0)), (.int .i64 zn1), (.slice zp2 zl3 zl4), (.int .i64 zn5), (.tuple #[])] nx0 (KBlk 0 (KS Pg W 29 rs_37 an_37 false (sub (bodyOf Try.f37) [1, 1, 1]) 0 (fin Pg W 29 rv_37 R)))) (known [19] [(.int .i64 n35)] (known [2, 6, 17, 18, 29] [(.pointer (some za0)), (.int .i64 zn1), (.slice zp2 zl3 zl4), (.int .i64 zn5), (.tuple #[])] j)) = B_law13_PrizeFor_c1_0 W R za0 zn1 zp2 zl3 zl4 zn5 n35 nx0 := by kernel_rfl
def N_law13_PrizeFor_c1_0 (I : Int → Hp → Prop) (μ : Int → Hp → Nat) (n350 : Int) (s : Hp) (vs : List Value) : Hp → Prop := fun s' => ∃ n35, vs = [(.int .i64 n35)] ∧ I n35 s' ∧ μ n35 s' < μ n350 s
theorem L_law13_PrizeFor_c1_0_rule (W : World) (R : Ending → Hp → Prop) (za0 : Addr) (zn1 : Int) (zp2 : Option Addr) (zl3 : Nat) (zl4 : Nat) (zn5 : Int) (I : Int → Hp → Prop) (μ : Int → Hp → Nat) (n350 : Int) (s : Hp) (h0 : I n350 s)
    (hr : ∀ (n35 : Int) (s : Hp), I n35 s → B_law13_PrizeFor_c1_0 W R za0 zn1 zp2 zl3 zl4 zn5 n35 (fun vs => N_law13_PrizeFor_c1_0 I μ n35 s vs) s) : L_law13_PrizeFor_c1_0 W R za0 zn1 zp2 zl3 zl4 zn5 n350 s := by
  refine ⟨fun vs s => ∃ n35, vs = [(.int .i64 n35)] ∧ I n35 s, fun vs s => (match vs with | [.int _ n35] => μ n35 s | _ => 0), ⟨⟨⟨_, rfl⟩, trivial⟩, ⟨_, rfl, h0⟩⟩, ?_⟩
  intro n35 s hI j
  obtain ⟨n35', hy, hI⟩ := hI
  have hI' : I n35 s := by cases hy; exact hI
  have hh := hr n35 s hI'
  rw [← B_law13_PrizeFor_c1_0_eq W R za0 zn1 zp2 zl3 zl4 zn5 n35 _ j] at hh
  refine vc_mono ?_ _ _ hh
  exact KLoop_mono (fun vs s' h => by obtain ⟨n351, rfl, h1, h2⟩ := h; exact ⟨⟨⟨_, rfl⟩, trivial⟩, ⟨_, rfl, h1⟩, h2⟩)
def T_law13_PrizeFor_c1 (W : World) (n1 : Int) (a2 : Addr) (a3 : Addr) (R : Ending → Hp → Prop) : Hp → Prop :=
  RDL (Addr.add a2 0) fun x4 l5 c6 =>
    RDL (Addr.add a2 1) fun x7 l8 c9 =>
      RDI .i64 a3 fun n10 =>
        CALL Pg W F_ref13_Moved [(.agg #[(.slice x4 l5 c6), (.slice x7 l8 c9)]), (.int .i64 n10), (.int .i64 n1)]
          (fun v11 => AGG v11 fun q13 => HD q13 fun v14 r15 => TYL v14 fun x16 l17 c18 =>
            HD r15 fun v19 r20 => TYL v19 fun x21 l22 c23 =>
              NL r20 <|
                CALL Pg W F_prize_Due [(.agg #[(.slice x16 l17 c18), (.slice x21 l22 c23)])]
                  (fun v24 => TUP v24 fun q26 => HD q26 fun v27 r28 => TYL v27 fun x29 l30 c31 =>
                    HD r28 fun v32 r33 => TYI .i64 v32 fun n34 =>
                      NL r33 <|
                        L_law13_PrizeFor_c1_0 W R a3 n34 x29 l30 c31 (↑l30 : Int) 0)
                    (fun e25 => R (.panicked e25)))
            (fun e12 => R (.panicked e12))
theorem T_law13_PrizeFor_c1_eq (W : World) (n1 : Int) (a2 : Addr) (a3 : Addr) (R : Ending → Hp → Prop) : vfun Pg W an_37 Try.f37 [(.int .i64 n1), (.pointer (some a2)), (.pointer (some a3))] R = T_law13_PrizeFor_c1 W n1 a2 a3 R := by kernel_rfl
theorem does_law13_PrizeFor_c1 (W : World) (n1 : Int) (a2 : Addr) (a3 : Addr) (R : Ending → Hp → Prop) (s : Hp) (h : T_law13_PrizeFor_c1 W n1 a2 a3 R s) : Does Pg W F_law13_PrizeFor_c1 #[(.int .i64 n1), (.pointer (some a2)), (.pointer (some a3))] s R :=
  does_of_vfun Pg W an_37 Try.func37 rfl (by kernel_rfl) (by rw [T_law13_PrizeFor_c1_eq]; exact h)
end Go.Proofs.Ytfaeokcbfnlgbaa.G

/- The statement PrizeFor. -/
set_option linter.unusedSimpArgs false
set_option linter.unusedVariables false
set_option maxRecDepth 20000
namespace Go.Proofs.Ytfaeokcbfnlgbaa.G
open Go.V
theorem tm_mod' {z n : Nat} (hz : z < 256) : Int.tmod (IntKind.wrap .i64 (z : Int)) (n : Int) = ((z % n : Nat) : Int) := by rw [wrap_i64 (by omega) (by omega)]; rfl
section
variable {W : World} {K : VK} {E : List PanicEntry → Hp → Prop} {s : Hp} {T : PT}
theorem c_gets {x y : Option Addr} {c c' m pl : Nat} {a b : Addr} (hok : okP T = true) (hm : m < T.n) (h1 : 1 ≤ pl) (h2 : pl ≤ T.n) (hx : MnAt s x T.men) (hy : PzAt s y T.list) (a0 : cellAt s (Addr.add a 0) = some (.slice x T.n c)) (a1 : cellAt s (Addr.add a 1) = some (.slice y T.z c')) (b0 : cellAt s b = some (.int .i64 (m : Nat))) (h : ∀ s', Ext s s' → K (.bool (getsP T m pl)) s') :
    CALLV Pg W (.func (.func 37) #[] #[.pointer (some a), .pointer (some b)]) [.int .i64 (pl : Nat)] K E s := by
  have hv := okP_vd hok
  refine CALLV_func ?_
  refine does_law13_PrizeFor_c1 W pl a b _ s ?_
  unfold T_law13_PrizeFor_c1
  refine ⟨_, _, _, a0, _, _, _, a1, _, b0, ?_⟩
  refine f_Moved hv hm (by omega) (by omega) hx hy fun s1 q cq e1 r1 => ?_
  try simp only [TUP_mk, AGG_mk, HD_mk, NL_mk, TYI_mk, TYB_mk, TYP_mk, TYL_mk, TYS_mk, TYM_mk, SO_mk, NX_mk, endK_mk, endK_mk', add_0]
  have hokM := ok_moved (pl := (pl : Int)) hok hm (by omega) (by omega)
  have hvM := okP_vd hokM
  have h6M := hvM.z6
  refine c_DueV (T := movedP T m (pl : Int)) hokM (row_mn r1.row) (hy.ext e1) fun s2 d cd e2 r2 => ?_
  try simp only [TUP_mk, AGG_mk, HD_mk, NL_mk, TYI_mk, TYB_mk, TYP_mk, TYL_mk, TYS_mk, TYM_mk, SO_mk, NX_mk, endK_mk, endK_mk', add_0]
  have e02 := e1.trans e2
  have hl := due_len (movedP T m (pl : Int))
  generalize hz : (movedP T m (pl : Int)).z = z at *
  refine L_law13_PrizeFor_c1_0_rule W _ b 0 d z cd z (fun n35 t => t = s2 ∧ ∃ k : Nat, k ≤ z ∧ n35 = k ∧ ∀ j, j < k → (manL (dueP (movedP T m (pl : Int)))).getD j 0 ≠ (m : Nat)) (fun n35 _ => ((z : Int) - n35).toNat) 0 s2 ⟨rfl, 0, by omega, rfl, fun j hj => by omega⟩ ?_
  rintro n35 t ⟨rfl, k, hk, rfl, hno⟩
  unfold B_law13_PrizeFor_c1_0
  refine BR_dec (fun hlt => ?_) (fun hlt => ?_)
  · have hkz : k < z := by omega
    obtain ⟨a', ha, ca⟩ := row_int r2.row (by omega : k < (manL (dueP (movedP T m (pl : Int)))).length)
    refine IXS_at ha hkz ?_
    refine ⟨_, ca, _, e02.cell b0, ?_⟩
    refine BR_eq (fun he => ?_) (fun hne => ?_)
    · have : getsP T m pl = true := by
        unfold getsP
        refine decide_eq_true ?_
        rw [← he, getD_lt (by omega)]
        exact List.getElem_mem _
      have := this ▸ h t e02
      exact this
    · refine ⟨rfl, _, rfl, ⟨rfl, k + 1, hkz, wrap_succ (by omega), fun j hj => ?_⟩, ms_succ hkz (by omega)⟩
      by_cases e : j = k
      · rw [e]; exact hne
      · exact hno j (by omega)
  · have hkz : k = z := by omega
    subst hkz
    have : getsP T m pl = false := by
      unfold getsP
      refine decide_eq_false fun hm' => ?_
      obtain ⟨j, hj, e⟩ := List.mem_iff_getElem.1 hm'
      exact hno j (by omega) (by rw [getD_lt hj]; exact e)
    have := this ▸ h t e02
    exact this
theorem w_PrizeFor {x y : Option Addr} {c c' u u2 : Nat} (hx : MnAt s x T.men) (hy : PzAt s y T.list) (hu : u < 256) (hu2 : u2 < 256) (h : ∀ s', Ext s s' → K (.bool true) s') :
    CALL Pg W F_law13_PrizeFor [.agg #[.slice x T.n c, .slice y T.z c'], .int .u8 (u : Nat), .int .u8 (u2 : Nat)] K E s := by
  refine does_law13_PrizeFor W x T.n c y T.z c' u u2 _ s ?_
  unfold T_law13_PrizeFor
  refine ne2 fun s1 e1 z1 o1 o2 => ?_
  have c0 := o1.cell
  have c1 := o2.cell
  refine ⟨_, _, _, c0, _, _, _, c1, ?_⟩
  refine c_far fun s2 b e2 hb => ?_
  try simp only [TUP_mk, AGG_mk, HD_mk, NL_mk, TYI_mk, TYB_mk, TYP_mk, TYL_mk, TYS_mk, TYM_mk, SO_mk, NX_mk, endK_mk, endK_mk', add_0]
  have rx : ∀ {t : Hp}, Ext s1 t → MnAt t x T.men := fun e => hx.ext (e1.trans e)
  have ry : ∀ {t : Hp}, Ext s1 t → PzAt t y T.list := fun e => hy.ext (e1.trans e)
  have J2 : ∀ (b : Bool) (t : Hp), Ext s1 t → (b = false → okP T = true) → J_law13_PrizeFor_2 W (endK K E) b s.size u u2 t := by
    intro b t et hb
    unfold J_law13_PrizeFor_2
    refine BR_bool (fun _ => c_awake' et fun u eu => h u (e1.trans eu)) (fun hf => ?_)
    have hok := hb hf
    have hv := okP_vd hok
    have h8 := hv.n8
    have h6 := hv.z6
    have hn1 := hv.n1
    refine ⟨_, _, _, et.cell c0, ?_⟩
    refine NZI_pos (by omega) ?_
    have hm : u % T.n < T.n := Nat.mod_lt _ (by omega)
    have tmm : Int.tmod (IntKind.wrap .i64 (u : Int)) (T.n : Int) = ((u % T.n : Nat) : Int) := tm_mod' hu
    generalize u % T.n = m at hm tmm
    rw [tmm]
    refine nw1 zc_3 rfl fun t1 f1 y1 om => ?_
    have g1 := et.trans f1
    refine ⟨_, _, _, g1.cell c0, _, _, _, g1.cell c1, _, om.cell, ?_⟩
    refine c_For (rx g1) (ry g1) fun t2 f2 => ?_
    have hR : forR T (m : Nat) = forL T m T.n := by
      unfold forR
      have hM : isM T (m : Nat) = true := decide_eq_true (by omega)
      rw [if_pos hok, if_pos hM, toNat_nat]
    rw [hR]
    have g2 := g1.trans f2
    have om2 := f2.own om
    -- the closure at any place
    have gets : ∀ (pl : Nat) (v : Hp) (KK : VK) (EE : List PanicEntry → Hp → Prop), 1 ≤ pl → pl ≤ T.n → Ext t2 v → (∀ s', Ext v s' → KK (.bool (getsP T m pl)) s') → CALLV Pg W (.func (.func 37) #[] #[.pointer (some ⟨s.size, 0, none⟩), .pointer (some ⟨t.size, 0, none⟩)]) [.int .i64 (pl : Nat)] KK EE v :=
      fun pl v KK EE p1 p2 ev hk => c_gets hok hm p1 p2 (rx (g2.trans ev)) (ry (g2.trans ev)) ((g2.trans ev).cell c0) ((g2.trans ev).cell c1) (ev.cell om2.cell) hk
    -- the loop over greater places
    have main : ∀ (p : Nat) (e : Int), p ≤ T.n → (∀ q, p < q → q ≤ T.n → getsP T m q = false) → (e = 0 ∧ 1 ≤ p ∧ getsP T m p = true ∨ e = 4) → ∀ v, Ext t2 v → L_law13_PrizeFor_0 W (endK K E) u2 ⟨s.size, 0, none⟩ p e ⟨t.size, 0, none⟩ false (IntKind.wrap .i64 ((p : Int) + 1)) v := by
      intro p e hp hno he v ev
      rw [wrap_succ (by omega)]
      refine L_law13_PrizeFor_0_rule W _ u2 ⟨s.size, 0, none⟩ p e ⟨t.size, 0, none⟩ (fun _ n58 v' => Ext v v' ∧ ∃ k : Nat, p < k ∧ k ≤ T.n + 1 ∧ n58 = k) (fun _ n58 _ => ((T.n : Int) + 1 - n58).toNat) false _ v ⟨Ext.refl _, p + 1, by omega, by omega, rfl⟩ ?_
      rintro b57 n58 v' ⟨ev', k, hk1, hk2, rfl⟩
      unfold B_law13_PrizeFor_0
      have gv := g2.trans (ev.trans ev')
      refine ⟨_, _, _, gv.cell c0, ?_⟩
      refine BR_dec (fun hlt => ?_) (fun hlt => ?_)
      · refine gets k v' _ _ (by omega) (by omega) (ev.trans ev') fun v2 ev2 => ?_
        try simp only [TUP_mk, AGG_mk, HD_mk, NL_mk, TYI_mk, TYB_mk, TYP_mk, TYL_mk, TYS_mk, TYM_mk, SO_mk, NX_mk, endK_mk, endK_mk', add_0]
        rw [hno k hk1 (by omega)]
        refine BR_ff rfl ?_
        have hw : IntKind.i64.wrap ((k : Int) + 1) = ((k + 1 : Nat) : Int) := wrap_succ (by omega)
        refine ⟨_, _, rfl, ⟨ev'.trans ev2, k + 1, by omega, by omega, hw⟩, ?_⟩
        show ((T.n : Int) + 1 - IntKind.i64.wrap ((k : Int) + 1)).toNat < ((T.n : Int) + 1 - (k : Int)).toNat
        rw [hw]; omega
      · rcases he with ⟨rfl, hp1, hgp⟩ | rfl
        · refine BR_ff rfl ?_
          refine ⟨_, _, _, gv.cell c1, ?_⟩
          refine L_law13_PrizeFor_1_rule W _ u2 b57 p ⟨s.size, 0, none⟩ ⟨t.size, 0, none⟩ y T.z c' T.z (fun b71 n72 v2 => Ext v' v2 ∧ ∃ k : Nat, k ≤ T.z ∧ n72 = k ∧ (b71 = false → ∀ j, j < k → ¬ (T.pz j).kind = 4)) (fun _ n72 _ => ((T.z : Int) - n72).toNat) false 0 v' ⟨Ext.refl _, 0, by omega, rfl, fun _ j hj => by omega⟩ ?_
          rintro b71 n72 v2 ⟨ev2, k2, hk2', rfl, hcl⟩
          unfold B_law13_PrizeFor_1
          have gv2 := gv.trans ev2
          have et2 := ev.trans (ev'.trans ev2)
          refine BR_dec (fun hlt2 => ?_) (fun hlt2 => ?_)
          · have hkz : k2 < T.z := by omega
            obtain ⟨az, v0, v1, v2'⟩ := pz_row (ry gv2) hkz
            refine IXS_at v0 hkz ?_
            refine ⟨_, v1, _, v2', ?_⟩
            refine nw2 zc_50 rfl rfl fun v3 j3 y3 p3 p4 => ?_
            generalize hnx : (fun vs => N_law13_PrizeFor_1 _ _ _ _ v2 vs) = nx
            have fin : ∀ b' : Bool, (b' = false → b71 = false ∧ ¬ (T.pz k2).kind = 4) → J_law13_PrizeFor_3 W (endK K E) u2 b57 p ⟨s.size, 0, none⟩ ⟨t.size, 0, none⟩ y T.z c' T.z nx b' k2 v3 := by
              intro b' hb'
              unfold J_law13_PrizeFor_3
              rw [← hnx]
              refine ⟨rfl, _, _, rfl, ⟨ev2.trans j3, k2 + 1, hkz, wrap_succ (by omega), fun hf j hj => ?_⟩, ms_succ hkz (by omega)⟩
              obtain ⟨q1, q2⟩ := hb' hf
              by_cases e : j = k2
              · rw [e]; exact q2
              · exact hcl q1 j (by omega)
            refine BR_bool (fun _ => fin true (fun hh => by cases hh)) (fun hb0 => ?_)
            refine ⟨_, p3.cell, ?_⟩
            exact fin _ (fun hh => ⟨hb0, by simpa using hh⟩)
          · have hkz : k2 = T.z := by omega
            subst hkz
            refine gets p v2 _ _ hp1 hp et2 fun v3 ev3 => ?_
            try simp only [TUP_mk, AGG_mk, HD_mk, NL_mk, TYI_mk, TYB_mk, TYP_mk, TYL_mk, TYS_mk, TYM_mk, SO_mk, NX_mk, endK_mk, endK_mk', add_0]
            rw [hgp]
            refine BR_tt rfl ?_
            refine BR_bool (fun _ => c_awake' (gv2.trans ev3) fun v4 ev4 => h v4 (e1.trans ev4)) (fun hb0 => ?_)
            have hnc : noClub T = true := by
              unfold noClub
              rw [List.all_eq_true]
              intro z hz
              obtain ⟨i, hi, e⟩ := List.mem_iff_getElem.1 hz
              have := hcl hb0 i hi
              unfold PT.pz at this
              rw [getD_lt hi, e] at this
              simpa using this
            refine NZI_pos (by omega) ?_
            rw [tm_mod' hu2]
            have hq : u2 % p < p := Nat.mod_lt _ (by omega)
            generalize u2 % p = q at hq
            have hw : IntKind.i64.wrap (1 + (q : Int)) = ((q + 1 : Nat) : Int) := by rw [wrap_i64 (by omega) (by omega)]; omega
            rw [hw]
            refine gets (q + 1) v3 _ _ (by omega) (by omega) (et2.trans ev3) fun v4 ev4 => ?_
            try simp only [TUP_mk, AGG_mk, HD_mk, NL_mk, TYI_mk, TYB_mk, TYP_mk, TYL_mk, TYS_mk, TYM_mk, SO_mk, NX_mk, endK_mk, endK_mk', add_0]
            rw [gets_mono hok hm hnc (by omega) (by omega) hp hgp]
            refine BR_tt rfl ?_
            exact c_awake' (gv2.trans (ev3.trans ev4)) fun v5 ev5 => h v5 (e1.trans ev5)
        · refine BR_tt rfl ?_
          exact c_awake' gv fun v2 ev2 => h v2 (e1.trans ev2)
    rcases for_spec (T := T) (m := m) T.n with ⟨p, p1, p2, p3, p4, p5⟩ | ⟨p1, p2⟩
    · rw [p3]
      try simp only [TUP_mk, AGG_mk, HD_mk, NL_mk, TYI_mk, TYB_mk, TYP_mk, TYL_mk, TYS_mk, TYM_mk, SO_mk, NX_mk, endK_mk, endK_mk', add_0]
      refine BR_ff rfl ?_
      unfold J_law13_PrizeFor_1
      refine BR_ff rfl ?_
      refine BR_tt rfl ?_
      refine BR_ff (decide_eq_false (by omega)) ?_
      refine ⟨_, _, _, g2.cell c0, ?_⟩
      unfold J_law13_PrizeFor_0
      refine BR_ff (decide_eq_false (by omega)) ?_
      exact main p 0 p2 p5 (.inl ⟨rfl, p1, p4⟩) t2 (Ext.refl _)
    · rw [p1]
      try simp only [TUP_mk, AGG_mk, HD_mk, NL_mk, TYI_mk, TYB_mk, TYP_mk, TYL_mk, TYS_mk, TYM_mk, SO_mk, NX_mk, endK_mk, endK_mk', add_0]
      refine BR_tt rfl ?_
      refine BR_ff rfl ?_
      unfold J_law13_PrizeFor_1
      refine BR_ff rfl ?_
      refine BR_ff rfl ?_
      unfold J_law13_PrizeFor_0
      refine BR_ff rfl ?_
      exact main 0 4 (by omega) (fun q h1 h2 => p2 q (by omega) h2) (.inr rfl) t2 (Ext.refl _)
  refine BR_bool (fun _ => J2 true s2 e2 (fun hh => by cases hh)) (fun hf => ?_)
  refine ⟨_, _, _, e2.cell c0, _, _, _, e2.cell c1, ?_⟩
  refine f_Prizes (rx e2) (ry e2) fun s3 e3 => ?_
  try simp only [TUP_mk, AGG_mk, HD_mk, NL_mk, TYI_mk, TYB_mk, TYP_mk, TYL_mk, TYS_mk, TYM_mk, SO_mk, NX_mk, endK_mk, endK_mk', add_0]
  exact J2 _ s3 (e2.trans e3) (fun hh => by simpa using hh)
end
end Go.Proofs.Ytfaeokcbfnlgbaa.G

/- PrizeFor, from any arguments. -/
namespace Go.Proofs.Ytfaeokcbfnlgbaa.G
open Go.V
theorem v_PrizeFor {W : World} {s : Hp} {v0 v1 v2 : Value} (k0 : RdV Pg s 25 v0) (k1 : RdV Pg s 5 v1) (k2 : RdV Pg s 5 v2) : CALL Pg W F_law13_PrizeFor [v0, v1, v2] (fun v s' => v = .bool true ∧ Ext s s') (fun _ _ => False) s := by
  obtain ⟨x, c, y, c', T, rfl, hx, hy⟩ := prizes_rd k0
  obtain ⟨u, rfl, hu⟩ := u8_rd k1
  obtain ⟨u2, rfl, hu2⟩ := u8_rd k2
  exact w_PrizeFor hx hy hu hu2 fun s' e => ⟨rfl, e⟩
end Go.Proofs.Ytfaeokcbfnlgbaa.G

/- The row of the statement PrizeFor. -/
namespace Go.Proofs.Ytfaeokcbfnlgbaa.prizeFor
open Go.ChangeShapes Go.WideShapes Go.ChangeAt Go.RowKit Go.V
set_option linter.unusedVariables false
theorem own : ownKnob Try.prog.godebug = none := by kernel_rfl
theorem laidOut : laidOutB Try.prog = true := by kernel_rfl
set_option maxRecDepth 100000 in
theorem lifted (os : Os) (started : os.Started) (H : Type) (enc : TypeId × Value → H) :
    ReturnsInHanded {} Try.checked os 10 .any (Rows.prizeForSpec.pre6 enc Try.prog Try.f10 Rows.prizeForRow.domain false) (Rows.prizeForSpec.post enc Try.prog Try.f10 false true false false) := by
  refine returnsInHanded_of_change_sized (C := Try.checked) own started (by kernel_rfl) Try.func10
    (ChangeSpec.witness6 (enc := enc) (C := Try.checked) false ⟨#[], #[(.agg #[(.slice none 0 0), (.slice none 0 0)]), (.int .u8 0), (.int .u8 0)], []⟩ 8 (by kernel_rfl) (by kernel_rfl) (by kernel_rfl) (by kernel_rfl)) ?_
  intro W base args ds gs before hval0 hW hcnd hsz0 _
  have hsz : (DataW.weightsEach Try.prog (Try.f10.params.toList ++ Rows.prizeForSpec.plain.varTypes Try.prog) (ds ++ gs)).all (· ≤ reachBytes) = true := hsz0
  have hval : ∀ (j : Nat) t v, Try.f10.params[j]? = some t → args[j]? = some v → Value.okWide Try.prog W .any base t v := hval0
  have hW' := hW
  obtain ⟨p, q, hA0, hV, rfl, hfz, hnd⟩ := hW
  have hA : DataW.TrodAll enc Try.prog W 0 (fun _ => true) true Try.f10.params.toList args.toList ds p := hA0
  rw [Try.params10] at hA hval hsz
  obtain ⟨v0, vs0, d0, ds0, p0, q0, hargs, rfl, rfl, h0, r0⟩ := trodAll_cons hA
  obtain ⟨v1, vs1, d1, ds1, p1, q1, rfl, rfl, rfl, h1, r1⟩ := trodAll_cons r0
  obtain ⟨v2, vs2, d2, ds2, p2, q2, rfl, rfl, rfl, h2, r2⟩ := trodAll_cons r1
  obtain ⟨rfl, rfl, rfl⟩ := trodAll_nil r2
  obtain rfl : args = #[v0, v1, v2] := by cases args; simp_all
  obtain ⟨rfl, rfl⟩ := trodVars_none hV
  have k0 := trod_rdV (hval 0 25 v0 rfl rfl) h0
  have lt0 : ∀ x ∈ p0, x.block < W.heap.size := by obtain ⟨m, hm⟩ := h0; exact DataW.trod_lt m _ _ _ hm
  have k1 := trod_rdV (hval 1 5 v1 rfl rfl) h1
  have lt1 : ∀ x ∈ p1, x.block < W.heap.size := by obtain ⟨m, hm⟩ := h1; exact DataW.trod_lt m _ _ _ hm
  have k2 := trod_rdV (hval 2 5 v2 rfl rfl) h2
  have lt2 : ∀ x ∈ p2, x.block < W.heap.size := by obtain ⟨m, hm⟩ := h2; exact DataW.trod_lt m _ _ _ hm
  refine (calls_of_does (does_of_call (G.v_PrizeFor (W := W) (s := W.heap) k0 k1 k2))).mono fun e W' ⟨he, bel⟩ => ?_
  subst he
  exact ⟨_, rfl, _, _, _, [], _, [], hW', trodAll_mk1 (shut_bool Try.underlying4 _), (trodAll_cons_mk (Below.trod laidOut (by kernel_rfl) (of_decide_eq_true (by kernel_rfl)) h0 bel lt0) (trodAll_cons_mk (Below.trod laidOut (by kernel_rfl) (of_decide_eq_true (by kernel_rfl)) h1 bel lt1) (trodAll_cons_mk (Below.trod laidOut (by kernel_rfl) (of_decide_eq_true (by kernel_rfl)) h2 bel lt2) trodAll_mk0))), rfl, bel.frame _, fun h => by cases h⟩
theorem over : Rows.prizeForRow.holds Try.pinned (OpenSpec.ofChange Rows.prizeForSpec) :=
  OpenClaim.holds_of_wide 10 Try.f10 rfl rfl rfl rfl rfl rfl rfl ⟨rfl, rfl, rfl, rfl, rfl⟩ rfl rfl rfl rfl rfl (by kernel_rfl) Try.func10 (by kernel_rfl)
    (of_decide_eq_true (by kernel_rfl)) (by unfold Func.isWrapper; first | (rw [if_pos (by decide +kernel)]; kernel_rfl) | (rw [if_neg (by decide +kernel)]; exact ⟨rfl, rfl⟩))
    (fun os started H enc _ => lifted os started H enc)
theorem proved : Rows.PrizeForSaid := over
end Go.Proofs.Ytfaeokcbfnlgbaa.prizeFor
namespace Go.Proofs.Ytfaeokcbfnlgbaa
/-- The row, under a short name. -/
theorem prizeFor_holds : Rows.PrizeForSaid := prizeFor.proved
end Go.Proofs.Ytfaeokcbfnlgbaa
