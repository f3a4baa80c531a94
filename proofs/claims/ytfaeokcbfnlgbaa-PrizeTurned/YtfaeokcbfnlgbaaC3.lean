import Derived.Test.YtfaeokcbfnlgbaaC2
/- Lemmas: contracts over the visible heap, and that they are sound; no condition. -/
/- More of the functions' shallow texts, by gen.py. -/
set_option linter.unusedVariables false
set_option maxRecDepth 100000
namespace Go.Proofs.Ytfaeokcbfnlgbaa.G
open Go.V
def an_16 : Nat → Ann := fun b => match b with
  | _ => {}
abbrev rv_16 : List ResultVar := [.tmp 6, .tmp 7]
abbrev rs_16 : List Nat := [26, 6, 7]
def J_ref13_Can_0 (W : World) (R : Ending → Hp → Prop) (x46 : Option Addr) (l47 : Nat) (c48 : Nat) (x49 : Option Addr) (l50 : Nat) (c51 : Nat) (b65 : Bool) (B9 : Nat) (n7 : Int) (n8 : Int) : Hp → Prop :=
  CALL Pg W F_ref13_check [(.agg #[(.slice x46 l47 c48), (.slice x49 l50 c51)]), (.bool b65)]
    (fun v66 => TYI .i64 v66 fun n68 =>
      BR (n68 != 0)
        (R (.returned (.tuple #[(.bool false), (.int .i64 n68)])))
        (RDL (Addr.add ⟨B9, 0, none⟩ 0) fun x69 l70 c71 =>
          RDL (Addr.add ⟨B9, 0, none⟩ 1) fun x72 l73 c74 =>
            CALL Pg W F_ref13_can [(.agg #[(.slice x69 l70 c71), (.slice x72 l73 c74)]), (.int .i64 n7), (.int .i64 n8)]
              (fun v75 => TYB v75 fun b77 =>
                R (.returned (.tuple #[(.bool b77), (.int .i64 0)])))
                (fun e76 => R (.panicked e76))))
      (fun e67 => R (.panicked e67))
def T_ref13_Can (W : World) (x1 : Option Addr) (l2 : Nat) (c3 : Nat) (x4 : Option Addr) (l5 : Nat) (c6 : Nat) (n7 : Int) (n8 : Int) (R : Ending → Hp → Prop) : Hp → Prop :=
  NEW 25 [(.slice x1 l2 c3), (.slice x4 l5 c6)] fun B9 =>
    RDL (Addr.add ⟨B9, 0, none⟩ 0) fun x10 l11 c12 =>
      RDL (Addr.add ⟨B9, 0, none⟩ 1) fun x13 l14 c15 =>
        RDL (Addr.add ⟨B9, 0, none⟩ 0) fun x16 l17 c18 =>
          RDL (Addr.add ⟨B9, 0, none⟩ 1) fun x19 l20 c21 =>
            CALL Pg W F_ref13_Man [(.agg #[(.slice x16 l17 c18), (.slice x19 l20 c21)]), (.int .i64 n7)]
              (fun v22 => TYB v22 fun b24 =>
                ANDS (RDL (Addr.add ⟨B9, 0, none⟩ 0) fun x25 l26 c27 =>
                  RDL (Addr.add ⟨B9, 0, none⟩ 1) fun x28 l29 c30 =>
                    fun _ => ((.agg #[(.slice x25 l26 c27), (.slice x28 l29 c30)]) : Value) = (.agg #[(.slice x10 l11 c12), (.slice x13 l14 c15)])) <|
                  BR b24
                    (RDL (Addr.add ⟨B9, 0, none⟩ 0) fun x31 l32 c33 =>
                      RDL (Addr.add ⟨B9, 0, none⟩ 1) fun x34 l35 c36 =>
                        CALL Pg W F_ref13_Prize [(.agg #[(.slice x31 l32 c33), (.slice x34 l35 c36)]), (.int .i64 n8)]
                          (fun v37 => TYB v37 fun b39 =>
                            ANDS (RDL (Addr.add ⟨B9, 0, none⟩ 0) fun x40 l41 c42 =>
                              RDL (Addr.add ⟨B9, 0, none⟩ 1) fun x43 l44 c45 =>
                                fun _ => ((.agg #[(.slice x40 l41 c42), (.slice x43 l44 c45)]) : Value) = (.agg #[(.slice x10 l11 c12), (.slice x13 l14 c15)])) <|
                              J_ref13_Can_0 W R x10 l11 c12 x13 l14 c15 b39 B9 n7 n8)
                            (fun e38 => R (.panicked e38)))
                    (J_ref13_Can_0 W R x10 l11 c12 x13 l14 c15 false B9 n7 n8))
                (fun e23 => R (.panicked e23))
theorem T_ref13_Can_eq (W : World) (x1 : Option Addr) (l2 : Nat) (c3 : Nat) (x4 : Option Addr) (l5 : Nat) (c6 : Nat) (n7 : Int) (n8 : Int) (R : Ending → Hp → Prop) : vfun Pg W an_16 Try.f16 [(.agg #[(.slice x1 l2 c3), (.slice x4 l5 c6)]), (.int .i64 n7), (.int .i64 n8)] R = T_ref13_Can W x1 l2 c3 x4 l5 c6 n7 n8 R := by kernel_rfl
theorem does_ref13_Can (W : World) (x1 : Option Addr) (l2 : Nat) (c3 : Nat) (x4 : Option Addr) (l5 : Nat) (c6 : Nat) (n7 : Int) (n8 : Int) (R : Ending → Hp → Prop) (s : Hp) (h : T_ref13_Can W x1 l2 c3 x4 l5 c6 n7 n8 R s) : Does Pg W F_ref13_Can #[(.agg #[(.slice x1 l2 c3), (.slice x4 l5 c6)]), (.int .i64 n7), (.int .i64 n8)] s R :=
  does_of_vfun Pg W an_16 Try.func16 rfl (by kernel_rfl) (by rw [T_ref13_Can_eq]; exact h)
def an_18 : Nat → Ann := fun b => match b with
  | _ => {}
abbrev rv_18 : List ResultVar := [.tmp 2, .tmp 3]
abbrev rs_18 : List Nat := [12, 2, 3]
def T_ref13_Due (W : World) (x1 : Option Addr) (l2 : Nat) (c3 : Nat) (x4 : Option Addr) (l5 : Nat) (c6 : Nat) (R : Ending → Hp → Prop) : Hp → Prop :=
  NEW 25 [(.slice x1 l2 c3), (.slice x4 l5 c6)] fun B7 =>
    RDL (Addr.add ⟨B7, 0, none⟩ 0) fun x8 l9 c10 =>
      RDL (Addr.add ⟨B7, 0, none⟩ 1) fun x11 l12 c13 =>
        CALL Pg W F_ref13_check [(.agg #[(.slice x8 l9 c10), (.slice x11 l12 c13)]), (.bool true)]
          (fun v14 => TYI .i64 v14 fun n16 =>
            BR (n16 != 0)
              (R (.returned (.tuple #[(.slice none 0 0), (.int .i64 n16)])))
              (RDL (Addr.add ⟨B7, 0, none⟩ 0) fun x17 l18 c19 =>
                RDL (Addr.add ⟨B7, 0, none⟩ 1) fun x20 l21 c22 =>
                  CALL Pg W F_ref13_due [(.agg #[(.slice x17 l18 c19), (.slice x20 l21 c22)])]
                    (fun v23 => TYL v23 fun x25 l26 c27 =>
                      R (.returned (.tuple #[(.slice x25 l26 c27), (.int .i64 0)])))
                      (fun e24 => R (.panicked e24))))
            (fun e15 => R (.panicked e15))
theorem T_ref13_Due_eq (W : World) (x1 : Option Addr) (l2 : Nat) (c3 : Nat) (x4 : Option Addr) (l5 : Nat) (c6 : Nat) (R : Ending → Hp → Prop) : vfun Pg W an_18 Try.f18 [(.agg #[(.slice x1 l2 c3), (.slice x4 l5 c6)])] R = T_ref13_Due W x1 l2 c3 x4 l5 c6 R := by kernel_rfl
theorem does_ref13_Due (W : World) (x1 : Option Addr) (l2 : Nat) (c3 : Nat) (x4 : Option Addr) (l5 : Nat) (c6 : Nat) (R : Ending → Hp → Prop) (s : Hp) (h : T_ref13_Due W x1 l2 c3 x4 l5 c6 R s) : Does Pg W F_ref13_Due #[(.agg #[(.slice x1 l2 c3), (.slice x4 l5 c6)])] s R :=
  does_of_vfun Pg W an_18 Try.func18 rfl (by kernel_rfl) (by rw [T_ref13_Due_eq]; exact h)
def an_20 : Nat → Ann := fun b => match b with
  | 0 => { ms := [4, 5, 6, 9], ks := [.i .i64, .i .i64, .i .i64, .i .i64], us := [1, 8, 40], rt := false, ex := [] }
  | _ => {}
abbrev rv_20 : List ResultVar := [.tmp 4, .tmp 5, .tmp 6]
abbrev rs_20 : List Nat := [40, 4, 5, 6]
def L_ref13_Wrong_0 (W : World) (R : Ending → Hp → Prop) (zp0 : Option Addr) (zl1 : Nat) (zl2 : Nat) (zp3 : Option Addr) (zl4 : Nat) (zl5 : Nat) (n46 : Int) (n47 : Int) (n48 : Int) (n49 : Int) : Hp → Prop :=
  LOOPN [.i .i64, .i .i64, .i .i64, .i .i64] (fun ys next s => ∀ j : Tm, vc Pg W 40 rs_20 an_20 false (sub (bodyOf Try.f20) [1, 1, 1, 1, 0, 1, 0, 0]) 0 (KLoop [4, 5, 6, 9] [1, 8, 40] [(.slice zp0 zl1 zl2), (.slice zp3 zl4 zl5), (.tuple #[])] next (KBlk 0 (KS Pg W 40 rs_20 an_20 false (sub (bodyOf Try.f20) [1, 1, 1, 1, 1]) 0 (fin Pg W 40 rv_20 R)))) (known [4, 5, 6, 9] ys (known [1, 8, 40] [(.slice zp0 zl1 zl2), (.slice zp3 zl4 zl5), (.tuple #[])] j)) s) [(.int .i64 n46), (.int .i64 n47), (.int .i64 n48), (.int .i64 n49)]
def B_ref13_Wrong_0 (W : World) (R : Ending → Hp → Prop) (zp0 : Option Addr) (zl1 : Nat) (zl2 : Nat) (zp3 : Option Addr) (zl4 : Nat) (zl5 : Nat) (n46 : Int) (n47 : Int) (n48 : Int) (n49 : Int) (nx0 : List Value → Hp → Prop) : Hp → Prop :=
  BR (decide (n49 < (↑zl1 : Int)))
    (IXS zp0 zl1 n49 1 fun a50 =>
      RDI .i64 a50 fun n51 =>
        IXS zp3 zl4 n49 1 fun a52 =>
          RDI .i64 a52 fun n53 =>
            BR (n51 != n53)
              (IXS zp3 zl4 n49 1 fun a54 =>
                RDI .i64 a54 fun n55 =>
                  ANDS (RDI .i64 a54 fun n56 =>
                    fun _ => ((.int .i64 n56) : Value) = (.int .i64 n55)) <|
                    R (.returned (.tuple #[(.int .i64 n49), (.int .i64 n55), (.int .i64 0)])))
              (NX [(.slice zp0 zl1 zl2), (.slice zp3 zl4 zl5), (.tuple #[])] [(.slice zp0 zl1 zl2), (.slice zp3 zl4 zl5), (.tuple #[])] (nx0 [(.int .i64 n46), (.int .i64 n47), (.int .i64 n48), (.int .i64 (IntKind.wrap .i64 (n49 + 1)))])))
    (R (.returned (.tuple #[(.int .i64 0), (.int .i64 0), (.int .i64 4)])))
theorem B_ref13_Wrong_0_eq (W : World) (R : Ending → Hp → Prop) (zp0 : Option Addr) (zl1 : Nat) (zl2 : Nat) (zp3 : Option Addr) (zl4 : Nat) (zl5 : Nat) (n46 : Int) (n47 : Int) (n48 : Int) (n49 : Int) (nx0 : List Value → Hp → Prop) (j : Tm) : vc Pg W 40 rs_20 an_20 false (sub (bodyOf Try.f20) [1, 1, 1, 1, 0, 1, 0, 0]) 0 (KLoop [4, 5, 6, 9] [1, 8, 40] [(.slice zp0 zl1 zl2), (.slice zp3 zl4 zl5), (.tuple #[])] nx0 (KBlk 0 (KS Pg W 40 rs_20 an_20 false (sub (bodyOf Try.f20) [1, 1, 1, 1, 1]) 0 (fin Pg W 40 rv_20 R)))) (known [4, 5, 6, 9] [(.int .i64 n46), (.int .i64 n47), (.int .i64 n48), (.int .i64 n49)] (known [1, 8, 40] [(.slice zp0 zl1 zl2), (.slice zp3 zl4 zl5), (.tuple #[])] j)) = B_ref13_Wrong_0 W R zp0 zl1 zl2 zp3 zl4 zl5 n46 n47 n48 n49 nx0 := by kernel_rfl
def N_ref13_Wrong_0 (I : Int → Int → Int → Int → Hp → Prop) (μ : Int → Int → Int → Int → Hp → Nat) (n460 : Int) (n470 : Int) (n480 : Int) (n490 : Int) (s : Hp) (vs : List Value) : Hp → Prop := fun s' => ∃ n46 n47 n48 n49, vs = [(.int .i64 n46), (.int .i64 n47), (.int .i64 n48), (.int .i64 n49)] ∧ I n46 n47 n48 n49 s' ∧ μ n46 n47 n48 n49 s' < μ n460 n470 n480 n490 s
theorem L_ref13_Wrong_0_rule (W : World) (R : Ending → Hp → Prop) (zp0 : Option Addr) (zl1 : Nat) (zl2 : Nat) (zp3 : Option Addr) (zl4 : Nat) (zl5 : Nat) (I : Int → Int → Int → Int → Hp → Prop) (μ : Int → Int → Int → Int → Hp → Nat) (n460 : Int) (n470 : Int) (n480 : Int) (n490 : Int) (s : Hp) (h0 : I n460 n470 n480 n490 s)
    (hr : ∀ (n46 : Int) (n47 : Int) (n48 : Int) (n49 : Int) (s : Hp), I n46 n47 n48 n49 s → B_ref13_Wrong_0 W R zp0 zl1 zl2 zp3 zl4 zl5 n46 n47 n48 n49 (fun vs => N_ref13_Wrong_0 I μ n46 n47 n48 n49 s vs) s) : L_ref13_Wrong_0 W R zp0 zl1 zl2 zp3 zl4 zl5 n460 n470 n480 n490 s := by
  refine ⟨fun vs s => ∃ n46 n47 n48 n49, vs = [(.int .i64 n46), (.int .i64 n47), (.int .i64 n48), (.int .i64 n49)] ∧ I n46 n47 n48 n49 s, fun vs s => (match vs with | [.int _ n46, .int _ n47, .int _ n48, .int _ n49] => μ n46 n47 n48 n49 s | _ => 0), ⟨⟨⟨_, rfl⟩, ⟨⟨_, rfl⟩, ⟨⟨_, rfl⟩, ⟨⟨_, rfl⟩, trivial⟩⟩⟩⟩, ⟨_, _, _, _, rfl, h0⟩⟩, ?_⟩
  intro n46 n47 n48 n49 s hI j
  obtain ⟨n46', n47', n48', n49', hy, hI⟩ := hI
  have hI' : I n46 n47 n48 n49 s := by cases hy; exact hI
  have hh := hr n46 n47 n48 n49 s hI'
  rw [← B_ref13_Wrong_0_eq W R zp0 zl1 zl2 zp3 zl4 zl5 n46 n47 n48 n49 _ j] at hh
  refine vc_mono ?_ _ _ hh
  exact KLoop_mono (fun vs s' h => by obtain ⟨n461, n471, n481, n491, rfl, h1, h2⟩ := h; exact ⟨⟨⟨_, rfl⟩, ⟨⟨_, rfl⟩, ⟨⟨_, rfl⟩, ⟨⟨_, rfl⟩, trivial⟩⟩⟩⟩, ⟨_, _, _, _, rfl, h1⟩, h2⟩)
def T_ref13_Wrong (W : World) (x1 : Option Addr) (l2 : Nat) (c3 : Nat) (x4 : Option Addr) (l5 : Nat) (c6 : Nat) (x7 : Option Addr) (l8 : Nat) (c9 : Nat) (R : Ending → Hp → Prop) : Hp → Prop :=
  NEW 25 [(.slice x1 l2 c3), (.slice x4 l5 c6)] fun B10 =>
    RDL (Addr.add ⟨B10, 0, none⟩ 0) fun x11 l12 c13 =>
      RDL (Addr.add ⟨B10, 0, none⟩ 1) fun x14 l15 c16 =>
        RDL (Addr.add ⟨B10, 0, none⟩ 0) fun x17 l18 c19 =>
          RDL (Addr.add ⟨B10, 0, none⟩ 1) fun x20 l21 c22 =>
            CALL Pg W F_ref13_Giving [(.agg #[(.slice x17 l18 c19), (.slice x20 l21 c22)]), (.slice x7 l8 c9)]
              (fun v23 => TYB v23 fun b25 =>
                ANDS (RDL (Addr.add ⟨B10, 0, none⟩ 0) fun x26 l27 c28 =>
                  RDL (Addr.add ⟨B10, 0, none⟩ 1) fun x29 l30 c31 =>
                    fun _ => ((.agg #[(.slice x26 l27 c28), (.slice x29 l30 c31)]) : Value) = (.agg #[(.slice x11 l12 c13), (.slice x14 l15 c16)])) <|
                  CALL Pg W F_ref13_check [(.agg #[(.slice x11 l12 c13), (.slice x14 l15 c16)]), (.bool b25)]
                    (fun v32 => TYI .i64 v32 fun n34 =>
                      BR (n34 != 0)
                        (R (.returned (.tuple #[(.int .i64 0), (.int .i64 0), (.int .i64 n34)])))
                        (RDL (Addr.add ⟨B10, 0, none⟩ 0) fun x35 l36 c37 =>
                          RDL (Addr.add ⟨B10, 0, none⟩ 1) fun x38 l39 c40 =>
                            CALL Pg W F_ref13_due [(.agg #[(.slice x35 l36 c37), (.slice x38 l39 c40)])]
                              (fun v41 => TYL v41 fun x43 l44 c45 =>
                                L_ref13_Wrong_0 W R x7 l8 c9 x43 l44 c45 0 0 0 0)
                                (fun e42 => R (.panicked e42))))
                      (fun e33 => R (.panicked e33)))
                (fun e24 => R (.panicked e24))
theorem T_ref13_Wrong_eq (W : World) (x1 : Option Addr) (l2 : Nat) (c3 : Nat) (x4 : Option Addr) (l5 : Nat) (c6 : Nat) (x7 : Option Addr) (l8 : Nat) (c9 : Nat) (R : Ending → Hp → Prop) : vfun Pg W an_20 Try.f20 [(.agg #[(.slice x1 l2 c3), (.slice x4 l5 c6)]), (.slice x7 l8 c9)] R = T_ref13_Wrong W x1 l2 c3 x4 l5 c6 x7 l8 c9 R := by kernel_rfl
theorem does_ref13_Wrong (W : World) (x1 : Option Addr) (l2 : Nat) (c3 : Nat) (x4 : Option Addr) (l5 : Nat) (c6 : Nat) (x7 : Option Addr) (l8 : Nat) (c9 : Nat) (R : Ending → Hp → Prop) (s : Hp) (h : T_ref13_Wrong W x1 l2 c3 x4 l5 c6 x7 l8 c9 R s) : Does Pg W F_ref13_Wrong #[(.agg #[(.slice x1 l2 c3), (.slice x4 l5 c6)]), (.slice x7 l8 c9)] s R :=
  does_of_vfun Pg W an_20 Try.func20 rfl (by kernel_rfl) (by rw [T_ref13_Wrong_eq]; exact h)
def an_22 : Nat → Ann := fun b => match b with
  | _ => {}
abbrev rv_22 : List ResultVar := [.tmp 2, .tmp 3, .tmp 4]
abbrev rs_22 : List Nat := [20, 2, 3, 4]
def T_ref13_Club (W : World) (x1 : Option Addr) (l2 : Nat) (c3 : Nat) (x4 : Option Addr) (l5 : Nat) (c6 : Nat) (R : Ending → Hp → Prop) : Hp → Prop :=
  NEW 25 [(.slice x1 l2 c3), (.slice x4 l5 c6)] fun B7 =>
    RDL (Addr.add ⟨B7, 0, none⟩ 0) fun x8 l9 c10 =>
      RDL (Addr.add ⟨B7, 0, none⟩ 1) fun x11 l12 c13 =>
        CALL Pg W F_ref13_check [(.agg #[(.slice x8 l9 c10), (.slice x11 l12 c13)]), (.bool true)]
          (fun v14 => TYI .i64 v14 fun n16 =>
            BR (n16 != 0)
              (R (.returned (.tuple #[(.int .i64 0), (.int .i64 0), (.int .i64 n16)])))
              (RDL (Addr.add ⟨B7, 0, none⟩ 0) fun x17 l18 c19 =>
                RDL (Addr.add ⟨B7, 0, none⟩ 1) fun x20 l21 c22 =>
                  CALL Pg W F_ref13_best [(.agg #[(.slice x17 l18 c19), (.slice x20 l21 c22)])]
                    (fun v23 => TYI .i64 v23 fun n25 =>
                      BR (n25 == 0)
                        (R (.returned (.tuple #[(.int .i64 0), (.int .i64 0), (.int .i64 4)])))
                        (RDL (Addr.add ⟨B7, 0, none⟩ 0) fun x26 l27 c28 =>
                          RDL (Addr.add ⟨B7, 0, none⟩ 1) fun x29 l30 c31 =>
                            CALL Pg W F_ref13_sum [(.agg #[(.slice x26 l27 c28), (.slice x29 l30 c31)]), (.int .i64 n25)]
                              (fun v32 => TYI .i64 v32 fun n34 =>
                                R (.returned (.tuple #[(.int .i64 n25), (.int .i64 n34), (.int .i64 0)])))
                                (fun e33 => R (.panicked e33))))
                      (fun e24 => R (.panicked e24))))
            (fun e15 => R (.panicked e15))
theorem T_ref13_Club_eq (W : World) (x1 : Option Addr) (l2 : Nat) (c3 : Nat) (x4 : Option Addr) (l5 : Nat) (c6 : Nat) (R : Ending → Hp → Prop) : vfun Pg W an_22 Try.f22 [(.agg #[(.slice x1 l2 c3), (.slice x4 l5 c6)])] R = T_ref13_Club W x1 l2 c3 x4 l5 c6 R := by kernel_rfl
theorem does_ref13_Club (W : World) (x1 : Option Addr) (l2 : Nat) (c3 : Nat) (x4 : Option Addr) (l5 : Nat) (c6 : Nat) (R : Ending → Hp → Prop) (s : Hp) (h : T_ref13_Club W x1 l2 c3 x4 l5 c6 R s) : Does Pg W F_ref13_Club #[(.agg #[(.slice x1 l2 c3), (.slice x4 l5 c6)])] s R :=
  does_of_vfun Pg W an_22 Try.func22 rfl (by kernel_rfl) (by rw [T_ref13_Club_eq]; exact h)
def an_24 : Nat → Ann := fun b => match b with
  | 0 => { ms := [9, 10], ks := [.i .i64, .i .i64], us := [4, 5, 6, 8, 40], rt := false, ex := [] }
  | _ => {}
abbrev rv_24 : List ResultVar := [.tmp 4, .tmp 5, .tmp 6]
abbrev rs_24 : List Nat := [40, 4, 5, 6]
def L_ref13_Worth_0 (W : World) (R : Ending → Hp → Prop) (zp0 : Option Addr) (zl1 : Nat) (zl2 : Nat) (n55 : Int) (n56 : Int) : Hp → Prop :=
  LOOPN [.i .i64, .i .i64] (fun ys next s => ∀ j : Tm, vc Pg W 40 rs_24 an_24 false (sub (bodyOf Try.f24) [1, 1, 1, 1, 1, 1, 0, 1, 0, 0]) 0 (KLoop [9, 10] [4, 5, 6, 8, 40] [(.slice none 0 0), (.int .i64 0), (.int .i64 0), (.slice zp0 zl1 zl2), (.tuple #[])] next (KBlk 0 (KS Pg W 40 rs_24 an_24 false (sub (bodyOf Try.f24) [1, 1, 1, 1, 1, 1, 1]) 0 (fin Pg W 40 rv_24 R)))) (known [9, 10] ys (known [4, 5, 6, 8, 40] [(.slice none 0 0), (.int .i64 0), (.int .i64 0), (.slice zp0 zl1 zl2), (.tuple #[])] j)) s) [(.int .i64 n55), (.int .i64 n56)]
def B_ref13_Worth_0 (W : World) (R : Ending → Hp → Prop) (zp0 : Option Addr) (zl1 : Nat) (zl2 : Nat) (n55 : Int) (n56 : Int) (nx0 : List Value → Hp → Prop) : Hp → Prop :=
  BR (decide (n56 < (↑zl1 : Int)))
    (IXS zp0 zl1 n56 1 fun a57 =>
      RDI .i64 a57 fun n58 =>
        NX [(.slice none 0 0), (.int .i64 0), (.int .i64 0), (.slice zp0 zl1 zl2), (.tuple #[])] [(.slice none 0 0), (.int .i64 0), (.int .i64 0), (.slice zp0 zl1 zl2), (.tuple #[])] (nx0 [(.int .i64 (IntKind.wrap .i64 (n55 + n58))), (.int .i64 (IntKind.wrap .i64 (n56 + 1)))]))
    (R (.returned (.tuple #[(.slice zp0 zl1 zl2), (.int .i64 n55), (.int .i64 0)])))
theorem B_ref13_Worth_0_eq (W : World) (R : Ending → Hp → Prop) (zp0 : Option Addr) (zl1 : Nat) (zl2 : Nat) (n55 : Int) (n56 : Int) (nx0 : List Value → Hp → Prop) (j : Tm) : vc Pg W 40 rs_24 an_24 false (sub (bodyOf Try.f24) [1, 1, 1, 1, 1, 1, 0, 1, 0, 0]) 0 (KLoop [9, 10] [4, 5, 6, 8, 40] [(.slice none 0 0), (.int .i64 0), (.int .i64 0), (.slice zp0 zl1 zl2), (.tuple #[])] nx0 (KBlk 0 (KS Pg W 40 rs_24 an_24 false (sub (bodyOf Try.f24) [1, 1, 1, 1, 1, 1, 1]) 0 (fin Pg W 40 rv_24 R)))) (known [9, 10] [(.int .i64 n55), (.int .i64 n56)] (known [4, 5, 6, 8, 40] [(.slice none 0 0), (.int .i64 0), (.int .i64 0), (.slice zp0 zl1 zl2), (.tuple #[])] j)) = B_ref13_Worth_0 W R zp0 zl1 zl2 n55 n56 nx0 := by kernel_rfl
def N_ref13_Worth_0 (I : Int → Int → Hp → Prop) (μ : Int → Int → Hp → Nat) (n550 : Int) (n560 : Int) (s : Hp) (vs : List Value) : Hp → Prop := fun s' => ∃ n55 n56, vs = [(.int .i64 n55), (.int .i64 n56)] ∧ I n55 n56 s' ∧ μ n55 n56 s' < μ n550 n560 s
theorem L_ref13_Worth_0_rule (W : World) (R : Ending → Hp → Prop) (zp0 : Option Addr) (zl1 : Nat) (zl2 : Nat) (I : Int → Int → Hp → Prop) (μ : Int → Int → Hp → Nat) (n550 : Int) (n560 : Int) (s : Hp) (h0 : I n550 n560 s)
    (hr : ∀ (n55 : Int) (n56 : Int) (s : Hp), I n55 n56 s → B_ref13_Worth_0 W R zp0 zl1 zl2 n55 n56 (fun vs => N_ref13_Worth_0 I μ n55 n56 s vs) s) : L_ref13_Worth_0 W R zp0 zl1 zl2 n550 n560 s := by
  refine ⟨fun vs s => ∃ n55 n56, vs = [(.int .i64 n55), (.int .i64 n56)] ∧ I n55 n56 s, fun vs s => (match vs with | [.int _ n55, .int _ n56] => μ n55 n56 s | _ => 0), ⟨⟨⟨_, rfl⟩, ⟨⟨_, rfl⟩, trivial⟩⟩, ⟨_, _, rfl, h0⟩⟩, ?_⟩
  intro n55 n56 s hI j
  obtain ⟨n55', n56', hy, hI⟩ := hI
  have hI' : I n55 n56 s := by cases hy; exact hI
  have hh := hr n55 n56 s hI'
  rw [← B_ref13_Worth_0_eq W R zp0 zl1 zl2 n55 n56 _ j] at hh
  refine vc_mono ?_ _ _ hh
  exact KLoop_mono (fun vs s' h => by obtain ⟨n551, n561, rfl, h1, h2⟩ := h; exact ⟨⟨⟨_, rfl⟩, ⟨⟨_, rfl⟩, trivial⟩⟩, ⟨_, _, rfl, h1⟩, h2⟩)
def T_ref13_Worth (W : World) (x1 : Option Addr) (l2 : Nat) (c3 : Nat) (x4 : Option Addr) (l5 : Nat) (c6 : Nat) (x7 : Option Addr) (l8 : Nat) (c9 : Nat) (R : Ending → Hp → Prop) : Hp → Prop :=
  NEW 25 [(.slice x1 l2 c3), (.slice x4 l5 c6)] fun B10 =>
    RDL (Addr.add ⟨B10, 0, none⟩ 0) fun x11 l12 c13 =>
      RDL (Addr.add ⟨B10, 0, none⟩ 1) fun x14 l15 c16 =>
        RDL (Addr.add ⟨B10, 0, none⟩ 0) fun x17 l18 c19 =>
          RDL (Addr.add ⟨B10, 0, none⟩ 1) fun x20 l21 c22 =>
            CALL Pg W F_ref13_Giving [(.agg #[(.slice x17 l18 c19), (.slice x20 l21 c22)]), (.slice x7 l8 c9)]
              (fun v23 => TYB v23 fun b25 =>
                ANDS (RDL (Addr.add ⟨B10, 0, none⟩ 0) fun x26 l27 c28 =>
                  RDL (Addr.add ⟨B10, 0, none⟩ 1) fun x29 l30 c31 =>
                    fun _ => ((.agg #[(.slice x26 l27 c28), (.slice x29 l30 c31)]) : Value) = (.agg #[(.slice x11 l12 c13), (.slice x14 l15 c16)])) <|
                  CALL Pg W F_ref13_check [(.agg #[(.slice x11 l12 c13), (.slice x14 l15 c16)]), (.bool b25)]
                    (fun v32 => TYI .i64 v32 fun n34 =>
                      BR (n34 != 0)
                        (R (.returned (.tuple #[(.slice none 0 0), (.int .i64 0), (.int .i64 n34)])))
                        (RDL (Addr.add ⟨B10, 0, none⟩ 0) fun x35 l36 c37 =>
                          RDL (Addr.add ⟨B10, 0, none⟩ 1) fun x38 l39 c40 =>
                            CALL Pg W F_ref13_Fair [(.agg #[(.slice x35 l36 c37), (.slice x38 l39 c40)]), (.slice x7 l8 c9)]
                              (fun v41 => TYB v41 fun b43 =>
                                BR (!b43)
                                  (R (.returned (.tuple #[(.slice none 0 0), (.int .i64 0), (.int .i64 4)])))
                                  (RDL (Addr.add ⟨B10, 0, none⟩ 0) fun x44 l45 c46 =>
                                    RDL (Addr.add ⟨B10, 0, none⟩ 1) fun x47 l48 c49 =>
                                      CALL Pg W F_ref13_worths [(.agg #[(.slice x44 l45 c46), (.slice x47 l48 c49)]), (.slice x7 l8 c9)]
                                        (fun v50 => TYL v50 fun x52 l53 c54 =>
                                          L_ref13_Worth_0 W R x52 l53 c54 0 0)
                                          (fun e51 => R (.panicked e51))))
                                (fun e42 => R (.panicked e42))))
                      (fun e33 => R (.panicked e33)))
                (fun e24 => R (.panicked e24))
theorem T_ref13_Worth_eq (W : World) (x1 : Option Addr) (l2 : Nat) (c3 : Nat) (x4 : Option Addr) (l5 : Nat) (c6 : Nat) (x7 : Option Addr) (l8 : Nat) (c9 : Nat) (R : Ending → Hp → Prop) : vfun Pg W an_24 Try.f24 [(.agg #[(.slice x1 l2 c3), (.slice x4 l5 c6)]), (.slice x7 l8 c9)] R = T_ref13_Worth W x1 l2 c3 x4 l5 c6 x7 l8 c9 R := by kernel_rfl
theorem does_ref13_Worth (W : World) (x1 : Option Addr) (l2 : Nat) (c3 : Nat) (x4 : Option Addr) (l5 : Nat) (c6 : Nat) (x7 : Option Addr) (l8 : Nat) (c9 : Nat) (R : Ending → Hp → Prop) (s : Hp) (h : T_ref13_Worth W x1 l2 c3 x4 l5 c6 x7 l8 c9 R s) : Does Pg W F_ref13_Worth #[(.agg #[(.slice x1 l2 c3), (.slice x4 l5 c6)]), (.slice x7 l8 c9)] s R :=
  does_of_vfun Pg W an_24 Try.func24 rfl (by kernel_rfl) (by rw [T_ref13_Worth_eq]; exact h)
def an_35 : Nat → Ann := fun b => match b with
  | 0 => { ms := [3, 4], ks := [.i .i64, .i .i64], us := [0, 2, 19], rt := false, ex := [] }
  | _ => {}
abbrev rv_35 : List ResultVar := [.tmp 2]
abbrev rs_35 : List Nat := [19, 2]
def L_ref13_Many_0 (W : World) (R : Ending → Hp → Prop) (zp0 : Option Addr) (zl1 : Nat) (zl2 : Nat) (n4 : Int) (n5 : Int) : Hp → Prop :=
  LOOPN [.i .i64, .i .i64] (fun ys next s => ∀ j : Tm, vc Pg W 19 rs_35 an_35 false (sub (bodyOf Try.f35) [1, 1, 0, 1, 0, 0]) 0 (KLoop [3, 4] [0, 2, 19] [(.slice zp0 zl1 zl2), (.int .i64 0), (.tuple #[])] next (KBlk 0 (KS Pg W 19 rs_35 an_35 false (sub (bodyOf Try.f35) [1, 1, 1]) 0 (fin Pg W 19 rv_35 R)))) (known [3, 4] ys (known [0, 2, 19] [(.slice zp0 zl1 zl2), (.int .i64 0), (.tuple #[])] j)) s) [(.int .i64 n4), (.int .i64 n5)]
def B_ref13_Many_0 (W : World) (R : Ending → Hp → Prop) (zp0 : Option Addr) (zl1 : Nat) (zl2 : Nat) (n4 : Int) (n5 : Int) (nx0 : List Value → Hp → Prop) : Hp → Prop :=
  BR (decide (n5 < (↑zl1 : Int)))
    (IXS zp0 zl1 n5 1 fun a6 =>
      RDI .i64 a6 fun n7 =>
        BR (decide (n7 ≥ 0))
          (NX [(.slice zp0 zl1 zl2), (.int .i64 0), (.tuple #[])] [(.slice zp0 zl1 zl2), (.int .i64 0), (.tuple #[])] (nx0 [(.int .i64 (IntKind.wrap .i64 (n4 + 1))), (.int .i64 (IntKind.wrap .i64 (n5 + 1)))]))
          (NX [(.slice zp0 zl1 zl2), (.int .i64 0), (.tuple #[])] [(.slice zp0 zl1 zl2), (.int .i64 0), (.tuple #[])] (nx0 [(.int .i64 n4), (.int .i64 (IntKind.wrap .i64 (n5 + 1)))])))
    (R (.returned (.int .i64 n4)))
theorem B_ref13_Many_0_eq (W : World) (R : Ending → Hp → Prop) (zp0 : Option Addr) (zl1 : Nat) (zl2 : Nat) (n4 : Int) (n5 : Int) (nx0 : List Value → Hp → Prop) (j : Tm) : vc Pg W 19 rs_35 an_35 false (sub (bodyOf Try.f35) [1, 1, 0, 1, 0, 0]) 0 (KLoop [3, 4] [0, 2, 19] [(.slice zp0 zl1 zl2), (.int .i64 0), (.tuple #[])] nx0 (KBlk 0 (KS Pg W 19 rs_35 an_35 false (sub (bodyOf Try.f35) [1, 1, 1]) 0 (fin Pg W 19 rv_35 R)))) (known [3, 4] [(.int .i64 n4), (.int .i64 n5)] (known [0, 2, 19] [(.slice zp0 zl1 zl2), (.int .i64 0), (.tuple #[])] j)) = B_ref13_Many_0 W R zp0 zl1 zl2 n4 n5 nx0 := by kernel_rfl
def N_ref13_Many_0 (I : Int → Int → Hp → Prop) (μ : Int → Int → Hp → Nat) (n40 : Int) (n50 : Int) (s : Hp) (vs : List Value) : Hp → Prop := fun s' => ∃ n4 n5, vs = [(.int .i64 n4), (.int .i64 n5)] ∧ I n4 n5 s' ∧ μ n4 n5 s' < μ n40 n50 s
theorem L_ref13_Many_0_rule (W : World) (R : Ending → Hp → Prop) (zp0 : Option Addr) (zl1 : Nat) (zl2 : Nat) (I : Int → Int → Hp → Prop) (μ : Int → Int → Hp → Nat) (n40 : Int) (n50 : Int) (s : Hp) (h0 : I n40 n50 s)
    (hr : ∀ (n4 : Int) (n5 : Int) (s : Hp), I n4 n5 s → B_ref13_Many_0 W R zp0 zl1 zl2 n4 n5 (fun vs => N_ref13_Many_0 I μ n4 n5 s vs) s) : L_ref13_Many_0 W R zp0 zl1 zl2 n40 n50 s := by
  refine ⟨fun vs s => ∃ n4 n5, vs = [(.int .i64 n4), (.int .i64 n5)] ∧ I n4 n5 s, fun vs s => (match vs with | [.int _ n4, .int _ n5] => μ n4 n5 s | _ => 0), ⟨⟨⟨_, rfl⟩, ⟨⟨_, rfl⟩, trivial⟩⟩, ⟨_, _, rfl, h0⟩⟩, ?_⟩
  intro n4 n5 s hI j
  obtain ⟨n4', n5', hy, hI⟩ := hI
  have hI' : I n4 n5 s := by cases hy; exact hI
  have hh := hr n4 n5 s hI'
  rw [← B_ref13_Many_0_eq W R zp0 zl1 zl2 n4 n5 _ j] at hh
  refine vc_mono ?_ _ _ hh
  exact KLoop_mono (fun vs s' h => by obtain ⟨n41, n51, rfl, h1, h2⟩ := h; exact ⟨⟨⟨_, rfl⟩, ⟨⟨_, rfl⟩, trivial⟩⟩, ⟨_, _, rfl, h1⟩, h2⟩)
def T_ref13_Many (W : World) (x1 : Option Addr) (l2 : Nat) (c3 : Nat) (R : Ending → Hp → Prop) : Hp → Prop :=
  L_ref13_Many_0 W R x1 l2 c3 0 0
theorem T_ref13_Many_eq (W : World) (x1 : Option Addr) (l2 : Nat) (c3 : Nat) (R : Ending → Hp → Prop) : vfun Pg W an_35 Try.f35 [(.slice x1 l2 c3)] R = T_ref13_Many W x1 l2 c3 R := by kernel_rfl
theorem does_ref13_Many (W : World) (x1 : Option Addr) (l2 : Nat) (c3 : Nat) (R : Ending → Hp → Prop) (s : Hp) (h : T_ref13_Many W x1 l2 c3 R s) : Does Pg W F_ref13_Many #[(.slice x1 l2 c3)] s R :=
  does_of_vfun Pg W an_35 Try.func35 rfl (by kernel_rfl) (by rw [T_ref13_Many_eq]; exact h)
def an_55 : Nat → Ann := fun b => match b with
  | 0 => { ms := [4, 5], ks := [.b, .i .i64], us := [1, 2, 45], rt := false, ex := [] }
  | _ => {}
abbrev rv_55 : List ResultVar := [.tmp 4]
abbrev rs_55 : List Nat := [45, 4]
def L_ref13_Giving_0 (W : World) (R : Ending → Hp → Prop) (zp0 : Option Addr) (zl1 : Nat) (zl2 : Nat) (za3 : Addr) (b11 : Bool) (n12 : Int) : Hp → Prop :=
  LOOPN [.b, .i .i64] (fun ys next s => ∀ j : Tm, vc Pg W 45 rs_55 an_55 false (sub (bodyOf Try.f55) [1, 0, 1, 0, 0]) 0 (KLoop [4, 5] [1, 2, 45] [(.slice zp0 zl1 zl2), (.pointer (some za3)), (.tuple #[])] next (KBlk 0 (KS Pg W 45 rs_55 an_55 false (sub (bodyOf Try.f55) [1, 1]) 0 (fin Pg W 45 rv_55 R)))) (known [4, 5] ys (known [1, 2, 45] [(.slice zp0 zl1 zl2), (.pointer (some za3)), (.tuple #[])] j)) s) [(.bool b11), (.int .i64 n12)]
def B_ref13_Giving_0 (W : World) (R : Ending → Hp → Prop) (zp0 : Option Addr) (zl1 : Nat) (zl2 : Nat) (za3 : Addr) (b11 : Bool) (n12 : Int) (nx0 : List Value → Hp → Prop) : Hp → Prop :=
  BR (decide (n12 < (↑zl1 : Int)))
    (IXS zp0 zl1 n12 1 fun a13 =>
      RDI .i64 a13 fun n14 =>
        RDL (Addr.add za3 0) fun x15 l16 c17 =>
          CALL Pg W F_ref13_in [(.int .i64 n14), (.int .i64 (-1)), (.int .i64 (IntKind.wrap .i64 ((↑l16 : Int) - 1)))]
            (fun v18 => TYB v18 fun b20 =>
              BR (!b20)
                (R (.returned (.bool false)))
                (IXS zp0 zl1 n12 1 fun a21 =>
                  RDI .i64 a21 fun n22 =>
                    BR (decide (n22 ≥ 0))
                      (IXS zp0 zl1 n12 1 fun a23 =>
                        RDI .i64 a23 fun n24 =>
                          SLS zp0 zl2 0 n12 1 fun x25 l26 c27 =>
                            ANDS (RDI .i64 a23 fun n29 =>
                              fun _ => ((.int .i64 n29) : Value) = (.int .i64 n24)) <|
                              CALL Pg W F_ref13_has [(.slice x25 l26 c27), (.int .i64 n24)]
                                (fun v30 => TYB v30 fun b32 =>
                                  BR b32
                                    (R (.returned (.bool false)))
                                    (NX [(.slice zp0 zl1 zl2), (.pointer (some za3)), (.tuple #[])] [(.slice zp0 zl1 zl2), (.pointer (some za3)), (.tuple #[])] (nx0 [(.bool b11), (.int .i64 (IntKind.wrap .i64 (n12 + 1)))])))
                                  (fun e31 => R (.panicked e31)))
                      (NX [(.slice zp0 zl1 zl2), (.pointer (some za3)), (.tuple #[])] [(.slice zp0 zl1 zl2), (.pointer (some za3)), (.tuple #[])] (nx0 [(.bool b11), (.int .i64 (IntKind.wrap .i64 (n12 + 1)))]))))
              (fun e19 => R (.panicked e19)))
    (RDL (Addr.add za3 1) fun x33 l34 c35 =>
      R (.returned (.bool ((↑zl1 : Int) == (↑l34 : Int)))))
theorem B_ref13_Giving_0_eq (W : World) (R : Ending → Hp → Prop) (zp0 : Option Addr) (zl1 : Nat) (zl2 : Nat) (za3 : Addr) (b11 : Bool) (n12 : Int) (nx0 : List Value → Hp → Prop) (j : Tm) : vc Pg W 45 rs_55 an_55 false (sub (bodyOf Try.f55) [1, 0, 1, 0, 0]) 0 (KLoop [4, 5] [1, 2, 45] [(.slice zp0 zl1 zl2), (.pointer (some za3)), (.tuple #[])] nx0 (KBlk 0 (KS Pg W 45 rs_55 an_55 false (sub (bodyOf Try.f55) [1, 1]) 0 (fin Pg W 45 rv_55 R)))) (known [4, 5] [(.bool b11), (.int .i64 n12)] (known [1, 2, 45] [(.slice zp0 zl1 zl2), (.pointer (some za3)), (.tuple #[])] j)) = B_ref13_Giving_0 W R zp0 zl1 zl2 za3 b11 n12 nx0 := by kernel_rfl
def N_ref13_Giving_0 (I : Bool → Int → Hp → Prop) (μ : Bool → Int → Hp → Nat) (b110 : Bool) (n120 : Int) (s : Hp) (vs : List Value) : Hp → Prop := fun s' => ∃ b11 n12, vs = [(.bool b11), (.int .i64 n12)] ∧ I b11 n12 s' ∧ μ b11 n12 s' < μ b110 n120 s
theorem L_ref13_Giving_0_rule (W : World) (R : Ending → Hp → Prop) (zp0 : Option Addr) (zl1 : Nat) (zl2 : Nat) (za3 : Addr) (I : Bool → Int → Hp → Prop) (μ : Bool → Int → Hp → Nat) (b110 : Bool) (n120 : Int) (s : Hp) (h0 : I b110 n120 s)
    (hr : ∀ (b11 : Bool) (n12 : Int) (s : Hp), I b11 n12 s → B_ref13_Giving_0 W R zp0 zl1 zl2 za3 b11 n12 (fun vs => N_ref13_Giving_0 I μ b11 n12 s vs) s) : L_ref13_Giving_0 W R zp0 zl1 zl2 za3 b110 n120 s := by
  refine ⟨fun vs s => ∃ b11 n12, vs = [(.bool b11), (.int .i64 n12)] ∧ I b11 n12 s, fun vs s => (match vs with | [.bool b11, .int _ n12] => μ b11 n12 s | _ => 0), ⟨⟨⟨_, rfl⟩, ⟨⟨_, rfl⟩, trivial⟩⟩, ⟨_, _, rfl, h0⟩⟩, ?_⟩
  intro b11 n12 s hI j
  obtain ⟨b11', n12', hy, hI⟩ := hI
  have hI' : I b11 n12 s := by cases hy; exact hI
  have hh := hr b11 n12 s hI'
  rw [← B_ref13_Giving_0_eq W R zp0 zl1 zl2 za3 b11 n12 _ j] at hh
  refine vc_mono ?_ _ _ hh
  exact KLoop_mono (fun vs s' h => by obtain ⟨b111, n121, rfl, h1, h2⟩ := h; exact ⟨⟨⟨_, rfl⟩, ⟨⟨_, rfl⟩, trivial⟩⟩, ⟨_, _, rfl, h1⟩, h2⟩)
def T_ref13_Giving (W : World) (x1 : Option Addr) (l2 : Nat) (c3 : Nat) (x4 : Option Addr) (l5 : Nat) (c6 : Nat) (x7 : Option Addr) (l8 : Nat) (c9 : Nat) (R : Ending → Hp → Prop) : Hp → Prop :=
  NEW 25 [(.slice x1 l2 c3), (.slice x4 l5 c6)] fun B10 =>
    L_ref13_Giving_0 W R x7 l8 c9 ⟨B10, 0, none⟩ false 0
theorem T_ref13_Giving_eq (W : World) (x1 : Option Addr) (l2 : Nat) (c3 : Nat) (x4 : Option Addr) (l5 : Nat) (c6 : Nat) (x7 : Option Addr) (l8 : Nat) (c9 : Nat) (R : Ending → Hp → Prop) : vfun Pg W an_55 Try.f55 [(.agg #[(.slice x1 l2 c3), (.slice x4 l5 c6)]), (.slice x7 l8 c9)] R = T_ref13_Giving W x1 l2 c3 x4 l5 c6 x7 l8 c9 R := by kernel_rfl
theorem does_ref13_Giving (W : World) (x1 : Option Addr) (l2 : Nat) (c3 : Nat) (x4 : Option Addr) (l5 : Nat) (c6 : Nat) (x7 : Option Addr) (l8 : Nat) (c9 : Nat) (R : Ending → Hp → Prop) (s : Hp) (h : T_ref13_Giving W x1 l2 c3 x4 l5 c6 x7 l8 c9 R s) : Does Pg W F_ref13_Giving #[(.agg #[(.slice x1 l2 c3), (.slice x4 l5 c6)]), (.slice x7 l8 c9)] s R :=
  does_of_vfun Pg W an_55 Try.func55 rfl (by kernel_rfl) (by rw [T_ref13_Giving_eq]; exact h)
def an_61 : Nat → Ann := fun b => match b with
  | 0 => { ms := [4, 5], ks := [.b, .i .i64], us := [1, 2, 27], rt := false, ex := [] }
  | _ => {}
abbrev rv_61 : List ResultVar := [.tmp 4]
abbrev rs_61 : List Nat := [27, 4]
def L_ref13_Fair_0 (W : World) (R : Ending → Hp → Prop) (zp0 : Option Addr) (zl1 : Nat) (zl2 : Nat) (za3 : Addr) (b11 : Bool) (n12 : Int) : Hp → Prop :=
  LOOPN [.b, .i .i64] (fun ys next s => ∀ j : Tm, vc Pg W 27 rs_61 an_61 false (sub (bodyOf Try.f61) [1, 0, 1, 0, 0]) 0 (KLoop [4, 5] [1, 2, 27] [(.slice zp0 zl1 zl2), (.pointer (some za3)), (.tuple #[])] next (KBlk 0 (KS Pg W 27 rs_61 an_61 false (sub (bodyOf Try.f61) [1, 1]) 0 (fin Pg W 27 rv_61 R)))) (known [4, 5] ys (known [1, 2, 27] [(.slice zp0 zl1 zl2), (.pointer (some za3)), (.tuple #[])] j)) s) [(.bool b11), (.int .i64 n12)]
def B_ref13_Fair_0 (W : World) (R : Ending → Hp → Prop) (zp0 : Option Addr) (zl1 : Nat) (zl2 : Nat) (za3 : Addr) (b11 : Bool) (n12 : Int) (nx0 : List Value → Hp → Prop) : Hp → Prop :=
  BR (decide (n12 < (↑zl1 : Int)))
    (IXS zp0 zl1 n12 1 fun a13 =>
      RDI .i64 a13 fun n14 =>
        BR (decide (n14 ≥ 0))
          (RDL (Addr.add za3 0) fun x15 l16 c17 =>
            RDL (Addr.add za3 1) fun x18 l19 c20 =>
              IXS zp0 zl1 n12 1 fun a21 =>
                RDI .i64 a21 fun n22 =>
                  CALL Pg W F_ref13_can [(.agg #[(.slice x15 l16 c17), (.slice x18 l19 c20)]), (.int .i64 n22), (.int .i64 n12)]
                    (fun v23 => TYB v23 fun b25 =>
                      BR (!b25)
                        (R (.returned (.bool false)))
                        (NX [(.slice zp0 zl1 zl2), (.pointer (some za3)), (.tuple #[])] [(.slice zp0 zl1 zl2), (.pointer (some za3)), (.tuple #[])] (nx0 [(.bool b11), (.int .i64 (IntKind.wrap .i64 (n12 + 1)))])))
                      (fun e24 => R (.panicked e24)))
          (NX [(.slice zp0 zl1 zl2), (.pointer (some za3)), (.tuple #[])] [(.slice zp0 zl1 zl2), (.pointer (some za3)), (.tuple #[])] (nx0 [(.bool b11), (.int .i64 (IntKind.wrap .i64 (n12 + 1)))])))
    (R (.returned (.bool true)))
theorem B_ref13_Fair_0_eq (W : World) (R : Ending → Hp → Prop) (zp0 : Option Addr) (zl1 : Nat) (zl2 : Nat) (za3 : Addr) (b11 : Bool) (n12 : Int) (nx0 : List Value → Hp → Prop) (j : Tm) : vc Pg W 27 rs_61 an_61 false (sub (bodyOf Try.f61) [1, 0, 1, 0, 0]) 0 (KLoop [4, 5] [1, 2, 27] [(.slice zp0 zl1 zl2), (.pointer (some za3)), (.tuple #[])] nx0 (KBlk 0 (KS Pg W 27 rs_61 an_61 false (sub (bodyOf Try.f61) [1, 1]) 0 (fin Pg W 27 rv_61 R)))) (known [4, 5] [(.bool b11), (.int .i64 n12)] (known [1, 2, 27] [(.slice zp0 zl1 zl2), (.pointer (some za3)), (.tuple #[])] j)) = B_ref13_Fair_0 W R zp0 zl1 zl2 za3 b11 n12 nx0 := by kernel_rfl
def N_ref13_Fair_0 (I : Bool → Int → Hp → Prop) (μ : Bool → Int → Hp → Nat) (b110 : Bool) (n120 : Int) (s : Hp) (vs : List Value) : Hp → Prop := fun s' => ∃ b11 n12, vs = [(.bool b11), (.int .i64 n12)] ∧ I b11 n12 s' ∧ μ b11 n12 s' < μ b110 n120 s
theorem L_ref13_Fair_0_rule (W : World) (R : Ending → Hp → Prop) (zp0 : Option Addr) (zl1 : Nat) (zl2 : Nat) (za3 : Addr) (I : Bool → Int → Hp → Prop) (μ : Bool → Int → Hp → Nat) (b110 : Bool) (n120 : Int) (s : Hp) (h0 : I b110 n120 s)
    (hr : ∀ (b11 : Bool) (n12 : Int) (s : Hp), I b11 n12 s → B_ref13_Fair_0 W R zp0 zl1 zl2 za3 b11 n12 (fun vs => N_ref13_Fair_0 I μ b11 n12 s vs) s) : L_ref13_Fair_0 W R zp0 zl1 zl2 za3 b110 n120 s := by
  refine ⟨fun vs s => ∃ b11 n12, vs = [(.bool b11), (.int .i64 n12)] ∧ I b11 n12 s, fun vs s => (match vs with | [.bool b11, .int _ n12] => μ b11 n12 s | _ => 0), ⟨⟨⟨_, rfl⟩, ⟨⟨_, rfl⟩, trivial⟩⟩, ⟨_, _, rfl, h0⟩⟩, ?_⟩
  intro b11 n12 s hI j
  obtain ⟨b11', n12', hy, hI⟩ := hI
  have hI' : I b11 n12 s := by cases hy; exact hI
  have hh := hr b11 n12 s hI'
  rw [← B_ref13_Fair_0_eq W R zp0 zl1 zl2 za3 b11 n12 _ j] at hh
  refine vc_mono ?_ _ _ hh
  exact KLoop_mono (fun vs s' h => by obtain ⟨b111, n121, rfl, h1, h2⟩ := h; exact ⟨⟨⟨_, rfl⟩, ⟨⟨_, rfl⟩, trivial⟩⟩, ⟨_, _, rfl, h1⟩, h2⟩)
def T_ref13_Fair (W : World) (x1 : Option Addr) (l2 : Nat) (c3 : Nat) (x4 : Option Addr) (l5 : Nat) (c6 : Nat) (x7 : Option Addr) (l8 : Nat) (c9 : Nat) (R : Ending → Hp → Prop) : Hp → Prop :=
  NEW 25 [(.slice x1 l2 c3), (.slice x4 l5 c6)] fun B10 =>
    L_ref13_Fair_0 W R x7 l8 c9 ⟨B10, 0, none⟩ false 0
theorem T_ref13_Fair_eq (W : World) (x1 : Option Addr) (l2 : Nat) (c3 : Nat) (x4 : Option Addr) (l5 : Nat) (c6 : Nat) (x7 : Option Addr) (l8 : Nat) (c9 : Nat) (R : Ending → Hp → Prop) : vfun Pg W an_61 Try.f61 [(.agg #[(.slice x1 l2 c3), (.slice x4 l5 c6)]), (.slice x7 l8 c9)] R = T_ref13_Fair W x1 l2 c3 x4 l5 c6 x7 l8 c9 R := by kernel_rfl
theorem does_ref13_Fair (W : World) (x1 : Option Addr) (l2 : Nat) (c3 : Nat) (x4 : Option Addr) (l5 : Nat) (c6 : Nat) (x7 : Option Addr) (l8 : Nat) (c9 : Nat) (R : Ending → Hp → Prop) (s : Hp) (h : T_ref13_Fair W x1 l2 c3 x4 l5 c6 x7 l8 c9 R s) : Does Pg W F_ref13_Fair #[(.agg #[(.slice x1 l2 c3), (.slice x4 l5 c6)]), (.slice x7 l8 c9)] s R :=
  does_of_vfun Pg W an_61 Try.func61 rfl (by kernel_rfl) (by rw [T_ref13_Fair_eq]; exact h)
def an_62 : Nat → Ann := fun b => match b with
  | 0 => { ms := [6], ks := [.i .i64], us := [1, 2, 4, 5, 35], rt := false, ex := [] }
  | _ => {}
abbrev rv_62 : List ResultVar := [.tmp 4]
abbrev rs_62 : List Nat := [35, 4]
def L_ref13_worths_0 (W : World) (R : Ending → Hp → Prop) (zp0 : Option Addr) (zl1 : Nat) (zl2 : Nat) (za3 : Addr) (za4 : Addr) (zl5 : Nat) (n15 : Int) : Hp → Prop :=
  LOOPN [.i .i64] (fun ys next s => ∀ j : Tm, vc Pg W 35 rs_62 an_62 false (sub (bodyOf Try.f62) [1, 1, 0, 1, 0, 0]) 0 (KLoop [6] [1, 2, 4, 5, 35] [(.slice zp0 zl1 zl2), (.pointer (some za3)), (.slice none 0 0), (.slice (some za4) zl5 zl5), (.tuple #[])] next (KBlk 0 (KS Pg W 35 rs_62 an_62 false (sub (bodyOf Try.f62) [1, 1, 1]) 0 (fin Pg W 35 rv_62 R)))) (known [6] ys (known [1, 2, 4, 5, 35] [(.slice zp0 zl1 zl2), (.pointer (some za3)), (.slice none 0 0), (.slice (some za4) zl5 zl5), (.tuple #[])] j)) s) [(.int .i64 n15)]
def J_ref13_worths_0 (W : World) (R : Ending → Hp → Prop) (zp0 : Option Addr) (zl1 : Nat) (zl2 : Nat) (za3 : Addr) (za4 : Addr) (zl5 : Nat) (nx0 : List Value → Hp → Prop) (n15 : Int) : Hp → Prop :=
  NX [(.slice zp0 zl1 zl2), (.pointer (some za3)), (.slice none 0 0), (.slice (some za4) zl5 zl5), (.tuple #[])] [(.slice zp0 zl1 zl2), (.pointer (some za3)), (.slice none 0 0), (.slice (some za4) zl5 zl5), (.tuple #[])] (nx0 [(.int .i64 (IntKind.wrap .i64 (n15 + 1)))])
def B_ref13_worths_0 (W : World) (R : Ending → Hp → Prop) (zp0 : Option Addr) (zl1 : Nat) (zl2 : Nat) (za3 : Addr) (za4 : Addr) (zl5 : Nat) (n15 : Int) (nx0 : List Value → Hp → Prop) : Hp → Prop :=
  BR (decide (n15 < (↑zl1 : Int)))
    (IXS zp0 zl1 n15 1 fun a16 =>
      RDI .i64 a16 fun n17 =>
        BR (decide (n17 ≥ 0))
          (IXS zp0 zl1 n15 1 fun a18 =>
            RDI .i64 a18 fun n19 =>
              RDL (Addr.add za3 1) fun x20 l21 c22 =>
                IXS x20 l21 n15 2 fun a23 =>
                  RDI .i64 (Addr.add a23 1) fun n24 =>
                    IXS (some za4) zl5 n19 1 fun a25 =>
                      WR (Addr.add a25 0) (.int .i64 n24) <|
                        J_ref13_worths_0 W R zp0 zl1 zl2 za3 za4 zl5 nx0 n15)
          (J_ref13_worths_0 W R zp0 zl1 zl2 za3 za4 zl5 nx0 n15))
    (R (.returned (.slice (some za4) zl5 zl5)))
theorem B_ref13_worths_0_eq (W : World) (R : Ending → Hp → Prop) (zp0 : Option Addr) (zl1 : Nat) (zl2 : Nat) (za3 : Addr) (za4 : Addr) (zl5 : Nat) (n15 : Int) (nx0 : List Value → Hp → Prop) (j : Tm) : vc Pg W 35 rs_62 an_62 false (sub (bodyOf Try.f62) [1, 1, 0, 1, 0, 0]) 0 (KLoop [6] [1, 2, 4, 5, 35] [(.slice zp0 zl1 zl2), (.pointer (some za3)), (.slice none 0 0), (.slice (some za4) zl5 zl5), (.tuple #[])] nx0 (KBlk 0 (KS Pg W 35 rs_62 an_62 false (sub (bodyOf Try.f62) [1, 1, 1]) 0 (fin Pg W 35 rv_62 R)))) (known [6] [(.int .i64 n15)] (known [1, 2, 4, 5, 35] [(.slice zp0 zl1 zl2), (.pointer (some za3)), (.slice none 0 0), (.slice (some za4) zl5 zl5), (.tuple #[])] j)) = B_ref13_worths_0 W R zp0 zl1 zl2 za3 za4 zl5 n15 nx0 := by kernel_rfl
def N_ref13_worths_0 (I : Int → Hp → Prop) (μ : Int → Hp → Nat) (n150 : Int) (s : Hp) (vs : List Value) : Hp → Prop := fun s' => ∃ n15, vs = [(.int .i64 n15)] ∧ I n15 s' ∧ μ n15 s' < μ n150 s
theorem L_ref13_worths_0_rule (W : World) (R : Ending → Hp → Prop) (zp0 : Option Addr) (zl1 : Nat) (zl2 : Nat) (za3 : Addr) (za4 : Addr) (zl5 : Nat) (I : Int → Hp → Prop) (μ : Int → Hp → Nat) (n150 : Int) (s : Hp) (h0 : I n150 s)
    (hr : ∀ (n15 : Int) (s : Hp), I n15 s → B_ref13_worths_0 W R zp0 zl1 zl2 za3 za4 zl5 n15 (fun vs => N_ref13_worths_0 I μ n15 s vs) s) : L_ref13_worths_0 W R zp0 zl1 zl2 za3 za4 zl5 n150 s := by
  refine ⟨fun vs s => ∃ n15, vs = [(.int .i64 n15)] ∧ I n15 s, fun vs s => (match vs with | [.int _ n15] => μ n15 s | _ => 0), ⟨⟨⟨_, rfl⟩, trivial⟩, ⟨_, rfl, h0⟩⟩, ?_⟩
  intro n15 s hI j
  obtain ⟨n15', hy, hI⟩ := hI
  have hI' : I n15 s := by cases hy; exact hI
  have hh := hr n15 s hI'
  rw [← B_ref13_worths_0_eq W R zp0 zl1 zl2 za3 za4 zl5 n15 _ j] at hh
  refine vc_mono ?_ _ _ hh
  exact KLoop_mono (fun vs s' h => by obtain ⟨n151, rfl, h1, h2⟩ := h; exact ⟨⟨⟨_, rfl⟩, trivial⟩, ⟨_, rfl, h1⟩, h2⟩)
def T_ref13_worths (W : World) (x1 : Option Addr) (l2 : Nat) (c3 : Nat) (x4 : Option Addr) (l5 : Nat) (c6 : Nat) (x7 : Option Addr) (l8 : Nat) (c9 : Nat) (R : Ending → Hp → Prop) : Hp → Prop :=
  NEW 25 [(.slice x1 l2 c3), (.slice x4 l5 c6)] fun B10 =>
    RDL (Addr.add ⟨B10, 0, none⟩ 0) fun x11 l12 c13 =>
      MKS Pg 3 (↑l12 : Int) (↑l12 : Int) fun B14 =>
        L_ref13_worths_0 W R x7 l8 c9 ⟨B10, 0, none⟩ ⟨B14, 0, none⟩ (Int.toNat (↑l12 : Int)) 0
theorem T_ref13_worths_eq (W : World) (x1 : Option Addr) (l2 : Nat) (c3 : Nat) (x4 : Option Addr) (l5 : Nat) (c6 : Nat) (x7 : Option Addr) (l8 : Nat) (c9 : Nat) (R : Ending → Hp → Prop) : vfun Pg W an_62 Try.f62 [(.agg #[(.slice x1 l2 c3), (.slice x4 l5 c6)]), (.slice x7 l8 c9)] R = T_ref13_worths W x1 l2 c3 x4 l5 c6 x7 l8 c9 R := by kernel_rfl
theorem does_ref13_worths (W : World) (x1 : Option Addr) (l2 : Nat) (c3 : Nat) (x4 : Option Addr) (l5 : Nat) (c6 : Nat) (x7 : Option Addr) (l8 : Nat) (c9 : Nat) (R : Ending → Hp → Prop) (s : Hp) (h : T_ref13_worths W x1 l2 c3 x4 l5 c6 x7 l8 c9 R s) : Does Pg W F_ref13_worths #[(.agg #[(.slice x1 l2 c3), (.slice x4 l5 c6)]), (.slice x7 l8 c9)] s R :=
  does_of_vfun Pg W an_62 Try.func62 rfl (by kernel_rfl) (by rw [T_ref13_worths_eq]; exact h)
end Go.Proofs.Ytfaeokcbfnlgbaa.G

/- The document's functions of layer 13: Can, Due, Wrong, Club, Worth. -/
set_option linter.unusedSimpArgs false
set_option linter.unusedVariables false
set_option maxRecDepth 20000
namespace Go.Proofs.Ytfaeokcbfnlgbaa.G
open Go.V
section
variable {W : World} {K : VK} {E : List PanicEntry → Hp → Prop} {s : Hp} {T : PT}
theorem row_take {q : Option Addr} {ds : List Int} {k : Nat} (h : RowAt s q (ints ds)) : RowAt s (q.map (·.add ((0 : Int).toNat * 1))) (ints (ds.take k)) := fun i hi => by
  rw [ints_len, List.length_take] at hi
  obtain ⟨a, h1, h2⟩ := h i (by rw [ints_len]; omega)
  refine ⟨a, by rw [h1]; rfl, ?_⟩
  rw [ints_get] at h2 ⊢
  rw [List.getElem_take]
  exact h2
theorem f_Giving {x y q : Option Addr} {c c' cq : Nat} {ds : List Int} (h4 : T.n ≤ 100000) (hl : ds.length ≤ 100000) (hc : ds.length ≤ cq) (hq : RowAt s q (ints ds)) (h : ∀ s', Ext s s' → K (.bool (gvP T ds)) s') :
    CALL Pg W F_ref13_Giving [.agg #[.slice x T.n c, .slice y T.z c'], .slice q ds.length cq] K E s := by
  refine does_ref13_Giving W x T.n c y T.z c' q ds.length cq _ s ?_
  unfold T_ref13_Giving
  refine ne2 fun s1 e1 z1 o1 o2 => ?_
  have no : gvS T [] ds = false → ∀ t, Ext s1 t → (endK K E) (.returned (.bool false)) t := fun hf t et => by
    have := h t (e1.trans et)
    unfold gvP at this
    rw [hf, Bool.and_false] at this; exact this
  refine L_ref13_Giving_0_rule W _ q ds.length cq ⟨s.size, 0, none⟩ (fun _ n t => Ext s1 t ∧ ∃ k : Nat, k ≤ ds.length ∧ n = k ∧ gvS T [] ds = gvS T (ds.take k) (ds.drop k)) (fun _ n _ => (ds.length - n).toNat) false 0 s1 ⟨Ext.refl _, 0, by omega, rfl, rfl⟩ ?_
  rintro b n t ⟨et, k, hk, rfl, hgv⟩
  unfold B_ref13_Giving_0
  refine BR_dec (fun h1 => ?_) (fun h1 => ?_)
  · have hkl : k < ds.length := by omega
    have hqt := hq.ext (e1.trans et)
    obtain ⟨a, ha, g⟩ := row_int hqt hkl
    refine IXS_at ha hkl ?_
    refine ⟨_, g, ?_⟩
    have hstep := gvS_step (T := T) hkl
    generalize hd : ds.getD k 0 = d at *
    refine ⟨_, _, _, et.cell o1.cell, ?_⟩
    dsimp only
    rw [wrap_i64 (by omega) (by omega)]
    refine f_in ?_
    try simp only [TUP_mk, AGG_mk, HD_mk, NL_mk, TYI_mk, TYB_mk, TYP_mk, TYL_mk, TYS_mk, TYM_mk, SO_mk, NX_mk, endK_mk, endK_mk', add_0]
    have step : ((d == -1) || (decide (0 ≤ d ∧ d < T.n) && !decide (d ∈ ds.take k))) = false → gvS T [] ds = false := fun hf => by rw [hgv, hstep, hf]; rfl
    refine BR_not (fun h2 => no (step ?_) _ et) (fun h2 => ?_)
    · have h2' := of_decide_eq_false h2
      have e1' : (d == -1) = false := by have : ¬ d = -1 := by omega
                                         simpa using this
      have e2' : decide (0 ≤ d ∧ d < (T.n : Int)) = false := decide_eq_false (by omega)
      rw [e1', e2']; rfl
    have h2' := of_decide_eq_true h2
    refine IXS_at ha hkl ?_
    refine ⟨_, g, ?_⟩
    refine BR_dec (fun h3 => ?_) (fun h3 => ?_)
    · refine IXS_at ha hkl ?_
      refine ⟨_, g, ?_⟩
      refine ⟨⟨by omega, by omega, by omega⟩, ?_⟩
      have hcq : ¬ cq = (0 : Int).toNat := by show ¬ cq = 0; omega
      rw [if_neg hcq]
      refine ANDS_i ⟨_, g, rfl⟩ ?_
      refine f_has (ds := ds.take k) (row_take hqt) ?_ (by rw [List.length_take]; omega) ?_
      · rw [List.length_take, toNat_nat]; show k - 0 = _; omega
      try simp only [TUP_mk, AGG_mk, HD_mk, NL_mk, TYI_mk, TYB_mk, TYP_mk, TYL_mk, TYS_mk, TYM_mk, SO_mk, NX_mk, endK_mk, endK_mk', add_0]
      have e1' : (d == -1) = false := by have : ¬ d = -1 := by omega
                                         simpa using this
      have e2' : decide (0 ≤ d ∧ d < (T.n : Int)) = true := decide_eq_true (by omega)
      refine BR_dec (fun h5 => no (step ?_) _ et) (fun h5 => ?_)
      · rw [e1', e2', decide_eq_true h5]; rfl
      · refine ⟨_, _, rfl, ⟨et, k + 1, hkl, wrap_succ (by omega), ?_⟩, ms_succ hkl (by omega)⟩
        rw [hgv, hstep, e1', e2', decide_eq_false h5]; rfl
    · have hd1 : d = -1 := by omega
      refine ⟨_, _, rfl, ⟨et, k + 1, hkl, wrap_succ (by omega), ?_⟩, ms_succ hkl (by omega)⟩
      rw [hgv, hstep, hd1]; rfl
  · have hkl : k = ds.length := by omega
    subst hkl
    rw [List.drop_length] at hgv
    have hgs : gvS T [] ds = true := hgv
    refine ⟨_, _, _, et.cell o2.cell, ?_⟩
    have := h t (e1.trans et)
    unfold gvP at this
    rw [hgs, Bool.and_true] at this
    have e : ((ds.length : Int) == (T.z : Int)) = decide (ds.length = T.z) := by
      by_cases he : ds.length = T.z
      · rw [he]; simp
      · have : ¬ (ds.length : Int) = (T.z : Int) := by omega
        rw [decide_eq_false he]; simpa using this
    dsimp only
    rw [e]; exact this
theorem f_Fair {x y q : Option Addr} {c c' cq : Nat} {ds : List Int} (hx : MnAt s x T.men) (hy : PzAt s y T.list) (hlen : ds.length = T.z) (h6 : T.z ≤ 6) (hall : ∀ d ∈ ds, d = -1 ∨ (0 ≤ d ∧ d < T.n)) (hq : RowAt s q (ints ds)) (h : ∀ s', Ext s s' → K (.bool (fairP T ds)) s') :
    CALL Pg W F_ref13_Fair [.agg #[.slice x T.n c, .slice y T.z c'], .slice q ds.length cq] K E s := by
  refine does_ref13_Fair W x T.n c y T.z c' q ds.length cq _ s ?_
  unfold T_ref13_Fair
  refine ne2 fun s1 e1 z1 o1 o2 => ?_
  refine L_ref13_Fair_0_rule W _ q ds.length cq ⟨s.size, 0, none⟩ (fun _ n t => Ext s1 t ∧ ∃ k : Nat, k ≤ ds.length ∧ n = k ∧ ∀ j, j < k → ((ds.getD j 0 == -1) || canP T (ds.getD j 0).toNat j) = true) (fun _ n _ => (ds.length - n).toNat) false 0 s1 ⟨Ext.refl _, 0, by omega, rfl, fun j hj => by omega⟩ ?_
  rintro b n t ⟨et, k, hk, rfl, hsame⟩
  unfold B_ref13_Fair_0
  refine BR_dec (fun h1 => ?_) (fun h1 => ?_)
  · have hkl : k < ds.length := by omega
    have hqt := hq.ext (e1.trans et)
    obtain ⟨a, ha, g⟩ := row_int hqt hkl
    refine IXS_at ha hkl ?_
    refine ⟨_, g, ?_⟩
    have hdk := hall (ds.getD k 0) (by rw [getD_lt hkl]; exact List.getElem_mem hkl)
    generalize hnx : (fun vs : List Value => _) = nx
    have next : ∀ t', Ext t t' → ((ds.getD k 0 == -1) || canP T (ds.getD k 0).toNat k) = true → nx [(.bool b), (.int .i64 (IntKind.wrap .i64 ((k : Int) + 1)))] t' := by
      intro t' e' hb
      rw [← hnx]
      refine ⟨_, _, rfl, ⟨et.trans e', k + 1, hkl, wrap_succ (by omega), fun j hj => ?_⟩, ms_succ hkl (by omega)⟩
      by_cases e : j = k
      · subst e; exact hb
      · exact hsame j (by omega)
    refine BR_dec (fun h2 => ?_) (fun h2 => ?_)
    · refine ⟨_, _, _, et.cell o1.cell, _, _, _, et.cell o2.cell, ?_⟩
      refine IXS_at ha hkl ?_
      refine ⟨_, g, ?_⟩
      have hdk' : 0 ≤ ds.getD k 0 ∧ ds.getD k 0 < T.n := hdk.resolve_left (by omega)
      generalize hdd : ds.getD k 0 = d at *
      obtain ⟨m, rfl⟩ := Int.eq_ofNat_of_zero_le hdk'.1
      refine f_can (hx.ext (e1.trans et)) (hy.ext (e1.trans et)) (by omega) (by omega) fun t2 e2 => ?_
      try simp only [TUP_mk, AGG_mk, HD_mk, NL_mk, TYI_mk, TYB_mk, TYP_mk, TYL_mk, TYS_mk, TYM_mk, SO_mk, NX_mk, endK_mk, endK_mk', add_0]
      refine BR_not (fun h3 => ?_) (fun h3 => ?_)
      · have hf : fairP T ds = false := by
          unfold fairP
          rw [List.all_eq_false]
          refine ⟨k, List.mem_range.2 hkl, ?_⟩
          rw [hdd]
          have e1' : (((m : Nat) : Int) == -1) = false := by have : ¬ ((m : Nat) : Int) = -1 := by omega
                                                             simp
          rw [e1', toNat_nat, h3]; simp
        have := h t2 (e1.trans (et.trans e2))
        rw [hf] at this; exact this
      · exact next t2 e2 (by rw [toNat_nat, h3, Bool.or_true])
    · have hd1 : ds.getD k 0 = -1 := by rcases hdk with h | h; exact h; omega
      exact ⟨rfl, next t (Ext.refl _) (by rw [hd1]; rfl)⟩
  · have hkl : k = ds.length := by omega
    subst hkl
    have hf : fairP T ds = true := by
      unfold fairP
      rw [List.all_eq_true]
      intro j hj
      exact hsame j (List.mem_range.1 hj)
    have := h t (e1.trans et)
    rw [hf] at this
    exact this
end
end Go.Proofs.Ytfaeokcbfnlgbaa.G

/- The document's functions of layer 13: Can, Due, Wrong, Club, Worth. -/
set_option linter.unusedSimpArgs false
set_option linter.unusedVariables false
set_option maxRecDepth 20000
namespace Go.Proofs.Ytfaeokcbfnlgbaa.G
open Go.V
section
variable {W : World} {K : VK} {E : List PanicEntry → Hp → Prop} {s : Hp} {T : PT}
theorem f_Ints {x y : Option Addr} {c c' l l' : Nat} {a b : List Int} (hx : RowAt s x (ints a)) (hy : RowAt s y (ints b)) (hl : l = a.length) (hl' : l' = b.length) (h8 : a.length ≤ 100000) (h : K (.bool (decide (a = b))) s) : CALL Pg W F_ref13_Ints [.slice x l c, .slice y l' c'] K E s := by
  subst hl
  subst hl'
  refine does_ref13_Ints W x _ c y _ c' _ s ?_
  unfold T_ref13_Ints
  refine BR_ne (fun h1 => ?_) (fun h1 => ?_)
  · have : ¬ a = b := fun e => h1 (by rw [e])
    rw [decide_eq_false this] at h; exact h
  have hlen : a.length = b.length := by omega
  refine L_ref13_Ints_0_rule W _ x a.length c y b.length c' (fun _ n t => t = s ∧ ∃ k : Nat, k ≤ a.length ∧ n = k ∧ ∀ j, j < k → a.getD j 0 = b.getD j 0) (fun _ n _ => (a.length - n).toNat) false 0 s ⟨rfl, 0, by omega, rfl, fun j hj => by omega⟩ ?_
  rintro q n t ⟨rfl, k, hk, rfl, hsame⟩
  unfold B_ref13_Ints_0
  refine BR_dec (fun h2 => ?_) (fun h2 => ?_)
  · have hkl : k < a.length := by omega
    obtain ⟨p, hp, g⟩ := row_int hx hkl
    obtain ⟨p', hp', g'⟩ := row_int hy (show k < b.length by omega)
    refine IXS_at hp hkl ?_
    refine ⟨_, g, ?_⟩
    refine IXS_at hp' (by omega) ?_
    refine ⟨_, g', ?_⟩
    refine BR_ne (fun h3 => ?_) (fun h3 => ?_)
    · have : ¬ a = b := fun e => h3 (by rw [e])
      rw [decide_eq_false this] at h; exact h
    · refine ⟨rfl, _, _, rfl, ⟨rfl, k + 1, hkl, wrap_succ (by omega), fun j hj => ?_⟩, ms_succ hkl (by omega)⟩
      by_cases e : j = k
      · subst e; exact h3
      · exact hsame j (by omega)
  · have hab : a = b := by
      apply List.ext_getElem hlen
      intro j h3 h4
      have := hsame j (by omega)
      rw [getD_lt h3, getD_lt h4] at this
      exact this
    rw [decide_eq_true hab] at h; exact h
theorem f_worthsG {x y q : Option Addr} {c c' cq : Nat} {ds : List Int} (hx : MnAt s x T.men) (hy : PzAt s y T.list) (h8 : T.n ≤ 8) (h6 : T.z ≤ 6) (hl : ds.length = T.z) (hd : ∀ d ∈ ds, d = -1 ∨ (0 ≤ d ∧ d < T.n)) (hq : RowAt s q (ints ds)) (h : ∀ s' w c', Ext s s' → Fr s.size s' w T.n c' 1 (ints (worP T ds)) → K (.slice w T.n c') s') :
    CALL Pg W F_ref13_worths [.agg #[.slice x T.n c, .slice y T.z c'], .slice q ds.length cq] K E s := by
  refine does_ref13_worths W x T.n c y T.z c' q ds.length cq _ s ?_
  unfold T_ref13_worths
  refine ne2 fun s0 e0 z0 o1 o2 => ?_
  refine ⟨_, _, _, o1.cell, ?_⟩
  dsimp only
  rw [toNat_nat]
  refine MKS_rule zc_3 (by omega) fun s1 e1 z1 n1 => ?_
  have e01 := e0.trans e1
  refine L_ref13_worths_0_rule W _ q ds.length cq ⟨s.size, 0, none⟩ ⟨s0.size, 0, none⟩ T.n (fun n t => Ext s0 t ∧ ∃ k : Nat, k ≤ ds.length ∧ n = k ∧ Buf t (some ⟨s0.size, 0, none⟩) T.n (ints (worL T ds k))) (fun n _ => (ds.length - n).toNat) 0 s1
    ⟨e1, 0, by omega, rfl, ?_⟩ ?_
  · refine ⟨by rw [ints_len, worL_len]; exact Nat.le_refl _, fun i hi => ⟨_, rfl, .int .i64 0, ?_, fun hh => ?_⟩⟩
    · rw [add_nil, Nat.zero_add]; exact n1 i hi
    · rw [ints_get hh]; simp [worL]
  rintro n t ⟨et, k, hk, rfl, hb⟩
  unfold B_ref13_worths_0
  have e0t := e0.trans et
  refine BR_dec (fun hlt => ?_) (fun hlt => ?_)
  · have hkl : k < ds.length := by omega
    have hkz : k < T.z := by omega
    obtain ⟨a, ha, g⟩ := row_int (hq.ext e0t) hkl
    refine IXS_at ha hkl ?_
    refine ⟨_, g, ?_⟩
    have hdk := hd (ds.getD k 0) (by rw [getD_lt hkl]; exact List.getElem_mem hkl)
    generalize hdd : ds.getD k 0 = d at *
    refine BR_dec (fun h3 => ?_) (fun h3 => ?_)
    · have hne : ¬ d = -1 := by omega
      have hdk' := hdk.resolve_left hne
      obtain ⟨m, rfl⟩ := Int.eq_ofNat_of_zero_le hdk'.1
      have hm : m < T.n := by omega
      obtain ⟨az, w0, w1, w2⟩ := pz_row (hy.ext e0t) hkz
      refine IXS_at ha hkl ?_
      refine ⟨_, g, ?_⟩
      refine ⟨_, _, _, et.cell o2.cell, ?_⟩
      refine IXS_at w0 hkz ?_
      refine ⟨_, w2, ?_⟩
      refine IXS_nat hm ?_
      have hmi : m < (ints (worL T ds k)).length := by rw [ints_len, worL_len]; exact hm
      have hat := hb.at hmi
      have hset := hb.set (v := .int .i64 (T.pz k).worth) hmi
      rw [Nat.mul_one]
      refine WR_own hat rfl ?_
      unfold J_ref13_worths_0
      refine ⟨rfl, _, rfl, ⟨Ext.setC et (by rw [add_0, add_blk]; exact Nat.le_refl _), k + 1, hkl, wrap_succ (by omega), ?_⟩, ms_succ hkl (by omega)⟩
      have e : ints (worL T ds (k + 1)) = (ints (worL T ds k)).set m (.int .i64 (T.pz k).worth) := by
        conv => lhs; unfold worL
        rw [hdd, if_neg hne, toNat_nat]
        unfold ints
        rw [List.map_set]
      rw [e]; exact hset
    · have h3' : d = -1 := by rcases hdk with h | h; exact h; omega
      unfold J_ref13_worths_0
      refine ⟨rfl, _, rfl, ⟨et, k + 1, hkl, wrap_succ (by omega), ?_⟩, ms_succ hkl (by omega)⟩
      have e : worL T ds (k + 1) = worL T ds k := by
        conv => lhs; unfold worL
        rw [hdd, if_pos h3']
      rw [e]; exact hb
  · have hkl : k = ds.length := by omega
    subst hkl
    refine h t _ _ e0t ⟨by rw [Nat.mul_one]; exact hb, by rw [ints_len, Nat.mul_one]; exact worL_len _ _ _, fun a ha => by cases ha; exact e0.1, by omega⟩
theorem f_worths {x y q : Option Addr} {c c' cq : Nat} {ds : List Int} (hx : MnAt s x T.men) (hy : PzAt s y T.list) (hok : okP T = true) (hl : ds.length = T.z) (hd : ∀ d ∈ ds, d = -1 ∨ (0 ≤ d ∧ d < T.n)) (hq : RowAt s q (ints ds)) (h : ∀ s' w c', Ext s s' → Fr s.size s' w T.n c' 1 (ints (worP T ds)) → K (.slice w T.n c') s') :
    CALL Pg W F_ref13_worths [.agg #[.slice x T.n c, .slice y T.z c'], .slice q ds.length cq] K E s :=
  f_worthsG hx hy (okP_vd hok).n8 (okP_vd hok).z6 hl hd hq h
theorem f_Can {x y : Option Addr} {c c' : Nat} {m z : Int} (h4 : T.n ≤ 100000) (h5 : T.z ≤ 100000) (hx : MnAt s x T.men) (hy : PzAt s y T.list) (h : ∀ s', Ext s s' → K (.tuple #[.bool (canR T m z).1, .int .i64 (canR T m z).2]) s') :
    CALL Pg W F_ref13_Can [.agg #[.slice x T.n c, .slice y T.z c'], .int .i64 m, .int .i64 z] K E s := by
  refine does_ref13_Can W x T.n c y T.z c' m z _ s ?_
  unfold T_ref13_Can
  refine ne2 fun s1 e1 z1 o1 o2 => ?_
  refine ⟨_, _, _, o1.cell, _, _, _, o2.cell, _, _, _, o1.cell, _, _, _, o2.cell, ?_⟩
  refine f_Man h4 fun s2 e2 => ?_
  try simp only [TUP_mk, AGG_mk, HD_mk, NL_mk, TYI_mk, TYB_mk, TYP_mk, TYL_mk, TYS_mk, TYM_mk, SO_mk, NX_mk, endK_mk, endK_mk', add_0]
  refine ANDS_i ⟨_, _, _, e2.cell o1.cell, _, _, _, e2.cell o2.cell, rfl⟩ ?_
  have fin : ∀ t b, Ext s1 t → b = (isM T m && isZ T z) → J_ref13_Can_0 W (endK K E) x T.n c y T.z c' b s.size m z t := by
    intro t b et hb
    unfold J_ref13_Can_0
    have e0t := e1.trans et
    refine f_check (hx.ext e0t) (hy.ext e0t) fun t2 e2 => ?_
    try simp only [TUP_mk, AGG_mk, HD_mk, NL_mk, TYI_mk, TYB_mk, TYP_mk, TYL_mk, TYS_mk, TYM_mk, SO_mk, NX_mk, endK_mk, endK_mk', add_0]
    have hh := fun t3 (e3 : Ext t2 t3) => h t3 (e0t.trans (e2.trans e3))
    unfold canR at hh
    cases hok : okP T with
    | false =>
      rw [hok] at hh
      refine BR_ne (fun _ => hh t2 (Ext.refl _)) (fun h3 => by cases h3)
    | true =>
      rw [hok] at hh
      cases hbb : b with
      | false =>
        rw [← hb, hbb] at hh
        refine BR_ne (fun _ => hh t2 (Ext.refl _)) (fun h3 => by cases h3)
      | true =>
        rw [← hb, hbb] at hh
        rw [hbb] at hb
        have hb' := hb.symm
        simp only [Bool.and_eq_true] at hb'
        obtain ⟨g1, g2⟩ := hb'
        have hi := (of_decide_eq_true g1)
        have hj := (of_decide_eq_true g2)
        obtain ⟨i, rfl⟩ := Int.eq_ofNat_of_zero_le hi.1
        obtain ⟨j, rfl⟩ := Int.eq_ofNat_of_zero_le hj.1
        refine BR_ne (fun h3 => absurd rfl h3) (fun _ => ?_)
        have e12 := et.trans e2
        refine ⟨_, _, _, e12.cell o1.cell, _, _, _, e12.cell o2.cell, ?_⟩
        refine f_can (hx.ext (e1.trans e12)) (hy.ext (e1.trans e12)) (by omega) (by omega) fun t3 e3 => ?_
        try simp only [TUP_mk, AGG_mk, HD_mk, NL_mk, TYI_mk, TYB_mk, TYP_mk, TYL_mk, TYS_mk, TYM_mk, SO_mk, NX_mk, endK_mk, endK_mk', add_0]
        exact hh t3 e3
  refine BR_bool (fun h1 => ?_) (fun h1 => ?_)
  · refine ⟨_, _, _, e2.cell o1.cell, _, _, _, e2.cell o2.cell, ?_⟩
    refine f_Prize h5 fun s3 e3 => ?_
    try simp only [TUP_mk, AGG_mk, HD_mk, NL_mk, TYI_mk, TYB_mk, TYP_mk, TYL_mk, TYS_mk, TYM_mk, SO_mk, NX_mk, endK_mk, endK_mk', add_0]
    have e23 := e2.trans e3
    refine ANDS_i ⟨_, _, _, e23.cell o1.cell, _, _, _, e23.cell o2.cell, rfl⟩ ?_
    refine fin s3 _ e23 ?_
    unfold isM isZ
    rw [h1]; rfl
  · refine fin s2 _ e2 ?_
    unfold isM
    rw [h1]; rfl
theorem f_Due {x y : Option Addr} {c c' : Nat} (hx : MnAt s x T.men) (hy : PzAt s y T.list) (h : ∀ s' q cq, Ext s s' → Fr s.size s' q (dueR T).1.length cq 1 (ints (dueR T).1) → K (.tuple #[.slice q (dueR T).1.length cq, .int .i64 (dueR T).2]) s') :
    CALL Pg W F_ref13_Due [.agg #[.slice x T.n c, .slice y T.z c']] K E s := by
  refine does_ref13_Due W x T.n c y T.z c' _ s ?_
  unfold T_ref13_Due
  refine ne2 fun s1 e1 z1 o1 o2 => ?_
  refine ⟨_, _, _, o1.cell, _, _, _, o2.cell, ?_⟩
  refine f_check (hx.ext e1) (hy.ext e1) fun s2 e2 => ?_
  try simp only [TUP_mk, AGG_mk, HD_mk, NL_mk, TYI_mk, TYB_mk, TYP_mk, TYL_mk, TYS_mk, TYM_mk, SO_mk, NX_mk, endK_mk, endK_mk', add_0]
  have e02 := e1.trans e2
  cases hok : okP T with
  | false =>
    refine BR_ne (fun _ => ?_) (fun h3 => by cases h3)
    have := h s2 none 0 e02
    unfold dueR at this
    rw [hok] at this
    exact this (Fr.nil _ _ _)
  | true =>
    refine BR_ne (fun h3 => absurd rfl h3) (fun _ => ?_)
    refine ⟨_, _, _, e2.cell o1.cell, _, _, _, e2.cell o2.cell, ?_⟩
    refine f_due hok (hx.ext e02) (hy.ext e02) fun s3 q cq e3 f3 => ?_
    try simp only [TUP_mk, AGG_mk, HD_mk, NL_mk, TYI_mk, TYB_mk, TYP_mk, TYL_mk, TYS_mk, TYM_mk, SO_mk, NX_mk, endK_mk, endK_mk', add_0]
    have hlen : (dueR T).1.length = T.z := by unfold dueR manL dueP; rw [if_pos hok]; simp [dueL_len]
    have := h s3 q cq (e02.trans e3) (by
      rw [hlen]
      unfold dueR
      rw [if_pos hok]
      exact f3.le e02.1)
    rw [hlen] at this
    unfold dueR at this
    rw [if_pos hok] at this
    exact this
theorem f_Club {x y : Option Addr} {c c' : Nat} (hx : MnAt s x T.men) (hy : PzAt s y T.list) (h : ∀ s', Ext s s' → K (.tuple #[.int .i64 (clubR T).1, .int .i64 (clubR T).2.1, .int .i64 (clubR T).2.2]) s') :
    CALL Pg W F_ref13_Club [.agg #[.slice x T.n c, .slice y T.z c']] K E s := by
  refine does_ref13_Club W x T.n c y T.z c' _ s ?_
  unfold T_ref13_Club
  refine ne2 fun s1 e1 z1 o1 o2 => ?_
  refine ⟨_, _, _, o1.cell, _, _, _, o2.cell, ?_⟩
  refine f_check (hx.ext e1) (hy.ext e1) fun s2 e2 => ?_
  try simp only [TUP_mk, AGG_mk, HD_mk, NL_mk, TYI_mk, TYB_mk, TYP_mk, TYL_mk, TYS_mk, TYM_mk, SO_mk, NX_mk, endK_mk, endK_mk', add_0]
  have e02 := e1.trans e2
  cases hok : okP T with
  | false =>
    refine BR_ne (fun _ => ?_) (fun h3 => by cases h3)
    have := h s2 e02
    unfold clubR at this
    rw [hok] at this
    exact this
  | true =>
    have hv := okP_vd hok
    refine BR_ne (fun h3 => absurd rfl h3) (fun _ => ?_)
    refine ⟨_, _, _, e2.cell o1.cell, _, _, _, e2.cell o2.cell, ?_⟩
    refine f_best hok (hx.ext e02) (hy.ext e02) fun s3 e3 => ?_
    try simp only [TUP_mk, AGG_mk, HD_mk, NL_mk, TYI_mk, TYB_mk, TYP_mk, TYL_mk, TYS_mk, TYM_mk, SO_mk, NX_mk, endK_mk, endK_mk', add_0]
    have e23 := e2.trans e3
    have hb : bestP T = (0, 0) ∨ (1 ≤ (bestP T).1 ∧ sumC T.n (places T (bestP T).1) = some (bestP T).2) := by
      by_cases hne : clubsL T 5 = []
      · left; unfold bestP; rw [hne]; rfl
      · right
        have := clubs_mem (firstL_mem _ hne)
        exact ⟨this.1.1, this.2⟩
    refine BR_eq (fun h3 => ?_) (fun h3 => ?_)
    · have he : bestP T = (0, 0) := hb.resolve_right (fun hh => by omega)
      have := h s3 (e02.trans e3)
      unfold clubR at this
      rw [if_pos hok, if_pos he] at this
      exact this
    · have hne : ¬ bestP T = (0, 0) := fun he => h3 (by rw [he])
      have hs := (hb.resolve_left hne).2
      refine ⟨_, _, _, e23.cell o1.cell, _, _, _, e23.cell o2.cell, ?_⟩
      refine f_sum hok (hx.ext (e1.trans e23)) (hy.ext (e1.trans e23)) fun s4 e4 => ?_
      try simp only [TUP_mk, AGG_mk, HD_mk, NL_mk, TYI_mk, TYB_mk, TYP_mk, TYL_mk, TYS_mk, TYM_mk, SO_mk, NX_mk, endK_mk, endK_mk', add_0]
      have := h s4 (e1.trans (e23.trans e4))
      unfold clubR at this
      rw [if_pos hok, if_neg hne] at this
      rw [hs]
      exact this
theorem f_Wrong {x y q : Option Addr} {c c' cq : Nat} {ds : List Int} (h4 : T.n ≤ 100000) (hl : ds.length ≤ 100000) (hc : ds.length ≤ cq) (hx : MnAt s x T.men) (hy : PzAt s y T.list) (hq : RowAt s q (ints ds)) (h : ∀ s', Ext s s' → K (.tuple #[.int .i64 (wrongR T ds).1, .int .i64 (wrongR T ds).2.1, .int .i64 (wrongR T ds).2.2]) s') :
    CALL Pg W F_ref13_Wrong [.agg #[.slice x T.n c, .slice y T.z c'], .slice q ds.length cq] K E s := by
  refine does_ref13_Wrong W x T.n c y T.z c' q ds.length cq _ s ?_
  unfold T_ref13_Wrong
  refine ne2 fun s1 e1 z1 o1 o2 => ?_
  refine ⟨_, _, _, o1.cell, _, _, _, o2.cell, _, _, _, o1.cell, _, _, _, o2.cell, ?_⟩
  refine f_Giving h4 hl hc (hq.ext e1) fun s2 e2 => ?_
  try simp only [TUP_mk, AGG_mk, HD_mk, NL_mk, TYI_mk, TYB_mk, TYP_mk, TYL_mk, TYS_mk, TYM_mk, SO_mk, NX_mk, endK_mk, endK_mk', add_0]
  have e02 := e1.trans e2
  refine ANDS_i ⟨_, _, _, e2.cell o1.cell, _, _, _, e2.cell o2.cell, rfl⟩ ?_
  refine f_check (hx.ext e02) (hy.ext e02) fun s3 e3 => ?_
  try simp only [TUP_mk, AGG_mk, HD_mk, NL_mk, TYI_mk, TYB_mk, TYP_mk, TYL_mk, TYS_mk, TYM_mk, SO_mk, NX_mk, endK_mk, endK_mk', add_0]
  have e03 := e02.trans e3
  have e13 := e2.trans e3
  have hh := fun t (e : Ext s3 t) => h t (e03.trans e)
  unfold wrongR at hh
  cases hok : okP T with
  | false =>
    rw [hok] at hh
    exact BR_ne (fun _ => hh s3 (Ext.refl _)) (fun h3 => by cases h3)
  | true =>
    rw [hok] at hh
    cases hg : gvP T ds with
    | false =>
      rw [hg] at hh
      exact BR_ne (fun _ => hh s3 (Ext.refl _)) (fun h3 => by cases h3)
    | true =>
      rw [hg] at hh
      refine BR_ne (fun h3 => absurd rfl h3) (fun _ => ?_)
      refine ⟨_, _, _, e13.cell o1.cell, _, _, _, e13.cell o2.cell, ?_⟩
      refine f_due hok (hx.ext e03) (hy.ext e03) fun s4 w cw e4 f4 => ?_
      try simp only [TUP_mk, AGG_mk, HD_mk, NL_mk, TYI_mk, TYB_mk, TYP_mk, TYL_mk, TYS_mk, TYM_mk, SO_mk, NX_mk, endK_mk, endK_mk', add_0]
      have hz : ds.length = T.z := by unfold gvP at hg; simp only [Bool.and_eq_true, decide_eq_true_eq] at hg; exact hg.1
      have hw : (manL (dueP T)).length = T.z := by unfold manL dueP; simp [dueL_len]
      have hh4 := hh s4 e4
      simp only [if_true] at hh4
      have hq4 := hq.ext (e03.trans e4)
      refine L_ref13_Wrong_0_rule W _ q ds.length cq w T.z cw (fun _ _ _ n t => t = s4 ∧ ∃ k : Nat, k ≤ T.z ∧ n = k ∧ ∀ j, j < k → ds.getD j 0 = (manL (dueP T)).getD j 0) (fun _ _ _ n _ => (T.z - n).toNat) 0 0 0 0 s4 ⟨rfl, 0, by omega, rfl, fun j hj => by omega⟩ ?_
      rintro a1 a2 a3 n t ⟨rfl, k, hk, rfl, hsame⟩
      unfold B_ref13_Wrong_0
      refine BR_dec (fun hlt => ?_) (fun hlt => ?_)
      · have hkz : k < T.z := by omega
        obtain ⟨a, ha, g⟩ := row_int f4.row (by omega : k < (manL (dueP T)).length)
        obtain ⟨b, hb, g'⟩ := row_int hq4 (by omega : k < ds.length)
        refine IXS_at hb (by omega) ?_
        refine ⟨_, g', ?_⟩
        refine IXS_at ha hkz ?_
        refine ⟨_, g, ?_⟩
        refine BR_ne (fun h3 => ?_) (fun h3 => ?_)
        · refine IXS_at ha hkz ?_
          refine ⟨_, g, ?_⟩
          refine ANDS_i ⟨_, g, rfl⟩ ?_
          have hf : (List.range T.z).find? (fun i => ds.getD i 0 != (manL (dueP T)).getD i 0) = some k := by
            refine find_at (k := k) (List.getElem?_range hkz) (bne_iff_ne.2 h3) fun j x hj hx => ?_
            have : x = j := by rw [List.getElem?_range (by omega)] at hx; exact (Option.some.inj hx).symm
            subst this
            rw [hsame x hj]; simp
          unfold wrongP at hh4
          rw [hf] at hh4
          exact hh4
        · refine ⟨rfl, _, _, _, _, rfl, ⟨rfl, k + 1, hkz, wrap_succ (by omega), fun j hj => ?_⟩, ms_succ hkz (by omega)⟩
          by_cases e : j = k
          · subst e; exact h3
          · exact hsame j (by omega)
      · have hkz : k = T.z := by omega
        subst hkz
        have hf : (List.range T.z).find? (fun i => ds.getD i 0 != (manL (dueP T)).getD i 0) = none := by
          refine find_no fun j x hj hx => ?_
          rw [List.length_range] at hj
          have : x = j := by rw [List.getElem?_range hj] at hx; exact (Option.some.inj hx).symm
          subst this
          rw [hsame x hj]; simp
        unfold wrongP at hh4
        rw [hf] at hh4
        exact hh4
theorem f_Worth {x y q : Option Addr} {c c' cq : Nat} {ds : List Int} (h4 : T.n ≤ 100000) (hl : ds.length ≤ 100000) (hc : ds.length ≤ cq) (hx : MnAt s x T.men) (hy : PzAt s y T.list) (hq : RowAt s q (ints ds)) (h : ∀ s' w cw, Ext s s' → Fr s.size s' w (worthR T ds).1.length cw 1 (ints (worthR T ds).1) → K (.tuple #[.slice w (worthR T ds).1.length cw, .int .i64 (worthR T ds).2.1, .int .i64 (worthR T ds).2.2]) s') :
    CALL Pg W F_ref13_Worth [.agg #[.slice x T.n c, .slice y T.z c'], .slice q ds.length cq] K E s := by
  refine does_ref13_Worth W x T.n c y T.z c' q ds.length cq _ s ?_
  unfold T_ref13_Worth
  refine ne2 fun s1 e1 z1 o1 o2 => ?_
  refine ⟨_, _, _, o1.cell, _, _, _, o2.cell, _, _, _, o1.cell, _, _, _, o2.cell, ?_⟩
  refine f_Giving h4 hl hc (hq.ext e1) fun s2 e2 => ?_
  try simp only [TUP_mk, AGG_mk, HD_mk, NL_mk, TYI_mk, TYB_mk, TYP_mk, TYL_mk, TYS_mk, TYM_mk, SO_mk, NX_mk, endK_mk, endK_mk', add_0]
  have e02 := e1.trans e2
  refine ANDS_i ⟨_, _, _, e2.cell o1.cell, _, _, _, e2.cell o2.cell, rfl⟩ ?_
  refine f_check (hx.ext e02) (hy.ext e02) fun s3 e3 => ?_
  try simp only [TUP_mk, AGG_mk, HD_mk, NL_mk, TYI_mk, TYB_mk, TYP_mk, TYL_mk, TYS_mk, TYM_mk, SO_mk, NX_mk, endK_mk, endK_mk', add_0]
  have e03 := e02.trans e3
  have e13 := e2.trans e3
  have hh := fun t w cw (e : Ext s3 t) => h t w cw (e03.trans e)
  unfold worthR at hh
  cases hok : okP T with
  | false =>
    rw [hok] at hh
    exact BR_ne (fun _ => hh s3 none 0 (Ext.refl _) (Fr.nil _ _ _)) (fun h3 => by cases h3)
  | true =>
    rw [hok] at hh
    cases hg : gvP T ds with
    | false =>
      rw [hg] at hh
      exact BR_ne (fun _ => hh s3 none 0 (Ext.refl _) (Fr.nil _ _ _)) (fun h3 => by cases h3)
    | true =>
      rw [hg] at hh
      refine BR_ne (fun h3 => absurd rfl h3) (fun _ => ?_)
      refine ⟨_, _, _, e13.cell o1.cell, _, _, _, e13.cell o2.cell, ?_⟩
      have hz : ds.length = T.z := by unfold gvP at hg; simp only [Bool.and_eq_true, decide_eq_true_eq] at hg; exact hg.1
      have hgs : gvS T [] ds = true := by unfold gvP at hg; simp only [Bool.and_eq_true, decide_eq_true_eq] at hg; exact hg.2
      have hall := gvS_all ds [] hgs
      have hv := okP_vd hok
      have h6 := hv.z6
      have h8 := hv.n8
      refine f_Fair (hx.ext e03) (hy.ext e03) hz h6 hall (hq.ext e03) fun s4 e4 => ?_
      try simp only [TUP_mk, AGG_mk, HD_mk, NL_mk, TYI_mk, TYB_mk, TYP_mk, TYL_mk, TYS_mk, TYM_mk, SO_mk, NX_mk, endK_mk, endK_mk', add_0]
      have e04 := e03.trans e4
      have e14 := e13.trans e4
      cases hf : fairP T ds with
      | false =>
        rw [hf] at hh
        exact BR_tt rfl (hh s4 none 0 e4 (Fr.nil _ _ _))
      | true =>
        rw [hf] at hh
        refine BR_ff rfl ?_
        refine ⟨_, _, _, e14.cell o1.cell, _, _, _, e14.cell o2.cell, ?_⟩
        refine f_worths (hx.ext e04) (hy.ext e04) hok hz hall (hq.ext e04) fun s5 w cw e5 f5 => ?_
        try simp only [TUP_mk, AGG_mk, HD_mk, NL_mk, TYI_mk, TYB_mk, TYP_mk, TYL_mk, TYS_mk, TYM_mk, SO_mk, NX_mk, endK_mk, endK_mk', add_0]
        have hbd := worP_bd hok hz
        have hpl : (worP T ds).length = T.n := worP_len
        have hsum : ∀ k, k ≤ T.n → 0 ≤ ((worP T ds).take k).sum ∧ ((worP T ds).take k).sum ≤ 1000 * k := by
          intro k
          induction k with
          | zero => intro _; simp
          | succ k ih =>
            intro hk
            have ih := ih (by omega)
            have hkl : k < (worP T ds).length := by omega
            rw [List.take_add_one, List.getElem?_eq_getElem hkl]
            have := hbd _ (List.getElem_mem hkl)
            simp only [Option.toList_some, List.sum_append, List.sum_cons, List.sum_nil]
            omega
        refine L_ref13_Worth_0_rule W _ w T.n cw (fun a n t => t = s5 ∧ ∃ k : Nat, k ≤ T.n ∧ n = k ∧ a = ((worP T ds).take k).sum) (fun _ n _ => (T.n - n).toNat) 0 0 s5 ⟨rfl, 0, by omega, rfl, by simp⟩ ?_
        rintro a n t ⟨rfl, k, hk, rfl, rfl⟩
        unfold B_ref13_Worth_0
        refine BR_dec (fun hlt => ?_) (fun hlt => ?_)
        · have hkn : k < T.n := by omega
          have hkl : k < (worP T ds).length := by omega
          obtain ⟨p, hp, g⟩ := row_int f5.row hkl
          refine IXS_at hp hkn ?_
          refine ⟨_, g, ?_⟩
          have hs := hsum (k + 1) (by omega)
          have e : ((worP T ds).take (k + 1)).sum = ((worP T ds).take k).sum + (worP T ds).getD k 0 := by
            rw [getD_lt hkl, List.take_add_one, List.getElem?_eq_getElem hkl, List.sum_append]
            show ((worP T ds).take k).sum + ([(worP T ds)[k]] : List Int).sum = _
            rw [List.sum_cons, List.sum_nil, Int.add_zero]
          rw [e] at hs
          refine ⟨rfl, _, _, rfl, ⟨rfl, k + 1, hkn, wrap_succ (by omega), ?_⟩, ms_succ hkn (by omega)⟩
          rw [e, wrap_i64 (by omega) (by omega)]
        · have hkn : k = T.n := by omega
          subst hkn
          have ht : (worP T ds).take T.n = worP T ds := by rw [← hpl, List.take_length]
          rw [ht]
          have := hh t w cw (e4.trans e5)
          simp only [if_true] at this
          rw [hpl] at this
          exact this (f5.le e04.1)
end
end Go.Proofs.Ytfaeokcbfnlgbaa.G

/- More of the functions' shallow texts, by gen.py. -/
set_option linter.unusedVariables false
set_option maxRecDepth 100000
namespace Go.Proofs.Ytfaeokcbfnlgbaa.G
open Go.V
def an_67 : Nat → Ann := fun b => match b with
  | _ => {}
abbrev rv_67 : List ResultVar := [.tmp 6]
abbrev rs_67 : List Nat := [33, 6]
def T_slices_Delete_api_Winner_api_Winner (W : World) (x1 : Option Addr) (l2 : Nat) (c3 : Nat) (n4 : Int) (n5 : Int) (R : Ending → Hp → Prop) : Hp → Prop :=
  SL3 Pg 22 (.slice x1 l2 c3) (some (.int .i64 n4)) (some (.int .i64 n5)) (.int .i64 (↑l2 : Int)) fun x6 l7 c8 =>
    BR (n4 == n5)
      (R (.returned (.slice x1 l2 c3)))
      (CONJ [
        SLS x1 c3 0 n4 4 fun x9 l10 c11 =>
          SLS x1 c3 n5 ↑l2 4 fun x12 l13 c14 =>
            APP Pg 48 4 x9 l10 c11 x12 l13 fun x15 l16 c17 =>
              SLS x15 c17 (↑l16 : Int) (↑l2 : Int) 4 fun x18 l19 c20 =>
                CLR Pg [22] (.slice x18 l19 c20) <|
                  R (.returned (.slice x15 l16 c17)),
        SLS x1 c3 n5 ↑l2 4 fun x21 l22 c23 =>
          SLS x1 c3 0 n4 4 fun x24 l25 c26 =>
            APP Pg 48 4 x24 l25 c26 x21 l22 fun x27 l28 c29 =>
              SLS x27 c29 (↑l28 : Int) (↑l2 : Int) 4 fun x30 l31 c32 =>
                CLR Pg [22] (.slice x30 l31 c32) <|
                  R (.returned (.slice x27 l28 c29))])
theorem T_slices_Delete_api_Winner_api_Winner_eq (W : World) (x1 : Option Addr) (l2 : Nat) (c3 : Nat) (n4 : Int) (n5 : Int) (R : Ending → Hp → Prop) : vfun Pg W an_67 Try.f67 [(.slice x1 l2 c3), (.int .i64 n4), (.int .i64 n5)] R = T_slices_Delete_api_Winner_api_Winner W x1 l2 c3 n4 n5 R := by kernel_rfl
theorem does_slices_Delete_api_Winner_api_Winner (W : World) (x1 : Option Addr) (l2 : Nat) (c3 : Nat) (n4 : Int) (n5 : Int) (R : Ending → Hp → Prop) (s : Hp) (h : T_slices_Delete_api_Winner_api_Winner W x1 l2 c3 n4 n5 R s) : Does Pg W F_slices_Delete_api_Winner_api_Winner #[(.slice x1 l2 c3), (.int .i64 n4), (.int .i64 n5)] s R :=
  does_of_vfun Pg W an_67 Try.func67 rfl (by kernel_rfl) (by rw [T_slices_Delete_api_Winner_api_Winner_eq]; exact h)
def an_68 : Nat → Ann := fun b => match b with
  | _ => {}
abbrev rv_68 : List ResultVar := [.tmp 2]
abbrev rs_68 : List Nat := [8, 2]
def T_slices_Clone_api_Winner_api_Winner (W : World) (x1 : Option Addr) (l2 : Nat) (c3 : Nat) (R : Ending → Hp → Prop) : Hp → Prop :=
  BR (Option.isNone x1)
    (R (.returned (.slice none 0 0)))
    (NEW 48 [] fun B4 =>
      APP Pg 48 4 (some ⟨B4, 0, none⟩) 0 0 x1 l2 fun x5 l6 c7 =>
        R (.returned (.slice x5 l6 c7)))
theorem T_slices_Clone_api_Winner_api_Winner_eq (W : World) (x1 : Option Addr) (l2 : Nat) (c3 : Nat) (R : Ending → Hp → Prop) : vfun Pg W an_68 Try.f68 [(.slice x1 l2 c3)] R = T_slices_Clone_api_Winner_api_Winner W x1 l2 c3 R := by kernel_rfl
theorem does_slices_Clone_api_Winner_api_Winner (W : World) (x1 : Option Addr) (l2 : Nat) (c3 : Nat) (R : Ending → Hp → Prop) (s : Hp) (h : T_slices_Clone_api_Winner_api_Winner W x1 l2 c3 R s) : Does Pg W F_slices_Clone_api_Winner_api_Winner #[(.slice x1 l2 c3)] s R :=
  does_of_vfun Pg W an_68 Try.func68 rfl (by kernel_rfl) (by rw [T_slices_Clone_api_Winner_api_Winner_eq]; exact h)
def an_70 : Nat → Ann := fun b => match b with
  | _ => {}
abbrev rv_70 : List ResultVar := [.tmp 2]
abbrev rs_70 : List Nat := [5, 2]
def T_slices_Collect_int (W : World) (v1 : Value) (R : Ending → Hp → Prop) : Hp → Prop :=
  CALL Pg W F_slices_AppendSeq_int_int [(.slice none 0 0), v1]
    (fun v2 => TYL v2 fun x4 l5 c6 =>
      R (.returned (.slice x4 l5 c6)))
      (fun e3 => R (.panicked e3))
theorem T_slices_Collect_int_eq (W : World) (v1 : Value) (R : Ending → Hp → Prop) : vfun Pg W an_70 Try.f70 [v1] R = T_slices_Collect_int W v1 R := by kernel_rfl
theorem does_slices_Collect_int (W : World) (v1 : Value) (R : Ending → Hp → Prop) (s : Hp) (h : T_slices_Collect_int W v1 R s) : Does Pg W F_slices_Collect_int #[v1] s R :=
  does_of_vfun Pg W an_70 Try.func70 rfl (by kernel_rfl) (by rw [T_slices_Collect_int_eq]; exact h)
def an_73 : Nat → Ann := fun b => match b with
  | _ => {}
abbrev rv_73 : List ResultVar := [.tmp 6]
abbrev rs_73 : List Nat := [95, 6]
def T_slices_Insert_int_int (W : World) (x1 : Option Addr) (l2 : Nat) (c3 : Nat) (n4 : Int) (x5 : Option Addr) (l6 : Nat) (c7 : Nat) (R : Ending → Hp → Prop) : Hp → Prop :=
  SLS x1 c3 n4 ↑l2 1 fun x8 l9 c10 =>
    BR ((↑l6 : Int) == 0)
      (R (.returned (.slice x1 l2 c3)))
      (BR (n4 == (↑l2 : Int))
        (APP Pg 3 1 x1 l2 c3 x5 l6 fun x11 l12 c13 =>
          R (.returned (.slice x11 l12 c13)))
        (BR (decide ((IntKind.wrap .i64 ((↑l2 : Int) + (↑l6 : Int))) > (↑c3 : Int)))
          (SLS x1 c3 0 n4 1 fun x14 l15 c16 =>
            APPZ Pg [26, 3] (.slice x14 l15 c16) (.int .i64 (IntKind.wrap .i64 ((IntKind.wrap .i64 ((↑l2 : Int) + (↑l6 : Int))) - n4))) fun x17 l18 c19 =>
              SLS x17 c19 n4 ↑l18 1 fun x20 l21 c22 =>
                COPY 1 x20 l21 x5 l6 fun n23 =>
                  CONJ [
                    SLS x17 c19 (IntKind.wrap .i64 (n4 + (↑l6 : Int))) ↑l18 1 fun x24 l25 c26 =>
                      SLS x1 c3 n4 ↑l2 1 fun x27 l28 c29 =>
                        COPY 1 x24 l25 x27 l28 fun n30 =>
                          R (.returned (.slice x17 l18 c19)),
                    SLS x1 c3 n4 ↑l2 1 fun x31 l32 c33 =>
                      SLS x17 c19 (IntKind.wrap .i64 (n4 + (↑l6 : Int))) ↑l18 1 fun x34 l35 c36 =>
                        COPY 1 x34 l35 x31 l32 fun n37 =>
                          R (.returned (.slice x17 l18 c19))])
          (SLS x1 c3 0 (IntKind.wrap .i64 ((↑l2 : Int) + (↑l6 : Int))) 1 fun x38 l39 c40 =>
            SLS x38 c40 (IntKind.wrap .i64 (n4 + (↑l6 : Int))) ↑l39 1 fun x41 l42 c43 =>
              EXT Pg 86 [(.slice x5 l6 c7), (.slice x41 l42 c43)] fun v44 =>
                TYB v44 fun b45 =>
                  BR (!b45)
                    (CONJ [
                      SLS x38 c40 (IntKind.wrap .i64 (n4 + (↑l6 : Int))) ↑l39 1 fun x46 l47 c48 =>
                        SLS x38 c40 n4 ↑l39 1 fun x49 l50 c51 =>
                          COPY 1 x46 l47 x49 l50 fun n52 =>
                            SLS x38 c40 n4 ↑l39 1 fun x53 l54 c55 =>
                              COPY 1 x53 l54 x5 l6 fun n56 =>
                                R (.returned (.slice x38 l39 c40)),
                      SLS x38 c40 n4 ↑l39 1 fun x57 l58 c59 =>
                        SLS x38 c40 (IntKind.wrap .i64 (n4 + (↑l6 : Int))) ↑l39 1 fun x60 l61 c62 =>
                          COPY 1 x60 l61 x57 l58 fun n63 =>
                            SLS x38 c40 n4 ↑l39 1 fun x64 l65 c66 =>
                              COPY 1 x64 l65 x5 l6 fun n67 =>
                                R (.returned (.slice x38 l39 c40))])
                    (SLS x38 c40 (↑l2 : Int) ↑l39 1 fun x68 l69 c70 =>
                      COPY 1 x68 l69 x5 l6 fun n71 =>
                        SLS x38 c40 n4 ↑l39 1 fun x72 l73 c74 =>
                          CALL Pg W F_slices_rotateRight_int [(.slice x72 l73 c74), (.int .i64 (↑l6 : Int))]
                            (fun v75 => TUP v75 fun q77 => NL q77 <|
                              R (.returned (.slice x38 l39 c40)))
                              (fun e76 => R (.panicked e76))))))
theorem T_slices_Insert_int_int_eq (W : World) (x1 : Option Addr) (l2 : Nat) (c3 : Nat) (n4 : Int) (x5 : Option Addr) (l6 : Nat) (c7 : Nat) (R : Ending → Hp → Prop) : vfun Pg W an_73 Try.f73 [(.slice x1 l2 c3), (.int .i64 n4), (.slice x5 l6 c7)] R = T_slices_Insert_int_int W x1 l2 c3 n4 x5 l6 c7 R := by kernel_rfl
theorem does_slices_Insert_int_int (W : World) (x1 : Option Addr) (l2 : Nat) (c3 : Nat) (n4 : Int) (x5 : Option Addr) (l6 : Nat) (c7 : Nat) (R : Ending → Hp → Prop) (s : Hp) (h : T_slices_Insert_int_int W x1 l2 c3 n4 x5 l6 c7 R s) : Does Pg W F_slices_Insert_int_int #[(.slice x1 l2 c3), (.int .i64 n4), (.slice x5 l6 c7)] s R :=
  does_of_vfun Pg W an_73 Try.func73 rfl (by kernel_rfl) (by rw [T_slices_Insert_int_int_eq]; exact h)
def an_74 : Nat → Ann := fun b => match b with
  | _ => {}
abbrev rv_74 : List ResultVar := [.tmp 2]
abbrev rs_74 : List Nat := [8, 2]
def T_slices_Clone_int_int (W : World) (x1 : Option Addr) (l2 : Nat) (c3 : Nat) (R : Ending → Hp → Prop) : Hp → Prop :=
  BR (Option.isNone x1)
    (R (.returned (.slice none 0 0)))
    (NEW 3 [] fun B4 =>
      APP Pg 3 1 (some ⟨B4, 0, none⟩) 0 0 x1 l2 fun x5 l6 c7 =>
        R (.returned (.slice x5 l6 c7)))
theorem T_slices_Clone_int_int_eq (W : World) (x1 : Option Addr) (l2 : Nat) (c3 : Nat) (R : Ending → Hp → Prop) : vfun Pg W an_74 Try.f74 [(.slice x1 l2 c3)] R = T_slices_Clone_int_int W x1 l2 c3 R := by kernel_rfl
theorem does_slices_Clone_int_int (W : World) (x1 : Option Addr) (l2 : Nat) (c3 : Nat) (R : Ending → Hp → Prop) (s : Hp) (h : T_slices_Clone_int_int W x1 l2 c3 R s) : Does Pg W F_slices_Clone_int_int #[(.slice x1 l2 c3)] s R :=
  does_of_vfun Pg W an_74 Try.func74 rfl (by kernel_rfl) (by rw [T_slices_Clone_int_int_eq]; exact h)
def an_75 : Nat → Ann := fun b => match b with
  | _ => {}
abbrev rv_75 : List ResultVar := [.tmp 4]
abbrev rs_75 : List Nat := [9, 4]
def T_slices_Contains_int_int (W : World) (x1 : Option Addr) (l2 : Nat) (c3 : Nat) (n4 : Int) (R : Ending → Hp → Prop) : Hp → Prop :=
  CALL Pg W F_slices_Index_int_int [(.slice x1 l2 c3), (.int .i64 n4)]
    (fun v5 => TYI .i64 v5 fun n7 =>
      R (.returned (.bool (decide (n7 ≥ 0)))))
      (fun e6 => R (.panicked e6))
theorem T_slices_Contains_int_int_eq (W : World) (x1 : Option Addr) (l2 : Nat) (c3 : Nat) (n4 : Int) (R : Ending → Hp → Prop) : vfun Pg W an_75 Try.f75 [(.slice x1 l2 c3), (.int .i64 n4)] R = T_slices_Contains_int_int W x1 l2 c3 n4 R := by kernel_rfl
theorem does_slices_Contains_int_int (W : World) (x1 : Option Addr) (l2 : Nat) (c3 : Nat) (n4 : Int) (R : Ending → Hp → Prop) (s : Hp) (h : T_slices_Contains_int_int W x1 l2 c3 n4 R s) : Does Pg W F_slices_Contains_int_int #[(.slice x1 l2 c3), (.int .i64 n4)] s R :=
  does_of_vfun Pg W an_75 Try.func75 rfl (by kernel_rfl) (by rw [T_slices_Contains_int_int_eq]; exact h)
def an_84 : Nat → Ann := fun b => match b with
  | 0 => { ms := [], ks := [.i .i64], us := [], rt := false, ex := [] }
  | _ => {}
abbrev rv_84 : List ResultVar := [.tmp 4]
abbrev rs_84 : List Nat := [13, 4]
def T_slices_AppendSeq_int_int (W : World) (x1 : Option Addr) (l2 : Nat) (c3 : Nat) (v4 : Value) (R : Ending → Hp → Prop) : Hp → Prop :=
  NEW 26 [(.slice x1 l2 c3)] fun B5 =>
    RNGN Pg W v4 1
      (fun y6 fin7 => HD y6 fun v8 r9 => TYI .i64 v8 fun n10 =>
        NL r9 <|
          RDL ⟨B5, 0, none⟩ fun x11 l12 c13 =>
            NEW 3 [(.int .i64 n10)] fun B14 =>
              APP Pg 3 1 x11 l12 c13 (some ⟨B14, 0, none⟩) 1 fun x15 l16 c17 =>
                WR (Addr.add ⟨B5, 0, none⟩ 0) (.slice x15 l16 c17) <|
                  fin7 none)
      (AFT
        (RDL ⟨B5, 0, none⟩ fun x18 l19 c20 =>
          R (.returned (.slice x18 l19 c20))) (FF) (EXL [] fun _ => FF))
theorem T_slices_AppendSeq_int_int_eq (W : World) (x1 : Option Addr) (l2 : Nat) (c3 : Nat) (v4 : Value) (R : Ending → Hp → Prop) : vfun Pg W an_84 Try.f84 [(.slice x1 l2 c3), v4] R = T_slices_AppendSeq_int_int W x1 l2 c3 v4 R := by kernel_rfl
theorem does_slices_AppendSeq_int_int (W : World) (x1 : Option Addr) (l2 : Nat) (c3 : Nat) (v4 : Value) (R : Ending → Hp → Prop) (s : Hp) (h : T_slices_AppendSeq_int_int W x1 l2 c3 v4 R s) : Does Pg W F_slices_AppendSeq_int_int #[(.slice x1 l2 c3), v4] s R :=
  does_of_vfun Pg W an_84 Try.func84 rfl (by kernel_rfl) (by rw [T_slices_AppendSeq_int_int_eq]; exact h)
def an_87 : Nat → Ann := fun b => match b with
  | _ => {}
abbrev rv_87 : List ResultVar := []
abbrev rs_87 : List Nat := [10]
def T_slices_rotateRight_int (W : World) (x1 : Option Addr) (l2 : Nat) (c3 : Nat) (n4 : Int) (R : Ending → Hp → Prop) : Hp → Prop :=
  CALL Pg W F_slices_rotateLeft_int [(.slice x1 l2 c3), (.int .i64 (IntKind.wrap .i64 ((↑l2 : Int) - n4)))]
    (fun v5 => TUP v5 fun q7 => NL q7 <|
      R (.returned (.tuple #[])))
      (fun e6 => R (.panicked e6))
theorem T_slices_rotateRight_int_eq (W : World) (x1 : Option Addr) (l2 : Nat) (c3 : Nat) (n4 : Int) (R : Ending → Hp → Prop) : vfun Pg W an_87 Try.f87 [(.slice x1 l2 c3), (.int .i64 n4)] R = T_slices_rotateRight_int W x1 l2 c3 n4 R := by kernel_rfl
theorem does_slices_rotateRight_int (W : World) (x1 : Option Addr) (l2 : Nat) (c3 : Nat) (n4 : Int) (R : Ending → Hp → Prop) (s : Hp) (h : T_slices_rotateRight_int W x1 l2 c3 n4 R s) : Does Pg W F_slices_rotateRight_int #[(.slice x1 l2 c3), (.int .i64 n4)] s R :=
  does_of_vfun Pg W an_87 Try.func87 rfl (by kernel_rfl) (by rw [T_slices_rotateRight_int_eq]; exact h)
def an_88 : Nat → Ann := fun b => match b with
  | 0 => { ms := [8], ks := [.i .i64], us := [0, 1, 7, 19], rt := false, ex := [] }
  | _ => {}
abbrev rv_88 : List ResultVar := [.tmp 4]
abbrev rs_88 : List Nat := [19, 4]
def L_slices_Index_int_int_0 (W : World) (R : Ending → Hp → Prop) (zp0 : Option Addr) (zl1 : Nat) (zl2 : Nat) (zn3 : Int) (zn4 : Int) (n5 : Int) : Hp → Prop :=
  LOOPN [.i .i64] (fun ys next s => ∀ j : Tm, vc Pg W 19 rs_88 an_88 false (sub (bodyOf Try.f88) [1, 0, 1, 0, 0]) 0 (KLoop [8] [0, 1, 7, 19] [(.slice zp0 zl1 zl2), (.int .i64 zn3), (.int .i64 zn4), (.tuple #[])] next (KBlk 0 (KS Pg W 19 rs_88 an_88 false (sub (bodyOf Try.f88) [1, 1]) 0 (fin Pg W 19 rv_88 R)))) (known [8] ys (known [0, 1, 7, 19] [(.slice zp0 zl1 zl2), (.int .i64 zn3), (.int .i64 zn4), (.tuple #[])] j)) s) [(.int .i64 n5)]
def B_slices_Index_int_int_0 (W : World) (R : Ending → Hp → Prop) (zp0 : Option Addr) (zl1 : Nat) (zl2 : Nat) (zn3 : Int) (zn4 : Int) (n5 : Int) (nx0 : List Value → Hp → Prop) : Hp → Prop :=
  BR (decide (n5 < zn4))
    (IXS zp0 zl1 n5 1 fun a6 =>
      RDI .i64 a6 fun n7 =>
        BR (zn3 == n7)
          (R (.returned (.int .i64 n5)))
          (NX [(.slice zp0 zl1 zl2), (.int .i64 zn3), (.int .i64 zn4), (.tuple #[])] [(.slice zp0 zl1 zl2), (.int .i64 zn3), (.int .i64 zn4), (.tuple #[])] (nx0 [(.int .i64 (IntKind.wrap .i64 (n5 + 1)))])))
    (R (.returned (.int .i64 (-1))))
theorem B_slices_Index_int_int_0_eq (W : World) (R : Ending → Hp → Prop) (zp0 : Option Addr) (zl1 : Nat) (zl2 : Nat) (zn3 : Int) (zn4 : Int) (n5 : Int) (nx0 : List Value → Hp → Prop) (j : Tm) : vc Pg W 19 rs_88 an_88 false (sub (bodyOf Try.f88) [1, 0, 1, 0, 0]) 0 (KLoop [8] [0, 1, 7, 19] [(.slice zp0 zl1 zl2), (.int .i64 zn3), (.int .i64 zn4), (.tuple #[])] nx0 (KBlk 0 (KS Pg W 19 rs_88 an_88 false (sub (bodyOf Try.f88) [1, 1]) 0 (fin Pg W 19 rv_88 R)))) (known [8] [(.int .i64 n5)] (known [0, 1, 7, 19] [(.slice zp0 zl1 zl2), (.int .i64 zn3), (.int .i64 zn4), (.tuple #[])] j)) = B_slices_Index_int_int_0 W R zp0 zl1 zl2 zn3 zn4 n5 nx0 := by kernel_rfl
def N_slices_Index_int_int_0 (I : Int → Hp → Prop) (μ : Int → Hp → Nat) (n50 : Int) (s : Hp) (vs : List Value) : Hp → Prop := fun s' => ∃ n5, vs = [(.int .i64 n5)] ∧ I n5 s' ∧ μ n5 s' < μ n50 s
theorem L_slices_Index_int_int_0_rule (W : World) (R : Ending → Hp → Prop) (zp0 : Option Addr) (zl1 : Nat) (zl2 : Nat) (zn3 : Int) (zn4 : Int) (I : Int → Hp → Prop) (μ : Int → Hp → Nat) (n50 : Int) (s : Hp) (h0 : I n50 s)
    (hr : ∀ (n5 : Int) (s : Hp), I n5 s → B_slices_Index_int_int_0 W R zp0 zl1 zl2 zn3 zn4 n5 (fun vs => N_slices_Index_int_int_0 I μ n5 s vs) s) : L_slices_Index_int_int_0 W R zp0 zl1 zl2 zn3 zn4 n50 s := by
  refine ⟨fun vs s => ∃ n5, vs = [(.int .i64 n5)] ∧ I n5 s, fun vs s => (match vs with | [.int _ n5] => μ n5 s | _ => 0), ⟨⟨⟨_, rfl⟩, trivial⟩, ⟨_, rfl, h0⟩⟩, ?_⟩
  intro n5 s hI j
  obtain ⟨n5', hy, hI⟩ := hI
  have hI' : I n5 s := by cases hy; exact hI
  have hh := hr n5 s hI'
  rw [← B_slices_Index_int_int_0_eq W R zp0 zl1 zl2 zn3 zn4 n5 _ j] at hh
  refine vc_mono ?_ _ _ hh
  exact KLoop_mono (fun vs s' h => by obtain ⟨n51, rfl, h1, h2⟩ := h; exact ⟨⟨⟨_, rfl⟩, trivial⟩, ⟨_, rfl, h1⟩, h2⟩)
def T_slices_Index_int_int (W : World) (x1 : Option Addr) (l2 : Nat) (c3 : Nat) (n4 : Int) (R : Ending → Hp → Prop) : Hp → Prop :=
  L_slices_Index_int_int_0 W R x1 l2 c3 n4 (↑l2 : Int) 0
theorem T_slices_Index_int_int_eq (W : World) (x1 : Option Addr) (l2 : Nat) (c3 : Nat) (n4 : Int) (R : Ending → Hp → Prop) : vfun Pg W an_88 Try.f88 [(.slice x1 l2 c3), (.int .i64 n4)] R = T_slices_Index_int_int W x1 l2 c3 n4 R := by kernel_rfl
theorem does_slices_Index_int_int (W : World) (x1 : Option Addr) (l2 : Nat) (c3 : Nat) (n4 : Int) (R : Ending → Hp → Prop) (s : Hp) (h : T_slices_Index_int_int W x1 l2 c3 n4 R s) : Does Pg W F_slices_Index_int_int #[(.slice x1 l2 c3), (.int .i64 n4)] s R :=
  does_of_vfun Pg W an_88 Try.func88 rfl (by kernel_rfl) (by rw [T_slices_Index_int_int_eq]; exact h)
def an_94 : Nat → Ann := fun b => match b with
  | _ => {}
abbrev rv_94 : List ResultVar := []
abbrev rs_94 : List Nat := [14]
def T_slices_rotateLeft_int (W : World) (x1 : Option Addr) (l2 : Nat) (c3 : Nat) (n4 : Int) (R : Ending → Hp → Prop) : Hp → Prop :=
  SLS x1 c3 0 n4 1 fun x5 l6 c7 =>
    CALL Pg W F_slices_Reverse_int_int [(.slice x5 l6 c7)]
      (fun v8 => TUP v8 fun q10 => NL q10 <|
        SLS x1 c3 n4 ↑l2 1 fun x11 l12 c13 =>
          CALL Pg W F_slices_Reverse_int_int [(.slice x11 l12 c13)]
            (fun v14 => TUP v14 fun q16 => NL q16 <|
              CALL Pg W F_slices_Reverse_int_int [(.slice x1 l2 c3)]
                (fun v17 => TUP v17 fun q19 => NL q19 <|
                  R (.returned (.tuple #[])))
                  (fun e18 => R (.panicked e18)))
              (fun e15 => R (.panicked e15)))
        (fun e9 => R (.panicked e9))
theorem T_slices_rotateLeft_int_eq (W : World) (x1 : Option Addr) (l2 : Nat) (c3 : Nat) (n4 : Int) (R : Ending → Hp → Prop) : vfun Pg W an_94 Try.f94 [(.slice x1 l2 c3), (.int .i64 n4)] R = T_slices_rotateLeft_int W x1 l2 c3 n4 R := by kernel_rfl
theorem does_slices_rotateLeft_int (W : World) (x1 : Option Addr) (l2 : Nat) (c3 : Nat) (n4 : Int) (R : Ending → Hp → Prop) (s : Hp) (h : T_slices_rotateLeft_int W x1 l2 c3 n4 R s) : Does Pg W F_slices_rotateLeft_int #[(.slice x1 l2 c3), (.int .i64 n4)] s R :=
  does_of_vfun Pg W an_94 Try.func94 rfl (by kernel_rfl) (by rw [T_slices_rotateLeft_int_eq]; exact h)
def an_95 : Nat → Ann := fun b => match b with
  | 0 => { ms := [2, 3], ks := [.i .i64, .i .i64], us := [0, 28], rt := false, ex := [] }
  | _ => {}
abbrev rv_95 : List ResultVar := []
abbrev rs_95 : List Nat := [28]
def L_slices_Reverse_int_int_0 (W : World) (R : Ending → Hp → Prop) (zp0 : Option Addr) (zl1 : Nat) (zl2 : Nat) (n4 : Int) (n5 : Int) : Hp → Prop :=
  LOOPN [.i .i64, .i .i64] (fun ys next s => ∀ j : Tm, vc Pg W 28 rs_95 an_95 false (sub (bodyOf Try.f95) [1, 0, 0]) 0 (KLoop [2, 3] [0, 28] [(.slice zp0 zl1 zl2), (.tuple #[])] next (KBlk 0 (fin Pg W 28 rv_95 R))) (known [2, 3] ys (known [0, 28] [(.slice zp0 zl1 zl2), (.tuple #[])] j)) s) [(.int .i64 n4), (.int .i64 n5)]
def B_slices_Reverse_int_int_0 (W : World) (R : Ending → Hp → Prop) (zp0 : Option Addr) (zl1 : Nat) (zl2 : Nat) (n4 : Int) (n5 : Int) (nx0 : List Value → Hp → Prop) : Hp → Prop :=
  BR (decide (n4 < n5))
    (IXS zp0 zl1 n5 1 fun a6 =>
      RDI .i64 a6 fun n7 =>
        IXS zp0 zl1 n4 1 fun a8 =>
          RDI .i64 a8 fun n9 =>
            IXS zp0 zl1 n4 1 fun a10 =>
              WR (Addr.add a10 0) (.int .i64 n7) <|
                IXS zp0 zl1 n5 1 fun a11 =>
                  WR (Addr.add a11 0) (.int .i64 n9) <|
                    NX [(.slice zp0 zl1 zl2), (.tuple #[])] [(.slice zp0 zl1 zl2), (.tuple #[])] (nx0 [(.int .i64 (IntKind.wrap .i64 (n4 + 1))), (.int .i64 (IntKind.wrap .i64 (n5 - 1)))]))
    (R (.returned (.tuple #[])))
theorem B_slices_Reverse_int_int_0_eq (W : World) (R : Ending → Hp → Prop) (zp0 : Option Addr) (zl1 : Nat) (zl2 : Nat) (n4 : Int) (n5 : Int) (nx0 : List Value → Hp → Prop) (j : Tm) : vc Pg W 28 rs_95 an_95 false (sub (bodyOf Try.f95) [1, 0, 0]) 0 (KLoop [2, 3] [0, 28] [(.slice zp0 zl1 zl2), (.tuple #[])] nx0 (KBlk 0 (fin Pg W 28 rv_95 R))) (known [2, 3] [(.int .i64 n4), (.int .i64 n5)] (known [0, 28] [(.slice zp0 zl1 zl2), (.tuple #[])] j)) = B_slices_Reverse_int_int_0 W R zp0 zl1 zl2 n4 n5 nx0 := by kernel_rfl
def N_slices_Reverse_int_int_0 (I : Int → Int → Hp → Prop) (μ : Int → Int → Hp → Nat) (n40 : Int) (n50 : Int) (s : Hp) (vs : List Value) : Hp → Prop := fun s' => ∃ n4 n5, vs = [(.int .i64 n4), (.int .i64 n5)] ∧ I n4 n5 s' ∧ μ n4 n5 s' < μ n40 n50 s
theorem L_slices_Reverse_int_int_0_rule (W : World) (R : Ending → Hp → Prop) (zp0 : Option Addr) (zl1 : Nat) (zl2 : Nat) (I : Int → Int → Hp → Prop) (μ : Int → Int → Hp → Nat) (n40 : Int) (n50 : Int) (s : Hp) (h0 : I n40 n50 s)
    (hr : ∀ (n4 : Int) (n5 : Int) (s : Hp), I n4 n5 s → B_slices_Reverse_int_int_0 W R zp0 zl1 zl2 n4 n5 (fun vs => N_slices_Reverse_int_int_0 I μ n4 n5 s vs) s) : L_slices_Reverse_int_int_0 W R zp0 zl1 zl2 n40 n50 s := by
  refine ⟨fun vs s => ∃ n4 n5, vs = [(.int .i64 n4), (.int .i64 n5)] ∧ I n4 n5 s, fun vs s => (match vs with | [.int _ n4, .int _ n5] => μ n4 n5 s | _ => 0), ⟨⟨⟨_, rfl⟩, ⟨⟨_, rfl⟩, trivial⟩⟩, ⟨_, _, rfl, h0⟩⟩, ?_⟩
  intro n4 n5 s hI j
  obtain ⟨n4', n5', hy, hI⟩ := hI
  have hI' : I n4 n5 s := by cases hy; exact hI
  have hh := hr n4 n5 s hI'
  rw [← B_slices_Reverse_int_int_0_eq W R zp0 zl1 zl2 n4 n5 _ j] at hh
  refine vc_mono ?_ _ _ hh
  exact KLoop_mono (fun vs s' h => by obtain ⟨n41, n51, rfl, h1, h2⟩ := h; exact ⟨⟨⟨_, rfl⟩, ⟨⟨_, rfl⟩, trivial⟩⟩, ⟨_, _, rfl, h1⟩, h2⟩)
def T_slices_Reverse_int_int (W : World) (x1 : Option Addr) (l2 : Nat) (c3 : Nat) (R : Ending → Hp → Prop) : Hp → Prop :=
  L_slices_Reverse_int_int_0 W R x1 l2 c3 0 (IntKind.wrap .i64 ((↑l2 : Int) - 1))
theorem T_slices_Reverse_int_int_eq (W : World) (x1 : Option Addr) (l2 : Nat) (c3 : Nat) (R : Ending → Hp → Prop) : vfun Pg W an_95 Try.f95 [(.slice x1 l2 c3)] R = T_slices_Reverse_int_int W x1 l2 c3 R := by kernel_rfl
theorem does_slices_Reverse_int_int (W : World) (x1 : Option Addr) (l2 : Nat) (c3 : Nat) (R : Ending → Hp → Prop) (s : Hp) (h : T_slices_Reverse_int_int W x1 l2 c3 R s) : Does Pg W F_slices_Reverse_int_int #[(.slice x1 l2 c3)] s R :=
  does_of_vfun Pg W an_95 Try.func95 rfl (by kernel_rfl) (by rw [T_slices_Reverse_int_int_eq]; exact h)
end Go.Proofs.Ytfaeokcbfnlgbaa.G

/- Prize: copies of rows, without one. -/
set_option linter.unusedSimpArgs false
set_option linter.unusedVariables false
set_option maxRecDepth 20000
namespace Go.Proofs.Ytfaeokcbfnlgbaa.G
open Go.V
def mn4 (m : Mn) : List Value := [.int .i64 m.place, .int .i64 m.club, .bool m.nov, .bool m.hor]
def mnV (l : List Mn) : List Value := l.flatMap mn4
theorem mnV_len (l : List Mn) : (mnV l).length = l.length * 4 := by
  induction l with
  | nil => rfl
  | cons x l ih => show (_ :: _ :: _ :: _ :: mnV l).length = _; simp only [List.length_cons, ih]; omega
theorem mnV_get : ∀ (l : List Mn) (k : Nat) (h : k < l.length), (mnV l)[k * 4]? = some (.int .i64 l[k].place) ∧ (mnV l)[k * 4 + 1]? = some (.int .i64 l[k].club) ∧ (mnV l)[k * 4 + 2]? = some (.bool l[k].nov) ∧ (mnV l)[k * 4 + 3]? = some (.bool l[k].hor)
  | [], k, h => by simp at h
  | x :: l, 0, h => ⟨rfl, rfl, rfl, rfl⟩
  | x :: l, k + 1, h => by
    have ih := mnV_get l k (by simpa using h)
    have e1 : (k + 1) * 4 = k * 4 + 4 := by omega
    rw [e1]
    exact ih
theorem mnV_one (l : List Mn) : ∀ v ∈ mnV l, oneCell v = true := by
  intro v hv
  obtain ⟨c, _, hc⟩ := List.mem_flatMap.1 hv
  simp [mn4] at hc
  rcases hc with rfl | rfl | rfl | rfl <;> rfl
theorem mnV_take : ∀ (l : List Mn) (k : Nat), mnV (l.take k) = (mnV l).take (k * 4)
  | [], k => by simp [mnV]
  | x :: l, 0 => by simp [mnV]
  | x :: l, k + 1 => by
    show mn4 x ++ mnV (l.take k) = (mn4 x ++ mnV l).take ((k + 1) * 4)
    rw [mnV_take l k, show (k + 1) * 4 = 4 + k * 4 by omega, List.take_append]
    have e1 : (mn4 x).length = 4 := rfl
    have e2 : (mn4 x).take (4 + k * 4) = mn4 x := List.take_of_length_le (by rw [e1]; omega)
    rw [e1, Nat.add_sub_cancel_left, e2]
theorem mnV_drop : ∀ (l : List Mn) (k : Nat), mnV (l.drop k) = (mnV l).drop (k * 4)
  | [], k => by simp [mnV]
  | x :: l, 0 => by simp [mnV]
  | x :: l, k + 1 => by
    show mnV (l.drop k) = (mn4 x ++ mnV l).drop ((k + 1) * 4)
    rw [mnV_drop l k, show (k + 1) * 4 = 4 + k * 4 by omega, List.drop_append]
    have e1 : (mn4 x).length = 4 := rfl
    have e2 : (mn4 x).drop (4 + k * 4) = [] := List.drop_eq_nil_of_le (by rw [e1]; omega)
    rw [e1, Nat.add_sub_cancel_left, e2]
    rfl
theorem mn_row {s : Hp} {x : Option Addr} {l : List Mn} (h : MnAt s x l) : RowAt s x (mnV l) := fun i hi => by
  rw [mnV_len] at hi
  obtain ⟨a, h0, h1, h2, h3, h4⟩ := h (i / 4) (by omega)
  obtain ⟨g1, g2, g3, g4⟩ := mnV_get l (i / 4) (by omega)
  refine ⟨a, h0, ?_⟩
  rw [Nat.mul_one]
  have key : ∀ j v, j < 4 → i = i / 4 * 4 + j → (mnV l)[i / 4 * 4 + j]? = some v → cellAt s ((a.add (i / 4 * 4)).add j) = some v → cellAt s (a.add i) = some (mnV l)[i] := by
    intro j v hj hij hv hc
    rw [addr_add, ← hij] at hc
    rw [← hij] at hv
    rw [hc]
    have := (List.getElem?_eq_some_iff.1 hv).2
    rw [this]
  have hmod : i % 4 = 0 ∨ i % 4 = 1 ∨ i % 4 = 2 ∨ i % 4 = 3 := by omega
  rcases hmod with h | h | h | h
  · exact key 0 _ (by omega) (by omega) g1 h1
  · exact key 1 _ (by omega) (by omega) g2 h2
  · exact key 2 _ (by omega) (by omega) g3 h3
  · exact key 3 _ (by omega) (by omega) g4 h4
theorem row_mn {s : Hp} {x : Option Addr} {l : List Mn} (h : RowAt s x (mnV l)) : MnAt s x l := fun i hi => by
  obtain ⟨g1, g2, g3, g4⟩ := mnV_get l i hi
  obtain ⟨a, h0, h1⟩ := row_get h g1
  obtain ⟨a2, k2, h2⟩ := row_get h g2
  obtain ⟨a3, k3, h3⟩ := row_get h g3
  obtain ⟨a4, k4, h4⟩ := row_get h g4
  rw [h0] at k2 k3 k4
  cases k2; cases k3; cases k4
  refine ⟨a, h0, ?_, ?_, ?_, ?_⟩
  · rw [addr_add]; exact h1
  · rw [addr_add]; exact h2
  · rw [addr_add]; exact h3
  · rw [addr_add]; exact h4
theorem und_22 : Pg.underlying 22 = some (.slice 48) := by kernel_rfl
theorem inf_48 : ∃ i v, Pg.info? 48 = some i ∧ i.size = 4 ∧ i.zero = some v ∧ v.cells.toList = [.int .i64 0, .int .i64 0, .bool false, .bool false] := by
  obtain ⟨i, v, h1, h2, h3⟩ := zero_of (P := Pg) (t := 48) (by kernel_rfl)
  have hs : (Pg.info? 48).map (·.size) = some 4 := by kernel_rfl
  rw [h1] at hs
  refine ⟨i, v, h1, ?_, h2, ?_⟩
  · simpa using hs
  · rw [← h3]; kernel_rfl
section
variable {W : World} {K : VK} {E : List PanicEntry → Hp → Prop} {s : Hp}
theorem c_CloneW {x : Option Addr} {c : Nat} {l : List Mn} (hx : MnAt s x l) (h0 : 0 < l.length) (h8 : l.length ≤ 1000) (h : ∀ s' a c', Ext s s' → Fr s.size s' (some a) l.length c' 4 (mnV l) → K (.slice (some a) l.length c') s') : CALL Pg W F_slices_Clone_api_Winner_api_Winner [.slice x l.length c] K E s := by
  refine does_slices_Clone_api_Winner_api_Winner W x l.length c _ s ?_
  unfold T_slices_Clone_api_Winner_api_Winner
  obtain ⟨a, ha, _⟩ := hx 0 h0
  subst ha
  refine BR_ff rfl ?_
  refine NEW_rule fun s1 e1 z1 n1 _ => ?_
  have hf : Fr s.size s1 (some ⟨s.size, 0, none⟩) 0 0 4 [] := ⟨⟨Nat.le_refl _, fun i hi => by omega⟩, rfl, fun a ha => by cases ha; exact Nat.le_refl _, by omega⟩
  refine APP_fr (lo := s.size) hf e1.1 (ws := mnV l) (mn_row (hx.ext e1)) (mnV_len l) zc_48 rfl (by omega) (mnV_one l) (by omega) fun s2 x2 c2 k2 hx2 g2 => ?_
  rw [Nat.zero_add, List.nil_append] at g2
  rw [Nat.zero_add]
  have e2 : Ext s s2 := kp_nil e1 (fun b hb => by obtain ⟨y, hy, rfl⟩ := hb; cases hy; exact Nat.le_refl _) k2
  have hpos : 0 < (mnV l).length := by rw [mnV_len]; omega
  obtain ⟨a2, ha2, _⟩ := g2.row 0 hpos
  subst ha2
  exact h s2 a2 c2 e2 g2
end
theorem sb_spq {P : Program} {s : Hp} {y : Nat} {i : Nat} {code : BoundsCode} {K : Nat → Prop} (h1 : i ≤ y) (h : K i) : spq P (Instr.sliceBound (.int .i64 (i : Nat)) y code) K s := by
  unfold Instr.sliceBound asIntOf
  rw [spq_bind]
  show spq P (if 0 ≤ ((i : Nat) : Int) ∧ ((i : Nat) : Int) ≤ (y : Nat) then pure ((i : Nat) : Int).toNat else _) K s
  rw [if_pos (by omega), spq_pure, Int.toNat_natCast]
  exact h
theorem sbs_spq {P : Program} {s : Hp} {l c i j : Nat} {K : Nat × Nat × Nat → Prop} (h1 : i ≤ j) (h2 : j ≤ l) (h3 : l ≤ c) (h : K (i, j, l)) : spq P (Instr.sliceBounds true l c (some (.int .i64 (i : Nat))) (some (.int .i64 (j : Nat))) (some (.int .i64 (l : Nat)))) K s := by
  unfold Instr.sliceBounds
  rw [spq_bind]
  refine sb_spq h3 ?_
  rw [spq_bind]
  refine sb_spq h2 ?_
  rw [spq_bind]
  refine sb_spq h1 ?_
  rw [spq_pure]
  exact h
theorem SL3_gen {P : Program} {t e : TypeId} {d : TypeInfo} {s : Hp} {a : Option Addr} {l c i j : Nat} {K : Option Addr → Nat → Nat → Hp → Prop} (hu : P.underlying t = some (.slice e)) (hi : P.info? e = some d) (h1 : i ≤ j) (h2 : j ≤ l) (h3 : l ≤ c) (h : ∀ x l c, K x l c s) : SL3 P t (.slice a l c) (some (.int .i64 (i : Nat))) (some (.int .i64 (j : Nat))) (.int .i64 (l : Nat)) K s := by
  unfold SL3 SLV
  refine sp_of_spq P _ _ _ _ ?_
  unfold Instr.sliceAt
  rw [spq_bind, spq_und hu]
  unfold Instr.slice
  simp only []
  rw [spq_bind, spq_und hu]
  simp only []
  rw [spq_bind]
  refine sbs_spq h1 h2 h3 ?_
  simp only []
  rw [spq_bind, spq_size hi, spq_pure]
  exact ⟨_, _, _, rfl, h _ _ _⟩
theorem CLR_gen {P : Program} {t e : TypeId} {d : TypeInfo} {v : Value} {s : Hp} {a : Addr} {l c : Nat} {K : Hp → Prop} (hu : P.underlying t = some (.slice e)) (hi : P.info? e = some d) (hv : d.zero = some v) (hl : 0 < l) (h : wrN (Builtin.zeroCells v.cells l).toList a 0 K s) : CLR P [t] (.slice (some a) l c) K s := by
  unfold CLR Builtin.clear_
  simp only [List.getElem?_toArray, List.getElem?_cons_zero]
  show sp P (do let x ← underlying t; _) _ _ s
  rw [sp_bind, sp_und hu]
  cases l with
  | zero => omega
  | succ l =>
    simp only [sp_bind, sp_zero hi hv]
    exact sp_mono P _ (fun _ s h => ⟨rfl, h⟩) (fun v s h => h) _ (wrN_sp _ _ _ _ (fun _ _ => False) _ h)
end Go.Proofs.Ytfaeokcbfnlgbaa.G

/- Prize: a row without one. -/
set_option linter.unusedSimpArgs false
set_option linter.unusedVariables false
set_option maxRecDepth 20000
namespace Go.Proofs.Ytfaeokcbfnlgbaa.G
open Go.V
theorem mnV_erase (l : List Mn) (m : Nat) : mnV (l.eraseIdx m) = (mnV l).take (m * 4) ++ (mnV l).drop ((m + 1) * 4) := by
  rw [List.eraseIdx_eq_take_drop_succ, ← mnV_take, ← mnV_drop]
  unfold mnV
  rw [List.flatMap_append]
theorem zc48_a : (Builtin.zeroCells #[.int .i64 0, .int .i64 0, .bool false, .bool false] 1).toList = [.int .i64 0, .int .i64 0, .bool false, .bool false] := by simp [Builtin.zeroCells, Array.toList_range, List.range_succ]
theorem zc48_cells {v : Value} (h : v.cells.toList = [.int .i64 0, .int .i64 0, .bool false, .bool false]) : (Builtin.zeroCells v.cells 1).toList = [.int .i64 0, .int .i64 0, .bool false, .bool false] := by
  have : v.cells = #[.int .i64 0, .int .i64 0, .bool false, .bool false] := Array.ext' h
  rw [this]
  exact zc48_a
section
variable {W : World} {K : VK} {E : List PanicEntry → Hp → Prop} {s : Hp}
theorem c_Delete {lo c m : Nat} {a : Addr} {l : List Mn} (hf : Fr lo s (some a) l.length c 4 (mnV l)) (hm : m < l.length) (h8 : l.length ≤ 1000) (h : ∀ s', Kp (· = a.block) s s' → Fr lo s' (some a) (l.length - 1) c 4 (mnV (l.eraseIdx m)) → K (.slice (some a) (l.length - 1) c) s') :
    CALL Pg W F_slices_Delete_api_Winner_api_Winner [.slice (some a) l.length c, .int .i64 (m : Nat), .int .i64 ((m + 1 : Nat) : Int)] K E s := by
  refine does_slices_Delete_api_Winner_api_Winner W (some a) l.length c m ((m + 1 : Nat) : Int) _ s ?_
  unfold T_slices_Delete_api_Winner_api_Winner
  obtain ⟨d, v, hi, hsz, hv, hvc⟩ := inf_48
  have hcap : l.length ≤ c := by have := hf.buf.le; rw [mnV_len] at this; omega
  have hc63 := hf.cap
  refine SL3_gen und_22 hi (by omega) (by omega) (by omega) fun _ _ _ => ?_
  refine BR_eq (fun hh => by omega) (fun _ => ?_)
  generalize hvs : (mnV l).drop ((m + 1) * 4) = vs
  have hvl : vs.length = (l.length - (m + 1)) * 4 := by rw [← hvs, List.length_drop, mnV_len]; omega
  have hv1 : ∀ v ∈ vs, oneCell v = true := fun v hv => mnV_one l v (List.mem_of_mem_drop (by rw [hvs]; exact hv))
  have hrow := hf.row
  have hlen := mnV_len l
  have hrow2 : RowAt s (if c = (((m + 1 : Nat) : Int)).toNat then some a else (some a).map (·.add ((((m + 1 : Nat) : Int)).toNat * 4))) vs := fun i hi => by
    have hne : ¬ c = (((m + 1 : Nat) : Int)).toNat := by rw [toNat_nat]; omega
    rw [if_neg hne]
    have hg : (mnV l)[(m + 1) * 4 + i]? = some vs[i] := by
      have h1 : ((mnV l).drop ((m + 1) * 4))[i]? = some vs[i] := by rw [hvs]; exact List.getElem?_eq_getElem hi
      rw [List.getElem?_drop] at h1; exact h1
    obtain ⟨b, hb, hc⟩ := row_get hrow hg
    cases hb
    refine ⟨_, rfl, ?_⟩
    rw [Nat.mul_one, addr_add, toNat_nat]; exact hc
  have own : ∀ i, i < c * 4 → ∃ y, Own s (a.add i) y ∧ ∀ h : i < (mnV l).length, y = (mnV l)[i] := fun i hi => by
    obtain ⟨a', h1, y, h2, h3⟩ := hf.buf.own i hi
    cases h1; exact ⟨y, h2, h3⟩
  -- the cells are put in their places
  have fin : (APP Pg 48 4 (some (a.add 0)) m c (if c = (((m + 1 : Nat) : Int)).toNat then some a else (some a).map (·.add ((((m + 1 : Nat) : Int)).toNat * 4))) (l.length - (m + 1)) fun x15 l16 c17 =>
       SLS x15 c17 (↑l16 : Int) (↑l.length : Int) 4 fun x18 l19 c20 =>
        CLR Pg [22] (.slice x18 l19 c20) <|
         (endK K E) (.returned (.slice x15 l16 c17))) s := by
    refine ⟨⟨by omega, hc63⟩, vs, by rw [← hvl]; exact hrow2.cells, ?_⟩
    rw [if_pos (by omega)]
    show wrN vs (((a.add 0)).add (m * 4)) 0 _ s
    rw [add_0]
    refine wrN_rule vs _ 0 _ s (fun i hi => ?_) hv1 fun s1 k1 z1 o1 u1 => ?_
    · rw [Nat.zero_add, addr_add]
      obtain ⟨y, hy, _⟩ := own (m * 4 + i) (by omega)
      exact ⟨y, hy⟩
    have hmn : m + (l.length - (m + 1)) = l.length - 1 := by omega
    rw [hmn]
    refine ⟨⟨by omega, by omega, by omega⟩, ?_⟩
    rw [toNat_nat, toNat_nat, if_neg (by omega), show l.length - (l.length - 1) = 1 by omega]
    show CLR Pg [22] (.slice (some (a.add ((l.length - 1) * 4))) 1 _) _ s1
    refine CLR_gen und_22 hi hv (by omega) ?_
    rw [zc48_cells hvc]
    -- every cell of the row, after the first writes
    have own1 : ∀ i, i < c * 4 → ∃ y, Own s1 (a.add i) y ∧ (i < (l.length - 1) * 4 → (mnV (l.eraseIdx m))[i]? = some y) := by
      intro i hic
      by_cases hin : m * 4 ≤ i ∧ i < m * 4 + vs.length
      · refine ⟨vs[i - m * 4]'(by omega), ?_, fun hlt => ?_⟩
        · have := o1 (i - m * 4) (by omega)
          rw [Nat.zero_add, addr_add, show m * 4 + (i - m * 4) = i by omega] at this
          exact this
        · rw [mnV_erase, List.getElem?_append_right (by rw [List.length_take]; omega), hvs, List.length_take, Nat.min_eq_left (by omega)]
          exact List.getElem?_eq_getElem _
      · obtain ⟨y, hy, hyv⟩ := own i hic
        refine ⟨y, u1 _ y (by rw [add_of, add_of]; omega) hy, fun hlt => ?_⟩
        rw [mnV_erase, List.getElem?_append_left (by rw [List.length_take]; omega), List.getElem?_take_of_lt (by omega)]
        rw [hyv (by omega)]
        exact List.getElem?_eq_getElem _
    refine wrN_rule _ _ 0 _ s1 (fun i hi => ?_) (by simp [oneCell]) fun s2 k2 z2 o2 u2 => ?_
    · rw [Nat.zero_add, addr_add]
      have hi4 : i < 4 := hi
      obtain ⟨y, hy, _⟩ := own1 ((l.length - 1) * 4 + i) (by omega)
      exact ⟨y, hy⟩
    · have kk : Kp (· = a.block) s s2 := by
        have k2' : Kp (· = a.block) s1 s2 := k2.mono fun b hb => by rw [add_blk] at hb; exact hb
        exact (k1.mono fun b hb => by rw [add_blk] at hb; exact hb).trans k2'
      refine h s2 kk ⟨⟨?_, fun i hi => ⟨a, rfl, ?_⟩⟩, ?_, hf.fr, hc63⟩
      · rw [mnV_len, List.length_eraseIdx_of_lt hm]; omega
      · by_cases hin : (l.length - 1) * 4 ≤ i ∧ i < (l.length - 1) * 4 + 4
        · have hi4 : i - (l.length - 1) * 4 < 4 := by omega
          have := o2 (i - (l.length - 1) * 4) hi4
          rw [Nat.zero_add, addr_add, show (l.length - 1) * 4 + (i - (l.length - 1) * 4) = i by omega] at this
          refine ⟨_, this, fun hh => ?_⟩
          rw [mnV_len, List.length_eraseIdx_of_lt hm] at hh; omega
        · obtain ⟨y, hy, hyv⟩ := own1 i hi
          refine ⟨y, u2 _ y (by rw [add_of, add_of]; simp only [List.length_cons, List.length_nil]; omega) hy, fun hh => ?_⟩
          have hh2 := hh
          rw [mnV_len, List.length_eraseIdx_of_lt hm] at hh2
          have := hyv hh2
          rw [List.getElem?_eq_getElem hh] at this
          exact (Option.some.inj this).symm
      · rw [mnV_len, List.length_eraseIdx_of_lt hm]
  have e0 : (if c = ((0 : Int)).toNat then some a else (some a).map (·.add ((0 : Int).toNat * 4))) = some (a.add 0) := by
    have : ¬ c = ((0 : Int)).toNat := by show ¬ c = 0; omega
    rw [if_neg this]; rfl
  refine CONJ_two ?_ ?_
  · refine ⟨⟨by omega, by omega, by omega⟩, ?_⟩
    rw [e0]
    refine ⟨⟨by omega, by omega, by omega⟩, ?_⟩
    rw [toNat_nat, toNat_nat]
    rw [toNat_nat] at fin
    exact fin
  · refine ⟨⟨by omega, by omega, by omega⟩, ?_⟩
    refine ⟨⟨by omega, by omega, by omega⟩, ?_⟩
    rw [e0, toNat_nat, toNat_nat]
    rw [toNat_nat] at fin
    exact fin
end
end Go.Proofs.Ytfaeokcbfnlgbaa.G

/- Prize: plain: without somebody. -/
set_option linter.unusedSimpArgs false
set_option linter.unusedVariables false
set_option maxRecDepth 20000
namespace Go.Proofs.Ytfaeokcbfnlgbaa.G
open Go.V
theorem okMs_iff {n : Nat} : ∀ (r seen : List Mn), okMs n seen r = true ↔ (∀ m ∈ r, (1 ≤ m.place ∧ m.place ≤ n) ∧ (0 ≤ m.club ∧ m.club ≤ 5)) ∧ r.Pairwise (fun a b => a.place ≠ b.place) ∧ ∀ m ∈ r, ∀ x ∈ seen, x.place ≠ m.place
  | [], seen => by simp [okMs]
  | m :: r, seen => by
    unfold okMs okMn
    simp only [Bool.and_eq_true, decide_eq_true_eq, List.all_eq_true, okMs_iff r (seen ++ [m]), List.pairwise_cons, List.mem_cons, forall_eq_or_imp, List.mem_append]
    constructor
    · rintro ⟨⟨h1, h2, h3⟩, h4, h5, h6⟩
      exact ⟨⟨⟨h1, h3⟩, h4⟩, ⟨fun a ha => h6 a ha m (.inr (by simp)), h5⟩, h2, fun a ha x hx => h6 a ha x (.inl hx)⟩
    · rintro ⟨⟨⟨h1, h3⟩, h4⟩, ⟨h7, h5⟩, h2, h6⟩
      refine ⟨⟨h1, h2, h3⟩, h4, h5, fun a ha x hx => ?_⟩
      rcases hx with hx | hx
      · exact h6 a ha x hx
      · simp at hx; subst hx; exact h7 a ha
def decP (p : Int) (w : Mn) : Mn := if w.place > p then { w with place := w.place - 1 } else w
/-- Prizes without somebody. -/
def withoutP (T : PT) (m : Nat) : PT := ⟨(T.men.eraseIdx m).map (decP (T.man m).place), T.list⟩
theorem without_n {T : PT} {m : Nat} (h : m < T.n) : (withoutP T m).n = T.n - 1 := by
  unfold withoutP PT.n
  simp only [List.length_map]
  exact List.length_eraseIdx_of_lt h
theorem erase_ne {T : PT} (hv : VdP T) {m : Nat} (hm : m < T.n) {w : Mn} (hw : w ∈ T.men.eraseIdx m) : w.place ≠ (T.man m).place ∧ (1 ≤ w.place ∧ w.place ≤ T.n) ∧ (0 ≤ w.club ∧ w.club ≤ 5) := by
  obtain ⟨i, hi, e⟩ := List.mem_eraseIdx_iff_getElem.1 hw
  obtain ⟨hi2, e⟩ := e
  have hT : T.man i = w := by unfold PT.man; rw [getD_lt hi]; exact e
  subst hT
  exact ⟨fun h => hi2 (hv.inj i m hi hm h), hv.pl i hi, hv.cl i hi⟩
theorem ok_without {T : PT} (hok : okP T = true) {m : Nat} (hm : m < T.n) (h2 : 2 ≤ T.n) : okP (withoutP T m) = true := by
  have hv := okP_vd hok
  obtain ⟨h1, h6, h3, h4⟩ := okP_iff.1 hok
  have hp := ((okMs_iff _ _).1 h3).2.1
  rw [okP_iff, without_n hm]
  refine ⟨by omega, h6, ?_, h4⟩
  rw [okMs_iff]
  have hpm := hv.pl m hm
  refine ⟨fun w hw => ?_, ?_, fun _ _ x hx => by cases hx⟩
  · obtain ⟨u, hu, rfl⟩ := List.mem_map.1 hw
    obtain ⟨g1, g2, g3⟩ := erase_ne hv hm hu
    unfold decP
    split
    · exact ⟨⟨by show 1 ≤ u.place - 1; omega, by show u.place - 1 ≤ _; omega⟩, g3⟩
    · exact ⟨⟨g2.1, by omega⟩, g3⟩
  · unfold withoutP
    rw [List.pairwise_map]
    have hsub := hp.sublist (List.eraseIdx_sublist T.men m)
    refine hsub.imp_of_mem fun {a b} ha hb hab => ?_
    have ga := (erase_ne hv hm ha).1
    have gb := (erase_ne hv hm hb).1
    unfold decP
    split <;> split <;> (try simp only) <;> omega
/-- Who is who: a number without somebody, as one with him. -/
def upK (m k : Nat) : Nat := if k ≥ m then k + 1 else k
def gainB (T : PT) (m i : Nat) : Bool := !decide (i = m) && decide ((worP (withoutP T m) (manL (dueP (withoutP T m)))).getD (if i > m then i - 1 else i) 0 > (worP T (manL (dueP T))).getD i 0)
def setK (B : Nat → Bool) : Nat → Nat
  | 0 => 0
  | k + 1 => setK B k + if B k then 2 ^ k else 0
theorem setK_lt (B : Nat → Bool) : ∀ k, setK B k < 2 ^ k
  | 0 => Nat.one_pos
  | k + 1 => by
    have := setK_lt B k
    unfold setK
    rw [Nat.pow_succ]
    split <;> omega
theorem or_bit : ∀ x : Nat, x < 256 → ∀ i : Nat, i < 8 → x < 2 ^ i → orv .i64 (x : Int) (shlv .i64 1 (i : Int)) = ((x + 2 ^ i : Nat) : Int) := by
  have h : ((List.range 256).all fun (x : Nat) => (List.range 8).all fun (i : Nat) => !decide (x < 2 ^ i) || decide (orv .i64 (x : Int) (shlv .i64 1 (i : Int)) = ((x + 2 ^ i : Nat) : Int))) = true := by decide +kernel
  intro x hx i hi hb
  have h1 := List.all_eq_true.1 h x (by simpa using hx)
  have h2 := List.all_eq_true.1 h1 i (by simpa using hi)
  rw [decide_eq_true hb] at h2
  simpa using h2
def stayR (T : PT) (m : Int) : Int × Int := if okP T then (if isM T m then (if T.n = 1 then (0, 0) else ((setK (gainB T m.toNat) T.n : Nat), 0)) else (0, 2)) else (0, 1)
theorem giv_lt {T : PT} (hv : VdP T) {b : Int × Int} {f : Nat → Bool} {z m : Nat} (h : givB T b f z = some m) : m < T.n ∧ canP T m z = true := by
  have key : ∀ g : Nat → Bool, givF T g z = some m → m < T.n ∧ canP T m z = true := fun g hg => by
    unfold givF ordF at hg
    have h1 := List.mem_of_find?_eq_some hg
    exact ⟨(ord_mem hv).1 (List.mem_filter.1 h1).1, List.find?_some (p := fun m => canP T m z) hg⟩
  unfold givB at h
  split at h
  · split at h
    · cases h
    · exact key _ h
  · exact key _ h
theorem due_range {T : PT} (hv : VdP T) : ∀ k, ∀ d ∈ manL (dueL T k), d = -1 ∨ (0 ≤ d ∧ d < T.n)
  | 0, d, h => by cases h
  | k + 1, d, h => by
    have e : dueL T (k + 1) = dueL T k ++ [givB T (bestP T) (fun m => !tkF (dueL T k) m) k] := rfl
    rw [e, manL_app] at h
    rcases List.mem_append.1 h with h | h
    · exact due_range hv k d h
    · have hd : d = manI (givB T (bestP T) (fun m => !tkF (dueL T k) m) k) := by simpa [manL] using h
      cases hg : givB T (bestP T) (fun m => !tkF (dueL T k) m) k with
      | none => rw [hg] at hd; exact .inl hd
      | some m =>
        rw [hg] at hd
        have := (giv_lt hv hg).1
        have hd' : d = (m : Nat) := hd
        exact .inr ⟨by omega, by omega⟩
end Go.Proofs.Ytfaeokcbfnlgbaa.G

/- Prize: Stay. -/
set_option linter.unusedSimpArgs false
set_option linter.unusedVariables false
set_option maxRecDepth 20000
namespace Go.Proofs.Ytfaeokcbfnlgbaa.G
open Go.V
theorem zc_25 : zc Pg 25 = [.slice none 0 0, .slice none 0 0] := by kernel_rfl
def mixL (p : Int) (E : List Mn) (k : Nat) : List Mn := (E.take k).map (decP p) ++ E.drop k
theorem mixL_len (p : Int) (E : List Mn) (k : Nat) : (mixL p E k).length = E.length := by
  unfold mixL
  rw [List.length_append, List.length_map, List.length_take, List.length_drop]; omega
theorem mixL_at {p : Int} {E : List Mn} {k : Nat} (h : k < E.length) : (mixL p E k)[k]? = some E[k] := by
  unfold mixL
  rw [List.getElem?_append_right (by rw [List.length_map, List.length_take]; omega), List.length_map, List.length_take, Nat.min_eq_left (by omega), Nat.sub_self, List.getElem?_drop, Nat.add_zero, List.getElem?_eq_getElem h]
theorem mixL_succ {p : Int} {E : List Mn} {k : Nat} (h : k < E.length) : mixL p E (k + 1) = (mixL p E k).set k (decP p E[k]) := by
  unfold mixL
  rw [List.set_append_right _ _ (by rw [List.length_map, List.length_take]; omega), List.length_map, List.length_take, Nat.min_eq_left (by omega), Nat.sub_self, List.take_add_one, List.getElem?_eq_getElem h, List.map_append, List.append_assoc]
  congr 1
  rw [List.drop_eq_getElem_cons h]
  rfl
theorem mixL_same {p : Int} {E : List Mn} {k : Nat} (h : k < E.length) (hd : decP p E[k] = E[k]) : mixL p E (k + 1) = mixL p E k := by
  rw [mixL_succ h, hd]
  have h1 := mixL_at (p := p) h
  obtain ⟨h2, h3⟩ := List.getElem?_eq_some_iff.1 h1
  rw [← h3]
  exact List.set_getElem_self h2
theorem mnV_set : ∀ (l : List Mn) (k : Nat) (q : Int) (h : k < l.length), (mnV l).set (k * 4) (.int .i64 q) = mnV (l.set k { l[k] with place := q })
  | [], k, q, h => by simp at h
  | x :: l, 0, q, h => rfl
  | x :: l, k + 1, q, h => by
    have ih := mnV_set l k q (by simpa using h)
    show (mn4 x ++ mnV l).set ((k + 1) * 4) _ = mn4 x ++ mnV (l.set k { l[k]'(by simpa using h) with place := q })
    rw [← ih, show (k + 1) * 4 = 4 + k * 4 by omega, List.set_append_right _ _ (show (mn4 x).length ≤ 4 + k * 4 by show 4 ≤ _; omega)]
    congr 2
    show 4 + k * 4 - 4 = k * 4
    omega
def upT (m k : Nat) : Nat := if k ≤ m then k else k + 1
section
variable {W : World} {K : VK} {E : List PanicEntry → Hp → Prop} {s : Hp} {T : PT}
theorem c_Stay {x y : Option Addr} {c c' : Nat} {m : Int} (hx : MnAt s x T.men) (hy : PzAt s y T.list) (h : ∀ s', Ext s s' → K (.tuple #[.int .i64 (stayR T m).1, .int .i64 (stayR T m).2]) s') :
    CALL Pg W F_prize_Stay [.agg #[.slice x T.n c, .slice y T.z c'], .int .i64 m] K E s := by
  refine does_prize_Stay W x T.n c y T.z c' m _ s ?_
  unfold T_prize_Stay
  refine ne2 fun s1 e1 z1 o1 o2 => ?_
  refine nz1 zc_29 fun s2 e2 z2 o3 => ?_
  have e02 := e1.trans e2
  refine ⟨_, _, _, e2.cell o1.cell, _, _, _, e2.cell o2.cell, ?_⟩
  have hs1 : s.size ≤ s1.size := e1.1
  refine c_open (hx.ext e02) (hy.ext e02) (fun hok s3 p e3 hp => ?_) (fun hok s3 e3 => ?_)
  · try simp only [TUP_mk, AGG_mk, HD_mk, NL_mk, TYI_mk, TYB_mk, TYP_mk, TYL_mk, TYS_mk, TYM_mk, SO_mk, NX_mk, endK_mk, endK_mk', add_0]
    have e03 := e02.trans e3
    have hs3 : s1.size < s3.size := by have := e3.1; omega
    have hv := okP_vd hok
    have h8 := hv.n8
    have h6 := hv.z6
    have hn1 := hv.n1
    refine c_isMan hp ?_
    try simp only [TUP_mk, AGG_mk, HD_mk, NL_mk, TYI_mk, TYB_mk, TYP_mk, TYL_mk, TYS_mk, TYM_mk, SO_mk, NX_mk, endK_mk, endK_mk', add_0]
    refine c_must (fun hm => ?_) (fun hm => ?_)
    · try simp only [TUP_mk, AGG_mk, HD_mk, NL_mk, TYI_mk, TYB_mk, TYP_mk, TYL_mk, TYS_mk, TYM_mk, SO_mk, NX_mk, endK_mk, endK_mk', add_0]
      have hM : isM T m = true := hm
      have hm' := of_decide_eq_true hm
      obtain ⟨j, rfl⟩ := Int.eq_ofNat_of_zero_le hm'.1
      have hj : j < T.n := by omega
      have hR : stayR T (j : Int) = if T.n = 1 then (0, 0) else (((setK (gainB T j) T.n : Nat) : Int), 0) := by unfold stayR; rw [if_pos hok, if_pos hM, toNat_nat]
      refine c_due hp fun s4 dx dc e4 f4 => ?_
      try simp only [TUP_mk, AGG_mk, HD_mk, NL_mk, TYI_mk, TYB_mk, TYP_mk, TYL_mk, TYS_mk, TYM_mk, SO_mk, NX_mk, endK_mk, endK_mk', add_0]
      have hdl : (manL (dueP T)).length = T.z := by unfold manL dueP; simp [dueL_len]
      have hdr := due_range hv T.z
      refine (fun hh => by rw [← hdl]; exact hh : CALL Pg W F_prize_prizes_worths [.pointer (some p), .slice dx (manL (dueP T)).length dc] _ _ s4 → CALL Pg W F_prize_prizes_worths [.pointer (some p), .slice dx T.z dc] _ _ s4) ?_
      refine c_worths (hp.ext e4) f4.row hdl hdr fun s5 wx wc e5 f5 => ?_
      try simp only [TUP_mk, AGG_mk, HD_mk, NL_mk, TYI_mk, TYB_mk, TYP_mk, TYL_mk, TYS_mk, TYM_mk, SO_mk, NX_mk, endK_mk, endK_mk', add_0]
      have e25 := e3.trans (e4.trans e5)
      have e15 := e2.trans e25
      have e05 := e1.trans e15
      have oB := e25.own o3
      have hs5 : s3.size ≤ s5.size := (e4.trans e5).1
      refine ⟨_, _, _, e15.cell o1.cell, ?_⟩
      refine BR_eq (fun h1 => ?_) (fun h1 => ?_)
      · have h1' : T.n = 1 := by omega
        refine ep_ok oB fun t k => ?_
        have := h t (ext_kp e05 hs1 k)
        rw [hR, if_pos h1'] at this
        exact this
      have hnn : ¬ T.n = 1 := fun e => h1 (by rw [e]; rfl)
      have h2 : 2 ≤ T.n := by omega
      have hne1 : ¬ T.n = 1 := by omega
      rw [if_neg hne1] at hR
      refine ⟨_, _, _, e15.cell o1.cell, _, _, _, e15.cell o2.cell, ?_⟩
      refine nw2 zc_25 rfl rfl fun s6 e6 z6 q1 q2 => ?_
      have e16 := e15.trans e6
      have e06 := e1.trans e16
      refine ⟨_, _, _, e16.cell o1.cell, ?_⟩
      refine c_CloneW (l := T.men) (hx.ext e06) (by show 0 < T.n; omega) (by show T.n ≤ 1000; omega) fun s7 a ac e7 f7 => ?_
      try simp only [TUP_mk, AGG_mk, HD_mk, NL_mk, TYI_mk, TYB_mk, TYP_mk, TYL_mk, TYS_mk, TYM_mk, SO_mk, NX_mk, endK_mk, endK_mk', add_0]
      rw [wrap_succ (by omega)]
      have hda : s6.size ≤ a.block := f7.fr a rfl
      refine c_Delete (lo := s6.size) (m := j) f7 hj (by show T.n ≤ 1000; omega) fun s8 k8 f8 => ?_
      try simp only [TUP_mk, AGG_mk, HD_mk, NL_mk, TYI_mk, TYB_mk, TYP_mk, TYL_mk, TYS_mk, TYM_mk, SO_mk, NX_mk, endK_mk, endK_mk', add_0]
      have e68 : Ext s6 s8 := ext_kp e7 hda k8
      have q1' := e68.own q1
      have q2' := e68.own q2
      refine WR_own q1' rfl ?_
      have q1w := own_set (v := .slice (some a) (T.men.length - 1) ac) q1'
      have q2w : Own (setC s8 ⟨s5.size, 0, none⟩ (.slice (some a) (T.men.length - 1) ac)) ⟨s5.size, 1, none⟩ (.slice y T.z c') := own_set_ne (.inr (by show (1 : Nat) ≠ 0; omega)) q2'
      have e58 : Ext s5 (setC s8 ⟨s5.size, 0, none⟩ (.slice (some a) (T.men.length - 1) ac)) := Ext.setC (e6.trans e68) (Nat.le_refl _)
      have f8w : Fr s6.size (setC s8 ⟨s5.size, 0, none⟩ (.slice (some a) (T.men.length - 1) ac)) (some a) (T.men.length - 1) ac 4 (mnV (T.men.eraseIdx j)) := f8.kp (D := (· = s5.size)) (Kp.setC (Kp.refl _) (.inl rfl)) (fun b hb he => by cases hb; have : a.block = s5.size := he; omega)
      generalize hs9 : setC s8 ⟨s5.size, 0, none⟩ (.slice (some a) (T.men.length - 1) ac) = s9 at *
      refine ⟨_, _, _, q1w.cell, ?_⟩
      have hEl : (T.men.eraseIdx j).length = T.n - 1 := List.length_eraseIdx_of_lt hj
      have hTl : T.men.length - 1 = T.n - 1 := rfl
      rw [hTl] at *
      generalize hE : T.men.eraseIdx j = EE at *
      generalize hpl : (T.man j).place = pl at *
      refine L_prize_Stay_0_rule W _ j ⟨s.size, 0, none⟩ ⟨s1.size, 0, none⟩ wx T.n wc ⟨s5.size, 0, none⟩ ((T.n - 1 : Nat) : Int) (fun n t => Ext s5 t ∧ Own t ⟨s5.size, 0, none⟩ (.slice (some a) (T.n - 1) ac) ∧ Own t ⟨s5.size, 1, none⟩ (.slice y T.z c') ∧ ∃ k : Nat, k ≤ T.n - 1 ∧ n = k ∧ Fr s6.size t (some a) (T.n - 1) ac 4 (mnV (mixL pl EE k))) (fun n _ => (((T.n - 1 : Nat) : Int) - n).toNat) 0 s9
        ⟨e58, q1w, q2w, 0, by omega, rfl, (show mnV EE = mnV (mixL pl EE 0) from rfl) ▸ f8w⟩ ?_
      rintro n t ⟨et, p1, p2, k, hk, rfl, hfr⟩
      unfold B_prize_Stay_0
      have e1t := e15.trans et
      refine BR_dec (fun hlt => ?_) (fun hlt => ?_)
      · have hkn : k < T.n - 1 := by omega
        have hkE : k < EE.length := by omega
        have hml := mixL_len pl EE k
        have hkm : k < (mixL pl EE k).length := by omega
        have hat := (List.getElem?_eq_some_iff.1 (mixL_at (p := pl) hkE)).2
        obtain ⟨b, hb, cb⟩ := row_get hfr.row (mnV_get (mixL pl EE k) k hkm).1
        cases hb
        have hEp := erase_ne hv hj (w := EE[k]) (by rw [hE]; exact List.getElem_mem hkE)
        rw [hat] at cb
        refine ⟨_, _, _, p1.cell, ?_⟩
        refine IXS_nat hkn ?_
        refine ⟨_, cb, ?_⟩
        refine ⟨_, _, _, e1t.cell o1.cell, ?_⟩
        obtain ⟨ax, w0, w1, w2, w3, w4⟩ := man_row (hx.ext (e1.trans e1t)) hj
        refine IXS_at w0 hj ?_
        refine ⟨_, w1, ?_⟩
        rw [hpl]
        refine BR_dec (fun h3 => ?_) (fun h3 => ?_)
        · refine ⟨_, _, _, p1.cell, ?_⟩
          refine IXS_nat hkn ?_
          refine ⟨_, cb, ?_⟩
          refine IXS_nat hkn ?_
          rw [wrap_i64 (by omega) (by omega)]
          have hi4 : k * 4 < (mnV (mixL pl EE k)).length := by rw [mnV_len]; omega
          have hown := hfr.buf.at hi4
          have hset := hfr.buf.set (v := .int .i64 (EE[k].place - 1)) hi4
          refine WR_own hown rfl ?_
          unfold J_prize_Stay_0
          have hb6 : s6.size ≤ (a.add (k * 4)).block := by rw [add_blk]; exact hda
          have hne6 : (⟨s5.size, 0, none⟩ : Addr).block ≠ (a.add (k * 4)).block := by show s5.size ≠ _; omega
          refine ⟨rfl, _, rfl, ⟨Ext.setC et (by show s5.size ≤ (a.add (k * 4)).block; omega), own_set_ne (.inl hne6) p1, own_set_ne (.inl hne6) p2, k + 1, hkn, wrap_succ (by omega), ?_⟩, ms_succ hkn (by omega)⟩
          have hmm : mnV (mixL pl EE (k + 1)) = (mnV (mixL pl EE k)).set (k * 4) (.int .i64 (EE[k].place - 1)) := by
            rw [mnV_set _ _ _ hkm, mixL_succ hkE, hat]
            unfold decP
            rw [if_pos h3]
          rw [hmm]
          exact ⟨hset, by rw [List.length_set]; exact hfr.len, hfr.fr, hfr.cap⟩
        · unfold J_prize_Stay_0
          refine ⟨rfl, _, rfl, ⟨et, p1, p2, k + 1, hkn, wrap_succ (by omega), ?_⟩, ms_succ hkn (by omega)⟩
          rw [mixL_same hkE (by unfold decP; rw [if_neg h3])]
          exact hfr
      · have hkn : k = T.n - 1 := by omega
        subst hkn
        have hmix : mixL pl EE (T.n - 1) = (withoutP T j).men := by
          unfold mixL withoutP
          rw [hE, hpl, ← hEl, List.take_length, List.drop_length, List.append_nil]
        rw [hmix] at hfr
        have hokW := ok_without hok hj h2
        have hvW := okP_vd hokW
        have hnW : (withoutP T j).n = T.n - 1 := without_n hj
        have h6W := hvW.z6
        have h8W := hvW.n8
        have e0t := e1.trans e1t
        refine ⟨_, _, _, p1.cell, _, _, _, p2.cell, ?_⟩
        dsimp only
        rw [← hnW]
        refine c_open (T := withoutP T j) (row_mn hfr.row) (hy.ext e0t) (fun _ t1 p' f1 hp' => ?_) (fun hbad => by rw [hokW] at hbad; cases hbad)
        try simp only [TUP_mk, AGG_mk, HD_mk, NL_mk, TYI_mk, TYB_mk, TYP_mk, TYL_mk, TYS_mk, TYM_mk, SO_mk, NX_mk, endK_mk, endK_mk', add_0]
        refine c_due hp' fun t2 dx' dc' f2 g2 => ?_
        try simp only [TUP_mk, AGG_mk, HD_mk, NL_mk, TYI_mk, TYB_mk, TYP_mk, TYL_mk, TYS_mk, TYM_mk, SO_mk, NX_mk, endK_mk, endK_mk', add_0]
        have hdl' : (manL (dueP (withoutP T j))).length = (withoutP T j).z := by unfold manL dueP; simp [dueL_len]
        have hdr' := due_range hvW (withoutP T j).z
        refine (fun hh => by rw [← hdl']; exact hh : CALL Pg W F_prize_prizes_worths [.pointer (some p'), .slice dx' (manL (dueP (withoutP T j))).length dc'] _ _ t2 → CALL Pg W F_prize_prizes_worths [.pointer (some p'), .slice dx' (withoutP T j).z dc'] _ _ t2) ?_
        refine c_worths (hp'.ext f2) g2.row hdl' hdr' fun t3 wx' wc' f3 g3 => ?_
        try simp only [TUP_mk, AGG_mk, HD_mk, NL_mk, TYI_mk, TYB_mk, TYP_mk, TYL_mk, TYS_mk, TYM_mk, SO_mk, NX_mk, endK_mk, endK_mk', add_0]
        have ft := f1.trans (f2.trans f3)
        have e5t3 := et.trans ft
        have f5t := f5.ext e5t3
        have oB3 := e5t3.own oB
        have hwl : (worP T (manL (dueP T))).length = T.n := worP_len
        have hwl' : (worP (withoutP T j) (manL (dueP (withoutP T j)))).length = T.n - 1 := by rw [worP_len, hnW]
        rw [hnW]
        rw [hnW] at g3
        generalize hB : gainB T j = B at *
        have hBj : B j = false := by rw [← hB]; unfold gainB; simp
        refine L_prize_Stay_1_rule W _ j ⟨s1.size, 0, none⟩ wx T.n wc wx' (T.n - 1) wc' ((T.n - 1 : Nat) : Int) (fun n8 n9 t => t = t3 ∧ ∃ k : Nat, k ≤ T.n - 1 ∧ n9 = k ∧ n8 = (setK B (upT j k) : Nat)) (fun _ n9 _ => (((T.n - 1 : Nat) : Int) - n9).toNat) 0 0 t3 ⟨rfl, 0, by omega, rfl, by unfold upT; rw [if_pos (by omega)]; rfl⟩ ?_
        rintro n8 n9 t4 ⟨rfl, k, hk, rfl, rfl⟩
        unfold B_prize_Stay_1
        refine BR_dec (fun hlt2 => ?_) (fun hlt2 => ?_)
        · have hkn : k < T.n - 1 := by omega
          obtain ⟨b1, hb1, g1⟩ := row_int g3.row (by omega : k < (worP (withoutP T j) (manL (dueP (withoutP T j)))).length)
          refine IXS_at hb1 hkn ?_
          refine ⟨_, g1, ?_⟩
          generalize hnx : (fun vs : List Value => _) = nx
          have step : ∀ i : Nat, i = upK j k → J_prize_Stay_2 W (endK K E) wx T.n i ((worP (withoutP T j) (manL (dueP (withoutP T j)))).getD k 0) j ⟨s1.size, 0, none⟩ wc wx' (T.n - 1) wc' ((T.n - 1 : Nat) : Int) nx (setK B (upT j k) : Nat) k t4 := by
            intro i hi
            have hin : i < T.n := by rw [hi]; unfold upK; split <;> omega
            have hij : ¬ i = j := by rw [hi]; unfold upK; split <;> omega
            have hidx : (if i > j then i - 1 else i) = k := by rw [hi]; unfold upK; split <;> split <;> omega
            have hgain : B i = decide ((worP (withoutP T j) (manL (dueP (withoutP T j)))).getD k 0 > (worP T (manL (dueP T))).getD i 0) := by
              rw [← hB]; unfold gainB
              rw [decide_eq_false hij, hidx]; rfl
            have hset : setK B (upT j (k + 1)) = setK B (upT j k) + if B i then 2 ^ i else 0 := by
              rw [hi]
              unfold upT upK
              rcases Nat.lt_trichotomy k j with hl | hl | hl
              · have a1 : k + 1 ≤ j := hl
                have a2 : k ≤ j := by omega
                have a3 : ¬ k ≥ j := by omega
                simp only [a1, a2, a3, if_true, if_false]
                rfl
              · subst hl
                have a1 : ¬ k + 1 ≤ k := by omega
                have a2 : k ≥ k := Nat.le_refl _
                simp only [a1, a2, Nat.le_refl, if_true, if_false]
                show setK B (k + 1) + _ = _
                have : setK B (k + 1) = setK B k := by show setK B k + _ = _; rw [hBj]; simp
                rw [this]
              · have a1 : ¬ k + 1 ≤ j := by omega
                have a2 : ¬ k ≤ j := by omega
                have a3 : k ≥ j := by omega
                simp only [a1, a2, a3, if_true, if_false]
                rfl
            have hup : upT j k ≤ i := by rw [hi]; unfold upT upK; split <;> split <;> omega
            have hlt3 : setK B (upT j k) < 2 ^ i := Nat.lt_of_lt_of_le (setK_lt B _) (Nat.pow_le_pow_right (by omega) hup)
            have h256 : (2 : Nat) ^ i ≤ 2 ^ 8 := Nat.pow_le_pow_right (by omega) (by omega)
            unfold J_prize_Stay_2
            obtain ⟨b2, hb2, g2'⟩ := row_int f5t.row (by omega : i < (worP T (manL (dueP T))).length)
            refine IXS_at hb2 hin ?_
            refine ⟨_, g2', ?_⟩
            refine BR_dec (fun h4 => ?_) (fun h4 => ?_)
            · rw [decide_eq_true h4] at hgain
              refine NNI_of (by omega) ?_
              unfold J_prize_Stay_1
              rw [or_bit _ (by omega) i (by omega) hlt3, ← hnx]
              refine ⟨rfl, _, _, rfl, ⟨rfl, k + 1, hkn, wrap_succ (by omega), ?_⟩, ms_succ hkn (by omega)⟩
              rw [hset, hgain]; rfl
            · rw [decide_eq_false h4] at hgain
              unfold J_prize_Stay_1
              rw [← hnx]
              refine ⟨rfl, _, _, rfl, ⟨rfl, k + 1, hkn, wrap_succ (by omega), ?_⟩, ms_succ hkn (by omega)⟩
              rw [hset, hgain]; rfl
          refine BR_dec (fun h4 => ?_) (fun h4 => ?_)
          · rw [wrap_succ (by omega)]
            exact step (k + 1) (by unfold upK; rw [if_pos (by omega)])
          · exact step k (by unfold upK; rw [if_neg (by omega)])
        · have hkn : k = T.n - 1 := by omega
          subst hkn
          have hfin : setK B (upT j (T.n - 1)) = setK B T.n := by
            unfold upT
            by_cases hl : T.n - 1 ≤ j
            · rw [if_pos hl]
              have hjn : j = T.n - 1 := by omega
              have : setK B (T.n - 1 + 1) = setK B (T.n - 1) := by
                show setK B (T.n - 1) + _ = _
                rw [← hjn, hBj]; simp
              rw [← this, show T.n - 1 + 1 = T.n by omega]
            · rw [if_neg hl, show T.n - 1 + 1 = T.n by omega]
          rw [hfin]
          refine ep_ok oB3 fun t5 k5 => ?_
          have := h t5 (ext_kp (e05.trans e5t3) hs1 k5)
          rw [hR] at this
          exact this
    · try simp only [TUP_mk, AGG_mk, HD_mk, NL_mk, TYI_mk, TYB_mk, TYP_mk, TYL_mk, TYS_mk, TYM_mk, SO_mk, NX_mk, endK_mk, endK_mk', add_0]
      refine ep_err (e3.own o3) fun s5 k5 => ?_
      have := h s5 (ext_kp e03 hs1 k5)
      unfold stayR at this
      have hM : isM T m = false := hm
      rw [if_pos hok, hM] at this
      exact this
  · try simp only [TUP_mk, AGG_mk, HD_mk, NL_mk, TYI_mk, TYB_mk, TYP_mk, TYL_mk, TYS_mk, TYM_mk, SO_mk, NX_mk, endK_mk, endK_mk', add_0]
    refine ep_err (e3.own o3) fun s5 k5 => ?_
    have := h s5 (ext_kp (e02.trans e3) hs1 k5)
    unfold stayR at this
    rw [hok] at this
    exact this
end
end Go.Proofs.Ytfaeokcbfnlgbaa.G

/- Prize: rows of numbers: copies, what is in them, what an iterator yields. -/
set_option linter.unusedSimpArgs false
set_option linter.unusedVariables false
set_option maxRecDepth 20000
namespace Go.Proofs.Ytfaeokcbfnlgbaa.G
open Go.V
def nats (l : List Nat) : List Int := l.map fun (m : Nat) => (m : Int)
section
variable {W : World} {K : VK} {E : List PanicEntry → Hp → Prop} {s : Hp} {p : Addr} {T : PT} {R : Hp → Prop} {f : Nat → Bool} {v : Value}
theorem c_Contains {x : Option Addr} {c l : Nat} {ds : List Int} {n : Int} (hx : RowAt s x (ints ds)) (hl : l = ds.length) (h8 : ds.length ≤ 100000) (h : K (.bool (decide (n ∈ ds))) s) : CALL Pg W F_slices_Contains_int_int [.slice x l c, .int .i64 n] K E s := by
  subst hl
  refine does_slices_Contains_int_int W x _ c n _ s ?_
  unfold T_slices_Contains_int_int
  refine does_slices_Index_int_int W x _ c n _ s ?_
  unfold T_slices_Index_int_int
  refine L_slices_Index_int_int_0_rule W _ x ds.length c n ds.length (fun i t => t = s ∧ ∃ k : Nat, k ≤ ds.length ∧ i = k ∧ ∀ j, j < k → ds.getD j 0 ≠ n) (fun i _ => (ds.length - i).toNat) 0 s ⟨rfl, 0, by omega, rfl, fun j hj => by omega⟩ ?_
  rintro i t ⟨rfl, k, hk, rfl, hno⟩
  unfold B_slices_Index_int_int_0
  refine BR_dec (fun h1 => ?_) (fun h1 => ?_)
  · have hkl : k < ds.length := by omega
    obtain ⟨a, ha, g⟩ := row_int hx hkl
    refine IXS_at ha hkl ?_
    refine ⟨_, g, ?_⟩
    refine BR_eq (fun h2 => ?_) (fun h2 => ?_)
    · have hm : n ∈ ds := by rw [h2, getD_lt hkl]; exact List.getElem_mem hkl
      try simp only [TUP_mk, AGG_mk, HD_mk, NL_mk, TYI_mk, TYB_mk, TYP_mk, TYL_mk, TYS_mk, TYM_mk, SO_mk, NX_mk, endK_mk, endK_mk', add_0]
      rw [decide_eq_true hm] at h
      have : decide ((k : Int) ≥ 0) = true := decide_eq_true (by omega)
      rw [this]; exact h
    · refine ⟨rfl, _, rfl, ⟨rfl, k + 1, hkl, wrap_succ (by omega), fun j hj => ?_⟩, ms_succ hkl (by omega)⟩
      by_cases e : j = k
      · subst e; exact fun hh => h2 hh.symm
      · exact hno j (by omega)
  · have hm : ¬ n ∈ ds := fun hm => by
      obtain ⟨j, hj, e⟩ := List.mem_iff_getElem.1 hm
      exact hno j (by omega) (by rw [getD_lt hj]; exact e)
    try simp only [TUP_mk, AGG_mk, HD_mk, NL_mk, TYI_mk, TYB_mk, TYP_mk, TYL_mk, TYS_mk, TYM_mk, SO_mk, NX_mk, endK_mk, endK_mk', add_0]
    rw [decide_eq_false hm] at h
    exact h
theorem c_CloneI {x : Option Addr} {c l : Nat} {ds : List Int} (hx : RowAt s x (ints ds)) (hl : l = ds.length) (h8 : ds.length ≤ 1000) (h : ∀ s' x' c', Ext s s' → Fr s.size s' x' ds.length c' 1 (ints ds) → K (.slice x' ds.length c') s') : CALL Pg W F_slices_Clone_int_int [.slice x l c] K E s := by
  subst hl
  refine does_slices_Clone_int_int W x ds.length c _ s ?_
  unfold T_slices_Clone_int_int
  cases x with
  | none =>
    have hd : ds = [] := by
      cases hq : ds with
      | nil => rfl
      | cons d r =>
        obtain ⟨a, ha, _⟩ := hx 0 (by rw [ints_len, hq]; simp)
        cases ha
    subst hd
    refine BR_tt rfl ?_
    exact h s none 0 (Ext.refl _) (Fr.nil _ _ _)
  | some a =>
    refine BR_ff rfl ?_
    refine NEW_rule fun s1 e1 z1 n1 _ => ?_
    have hf : Fr s.size s1 (some ⟨s.size, 0, none⟩) 0 0 1 [] := ⟨⟨Nat.le_refl _, fun i hi => by omega⟩, rfl, fun a ha => by cases ha; exact Nat.le_refl _, by omega⟩
    refine APP_fr (lo := s.size) hf e1.1 (ws := ints ds) (hx.ext e1) (by rw [ints_len, Nat.mul_one]) zc_3 rfl (by omega) (ints_one ds) (by omega) fun s2 x2 c2 k2 hx2 g2 => ?_
    rw [Nat.zero_add, List.nil_append] at g2
    rw [Nat.zero_add]
    have e2 : Ext s s2 := kp_nil e1 (fun b hb => by obtain ⟨y, hy, rfl⟩ := hb; cases hy; exact Nat.le_refl _) k2
    exact h s2 x2 c2 e2 g2
/-- All who are wanted, as a row. -/
theorem c_Collect {a b : Addr} (hp : PrO s p T) (hf : IsFn W v T.n R f) (hR : R s) (ca : cellAt s a = some (.pointer (some p))) (cb : cellAt s b = some v) (h : ∀ s' x c, Ext s s' → Fr s.size s' x (ordF T f).length c 1 (ints (nats (ordF T f))) → K (.slice x (ordF T f).length c) s') :
    CALL Pg W F_slices_Collect_int [.func (.func 85) #[] #[.pointer (some a), .pointer (some b)]] K E s := by
  have hvd := okP_vd hp.ok
  have h8 := hvd.n8
  refine does_slices_Collect_int W _ _ s ?_
  unfold T_slices_Collect_int
  refine does_slices_AppendSeq_int_int W none 0 0 _ _ s ?_
  unfold T_slices_AppendSeq_int_int
  refine ne1 fun s1 e1 z1 o1 => ?_
  have hlen : (ordF T f).length ≤ 8 := by unfold ordF; exact Nat.le_trans (List.length_filter_le _ _) (by rw [ord_len]; exact h8)
  refine rng_order (W := W) (p := p) hf (fun k t => Ext s t ∧ ∃ x l c, Own t ⟨s.size, 0, none⟩ (.slice x l c) ∧ Fr (s.size + 1) t x l c 1 (ints (nats ((ordF T f).take k))) ∧ s.size + 1 ≤ t.size) (fun _ _ => False)
    (fun k t ht => ⟨hp.ext ht.1, ht.1.cell ca, ht.1.cell cb, hf.ext _ _ hR ht.1⟩) (fun k t t' ht e => ⟨ht.1.trans e, by obtain ⟨x, l, c, g1, g2, g3⟩ := ht.2; exact ⟨x, l, c, e.own g1, g2.ext e, Nat.le_trans g3 e.1⟩⟩)
    ⟨e1, none, 0, 0, o1, Fr.nil _ _ _, by omega⟩ ?_ ?_ (fun _ _ h => h.elim)
  · rintro k m hkm hmn t ⟨et, x, l, c, g1, g2, g3⟩
    try simp only [TUP_mk, AGG_mk, HD_mk, NL_mk, TYI_mk, TYB_mk, TYP_mk, TYL_mk, TYS_mk, TYM_mk, SO_mk, NX_mk, endK_mk, endK_mk', add_0]
    refine ⟨_, _, _, g1.cell, ?_⟩
    refine ne1 fun t2 f2 y2 q2 => ?_
    have hkl := (List.getElem?_eq_some_iff.1 hkm).1
    have hl : l = k := by have := g2.len; unfold nats at this; rw [ints_len, List.length_map, List.length_take] at this; omega
    refine APP_fr (lo := s.size + 1) (g2.ext f2) (by have := f2.1; omega) (ws := [.int .i64 (m : Nat)]) (fun i hi => ⟨⟨t.size, 0, none⟩, rfl, ?_⟩) rfl zc_3 rfl (by omega) (by simp [oneCell]) (by omega) fun t3 x3 c3 k3 hx3 g4 => ?_
    · have hi0 : i = 0 := by simp at hi; omega
      subst hi0; exact q2.cell
    have o3 : Own t3 ⟨s.size, 0, none⟩ (.slice x l c) := k3.own (fun hb => by obtain ⟨y, hy, hyb⟩ := hb; have := g2.fr y hy; have : y.block = s.size := hyb; omega) (f2.own g1)
    refine WR_own o3 rfl ?_
    have e3 : Ext s t3 := kp_nil (et.trans f2) (fun b hb => by obtain ⟨y, hy, rfl⟩ := hb; have := g2.fr y hy; omega) k3
    refine ⟨Ext.setC e3 (Nat.le_refl _), x3, l + 1, c3, own_set o3, ?_, by have h1 := f2.1; have h2 := k3.1; rw [setC_size]; omega⟩
    have ht : nats ((ordF T f).take (k + 1)) = nats ((ordF T f).take k) ++ [(m : Int)] := by
      unfold nats
      rw [List.take_add_one, hkm, List.map_append]; rfl
    rw [ht, ints_app]
    refine g4.kp (D := (· = s.size)) (Kp.setC (Kp.refl _) (.inl rfl)) (fun y hy hb => ?_)
    have := g4.fr y hy
    have : y.block = s.size := hb
    omega
  · rintro t ⟨et, x, l, c, g1, g2, g3⟩
    rw [List.take_length] at g2
    have hl : l = (ordF T f).length := by have := g2.len; unfold nats at this; rw [ints_len, List.length_map] at this; omega
    subst hl
    refine ⟨_, _, _, g1.cell, ?_⟩
    try simp only [TUP_mk, AGG_mk, HD_mk, NL_mk, TYI_mk, TYB_mk, TYP_mk, TYL_mk, TYS_mk, TYM_mk, SO_mk, NX_mk, endK_mk, endK_mk', add_0]
    exact h t x c et (g2.le (by omega))
end
end Go.Proofs.Ytfaeokcbfnlgbaa.G

/- Prize: a row that grows by zeros; rows that do not overlap. -/
set_option linter.unusedSimpArgs false
set_option linter.unusedVariables false
set_option maxRecDepth 20000
namespace Go.Proofs.Ytfaeokcbfnlgbaa.G
open Go.V
theorem APPZ_gen {P : Program} {t0 t1 e : TypeId} {k1 : IntKind} {i : TypeInfo} {v : Value} {x : Option Addr} {l c m : Nat} {ws : List Value} {s : Hp} {K : Option Addr → Nat → Nat → Hp → Prop} (hu : P.underlying t0 = some (.slice e)) (hu1 : P.underlying t1 = some (.int k1)) (hi : P.info? e = some i) (hv : i.zero = some v) (hz : zc P e = v.cells.toList) (hs1 : i.size = 1) (hby : i.bytes ≤ 1000) (hby1 : 1 ≤ i.bytes)
    (hm : 0 < m) (hgt : c < l + m) (hlm : l + m ≤ 1000000) (hws : cellsOpt s x l = some ws) (h : ∀ c', l + m ≤ c' → c' < 9223372036854775808 → K (some ⟨s.size, 0, none⟩) (l + m) c' (s.push (.cells (ws ++ repL m (zc P e) ++ repL (c' - (l + m)) (zc P e)).toArray e (0, 0)))) :
    APPZ P [t0, t1] (.slice x l c) (.int .i64 (m : Nat)) K s := by
  unfold APPZ SLV
  simp only [Builtin.append_, List.getElem?_toArray, List.getElem?_cons_zero, List.getElem?_cons_succ]
  rw [sp_bind, sp_und hu]
  simp only []
  rw [sp_bind, sp_size hi, sp_bind, sp_und hu1, sp_bind]
  simp only [sp_pure, if_true, asInt, sp_bind]
  have hw : IntKind.i64.wrap ((m : Nat) : Int) = (m : Int) := wrap_i64 (by omega) (by omega)
  simp only [asIntOf, sp_pure]
  rw [hw, if_neg (by omega)]
  have hmbN : m * i.bytes ≤ 1000000 * 1000 := Nat.mul_le_mul (by omega) hby
  have hmb : ¬ ((m : Int) * (i.bytes : Int) > 2 ^ 48) := by
    have : ((m * i.bytes : Nat) : Int) ≤ 1000000000 := by omega
    rw [Int.natCast_mul] at this
    omega
  simp only [sp_pure, sp_bind, sp_info hi]
  rw [if_neg hmb]
  simp only [sp_pure, sp_bind, Int.toNat_natCast]
  have hcap := nextcap_le (l + m) c (by omega)
  have hmul : Builtin.nextslicecap (l + m) c * i.bytes ≤ (1000 + 2 * (l + m)) * 1000 := Nat.mul_le_mul hcap hby
  rw [if_neg (by omega)]
  have hg : ¬ (((l + m : Nat) : Int) > IntKind.i64.max ∧ (True ∨ i.bytes = 0)) := by
    rintro ⟨hh, _⟩
    have e : IntKind.i64.max = 9223372036854775807 := rfl
    omega
  simp only [sp_bind, sp_info hi]
  rw [if_neg hg]
  simp only [sp_pure, sp_bind, sp_info hi]
  rw [if_neg (by omega)]
  simp only [sp_pure, sp_bind, sp_info hi]
  show sp P (choose (.appendCap (l + m) c e)) _ _ s
  simp only [choose, sp, Question.forced]
  intro q
  have hq : ∃ c', c' = (Question.appendCap (l + m) c e).cut q ∧ l + m ≤ c' ∧ c' < 9223372036854775808 := by
    refine ⟨_, rfl, ?_, ?_⟩
    · simp only [Question.cut]; omega
    · simp only [Question.cut]
      have := Nat.mod_lt q (show 0 < 2 ^ 63 - (l + m) by omega)
      omega
  obtain ⟨c', hc', hc1, hc2⟩ := hq
  rw [← hc']
  simp only [sp_bind, sp_askRoom]
  rw [hs1]
  refine firstCells_sp (by rw [Nat.mul_one]; exact hws) ?_
  simp only [Bool.not_true, Bool.false_eq_true, if_false]
  rw [if_neg (by omega)]
  simp only [sp_bind, sp_zero hi hv, newRow, sp_new, sp_pure]
  have hrow : ∀ n, Builtin.zeroCells v.cells n = (repL n (zc P e)).toArray := fun n => by rw [hz]; exact rowOf v.cells n
  rw [hrow, hrow]
  have := h c' hc1 hc2
  refine ⟨_, _, _, rfl, ?_⟩
  simpa using this
end Go.Proofs.Ytfaeokcbfnlgbaa.G

/- Prize: rows that do not overlap. -/
set_option linter.unusedSimpArgs false
set_option linter.unusedVariables false
set_option maxRecDepth 20000
namespace Go.Proofs.Ytfaeokcbfnlgbaa.G
open Go.V
theorem ov_gen {P : Program} {tS tR e : TypeId} {i : TypeInfo} {a b : Addr} {la ca lb cb : Nat} {s : Hp} {K : Value → Hp → Prop} {E : Value → Hp → Prop} {tA tB : TypeId} {kA kB : Nat} (ht : P.underlying tS = some (.slice e)) (hi : P.info? e = some i) (hne : a.block ≠ b.block)
    (hsa : shapeAt s a.block = some (tA, kA)) (hsb : shapeAt s b.block = some (tB, kB)) (hkB : kB ≠ 0) (hfa : frozenAt s a = false) (hfe : frozenAt s { block := a.block, off := kA } = false) (h : K (.bool false) s) :
    sp P (Extern.SlicesOverlaps.overlaps #[tS, tS] #[tR] #[.slice (some a) la ca, .slice (some b) lb cb]) K E s := by
  refine (id ?_ : sp P (underlying tS >>= _) K E s)
  rw [sp_bind, sp_und ht]
  refine (id ?_ : sp P (sizeOf e >>= _) K E s)
  rw [sp_bind, sp_size hi]
  have hnb : (a.block != b.block) = true := by simpa using hne
  by_cases h0 : la = 0 ∨ lb = 0 ∨ i.size = 0
  · refine (id ?_ : sp P (if la = 0 ∨ lb = 0 ∨ i.size = 0 then _ else _) K E s)
    rw [if_pos h0]; exact h
  · refine (id ?_ : sp P (if la = 0 ∨ lb = 0 ∨ i.size = 0 then _ else _) K E s)
    rw [if_neg h0]
    cases kB with
    | zero => exact absurd rfl hkB
    | succ kB =>
      have hnb' : (a.block == b.block) = false := by simpa using hne
      simp only [hnb, hnb', Bool.false_and, Bool.true_and, if_true]
      simp only [sp_bind, frozen, sp, hfa, Bool.and_false, Bool.false_and, Bool.false_eq_true, if_false, noView, viewAt, shape, hsa, hsb, Option.isSome_some, if_true, sp_pure, Option.isSome_none, mayBeOne, stringish, hfe]
      by_cases hb : frozenAt s b = true
      · rw [if_pos hb]
        simp only [sp_pure, hsb, Bool.and_false, Bool.or_false, Bool.false_eq_true, if_false]
        exact h
      · rw [if_neg hb]
        simp only [sp_bind, sp, hsb, sp_pure, Bool.and_false, Bool.or_false, Bool.false_eq_true, if_false]
        exact h
theorem fn_86 : Pg.funcs[86]? = some Try.f86 := Try.func86
theorem nm_86 : (Try.f86.name == "runtime.NumGoroutine") = false := by kernel_rfl
theorem bd_86 : Try.f86.body.isNone = true := by kernel_rfl
theorem fx_86 : (Extern.findNext Try.f86).isNone = true := by kernel_rfl
theorem fd_86 : Extern.find Try.f86 = some (Extern.SlicesOverlaps.overlaps #[26, 26] #[4]) := by kernel_rfl
theorem und_26 : Pg.underlying 26 = some (.slice 3) := by kernel_rfl
theorem inf_3 : ∃ i v, Pg.info? 3 = some i ∧ i.size = 1 ∧ (1 ≤ i.bytes ∧ i.bytes ≤ 1000) ∧ i.zero = some v ∧ v.cells.toList = [.int .i64 0] := by
  obtain ⟨i, v, h1, h2, h3⟩ := zero_of (P := Pg) (t := 3) (by kernel_rfl)
  have hs : (Pg.info? 3).map (·.size) = some 1 := by kernel_rfl
  have hb : (Pg.info? 3).map (·.bytes) = some 8 := by kernel_rfl
  rw [h1] at hs hb
  have hb' : i.bytes = 8 := by simpa using hb
  exact ⟨i, v, h1, by simpa using hs, by omega, h2, by rw [← h3]; exact zc_3⟩
theorem ext_gen {P : Program} {f : FuncId} {fn : Func} {e : Array Value → Sem Value} {args : List Value} {s : Hp} {K : VK} (hf : P.funcs[f]? = some fn) (hn : (fn.name == "runtime.NumGoroutine") = false) (hb : fn.body.isNone = true) (hx : Extern.findNext fn = none) (hd : Extern.find fn = some e) (h : sp P (e args.toArray) K (fun _ _ => False) s) : EXT P f args K s := by
  unfold EXT callFunc
  simp only [sp_bind, sp_program, hf, hn, hb, Bool.false_eq_true, if_false, if_true, hx, hd]
  refine (id ?_ : sp P (.mark _ _) _ _ s)
  simp only [sp, sp_bind, sp_pure]
  exact sp_mono P _ (fun v s h => ⟨v, rfl, h⟩) (fun v s h => h) _ h
/-- Two rows in two blocks do not overlap. -/
theorem c_overlaps {a b : Addr} {la ca lb cb : Nat} {s : Hp} {K : VK} {tA tB : TypeId} {kA kB : Nat} (hne : a.block ≠ b.block) (hsa : shapeAt s a.block = some (tA, kA)) (hsb : shapeAt s b.block = some (tB, kB)) (hkB : kB ≠ 0) (hfa : frozenAt s a = false) (hfe : frozenAt s { block := a.block, off := kA } = false) (h : K (.bool false) s) :
    EXT Pg 86 [.slice (some a) la ca, .slice (some b) lb cb] K s := by
  obtain ⟨i, v, hi, _⟩ := inf_3
  have hx : Extern.findNext Try.f86 = none := by
    cases h : Extern.findNext Try.f86 with
    | none => rfl
    | some e => have := fx_86; rw [h] at this; cases this
  exact ext_gen fn_86 nm_86 bd_86 hx fd_86 (ov_gen und_26 hi hne hsa hsb hkB hfa hfe h)
end Go.Proofs.Ytfaeokcbfnlgbaa.G

/- Prize: somebody is put into a row. -/
set_option linter.unusedSimpArgs false
set_option linter.unusedVariables false
set_option maxRecDepth 20000
namespace Go.Proofs.Ytfaeokcbfnlgbaa.G
open Go.V
def insL (os : List Int) (i : Nat) (m : Int) : List Int := os.take i ++ m :: os.drop i
theorem insL_len {os : List Int} {i : Nat} {m : Int} (h : i ≤ os.length) : (insL os i m).length = os.length + 1 := by
  unfold insL; simp; omega
theorem insL_at {os : List Int} {i : Nat} {m : Int} (h : i ≤ os.length) (j : Nat) : (insL os i m)[j]? = if j < i then os[j]? else if j = i then some m else os[j - 1]? := by
  unfold insL
  by_cases h1 : j < i
  · rw [if_pos h1, List.getElem?_append_left (by rw [List.length_take]; omega), List.getElem?_take_of_lt h1]
  · rw [if_neg h1, List.getElem?_append_right (by rw [List.length_take]; omega), List.length_take, Nat.min_eq_left h]
    by_cases h2 : j = i
    · rw [if_pos h2, h2, Nat.sub_self]; rfl
    · rw [if_neg h2]
      obtain ⟨q, hq⟩ : ∃ q, j - i = q + 1 := ⟨j - i - 1, by omega⟩
      rw [hq, List.getElem?_cons_succ, List.getElem?_drop]
      congr 1; omega
section
variable {s : Hp} {K : Hp → Prop}
/-- The cells behind are moved by one, and one is put before them. -/
theorem ins_row {a : Addr} {os : List Int} {i : Nat} {m : Int} (hi : i ≤ os.length) (h1 : ∀ j, j < i → ∃ v, os[j]? = some v ∧ cellAt s (a.add j) = some (.int .i64 v)) (h2 : cellAt s (a.add i) = some (.int .i64 m)) (h3 : ∀ j, j < os.length - i → ∃ v, os[i + j]? = some v ∧ cellAt s (a.add (i + 1 + j)) = some (.int .i64 v)) : RowAt s (some a) (ints (insL os i m)) := fun j hj => by
  rw [ints_len, insL_len hi] at hj
  refine ⟨a, rfl, ?_⟩
  rw [Nat.mul_one]
  have hj' : j < (insL os i m).length := by rw [insL_len hi]; exact hj
  have hg : ∀ v, (insL os i m)[j]? = some v → (ints (insL os i m))[j]'(by rw [ints_len]; exact hj') = .int .i64 v := fun v hv => by
    rw [ints_get]
    congr 1
    exact (List.getElem?_eq_some_iff.1 hv).2
  have hat := insL_at (m := m) hi j
  by_cases q1 : j < i
  · obtain ⟨v, hv, hc⟩ := h1 j q1
    rw [if_pos q1, hv] at hat
    rw [hg v hat]; exact hc
  · rw [if_neg q1] at hat
    by_cases q2 : j = i
    · rw [if_pos q2] at hat
      rw [hg m hat, q2]; exact h2
    · rw [if_neg q2] at hat
      obtain ⟨v, hv, hc⟩ := h3 (j - 1 - i) (by omega)
      rw [show i + (j - 1 - i) = j - 1 by omega] at hv
      rw [show i + 1 + (j - 1 - i) = j by omega] at hc
      rw [hv] at hat
      rw [hg v hat]; exact hc
theorem COPY_rule {x : Addr} {y : Option Addr} {l m n : Nat} {vs : List Value} {K : Int → Hp → Prop} (hn : min m l = n) (hy : RowAt s y vs) (hv : vs.length = n) (h1 : ∀ v ∈ vs, oneCell v = true) (ho : ∀ i, i < n → ∃ v, Own s (x.add i) v)
    (h : ∀ s', Kp (· = x.block) s s' → s'.size = s.size → (∀ i (h : i < vs.length), Own s' (x.add i) vs[i]) → (∀ b y, (b.off < x.off ∨ x.off + n ≤ b.off) → Own s b y → Own s' b y) → K (n : Nat) s') : COPY 1 (some x) l y m K s := by
  refine ⟨vs, by rw [hn, Nat.mul_one, ← hv]; exact hy.cells, ?_⟩
  show wrN vs x 0 (K (min m l : Nat)) s
  rw [hn]
  refine wrN_rule vs x 0 _ s (fun i hi => ?_) h1 fun s1 k1 z1 o1 u1 => ?_
  · rw [Nat.zero_add]; exact ho i (by omega)
  · refine h s1 k1 z1 (fun i hi => ?_) (fun b y hb hy => u1 b y (by omega) hy)
    have := o1 i hi
    rwa [Nat.zero_add] at this
end
end Go.Proofs.Ytfaeokcbfnlgbaa.G

/- Prize: somebody is put into a row. -/
set_option linter.unusedSimpArgs false
set_option linter.unusedVariables false
set_option maxRecDepth 20000
namespace Go.Proofs.Ytfaeokcbfnlgbaa.G
open Go.V
section
variable {W : World} {K : VK} {E : List PanicEntry → Hp → Prop} {s : Hp}
theorem c_Insert {lo l c i : Nat} {x : Option Addr} {os : List Int} {m : Int} {B : Nat} {t : TypeId} (hf : Fr lo s x l c 1 (ints os)) (hlo : lo ≤ s.size) (hi : i ≤ l) (h8 : l ≤ 1000) (hvb : s[B]? = some (.cells #[.int .i64 m] t (0, 0))) (hxB : ∀ a, x = some a → 0 < l → a.block ≠ B)
    (h : ∀ s' x' c', Kp (fun b => lo ≤ b) s s' → (∀ a, x' = some a → lo ≤ a.block) → RowAt s' x' (ints (insL os i m)) → K (.slice x' (l + 1) c') s') :
    CALL Pg W F_slices_Insert_int_int [.slice x l c, .int .i64 (i : Nat), .slice (some ⟨B, 0, none⟩) 1 1] K E s := by
  refine does_slices_Insert_int_int W x l c i (some ⟨B, 0, none⟩) 1 1 _ s ?_
  unfold T_slices_Insert_int_int
  have hol : os.length = l := by have := hf.len; rw [ints_len] at this; omega
  have hcap : l ≤ c := by have := hf.buf.le; rw [ints_len] at this; omega
  have cv : ∀ {s' : Hp}, s'[B]? = s[B]? → cellAt s' ⟨B, 0, none⟩ = some (.int .i64 m) := fun {s'} e => by
    unfold cellAt; rw [e, hvb]; rfl
  have rv : ∀ {s' : Hp}, s'[B]? = s[B]? → RowAt s' (some ⟨B, 0, none⟩) [.int .i64 m] := fun {s'} e j hj => by
    have hj0 : j = 0 := by simp at hj; omega
    subst hj0
    exact ⟨_, rfl, cv e⟩
  have hBlt : B < s.size := (Array.getElem?_eq_some_iff.1 hvb).1
  have hw : IntKind.i64.wrap ((l : Int) + ((1 : Nat) : Int)) = ((l + 1 : Nat) : Int) := by rw [wrap_i64 (by omega) (by omega)]; rfl
  have hwi : IntKind.i64.wrap ((i : Int) + ((1 : Nat) : Int)) = ((i + 1 : Nat) : Int) := by rw [wrap_i64 (by omega) (by omega)]; rfl
  refine ⟨⟨by omega, by omega, by omega⟩, ?_⟩
  refine BR_ff rfl ?_
  refine BR_eq (fun h1 => ?_) (fun h1 => ?_)
  · have hil : i = l := by omega
    refine APP_fr (lo := lo) hf hlo (ws := [.int .i64 m]) (rv rfl) rfl zc_3 rfl (by omega) (by simp [oneCell]) (by omega) fun s2 x2 c2 k2 hx2 g2 => ?_
    refine h s2 x2 c2 (k2.mono fun b hb => by obtain ⟨y, hy, rfl⟩ := hb; exact hf.fr y hy) g2.fr ?_
    have e : ints (insL os i m) = ints os ++ [.int .i64 m] := by
      unfold insL
      rw [hil, ← hol, List.take_length, List.drop_length, ints_app]; rfl
    rw [e]; exact g2.row
  have hil : i < l := by omega
  obtain ⟨a, ha, _⟩ := hf.row 0 (by rw [ints_len]; omega)
  subst ha
  have own : ∀ j, j < c → ∃ y, Own s (a.add j) y ∧ ∀ h : j < os.length, y = .int .i64 os[j] := fun j hj => by
    obtain ⟨a', h1, y, h2, h3⟩ := hf.buf.own j (by omega)
    cases h1
    refine ⟨y, h2, fun hh => ?_⟩
    rw [h3 (by rw [ints_len]; exact hh), ints_get]
  have hla := hf.fr a rfl
  have haB := hxB a rfl (by omega)
  have e0 : (if c = ((0 : Int)).toNat then some a else (some a).map (·.add ((0 : Int).toNat * 1))) = some (a.add 0) := by
    have : ¬ c = ((0 : Int)).toNat := by show ¬ c = 0; omega
    rw [if_neg this]; rfl
  rw [hw]
  refine BR_dec (fun h2 => ?_) (fun h2 => ?_)
  · have hgt : c < l + 1 := by omega
    obtain ⟨d3, v3, hi3, hs3, hb3, hv3, hvc3⟩ := inf_3
    refine ⟨⟨by omega, by omega, by omega⟩, ?_⟩
    rw [e0, hwi]
    have hw2 : IntKind.i64.wrap (((l + 1 : Nat) : Int) - ((i : Nat) : Int)) = ((l + 1 - i : Nat) : Int) := by rw [wrap_i64 (by omega) (by omega)]; omega
    rw [hw2, toNat_nat]
    have ho : ∀ j, j < l → ∃ v, os[j]? = some v ∧ cellAt s (a.add j) = some (.int .i64 v) := fun j hj => by
      obtain ⟨y, hy, hyv⟩ := own j (by omega)
      have hj' : j < os.length := by omega
      rw [hyv hj'] at hy
      exact ⟨os[j], List.getElem?_eq_getElem hj', hy.cell⟩
    have hrow : RowAt s (some (a.add (i * 1))) (ints (os.drop i)) := fun j hj => by
      rw [ints_len, List.length_drop] at hj
      obtain ⟨v, hv, hc⟩ := ho (i + j) (by omega)
      refine ⟨_, rfl, ?_⟩
      rw [ints_get, Nat.mul_one, Nat.mul_one, addr_add, hc, List.getElem_drop]
      rw [List.getElem?_eq_getElem (by omega)] at hv
      rw [Option.some.inj hv]
    have hpre : RowAt s (some (a.add 0)) (ints (os.take i)) := fun j hj => by
      rw [ints_len, List.length_take] at hj
      obtain ⟨v, hv, hc⟩ := ho j (by omega)
      refine ⟨_, rfl, ?_⟩
      rw [ints_get, Nat.mul_one, add_0, hc, List.getElem_take]
      rw [List.getElem?_eq_getElem (by omega)] at hv
      rw [Option.some.inj hv]
    have hpl : (ints (os.take i)).length = i := by rw [ints_len, List.length_take]; omega
    refine APPZ_gen (l := i) (m := l + 1 - i) und_26 und_3 hi3 hv3 (by rw [zc_3, hvc3]) hs3 hb3.2 hb3.1 (by omega) (by show c - 0 < _; omega) (by omega) (by have := hpre.cells; rw [hpl] at this; exact this) fun c' hc1 hc2 => ?_
    rw [zc_3]
    generalize hcs : (ints (os.take i) ++ repL (l + 1 - i) [Value.int .i64 0] ++ repL (c' - (i + (l + 1 - i))) [Value.int .i64 0]) = cs
    have hcl : cs.length = c' := by rw [← hcs, List.length_append, List.length_append, hpl, repL_length, repL_length]; omega
    have hcj : ∀ j, j < i → cs[j]? = some (.int .i64 (os.getD j 0)) := fun j hj => by
      have hj' : j < os.length := by omega
      rw [← hcs, List.append_assoc, List.getElem?_append_left (by omega), List.getElem?_eq_getElem (by omega), ints_get, List.getElem_take, getD_lt hj']
    have e1 : Ext s (s.push (.cells cs.toArray 3 (0, 0))) := Ext.push (Ext.refl s)
    have n1 : ∀ j, j < c' → ∃ y, Own (s.push (.cells cs.toArray 3 (0, 0))) ⟨s.size, j, none⟩ y ∧ (j < i → y = .int .i64 (os.getD j 0)) := fun j hj => by
      refine ⟨cs[j]'(by omega), own_new (List.getElem?_eq_getElem (by omega)), fun hji => ?_⟩
      have := hcj j hji
      rw [List.getElem?_eq_getElem (by omega)] at this
      exact Option.some.inj this
    generalize s.push (.cells cs.toArray 3 (0, 0)) = s1 at *
    have hil1 : i + (l + 1 - i) = l + 1 := by omega
    rw [hil1] at hc1 ⊢
    have hni : ¬ c' = ((i : Nat) : Int).toNat := by rw [toNat_nat]; omega
    have hni1 : ¬ c' = ((i + 1 : Nat) : Int).toNat := by rw [toNat_nat]; omega
    have hnc : ¬ c = ((i : Nat) : Int).toNat := by rw [toNat_nat]; omega
    refine ⟨⟨by omega, by omega, by omega⟩, ?_⟩
    rw [if_neg hni, toNat_nat, toNat_nat]
    show COPY 1 (some ((⟨s.size, 0, none⟩ : Addr).add (i * 1))) _ _ 1 _ s1
    rw [Nat.mul_one, add_nil, Nat.zero_add]
    have hB1 : s1[B]? = s[B]? := e1.2 B hBlt
    refine COPY_rule (n := 1) (by omega) (rv hB1) rfl (by simp [oneCell]) (fun j hj => ?_) fun s2 k2 z2 o2 u2 => ?_
    · have hj0 : j = 0 := by omega
      subst hj0
      obtain ⟨y, hy, _⟩ := n1 i (by omega)
      exact ⟨y, hy⟩
    have k2' : Kp (· = s.size) s1 s2 := k2
    have e2 : Ext s s2 := ext_kp e1 (Nat.le_refl _) k2'
    have fin : (COPY 1 (some ⟨s.size, i + 1, none⟩) (l + 1 - (i + 1)) (some (a.add (i * 1))) (l - i) fun n52 => K (.slice (some ⟨s.size, 0, none⟩) (l + 1) c')) s2 := by
      refine COPY_rule (n := l - i) (by omega) (hrow.ext e2) (by rw [ints_len, List.length_drop]; omega) (ints_one _) (fun j hj => ?_) fun s3 k3 z3 o3 u3 => ?_
      · obtain ⟨y, hy, _⟩ := n1 (i + 1 + j) (by omega)
        rw [add_nil]
        exact ⟨y, u2 _ y (.inr (by show i + 1 ≤ i + 1 + j; omega)) hy⟩
      · have e3 : Ext s s3 := ext_kp e2 (Nat.le_refl _) (k3 : Kp (· = s.size) s2 s3)
        refine h s3 _ _ e3.kp (fun a' h' => by cases h'; exact hlo) ?_
        refine ins_row (by omega) (fun j hj => ?_) ?_ (fun j hj => ?_)
        · obtain ⟨y, hy, hyv⟩ := n1 j (by omega)
          have hj' : j < os.length := by omega
          rw [hyv hj, getD_lt hj'] at hy
          refine ⟨os[j], List.getElem?_eq_getElem hj', ?_⟩
          rw [add_nil, Nat.zero_add]
          exact (u3 _ _ (.inl (by show j < i + 1; omega)) (u2 _ _ (.inl (by show j < i; omega)) hy)).cell
        · have := o2 0 (by simp)
          rw [add_nil, Nat.add_zero] at this
          rw [add_nil, Nat.zero_add]
          exact (u3 _ _ (.inl (by show i < i + 1; omega)) this).cell
        · have hj2 : j < (ints (os.drop i)).length := by rw [ints_len, List.length_drop]; omega
          have := o3 j hj2
          rw [add_nil, ints_get, List.getElem_drop] at this
          refine ⟨os[i + j]'(by omega), List.getElem?_eq_getElem _, ?_⟩
          rw [add_nil, Nat.zero_add]
          exact this.cell
    have e4 : ((some (⟨s.size, 0, none⟩ : Addr)).map (·.add ((i + 1) * 1))) = some ⟨s.size, i + 1, none⟩ := by
      show some ((⟨s.size, 0, none⟩ : Addr).add ((i + 1) * 1)) = _
      rw [Nat.mul_one, add_nil, Nat.zero_add]
    refine CONJ_two ?_ ?_
    · refine ⟨⟨by omega, by omega, by omega⟩, ?_⟩
      refine ⟨⟨by omega, by omega, by omega⟩, ?_⟩
      rw [if_neg hni1, if_neg hnc, toNat_nat, toNat_nat, toNat_nat, toNat_nat, e4]
      exact fin
    · refine ⟨⟨by omega, by omega, by omega⟩, ?_⟩
      refine ⟨⟨by omega, by omega, by omega⟩, ?_⟩
      rw [if_neg hni1, if_neg hnc, toNat_nat, toNat_nat, toNat_nat, toNat_nat, e4]
      exact fin
  · -- in place
    have hfit : l + 1 ≤ c := by omega
    refine ⟨⟨by omega, by omega, by omega⟩, ?_⟩
    rw [e0, hwi]
    refine ⟨⟨by omega, by omega, by omega⟩, ?_⟩
    have hc0 : c - ((0 : Int)).toNat = c := rfl
    have hl0 : ((l + 1 : Nat) : Int).toNat - ((0 : Int)).toNat = l + 1 := rfl
    rw [hc0, hl0]
    have hne1 : ¬ c = ((i + 1 : Nat) : Int).toNat := by rw [toNat_nat]; omega
    have hnei : ¬ c = ((i : Nat) : Int).toNat := by rw [toNat_nat]; omega
    rw [if_neg hne1]
    obtain ⟨y0, hy0, _⟩ := own 0 (by omega)
    obtain ⟨cc, tt, ff, hblk⟩ := block_of_cell hy0.cell
    have hblk' : s[a.block]? = some (.cells cc tt ff) := by rw [add_blk] at hblk; exact hblk
    refine c_overlaps (tA := t) (kA := 1) (tB := tt) (kB := cc.size) (by show B ≠ ((a.add 0).add _).block; rw [add_blk, add_blk]; exact fun e => haB e.symm) (by unfold shapeAt; rw [hvb]; rfl) (by show shapeAt s ((a.add 0).add _).block = _; rw [add_blk, add_blk]; unfold shapeAt; rw [hblk']) (fun hz => ?_) (by unfold frozenAt; rw [hvb]; rfl) (by unfold frozenAt; rw [hvb]; rfl) ?_
    · have hcell := hy0.cell
      unfold cellAt at hcell
      rw [hblk] at hcell
      simp only at hcell
      split at hcell
      · cases hcell
      · have := (Array.getElem?_eq_some_iff.1 hcell).1; omega
    try simp only [TUP_mk, AGG_mk, HD_mk, NL_mk, TYI_mk, TYB_mk, TYP_mk, TYL_mk, TYS_mk, TYM_mk, SO_mk, NX_mk, endK_mk, endK_mk', add_0]
    refine BR_tt rfl ?_
    have ho : ∀ j, j < l → ∃ v, os[j]? = some v ∧ cellAt s (a.add j) = some (.int .i64 v) := fun j hj => by
      obtain ⟨y, hy, hyv⟩ := own j (by omega)
      have hj' : j < os.length := by omega
      rw [hyv hj'] at hy
      exact ⟨os[j], List.getElem?_eq_getElem hj', hy.cell⟩
    have hrow : RowAt s (some ((a.add 0).add (i * 1))) (ints (os.drop i)) := fun j hj => by
      rw [ints_len, List.length_drop] at hj
      obtain ⟨v, hv, hc⟩ := ho (i + j) (by omega)
      refine ⟨_, rfl, ?_⟩
      rw [ints_get, Nat.mul_one, Nat.mul_one, add_0, addr_add, hc, List.getElem_drop]
      rw [List.getElem?_eq_getElem (by omega)] at hv
      rw [Option.some.inj hv]
    have fin : (COPY 1 (some ((a.add 0).add ((i + 1) * 1))) (l + 1 - (i + 1)) (some ((a.add 0).add (i * 1))) (l + 1 - i) fun n52 =>
              SLS (some (a.add 0)) c (i : Nat) ((l + 1 : Nat) : Int) 1 fun x53 l54 c55 =>
               COPY 1 x53 l54 (some ⟨B, 0, none⟩) 1 fun n56 =>
                K (.slice (some (a.add 0)) (l + 1) c)) s := by
      refine COPY_rule (n := l - i) (by omega) hrow (by rw [ints_len, List.length_drop]; omega) (ints_one _) (fun j hj => ?_) fun s1 k1 z1 o1 u1 => ?_
      · rw [add_0, addr_add]
        obtain ⟨y, hy, _⟩ := own ((i + 1) * 1 + j) (by omega)
        exact ⟨y, hy⟩
      · have kb1 : Kp (· = a.block) s s1 := k1.mono fun b hb => by rw [add_blk, add_blk] at hb; exact hb
        refine ⟨⟨by omega, by omega, by omega⟩, ?_⟩
        rw [if_neg hnei, toNat_nat, toNat_nat]
        show COPY 1 (some ((a.add 0).add (i * 1))) _ _ 1 _ s1
        refine COPY_rule (n := 1) (by omega) (rv (kb1.2 B hBlt (fun e => haB e.symm))) rfl (by simp [oneCell]) (fun j hj => ?_) fun s2 k2 z2 o2 u2 => ?_
        · have hj0 : j = 0 := by omega
          subst hj0
          rw [add_0, add_0, Nat.mul_one]
          obtain ⟨y, hy, _⟩ := own i (by omega)
          exact ⟨y, u1 _ y (by rw [add_of, add_of, add_of]; omega) hy⟩
        · have kb2 : Kp (· = a.block) s s2 := kb1.trans (k2.mono fun b hb => by rw [add_blk, add_blk] at hb; exact hb)
          refine h s2 _ _ (kb2.mono fun b hb => by have hb' : b = a.block := hb; omega) (fun a' h' => by cases h'; rw [add_blk]; exact hla) ?_
          rw [add_0]
          refine ins_row (by omega) (fun j hj => ?_) ?_ (fun j hj => ?_)
          · obtain ⟨y, hy, hyv⟩ := own j (by omega)
            have hj' : j < os.length := by omega
            rw [hyv hj'] at hy
            refine ⟨os[j], List.getElem?_eq_getElem hj', ?_⟩
            exact (u2 _ _ (by rw [add_of, add_of, add_of]; omega) (u1 _ _ (by rw [add_of, add_of, add_of]; omega) hy)).cell
          · have := o2 0 (by simp)
            rw [add_0, add_0, Nat.mul_one] at this
            exact this.cell
          · have hj2 : j < (ints (os.drop i)).length := by rw [ints_len, List.length_drop]; omega
            have := o1 j hj2
            rw [add_0, Nat.mul_one, addr_add, ints_get, List.getElem_drop] at this
            refine ⟨os[i + j]'(by omega), List.getElem?_eq_getElem _, ?_⟩
            exact (u2 _ _ (by rw [add_of, add_of, add_of]; omega) this).cell
    refine CONJ_two ?_ ?_
    · refine ⟨⟨by omega, by omega, by omega⟩, ?_⟩
      refine ⟨⟨by omega, by omega, by omega⟩, ?_⟩
      rw [if_neg hne1, if_neg hnei]
      exact fin
    · refine ⟨⟨by omega, by omega, by omega⟩, ?_⟩
      refine ⟨⟨by omega, by omega, by omega⟩, ?_⟩
      rw [if_neg hne1, if_neg hnei]
      exact fin
end
end Go.Proofs.Ytfaeokcbfnlgbaa.G

/- Prize: plain: somebody at another place. -/
set_option linter.unusedSimpArgs false
set_option linter.unusedVariables false
set_option maxRecDepth 20000
namespace Go.Proofs.Ytfaeokcbfnlgbaa.G
open Go.V
def movN (old pl n : Int) : Int := if n > old ∧ n ≤ pl then n - 1 else if n < old ∧ n ≥ pl then n + 1 else n
def newP (T : PT) (m : Nat) (pl : Int) (i : Nat) : Int := if i = m then pl else movN (T.man m).place pl (T.man i).place
/-- Prizes with somebody at another place. -/
def movedP (T : PT) (m : Nat) (pl : Int) : PT := ⟨(List.range T.n).map fun i => { T.man i with place := newP T m pl i }, T.list⟩
theorem moved_n (T : PT) (m : Nat) (pl : Int) : (movedP T m pl).n = T.n := by simp [movedP, PT.n]
theorem moved_man {T : PT} {m i : Nat} {pl : Int} (h : i < T.n) : (movedP T m pl).man i = { T.man i with place := newP T m pl i } := by
  unfold PT.man movedP
  rw [getD_lt (by simpa using h), List.getElem_map, List.getElem_range]
  rfl
theorem newP_rng {T : PT} (hv : VdP T) {m i : Nat} {pl : Int} (hm : m < T.n) (hi : i < T.n) (h1 : 1 ≤ pl) (h2 : pl ≤ T.n) : 1 ≤ newP T m pl i ∧ newP T m pl i ≤ T.n := by
  have g1 := hv.pl m hm
  have g2 := hv.pl i hi
  unfold newP movN
  split
  · exact ⟨h1, h2⟩
  · split
    · omega
    · split <;> omega
theorem newP_inj {T : PT} (hv : VdP T) {m i j : Nat} {pl : Int} (hm : m < T.n) (hi : i < T.n) (hj : j < T.n) (h : newP T m pl i = newP T m pl j) : i = j := by
  have e1 := hv.inj i m hi hm
  have e2 := hv.inj j m hj hm
  have e3 := hv.inj i j hi hj
  unfold newP movN at h
  by_cases a1 : i = m
  · by_cases a2 : j = m
    · omega
    · rw [if_pos a1, if_neg a2] at h
      have : ¬ (T.man j).place = (T.man m).place := fun e => a2 (e2 e)
      split at h
      · omega
      · split at h <;> omega
  · by_cases a2 : j = m
    · rw [if_neg a1, if_pos a2] at h
      have : ¬ (T.man i).place = (T.man m).place := fun e => a1 (e1 e)
      split at h
      · omega
      · split at h <;> omega
    · rw [if_neg a1, if_neg a2] at h
      have b1 : ¬ (T.man j).place = (T.man m).place := fun e => a2 (e2 e)
      have b2 : ¬ (T.man i).place = (T.man m).place := fun e => a1 (e1 e)
      apply e3
      split at h <;> split at h <;> (try split at h) <;> (try split at h) <;> omega
theorem ok_moved {T : PT} (hok : okP T = true) {m : Nat} {pl : Int} (hm : m < T.n) (h1 : 1 ≤ pl) (h2 : pl ≤ T.n) : okP (movedP T m pl) = true := by
  have hv := okP_vd hok
  obtain ⟨g1, g2, _, g4⟩ := okP_iff.1 hok
  rw [okP_iff, moved_n]
  refine ⟨g1, g2, ?_, g4⟩
  rw [okMs_iff]
  refine ⟨fun w hw => ?_, ?_, fun _ _ x hx => by cases hx⟩
  · obtain ⟨i, hi, rfl⟩ := List.mem_map.1 hw
    have hi := List.mem_range.1 hi
    exact ⟨newP_rng hv hm hi h1 h2, hv.cl i hi⟩
  · unfold movedP
    rw [List.pairwise_map]
    refine (List.nodup_range (n := T.n)).imp_of_mem fun {a b} ha hb hab => ?_
    exact fun e => hab (newP_inj hv hm (List.mem_range.1 ha) (List.mem_range.1 hb) e)
end Go.Proofs.Ytfaeokcbfnlgbaa.G

/- Prize: plain: the order with somebody at another place. -/
set_option linter.unusedSimpArgs false
set_option linter.unusedVariables false
set_option maxRecDepth 20000
namespace Go.Proofs.Ytfaeokcbfnlgbaa.G
open Go.V
theorem ord_at {T : PT} {k : Nat} (h : k < (ordP T).length) : (ordP T)[k] = idx T ((k + 1 : Nat) : Int) := by
  have h1 := ord_get (T := T) (k := k) (by rw [← ord_len T]; exact h)
  rw [List.getElem?_eq_getElem h] at h1
  exact Option.some.inj h1
theorem ord_nd {T : PT} (hv : VdP T) : (ordP T).Nodup := by
  unfold ordP
  refine List.pairwise_map.2 ((List.nodup_range (n := T.n)).imp_of_mem fun {a b} ha hb hab e => hab ?_)
  have ha := List.mem_range.1 ha
  have hb := List.mem_range.1 hb
  have h1 := (hv.sur ((a + 1 : Nat) : Int) (by omega) (by omega)).2
  have h2 := (hv.sur ((b + 1 : Nat) : Int) (by omega) (by omega)).2
  rw [e, h2] at h1
  omega
def othL (T : PT) (m : Nat) : List Nat := ordF T fun k => !decide (k = m)
theorem oth_eq {T : PT} (hv : VdP T) {m : Nat} (hm : m < T.n) : othL T m = (ordP T).eraseIdx ((T.man m).place - 1).toNat := by
  have hp := hv.pl m hm
  have hl : ((T.man m).place - 1).toNat < (ordP T).length := by rw [ord_len]; omega
  have hat : (ordP T)[((T.man m).place - 1).toNat] = m := by
    rw [ord_at hl]
    have e : ((((T.man m).place - 1).toNat + 1 : Nat) : Int) = (T.man m).place := by omega
    rw [e]
    obtain ⟨g1, g2⟩ := hv.sur _ hp.1 hp.2
    exact hv.inj _ _ g1 hm g2
  have h1 : othL T m = (ordP T).erase m := by
    rw [(ord_nd hv).erase_eq_filter]
    unfold othL ordF
    congr 1
  rw [h1, List.erase_eq_eraseIdx_of_idxOf]
  conv => lhs; rw [← hat]
  exact (ord_nd hv).idxOf_getElem _ hl
theorem oth_len {T : PT} (hv : VdP T) {m : Nat} (hm : m < T.n) : (othL T m).length = T.n - 1 := by
  have hp := hv.pl m hm
  rw [oth_eq hv hm, List.length_eraseIdx_of_lt (by rw [ord_len]; omega), ord_len]
theorem oth_get {T : PT} (hv : VdP T) {m q : Nat} (hm : m < T.n) (hq : q < T.n - 1) : (othL T m)[q]? = some (idx T (if ((q + 1 : Nat) : Int) < (T.man m).place then ((q + 1 : Nat) : Int) else ((q + 2 : Nat) : Int))) := by
  have hp := hv.pl m hm
  rw [oth_eq hv hm, List.getElem?_eraseIdx]
  by_cases h : ((q + 1 : Nat) : Int) < (T.man m).place
  · rw [if_pos h, if_pos (by omega), ord_get (by omega)]
  · rw [if_neg h, if_neg (by omega), ord_get (by omega)]
/-- The new order: who is at each new place. -/
theorem new_order {T : PT} (hv : VdP T) {m j : Nat} {pl : Nat} (hm : m < T.n) (h1 : 1 ≤ pl) (h2 : pl ≤ T.n) (hj : j < T.n) : ∃ i, i < T.n ∧ (insL (nats (othL T m)) (pl - 1) (m : Int))[j]? = some (i : Int) ∧ newP T m pl i = ((j + 1 : Nat) : Int) := by
  have hlen := oth_len hv hm
  have hnl : (nats (othL T m)).length = T.n - 1 := by unfold nats; rw [List.length_map]; exact hlen
  have hp := hv.pl m hm
  have key : ∀ q : Nat, q < T.n - 1 → ∃ i, i < T.n ∧ (nats (othL T m))[q]? = some (i : Int) ∧ i ≠ m ∧ (T.man i).place = (if ((q + 1 : Nat) : Int) < (T.man m).place then ((q + 1 : Nat) : Int) else ((q + 2 : Nat) : Int)) := by
    intro q hq
    have hg := oth_get hv hm hq
    generalize hk : (if ((q + 1 : Nat) : Int) < (T.man m).place then ((q + 1 : Nat) : Int) else ((q + 2 : Nat) : Int)) = k at *
    have hkr : 1 ≤ k ∧ k ≤ T.n ∧ k ≠ (T.man m).place := by rw [← hk]; split <;> omega
    obtain ⟨g1, g2⟩ := hv.sur k hkr.1 hkr.2.1
    refine ⟨idx T k, g1, ?_, fun e => hkr.2.2 (by rw [← g2, e]), g2⟩
    unfold nats
    rw [List.getElem?_map, hg]; rfl
  rw [insL_at (by omega)]
  by_cases q1 : j < pl - 1
  · obtain ⟨i, g1, g2, g3, g4⟩ := key j (by omega)
    refine ⟨i, g1, by rw [if_pos q1]; exact g2, ?_⟩
    unfold newP movN
    rw [if_neg g3, g4]
    split <;> (try split) <;> (try split) <;> omega
  · by_cases q2 : j = pl - 1
    · refine ⟨m, hm, by rw [if_neg q1, if_pos q2], ?_⟩
      unfold newP
      rw [if_pos rfl]; omega
    · obtain ⟨i, g1, g2, g3, g4⟩ := key (j - 1) (by omega)
      refine ⟨i, g1, by rw [if_neg q1, if_neg q2]; exact g2, ?_⟩
      unfold newP movN
      rw [if_neg g3, g4]
      split <;> (try split) <;> (try split) <;> omega
end Go.Proofs.Ytfaeokcbfnlgbaa.G

/- Prize: plain laws of matchings, for Most. -/
set_option linter.unusedSimpArgs false
set_option linter.unusedVariables false
set_option maxRecDepth 20000
namespace Go.Proofs.Ytfaeokcbfnlgbaa.G
open Go.V
/-- How many of those who are not seen have a prize. -/
def cnt (n : Nat) (S : Nat → Bool) (M : Nat → Option Nat) (q : Nat) : Nat := ((List.range n).filter fun m => !S m && decide (M m = some q)).length
def updM (M : Nat → Option Nat) (m : Nat) (z : Nat) : Nat → Option Nat := fun k => if k = m then some z else M k
def one1 (b : Prop) [Decidable b] : Nat := if b then 1 else 0
theorem cnt_succ (n : Nat) (S : Nat → Bool) (M : Nat → Option Nat) (q : Nat) : cnt (n + 1) S M q = cnt n S M q + one1 (S n = false ∧ M n = some q) := by
  unfold cnt one1
  rw [List.range_succ, List.filter_append, List.length_append]
  congr 1
  cases h : S n <;> by_cases h2 : M n = some q <;> simp [h, h2]
theorem cnt_same {n : Nat} {S : Nat → Bool} {M M' : Nat → Option Nat} (h : ∀ m, m < n → S m = false → M' m = M m) (q : Nat) : cnt n S M' q = cnt n S M q := by
  induction n with
  | zero => rfl
  | succ n ih =>
    rw [cnt_succ, cnt_succ, ih (fun m hm => h m (by omega))]
    congr 1
    unfold one1
    cases hs : S n with
    | true => simp
    | false => rw [h n (by omega) hs]
theorem cnt_upd {n : Nat} {S : Nat → Bool} {M : Nat → Option Nat} {m z : Nat} (hm : m < n) (hs : S m = false) (q : Nat) : cnt n S (updM M m z) q + one1 (M m = some q) = cnt n S M q + one1 (q = z) := by
  induction n with
  | zero => omega
  | succ n ih =>
    rw [cnt_succ, cnt_succ]
    by_cases h : m = n
    · subst h
      have h1 : cnt m S (updM M m z) q = cnt m S M q := cnt_same (fun k hk _ => by unfold updM; rw [if_neg (by omega)]) q
      rw [h1]
      have e1 : one1 (S m = false ∧ updM M m z m = some q) = one1 (q = z) := by
        unfold one1 updM
        simp only [hs, true_and, if_true, Option.some.injEq]
        by_cases hq : q = z
        · rw [if_pos hq, if_pos hq.symm]
        · rw [if_neg hq, if_neg (fun e => hq e.symm)]
      have e2 : one1 (S m = false ∧ M m = some q) = one1 (M m = some q) := by unfold one1; simp only [hs, true_and]
      rw [e1, e2]; omega
    · have := ih (by omega)
      have e1 : one1 (S n = false ∧ updM M m z n = some q) = one1 (S n = false ∧ M n = some q) := by
        unfold updM; rw [if_neg (fun e => h e.symm)]
      rw [e1]; omega
theorem cnt_split {n : Nat} {S S2 : Nat → Bool} {M M1 : Nat → Option Nat} (hs : ∀ m, S m = true → S2 m = true) (h : ∀ m, S2 m = true → M1 m = M m) (q : Nat) : cnt n S M1 q + cnt n S2 M q = cnt n S M q + cnt n S2 M1 q := by
  induction n with
  | zero => rfl
  | succ n ih =>
    rw [cnt_succ, cnt_succ, cnt_succ, cnt_succ]
    have : one1 (S n = false ∧ M1 n = some q) + one1 (S2 n = false ∧ M n = some q) = one1 (S n = false ∧ M n = some q) + one1 (S2 n = false ∧ M1 n = some q) := by
      cases h2 : S2 n with
      | true => rw [h n h2]
      | false =>
        have h1 : S n = false := by cases h1 : S n with
          | false => rfl
          | true => rw [hs n h1] at h2; cases h2
        rw [h1]
        unfold one1
        simp only [true_and]
        exact Nat.add_comm _ _
    omega
theorem cnt_pos {n : Nat} {S : Nat → Bool} {M : Nat → Option Nat} {m q : Nat} (hm : m < n) (hs : S m = false) (h : M m = some q) : 0 < cnt n S M q := by
  unfold cnt
  refine List.length_pos_of_mem (a := m) ?_
  rw [List.mem_filter]
  exact ⟨List.mem_range.2 hm, by simp [hs, h]⟩
theorem cnt_zero {n : Nat} {S : Nat → Bool} {M : Nat → Option Nat} {q : Nat} (h : ∀ m, m < n → M m ≠ some q) : cnt n S M q = 0 := by
  unfold cnt
  rw [List.length_eq_zero_iff, List.filter_eq_nil_iff]
  intro m hm
  simp [h m (List.mem_range.1 hm)]
theorem cnt_two : ∀ {n : Nat} {S : Nat → Bool} {M : Nat → Option Nat} {a b q : Nat}, a < b → b < n → S a = false → S b = false → M a = some q → M b = some q → 2 ≤ cnt n S M q
  | 0, _, _, _, _, _, _, h, _, _, _, _ => by omega
  | n + 1, S, M, a, b, q, hab, hb, ha', hb', h1, h2 => by
    rw [cnt_succ]
    by_cases e : b = n
    · subst e
      have := cnt_pos (n := b) hab ha' h1
      have e1 : one1 (S b = false ∧ M b = some q) = 1 := by unfold one1; rw [if_pos ⟨hb', h2⟩]
      omega
    · have := cnt_two (n := n) hab (by omega) ha' hb' h1 h2
      omega
section
variable (T : PT) (f : Nat → Bool)
/-- Somebody who is left can have a prize. -/
def Cand (q m : Nat) : Prop := m < T.n ∧ f m = true ∧ canP T m q = true
/-- Whoever is of a set has a prize, and so whoever else could have it. -/
def Closed (M : Nat → Option Nat) (C : Nat → Prop) : Prop := ∀ m, C m → ∃ q, M m = some q ∧ ∀ m', Cand T f q m' → C m'
structure Tr (S : Nat → Bool) (M : Nat → Option Nat) (z : Nat) (M' : Nat → Option Nat) : Prop where
  cn : ∀ q, cnt T.n S M' q = cnt T.n S M q + one1 (q = z)
  ed : ∀ m q, M' m = some q → M m = some q ∨ Cand T f q m ∧ (q = z ∨ ∃ k, M k = some q)
  un : ∀ m, S m = true → M' m = M m
  cl : ∀ C : Nat → Prop, Closed T f M C → ¬ (∀ m, Cand T f z m → C m) ∧ ∀ m, C m → M' m = M m
structure Fa (S : Nat → Bool) (M : Nat → Option Nat) (z : Nat) (S' : Nat → Bool) : Prop where
  le : ∀ m, S m = true → S' m = true
  all : ∀ m, Cand T f z m → S' m = true
  cl : ∀ m, S' m = true → S m = false → ∃ q, M m = some q ∧ ∀ m', Cand T f q m' → S' m' = true
variable {T f}
theorem Tr.free {S S2 : Nat → Bool} {M : Nat → Option Nat} {z m : Nat} (hc : Cand T f z m) (hm : M m = none) (hs : S m = false) : Tr T f S M z (updM M m z) where
  cn := fun q => by
    have := cnt_upd (M := M) (z := z) hc.1 hs q
    have e : one1 (M m = some q) = 0 := by unfold one1; rw [hm, if_neg (by simp)]
    omega
  ed := fun k q h => by
    unfold updM at h
    split at h
    · rename_i e; cases h; rw [e]; exact .inr ⟨hc, .inl rfl⟩
    · exact .inl h
  un := fun k hk => by
    unfold updM
    rw [if_neg (fun e => by rw [e, hs] at hk; cases hk)]
  cl := fun C hC => by
    have hnm : ¬ C m := fun h => by
      obtain ⟨q, hq, _⟩ := hC m h
      rw [hm] at hq; cases hq
    refine ⟨fun h => hnm (h m hc), fun k hk => ?_⟩
    unfold updM
    rw [if_neg (fun (e : k = m) => hnm (by rw [← e]; exact hk))]
theorem Tr.next {S S2 : Nat → Bool} {M M1 : Nat → Option Nat} {z old m : Nat} (hc : Cand T f z m) (hm : M m = some old) (hs : S m = false) (hle : ∀ k, S k = true → S2 k = true) (h2 : S2 m = true) (h : Tr T f S2 M old M1) : Tr T f S M z (updM M1 m z) where
  cn := fun q => by
    have h1 := cnt_split (n := T.n) hle h.un q
    have h3 := h.cn q
    have h4 := cnt_upd (M := M1) (z := z) hc.1 hs q
    rw [h.un m h2, hm] at h4
    have e : one1 (some old = some q) = one1 (q = old) := by
      unfold one1
      by_cases he : q = old
      · rw [if_pos he, if_pos (by rw [he])]
      · rw [if_neg he, if_neg (fun e => he (Option.some.inj e).symm)]
    omega
  ed := fun k q hk => by
    unfold updM at hk
    split at hk
    · rename_i e; cases hk; rw [e]; exact .inr ⟨hc, .inl rfl⟩
    · rcases h.ed k q hk with h5 | ⟨h5, h6⟩
      · exact .inl h5
      · refine .inr ⟨h5, .inr ?_⟩
        rcases h6 with rfl | h6
        · exact ⟨m, hm⟩
        · exact h6
  un := fun k hk => by
    have hne : k ≠ m := fun e => by rw [e, hs] at hk; cases hk
    unfold updM
    rw [if_neg hne]
    exact h.un k (hle k hk)
  cl := fun C hC => by
    obtain ⟨g1, g2⟩ := h.cl C hC
    have hnm : ¬ C m := fun hh => by
      obtain ⟨q, hq, hq2⟩ := hC m hh
      rw [hm] at hq; cases hq
      exact g1 hq2
    refine ⟨fun hh => hnm (hh m hc), fun k hk => ?_⟩
    unfold updM
    rw [if_neg (fun (e : k = m) => hnm (by rw [← e]; exact hk))]
    exact g2 k hk
end
end Go.Proofs.Ytfaeokcbfnlgbaa.G

/- Prize: plain laws: how many prizes can be given at most. -/
set_option linter.unusedSimpArgs false
set_option linter.unusedVariables false
set_option maxRecDepth 20000
namespace Go.Proofs.Ytfaeokcbfnlgbaa.G
open Go.V
def less (f : Nat → Bool) (m : Nat) : Nat → Bool := fun k => f k && !decide (k = m)
def candL (T : PT) (f : Nat → Bool) (z : Nat) : List Nat := (List.range T.n).filter fun m => f m && canP T m z
/-- How many prizes can be given at most, of so many from one on. -/
def optN (T : PT) : Nat → Nat → (Nat → Bool) → Nat
  | 0, _, _ => 0
  | r + 1, z, f => (candL T f z).foldl (fun b m => max b (1 + optN T r (z + 1) (less f m))) (optN T r (z + 1) f)
def many (l : List (Option Nat)) : Nat := (l.filter Option.isSome).length
inductive Legit (T : PT) : Nat → Nat → (Nat → Bool) → List (Option Nat) → Prop
  | nil (z : Nat) (f : Nat → Bool) : Legit T 0 z f []
  | none {r z : Nat} {f : Nat → Bool} {g : List (Option Nat)} (h : Legit T r (z + 1) f g) : Legit T (r + 1) z f (none :: g)
  | some {r z m : Nat} {f : Nat → Bool} {g : List (Option Nat)} (hc : Cand T f z m) (h : Legit T r (z + 1) (less f m) g) : Legit T (r + 1) z f (some m :: g)
theorem cand_mem {T : PT} {f : Nat → Bool} {z m : Nat} : m ∈ candL T f z ↔ Cand T f z m := by
  unfold candL Cand
  rw [List.mem_filter, List.mem_range]
  simp only [Bool.and_eq_true]
theorem foldl_max_le {α : Type} (h : α → Nat) : ∀ (l : List α) (b c : Nat), l.foldl (fun b m => max b (h m)) b ≤ c ↔ b ≤ c ∧ ∀ m ∈ l, h m ≤ c
  | [], b, c => by simp
  | x :: l, b, c => by
    rw [List.foldl_cons, foldl_max_le h l]
    simp only [List.mem_cons, forall_eq_or_imp]
    constructor
    · rintro ⟨h1, h2⟩; exact ⟨by omega, by omega, h2⟩
    · rintro ⟨h1, h2, h3⟩; exact ⟨by omega, h3⟩
theorem foldl_max_ge {α : Type} (h : α → Nat) (l : List α) (b : Nat) : b ≤ l.foldl (fun b m => max b (h m)) b ∧ ∀ m ∈ l, h m ≤ l.foldl (fun b m => max b (h m)) b := (foldl_max_le h l b _).1 (Nat.le_refl _)
theorem foldl_max_or {α : Type} (h : α → Nat) : ∀ (l : List α) (b : Nat), l.foldl (fun b m => max b (h m)) b = b ∨ ∃ m ∈ l, l.foldl (fun b m => max b (h m)) b = h m
  | [], b => .inl rfl
  | x :: l, b => by
    rw [List.foldl_cons]
    rcases foldl_max_or h l (max b (h x)) with e | ⟨m, hm, e⟩
    · rw [e]
      by_cases hb : h x ≤ b
      · left; omega
      · right; exact ⟨x, by simp, by omega⟩
    · exact .inr ⟨m, by simp [hm], e⟩
theorem opt_none {T : PT} {r z : Nat} {f : Nat → Bool} : optN T r (z + 1) f ≤ optN T (r + 1) z f := (foldl_max_ge _ _ _).1
theorem opt_some {T : PT} {r z m : Nat} {f : Nat → Bool} (h : Cand T f z m) : 1 + optN T r (z + 1) (less f m) ≤ optN T (r + 1) z f := (foldl_max_ge (fun m => 1 + optN T r (z + 1) (less f m)) _ _).2 m (cand_mem.2 h)
theorem opt_or {T : PT} {r z : Nat} {f : Nat → Bool} : optN T (r + 1) z f = optN T r (z + 1) f ∨ ∃ m, Cand T f z m ∧ optN T (r + 1) z f = 1 + optN T r (z + 1) (less f m) := by
  rcases foldl_max_or (fun m => 1 + optN T r (z + 1) (less f m)) (candL T f z) (optN T r (z + 1) f) with h | ⟨m, hm, h⟩
  · exact .inl h
  · exact .inr ⟨m, cand_mem.1 hm, h⟩
theorem legit_le {T : PT} {r z : Nat} {f : Nat → Bool} {g : List (Option Nat)} (h : Legit T r z f g) : many g ≤ optN T r z f := by
  induction h with
  | nil z f => exact Nat.zero_le _
  | none h ih => exact Nat.le_trans ih opt_none
  | some hc h ih =>
    refine Nat.le_trans ?_ (opt_some hc)
    show (_ :: List.filter Option.isSome _).length ≤ _
    rw [List.length_cons]
    have : (List.filter Option.isSome _).length ≤ _ := ih
    omega
theorem legit_len {T : PT} {r z : Nat} {f : Nat → Bool} {g : List (Option Nat)} (h : Legit T r z f g) : g.length = r := by
  induction h with
  | nil z f => rfl
  | none h ih => simp [ih]
  | some hc h ih => simp [ih]
theorem legit_opt (T : PT) : ∀ (r z : Nat) (f : Nat → Bool), ∃ g, Legit T r z f g ∧ many g = optN T r z f
  | 0, z, f => ⟨[], .nil z f, rfl⟩
  | r + 1, z, f => by
    rcases opt_or (T := T) (r := r) (z := z) (f := f) with h | ⟨m, hm, h⟩
    · obtain ⟨g, h1, h2⟩ := legit_opt T r (z + 1) f
      exact ⟨none :: g, .none h1, by rw [h, ← h2]; rfl⟩
    · obtain ⟨g, h1, h2⟩ := legit_opt T r (z + 1) (less f m)
      refine ⟨some m :: g, .some hm h1, ?_⟩
      rw [h, ← h2]
      show (_ :: List.filter Option.isSome _).length = _
      rw [List.length_cons]
      exact Nat.add_comm _ _
theorem legit_at {T : PT} {r z : Nat} {f : Nat → Bool} {g : List (Option Nat)} (h : Legit T r z f g) : ∀ i m, g[i]? = some (some m) → Cand T f (z + i) m ∧ ∀ j, g[j]? = some (some m) → j = i := by
  induction h with
  | nil z f => intro i m h; simp at h
  | @none r z f g h ih =>
    intro i m hi
    cases i with
    | zero => simp at hi
    | succ i =>
      obtain ⟨h1, h2⟩ := ih i m (by simpa using hi)
      refine ⟨by rw [show z + (i + 1) = z + 1 + i by omega]; exact h1, fun j hj => ?_⟩
      cases j with
      | zero => simp at hj
      | succ j => rw [h2 j (by simpa using hj)]
  | @some r z k f g hc h ih =>
    have hne : ∀ i m, g[i]? = some (some m) → m ≠ k ∧ Cand T f (z + 1 + i) m := fun i m hi => by
      obtain ⟨⟨h1, h2, h3⟩, _⟩ := ih i m hi
      unfold less at h2
      simp only [Bool.and_eq_true, Bool.not_eq_true', decide_eq_false_iff_not] at h2
      exact ⟨h2.2, h1, h2.1, h3⟩
    intro i m hi
    cases i with
    | zero =>
      simp at hi
      subst hi
      refine ⟨hc, fun j hj => ?_⟩
      cases j with
      | zero => rfl
      | succ j => exact absurd rfl (hne j k (by simpa using hj)).1
    | succ i =>
      have hi' : g[i]? = some (some m) := by simpa using hi
      obtain ⟨h1, h2⟩ := ih i m hi'
      obtain ⟨h3, h4⟩ := hne i m hi'
      refine ⟨by rw [show z + (i + 1) = z + 1 + i by omega]; exact h4, fun j hj => ?_⟩
      cases j with
      | zero => simp at hj; exact absurd hj.symm h3
      | succ j => rw [h2 j (by simpa using hj)]
theorem many_idx : ∀ (g : List (Option Nat)), many g = ((List.range g.length).filter fun i => (g.getD i none).isSome).length := by
  intro g
  have key : ∀ k, k ≤ g.length → many (g.take k) = ((List.range k).filter fun i => (g.getD i none).isSome).length := by
    intro k
    induction k with
    | zero => intro _; rfl
    | succ k ih =>
      intro hk
      have hk' : k < g.length := by omega
      rw [List.range_succ, List.filter_append, List.length_append, ← ih (by omega)]
      unfold many
      rw [List.take_add_one, List.getElem?_eq_getElem hk', List.filter_append, List.length_append]
      congr 1
      have : g.getD k none = g[k] := getD_lt hk'
      show (List.filter Option.isSome [g[k]]).length = (List.filter (fun i => (g.getD i none).isSome) [k]).length
      rw [List.filter_cons, List.filter_cons, this]
      cases g[k] <;> rfl
  have := key g.length (Nat.le_refl _)
  rwa [List.take_length] at this
def S0 : Nat → Bool := fun _ => false
/-- How many prizes are given. -/
def suc (T : PT) (M : Nat → Option Nat) (a k : Nat) : Nat := ((List.range k).filter fun i => decide (0 < cnt T.n S0 M (a + i))).length
structure MI (T : PT) (f : Nat → Bool) (M : Nat → Option Nat) (a k : Nat) (C : Nat → Prop) : Prop where
  ed : ∀ m q, M m = some q → (a ≤ q ∧ q < a + k) ∧ Cand T f q m
  c1 : ∀ q, cnt T.n S0 M q ≤ 1
  cl : Closed T f M C
  fa : ∀ i, i < k → cnt T.n S0 M (a + i) = 0 → ∀ m, Cand T f (a + i) m → C m
theorem cnt_ex {n : Nat} {S : Nat → Bool} {M : Nat → Option Nat} {q : Nat} (h : 0 < cnt n S M q) : ∃ m, m < n ∧ M m = some q := by
  unfold cnt at h
  obtain ⟨m, hm⟩ := List.exists_mem_of_length_pos h
  rw [List.mem_filter] at hm
  refine ⟨m, List.mem_range.1 hm.1, ?_⟩
  have := hm.2
  simp only [Bool.and_eq_true, decide_eq_true_eq] at this
  exact this.2
theorem cnt_uni {n : Nat} {M : Nat → Option Nat} {q a b : Nat} (h : cnt n S0 M q ≤ 1) (ha : a < n) (hb : b < n) (h1 : M a = some q) (h2 : M b = some q) : a = b := by
  refine Classical.byContradiction fun hne => ?_
  rcases Nat.lt_or_gt_of_ne hne with hl | hl
  · have := cnt_two (S := S0) hl hb rfl rfl h1 h2; omega
  · have := cnt_two (S := S0) hl ha rfl rfl h2 h1; omega
/-- The one who has a prize. -/
def hasIt (T : PT) (M : Nat → Option Nat) (q : Nat) : Option Nat := (List.range T.n).find? fun m => decide (M m = some q)
theorem hasIt_some {T : PT} {M : Nat → Option Nat} {q m : Nat} (h : hasIt T M q = some m) : m < T.n ∧ M m = some q := by
  have h1 := List.find?_some h
  have h2 := List.mem_of_find?_eq_some h
  exact ⟨List.mem_range.1 h2, of_decide_eq_true h1⟩
theorem hasIt_none {T : PT} {M : Nat → Option Nat} {q : Nat} (h : hasIt T M q = none) : cnt T.n S0 M q = 0 := by
  refine cnt_zero fun m hm he => ?_
  have := List.find?_eq_none.1 h m (List.mem_range.2 hm)
  simp [he] at this
theorem hasIt_pos {T : PT} {M : Nat → Option Nat} {q : Nat} : (hasIt T M q).isSome = decide (0 < cnt T.n S0 M q) := by
  cases h : hasIt T M q with
  | none => rw [hasIt_none h]; rfl
  | some m =>
    obtain ⟨h1, h2⟩ := hasIt_some h
    have := cnt_pos (S := S0) h1 rfl h2
    rw [decide_eq_true this]; rfl
def gM (T : PT) (M : Nat → Option Nat) (a k : Nat) : List (Option Nat) := (List.range k).map fun i => hasIt T M (a + i)
theorem gM_succ (T : PT) (M : Nat → Option Nat) (a k : Nat) : gM T M a (k + 1) = hasIt T M a :: gM T M (a + 1) k := by
  unfold gM
  rw [List.range_succ_eq_map, List.map_cons, List.map_map]
  congr 1
  apply List.map_congr_left
  intro i _
  show hasIt T M (a + (i + 1)) = _
  rw [show a + (i + 1) = a + 1 + i by omega]
theorem gM_legit {T : PT} {M : Nat → Option Nat} : ∀ (k a : Nat) (f : Nat → Bool), (∀ m q, M m = some q → a ≤ q → Cand T f q m) → Legit T k a f (gM T M a k)
  | 0, a, f, _ => .nil a f
  | k + 1, a, f, h => by
    rw [gM_succ]
    cases hh : hasIt T M a with
    | none => exact .none (gM_legit k (a + 1) f fun m q hm hq => h m q hm (by omega))
    | some m =>
      obtain ⟨h1, h2⟩ := hasIt_some hh
      refine .some (h m a h2 (Nat.le_refl _)) (gM_legit k (a + 1) (less f m) fun m' q hm hq => ?_)
      obtain ⟨g1, g2, g3⟩ := h m' q hm (by omega)
      refine ⟨g1, ?_, g3⟩
      unfold less
      rw [g2, Bool.true_and]
      have : ¬ m' = m := fun e => by subst e; rw [h2] at hm; have := Option.some.inj hm; omega
      rw [decide_eq_false this]; rfl
theorem gM_many (T : PT) (M : Nat → Option Nat) (a k : Nat) : many (gM T M a k) = suc T M a k := by
  rw [many_idx]
  unfold suc
  have hl : (gM T M a k).length = k := by simp [gM]
  rw [hl]
  congr 1
  apply List.filter_congr
  intro i hi
  have hg : (gM T M a k)[i]? = some (hasIt T M (a + i)) := by
    unfold gM
    rw [List.getElem?_map, List.getElem?_range (List.mem_range.1 hi)]; rfl
  rw [List.getD_eq_getElem?_getD, hg, ← hasIt_pos]; rfl
theorem suc_max {T : PT} {f : Nat → Bool} {M : Nat → Option Nat} {a k : Nat} {C : Nat → Prop} (h : MI T f M a k C) {g : List (Option Nat)} (hg : Legit T k a f g) : many g ≤ suc T M a k := by
  rw [many_idx, legit_len hg]
  unfold suc
  have hat := legit_at hg
  have hlen := legit_len hg
  -- where a prize goes
  have key : ∀ i, ∃ j, i < k → (g.getD i none).isSome = true → (j < k ∧ 0 < cnt T.n S0 M (a + j)) ∧ (((∀ m, Cand T f (a + i) m → C m) ∧ ∃ m, g.getD i none = some m ∧ M m = some (a + j) ∧ (∀ m', Cand T f (a + j) m' → C m')) ∨ (¬ (∀ m, Cand T f (a + i) m → C m) ∧ j = i)) := by
    intro i
    by_cases hik : i < k
    · by_cases hs : (g.getD i none).isSome = true
      · obtain ⟨m, hm⟩ := Option.isSome_iff_exists.1 hs
        have hgi : g[i]? = some (some m) := by rw [List.getElem?_eq_getElem (by omega)]; rw [getD_lt (by omega)] at hm; rw [hm]
        obtain ⟨hc, _⟩ := hat i m hgi
        by_cases hT : ∀ m, Cand T f (a + i) m → C m
        · obtain ⟨q, hq, hq2⟩ := h.cl m (hT m hc)
          obtain ⟨⟨h1, h2⟩, _⟩ := h.ed m q hq
          refine ⟨q - a, fun _ _ => ⟨⟨by omega, ?_⟩, .inl ⟨hT, m, hm, by rw [hq]; congr 1; omega, by rw [show a + (q - a) = q by omega]; exact hq2⟩⟩⟩
          rw [show a + (q - a) = q by omega]
          exact cnt_pos hc.1 rfl hq
        · refine ⟨i, fun _ _ => ⟨⟨hik, ?_⟩, .inr ⟨hT, rfl⟩⟩⟩
          rcases Nat.eq_zero_or_pos (cnt T.n S0 M (a + i)) with h0 | h0
          · exact absurd (h.fa i hik h0) hT
          · exact h0
      · exact ⟨0, fun _ hh => absurd hh hs⟩
    · exact ⟨0, fun hh => absurd hh hik⟩
  obtain ⟨φ, hφ⟩ := Classical.axiomOfChoice key
  have hfil : ∀ i, i ∈ ((List.range k).filter fun i => (g.getD i none).isSome) ↔ i < k ∧ (g.getD i none).isSome = true := fun i => by rw [List.mem_filter, List.mem_range]
  rw [← List.length_map (f := φ)]
  refine sub_len _ _ ?_ (fun j hj => ?_)
  · have hinj : ∀ i i', i < k → (g.getD i none).isSome = true → i' < k → (g.getD i' none).isSome = true → φ i = φ i' → i = i' := by
      intro i i' h1 h2 h3 h4 he
      obtain ⟨_, g2⟩ := hφ i h1 h2
      obtain ⟨_, g4⟩ := hφ i' h3 h4
      rcases g2 with ⟨t1, m, hm, hM, hc⟩ | ⟨t1, e1⟩
      · rcases g4 with ⟨t2, m', hm', hM', hc'⟩ | ⟨t2, e2⟩
        · rw [← he] at hM'
          have hgi : g[i]? = some (some m) := by rw [List.getElem?_eq_getElem (by omega)]; rw [getD_lt (by omega)] at hm; rw [hm]
          have hgi' : g[i']? = some (some m') := by rw [List.getElem?_eq_getElem (by omega)]; rw [getD_lt (by omega)] at hm'; rw [hm']
          have e := cnt_uni (h.c1 _) (hat i m hgi).1.1 (hat i' m' hgi').1.1 hM hM'
          subst e
          exact ((hat i m hgi).2 i' hgi').symm
        · rw [he, e2] at hc
          exact absurd hc t2
      · rcases g4 with ⟨t2, m', hm', hM', hc'⟩ | ⟨t2, e2⟩
        · rw [← he, e1] at hc'
          exact absurd hc' t1
        · omega
    have nd : ∀ l : List Nat, l.Nodup → (∀ i ∈ l, i < k ∧ (g.getD i none).isSome = true) → (l.map φ).Nodup := by
      intro l
      induction l with
      | nil => intro _ _; simp
      | cons x l ih =>
        intro hn hm
        rw [List.nodup_cons] at hn
        rw [List.map_cons, List.nodup_cons]
        refine ⟨fun hx => ?_, ih hn.2 fun i hi => hm i (by simp [hi])⟩
        obtain ⟨y, hy, e⟩ := List.mem_map.1 hx
        have hx' := hm x (by simp)
        have hy' := hm y (by simp [hy])
        have := hinj y x hy'.1 hy'.2 hx'.1 hx'.2 e
        subst this
        exact hn.1 hy
    exact nd _ (List.nodup_range.filter _) fun i hi => (hfil i).1 hi
  · obtain ⟨i, hi, rfl⟩ := List.mem_map.1 hj
    obtain ⟨h1, h2⟩ := (hfil i).1 hi
    obtain ⟨g1, _⟩ := hφ i h1 h2
    rw [List.mem_filter, List.mem_range]
    exact ⟨g1.1, decide_eq_true g1.2⟩
/-- What is found is the most. -/
theorem suc_opt {T : PT} {f : Nat → Bool} {M : Nat → Option Nat} {a k : Nat} {C : Nat → Prop} (h : MI T f M a k C) : suc T M a k = optN T k a f := by
  refine Nat.le_antisymm ?_ ?_
  · rw [← gM_many]
    exact legit_le (gM_legit k a f fun m q hm _ => (h.ed m q hm).2)
  · obtain ⟨g, h1, h2⟩ := legit_opt T k a f
    rw [← h2]
    exact suc_max h h1
theorem MI.zero (T : PT) (f : Nat → Bool) (a : Nat) : MI T f (fun _ => none) a 0 (fun _ => False) where
  ed := fun m q h => by cases h
  c1 := fun q => by rw [cnt_zero fun m _ h => by cases h]; omega
  cl := fun m h => h.elim
  fa := fun i hi => by omega
theorem suc_succ (T : PT) (M : Nat → Option Nat) (a k : Nat) : suc T M a (k + 1) = suc T M a k + one1 (0 < cnt T.n S0 M (a + k)) := by
  unfold suc one1
  rw [List.range_succ, List.filter_append, List.length_append]
  congr 1
  by_cases h : 0 < cnt T.n S0 M (a + k) <;> simp [h]
theorem suc_same {T : PT} {M M' : Nat → Option Nat} {a : Nat} : ∀ k, (∀ i, i < k → cnt T.n S0 M' (a + i) = cnt T.n S0 M (a + i)) → suc T M' a k = suc T M a k
  | 0, _ => rfl
  | k + 1, h => by rw [suc_succ, suc_succ, suc_same k fun i hi => h i (by omega), h k (by omega)]
theorem MI.new0 {T : PT} {f : Nat → Bool} {M : Nat → Option Nat} {a k : Nat} {C : Nat → Prop} (h : MI T f M a k C) : cnt T.n S0 M (a + k) = 0 := cnt_zero fun m _ hm => by have := (h.ed m _ hm).1; omega
theorem MI.yes {T : PT} {f : Nat → Bool} {M M' : Nat → Option Nat} {a k : Nat} {C : Nat → Prop} (h : MI T f M a k C) (t : Tr T f S0 M (a + k) M') : MI T f M' a (k + 1) C ∧ suc T M' a (k + 1) = suc T M a k + 1 := by
  have h0 := h.new0
  have hcn : ∀ q, q ≠ a + k → cnt T.n S0 M' q = cnt T.n S0 M q := fun q hq => by rw [t.cn]; unfold one1; rw [if_neg hq, Nat.add_zero]
  have hz : cnt T.n S0 M' (a + k) = 1 := by rw [t.cn, h0]; unfold one1; rw [if_pos rfl]
  have hcl := t.cl C h.cl
  refine ⟨⟨fun m q hm => ?_, fun q => ?_, fun m hm => ?_, fun i hi h1 m hm => ?_⟩, ?_⟩
  · rcases t.ed m q hm with h1 | ⟨h1, h2⟩
    · have := h.ed m q h1
      exact ⟨⟨this.1.1, by omega⟩, this.2⟩
    · refine ⟨?_, h1⟩
      rcases h2 with rfl | ⟨k', hk'⟩
      · exact ⟨by omega, by omega⟩
      · have := (h.ed k' q hk').1; exact ⟨this.1, by omega⟩
  · by_cases hq : q = a + k
    · rw [hq, hz]; omega
    · rw [hcn q hq]; exact h.c1 q
  · obtain ⟨q, hq, hq2⟩ := h.cl m hm
    exact ⟨q, by rw [hcl.2 m hm]; exact hq, hq2⟩
  · by_cases e : i = k
    · subst e; rw [hz] at h1; omega
    · rw [hcn _ (by omega)] at h1
      exact h.fa i (by omega) h1 m hm
  · rw [suc_succ, suc_same k fun i hi => hcn _ (by omega), hz]; rfl
theorem MI.nay {T : PT} {f : Nat → Bool} {M : Nat → Option Nat} {a k : Nat} {C : Nat → Prop} {S' : Nat → Bool} (h : MI T f M a k C) (t : Fa T f S0 M (a + k) S') : MI T f M a (k + 1) (fun m => C m ∨ S' m = true) ∧ suc T M a (k + 1) = suc T M a k := by
  have h0 := h.new0
  refine ⟨⟨fun m q hm => ?_, h.c1, fun m hm => ?_, fun i hi h1 m hm => ?_⟩, ?_⟩
  · have := h.ed m q hm
    exact ⟨⟨this.1.1, by omega⟩, this.2⟩
  · rcases hm with hm | hm
    · obtain ⟨q, h1, h2⟩ := h.cl m hm
      exact ⟨q, h1, fun m' hm' => .inl (h2 m' hm')⟩
    · obtain ⟨q, h1, h2⟩ := t.cl m hm rfl
      exact ⟨q, h1, fun m' hm' => .inr (h2 m' hm')⟩
  · by_cases e : i = k
    · subst e; exact .inr (t.all m hm)
    · exact .inl (h.fa i (by omega) h1 m hm)
  · rw [suc_succ, h0]; rfl
end Go.Proofs.Ytfaeokcbfnlgbaa.G

/- Prize: somebody is found for a prize, and for others that become free of somebody. -/
set_option linter.unusedSimpArgs false
set_option linter.unusedVariables false
set_option maxRecDepth 20000
namespace Go.Proofs.Ytfaeokcbfnlgbaa.G
open Go.V
/-- Who has which prize. -/
def MapM (s : Hp) (r : Nat) (M : Nat → Option Nat) : Prop := ∃ g, MapI s r g ∧ ∀ m : Nat, g (m : Int) = (M m).map fun (z : Nat) => Value.int .i64 (z : Int)
section
variable {s s' : Hp} {r : Nat} {M : Nat → Option Nat}
theorem MapM.ext (e : Ext s s') (h : MapM s r M) : MapM s' r M := by
  obtain ⟨g, h1, h2⟩ := h
  exact ⟨g, h1.ext e, h2⟩
theorem MapM.kp {D : Nat → Prop} (e : Kp D s s') (hd : ¬ D r) (h : MapM s r M) : MapM s' r M := by
  obtain ⟨g, h1, h2⟩ := h
  exact ⟨g, h1.kp e hd, h2⟩
theorem MapM.new (h : MapI s r (fun _ => none)) : MapM s r (fun _ => none) := ⟨_, h, fun m => rfl⟩
theorem MapM.cell {a : Addr} {v : Value} (h : MapM s r M) (hc : cellAt s a = some v) : a.block ≠ r := by obtain ⟨g, h1, _⟩ := h; exact h1.cell hc
theorem TkN.cell {a : Addr} {v : Value} {F : Nat → Bool} (h : TkN s r F) (hc : cellAt s a = some v) : a.block ≠ r := by obtain ⟨g, h1, _⟩ := h; exact h1.cell hc
theorem MapM.put {m z : Nat} {K : Hp → Prop} (h : MapM s r M) (hk : ∀ s', Kp (· = r) s s' → s'.size = s.size → MapM s' r (updM M m z) → K s') : MUP Pg 117 (.map (some r)) (.int .i64 (m : Nat)) (.int .i64 (z : Nat)) K s := by
  obtain ⟨g, h1, h2⟩ := h
  obtain ⟨e, ht, _⟩ := und_117
  refine MUP_v ht h1 fun s1 k1 z1 m1 => hk s1 k1 z1 ⟨_, m1, fun k => ?_⟩
  unfold updI updM
  by_cases hkm : k = m
  · subst hkm
    rw [if_pos rfl, if_pos rfl]; rfl
  · rw [if_neg (by omega), if_neg hkm]
    exact h2 k
theorem MapM.get {m : Nat} {K : VK} (h : MapM s r M) (h1 : ∀ z, M m = some z → K (.tuple #[.int .i64 (z : Nat), .bool true]) s) (h2 : M m = none → K (.tuple #[.int .i64 0, .bool false]) s) : LKP Pg 117 (.map (some r)) (.int .i64 (m : Nat)) true K s := by
  obtain ⟨g, g1, g2⟩ := h
  obtain ⟨e, ht, hz⟩ := und_117
  refine LKP_v ht hz g1 (fun v hv => ?_) (fun hv => ?_)
  · rw [g2 m] at hv
    cases hM : M m with
    | none => rw [hM] at hv; cases hv
    | some z => rw [hM] at hv; cases hv; exact h1 z hM
  · have hM : M m = none := by
      rw [g2 m] at hv
      cases hM : M m with
      | none => rfl
      | some z => rw [hM] at hv; cases hv
    exact h2 hM
end
/-- Where a search keeps its things. -/
structure Pl where
  a2 : Addr
  a3 : Addr
  a4 : Addr
  a5 : Addr
  a6 : Addr
  rs : Nat
  rp : Nat
def Pl.val (c : Pl) : Value := .func (.func 83) #[] #[.pointer (some c.a2), .pointer (some c.a3), .pointer (some c.a4), .pointer (some c.a5), .pointer (some c.a6)]
structure PlS (s0 : Hp) (p : Addr) (v : Value) (c : Pl) (S : Nat → Bool) (M : Nat → Option Nat) (s : Hp) : Prop where
  ext : Ext s0 s
  c2 : cellAt s c.a2 = some (.pointer (some p))
  c3 : cellAt s c.a3 = some v
  c4 : cellAt s c.a4 = some (.map (some c.rs))
  c5 : cellAt s c.a5 = some (.map (some c.rp))
  c6 : cellAt s c.a6 = some c.val
  seen : TkN s c.rs S
  has : MapM s c.rp M
structure PlA (s0 : Hp) (c : Pl) : Prop where
  ne : c.rs ≠ c.rp
  ls : s0.size ≤ c.rs
  lp : s0.size ≤ c.rp
section
variable {W : World} {s0 s s' : Hp} {p : Addr} {T : PT} {v : Value} {R : Hp → Prop} {f : Nat → Bool} {c : Pl} {S : Nat → Bool} {M : Nat → Option Nat}
theorem PlS.to (e : Ext s s') (h : PlS s0 p v c S M s) : PlS s0 p v c S M s' := ⟨h.ext.trans e, e.cell h.c2, e.cell h.c3, e.cell h.c4, e.cell h.c5, e.cell h.c6, h.seen.ext e, h.has.ext e⟩
theorem PlS.putS {S' : Nat → Bool} (ha : PlA s0 c) (k : Kp (· = c.rs) s s') (ht : TkN s' c.rs S') (h : PlS s0 p v c S M s) : PlS s0 p v c S' M s' :=
  ⟨ext_kp h.ext ha.ls k, k.cell (h.seen.cell h.c2) h.c2, k.cell (h.seen.cell h.c3) h.c3, k.cell (h.seen.cell h.c4) h.c4, k.cell (h.seen.cell h.c5) h.c5, k.cell (h.seen.cell h.c6) h.c6, ht, h.has.kp k (fun e => ha.ne e.symm)⟩
theorem PlS.putM {M' : Nat → Option Nat} (ha : PlA s0 c) (k : Kp (· = c.rp) s s') (ht : MapM s' c.rp M') (h : PlS s0 p v c S M s) : PlS s0 p v c S M' s' :=
  ⟨ext_kp h.ext ha.lp k, k.cell (h.has.cell h.c2) h.c2, k.cell (h.has.cell h.c3) h.c3, k.cell (h.has.cell h.c4) h.c4, k.cell (h.has.cell h.c5) h.c5, k.cell (h.has.cell h.c6) h.c6, h.seen.kp k (fun e => ha.ne e), ht⟩
theorem PlS.set {a : Addr} {x y : Value} (hl : s0.size ≤ a.block) (ho : Own s a x) (hx : ∀ q, x ≠ .pointer q) (hx3 : x ≠ v) (hxm : ∀ q, x ≠ .map q) (hxf : x ≠ c.val) (h : PlS s0 p v c S M s) : PlS s0 p v c S M (setC s a y) := by
  have ne : ∀ {b : Addr} {w : Value}, cellAt s b = some w → x ≠ w → b.block ≠ a.block ∨ b.off ≠ a.off := fun {b w} hb hw => by
    by_cases h1 : b.block = a.block
    · refine .inr fun h2 => hw ?_
      have e : b = a := by
        have h3 := cell_spot hb
        have h4 := cell_spot ho.cell
        cases b; cases a; simp_all
      rw [e, ho.cell] at hb
      exact Option.some.inj hb
    · exact .inl h1
  have k : Kp (· = a.block) s (setC s a y) := Kp.setC (Kp.refl s) (.inl rfl)
  have hs := h.seen.cell ho.cell
  have hh := h.has.cell ho.cell
  exact ⟨Ext.setC h.ext hl, cell_set_ne (ne h.c2 (hx _)) h.c2, cell_set_ne (ne h.c3 hx3) h.c3, cell_set_ne (ne h.c4 (hxm _)) h.c4, cell_set_ne (ne h.c5 (hxm _)) h.c5, cell_set_ne (ne h.c6 hxf) h.c6, h.seen.kp k (fun e => hs e.symm), h.has.kp k (fun e => hh e.symm)⟩
def uns (n : Nat) (S : Nat → Bool) : Nat := ((List.range n).filter fun m => !S m).length
theorem uns_less {n m : Nat} {S S' : Nat → Bool} (hle : ∀ k, S k = true → S' k = true) (hm : m < n) (h1 : S m = false) (h2 : S' m = true) : uns n S' < uns n S := by
  unfold uns
  have key : ∀ l : List Nat, (l.filter fun k => !S' k).length ≤ (l.filter fun k => !S k).length ∧ (m ∈ l → (l.filter fun k => !S' k).length < (l.filter fun k => !S k).length) := by
    intro l
    induction l with
    | nil => exact ⟨Nat.le_refl _, fun h => by cases h⟩
    | cons x l ih =>
      rw [List.filter_cons, List.filter_cons]
      have hx : S' x = false → S x = false := fun h => by
        cases hs : S x with
        | false => rfl
        | true => rw [hle x hs] at h; cases h
      refine ⟨?_, fun hmem => ?_⟩
      · cases h3 : S' x with
        | true => cases h4 : S x <;> simp <;> omega
        | false => rw [hx h3]; simp; omega
      · rcases List.mem_cons.1 hmem with rfl | hmem
        · rw [h1, h2]; simp; omega
        · have := ih.2 hmem
          cases h3 : S' x with
          | true => cases h4 : S x <;> simp <;> omega
          | false => rw [hx h3]; simp; omega
  exact (key (List.range n)).2 (List.mem_range.2 hm)
theorem zc_4 : zc Pg 4 = [.bool false] := by kernel_rfl
theorem c_place (hp : PrO s0 p T) (hf : IsFn W v T.n R f) (hR : R s0) (ha : PlA s0 c) (hv0 : ∀ b, Value.bool b ≠ v) : ∀ (u : Nat) (S : Nat → Bool) (M : Nat → Option Nat) (z : Nat) (s : Hp) (K : VK) (E : List PanicEntry → Hp → Prop), uns T.n S = u → z < T.z → (∀ m q, M m = some q → q < T.z) → PlS s0 p v c S M s →
    (∀ s' (b : Bool) S' M', PlS s0 p v c S' M' s' → Kp (fun b => b = c.rs ∨ b = c.rp) s s' → (b = true → Tr T f S M z M') → (b = false → M' = M ∧ Fa T f S M z S') → K (.bool b) s') →
    CALL Pg W 83 [.int .i64 (z : Nat), .pointer (some c.a2), .pointer (some c.a3), .pointer (some c.a4), .pointer (some c.a5), .pointer (some c.a6)] K E s := by
  have hvd := okP_vd hp.ok
  intro u
  induction u using Nat.strongRecOn with
  | _ u ih =>
  intro S M z s K E hu hz hM hs h
  refine does_prize_prizes_most_c1 W z c.a2 c.a3 c.a4 c.a5 c.a6 _ s ?_
  unfold T_prize_prizes_most_c1
  refine ne1 fun s1 e1 z1 o1 => ?_
  refine nz1 zc_4 fun s2 e2 z2 o2 => ?_
  have hs2 := hs.to (e1.trans e2)
  refine ⟨_, hs2.c2, _, hs2.c3, ?_⟩
  refine c_order hf.one fun s3 a b e3 ga gb ca cb => ?_
  have hs3 := hs2.to e3
  have e03 := e1.trans (e2.trans e3)
  have c7 := (e2.trans e3).cell o1.cell
  have c8 := e3.own o2
  have no : ∀ {q : Addr} {w : Value}, cellAt s3 q = some w → ¬ (q.block = c.rs ∨ q.block = c.rp) := fun hq hh => hh.elim (hs3.seen.cell hq) (hs3.has.cell hq)
  have hs1 : s1.size = s.size + 1 := z1
  have hsz : s.size ≤ s3.size := e03.1
  have kpC : ∀ {t : Hp}, Kp (fun b => b = c.rs ∨ b = c.rp) s3 t → Kp (fun b => b = c.rs ∨ b = c.rp) s t := fun k => e03.kp.trans k
  refine rng_order (p := p) hf (fun k t => ∃ Sk, PlS s0 p v c Sk M t ∧ Kp (fun b => b = c.rs ∨ b = c.rp) s3 t ∧ (∀ m, S m = true → Sk m = true) ∧ (∀ j x, j < k → (ordF T f)[j]? = some x → canP T x z = true → Sk x = true) ∧ (∀ m, Sk m = true → S m = false → ∃ q, M m = some q ∧ ∀ m', Cand T f q m' → Sk m' = true))
    (fun cd t => cd = Code.ret ∧ ∃ S' M', PlS s0 p v c S' M' t ∧ Kp (fun b => b = c.rs ∨ b = c.rp) s t ∧ cellAt t ⟨s1.size, 0, none⟩ = some (.bool true) ∧ Tr T f S M z M') ?_ ?_ ?_ ?_ ?_ ?_
  · rintro k t ⟨Sk, g1, g2, _⟩
    exact ⟨hp.ext g1.ext, g2.cell (no ca) ca, g2.cell (no cb) cb, hf.ext _ _ hR g1.ext⟩
  · rintro k t t' ⟨Sk, g1, g2, g3⟩ e
    exact ⟨Sk, g1.to e, g2.ext e, g3⟩
  · exact ⟨S, hs3, Kp.refl _, fun m h => h, fun j x hj => by omega, fun m h1 h2 => by rw [h1] at h2; cases h2⟩
  · rintro k m hkm hmn t ⟨Sk, g1, g2, g3, g4, g5⟩
    try simp only [TUP_mk, AGG_mk, HD_mk, NL_mk, TYI_mk, TYB_mk, TYP_mk, TYL_mk, TYS_mk, TYM_mk, SO_mk, NX_mk, endK_mk, endK_mk', add_0]
    have c7t := g2.cell (no c7) c7
    have c8t := g2.own (no c8.cell) c8
    have hfm : f m = true := (List.mem_filter.1 (List.mem_of_getElem? hkm)).2
    refine ⟨_, g1.c4, ?_⟩
    refine g1.seen.get ?_
    try simp only [TUP_mk, AGG_mk, HD_mk, NL_mk, TYI_mk, TYB_mk, TYP_mk, TYL_mk, TYS_mk, TYM_mk, SO_mk, NX_mk, endK_mk, endK_mk', add_0]
    -- the man is passed over
    have pass : ∀ t', Ext t t' → (canP T m z = true → Sk m = true) → ∃ Sk, PlS s0 p v c Sk M t' ∧ Kp (fun b => b = c.rs ∨ b = c.rp) s3 t' ∧ (∀ m, S m = true → Sk m = true) ∧ (∀ j x, j < k + 1 → (ordF T f)[j]? = some x → canP T x z = true → Sk x = true) ∧ (∀ m, Sk m = true → S m = false → ∃ q, M m = some q ∧ ∀ m', Cand T f q m' → Sk m' = true) := by
      intro t' e hh
      refine ⟨Sk, g1.to e, g2.ext e, g3, fun j x hj hx hc => ?_, g5⟩
      by_cases ej : j = k
      · subst ej; rw [hkm] at hx; cases hx; exact hh hc
      · exact g4 j x (by omega) hx hc
    refine BR_bool (fun hsk => ?_) (fun hsk => ?_)
    · unfold J_prize_prizes_most_c1_0
      exact BR_tt rfl (pass t (Ext.refl _) (fun _ => hsk))
    refine ⟨_, g1.c2, _, c7t, ?_⟩
    refine c_can (hp.ext g1.ext) hmn hz fun t1 f1 => ?_
    try simp only [TUP_mk, AGG_mk, HD_mk, NL_mk, TYI_mk, TYB_mk, TYP_mk, TYL_mk, TYS_mk, TYM_mk, SO_mk, NX_mk, endK_mk, endK_mk', add_0]
    unfold J_prize_prizes_most_c1_0
    refine BR_not (fun hc => ?_) (fun hc => ?_)
    · exact pass t1 f1 (fun h => by rw [hc] at h; cases h)
    have hS : S m = false := by
      cases h1 : S m with
      | false => rfl
      | true => rw [g3 m h1] at hsk; cases hsk
    have hcand : Cand T f z m := ⟨hmn, hfm, hc⟩
    have g1' := g1.to f1
    refine ⟨_, g1'.c4, ?_⟩
    refine TkN.put g1'.seen fun t2 k2 z2' htk => ?_
    have g6 := g1'.putS ha k2 htk
    have kk2 : Kp (fun b => b = c.rs ∨ b = c.rp) s3 t2 := (g2.ext f1).trans (k2.mono fun b hb => .inl hb)
    have c7u := kk2.cell (no c7) c7
    have c8u := kk2.own (no c8.cell) c8
    generalize hSk2 : (fun k => if k = m then true else Sk k) = Sk2 at *
    have hle2 : ∀ k, Sk k = true → Sk2 k = true := fun k hk => by rw [← hSk2]; show (if k = m then true else Sk k) = true; split <;> first | rfl | exact hk
    have hm2 : Sk2 m = true := by rw [← hSk2]; simp
    -- the man gets the prize
    have give : ∀ t3 S3 M3, PlS s0 p v c S3 M3 t3 → Kp (fun b => b = c.rs ∨ b = c.rp) s3 t3 → Tr T f S M z (updM M3 m z) → (RDM c.a5 fun m32 => RDI .i64 ⟨s.size, 0, none⟩ fun n33 => MUP Pg 117 (.map m32) (.int .i64 (m : Nat)) (.int .i64 n33) <| WR (Addr.add ⟨s1.size, 0, none⟩ 0) (.bool true) <| fun t' => True ∧ ∃ S' M', PlS s0 p v c S' M' t' ∧ Kp (fun b => b = c.rs ∨ b = c.rp) s t' ∧ cellAt t' ⟨s1.size, 0, none⟩ = some (.bool true) ∧ Tr T f S M z M') t3 := by
      intro t3 S3 M3 q1 q2 q3
      refine ⟨_, q1.c5, _, q2.cell (no c7) c7, ?_⟩
      refine MapM.put q1.has fun t4 k4 z4 h4 => ?_
      have q4 := q1.putM ha k4 h4
      have kk4 := q2.trans (k4.mono fun b hb => .inr hb : Kp (fun b => b = c.rs ∨ b = c.rp) t3 t4)
      have c84 := kk4.own (no c8.cell) c8
      refine WR_own c84 rfl ?_
      refine ⟨trivial, S3, updM M3 m z, q4.set (by have := hs.ext.1; show s0.size ≤ s1.size; omega) c84 (by simp) (hv0 _) (by simp) (by unfold Pl.val; simp), ?_, (own_set c84).cell, q3⟩
      exact Kp.setC (kpC kk4) (.inr (by show s.size ≤ s1.size; omega))
    refine ⟨_, g6.c5, ?_⟩
    refine MapM.get g6.has (fun old hold => ?_) (fun hnone => ?_)
    · try simp only [TUP_mk, AGG_mk, HD_mk, NL_mk, TYI_mk, TYB_mk, TYP_mk, TYL_mk, TYS_mk, TYM_mk, SO_mk, NX_mk, endK_mk, endK_mk', add_0]
      refine ⟨_, g6.c6, ?_⟩
      unfold Pl.val
      refine CALLV_func ?_
      have hless : uns T.n Sk2 < u := by
        rw [← hu]
        exact uns_less (fun k hk => hle2 k (g3 k hk)) hmn hS hm2
      refine ih (uns T.n Sk2) hless Sk2 M old t2 _ _ rfl (hM m old hold) hM g6 fun t3 b S3 M3 q1 q2 q3 q4 => ?_
      try simp only [TUP_mk, AGG_mk, HD_mk, NL_mk, TYI_mk, TYB_mk, TYP_mk, TYL_mk, TYS_mk, TYM_mk, SO_mk, NX_mk, endK_mk, endK_mk', add_0]
      have kk3 := kk2.trans q2
      refine BR_bool (fun hb => ?_) (fun hb => ?_)
      · have hT := q3 hb
        exact give t3 S3 M3 q1 kk3 (Tr.next hcand hold hS (fun k hk => hle2 k (g3 k hk)) hm2 hT)
      · obtain ⟨rfl, hFa⟩ := q4 hb
        refine ⟨S3, q1, kk3, fun k hk => hFa.le k (hle2 k (g3 k hk)), fun j x hj hx hcx => ?_, fun k hk hk0 => ?_⟩
        · by_cases ej : j = k
          · subst ej; rw [hkm] at hx; cases hx; exact hFa.le m hm2
          · exact hFa.le x (hle2 x (g4 j x (by omega) hx hcx))
        · by_cases hk2 : Sk2 k = true
          · by_cases ekm : k = m
            · subst ekm
              exact ⟨old, hold, hFa.all⟩
            · have hkk : Sk k = true := by rw [← hSk2] at hk2; simpa [ekm] using hk2
              obtain ⟨q, hq1, hq2⟩ := g5 k hkk hk0
              exact ⟨q, hq1, fun m' hm' => hFa.le m' (hle2 m' (hq2 m' hm'))⟩
          · exact hFa.cl k hk (by cases h3 : Sk2 k with
              | false => rfl
              | true => exact absurd h3 hk2)
    · try simp only [TUP_mk, AGG_mk, HD_mk, NL_mk, TYI_mk, TYB_mk, TYP_mk, TYL_mk, TYS_mk, TYM_mk, SO_mk, NX_mk, endK_mk, endK_mk', add_0]
      refine BR_tt rfl ?_
      exact give t2 Sk2 M g6 kk2 (Tr.free (S2 := S) hcand hnone hS)
  · rintro t ⟨Sk, g1, g2, g3, g4, g5⟩
    have c8t := g2.own (no c8.cell) c8
    refine WR_own c8t rfl ?_
    refine ⟨_, (own_set c8t).cell, ?_⟩
    refine h _ false Sk M (g1.set (by have := hs.ext.1; show s0.size ≤ s1.size; omega) c8t (by simp) (hv0 _) (by simp) (by unfold Pl.val; simp)) (Kp.setC (kpC g2) (.inr (by show s.size ≤ s1.size; omega))) (fun hh => by cases hh) (fun _ => ⟨rfl, g3, fun m hm => ?_, g5⟩)
    have hmem : m ∈ ordF T f := List.mem_filter.2 ⟨(ord_mem hvd).2 hm.1, hm.2.1⟩
    obtain ⟨j, hj, e⟩ := List.mem_iff_getElem.1 hmem
    exact g4 j m hj (by rw [List.getElem?_eq_getElem hj, e]) hm.2.2
  · rintro cd t ⟨rfl, S', M', g1, g2, g3, g4⟩
    exact ⟨_, g3, h t true S' M' g1 g2 (fun _ => g4) (fun hh => by cases hh)⟩
end
end Go.Proofs.Ytfaeokcbfnlgbaa.G

/- Prize: how many prizes can be given. -/
set_option linter.unusedSimpArgs false
set_option linter.unusedVariables false
set_option maxRecDepth 20000
namespace Go.Proofs.Ytfaeokcbfnlgbaa.G
open Go.V
theorem zc_117 : zc Pg 117 = [.map none] := by kernel_rfl
theorem zc_88 : zc Pg 88 = [.map none] := by kernel_rfl
theorem zc_62 : zc Pg 62 = [.nilFunc] := by kernel_rfl
section
variable {W : World} {K : VK} {E : List PanicEntry → Hp → Prop} {s : Hp} {p : Addr} {T : PT} {v : Value} {R : Hp → Prop} {f : Nat → Bool}
theorem suc_le (T : PT) (M : Nat → Option Nat) (a k : Nat) : suc T M a k ≤ k := by
  unfold suc
  exact Nat.le_trans (List.length_filter_le _ _) (by simp)
theorem c_most {a : Nat} (hp : PrO s p T) (hf : IsFn W v T.n R f) (hR : R s) (hv0 : ∀ b, Value.bool b ≠ v) (ha : a ≤ T.z) (h : ∀ s', Ext s s' → K (.int .i64 (optN T (T.z - a) a f : Nat)) s') :
    CALL Pg W F_prize_prizes_most [.pointer (some p), .int .i64 (a : Nat), v] K E s := by
  have hvd := okP_vd hp.ok
  have h6 := hvd.z6
  refine does_prize_prizes_most W (some p) a v _ s ?_
  unfold T_prize_prizes_most
  refine ne1 fun s1 e1 z1 o1 => ?_
  unfold ONE
  rw [hf.one]
  refine ne1 fun s2 e2 z2 o2 => ?_
  refine MKM_rule fun s3 e3 z3 m3 => ?_
  refine nw1 zc_117 rfl fun s4 e4 z4 o4 => ?_
  have e14 := e2.trans (e3.trans e4)
  have e04 := e1.trans e14
  refine L_prize_prizes_most_0_rule W _ ⟨s.size, 0, none⟩ ⟨s1.size, 0, none⟩ ⟨s3.size, 0, none⟩ (fun n8 n9 t => Ext s t ∧ cellAt t ⟨s.size, 0, none⟩ = some (.pointer (some p)) ∧ cellAt t ⟨s1.size, 0, none⟩ = some v ∧ cellAt t ⟨s3.size, 0, none⟩ = some (.map (some s2.size)) ∧ ∃ k M C, k ≤ T.z - a ∧ n9 = ((a + k : Nat) : Int) ∧ n8 = (suc T M a k : Nat) ∧ MapM t s2.size M ∧ MI T f M a k C)
    (fun _ n9 _ => (T.z - n9).toNat) 0 a s4 ⟨e04, e14.cell o1.cell, (e3.trans e4).cell o2.cell, o4.cell, 0, _, _, by omega, rfl, rfl, (MapM.new m3).ext e4, MI.zero T f a⟩ ?_
  rintro n8 n9 t ⟨et, c2, c3, c5, k, M, C, hk, rfl, rfl, hmp, hmi⟩
  unfold B_prize_prizes_most_0
  obtain ⟨y, cy, y1, y2⟩ := (hp.ext et).lst
  refine ⟨_, c2, _, _, _, y1, ?_⟩
  refine BR_dec (fun hlt => ?_) (fun hlt => ?_)
  · have hz : a + k < T.z := by omega
    generalize hnx : (fun vs : List Value => _) = nx
    refine MKM_rule fun t1 f1 y1' m1 => ?_
    refine nw1 zc_88 rfl fun t2 f2 y2' q2 => ?_
    refine nz1 zc_62 fun t2b f2b y2b q2b => ?_
    refine wr1 (a := ⟨t2.size, 0, none⟩) q2b rfl fun t3 k3 y3' q3 => ?_
    have f3 : Ext t2 t3 := ext_kp f2b (Nat.le_refl _) k3
    refine ⟨_, q3.cell, ?_⟩
    have f23 := f2.trans f3
    have f13 := f1.trans f23
    let c : Pl := ⟨⟨s.size, 0, none⟩, ⟨s1.size, 0, none⟩, ⟨t1.size, 0, none⟩, ⟨s3.size, 0, none⟩, ⟨t2.size, 0, none⟩, t.size, s2.size⟩
    have hlt2 : s2.size < t.size := by obtain ⟨g, g1, _⟩ := hmp; exact g1.lt
    have hA : PlA s c := ⟨by show t.size ≠ s2.size; omega, et.1, by show s.size ≤ s2.size; have := (e1.trans e2).1; omega⟩
    have hs : PlS s p v c S0 M t3 := ⟨et.trans f13, f13.cell c2, f13.cell c3, f3.cell q2.cell, f13.cell c5, q3.cell, (TkN.new m1).ext f23, hmp.ext f13⟩
    refine CALLV_func ?_
    refine c_place (c := c) hp hf hR hA hv0 (uns T.n S0) S0 M (a + k) t3 _ _ rfl hz (fun m q hm => by have := (hmi.ed m q hm).1; omega) hs fun t4 b S' M' g1 g2 g3 g4 => ?_
    try simp only [TUP_mk, AGG_mk, HD_mk, NL_mk, TYI_mk, TYB_mk, TYP_mk, TYL_mk, TYS_mk, TYM_mk, SO_mk, NX_mk, endK_mk, endK_mk', add_0]
    have hle := suc_le T M a k
    have hms : (T.z - (IntKind.i64.wrap (((a + k : Nat) : Int) + 1))).toNat < ((T.z : Int) - ((a + k : Nat) : Int)).toNat := by rw [wrap_succ (by omega)]; omega
    rw [← hnx]
    refine BR_bool (fun hb => ?_) (fun hb => ?_)
    · obtain ⟨r1, r2⟩ := hmi.yes (g3 hb)
      refine ⟨_, _, rfl, ⟨g1.ext, g1.c2, g1.c3, g1.c5, k + 1, M', C, by omega, ?_, ?_, g1.has, r1⟩, hms⟩
      · rw [wrap_succ (by omega)]; rfl
      · rw [r2, wrap_succ (by omega)]
    · obtain ⟨rfl, hF⟩ := g4 hb
      obtain ⟨r1, r2⟩ := hmi.nay hF
      refine ⟨_, _, rfl, ⟨g1.ext, g1.c2, g1.c3, g1.c5, k + 1, M', _, by omega, ?_, ?_, g1.has, r1⟩, hms⟩
      · rw [wrap_succ (by omega)]; rfl
      · rw [r2]
  · have hkz : k = T.z - a := by omega
    subst hkz
    rw [suc_opt hmi]
    exact h t et
end
end Go.Proofs.Ytfaeokcbfnlgbaa.G

/- Prize: Most. -/
set_option linter.unusedSimpArgs false
set_option linter.unusedVariables false
set_option maxRecDepth 20000
namespace Go.Proofs.Ytfaeokcbfnlgbaa.G
open Go.V
/-- The first giving with the most prizes, of so many from one on. -/
def bestG (T : PT) : Nat → Nat → (Nat → Bool) → List (Option Nat)
  | 0, _, _ => []
  | r + 1, z, f => if optN T r (z + 1) f = optN T (r + 1) z f then none :: bestG T r (z + 1) f else
    match (candL T f z).find? fun m => decide (1 + optN T r (z + 1) (less f m) = optN T (r + 1) z f) with
    | some m => some m :: bestG T r (z + 1) (less f m)
    | none => none :: bestG T r (z + 1) f
def allF : Nat → Bool := fun _ => true
def mostR (T : PT) : Int × List Int × Int := if okP T then ((optN T T.z 0 allF : Nat), manL (bestG T T.z 0 allF), 0) else (0, [], 1)
theorem bestG_len (T : PT) : ∀ (r z : Nat) (f : Nat → Bool), (bestG T r z f).length = r
  | 0, _, _ => rfl
  | r + 1, z, f => by
    unfold bestG
    split
    · simp [bestG_len T r]
    · split <;> simp [bestG_len T r]
theorem opt_le (T : PT) : ∀ (r z : Nat) (f : Nat → Bool), optN T r z f ≤ r
  | 0, _, _ => Nat.le_refl _
  | r + 1, z, f => by
    rcases opt_or (T := T) (r := r) (z := z) (f := f) with h | ⟨m, _, h⟩
    · have := opt_le T r (z + 1) f; omega
    · have := opt_le T r (z + 1) (less f m); omega
theorem less_F {F : Nat → Bool} {m : Nat} : (fun k => !(if k = m then true else F k)) = less (fun k => !F k) m := by
  funext k
  unfold less
  by_cases h : k = m
  · rw [if_pos h, decide_eq_true h]; simp
  · rw [if_neg h, decide_eq_false h]; simp
theorem back_F {F : Nat → Bool} {m : Nat} (h : F m = false) : (fun k => if k = m then false else (if k = m then true else F k)) = F := by
  funext k
  by_cases hk : k = m
  · rw [if_pos hk, hk, h]
  · rw [if_neg hk, if_neg hk]
section
variable {W : World} {K : VK} {E : List PanicEntry → Hp → Prop} {s : Hp} {p : Addr} {T : PT}
theorem c_Most {x y : Option Addr} {c c' : Nat} (hx : MnAt s x T.men) (hy : PzAt s y T.list) (h : ∀ s' q cq, Ext s s' → Fr s.size s' q (mostR T).2.1.length cq 1 (ints (mostR T).2.1) → K (.tuple #[.int .i64 (mostR T).1, .slice q (mostR T).2.1.length cq, .int .i64 (mostR T).2.2]) s') :
    CALL Pg W F_prize_Most [.agg #[.slice x T.n c, .slice y T.z c']] K E s := by
  refine does_prize_Most W x T.n c y T.z c' _ s ?_
  unfold T_prize_Most
  refine ne2 fun s1 e1 z1 o1 o2 => ?_
  refine nz1 zc_29 fun s2 e2 z2 o3 => ?_
  have e02 := e1.trans e2
  refine ⟨_, _, _, e2.cell o1.cell, _, _, _, e2.cell o2.cell, ?_⟩
  have hs1 : s.size ≤ s1.size := e1.1
  refine c_open (hx.ext e02) (hy.ext e02) (fun hok s3 p e3 hp => ?_) (fun hok s3 e3 => ?_)
  · try simp only [TUP_mk, AGG_mk, HD_mk, NL_mk, TYI_mk, TYB_mk, TYP_mk, TYL_mk, TYS_mk, TYM_mk, SO_mk, NX_mk, endK_mk, endK_mk', add_0]
    have e03 := e02.trans e3
    have hs3 : s1.size < s3.size := by have := e3.1; omega
    have hvd := okP_vd hok
    have h6 := hvd.z6
    have h8 := hvd.n8
    refine MKM_rule fun s4 e4 z4 m4 => ?_
    have hR : mostR T = (((optN T T.z 0 allF : Nat) : Int), manL (bestG T T.z 0 allF), 0) := by unfold mostR; rw [if_pos hok]
    refine c_most (a := 0) (hp.ext e4) isLeft (TkN.new m4) (fun b => by simp) (by omega) fun s5 e5 => ?_
    try simp only [TUP_mk, AGG_mk, HD_mk, NL_mk, TYI_mk, TYB_mk, TYP_mk, TYL_mk, TYS_mk, TYM_mk, SO_mk, NX_mk, endK_mk, endK_mk', add_0]
    refine NEW_rule fun s6 e6 z6 _ _ => ?_
    have e46 := e5.trans e6
    have e36 := e4.trans e46
    obtain ⟨l, cl, l1, l2⟩ := (hp.ext e36).lst
    refine ⟨_, _, _, l1, ?_⟩
    rw [Nat.sub_zero]
    have hall : (fun m : Nat => !(fun _ : Nat => false) m) = allF := rfl
    rw [hall]
    have hlen : (mostR T).2.1.length = T.z := by rw [hR]; unfold manL; simp [bestG_len]
    have hs43 : s3.size < s4.size := by omega
    refine L_prize_Most_0_rule W _ (optN T T.z 0 allF : Nat) ⟨s1.size, 0, none⟩ (some p) (some s3.size) T.z (fun qx ql qc n32 n33 t => Ext s3 t ∧ ∃ z F L, z ≤ T.z ∧ n33 = ((z : Nat) : Int) ∧ n32 = (optN T (T.z - z) z (fun m => !F m) : Nat) ∧ TkN t s3.size F ∧ L.length = z ∧ L ++ bestG T (T.z - z) z (fun m => !F m) = bestG T T.z 0 allF ∧ Fr s3.size t qx ql qc 1 (ints (manL L)) ∧ ∀ y, qx = some y → y.block ≠ s3.size)
      (fun _ _ _ _ n33 _ => (T.z - n33).toNat) (some ⟨s5.size, 0, none⟩) 0 0 (optN T T.z 0 allF : Nat) 0 s6
      ⟨e36, 0, fun _ => false, [], by omega, rfl, rfl, (TkN.new m4).ext e46, rfl, rfl, ⟨⟨Nat.le_refl _, fun i hi => by omega⟩, rfl, fun a ha => by cases ha; show s3.size ≤ s5.size; have := e5.1; omega, by omega⟩, fun y hy => by cases hy; show s5.size ≠ s3.size; have := e5.1; omega⟩ ?_
    rintro qx ql qc n32 n33 t ⟨et, z, F, L, hz, rfl, rfl, htk, hLl, hL, hfr, hqx⟩
    unfold B_prize_Most_0
    have hql : ql = z := by have := hfr.len; rw [ints_len] at this; unfold manL at this; rw [List.length_map] at this; omega
    have oB := et.own (e3.own o3)
    refine BR_dec (fun hlt => ?_) (fun hlt => ?_)
    · have hzz : z < T.z := by omega
      obtain ⟨r, hr⟩ : ∃ r, T.z - z = r + 1 := ⟨T.z - z - 1, by omega⟩
      rw [hr] at hL ⊢
      have hr' : T.z - (z + 1) = r := by omega
      generalize hf : (fun m => !F m) = f at *
      have hF : ∀ m, F m = !f m := fun m => by rw [← hf]; simp
      have hole := opt_le T (r + 1) z f
      rw [wrap_succ (by omega)]
      generalize hnx : (fun vs : List Value => _) = nx
      -- somebody, or nobody, gets it
      have app : ∀ t' (o : Option Nat) (F' : Nat → Bool) (w : Int), Ext s3 t' → TkN t' s3.size F' → Fr s3.size t' qx ql qc 1 (ints (manL L)) → (L ++ [o]) ++ bestG T r (z + 1) (fun m => !F' m) = bestG T T.z 0 allF → w = (optN T r (z + 1) (fun m => !F' m) : Nat) →
          (NEW 3 [(.int .i64 (manI o))] fun B57 => APP Pg 3 1 qx ql qc (some ⟨B57, 0, none⟩) 1 fun x58 l59 c60 => nx [(.slice x58 l59 c60), (.int .i64 w), (.int .i64 ((z + 1 : Nat) : Int))]) t' := by
        intro t' o F' w et' htk' hfr' hL' hw
        refine ne1 fun t3 e3' z3' q3 => ?_
        have et3 := et'.trans e3'
        refine APP_fr (lo := s3.size) (hfr'.ext e3') et3.1 (ws := [.int .i64 (manI o)]) (fun i hi => ⟨⟨t'.size, 0, none⟩, rfl, ?_⟩) rfl zc_3 rfl (by omega) (by simp [oneCell]) (by omega) fun t4 x4 c4 k4 hx4 g4 => ?_
        · have hi0 : i = 0 := by simp at hi; omega
          subst hi0; exact q3.cell
        have e4' : Ext s3 t4 := kp_nil et3 (fun b hb => by obtain ⟨y, hy, rfl⟩ := hb; exact hfr'.fr y hy) k4
        rw [← hnx]
        refine ⟨_, _, _, _, _, rfl, ⟨e4', z + 1, F', L ++ [o], hzz, rfl, by rw [hr']; exact hw, ?_, by simp [hLl], by rw [hr']; exact hL', ?_, fun y hy => ?_⟩, ?_⟩
        · refine (htk'.ext e3').kp k4 (fun hb => ?_)
          obtain ⟨y, hy, hyb⟩ := hb
          exact hqx y hy hyb
        · rw [manL_app, ints_app]; exact g4
        · rcases hx4 y hy with ⟨y', hy', hyb⟩ | hyb
          · rw [← hyb]; exact hqx y' hy'
          · have := e3'.1; have := htk'.lt; omega
        · show ((T.z : Int) - ((z + 1 : Nat) : Int)).toNat < ((T.z : Int) - (z : Int)).toNat
          omega
      refine c_most (a := z + 1) (hp.ext et) isLeft htk (fun b => by simp) (by omega) fun t1 f1 => ?_
      try simp only [TUP_mk, AGG_mk, HD_mk, NL_mk, TYI_mk, TYB_mk, TYP_mk, TYL_mk, TYS_mk, TYM_mk, SO_mk, NX_mk, endK_mk, endK_mk', add_0]
      rw [hf, hr']
      have et1 := et.trans f1
      refine BR_dec (fun h1 => ?_) (fun h1 => ?_)
      · have hne : ¬ optN T r (z + 1) f = optN T (r + 1) z f := by omega
        have hG : bestG T (r + 1) z f = (match (candL T f z).find? fun m => decide (1 + optN T r (z + 1) (less f m) = optN T (r + 1) z f) with
          | some m => some m :: bestG T r (z + 1) (less f m)
          | none => none :: bestG T r (z + 1) f) := by conv => lhs; unfold bestG; rw [if_neg hne]
        obtain ⟨mx, mc, mm1, mm2⟩ := (hp.ext et1).men
        refine ⟨_, _, _, mm1, ?_⟩
        have hopt : 1 ≤ optN T (r + 1) z f := by omega
        have hw1 : IntKind.i64.wrap (((optN T (r + 1) z f : Nat) : Int) - 1) = ((optN T (r + 1) z f - 1 : Nat) : Int) := by rw [wrap_i64 (by omega) (by omega)]; omega
        refine L_prize_Most_1_rule W _ nx (optN T T.z 0 allF : Nat) qx ql qc ⟨s1.size, 0, none⟩ (some p) (some s3.size) (optN T (r + 1) z f : Nat) z T.z T.n (fun n47 n48 t' => Ext s3 t' ∧ n47 = -1 ∧ ∃ k : Nat, k ≤ T.n ∧ n48 = k ∧ TkN t' s3.size F ∧ Fr s3.size t' qx ql qc 1 (ints (manL L)) ∧ ∀ j, j < k → Cand T f z j → 1 + optN T r (z + 1) (less f j) ≠ optN T (r + 1) z f) (fun _ n48 _ => (T.n - n48).toNat) (-1) 0 t1
          ⟨et1, rfl, 0, by omega, rfl, htk.ext f1, hfr.ext f1, fun j hj => by omega⟩ ?_
        rintro n47 n48 t2 ⟨et2, rfl, k, hk, rfl, htk2, hfr2, hno⟩
        unfold B_prize_Most_1
        refine BR_dec (fun h2 => ?_) (fun h2 => ?_)
        · have hkn : k < T.n := by omega
          generalize hnx1 : (fun vs : List Value => N_prize_Most_1 _ _ _ _ _ vs) = nx1
          have next : ∀ t', Ext s3 t' → TkN t' s3.size F → Fr s3.size t' qx ql qc 1 (ints (manL L)) → (Cand T f z k → 1 + optN T r (z + 1) (less f k) ≠ optN T (r + 1) z f) → J_prize_Most_0 W (endK K E) (optN T T.z 0 allF : Nat) qx ql qc ⟨s1.size, 0, none⟩ (some p) (some s3.size) (optN T (r + 1) z f : Nat) z T.z T.n nx1 (-1) k t' := by
            intro t' a1 a2 a3 a4
            unfold J_prize_Most_0
            rw [← hnx1]
            refine ⟨rfl, _, _, rfl, ⟨a1, rfl, k + 1, hkn, wrap_succ (by omega), a2, a3, fun j hj hc => ?_⟩, ms_succ hkn (by omega)⟩
            by_cases e : j = k
            · subst e; exact a4 hc
            · exact hno j (by omega) hc
          refine c_left htk2 ?_
          try simp only [TUP_mk, AGG_mk, HD_mk, NL_mk, TYI_mk, TYB_mk, TYP_mk, TYL_mk, TYS_mk, TYM_mk, SO_mk, NX_mk, endK_mk, endK_mk', add_0]
          refine BR_not (fun h3 => ?_) (fun h3 => ?_)
          · unfold J_prize_Most_1
            refine BR_tt rfl (next t2 et2 htk2 hfr2 fun hc => ?_)
            have : f k = true := hc.2.1
            rw [hF, this] at h3; cases h3
          · have hfk : f k = true := by rw [hF] at h3; simpa using h3
            have hFk : F k = false := by rw [hF, hfk]; rfl
            refine c_can (hp.ext et2) hkn hzz fun t3 f3 => ?_
            try simp only [TUP_mk, AGG_mk, HD_mk, NL_mk, TYI_mk, TYB_mk, TYP_mk, TYL_mk, TYS_mk, TYM_mk, SO_mk, NX_mk, endK_mk, endK_mk', add_0]
            have et3 := et2.trans f3
            unfold J_prize_Most_1
            refine BR_not (fun h4 => ?_) (fun h4 => ?_)
            · refine next t3 et3 (htk2.ext f3) (hfr2.ext f3) fun hc => ?_
              rw [hc.2.2] at h4; cases h4
            · have hcand : Cand T f z k := ⟨hkn, hfk, h4⟩
              refine TkN.put (htk2.ext f3) fun t4 k4 z4' htk4 => ?_
              have et4 := ext_kp et3 (Nat.le_refl _) k4
              rw [wrap_succ (by omega)]
              refine c_most (a := z + 1) (hp.ext et4) isLeft htk4 (fun b => by simp) (by omega) fun t5 f5 => ?_
              try simp only [TUP_mk, AGG_mk, HD_mk, NL_mk, TYI_mk, TYB_mk, TYP_mk, TYL_mk, TYS_mk, TYM_mk, SO_mk, NX_mk, endK_mk, endK_mk', add_0]
              have hl : (fun m => !(if m = k then true else F m)) = less f k := by rw [less_F, hf]
              rw [hl, hr', hw1]
              have et5 := et4.trans f5
              have hfr5 := ((hfr2.ext f3).kp k4 (fun y hy => hqx y hy)).ext f5
              refine BR_eq (fun h5 => ?_) (fun h5 => ?_)
              · have h5' : 1 + optN T r (z + 1) (less f k) = optN T (r + 1) z f := by omega
                have hfind : (candL T f z).find? (fun m => decide (1 + optN T r (z + 1) (less f m) = optN T (r + 1) z f)) = some k := by
                  unfold candL
                  rw [List.find?_filter]
                  refine find_at (k := k) (List.getElem?_range hkn) ?_ fun j x hj hx => ?_
                  · rw [hfk, h4]; simp [h5']
                  · have : x = j := by rw [List.getElem?_range (by omega)] at hx; exact (Option.some.inj hx).symm
                    subst this
                    rw [decide_eq_false_iff_not]
                    rintro ⟨hc1, hc2⟩
                    simp only [Bool.and_eq_true] at hc1
                    exact hno x hj ⟨by omega, hc1.1, hc1.2⟩ (of_decide_eq_true hc2)
                have := app t5 (some k) _ ((optN T (r + 1) z f - 1 : Nat) : Int) et5 (htk4.ext f5) hfr5 (by
                  rw [hl, ← hL, hG, hfind]
                  simp) (by rw [hl]; omega)
                exact this
              · refine TkN.put (htk4.ext f5) fun t6 k6 z6' htk6 => ?_
                rw [back_F hFk] at htk6
                refine next t6 (ext_kp et5 (Nat.le_refl _) k6) htk6 (hfr5.kp k6 (fun y hy => hqx y hy)) fun _ => by omega
        · exfalso
          have hkn : k = T.n := by omega
          subst hkn
          rcases opt_or (T := T) (r := r) (z := z) (f := f) with he | ⟨m, hm, he⟩
          · exact hne he.symm
          · exact hno m hm.1 hm he.symm
      · have he : optN T r (z + 1) f = optN T (r + 1) z f := by have := opt_none (T := T) (r := r) (z := z) (f := f); omega
        have hG : bestG T (r + 1) z f = none :: bestG T r (z + 1) f := by conv => lhs; unfold bestG; rw [if_pos he]
        have := app t1 none F ((optN T (r + 1) z f : Nat) : Int) et1 (htk.ext f1) (hfr.ext f1) (by
          rw [hf, ← hL, hG]
          simp) (by rw [hf, he])
        exact this
    · have hzz : z = T.z := by omega
      subst hzz
      have hL' : L = bestG T T.z 0 allF := by rw [Nat.sub_self] at hL; rw [← hL]; exact (List.append_nil _).symm
      refine ep_ok oB fun t5 k5 => ?_
      have := h t5 qx qc (ext_kp (e03.trans et) hs1 k5)
      rw [hlen, hR] at this
      subst hql
      rw [hL'] at hfr
      have e03t : s.size ≤ s3.size := e03.1
      exact this ((hfr.le e03t).kp k5 (fun a ha hb => by have := hfr.fr a ha; have : a.block = s1.size := hb; omega))
  · try simp only [TUP_mk, AGG_mk, HD_mk, NL_mk, TYI_mk, TYB_mk, TYP_mk, TYL_mk, TYS_mk, TYM_mk, SO_mk, NX_mk, endK_mk, endK_mk', add_0]
    refine ep_err (e3.own o3) fun s5 k5 => ?_
    have := h s5 none 0 (ext_kp (e02.trans e3) hs1 k5)
    unfold mostR at this
    rw [hok] at this
    exact this (Fr.nil _ _ _)
end
end Go.Proofs.Ytfaeokcbfnlgbaa.G

/- Prize: plain: the first of the best, found one after the other. -/
set_option linter.unusedSimpArgs false
set_option linter.unusedVariables false
set_option maxRecDepth 20000
namespace Go.Proofs.Ytfaeokcbfnlgbaa.G
open Go.V
theorem find_congr {α : Type} {p q : α → Bool} : ∀ {l : List α}, (∀ x ∈ l, p x = q x) → l.find? p = l.find? q
  | [], _ => rfl
  | x :: l, h => by
    rw [List.find?_cons, List.find?_cons, h x (by simp), find_congr (fun y hy => h y (by simp [hy]))]
theorem legit_mono {T : PT} {r z : Nat} {f : Nat → Bool} {g : List (Option Nat)} (h : Legit T r z f g) : ∀ f' : Nat → Bool, (∀ m, f m = true → f' m = true) → Legit T r z f' g := by
  induction h with
  | nil z f => intro f' _; exact .nil z f'
  | none h ih => intro f' hf; exact .none (ih f' hf)
  | some hc h ih =>
    intro f' hf
    refine .some ⟨hc.1, hf _ hc.2.1, hc.2.2⟩ (ih _ fun m hm => ?_)
    unfold less at hm ⊢
    simp only [Bool.and_eq_true] at hm ⊢
    exact ⟨hf m hm.1, hm.2⟩
theorem opt_mono {T : PT} {r z : Nat} {f f' : Nat → Bool} (hf : ∀ m, f m = true → f' m = true) : optN T r z f ≤ optN T r z f' := by
  obtain ⟨g, h1, h2⟩ := legit_opt T r z f
  rw [← h2]
  exact legit_le (legit_mono h1 f' hf)
theorem opt_less {T : PT} {r z m : Nat} {f : Nat → Bool} : optN T r z (less f m) ≤ optN T r z f := opt_mono fun k hk => by
  unfold less at hk
  simp only [Bool.and_eq_true] at hk
  exact hk.1
theorem many_cons (o : Option Nat) (g : List (Option Nat)) : many (o :: g) = (if o.isSome then 1 else 0) + many g := by
  unfold many
  cases o with
  | none => simp
  | some m => simp [Nat.add_comm]
theorem many_app (a b : List (Option Nat)) : many (a ++ b) = many a + many b := by
  unfold many; rw [List.filter_append, List.length_append]
theorem bestG_many (T : PT) : ∀ (r z : Nat) (f : Nat → Bool), many (bestG T r z f) = optN T r z f
  | 0, _, _ => rfl
  | r + 1, z, f => by
    unfold bestG
    by_cases h : optN T r (z + 1) f = optN T (r + 1) z f
    · rw [if_pos h, many_cons, bestG_many T r]
      simp only [Option.isSome_none, Bool.false_eq_true, if_false]
      omega
    · rw [if_neg h]
      split
      · rename_i m hm
        have := List.find?_some hm
        have := of_decide_eq_true this
        rw [many_cons, bestG_many T r]
        simpa using this
      · rename_i hn
        exfalso
        rcases opt_or (T := T) (r := r) (z := z) (f := f) with h1 | ⟨m, h1, h2⟩
        · exact h h1.symm
        · have := List.find?_eq_none.1 hn m (cand_mem.2 h1)
          exact this (decide_eq_true h2.symm)
/-- As far as to somebody. -/
def candT (T : PT) (f : Nat → Bool) (z j : Nat) : List Nat := (List.range j).filter fun m => f m && canP T m z
def stG (T : PT) (r z : Nat) (f : Nat → Bool) (j : Nat) : List (Option Nat) :=
  match (candT T f z j).find? fun m => decide (optN T r (z + 1) f < 1 + optN T r (z + 1) (less f m)) with
  | some m => some m :: bestG T r (z + 1) (less f m)
  | none => none :: bestG T r (z + 1) f
theorem stG_zero (T : PT) (r z : Nat) (f : Nat → Bool) : stG T r z f 0 = none :: bestG T r (z + 1) f := rfl
theorem stG_len (T : PT) (r z : Nat) (f : Nat → Bool) (j : Nat) : (stG T r z f j).length = r + 1 := by
  unfold stG
  split <;> simp [bestG_len]
theorem stG_full (T : PT) (r z : Nat) (f : Nat → Bool) : stG T r z f T.n = bestG T (r + 1) z f := by
  unfold stG
  have hc : candT T f z T.n = candL T f z := rfl
  rw [hc]
  show _ = (if optN T r (z + 1) f = optN T (r + 1) z f then none :: bestG T r (z + 1) f else _)
  by_cases h : optN T r (z + 1) f = optN T (r + 1) z f
  · rw [if_pos h]
    have : (candL T f z).find? (fun m => decide (optN T r (z + 1) f < 1 + optN T r (z + 1) (less f m))) = none := by
      rw [List.find?_eq_none]
      intro m hm
      have := opt_some (r := r) (cand_mem.1 hm)
      simp only [decide_eq_true_eq]
      omega
    rw [this]
  · rw [if_neg h]
    have hmax : optN T (r + 1) z f = 1 + optN T r (z + 1) f := by
      rcases opt_or (T := T) (r := r) (z := z) (f := f) with h1 | ⟨m, h1, h2⟩
      · exact absurd h1.symm h
      · have h3 := opt_less (T := T) (r := r) (z := z + 1) (m := m) (f := f)
        have h4 := opt_none (T := T) (r := r) (z := z) (f := f)
        omega
    have : (candL T f z).find? (fun m => decide (optN T r (z + 1) f < 1 + optN T r (z + 1) (less f m))) = (candL T f z).find? (fun m => decide (1 + optN T r (z + 1) (less f m) = optN T (r + 1) z f)) := by
      refine find_congr fun m hm => ?_
      have := opt_less (T := T) (r := r) (z := z + 1) (m := m) (f := f)
      rw [decide_eq_decide]
      omega
    rw [this]
    all_goals
      cases hq : (candL T f z).find? (fun m => decide (1 + optN T r (z + 1) (less f m) = optN T (r + 1) z f)) with
      | some m => rfl
      | none =>
        exfalso
        rcases opt_or (T := T) (r := r) (z := z) (f := f) with h1 | ⟨m, h1, h2⟩
        · exact h h1.symm
        · exact (List.find?_eq_none.1 hq m (cand_mem.2 h1)) (decide_eq_true h2.symm)
theorem candT_succ (T : PT) (f : Nat → Bool) (z j : Nat) : candT T f z (j + 1) = candT T f z j ++ (if f j && canP T j z then [j] else []) := by
  unfold candT
  rw [List.range_succ, List.filter_append]
  congr 1
  cases h : (f j && canP T j z) <;> simp [List.filter, h]
theorem stG_no {T : PT} {r z j : Nat} {f : Nat → Bool} (h : (f j && canP T j z) = false) : stG T r z f (j + 1) = stG T r z f j := by
  unfold stG
  rw [candT_succ, h]
  simp
/-- One more is looked at: it is taken just if it gives more. -/
theorem stG_succ {T : PT} {r z j : Nat} {f : Nat → Bool} (h : (f j && canP T j z) = true) : stG T r z f (j + 1) = if many (some j :: bestG T r (z + 1) (less f j)) > many (stG T r z f j) then some j :: bestG T r (z + 1) (less f j) else stG T r z f j := by
  unfold stG
  rw [candT_succ, if_pos h, List.find?_append]
  cases hq : (candT T f z j).find? (fun m => decide (optN T r (z + 1) f < 1 + optN T r (z + 1) (less f m))) with
  | some m =>
    simp only [Option.some_or]
    have h1 : optN T r (z + 1) f < 1 + optN T r (z + 1) (less f m) := by simpa using List.find?_some hq
    have h2 := opt_less (T := T) (r := r) (z := z + 1) (m := j) (f := f)
    rw [if_neg]
    rw [many_cons, many_cons, bestG_many, bestG_many]
    simp only [Option.isSome_some, if_true]
    omega
  | none =>
    simp only [Option.none_or]
    by_cases h3 : optN T r (z + 1) f < 1 + optN T r (z + 1) (less f j)
    · rw [List.find?_cons, decide_eq_true h3, if_pos]
      rw [many_cons, many_cons, bestG_many, bestG_many]
      simp only [Option.isSome_some, Option.isSome_none, Bool.false_eq_true, if_true, if_false]
      omega
    · rw [List.find?_cons, decide_eq_false h3, if_neg]
      · rfl
      rw [many_cons, many_cons, bestG_many, bestG_many]
      simp only [Option.isSome_some, Option.isSome_none, Bool.false_eq_true, if_true, if_false]
      omega
/-- Who is free, beside those who have prizes. -/
def freeG (b : List (Option Nat)) : Nat → Bool := fun m => !tkF b m
theorem freeG_none (b : List (Option Nat)) : freeG (b ++ [none]) = freeG b := by unfold freeG; rw [tkF_none]
theorem freeG_some (b : List (Option Nat)) (m : Nat) : freeG (b ++ [some m]) = less (freeG b) m := by
  unfold freeG
  rw [tkF_some]
  exact less_F
theorem freeG_nil : freeG [] = allF := by funext m; simp [freeG, tkF, allF]
def cntG (ds : List Int) : Nat := (ds.filter fun d => decide (0 ≤ d)).length
theorem cntG_man : ∀ g : List (Option Nat), cntG (manL g) = many g
  | [] => rfl
  | o :: g => by
    have ih := cntG_man g
    rw [many_cons, ← ih]
    unfold cntG manL
    cases o with
    | none => simp [manI]
    | some m =>
      have : (0 : Int) ≤ manI (some m) := Int.natCast_nonneg m
      rw [List.map_cons, List.filter_cons, if_pos (decide_eq_true this)]
      simp only [List.length_cons, Option.isSome_some, if_true]
      omega
theorem man_mem_iff {b : List (Option Nat)} {m : Nat} : ((m : Nat) : Int) ∈ manL b ↔ some m ∈ b := by
  unfold manL
  constructor
  · intro h
    obtain ⟨o, ho, e⟩ := List.mem_map.1 h
    cases o with
    | none => have e : (-1 : Int) = (m : Nat) := e; omega
    | some k =>
      have e : ((k : Nat) : Int) = (m : Nat) := e
      have : k = m := by omega
      rw [← this]; exact ho
  · intro h
    exact List.mem_map.2 ⟨some m, h, rfl⟩
end Go.Proofs.Ytfaeokcbfnlgbaa.G

/- Prize: plain: sets by bits. -/
set_option linter.unusedSimpArgs false
set_option linter.unusedVariables false
set_option maxRecDepth 20000
namespace Go.Proofs.Ytfaeokcbfnlgbaa.G
open Go.V
theorem bit_tab : ∀ x : Nat, x < 256 → ∀ i : Nat, i < 9 → andv .i64 (shrv .i64 (x : Int) (i : Int)) 1 = ((x / 2 ^ i % 2 : Nat) : Int) := by
  have h : ((List.range 256).all fun (x : Nat) => (List.range 9).all fun (i : Nat) => decide (andv .i64 (shrv .i64 (x : Int) (i : Int)) 1 = ((x / 2 ^ i % 2 : Nat) : Int))) = true := by decide +kernel
  intro x hx i hi
  have h1 := List.all_eq_true.1 h x (by simpa using hx)
  have h2 := List.all_eq_true.1 h1 i (by simpa using hi)
  exact of_decide_eq_true h2
theorem orb_tab : ∀ x : Nat, x < 256 → ∀ i : Nat, i < 8 → x / 2 ^ i % 2 = 0 → orv .i64 (x : Int) (shlv .i64 1 (i : Int)) = ((x + 2 ^ i : Nat) : Int) := by
  have h : ((List.range 256).all fun (x : Nat) => (List.range 8).all fun (i : Nat) => !decide (x / 2 ^ i % 2 = 0) || decide (orv .i64 (x : Int) (shlv .i64 1 (i : Int)) = ((x + 2 ^ i : Nat) : Int))) = true := by decide +kernel
  intro x hx i hi hb
  have h1 := List.all_eq_true.1 h x (by simpa using hx)
  have h2 := List.all_eq_true.1 h1 i (by simpa using hi)
  rw [decide_eq_true hb] at h2
  simpa using h2
theorem shr_tab : ∀ x : Nat, x < 256 → ∀ i : Nat, i < 9 → shrv .i64 (x : Int) (i : Int) = ((x / 2 ^ i : Nat) : Int) := by
  have h : ((List.range 256).all fun (x : Nat) => (List.range 9).all fun (i : Nat) => decide (shrv .i64 (x : Int) (i : Int) = ((x / 2 ^ i : Nat) : Int))) = true := by decide +kernel
  intro x hx i hi
  have h1 := List.all_eq_true.1 h x (by simpa using hx)
  have h2 := List.all_eq_true.1 h1 i (by simpa using hi)
  exact of_decide_eq_true h2
def b01 (b : Bool) : Nat := if b then 1 else 0
theorem setK_bit (B : Nat → Bool) : ∀ n i : Nat, i < n → setK B n / 2 ^ i % 2 = b01 (B i)
  | 0, i, h => by omega
  | n + 1, i, h => by
    have hlt := setK_lt B n
    have hs : setK B (n + 1) = setK B n + b01 (B n) * 2 ^ n := by
      show setK B n + (if B n then 2 ^ n else 0) = _
      unfold b01; split <;> simp
    by_cases e : i = n
    · subst e
      rw [hs, Nat.add_mul_div_right _ _ (Nat.two_pow_pos i), Nat.div_eq_of_lt hlt, Nat.zero_add]
      unfold b01; split <;> rfl
    · have hin : i < n := by omega
      have hp : (2 : Nat) ^ n = 2 ^ (n - i) * 2 ^ i := by rw [← Nat.pow_add]; congr 1; omega
      have hp2 : (2 : Nat) ^ (n - i) = 2 * 2 ^ (n - i - 1) := by
        obtain ⟨k, hk⟩ : ∃ k, n - i = k + 1 := ⟨n - i - 1, by omega⟩
        rw [hk, Nat.pow_succ, Nat.add_sub_cancel, Nat.mul_comm]
      rw [hs, hp, ← Nat.mul_assoc, Nat.add_mul_div_right _ _ (Nat.two_pow_pos i), hp2, ← setK_bit B n i hin]
      rw [Nat.mul_left_comm, Nat.add_mul_mod_self_left]
theorem setK_upd {B : Nat → Bool} {i : Nat} : ∀ n : Nat, i < n → B i = false → setK (fun k => if k = i then true else B k) n = setK B n + 2 ^ i
  | 0, h, _ => by omega
  | n + 1, h, hb => by
    show setK _ n + (if (if n = i then true else B n) then 2 ^ n else 0) = setK B n + (if B n then 2 ^ n else 0) + 2 ^ i
    by_cases e : n = i
    · subst e
      rw [if_pos rfl, hb]
      have : setK (fun k => if k = n then true else B k) n = setK B n := by
        have key : ∀ m : Nat, m ≤ n → setK (fun k => if k = n then true else B k) m = setK B m := by
          intro m
          induction m with
          | zero => intro _; rfl
          | succ m ih =>
            intro hm
            show setK _ m + (if (if m = n then true else B m) then 2 ^ m else 0) = _
            have e1 : (if m = n then true else B m) = B m := if_neg (by omega)
            rw [ih (by omega), e1]; rfl
        exact key n (Nat.le_refl _)
      rw [this]
      simp
    · rw [if_neg e, setK_upd n (by omega) hb]
      omega
theorem setK_congr {B C : Nat → Bool} : ∀ n : Nat, (∀ k, k < n → B k = C k) → setK B n = setK C n
  | 0, _ => rfl
  | n + 1, h => by
    show setK B n + _ = setK C n + _
    rw [setK_congr n (fun k hk => h k (by omega)), h n (by omega)]
theorem setK_zero : ∀ n : Nat, setK (fun _ => false) n = 0
  | 0 => rfl
  | n + 1 => by show setK _ n + _ = 0; rw [setK_zero n]; rfl
theorem set_lt8 (B : Nat → Bool) : setK B 8 < 256 := setK_lt B 8
/-- Is one of a set? -/
theorem bit_is (B : Nat → Bool) {i : Nat} (h : i < 8) : (andv .i64 (shrv .i64 ((setK B 8 : Nat) : Int) (i : Int)) 1 == 1) = B i := by
  rw [bit_tab _ (set_lt8 B) i (by omega), setK_bit B 8 i h]
  cases B i <;> rfl
theorem bit_no (B : Nat → Bool) {i : Nat} (h : i < 8) : (andv .i64 (shrv .i64 ((setK B 8 : Nat) : Int) (i : Int)) 1 == 0) = !B i := by
  rw [bit_tab _ (set_lt8 B) i (by omega), setK_bit B 8 i h]
  cases B i <;> rfl
/-- One more. -/
theorem bit_put {B : Nat → Bool} {i : Nat} (h : i < 8) (hb : B i = false) : orv .i64 ((setK B 8 : Nat) : Int) (shlv .i64 1 (i : Int)) = ((setK (fun k => if k = i then true else B k) 8 : Nat) : Int) := by
  rw [orb_tab _ (set_lt8 B) i h (by rw [setK_bit B 8 i h, hb]; rfl), setK_upd 8 h hb]
end Go.Proofs.Ytfaeokcbfnlgbaa.G

/- Prize: plain laws of the due giving. -/
set_option linter.unusedSimpArgs false
set_option linter.unusedVariables false
set_option maxRecDepth 20000
namespace Go.Proofs.Ytfaeokcbfnlgbaa.G
open Go.V
theorem ord_sorted {T : PT} (hv : VdP T) : (ordP T).Pairwise fun a b => (T.man a).place < (T.man b).place := by
  unfold ordP
  rw [List.pairwise_map]
  refine (List.pairwise_lt_range (n := T.n)).imp_of_mem fun {a b} ha hb hab => ?_
  have ha := List.mem_range.1 ha
  have hb := List.mem_range.1 hb
  rw [(hv.sur ((a + 1 : Nat) : Int) (by omega) (by omega)).2, (hv.sur ((b + 1 : Nat) : Int) (by omega) (by omega)).2]
  omega
theorem find_least {T : PT} {q : Nat → Bool} : ∀ {l : List Nat} {j k : Nat}, l.Pairwise (fun a b => (T.man a).place < (T.man b).place) → l.find? q = some j → k ∈ l → q k = true → (T.man j).place ≤ (T.man k).place
  | [], j, k, _, h, _, _ => by cases h
  | x :: l, j, k, hp, h, hk, hq => by
    rw [List.pairwise_cons] at hp
    rw [List.find?_cons] at h
    cases hx : q x with
    | true =>
      rw [hx] at h
      cases h
      rcases List.mem_cons.1 hk with rfl | hk
      · exact Int.le_refl _
      · exact Int.le_of_lt (hp.1 k hk)
    | false =>
      rw [hx] at h
      rcases List.mem_cons.1 hk with rfl | hk
      · rw [hq] at hx; cases hx
      · exact find_least hp.2 h hk hq
theorem dueL_succ (T : PT) (k : Nat) : dueL T (k + 1) = dueL T k ++ [(ordP T).find? (qP T k)] := by
  rw [← giv_find]; rfl
theorem dueL_take (T : PT) : ∀ k j, j ≤ k → (dueL T k).take j = dueL T j
  | 0, j, h => by
    have : j = 0 := by omega
    subst this; rfl
  | k + 1, j, h => by
    by_cases e : j = k + 1
    · subst e
      rw [List.take_of_length_le (by rw [dueL_len]; exact Nat.le_refl _)]
    · rw [dueL_succ, List.take_append_of_le_length (by rw [dueL_len]; omega)]
      exact dueL_take T k j (by omega)
theorem dueL_get (T : PT) {k z : Nat} (h : z < k) : (dueL T k)[z]? = some ((ordP T).find? (qP T z)) := by
  have h1 := dueL_take T k (z + 1) (by omega)
  have h2 : ((dueL T k).take (z + 1))[z]? = (dueL T k)[z]? := List.getElem?_take_of_lt (by omega)
  rw [← h2, h1, dueL_succ, List.getElem?_append_right (by rw [dueL_len]; exact Nat.le_refl _), dueL_len, Nat.sub_self]
  rfl
/-- A list of who gets prizes: all are there, and nobody gets two. -/
structure OkG (T : PT) (g : List (Option Nat)) : Prop where
  lt : ∀ m, some m ∈ g → m < T.n
  un : ∀ (i j m : Nat), g[i]? = some (some m) → g[j]? = some (some m) → i = j
theorem OkG.nil (T : PT) : OkG T [] := ⟨fun m h => (by cases h), fun i j m h => (by simp at h)⟩
theorem OkG.snoc {T : PT} {g : List (Option Nat)} {o : Option Nat} (h : OkG T g) (ho : ∀ m, o = some m → m < T.n ∧ tkF g m = false) : OkG T (g ++ [o]) := by
  refine ⟨fun m hm => ?_, fun i j m hi hj => ?_⟩
  · rcases List.mem_append.1 hm with hm | hm
    · exact h.lt m hm
    · have : o = some m := (List.mem_singleton.1 hm).symm
      exact (ho m this).1
  · have key : ∀ i, (g ++ [o])[i]? = some (some m) → (g[i]? = some (some m)) ∨ (i = g.length ∧ o = some m) := by
      intro i hi
      by_cases e : i < g.length
      · rw [List.getElem?_append_left e] at hi; exact .inl hi
      · rw [List.getElem?_append_right (by omega)] at hi
        obtain ⟨h1, h2⟩ := List.getElem?_eq_some_iff.1 hi
        have h1' : i - g.length = 0 := by simpa using h1
        refine .inr ⟨by omega, ?_⟩
        simpa [h1'] using h2
    have no : o = some m → ∀ i, g[i]? ≠ some (some m) := fun e i hi => by
      have h2 := (ho m e).2
      unfold tkF at h2
      exact (of_decide_eq_false h2) (List.mem_of_getElem? hi)
    rcases key i hi with a | ⟨a, a'⟩
    · rcases key j hj with b | ⟨b, b'⟩
      · exact h.un i j m a b
      · exact absurd a (no b' i)
    · rcases key j hj with b | ⟨b, b'⟩
      · exact absurd b (no a' j)
      · omega
theorem due_okG {T : PT} (hv : VdP T) : ∀ k, OkG T (dueL T k)
  | 0 => OkG.nil T
  | k + 1 => by
    rw [dueL_succ]
    refine (due_okG hv k).snoc fun m hm => ?_
    have h1 := List.mem_of_find?_eq_some hm
    have h2 := List.find?_some hm
    unfold qP at h2
    simp only [Bool.and_eq_true] at h2
    exact ⟨(ord_mem hv).1 h1, by simpa using h2.2.2⟩
theorem gvS_snoc {T : PT} : ∀ (l seen : List Int) (d : Int), gvS T seen (l ++ [d]) = (gvS T seen l && ((d == -1) || (decide (0 ≤ d ∧ d < T.n) && !decide (d ∈ seen ++ l))))
  | [], seen, d => by
    show (_ && gvS T (seen ++ [d]) []) = _
    rw [List.append_nil]
    unfold gvS
    simp
  | x :: l, seen, d => by
    show (((x == -1) || (decide (0 ≤ x ∧ x < T.n) && !decide (x ∈ seen))) && gvS T (seen ++ [x]) (l ++ [d])) = _
    rw [gvS_snoc l (seen ++ [x]) d]
    conv => rhs; unfold gvS
    rw [List.append_assoc, Bool.and_assoc]
    rfl
theorem take_snoc {α : Type} {l : List α} {k : Nat} (h : k < l.length) : l.take (k + 1) = l.take k ++ [l[k]] := by
  rw [List.take_add_one, List.getElem?_eq_getElem h]; rfl
theorem gv_okG {T : PT} {g : List (Option Nat)} (h : OkG T g) (hl : g.length = T.z) : gvP T (manL g) = true := by
  have key : ∀ k, k ≤ g.length → gvS T [] (manL (g.take k)) = true := by
    intro k
    induction k with
    | zero => intro _; rfl
    | succ k ih =>
      intro hk
      have hkg : k < g.length := by omega
      rw [take_snoc hkg, manL_app]
      show gvS T [] (manL (g.take k) ++ [manI g[k]]) = true
      rw [gvS_snoc, ih (by omega), Bool.true_and]
      cases ho : g[k] with
      | none => rfl
      | some m =>
        have hg : g[k]? = some (some m) := by rw [List.getElem?_eq_getElem hkg, ho]
        have hm := h.lt m (List.mem_of_getElem? hg)
        have hno : ¬ manI (some m) ∈ ([] ++ manL (g.take k)) := by
          show ¬ ((m : Nat) : Int) ∈ manL (g.take k)
          rw [man_mem_iff]
          intro hmem
          obtain ⟨i, hi, e⟩ := List.mem_iff_getElem.1 hmem
          rw [List.length_take] at hi
          have e2 : g[i]? = some (some m) := by
            rw [List.getElem_take] at e
            rw [List.getElem?_eq_getElem (by omega), e]
          have := h.un i k m e2 hg
          omega
        have hr : 0 ≤ manI (some m) ∧ manI (some m) < T.n := by show 0 ≤ ((m : Nat) : Int) ∧ ((m : Nat) : Int) < T.n; omega
        rw [decide_eq_true hr, decide_eq_false hno]
        simp
  unfold gvP
  have := key g.length (Nat.le_refl _)
  rw [List.take_length] at this
  rw [this]
  unfold manL
  rw [List.length_map, hl]
  simp
theorem gv_due {T : PT} (hv : VdP T) : gvP T (manL (dueP T)) = true := gv_okG (due_okG hv T.z) (dueL_len T T.z)
theorem wrong_due {T : PT} (hok : okP T = true) : wrongR T (manL (dueP T)) = (0, 0, 4) := by
  unfold wrongR wrongP
  rw [if_pos hok, if_pos (gv_due (okP_vd hok))]
  have : (List.range T.z).find? (fun i => (manL (dueP T)).getD i 0 != (manL (dueP T)).getD i 0) = none := by
    rw [List.find?_eq_none]
    intro i _
    simp
  rw [this]
/-- Who could have a prize, also by clubs. -/
def canC (T : PT) (m z : Nat) : Bool := canP T m z && (decide ((T.pz z).kind ≠ 4) || ((T.man m).club == (bestP T).1))
theorem qP_can (T : PT) (z m : Nat) : qP T z m = (canC T m z && !tkF (dueL T z) m) := by
  unfold qP canC
  cases canP T m z <;> cases (decide ((T.pz z).kind ≠ 4) || ((T.man m).club == (bestP T).1)) <;> cases tkF (dueL T z) m <;> rfl
theorem due_get {T : PT} {z : Nat} (h : z < T.z) : (dueP T)[z]? = some ((ordP T).find? (qP T z)) := dueL_get T h
theorem due_getD {T : PT} {z : Nat} (h : z < T.z) : (manL (dueP T)).getD z 0 = manI ((ordP T).find? (qP T z)) := by
  have h1 := due_get h
  have hl : z < (manL (dueP T)).length := by unfold manL; rw [List.length_map, show (dueP T).length = T.z from dueL_len T T.z]; exact h
  have h2 : (manL (dueP T))[z]? = some (manI ((ordP T).find? (qP T z))) := by unfold manL; rw [List.getElem?_map, h1]; rfl
  rw [getD_lt hl]
  exact (List.getElem?_eq_some_iff.1 h2).2
theorem due_one {T : PT} (hv : VdP T) {z m : Nat} (h : (ordP T).find? (qP T z) = some m) : m < T.n ∧ canC T m z = true ∧ tkF (dueL T z) m = false ∧ ∀ k, k < T.n → canC T k z = true → tkF (dueL T z) k = false → (T.man m).place ≤ (T.man k).place := by
  have h1 := List.mem_of_find?_eq_some h
  have h2 := List.find?_some h
  rw [qP_can] at h2
  simp only [Bool.and_eq_true] at h2
  refine ⟨(ord_mem hv).1 h1, h2.1, by simpa using h2.2, fun k hk hc ht => ?_⟩
  exact find_least (ord_sorted hv) h ((ord_mem hv).2 hk) (by rw [qP_can, hc, ht]; rfl)
theorem due_no {T : PT} (hv : VdP T) {z : Nat} (h : (ordP T).find? (qP T z) = none) : ∀ k, k < T.n → canC T k z = true → tkF (dueL T z) k = true := by
  intro k hk hc
  have := List.find?_eq_none.1 h k ((ord_mem hv).2 hk)
  rw [qP_can, hc] at this
  simpa using this
end Go.Proofs.Ytfaeokcbfnlgbaa.G

/- Prize: plain: the due giving of a row of men; who is renumbered, and who stays away. -/
set_option linter.unusedSimpArgs false
set_option linter.unusedVariables false
set_option maxRecDepth 20000
namespace Go.Proofs.Ytfaeokcbfnlgbaa.G
open Go.V
def freeQ (can : Nat → Nat → Bool) (d : List (Option Nat)) (z m : Nat) : Bool := can m z && !tkF d m
def dueO (can : Nat → Nat → Bool) (l : List Nat) : Nat → List (Option Nat)
  | 0 => []
  | k + 1 => dueO can l k ++ [l.find? (freeQ can (dueO can l k) k)]
theorem dueO_len (can : Nat → Nat → Bool) (l : List Nat) : ∀ k, (dueO can l k).length = k
  | 0 => rfl
  | k + 1 => by show (dueO can l k ++ _).length = _; rw [List.length_append, dueO_len can l k]; rfl
theorem dueL_O (T : PT) : ∀ k, dueL T k = dueO (canC T) (ordP T) k
  | 0 => rfl
  | k + 1 => by
    rw [dueL_succ]
    show _ = dueO (canC T) (ordP T) k ++ [_]
    rw [← dueL_O T k]
    congr 2
    refine find_congr fun m _ => ?_
    exact qP_can T k m
theorem dueO_congr {can can' : Nat → Nat → Bool} {l : List Nat} : ∀ k, (∀ m ∈ l, ∀ z, z < k → can m z = can' m z) → dueO can l k = dueO can' l k
  | 0, _ => rfl
  | k + 1, h => by
    show dueO can l k ++ [_] = dueO can' l k ++ [_]
    rw [dueO_congr k (fun m hm z hz => h m hm z (by omega))]
    congr 2
    refine find_congr fun m hm => ?_
    unfold freeQ
    rw [h m hm k (by omega)]
theorem dueO_mem {can : Nat → Nat → Bool} {l : List Nat} {m : Nat} : ∀ k, some m ∈ dueO can l k → m ∈ l
  | 0, h => by cases h
  | k + 1, h => by
    rcases List.mem_append.1 h with h | h
    · exact dueO_mem k h
    · have := List.mem_singleton.1 h
      exact List.mem_of_find?_eq_some this.symm
theorem tkF_map {σ : Nat → Nat} {g : List (Option Nat)} {m : Nat} (h : ∀ j, some j ∈ g → σ j = σ m → j = m) : tkF (g.map (Option.map σ)) (σ m) = tkF g m := by
  unfold tkF
  rw [decide_eq_decide]
  constructor
  · intro hm
    obtain ⟨o, ho, e⟩ := List.mem_map.1 hm
    cases o with
    | none => cases e
    | some j =>
      have e : σ j = σ m := Option.some.inj e
      rw [← h j ho e]; exact ho
  · intro hm
    exact List.mem_map.2 ⟨some m, hm, rfl⟩
theorem find_filter {q D : Nat → Bool} : ∀ {l : List Nat}, (∀ m, l.find? q = some m → D m = true) → (l.filter D).find? q = l.find? q
  | [], _ => rfl
  | x :: l, h => by
    rw [List.find?_cons] at h ⊢
    cases hq : q x with
    | true =>
      rw [hq] at h
      have hd : D x = true := h x rfl
      rw [List.filter_cons, if_pos hd, List.find?_cons, hq]
    | false =>
      rw [hq] at h
      rw [List.filter_cons]
      split
      · rw [List.find?_cons, hq]; exact find_filter h
      · exact find_filter h
/-- Who is left, renumbered, if the others get nothing. -/
theorem due_ren {can can' : Nat → Nat → Bool} {l : List Nat} {σ : Nat → Nat} {D : Nat → Bool} (hinj : ∀ i ∈ l, ∀ j ∈ l, D i = true → D j = true → σ i = σ j → i = j) :
    ∀ k, (∀ i ∈ l, D i = true → ∀ z, z < k → can' (σ i) z = can i z) → (∀ m, some m ∈ dueO can l k → D m = true) → dueO can' ((l.filter D).map σ) k = (dueO can l k).map (Option.map σ)
  | 0, _, _ => rfl
  | k + 1, hc, hD => by
    have ih := due_ren (can := can) (can' := can') (l := l) (σ := σ) (D := D) hinj k (fun i hi hd z hz => hc i hi hd z (by omega)) (fun m hm => hD m (List.mem_append_left _ hm))
    show dueO can' ((l.filter D).map σ) k ++ [((l.filter D).map σ).find? _] = (dueO can l k ++ [l.find? _]).map (Option.map σ)
    rw [List.map_append, ih, List.find?_map]
    have hf : (l.filter D).find? (freeQ can' ((dueO can l k).map (Option.map σ)) k ∘ σ) = l.find? (freeQ can (dueO can l k) k) := by
      have h1 : (l.filter D).find? (freeQ can' ((dueO can l k).map (Option.map σ)) k ∘ σ) = (l.filter D).find? (freeQ can (dueO can l k) k) := by
        refine find_congr fun m hm => ?_
        obtain ⟨hm1, hm2⟩ := List.mem_filter.1 hm
        show freeQ can' _ k (σ m) = _
        unfold freeQ
        rw [hc m hm1 hm2 k (by omega), tkF_map (fun j hj e => hinj j (dueO_mem k hj) m hm1 (hD j (List.mem_append_left _ hj)) hm2 e)]
      rw [h1]
      refine find_filter fun m hm => hD m ?_
      exact List.mem_append_right _ (by rw [hm]; exact List.mem_singleton.2 rfl)
    rw [hf]
    rfl
/-- No prize is for a club. -/
def noClub (T : PT) : Bool := T.list.all fun z => decide (z.kind ≠ 4)
theorem noClub_at {T : PT} (h : noClub T = true) {z : Nat} (hz : z < T.z) : ¬ (T.pz z).kind = 4 := by
  unfold noClub at h
  have := List.all_eq_true.1 h (T.pz z) (by unfold PT.pz; rw [getD_lt hz]; exact List.getElem_mem hz)
  simpa using this
end Go.Proofs.Ytfaeokcbfnlgbaa.G

/- Prize: For. -/
set_option linter.unusedSimpArgs false
set_option linter.unusedVariables false
set_option maxRecDepth 20000
namespace Go.Proofs.Ytfaeokcbfnlgbaa.G
open Go.V
def getsP (T : PT) (m pl : Nat) : Bool := decide ((m : Int) ∈ manL (dueP (movedP T m (pl : Int))))
def forL (T : PT) (m : Nat) : Nat → Int × Int
  | 0 => (0, 4)
  | k + 1 => if getsP T m (k + 1) then (((k + 1 : Nat) : Int), 0) else forL T m k
def forR (T : PT) (m : Int) : Int × Int := if okP T then (if isM T m then forL T m.toNat T.n else (0, 2)) else (0, 1)
def partL (T : PT) (m : Nat) (pl : Int) (k : Nat) : List Mn := (List.range T.n).map fun i => if newP T m pl i ≤ k then { T.man i with place := newP T m pl i } else T.man i
theorem partL_len (T : PT) (m : Nat) (pl : Int) (k : Nat) : (partL T m pl k).length = T.n := by simp [partL]
theorem partL_get (T : PT) (m : Nat) (pl : Int) (k i : Nat) (h : i < (partL T m pl k).length) : (partL T m pl k)[i] = if newP T m pl i ≤ k then { T.man i with place := newP T m pl i } else T.man i := by simp [partL]
theorem partL_0 {T : PT} (hv : VdP T) {m : Nat} {pl : Int} (hm : m < T.n) (h1 : 1 ≤ pl) (h2 : pl ≤ T.n) : partL T m pl 0 = T.men := by
  refine List.ext_getElem (partL_len T m pl 0) fun i g1 g2 => ?_
  have hr := newP_rng hv hm (i := i) g2 h1 h2
  rw [partL_get, if_neg (by omega)]
  exact getD_lt g2
theorem partL_n {T : PT} (hv : VdP T) {m : Nat} {pl : Int} (hm : m < T.n) (h1 : 1 ≤ pl) (h2 : pl ≤ T.n) : partL T m pl T.n = (movedP T m pl).men := by
  unfold partL movedP
  refine List.map_congr_left fun i hi => ?_
  rw [if_pos (newP_rng hv hm (List.mem_range.1 hi) h1 h2).2]
theorem partL_succ {T : PT} (hv : VdP T) {m i k : Nat} {pl : Int} (hm : m < T.n) (hi : i < T.n) (he : newP T m pl i = ((k + 1 : Nat) : Int)) (hl : i < (partL T m pl k).length) : partL T m pl (k + 1) = (partL T m pl k).set i { (partL T m pl k)[i] with place := ((k + 1 : Nat) : Int) } := by
  refine List.ext_getElem (by rw [List.length_set, partL_len, partL_len]) fun j g1 g2 => ?_
  have hj : j < T.n := by rw [partL_len] at g1; exact g1
  rw [List.getElem_set]
  by_cases e : i = j
  · subst e
    rw [if_pos rfl]
    rw [partL_get, partL_get, he, if_pos (Int.le_refl _), if_neg (by omega)]
  · rw [if_neg e]
    have hne : newP T m pl j ≠ ((k + 1 : Nat) : Int) := fun h => e (newP_inj hv hm hi hj (he.trans h.symm))
    rw [partL_get, partL_get]
    by_cases q : newP T m pl j ≤ k
    · rw [if_pos (by omega), if_pos q]
    · rw [if_neg (by omega), if_neg q]
theorem NEW_mk {t : TypeId} {cs : List Value} {K : Nat → Hp → Prop} {s : Hp} (h : K s.size (s.push (.cells cs.toArray t (0, 0)))) : NEW t cs K s := h
section
variable {W : World} {K : VK} {E : List PanicEntry → Hp → Prop} {s : Hp} {T : PT}
theorem isOther {b : Addr} {m n : Nat} : IsFn W (.func (.func 72) #[] #[.pointer (some b)]) n (fun s => cellAt s b = some (.int .i64 (m : Nat))) (fun k => !decide (k = m)) where
  one := rfl
  blind := fun s l o hl ho h => cell_blind hl h
  ext := fun s s' h e => e.cell h
  call := fun s k hk hR K E h => by
    refine CALLV_func ?_
    refine does_prize_For_c1 W k b _ s ?_
    unfold T_prize_For_c1
    refine ⟨_, hR, ?_⟩
    have := h s (Ext.refl s)
    have e : ((k : Int) != (m : Int)) = !decide (k = m) := by
      by_cases hkm : k = m
      · subst hkm; simp
      · have : ((k : Nat) : Int) ≠ (m : Int) := by omega
        simp [hkm, this]
    show K (.bool ((k : Int) != (m : Int))) s
    rw [e]
    exact this
theorem c_For {x y : Option Addr} {c c' : Nat} {m : Int} (hx : MnAt s x T.men) (hy : PzAt s y T.list) (h : ∀ s', Ext s s' → K (.tuple #[.int .i64 (forR T m).1, .int .i64 (forR T m).2]) s') :
    CALL Pg W F_prize_For [.agg #[.slice x T.n c, .slice y T.z c'], .int .i64 m] K E s := by
  refine does_prize_For W x T.n c y T.z c' m _ s ?_
  unfold T_prize_For
  refine ne2 fun s1 e1 z1 o1 o2 => ?_
  refine ne1 fun s2 e2 z2 om => ?_
  refine nz1 zc_29 fun s3 e3 z3 o3 => ?_
  have e23 := e2.trans e3
  have e03 := e1.trans e23
  refine ⟨_, _, _, e23.cell o1.cell, _, _, _, e23.cell o2.cell, ?_⟩
  have hs1 : s.size ≤ s1.size := e1.1
  refine c_open (hx.ext e03) (hy.ext e03) (fun hok s4 p e4 hp => ?_) (fun hok s4 e4 => ?_)
  · try simp only [TUP_mk, AGG_mk, HD_mk, NL_mk, TYI_mk, TYB_mk, TYP_mk, TYL_mk, TYS_mk, TYM_mk, SO_mk, NX_mk, endK_mk, endK_mk', add_0]
    have e04 := e03.trans e4
    have hv := okP_vd hok
    have h8 := hv.n8
    have h6 := hv.z6
    have hn1 := hv.n1
    refine ⟨_, (e3.trans e4).cell om.cell, ?_⟩
    refine c_isMan hp ?_
    try simp only [TUP_mk, AGG_mk, HD_mk, NL_mk, TYI_mk, TYB_mk, TYP_mk, TYL_mk, TYS_mk, TYM_mk, SO_mk, NX_mk, endK_mk, endK_mk', add_0]
    refine c_must (fun hm => ?_) (fun hm => ?_)
    · try simp only [TUP_mk, AGG_mk, HD_mk, NL_mk, TYI_mk, TYB_mk, TYP_mk, TYL_mk, TYS_mk, TYM_mk, SO_mk, NX_mk, endK_mk, endK_mk', add_0]
      have hM : isM T m = true := hm
      have hm' := of_decide_eq_true hm
      obtain ⟨j, rfl⟩ := Int.eq_ofNat_of_zero_le hm'.1
      have hj : j < T.n := by omega
      have hR : forR T (j : Int) = forL T j T.n := by unfold forR; rw [if_pos hok, if_pos hM, toNat_nat]
      rw [hR] at h
      refine c_order (W := W) (p := p) rfl fun s5 a b e5 ha hb ca cb => ?_
      try simp only [TUP_mk, AGG_mk, HD_mk, NL_mk, TYI_mk, TYB_mk, TYP_mk, TYL_mk, TYS_mk, TYM_mk, SO_mk, NX_mk, endK_mk, endK_mk', add_0]
      refine c_Collect (hp.ext e5) (isOther (b := ⟨s1.size, 0, none⟩) (m := j)) ((e3.trans (e4.trans e5)).cell om.cell) ca cb fun s6 xo co e6 f6 => ?_
      try simp only [TUP_mk, AGG_mk, HD_mk, NL_mk, TYI_mk, TYB_mk, TYP_mk, TYL_mk, TYS_mk, TYM_mk, SO_mk, NX_mk, endK_mk, endK_mk', add_0]
      have e36 := e4.trans (e5.trans e6)
      have e26 := e3.trans e36
      have e16 := e2.trans e26
      have e06 := e1.trans e16
      refine ⟨_, _, _, e16.cell o1.cell, ?_⟩
      have hfo : ordF T (fun k => !decide (k = j)) = othL T j := rfl
      rw [hfo] at f6 ⊢
      have hol := oth_len hv hj
      have hnl : (nats (othL T j)).length = T.n - 1 := by unfold nats; rw [List.length_map]; exact hol
      have hno : (nats (othL T j)).length = (othL T j).length := by unfold nats; rw [List.length_map]
      refine L_prize_For_0_rule W _ ⟨s.size, 0, none⟩ ⟨s1.size, 0, none⟩ ⟨s2.size, 0, none⟩ xo _ co (fun n42 n43 t => n42 = 0 ∧ Ext s6 t ∧ ∃ k : Nat, k ≤ T.n ∧ n43 = k ∧ forL T j T.n = forL T j k) (fun _ n43 _ => n43.toNat) 0 T.n s6 ⟨rfl, Ext.refl _, T.n, Nat.le_refl _, rfl, rfl⟩ ?_
      rintro n42 n43 t ⟨rfl, et, k, hk, rfl, hfl⟩
      unfold B_prize_For_0
      have e1t := e16.trans et
      have e2t := e26.trans et
      have e3t := e36.trans et
      have e0t := e1.trans e1t
      refine BR_dec (fun h1 => ?_) (fun h1 => ?_)
      · obtain ⟨q, rfl⟩ : ∃ q, k = q + 1 := ⟨k - 1, by omega⟩
        have hqn : q < T.n := by omega
        refine ⟨_, _, _, e1t.cell o1.cell, _, _, _, e1t.cell o2.cell, ?_⟩
        refine nw2 zc_25 rfl rfl fun t1 f1 y1 q1 q2 => ?_
        refine ⟨_, _, _, (e1t.trans f1).cell o1.cell, ?_⟩
        generalize hnx : (fun vs => N_prize_For_0 _ _ _ _ t vs) = nx
        have hnx' : ∀ u, Ext s6 u → getsP T j (q + 1) = false → nx [.int .i64 0, .int .i64 (q : Nat)] u := fun u eu hg => by
          rw [← hnx]
          refine ⟨_, _, rfl, ⟨rfl, eu, q, by omega, rfl, ?_⟩, by show (q : Int).toNat < ((q + 1 : Nat) : Int).toNat; omega⟩
          rw [hfl]
          show (if getsP T j (q + 1) then _ else _) = _
          rw [hg]; rfl
        refine c_CloneW (l := T.men) (hx.ext (e0t.trans f1)) (by show 0 < T.n; omega) (by show T.n ≤ 1000; omega) fun t2 a2 ac f2 g2 => ?_
        try simp only [TUP_mk, AGG_mk, HD_mk, NL_mk, TYI_mk, TYB_mk, TYP_mk, TYL_mk, TYS_mk, TYM_mk, SO_mk, NX_mk, endK_mk, endK_mk', add_0]
        have q1' := f2.own q1
        have q2' := f2.own q2
        refine WR_own q1' rfl ?_
        have hda : t1.size ≤ a2.block := g2.fr a2 rfl
        have q1w := own_set (v := .slice (some a2) T.men.length ac) q1'
        have q2w : Own (setC t2 ⟨t.size, 0, none⟩ (.slice (some a2) T.men.length ac)) ⟨t.size, 1, none⟩ (.slice y T.z c') := own_set_ne (.inr (by show (1 : Nat) ≠ 0; omega)) q2'
        have ef : Ext t (setC t2 ⟨t.size, 0, none⟩ (.slice (some a2) T.men.length ac)) := Ext.setC (f1.trans f2) (Nat.le_refl _)
        have g2w : Fr t1.size (setC t2 ⟨t.size, 0, none⟩ (.slice (some a2) T.men.length ac)) (some a2) T.men.length ac 4 (mnV T.men) := g2.kp (D := (· = t.size)) (Kp.setC (Kp.refl _) (.inl rfl)) (fun b hb he => by cases hb; have : a2.block = t.size := he; omega)
        generalize hs9 : setC t2 ⟨t.size, 0, none⟩ (.slice (some a2) T.men.length ac) = t3 at *
        have hmn : T.men.length = T.n := rfl
        rw [hmn] at q1w g2w
        have hpos4 : 0 < (mnV T.men).length := by rw [mnV_len, hmn]; omega
        have ha3 : a2.block < t3.size := by
          obtain ⟨a', h', c0⟩ := g2w.row 0 hpos4
          cases h'
          have := cell_lt c0
          rw [add_blk] at this; exact this
        refine ⟨_, (e2t.trans ef).cell om.cell, ?_⟩
        have hw : IntKind.i64.wrap (((q + 1 : Nat) : Int) - 1) = (q : Nat) := by rw [wrap_i64 (by omega) (by omega)]; omega
        rw [hw]
        have fin : ∀ (u : Hp) (xi : Option Addr) (l ci : Nat), l = T.n → Ext t3 u → (∀ a, xi = some a → t3.size ≤ a.block) → RowAt u xi (ints (insL (nats (othL T j)) q j)) →
            J_prize_For_0 W (endK K E) nx ⟨s.size, 0, none⟩ ⟨s1.size, 0, none⟩ 0 ⟨s2.size, 0, none⟩ xo (othL T j).length co ((q + 1 : Nat) : Int) t.size xi l ci (l : Int) 0 u := by
          intro u xi l ci hl eu hxi hrow
          subst hl
          unfold J_prize_For_0
          refine L_prize_For_1_rule W _ nx ⟨s.size, 0, none⟩ ⟨s1.size, 0, none⟩ 0 ⟨s2.size, 0, none⟩ xo _ co _ ⟨t.size, 0, none⟩ xi T.n ci T.n
            (fun n95 v => Ext t v ∧ Own v ⟨t.size, 0, none⟩ (.slice (some a2) T.n ac) ∧ Own v ⟨t.size, 1, none⟩ (.slice y T.z c') ∧ RowAt v xi (ints (insL (nats (othL T j)) q j)) ∧ ∃ k : Nat, k ≤ T.n ∧ n95 = k ∧ Fr t1.size v (some a2) T.n ac 4 (mnV (partL T j ((q + 1 : Nat) : Int) k)))
            (fun n95 _ => ((T.n : Int) - n95).toNat) 0 u ⟨ef.trans eu, eu.own q1w, eu.own q2w, hrow, 0, by omega, rfl, ?_⟩ ?_
          · rw [partL_0 hv hj (by omega) (by omega)]
            exact g2w.ext eu
          rintro n95 v ⟨ev, p1, p2, prow, k, hk, rfl, hfr⟩
          have e0v := e0t.trans ev
          have e1v := e1t.trans ev
          have e2v := e2t.trans ev
          unfold B_prize_For_1
          refine BR_dec (fun h2 => ?_) (fun h2 => ?_)
          · have hkn : k < T.n := by omega
            obtain ⟨i, hi, hget, hnew⟩ := new_order hv hj (pl := q + 1) (by omega) (by omega) hkn
            have hget' : (insL (nats (othL T j)) q (j : Int))[k]? = some (i : Int) := hget
            obtain ⟨hil, hig⟩ := List.getElem?_eq_some_iff.1 hget'
            obtain ⟨b1, hb1, c1⟩ := row_int prow hil
            rw [getD_lt hil, hig] at c1
            refine IXS_at hb1 hkn ?_
            refine ⟨_, c1, ?_⟩
            refine ⟨_, _, _, p1.cell, ?_⟩
            refine IXS_nat hi ?_
            rw [wrap_succ (by omega)]
            have hi4 : i * 4 < (mnV (partL T j ((q + 1 : Nat) : Int) k)).length := by rw [mnV_len, partL_len]; omega
            have hip : i < (partL T j ((q + 1 : Nat) : Int) k).length := by rw [partL_len]; exact hi
            have hown := hfr.buf.at hi4
            have hset := hfr.buf.set (v := .int .i64 ((k + 1 : Nat) : Int)) hi4
            refine WR_own hown rfl ?_
            have hb6 : (a2.add (i * 4)).block = a2.block := add_blk _ _
            have hne6 : (⟨t.size, 0, none⟩ : Addr).block ≠ (a2.add (i * 4)).block := by rw [hb6]; show t.size ≠ _; omega
            refine ⟨rfl, _, rfl, ⟨Ext.setC ev (by show t.size ≤ (a2.add (i * 4)).block; rw [hb6]; omega), own_set_ne (.inl hne6) p1, own_set_ne (.inl hne6) p2, ?_, k + 1, hkn, rfl, ?_⟩, ?_⟩
            · refine prow.keep (D := (· = a2.block)) (Kp.setC (Kp.refl _) (.inl hb6)) fun a' ha' hb' => ?_
              have := hxi a' ha'
              have hb'' : a'.block = a2.block := hb'
              omega
            · have hmm : mnV (partL T j ((q + 1 : Nat) : Int) (k + 1)) = (mnV (partL T j ((q + 1 : Nat) : Int) k)).set (i * 4) (.int .i64 ((k + 1 : Nat) : Int)) := by
                rw [mnV_set _ _ _ hip, partL_succ hv hj hi hnew hip]
              rw [hmm]
              exact ⟨hset, by rw [List.length_set]; exact hfr.len, hfr.fr, hfr.cap⟩
            · show ((T.n : Int) - ((k + 1 : Nat) : Int)).toNat < ((T.n : Int) - k).toNat
              omega
          · have hkn : k = T.n := by omega
            subst hkn
            rw [partL_n hv hj (by omega) (by omega)] at hfr
            have hokM := ok_moved (pl := ((q + 1 : Nat) : Int)) hok hj (by omega) (by omega)
            have hvM := okP_vd hokM
            have hnM : (movedP T j ((q + 1 : Nat) : Int)).n = T.n := moved_n _ _ _
            have h6M := hvM.z6
            refine ⟨_, _, _, p1.cell, _, _, _, p2.cell, ?_⟩
            refine ⟨_, e2v.cell om.cell, ?_⟩
            dsimp only
            refine (fun hh => by rw [← hnM]; exact hh : CALL Pg W F_prize_open [.agg #[.slice (some a2) (movedP T j ((q + 1 : Nat) : Int)).n ac, .slice y (movedP T j ((q + 1 : Nat) : Int)).z c']] _ _ v → CALL Pg W F_prize_open [.agg #[.slice (some a2) T.n ac, .slice y T.z c']] _ _ v) ?_
            refine c_open (T := movedP T j ((q + 1 : Nat) : Int)) (row_mn hfr.row) (hy.ext e0v) (fun _ v1 p' g1 hp' => ?_) (fun hbad => by rw [hokM] at hbad; cases hbad)
            try simp only [TUP_mk, AGG_mk, HD_mk, NL_mk, TYI_mk, TYB_mk, TYP_mk, TYL_mk, TYS_mk, TYM_mk, SO_mk, NX_mk, endK_mk, endK_mk', add_0]
            refine ANDS_i ⟨_, (e2v.trans g1).cell om.cell, rfl⟩ ?_
            refine c_due hp' fun v2 dx dc g2' h2' => ?_
            try simp only [TUP_mk, AGG_mk, HD_mk, NL_mk, TYI_mk, TYB_mk, TYP_mk, TYL_mk, TYS_mk, TYM_mk, SO_mk, NX_mk, endK_mk, endK_mk', add_0]
            have gv := g1.trans g2'
            refine ANDS_i ⟨_, (e2v.trans gv).cell om.cell, rfl⟩ ?_
            have hdl : (manL (dueP (movedP T j ((q + 1 : Nat) : Int)))).length = (movedP T j ((q + 1 : Nat) : Int)).z := by unfold manL dueP; simp [dueL_len]
            refine c_Contains h2'.row hdl.symm (by omega) ?_
            try simp only [TUP_mk, AGG_mk, HD_mk, NL_mk, TYI_mk, TYB_mk, TYP_mk, TYL_mk, TYS_mk, TYM_mk, SO_mk, NX_mk, endK_mk, endK_mk', add_0]
            have oB := (e3t.trans (ev.trans gv)).own o3
            refine BR_bool (fun hg => ?_) (fun hg => ?_)
            · refine ep_ok oB fun v3 k3 => ?_
              have := h v3 (ext_kp (e0v.trans gv) (by have := e2.1; omega) k3)
              rw [hfl] at this
              have e : forL T j (q + 1) = (((q + 1 : Nat) : Int), 0) := by
                show (if getsP T j (q + 1) then _ else _) = _
                rw [if_pos (show getsP T j (q + 1) = true from hg)]
              rw [e] at this
              exact this
            · rw [hw]
              exact hnx' v2 (et.trans (ev.trans gv)) hg
        have rowm : ∀ u : Hp, Ext t3 u → cellAt u ⟨s1.size, 0, none⟩ = some (.int .i64 (j : Nat)) := fun u eu => (e2t.trans (ef.trans eu)).cell om.cell
        have rowo : ∀ u : Hp, Ext t3 u → RowAt u xo (ints (nats (othL T j))) := fun u eu => f6.row.ext (et.trans (ef.trans eu))
        refine CONJ_two ?_ ?_
        · refine c_CloneI (rowo t3 (Ext.refl _)) hno.symm (by omega) fun u xc cc eu fu => ?_
          try simp only [TUP_mk, AGG_mk, HD_mk, NL_mk, TYI_mk, TYB_mk, TYP_mk, TYL_mk, TYS_mk, TYM_mk, SO_mk, NX_mk, endK_mk, endK_mk', add_0]
          refine ANDS_i ⟨_, rowm u eu, rfl⟩ ?_
          refine NEW_mk ?_
          have ep : Ext u (u.push (.cells #[.int .i64 (j : Nat)] 3 (0, 0))) := Ext.push (Ext.refl _)
          refine c_Insert (lo := t3.size) (m := (j : Nat)) (i := q) (B := u.size) (t := 3) (fu.ext ep) (by have := eu.1; have := ep.1; omega) (by omega) (by omega) (by rw [Array.getElem?_push, if_pos rfl]) (fun a ha hl => ?_) fun u2 xi ci k2 hfx hrow => ?_
          · obtain ⟨a', h', c0⟩ := fu.row 0 (by rw [ints_len]; exact hl)
            rw [ha] at h'; cases h'
            have := cell_lt c0
            rw [add_blk] at this; omega
          · try simp only [TUP_mk, AGG_mk, HD_mk, NL_mk, TYI_mk, TYB_mk, TYP_mk, TYL_mk, TYS_mk, TYM_mk, SO_mk, NX_mk, endK_mk, endK_mk', add_0]
            exact fin u2 xi _ ci (by omega) (kp_nil (eu.trans ep) (fun b hb => hb) k2) hfx hrow
        · refine NEW_mk ?_
          have ep : Ext t3 (t3.push (.cells #[.int .i64 (j : Nat)] 3 (0, 0))) := Ext.push (Ext.refl _)
          have hB : (t3.push (.cells #[.int .i64 (j : Nat)] 3 (0, 0)))[t3.size]? = some (.cells #[.int .i64 (j : Nat)] 3 (0, 0)) := by rw [Array.getElem?_push, if_pos rfl]
          have hsz : (t3.push (.cells #[.int .i64 (j : Nat)] 3 (0, 0))).size = t3.size + 1 := by simp
          show CALL Pg W _ _ _ _ (t3.push (.cells #[.int .i64 (j : Nat)] 3 (0, 0)))
          generalize t3.push (.cells #[.int .i64 (j : Nat)] 3 (0, 0)) = t4 at ep hB hsz
          refine c_CloneI (rowo t4 ep) hno.symm (by omega) fun u xc cc eu fu => ?_
          try simp only [TUP_mk, AGG_mk, HD_mk, NL_mk, TYI_mk, TYB_mk, TYP_mk, TYL_mk, TYS_mk, TYM_mk, SO_mk, NX_mk, endK_mk, endK_mk', add_0]
          refine ANDS_i ⟨_, rowm u (ep.trans eu), rfl⟩ ?_
          refine c_Insert (lo := t4.size) (m := (j : Nat)) (i := q) (B := t3.size) (t := 3) fu eu.1 (by omega) (by omega) ((eu.2 t3.size (by omega)).trans hB) (fun a ha hl => ?_) fun u2 xi ci k2 hfx hrow => ?_
          · have := fu.fr a ha
            omega
          · try simp only [TUP_mk, AGG_mk, HD_mk, NL_mk, TYI_mk, TYB_mk, TYP_mk, TYL_mk, TYS_mk, TYM_mk, SO_mk, NX_mk, endK_mk, endK_mk', add_0]
            exact fin u2 xi _ ci (by omega) (ep.trans (kp_nil eu (fun b hb => hb) k2)) (fun a ha => by have := hfx a ha; omega) hrow
      · have hk0 : k = 0 := by omega
        subst hk0
        refine ep_ok ((e3t).own o3) fun v3 k3 => ?_
        have := h v3 (ext_kp e0t (by have := e2.1; omega) k3)
        rw [hfl] at this
        exact this
    · try simp only [TUP_mk, AGG_mk, HD_mk, NL_mk, TYI_mk, TYB_mk, TYP_mk, TYL_mk, TYS_mk, TYM_mk, SO_mk, NX_mk, endK_mk, endK_mk', add_0]
      refine ep_err (e4.own o3) fun s5 k5 => ?_
      have := h s5 (ext_kp e04 (by have := e2.1; omega) k5)
      unfold forR at this
      have hM : isM T m = false := hm
      rw [if_pos hok, hM] at this
      exact this
  · try simp only [TUP_mk, AGG_mk, HD_mk, NL_mk, TYI_mk, TYB_mk, TYP_mk, TYL_mk, TYS_mk, TYM_mk, SO_mk, NX_mk, endK_mk, endK_mk', add_0]
    refine ep_err (e4.own o3) fun s5 k5 => ?_
    have := h s5 (ext_kp (e03.trans e4) (by have := e2.1; omega) k5)
    unfold forR at this
    rw [hok] at this
    exact this
end
end Go.Proofs.Ytfaeokcbfnlgbaa.G
