import Derived.Test.YtcjgbanpkmpekaaGreatDoorC3
/- Lemmas: contracts over the visible heap, and that they are sound; no condition. -/
/- More of the functions' shallow texts, by gen.py. -/
set_option linter.unusedVariables false
set_option maxRecDepth 100000
namespace Go.Proofs.YtcjgbanpkmpekaaGreatDoor.G
open Go.V
def an_22 : Nat → Ann := fun b => match b with
 | 0 => { ms := [4, 5], ks := [.b, .i .i64], us := [2, 3, 64], rt := false, ex := [] }
 | 2 => { ms := [4, 6], ks := [.b, .i .i64], us := [2, 3, 64], rt := false, ex := [] }
 | _ => {}
abbrev rv_22 : List ResultVar := [.tmp 4]
abbrev rs_22 : List Nat := [64, 4]
def L_ref14_SamePegs_0 (W : World) (R : Ending → Hp → Prop) (za0 : Addr) (za1 : Addr) (b30 : Bool) (n31 : Int) : Hp → Prop :=
 LOOPN [.b, .i .i64] (fun ys next s => ∀ j : Tm, vc Pg W 64 rs_22 an_22 false (sub (bodyOf Tryz.f22) [1, 1, 0, 1, 0, 0]) 0 (KLoop [4, 5] [2, 3, 64] [(.pointer (some za0)), (.pointer (some za1)), (.tuple #[])] next (KBlk 0 (KS Pg W 64 rs_22 an_22 false (sub (bodyOf Tryz.f22) [1, 1, 1]) 0 (fin Pg W 64 rv_22 R)))) (known [4, 5] ys (known [2, 3, 64] [(.pointer (some za0)), (.pointer (some za1)), (.tuple #[])] j)) s) [(.bool b30), (.int .i64 n31)]
def L_ref14_SamePegs_1 (W : World) (R : Ending → Hp → Prop) (za0 : Addr) (za1 : Addr) (b51 : Bool) (n52 : Int) : Hp → Prop :=
 LOOPN [.b, .i .i64] (fun ys next s => ∀ j : Tm, vc Pg W 64 rs_22 an_22 false (sub (bodyOf Tryz.f22) [1, 1, 1, 0, 1, 0, 0]) 2 (KLoop [4, 6] [2, 3, 64] [(.pointer (some za0)), (.pointer (some za1)), (.tuple #[])] next (KBlk 2 (KS Pg W 64 rs_22 an_22 false (sub (bodyOf Tryz.f22) [1, 1, 1, 1]) 0 (fin Pg W 64 rv_22 R)))) (known [4, 6] ys (known [2, 3, 64] [(.pointer (some za0)), (.pointer (some za1)), (.tuple #[])] j)) s) [(.bool b51), (.int .i64 n52)]
def J_ref14_SamePegs_0 (W : World) (R : Ending → Hp → Prop) (b23 : Bool) (B15 : Nat) (B16 : Nat) : Hp → Prop :=
 BR b23
 (R (.returned (.bool false)))
 (L_ref14_SamePegs_0 W R ⟨B15, 0, none⟩ ⟨B16, 0, none⟩ false 0)
def B_ref14_SamePegs_0 (W : World) (R : Ending → Hp → Prop) (za0 : Addr) (za1 : Addr) (b30 : Bool) (n31 : Int) (nx0 : List Value → Hp → Prop) : Hp → Prop :=
 RDL (Addr.add za0 1) fun x32 l33 c34 =>
 BR (decide (n31 < (↑l33 : Int)))
 (RDL (Addr.add za0 1) fun x35 l36 c37 =>
 IXS x35 l36 n31 4 fun a38 =>
 RDI .i64 (Addr.add a38 0) fun n39 =>
 RDI .i64 (Addr.add a38 1) fun n40 =>
 RDI .i64 (Addr.add a38 2) fun n41 =>
 RDI .i64 (Addr.add a38 3) fun n42 =>
 RDL (Addr.add za1 1) fun x43 l44 c45 =>
 IXS x43 l44 n31 4 fun a46 =>
 RDI .i64 (Addr.add a46 0) fun n47 =>
 RDI .i64 (Addr.add a46 1) fun n48 =>
 RDI .i64 (Addr.add a46 2) fun n49 =>
 RDI .i64 (Addr.add a46 3) fun n50 =>
 BR (!((n39 == n47) && ((n40 == n48) && ((n41 == n49) && (n42 == n50)))))
 (R (.returned (.bool false)))
 (NX [(.pointer (some za0)), (.pointer (some za1)), (.tuple #[])] [(.pointer (some za0)), (.pointer (some za1)), (.tuple #[])] (nx0 [(.bool b30), (.int .i64 (IntKind.wrap .i64 (n31 + 1)))])))
 (L_ref14_SamePegs_1 W R za0 za1 b30 0)
theorem B_ref14_SamePegs_0_eq (W : World) (R : Ending → Hp → Prop) (za0 : Addr) (za1 : Addr) (b30 : Bool) (n31 : Int) (nx0 : List Value → Hp → Prop) (j : Tm) : vc Pg W 64 rs_22 an_22 false (sub (bodyOf Tryz.f22) [1, 1, 0, 1, 0, 0]) 0 (KLoop [4, 5] [2, 3, 64] [(.pointer (some za0)), (.pointer (some za1)), (.tuple #[])] nx0 (KBlk 0 (KS Pg W 64 rs_22 an_22 false (sub (bodyOf Tryz.f22) [1, 1, 1]) 0 (fin Pg W 64 rv_22 R)))) (known [4, 5] [(.bool b30), (.int .i64 n31)] (known [2, 3, 64] [(.pointer (some za0)), (.pointer (some za1)), (.tuple #[])] j)) = B_ref14_SamePegs_0 W R za0 za1 b30 n31 nx0 := by kernel_rfl
def N_ref14_SamePegs_0 (I : Bool → Int → Hp → Prop) (μ : Bool → Int → Hp → Nat) (b300 : Bool) (n310 : Int) (s : Hp) (vs : List Value) : Hp → Prop := fun s' => ∃ b30 n31, vs = [(.bool b30), (.int .i64 n31)] ∧ I b30 n31 s' ∧ μ b30 n31 s' < μ b300 n310 s
theorem L_ref14_SamePegs_0_rule (W : World) (R : Ending → Hp → Prop) (za0 : Addr) (za1 : Addr) (I : Bool → Int → Hp → Prop) (μ : Bool → Int → Hp → Nat) (b300 : Bool) (n310 : Int) (s : Hp) (h0 : I b300 n310 s)
    (hr : ∀ (b30 : Bool) (n31 : Int) (s : Hp), I b30 n31 s → B_ref14_SamePegs_0 W R za0 za1 b30 n31 (fun vs => N_ref14_SamePegs_0 I μ b30 n31 s vs) s) : L_ref14_SamePegs_0 W R za0 za1 b300 n310 s := by
  refine ⟨fun vs s => ∃ b30 n31, vs = [(.bool b30), (.int .i64 n31)] ∧ I b30 n31 s, fun vs s => (match vs with | [.bool b30, .int _ n31] => μ b30 n31 s | _ => 0), ⟨⟨⟨_, rfl⟩, ⟨⟨_, rfl⟩, trivial⟩⟩, ⟨_, _, rfl, h0⟩⟩, ?_⟩
  intro b30 n31 s hI j
  obtain ⟨b30', n31', hy, hI⟩ := hI
  have hI' : I b30 n31 s := by cases hy; exact hI
  have hh := hr b30 n31 s hI'
  rw [← B_ref14_SamePegs_0_eq W R za0 za1 b30 n31 _ j] at hh
  refine vc_mono ?_ _ _ hh
  exact KLoop_mono (fun vs s' h => by obtain ⟨b301, n311, rfl, h1, h2⟩ := h; exact ⟨⟨⟨_, rfl⟩, ⟨⟨_, rfl⟩, trivial⟩⟩, ⟨_, _, rfl, h1⟩, h2⟩)
def B_ref14_SamePegs_1 (W : World) (R : Ending → Hp → Prop) (za0 : Addr) (za1 : Addr) (b51 : Bool) (n52 : Int) (nx1 : List Value → Hp → Prop) : Hp → Prop :=
 RDL (Addr.add za0 2) fun x53 l54 c55 =>
 BR (decide (n52 < (↑l54 : Int)))
 (RDL (Addr.add za0 2) fun x56 l57 c58 =>
 IXS x56 l57 n52 4 fun a59 =>
 RDI .i64 (Addr.add a59 0) fun n60 =>
 RDI .i64 (Addr.add a59 1) fun n61 =>
 RDI .i64 (Addr.add a59 2) fun n62 =>
 RDI .i64 (Addr.add a59 3) fun n63 =>
 RDL (Addr.add za1 2) fun x64 l65 c66 =>
 IXS x64 l65 n52 4 fun a67 =>
 RDI .i64 (Addr.add a67 0) fun n68 =>
 RDI .i64 (Addr.add a67 1) fun n69 =>
 RDI .i64 (Addr.add a67 2) fun n70 =>
 RDI .i64 (Addr.add a67 3) fun n71 =>
 BR (!((n60 == n68) && ((n61 == n69) && ((n62 == n70) && (n63 == n71)))))
 (R (.returned (.bool false)))
 (NX [(.pointer (some za0)), (.pointer (some za1)), (.tuple #[])] [(.pointer (some za0)), (.pointer (some za1)), (.tuple #[])] (nx1 [(.bool b51), (.int .i64 (IntKind.wrap .i64 (n52 + 1)))])))
 (RDI .i64 (Addr.add za0 0) fun n72 =>
 RDI .i64 (Addr.add za1 0) fun n73 =>
 R (.returned (.bool (n72 == n73))))
theorem B_ref14_SamePegs_1_eq (W : World) (R : Ending → Hp → Prop) (za0 : Addr) (za1 : Addr) (b51 : Bool) (n52 : Int) (nx1 : List Value → Hp → Prop) (j : Tm) : vc Pg W 64 rs_22 an_22 false (sub (bodyOf Tryz.f22) [1, 1, 1, 0, 1, 0, 0]) 2 (KLoop [4, 6] [2, 3, 64] [(.pointer (some za0)), (.pointer (some za1)), (.tuple #[])] nx1 (KBlk 2 (KS Pg W 64 rs_22 an_22 false (sub (bodyOf Tryz.f22) [1, 1, 1, 1]) 0 (fin Pg W 64 rv_22 R)))) (known [4, 6] [(.bool b51), (.int .i64 n52)] (known [2, 3, 64] [(.pointer (some za0)), (.pointer (some za1)), (.tuple #[])] j)) = B_ref14_SamePegs_1 W R za0 za1 b51 n52 nx1 := by kernel_rfl
def N_ref14_SamePegs_1 (I : Bool → Int → Hp → Prop) (μ : Bool → Int → Hp → Nat) (b510 : Bool) (n520 : Int) (s : Hp) (vs : List Value) : Hp → Prop := fun s' => ∃ b51 n52, vs = [(.bool b51), (.int .i64 n52)] ∧ I b51 n52 s' ∧ μ b51 n52 s' < μ b510 n520 s
theorem L_ref14_SamePegs_1_rule (W : World) (R : Ending → Hp → Prop) (za0 : Addr) (za1 : Addr) (I : Bool → Int → Hp → Prop) (μ : Bool → Int → Hp → Nat) (b510 : Bool) (n520 : Int) (s : Hp) (h0 : I b510 n520 s)
    (hr : ∀ (b51 : Bool) (n52 : Int) (s : Hp), I b51 n52 s → B_ref14_SamePegs_1 W R za0 za1 b51 n52 (fun vs => N_ref14_SamePegs_1 I μ b51 n52 s vs) s) : L_ref14_SamePegs_1 W R za0 za1 b510 n520 s := by
  refine ⟨fun vs s => ∃ b51 n52, vs = [(.bool b51), (.int .i64 n52)] ∧ I b51 n52 s, fun vs s => (match vs with | [.bool b51, .int _ n52] => μ b51 n52 s | _ => 0), ⟨⟨⟨_, rfl⟩, ⟨⟨_, rfl⟩, trivial⟩⟩, ⟨_, _, rfl, h0⟩⟩, ?_⟩
  intro b51 n52 s hI j
  obtain ⟨b51', n52', hy, hI⟩ := hI
  have hI' : I b51 n52 s := by cases hy; exact hI
  have hh := hr b51 n52 s hI'
  rw [← B_ref14_SamePegs_1_eq W R za0 za1 b51 n52 _ j] at hh
  refine vc_mono ?_ _ _ hh
  exact KLoop_mono (fun vs s' h => by obtain ⟨b511, n521, rfl, h1, h2⟩ := h; exact ⟨⟨⟨_, rfl⟩, ⟨⟨_, rfl⟩, trivial⟩⟩, ⟨_, _, rfl, h1⟩, h2⟩)
def T_ref14_SamePegs (W : World) (n1 : Int) (x2 : Option Addr) (l3 : Nat) (c4 : Nat) (x5 : Option Addr) (l6 : Nat) (c7 : Nat) (n8 : Int) (x9 : Option Addr) (l10 : Nat) (c11 : Nat) (x12 : Option Addr) (l13 : Nat) (c14 : Nat) (R : Ending → Hp → Prop) : Hp → Prop :=
 NEW 25 [(.int .i64 n1), (.slice x2 l3 c4), (.slice x5 l6 c7)] fun B15 =>
 NEW 25 [(.int .i64 n8), (.slice x9 l10 c11), (.slice x12 l13 c14)] fun B16 =>
 RDL (Addr.add ⟨B15, 0, none⟩ 1) fun x17 l18 c19 =>
 RDL (Addr.add ⟨B16, 0, none⟩ 1) fun x20 l21 c22 =>
 BR ((↑l18 : Int) != (↑l21 : Int))
 (J_ref14_SamePegs_0 W R true B15 B16)
 (RDL (Addr.add ⟨B15, 0, none⟩ 2) fun x24 l25 c26 =>
 RDL (Addr.add ⟨B16, 0, none⟩ 2) fun x27 l28 c29 =>
 J_ref14_SamePegs_0 W R ((↑l25 : Int) != (↑l28 : Int)) B15 B16)
theorem does_ref14_SamePegs (W : World) (n1 : Int) (x2 : Option Addr) (l3 : Nat) (c4 : Nat) (x5 : Option Addr) (l6 : Nat) (c7 : Nat) (n8 : Int) (x9 : Option Addr) (l10 : Nat) (c11 : Nat) (x12 : Option Addr) (l13 : Nat) (c14 : Nat) (R : Ending → Hp → Prop) (s : Hp) (h : T_ref14_SamePegs W n1 x2 l3 c4 x5 l6 c7 n8 x9 l10 c11 x12 l13 c14 R s) : Does Pg W F_ref14_SamePegs #[(.agg #[(.int .i64 n1), (.slice x2 l3 c4), (.slice x5 l6 c7)]), (.agg #[(.int .i64 n8), (.slice x9 l10 c11), (.slice x12 l13 c14)])] s R :=
  does_of_vfun Pg W an_22 Tryz.func22 rfl (by kernel_rfl) (Eq.mpr (by kernel_rfl) h)
def an_23 : Nat → Ann := fun b => match b with
 | 0 => { ms := [4, 5], ks := [.b, .i .i64], us := [2, 3, 43], rt := false, ex := [] }
 | _ => {}
abbrev rv_23 : List ResultVar := [.tmp 4]
abbrev rs_23 : List Nat := [43, 4]
def L_ref14_SamePanels_0 (W : World) (R : Ending → Hp → Prop) (za0 : Addr) (za1 : Addr) (b27 : Bool) (n28 : Int) : Hp → Prop :=
 LOOPN [.b, .i .i64] (fun ys next s => ∀ j : Tm, vc Pg W 43 rs_23 an_23 false (sub (bodyOf Tryz.f23) [1, 1, 0, 1, 0, 0]) 0 (KLoop [4, 5] [2, 3, 43] [(.pointer (some za0)), (.pointer (some za1)), (.tuple #[])] next (KBlk 0 (KS Pg W 43 rs_23 an_23 false (sub (bodyOf Tryz.f23) [1, 1, 1]) 0 (fin Pg W 43 rv_23 R)))) (known [4, 5] ys (known [2, 3, 43] [(.pointer (some za0)), (.pointer (some za1)), (.tuple #[])] j)) s) [(.bool b27), (.int .i64 n28)]
def B_ref14_SamePanels_0 (W : World) (R : Ending → Hp → Prop) (za0 : Addr) (za1 : Addr) (b27 : Bool) (n28 : Int) (nx0 : List Value → Hp → Prop) : Hp → Prop :=
 RDL (Addr.add za0 2) fun x29 l30 c31 =>
 BR (decide (n28 < (↑l30 : Int)))
 (RDL (Addr.add za0 2) fun x32 l33 c34 =>
 IXS x32 l33 n28 2 fun a35 =>
 RDI .i64 (Addr.add a35 0) fun n36 =>
 RDI .i64 (Addr.add a35 1) fun n37 =>
 RDL (Addr.add za1 2) fun x38 l39 c40 =>
 IXS x38 l39 n28 2 fun a41 =>
 RDI .i64 (Addr.add a41 0) fun n42 =>
 RDI .i64 (Addr.add a41 1) fun n43 =>
 BR (!((n36 == n42) && (n37 == n43)))
 (R (.returned (.bool false)))
 (NX [(.pointer (some za0)), (.pointer (some za1)), (.tuple #[])] [(.pointer (some za0)), (.pointer (some za1)), (.tuple #[])] (nx0 [(.bool b27), (.int .i64 (IntKind.wrap .i64 (n28 + 1)))])))
 (RDL (Addr.add za0 0) fun x44 l45 c46 =>
 RDL (Addr.add za1 0) fun x47 l48 c49 =>
 CALL Pg W F_ref09_Ints [(.slice x44 l45 c46), (.slice x47 l48 c49)]
 (fun v50 => TYB v50 fun b52 =>
 BR b52
 (RDL (Addr.add za0 1) fun x53 l54 c55 =>
 RDL (Addr.add za1 1) fun x56 l57 c58 =>
 CALL Pg W F_ref09_Ints [(.slice x53 l54 c55), (.slice x56 l57 c58)]
 (fun v59 => TYB v59 fun b61 =>
 R (.returned (.bool b61)))
 (fun e60 => R (.panicked e60)))
 (R (.returned (.bool false))))
 (fun e51 => R (.panicked e51)))
theorem B_ref14_SamePanels_0_eq (W : World) (R : Ending → Hp → Prop) (za0 : Addr) (za1 : Addr) (b27 : Bool) (n28 : Int) (nx0 : List Value → Hp → Prop) (j : Tm) : vc Pg W 43 rs_23 an_23 false (sub (bodyOf Tryz.f23) [1, 1, 0, 1, 0, 0]) 0 (KLoop [4, 5] [2, 3, 43] [(.pointer (some za0)), (.pointer (some za1)), (.tuple #[])] nx0 (KBlk 0 (KS Pg W 43 rs_23 an_23 false (sub (bodyOf Tryz.f23) [1, 1, 1]) 0 (fin Pg W 43 rv_23 R)))) (known [4, 5] [(.bool b27), (.int .i64 n28)] (known [2, 3, 43] [(.pointer (some za0)), (.pointer (some za1)), (.tuple #[])] j)) = B_ref14_SamePanels_0 W R za0 za1 b27 n28 nx0 := by kernel_rfl
def N_ref14_SamePanels_0 (I : Bool → Int → Hp → Prop) (μ : Bool → Int → Hp → Nat) (b270 : Bool) (n280 : Int) (s : Hp) (vs : List Value) : Hp → Prop := fun s' => ∃ b27 n28, vs = [(.bool b27), (.int .i64 n28)] ∧ I b27 n28 s' ∧ μ b27 n28 s' < μ b270 n280 s
theorem L_ref14_SamePanels_0_rule (W : World) (R : Ending → Hp → Prop) (za0 : Addr) (za1 : Addr) (I : Bool → Int → Hp → Prop) (μ : Bool → Int → Hp → Nat) (b270 : Bool) (n280 : Int) (s : Hp) (h0 : I b270 n280 s)
    (hr : ∀ (b27 : Bool) (n28 : Int) (s : Hp), I b27 n28 s → B_ref14_SamePanels_0 W R za0 za1 b27 n28 (fun vs => N_ref14_SamePanels_0 I μ b27 n28 s vs) s) : L_ref14_SamePanels_0 W R za0 za1 b270 n280 s := by
  refine ⟨fun vs s => ∃ b27 n28, vs = [(.bool b27), (.int .i64 n28)] ∧ I b27 n28 s, fun vs s => (match vs with | [.bool b27, .int _ n28] => μ b27 n28 s | _ => 0), ⟨⟨⟨_, rfl⟩, ⟨⟨_, rfl⟩, trivial⟩⟩, ⟨_, _, rfl, h0⟩⟩, ?_⟩
  intro b27 n28 s hI j
  obtain ⟨b27', n28', hy, hI⟩ := hI
  have hI' : I b27 n28 s := by cases hy; exact hI
  have hh := hr b27 n28 s hI'
  rw [← B_ref14_SamePanels_0_eq W R za0 za1 b27 n28 _ j] at hh
  refine vc_mono ?_ _ _ hh
  exact KLoop_mono (fun vs s' h => by obtain ⟨b271, n281, rfl, h1, h2⟩ := h; exact ⟨⟨⟨_, rfl⟩, ⟨⟨_, rfl⟩, trivial⟩⟩, ⟨_, _, rfl, h1⟩, h2⟩)
def T_ref14_SamePanels (W : World) (x1 : Option Addr) (l2 : Nat) (c3 : Nat) (x4 : Option Addr) (l5 : Nat) (c6 : Nat) (x7 : Option Addr) (l8 : Nat) (c9 : Nat) (x10 : Option Addr) (l11 : Nat) (c12 : Nat) (x13 : Option Addr) (l14 : Nat) (c15 : Nat) (x16 : Option Addr) (l17 : Nat) (c18 : Nat) (R : Ending → Hp → Prop) : Hp → Prop :=
 NEW 29 [(.slice x1 l2 c3), (.slice x4 l5 c6), (.slice x7 l8 c9)] fun B19 =>
 NEW 29 [(.slice x10 l11 c12), (.slice x13 l14 c15), (.slice x16 l17 c18)] fun B20 =>
 RDL (Addr.add ⟨B19, 0, none⟩ 2) fun x21 l22 c23 =>
 RDL (Addr.add ⟨B20, 0, none⟩ 2) fun x24 l25 c26 =>
 BR ((↑l22 : Int) != (↑l25 : Int))
 (R (.returned (.bool false)))
 (L_ref14_SamePanels_0 W R ⟨B19, 0, none⟩ ⟨B20, 0, none⟩ false 0)
theorem does_ref14_SamePanels (W : World) (x1 : Option Addr) (l2 : Nat) (c3 : Nat) (x4 : Option Addr) (l5 : Nat) (c6 : Nat) (x7 : Option Addr) (l8 : Nat) (c9 : Nat) (x10 : Option Addr) (l11 : Nat) (c12 : Nat) (x13 : Option Addr) (l14 : Nat) (c15 : Nat) (x16 : Option Addr) (l17 : Nat) (c18 : Nat) (R : Ending → Hp → Prop) (s : Hp) (h : T_ref14_SamePanels W x1 l2 c3 x4 l5 c6 x7 l8 c9 x10 l11 c12 x13 l14 c15 x16 l17 c18 R s) : Does Pg W F_ref14_SamePanels #[(.agg #[(.slice x1 l2 c3), (.slice x4 l5 c6), (.slice x7 l8 c9)]), (.agg #[(.slice x10 l11 c12), (.slice x13 l14 c15), (.slice x16 l17 c18)])] s R :=
  does_of_vfun Pg W an_23 Tryz.func23 rfl (by kernel_rfl) (Eq.mpr (by kernel_rfl) h)
def an_32 : Nat → Ann := fun b => match b with
 | 0 => { ms := [4, 5], ks := [.b, .i .i64], us := [2, 3, 78], rt := false, ex := [] }
 | 2 => { ms := [4, 6], ks := [.b, .i .i64], us := [2, 3, 78], rt := false, ex := [] }
 | _ => {}
abbrev rv_32 : List ResultVar := [.tmp 4]
abbrev rs_32 : List Nat := [78, 4]
def L_ref14_SameHearing_0 (W : World) (R : Ending → Hp → Prop) (za0 : Addr) (za1 : Addr) (b34 : Bool) (n35 : Int) : Hp → Prop :=
 LOOPN [.b, .i .i64] (fun ys next s => ∀ j : Tm, vc Pg W 78 rs_32 an_32 false (sub (bodyOf Tryz.f32) [1, 1, 0, 1, 0, 0]) 0 (KLoop [4, 5] [2, 3, 78] [(.pointer (some za0)), (.pointer (some za1)), (.tuple #[])] next (KBlk 0 (KS Pg W 78 rs_32 an_32 false (sub (bodyOf Tryz.f32) [1, 1, 1]) 0 (fin Pg W 78 rv_32 R)))) (known [4, 5] ys (known [2, 3, 78] [(.pointer (some za0)), (.pointer (some za1)), (.tuple #[])] j)) s) [(.bool b34), (.int .i64 n35)]
def L_ref14_SameHearing_1 (W : World) (R : Ending → Hp → Prop) (za0 : Addr) (za1 : Addr) (b63 : Bool) (n64 : Int) : Hp → Prop :=
 LOOPN [.b, .i .i64] (fun ys next s => ∀ j : Tm, vc Pg W 78 rs_32 an_32 false (sub (bodyOf Tryz.f32) [1, 1, 1, 0, 1, 0, 0]) 2 (KLoop [4, 6] [2, 3, 78] [(.pointer (some za0)), (.pointer (some za1)), (.tuple #[])] next (KBlk 2 (KS Pg W 78 rs_32 an_32 false (sub (bodyOf Tryz.f32) [1, 1, 1, 1]) 0 (fin Pg W 78 rv_32 R)))) (known [4, 6] ys (known [2, 3, 78] [(.pointer (some za0)), (.pointer (some za1)), (.tuple #[])] j)) s) [(.bool b63), (.int .i64 n64)]
def J_ref14_SameHearing_0 (W : World) (R : Ending → Hp → Prop) (b27 : Bool) (B19 : Nat) (B20 : Nat) : Hp → Prop :=
 BR b27
 (R (.returned (.bool false)))
 (L_ref14_SameHearing_0 W R ⟨B19, 0, none⟩ ⟨B20, 0, none⟩ false 0)
def B_ref14_SameHearing_0 (W : World) (R : Ending → Hp → Prop) (za0 : Addr) (za1 : Addr) (b34 : Bool) (n35 : Int) (nx0 : List Value → Hp → Prop) : Hp → Prop :=
 RDL (Addr.add za0 3) fun x36 l37 c38 =>
 BR (decide (n35 < (↑l37 : Int)))
 (RDL (Addr.add za0 3) fun x39 l40 c41 =>
 IXS x39 l40 n35 8 fun a42 =>
 RDI .i64 (Addr.add a42 0) fun n43 =>
 RDI .i64 (Addr.add a42 1) fun n44 =>
 RDB (Addr.add a42 2) fun b45 =>
 RDI .i64 (Addr.add a42 3) fun n46 =>
 RDB (Addr.add a42 4) fun b47 =>
 RDB (Addr.add a42 5) fun b48 =>
 RDI .i64 (Addr.add a42 6) fun n49 =>
 RDB (Addr.add a42 7) fun b50 =>
 RDL (Addr.add za1 3) fun x51 l52 c53 =>
 IXS x51 l52 n35 8 fun a54 =>
 RDI .i64 (Addr.add a54 0) fun n55 =>
 RDI .i64 (Addr.add a54 1) fun n56 =>
 RDB (Addr.add a54 2) fun b57 =>
 RDI .i64 (Addr.add a54 3) fun n58 =>
 RDB (Addr.add a54 4) fun b59 =>
 RDB (Addr.add a54 5) fun b60 =>
 RDI .i64 (Addr.add a54 6) fun n61 =>
 RDB (Addr.add a54 7) fun b62 =>
 BR (!((n43 == n55) && ((n44 == n56) && ((b45 == b57) && ((n46 == n58) && ((b47 == b59) && ((b48 == b60) && ((n49 == n61) && (b50 == b62)))))))))
 (R (.returned (.bool false)))
 (NX [(.pointer (some za0)), (.pointer (some za1)), (.tuple #[])] [(.pointer (some za0)), (.pointer (some za1)), (.tuple #[])] (nx0 [(.bool b34), (.int .i64 (IntKind.wrap .i64 (n35 + 1)))])))
 (L_ref14_SameHearing_1 W R za0 za1 b34 0)
theorem B_ref14_SameHearing_0_eq (W : World) (R : Ending → Hp → Prop) (za0 : Addr) (za1 : Addr) (b34 : Bool) (n35 : Int) (nx0 : List Value → Hp → Prop) (j : Tm) : vc Pg W 78 rs_32 an_32 false (sub (bodyOf Tryz.f32) [1, 1, 0, 1, 0, 0]) 0 (KLoop [4, 5] [2, 3, 78] [(.pointer (some za0)), (.pointer (some za1)), (.tuple #[])] nx0 (KBlk 0 (KS Pg W 78 rs_32 an_32 false (sub (bodyOf Tryz.f32) [1, 1, 1]) 0 (fin Pg W 78 rv_32 R)))) (known [4, 5] [(.bool b34), (.int .i64 n35)] (known [2, 3, 78] [(.pointer (some za0)), (.pointer (some za1)), (.tuple #[])] j)) = B_ref14_SameHearing_0 W R za0 za1 b34 n35 nx0 := by kernel_rfl
def N_ref14_SameHearing_0 (I : Bool → Int → Hp → Prop) (μ : Bool → Int → Hp → Nat) (b340 : Bool) (n350 : Int) (s : Hp) (vs : List Value) : Hp → Prop := fun s' => ∃ b34 n35, vs = [(.bool b34), (.int .i64 n35)] ∧ I b34 n35 s' ∧ μ b34 n35 s' < μ b340 n350 s
theorem L_ref14_SameHearing_0_rule (W : World) (R : Ending → Hp → Prop) (za0 : Addr) (za1 : Addr) (I : Bool → Int → Hp → Prop) (μ : Bool → Int → Hp → Nat) (b340 : Bool) (n350 : Int) (s : Hp) (h0 : I b340 n350 s)
    (hr : ∀ (b34 : Bool) (n35 : Int) (s : Hp), I b34 n35 s → B_ref14_SameHearing_0 W R za0 za1 b34 n35 (fun vs => N_ref14_SameHearing_0 I μ b34 n35 s vs) s) : L_ref14_SameHearing_0 W R za0 za1 b340 n350 s := by
  refine ⟨fun vs s => ∃ b34 n35, vs = [(.bool b34), (.int .i64 n35)] ∧ I b34 n35 s, fun vs s => (match vs with | [.bool b34, .int _ n35] => μ b34 n35 s | _ => 0), ⟨⟨⟨_, rfl⟩, ⟨⟨_, rfl⟩, trivial⟩⟩, ⟨_, _, rfl, h0⟩⟩, ?_⟩
  intro b34 n35 s hI j
  obtain ⟨b34', n35', hy, hI⟩ := hI
  have hI' : I b34 n35 s := by cases hy; exact hI
  have hh := hr b34 n35 s hI'
  rw [← B_ref14_SameHearing_0_eq W R za0 za1 b34 n35 _ j] at hh
  refine vc_mono ?_ _ _ hh
  exact KLoop_mono (fun vs s' h => by obtain ⟨b341, n351, rfl, h1, h2⟩ := h; exact ⟨⟨⟨_, rfl⟩, ⟨⟨_, rfl⟩, trivial⟩⟩, ⟨_, _, rfl, h1⟩, h2⟩)
def B_ref14_SameHearing_1 (W : World) (R : Ending → Hp → Prop) (za0 : Addr) (za1 : Addr) (b63 : Bool) (n64 : Int) (nx1 : List Value → Hp → Prop) : Hp → Prop :=
 RDL (Addr.add za0 4) fun x65 l66 c67 =>
 BR (decide (n64 < (↑l66 : Int)))
 (RDL (Addr.add za0 4) fun x68 l69 c70 =>
 IXS x68 l69 n64 3 fun a71 =>
 RDB (Addr.add a71 0) fun b72 =>
 RDI .i64 (Addr.add a71 1) fun n73 =>
 RDB (Addr.add a71 2) fun b74 =>
 RDL (Addr.add za1 4) fun x75 l76 c77 =>
 IXS x75 l76 n64 3 fun a78 =>
 RDB (Addr.add a78 0) fun b79 =>
 RDI .i64 (Addr.add a78 1) fun n80 =>
 RDB (Addr.add a78 2) fun b81 =>
 BR (!((b72 == b79) && ((n73 == n80) && (b74 == b81))))
 (R (.returned (.bool false)))
 (NX [(.pointer (some za0)), (.pointer (some za1)), (.tuple #[])] [(.pointer (some za0)), (.pointer (some za1)), (.tuple #[])] (nx1 [(.bool b63), (.int .i64 (IntKind.wrap .i64 (n64 + 1)))])))
 (RDI .i64 (Addr.add za0 0) fun n82 =>
 RDI .i64 (Addr.add za1 0) fun n83 =>
 BR (n82 == n83)
 (RDI .i64 (Addr.add za0 1) fun n84 =>
 RDI .i64 (Addr.add za1 1) fun n85 =>
 BR (n84 == n85)
 (RDI .i64 (Addr.add za0 2) fun n86 =>
 RDI .i64 (Addr.add za1 2) fun n87 =>
 R (.returned (.bool (n86 == n87))))
 (R (.returned (.bool false))))
 (R (.returned (.bool false))))
theorem B_ref14_SameHearing_1_eq (W : World) (R : Ending → Hp → Prop) (za0 : Addr) (za1 : Addr) (b63 : Bool) (n64 : Int) (nx1 : List Value → Hp → Prop) (j : Tm) : vc Pg W 78 rs_32 an_32 false (sub (bodyOf Tryz.f32) [1, 1, 1, 0, 1, 0, 0]) 2 (KLoop [4, 6] [2, 3, 78] [(.pointer (some za0)), (.pointer (some za1)), (.tuple #[])] nx1 (KBlk 2 (KS Pg W 78 rs_32 an_32 false (sub (bodyOf Tryz.f32) [1, 1, 1, 1]) 0 (fin Pg W 78 rv_32 R)))) (known [4, 6] [(.bool b63), (.int .i64 n64)] (known [2, 3, 78] [(.pointer (some za0)), (.pointer (some za1)), (.tuple #[])] j)) = B_ref14_SameHearing_1 W R za0 za1 b63 n64 nx1 := by kernel_rfl
def N_ref14_SameHearing_1 (I : Bool → Int → Hp → Prop) (μ : Bool → Int → Hp → Nat) (b630 : Bool) (n640 : Int) (s : Hp) (vs : List Value) : Hp → Prop := fun s' => ∃ b63 n64, vs = [(.bool b63), (.int .i64 n64)] ∧ I b63 n64 s' ∧ μ b63 n64 s' < μ b630 n640 s
theorem L_ref14_SameHearing_1_rule (W : World) (R : Ending → Hp → Prop) (za0 : Addr) (za1 : Addr) (I : Bool → Int → Hp → Prop) (μ : Bool → Int → Hp → Nat) (b630 : Bool) (n640 : Int) (s : Hp) (h0 : I b630 n640 s)
    (hr : ∀ (b63 : Bool) (n64 : Int) (s : Hp), I b63 n64 s → B_ref14_SameHearing_1 W R za0 za1 b63 n64 (fun vs => N_ref14_SameHearing_1 I μ b63 n64 s vs) s) : L_ref14_SameHearing_1 W R za0 za1 b630 n640 s := by
  refine ⟨fun vs s => ∃ b63 n64, vs = [(.bool b63), (.int .i64 n64)] ∧ I b63 n64 s, fun vs s => (match vs with | [.bool b63, .int _ n64] => μ b63 n64 s | _ => 0), ⟨⟨⟨_, rfl⟩, ⟨⟨_, rfl⟩, trivial⟩⟩, ⟨_, _, rfl, h0⟩⟩, ?_⟩
  intro b63 n64 s hI j
  obtain ⟨b63', n64', hy, hI⟩ := hI
  have hI' : I b63 n64 s := by cases hy; exact hI
  have hh := hr b63 n64 s hI'
  rw [← B_ref14_SameHearing_1_eq W R za0 za1 b63 n64 _ j] at hh
  refine vc_mono ?_ _ _ hh
  exact KLoop_mono (fun vs s' h => by obtain ⟨b631, n641, rfl, h1, h2⟩ := h; exact ⟨⟨⟨_, rfl⟩, ⟨⟨_, rfl⟩, trivial⟩⟩, ⟨_, _, rfl, h1⟩, h2⟩)
def T_ref14_SameHearing (W : World) (n1 : Int) (n2 : Int) (n3 : Int) (x4 : Option Addr) (l5 : Nat) (c6 : Nat) (x7 : Option Addr) (l8 : Nat) (c9 : Nat) (n10 : Int) (n11 : Int) (n12 : Int) (x13 : Option Addr) (l14 : Nat) (c15 : Nat) (x16 : Option Addr) (l17 : Nat) (c18 : Nat) (R : Ending → Hp → Prop) : Hp → Prop :=
 NEW 34 [(.int .i64 n1), (.int .i64 n2), (.int .i64 n3), (.slice x4 l5 c6), (.slice x7 l8 c9)] fun B19 =>
 NEW 34 [(.int .i64 n10), (.int .i64 n11), (.int .i64 n12), (.slice x13 l14 c15), (.slice x16 l17 c18)] fun B20 =>
 RDL (Addr.add ⟨B19, 0, none⟩ 3) fun x21 l22 c23 =>
 RDL (Addr.add ⟨B20, 0, none⟩ 3) fun x24 l25 c26 =>
 BR ((↑l22 : Int) != (↑l25 : Int))
 (J_ref14_SameHearing_0 W R true B19 B20)
 (RDL (Addr.add ⟨B19, 0, none⟩ 4) fun x28 l29 c30 =>
 RDL (Addr.add ⟨B20, 0, none⟩ 4) fun x31 l32 c33 =>
 J_ref14_SameHearing_0 W R ((↑l29 : Int) != (↑l32 : Int)) B19 B20)
theorem does_ref14_SameHearing (W : World) (n1 : Int) (n2 : Int) (n3 : Int) (x4 : Option Addr) (l5 : Nat) (c6 : Nat) (x7 : Option Addr) (l8 : Nat) (c9 : Nat) (n10 : Int) (n11 : Int) (n12 : Int) (x13 : Option Addr) (l14 : Nat) (c15 : Nat) (x16 : Option Addr) (l17 : Nat) (c18 : Nat) (R : Ending → Hp → Prop) (s : Hp) (h : T_ref14_SameHearing W n1 n2 n3 x4 l5 c6 x7 l8 c9 n10 n11 n12 x13 l14 c15 x16 l17 c18 R s) : Does Pg W F_ref14_SameHearing #[(.agg #[(.int .i64 n1), (.int .i64 n2), (.int .i64 n3), (.slice x4 l5 c6), (.slice x7 l8 c9)]), (.agg #[(.int .i64 n10), (.int .i64 n11), (.int .i64 n12), (.slice x13 l14 c15), (.slice x16 l17 c18)])] s R :=
  does_of_vfun Pg W an_32 Tryz.func32 rfl (by kernel_rfl) (Eq.mpr (by kernel_rfl) h)
def an_33 : Nat → Ann := fun b => match b with
 | _ => {}
abbrev rv_33 : List ResultVar := [.tmp 4]
abbrev rs_33 : List Nat := [10, 4]
def T_ref14_SameBytes (W : World) (x1 : Option Addr) (l2 : Nat) (c3 : Nat) (x4 : Option Addr) (l5 : Nat) (c6 : Nat) (R : Ending → Hp → Prop) : Hp → Prop :=
 B2S x1 l2 fun t7 =>
 B2S x4 l5 fun t8 =>
 R (.returned (.bool (seqB t7 t8)))
theorem does_ref14_SameBytes (W : World) (x1 : Option Addr) (l2 : Nat) (c3 : Nat) (x4 : Option Addr) (l5 : Nat) (c6 : Nat) (R : Ending → Hp → Prop) (s : Hp) (h : T_ref14_SameBytes W x1 l2 c3 x4 l5 c6 R s) : Does Pg W F_ref14_SameBytes #[(.slice x1 l2 c3), (.slice x4 l5 c6)] s R :=
  does_of_vfun Pg W an_33 Tryz.func33 rfl (by kernel_rfl) (Eq.mpr (by kernel_rfl) h)
def an_34 : Nat → Ann := fun b => match b with
 | _ => {}
abbrev rv_34 : List ResultVar := [.tmp 4]
abbrev rs_34 : List Nat := [24, 4]
def J_ref14_SameFurrow_0 (W : World) (R : Ending → Hp → Prop) (b39 : Bool) (B19 : Nat) (B20 : Nat) : Hp → Prop :=
 BR b39
 (RDL (Addr.add ⟨B19, 0, none⟩ 2) fun x40 l41 c42 =>
 RDL (Addr.add ⟨B20, 0, none⟩ 2) fun x43 l44 c45 =>
 CALL Pg W F_ref14_spans [(.slice x40 l41 c42), (.slice x43 l44 c45)]
 (fun v46 => TYB v46 fun b48 =>
 R (.returned (.bool b48)))
 (fun e47 => R (.panicked e47)))
 (R (.returned (.bool false)))
def T_ref14_SameFurrow (W : World) (x1 : Option Addr) (l2 : Nat) (c3 : Nat) (x4 : Option Addr) (l5 : Nat) (c6 : Nat) (x7 : Option Addr) (l8 : Nat) (c9 : Nat) (x10 : Option Addr) (l11 : Nat) (c12 : Nat) (x13 : Option Addr) (l14 : Nat) (c15 : Nat) (x16 : Option Addr) (l17 : Nat) (c18 : Nat) (R : Ending → Hp → Prop) : Hp → Prop :=
 NEW 37 [(.slice x1 l2 c3), (.slice x4 l5 c6), (.slice x7 l8 c9)] fun B19 =>
 NEW 37 [(.slice x10 l11 c12), (.slice x13 l14 c15), (.slice x16 l17 c18)] fun B20 =>
 RDL (Addr.add ⟨B19, 0, none⟩ 0) fun x21 l22 c23 =>
 RDL (Addr.add ⟨B20, 0, none⟩ 0) fun x24 l25 c26 =>
 CALL Pg W F_ref14_spans [(.slice x21 l22 c23), (.slice x24 l25 c26)]
 (fun v27 => TYB v27 fun b29 =>
 BR b29
 (RDL (Addr.add ⟨B19, 0, none⟩ 1) fun x30 l31 c32 =>
 RDL (Addr.add ⟨B20, 0, none⟩ 1) fun x33 l34 c35 =>
 CALL Pg W F_ref14_spans [(.slice x30 l31 c32), (.slice x33 l34 c35)]
 (fun v36 => TYB v36 fun b38 =>
 J_ref14_SameFurrow_0 W R b38 B19 B20)
 (fun e37 => R (.panicked e37)))
 (J_ref14_SameFurrow_0 W R false B19 B20))
 (fun e28 => R (.panicked e28))
theorem does_ref14_SameFurrow (W : World) (x1 : Option Addr) (l2 : Nat) (c3 : Nat) (x4 : Option Addr) (l5 : Nat) (c6 : Nat) (x7 : Option Addr) (l8 : Nat) (c9 : Nat) (x10 : Option Addr) (l11 : Nat) (c12 : Nat) (x13 : Option Addr) (l14 : Nat) (c15 : Nat) (x16 : Option Addr) (l17 : Nat) (c18 : Nat) (R : Ending → Hp → Prop) (s : Hp) (h : T_ref14_SameFurrow W x1 l2 c3 x4 l5 c6 x7 l8 c9 x10 l11 c12 x13 l14 c15 x16 l17 c18 R s) : Does Pg W F_ref14_SameFurrow #[(.agg #[(.slice x1 l2 c3), (.slice x4 l5 c6), (.slice x7 l8 c9)]), (.agg #[(.slice x10 l11 c12), (.slice x13 l14 c15), (.slice x16 l17 c18)])] s R :=
  does_of_vfun Pg W an_34 Tryz.func34 rfl (by kernel_rfl) (Eq.mpr (by kernel_rfl) h)
def an_35 : Nat → Ann := fun b => match b with
 | 0 => { ms := [3, 4], ks := [.i .i64, .i .i64], us := [0, 2, 23], rt := false, ex := [] }
 | _ => {}
abbrev rv_35 : List ResultVar := [.tmp 2]
abbrev rs_35 : List Nat := [23, 2]
def L_ref14_Check_0 (W : World) (R : Ending → Hp → Prop) (zp0 : Option Addr) (zl1 : Nat) (zl2 : Nat) (n4 : Int) (n5 : Int) : Hp → Prop :=
 LOOPN [.i .i64, .i .i64] (fun ys next s => ∀ j : Tm, vc Pg W 23 rs_35 an_35 false (sub (bodyOf Tryz.f35) [1, 1, 0, 1, 0, 0]) 0 (KLoop [3, 4] [0, 2, 23] [(.slice zp0 zl1 zl2), (.int .i64 0), (.tuple #[])] next (KBlk 0 (KS Pg W 23 rs_35 an_35 false (sub (bodyOf Tryz.f35) [1, 1, 1]) 0 (fin Pg W 23 rv_35 R)))) (known [3, 4] ys (known [0, 2, 23] [(.slice zp0 zl1 zl2), (.int .i64 0), (.tuple #[])] j)) s) [(.int .i64 n4), (.int .i64 n5)]
def B_ref14_Check_0 (W : World) (R : Ending → Hp → Prop) (zp0 : Option Addr) (zl1 : Nat) (zl2 : Nat) (n4 : Int) (n5 : Int) (nx0 : List Value → Hp → Prop) : Hp → Prop :=
 BR (decide (n5 < (↑zl1 : Int)))
 (IXS zp0 zl1 n5 1 fun a6 =>
 RDI .u8 a6 fun n7 =>
 NX [(.slice zp0 zl1 zl2), (.int .i64 0), (.tuple #[])] [(.slice zp0 zl1 zl2), (.int .i64 0), (.tuple #[])] (nx0 [(.int .i64 (Int.tmod (IntKind.wrap .i64 (n4 + (IntKind.wrap .i64 ((IntKind.wrap .i64 (n5 + 1)) * (IntKind.wrap .i64 n7))))) 65521)), (.int .i64 (IntKind.wrap .i64 (n5 + 1)))]))
 (R (.returned (.int .i64 n4)))
theorem B_ref14_Check_0_eq (W : World) (R : Ending → Hp → Prop) (zp0 : Option Addr) (zl1 : Nat) (zl2 : Nat) (n4 : Int) (n5 : Int) (nx0 : List Value → Hp → Prop) (j : Tm) : vc Pg W 23 rs_35 an_35 false (sub (bodyOf Tryz.f35) [1, 1, 0, 1, 0, 0]) 0 (KLoop [3, 4] [0, 2, 23] [(.slice zp0 zl1 zl2), (.int .i64 0), (.tuple #[])] nx0 (KBlk 0 (KS Pg W 23 rs_35 an_35 false (sub (bodyOf Tryz.f35) [1, 1, 1]) 0 (fin Pg W 23 rv_35 R)))) (known [3, 4] [(.int .i64 n4), (.int .i64 n5)] (known [0, 2, 23] [(.slice zp0 zl1 zl2), (.int .i64 0), (.tuple #[])] j)) = B_ref14_Check_0 W R zp0 zl1 zl2 n4 n5 nx0 := by kernel_rfl
def N_ref14_Check_0 (I : Int → Int → Hp → Prop) (μ : Int → Int → Hp → Nat) (n40 : Int) (n50 : Int) (s : Hp) (vs : List Value) : Hp → Prop := fun s' => ∃ n4 n5, vs = [(.int .i64 n4), (.int .i64 n5)] ∧ I n4 n5 s' ∧ μ n4 n5 s' < μ n40 n50 s
theorem L_ref14_Check_0_rule (W : World) (R : Ending → Hp → Prop) (zp0 : Option Addr) (zl1 : Nat) (zl2 : Nat) (I : Int → Int → Hp → Prop) (μ : Int → Int → Hp → Nat) (n40 : Int) (n50 : Int) (s : Hp) (h0 : I n40 n50 s)
    (hr : ∀ (n4 : Int) (n5 : Int) (s : Hp), I n4 n5 s → B_ref14_Check_0 W R zp0 zl1 zl2 n4 n5 (fun vs => N_ref14_Check_0 I μ n4 n5 s vs) s) : L_ref14_Check_0 W R zp0 zl1 zl2 n40 n50 s := by
  refine ⟨fun vs s => ∃ n4 n5, vs = [(.int .i64 n4), (.int .i64 n5)] ∧ I n4 n5 s, fun vs s => (match vs with | [.int _ n4, .int _ n5] => μ n4 n5 s | _ => 0), ⟨⟨⟨_, rfl⟩, ⟨⟨_, rfl⟩, trivial⟩⟩, ⟨_, _, rfl, h0⟩⟩, ?_⟩
  intro n4 n5 s hI j
  obtain ⟨n4', n5', hy, hI⟩ := hI
  have hI' : I n4 n5 s := by cases hy; exact hI
  have hh := hr n4 n5 s hI'
  rw [← B_ref14_Check_0_eq W R zp0 zl1 zl2 n4 n5 _ j] at hh
  refine vc_mono ?_ _ _ hh
  exact KLoop_mono (fun vs s' h => by obtain ⟨n41, n51, rfl, h1, h2⟩ := h; exact ⟨⟨⟨_, rfl⟩, ⟨⟨_, rfl⟩, trivial⟩⟩, ⟨_, _, rfl, h1⟩, h2⟩)
def T_ref14_Check (W : World) (x1 : Option Addr) (l2 : Nat) (c3 : Nat) (R : Ending → Hp → Prop) : Hp → Prop :=
 L_ref14_Check_0 W R x1 l2 c3 0 0
theorem does_ref14_Check (W : World) (x1 : Option Addr) (l2 : Nat) (c3 : Nat) (R : Ending → Hp → Prop) (s : Hp) (h : T_ref14_Check W x1 l2 c3 R s) : Does Pg W F_ref14_Check #[(.slice x1 l2 c3)] s R :=
  does_of_vfun Pg W an_35 Tryz.func35 rfl (by kernel_rfl) (Eq.mpr (by kernel_rfl) h)
def an_42 : Nat → Ann := fun b => match b with
 | 0 => { ms := [4, 5], ks := [.b, .i .i64], us := [0, 1, 26], rt := false, ex := [] }
 | _ => {}
abbrev rv_42 : List ResultVar := [.tmp 4]
abbrev rs_42 : List Nat := [26, 4]
def L_ref09_Ints_0 (W : World) (R : Ending → Hp → Prop) (zp0 : Option Addr) (zl1 : Nat) (zl2 : Nat) (zp3 : Option Addr) (zl4 : Nat) (zl5 : Nat) (b7 : Bool) (n8 : Int) : Hp → Prop :=
 LOOPN [.b, .i .i64] (fun ys next s => ∀ j : Tm, vc Pg W 26 rs_42 an_42 false (sub (bodyOf Tryz.f42) [1, 1, 0, 1, 0, 0]) 0 (KLoop [4, 5] [0, 1, 26] [(.slice zp0 zl1 zl2), (.slice zp3 zl4 zl5), (.tuple #[])] next (KBlk 0 (KS Pg W 26 rs_42 an_42 false (sub (bodyOf Tryz.f42) [1, 1, 1]) 0 (fin Pg W 26 rv_42 R)))) (known [4, 5] ys (known [0, 1, 26] [(.slice zp0 zl1 zl2), (.slice zp3 zl4 zl5), (.tuple #[])] j)) s) [(.bool b7), (.int .i64 n8)]
def B_ref09_Ints_0 (W : World) (R : Ending → Hp → Prop) (zp0 : Option Addr) (zl1 : Nat) (zl2 : Nat) (zp3 : Option Addr) (zl4 : Nat) (zl5 : Nat) (b7 : Bool) (n8 : Int) (nx0 : List Value → Hp → Prop) : Hp → Prop :=
 BR (decide (n8 < (↑zl1 : Int)))
 (IXS zp0 zl1 n8 1 fun a9 =>
 RDI .i64 a9 fun n10 =>
 IXS zp3 zl4 n8 1 fun a11 =>
 RDI .i64 a11 fun n12 =>
 BR (n10 != n12)
 (R (.returned (.bool false)))
 (NX [(.slice zp0 zl1 zl2), (.slice zp3 zl4 zl5), (.tuple #[])] [(.slice zp0 zl1 zl2), (.slice zp3 zl4 zl5), (.tuple #[])] (nx0 [(.bool b7), (.int .i64 (IntKind.wrap .i64 (n8 + 1)))])))
 (R (.returned (.bool true)))
theorem B_ref09_Ints_0_eq (W : World) (R : Ending → Hp → Prop) (zp0 : Option Addr) (zl1 : Nat) (zl2 : Nat) (zp3 : Option Addr) (zl4 : Nat) (zl5 : Nat) (b7 : Bool) (n8 : Int) (nx0 : List Value → Hp → Prop) (j : Tm) : vc Pg W 26 rs_42 an_42 false (sub (bodyOf Tryz.f42) [1, 1, 0, 1, 0, 0]) 0 (KLoop [4, 5] [0, 1, 26] [(.slice zp0 zl1 zl2), (.slice zp3 zl4 zl5), (.tuple #[])] nx0 (KBlk 0 (KS Pg W 26 rs_42 an_42 false (sub (bodyOf Tryz.f42) [1, 1, 1]) 0 (fin Pg W 26 rv_42 R)))) (known [4, 5] [(.bool b7), (.int .i64 n8)] (known [0, 1, 26] [(.slice zp0 zl1 zl2), (.slice zp3 zl4 zl5), (.tuple #[])] j)) = B_ref09_Ints_0 W R zp0 zl1 zl2 zp3 zl4 zl5 b7 n8 nx0 := by kernel_rfl
def N_ref09_Ints_0 (I : Bool → Int → Hp → Prop) (μ : Bool → Int → Hp → Nat) (b70 : Bool) (n80 : Int) (s : Hp) (vs : List Value) : Hp → Prop := fun s' => ∃ b7 n8, vs = [(.bool b7), (.int .i64 n8)] ∧ I b7 n8 s' ∧ μ b7 n8 s' < μ b70 n80 s
theorem L_ref09_Ints_0_rule (W : World) (R : Ending → Hp → Prop) (zp0 : Option Addr) (zl1 : Nat) (zl2 : Nat) (zp3 : Option Addr) (zl4 : Nat) (zl5 : Nat) (I : Bool → Int → Hp → Prop) (μ : Bool → Int → Hp → Nat) (b70 : Bool) (n80 : Int) (s : Hp) (h0 : I b70 n80 s)
    (hr : ∀ (b7 : Bool) (n8 : Int) (s : Hp), I b7 n8 s → B_ref09_Ints_0 W R zp0 zl1 zl2 zp3 zl4 zl5 b7 n8 (fun vs => N_ref09_Ints_0 I μ b7 n8 s vs) s) : L_ref09_Ints_0 W R zp0 zl1 zl2 zp3 zl4 zl5 b70 n80 s := by
  refine ⟨fun vs s => ∃ b7 n8, vs = [(.bool b7), (.int .i64 n8)] ∧ I b7 n8 s, fun vs s => (match vs with | [.bool b7, .int _ n8] => μ b7 n8 s | _ => 0), ⟨⟨⟨_, rfl⟩, ⟨⟨_, rfl⟩, trivial⟩⟩, ⟨_, _, rfl, h0⟩⟩, ?_⟩
  intro b7 n8 s hI j
  obtain ⟨b7', n8', hy, hI⟩ := hI
  have hI' : I b7 n8 s := by cases hy; exact hI
  have hh := hr b7 n8 s hI'
  rw [← B_ref09_Ints_0_eq W R zp0 zl1 zl2 zp3 zl4 zl5 b7 n8 _ j] at hh
  refine vc_mono ?_ _ _ hh
  exact KLoop_mono (fun vs s' h => by obtain ⟨b71, n81, rfl, h1, h2⟩ := h; exact ⟨⟨⟨_, rfl⟩, ⟨⟨_, rfl⟩, trivial⟩⟩, ⟨_, _, rfl, h1⟩, h2⟩)
def T_ref09_Ints (W : World) (x1 : Option Addr) (l2 : Nat) (c3 : Nat) (x4 : Option Addr) (l5 : Nat) (c6 : Nat) (R : Ending → Hp → Prop) : Hp → Prop :=
 BR ((↑l2 : Int) != (↑l5 : Int))
 (R (.returned (.bool false)))
 (L_ref09_Ints_0 W R x1 l2 c3 x4 l5 c6 false 0)
theorem does_ref09_Ints (W : World) (x1 : Option Addr) (l2 : Nat) (c3 : Nat) (x4 : Option Addr) (l5 : Nat) (c6 : Nat) (R : Ending → Hp → Prop) (s : Hp) (h : T_ref09_Ints W x1 l2 c3 x4 l5 c6 R s) : Does Pg W F_ref09_Ints #[(.slice x1 l2 c3), (.slice x4 l5 c6)] s R :=
  does_of_vfun Pg W an_42 Tryz.func42 rfl (by kernel_rfl) (Eq.mpr (by kernel_rfl) h)
def an_80 : Nat → Ann := fun b => match b with
 | 0 => { ms := [4, 5], ks := [.b, .i .i64], us := [0, 1, 26], rt := false, ex := [] }
 | _ => {}
abbrev rv_80 : List ResultVar := [.tmp 4]
abbrev rs_80 : List Nat := [26, 4]
def L_ref14_spans_0 (W : World) (R : Ending → Hp → Prop) (zp0 : Option Addr) (zl1 : Nat) (zl2 : Nat) (zp3 : Option Addr) (zl4 : Nat) (zl5 : Nat) (b7 : Bool) (n8 : Int) : Hp → Prop :=
 LOOPN [.b, .i .i64] (fun ys next s => ∀ j : Tm, vc Pg W 26 rs_80 an_80 false (sub (bodyOf Tryz.f80) [1, 1, 0, 1, 0, 0]) 0 (KLoop [4, 5] [0, 1, 26] [(.slice zp0 zl1 zl2), (.slice zp3 zl4 zl5), (.tuple #[])] next (KBlk 0 (KS Pg W 26 rs_80 an_80 false (sub (bodyOf Tryz.f80) [1, 1, 1]) 0 (fin Pg W 26 rv_80 R)))) (known [4, 5] ys (known [0, 1, 26] [(.slice zp0 zl1 zl2), (.slice zp3 zl4 zl5), (.tuple #[])] j)) s) [(.bool b7), (.int .i64 n8)]
def B_ref14_spans_0 (W : World) (R : Ending → Hp → Prop) (zp0 : Option Addr) (zl1 : Nat) (zl2 : Nat) (zp3 : Option Addr) (zl4 : Nat) (zl5 : Nat) (b7 : Bool) (n8 : Int) (nx0 : List Value → Hp → Prop) : Hp → Prop :=
 BR (decide (n8 < (↑zl1 : Int)))
 (IXS zp0 zl1 n8 2 fun a9 =>
 RDI .i64 (Addr.add a9 0) fun n10 =>
 RDI .i64 (Addr.add a9 1) fun n11 =>
 IXS zp3 zl4 n8 2 fun a12 =>
 RDI .i64 (Addr.add a12 0) fun n13 =>
 RDI .i64 (Addr.add a12 1) fun n14 =>
 BR (!((n10 == n13) && (n11 == n14)))
 (R (.returned (.bool false)))
 (NX [(.slice zp0 zl1 zl2), (.slice zp3 zl4 zl5), (.tuple #[])] [(.slice zp0 zl1 zl2), (.slice zp3 zl4 zl5), (.tuple #[])] (nx0 [(.bool b7), (.int .i64 (IntKind.wrap .i64 (n8 + 1)))])))
 (R (.returned (.bool true)))
theorem B_ref14_spans_0_eq (W : World) (R : Ending → Hp → Prop) (zp0 : Option Addr) (zl1 : Nat) (zl2 : Nat) (zp3 : Option Addr) (zl4 : Nat) (zl5 : Nat) (b7 : Bool) (n8 : Int) (nx0 : List Value → Hp → Prop) (j : Tm) : vc Pg W 26 rs_80 an_80 false (sub (bodyOf Tryz.f80) [1, 1, 0, 1, 0, 0]) 0 (KLoop [4, 5] [0, 1, 26] [(.slice zp0 zl1 zl2), (.slice zp3 zl4 zl5), (.tuple #[])] nx0 (KBlk 0 (KS Pg W 26 rs_80 an_80 false (sub (bodyOf Tryz.f80) [1, 1, 1]) 0 (fin Pg W 26 rv_80 R)))) (known [4, 5] [(.bool b7), (.int .i64 n8)] (known [0, 1, 26] [(.slice zp0 zl1 zl2), (.slice zp3 zl4 zl5), (.tuple #[])] j)) = B_ref14_spans_0 W R zp0 zl1 zl2 zp3 zl4 zl5 b7 n8 nx0 := by kernel_rfl
def N_ref14_spans_0 (I : Bool → Int → Hp → Prop) (μ : Bool → Int → Hp → Nat) (b70 : Bool) (n80 : Int) (s : Hp) (vs : List Value) : Hp → Prop := fun s' => ∃ b7 n8, vs = [(.bool b7), (.int .i64 n8)] ∧ I b7 n8 s' ∧ μ b7 n8 s' < μ b70 n80 s
theorem L_ref14_spans_0_rule (W : World) (R : Ending → Hp → Prop) (zp0 : Option Addr) (zl1 : Nat) (zl2 : Nat) (zp3 : Option Addr) (zl4 : Nat) (zl5 : Nat) (I : Bool → Int → Hp → Prop) (μ : Bool → Int → Hp → Nat) (b70 : Bool) (n80 : Int) (s : Hp) (h0 : I b70 n80 s)
    (hr : ∀ (b7 : Bool) (n8 : Int) (s : Hp), I b7 n8 s → B_ref14_spans_0 W R zp0 zl1 zl2 zp3 zl4 zl5 b7 n8 (fun vs => N_ref14_spans_0 I μ b7 n8 s vs) s) : L_ref14_spans_0 W R zp0 zl1 zl2 zp3 zl4 zl5 b70 n80 s := by
  refine ⟨fun vs s => ∃ b7 n8, vs = [(.bool b7), (.int .i64 n8)] ∧ I b7 n8 s, fun vs s => (match vs with | [.bool b7, .int _ n8] => μ b7 n8 s | _ => 0), ⟨⟨⟨_, rfl⟩, ⟨⟨_, rfl⟩, trivial⟩⟩, ⟨_, _, rfl, h0⟩⟩, ?_⟩
  intro b7 n8 s hI j
  obtain ⟨b7', n8', hy, hI⟩ := hI
  have hI' : I b7 n8 s := by cases hy; exact hI
  have hh := hr b7 n8 s hI'
  rw [← B_ref14_spans_0_eq W R zp0 zl1 zl2 zp3 zl4 zl5 b7 n8 _ j] at hh
  refine vc_mono ?_ _ _ hh
  exact KLoop_mono (fun vs s' h => by obtain ⟨b71, n81, rfl, h1, h2⟩ := h; exact ⟨⟨⟨_, rfl⟩, ⟨⟨_, rfl⟩, trivial⟩⟩, ⟨_, _, rfl, h1⟩, h2⟩)
def T_ref14_spans (W : World) (x1 : Option Addr) (l2 : Nat) (c3 : Nat) (x4 : Option Addr) (l5 : Nat) (c6 : Nat) (R : Ending → Hp → Prop) : Hp → Prop :=
 BR ((↑l2 : Int) != (↑l5 : Int))
 (R (.returned (.bool false)))
 (L_ref14_spans_0 W R x1 l2 c3 x4 l5 c6 false 0)
theorem does_ref14_spans (W : World) (x1 : Option Addr) (l2 : Nat) (c3 : Nat) (x4 : Option Addr) (l5 : Nat) (c6 : Nat) (R : Ending → Hp → Prop) (s : Hp) (h : T_ref14_spans W x1 l2 c3 x4 l5 c6 R s) : Does Pg W F_ref14_spans #[(.slice x1 l2 c3), (.slice x4 l5 c6)] s R :=
  does_of_vfun Pg W an_80 Tryz.func80 rfl (by kernel_rfl) (Eq.mpr (by kernel_rfl) h)
end Go.Proofs.YtcjgbanpkmpekaaGreatDoor.G

/- The document's comparisons. -/
set_option linter.unusedVariables false
set_option linter.unusedSimpArgs false
set_option maxRecDepth 20000
namespace Go.Proofs.YtcjgbanpkmpekaaGreatDoor.G
open Go.V
theorem take_eq {α : Type} {A B : List α} {k : Nat} (hA : k < A.length) (hB : k < B.length) (h : A.take k = B.take k) (he : A[k] = B[k]) : A.take (k + 1) = B.take (k + 1) := by
  rw [List.take_add_one, List.take_add_one, h, List.getElem?_eq_getElem hA, List.getElem?_eq_getElem hB, he]
theorem q4_beq (p q : Q4) : ((p.a == q.a) && ((p.b == q.b) && ((p.c == q.c) && (p.d == q.d)))) = decide (p = q) := by
  obtain ⟨a, b, c, d⟩ := p
  obtain ⟨a', b', c', d'⟩ := q
  by_cases h : (⟨a, b, c, d⟩ : Q4) = ⟨a', b', c', d'⟩
  · rw [decide_eq_true h]; cases h; simp
  · rw [decide_eq_false h]
    simp only [Q4.mk.injEq, not_and] at h
    simp only [Bool.and_eq_false_iff, beq_eq_false_iff_ne]
    by_cases h1 : a = a'
    · by_cases h2 : b = b'
      · by_cases h3 : c = c'
        · exact .inr (.inr (.inr (h h1 h2 h3)))
        · exact .inr (.inr (.inl h3))
      · exact .inr (.inl h2)
    · exact .inl h1
theorem k2_beq (p q : Int × Int) : ((p.1 == q.1) && (p.2 == q.2)) = decide (p = q) := by
  obtain ⟨a, b⟩ := p
  obtain ⟨a', b'⟩ := q
  by_cases h : (a, b) = (a', b')
  · rw [decide_eq_true h]; cases h; simp
  · rw [decide_eq_false h]
    simp only [Prod.mk.injEq, not_and] at h
    simp only [Bool.and_eq_false_iff, beq_eq_false_iff_ne]
    by_cases h1 : a = a'
    · exact .inr (h h1)
    · exact .inl h1
theorem wd_beq (p q : Wd) : ((p.per == q.per) && ((p.num == q.num) && (p.nt == q.nt))) = decide (p = q) := by
  obtain ⟨a, b, c⟩ := p
  obtain ⟨a', b', c'⟩ := q
  by_cases h : (⟨a, b, c⟩ : Wd) = ⟨a', b', c'⟩
  · rw [decide_eq_true h]; cases h; simp
  · rw [decide_eq_false h]
    simp only [Wd.mk.injEq, not_and] at h
    simp only [Bool.and_eq_false_iff, beq_eq_false_iff_ne]
    by_cases h1 : a = a'
    · by_cases h2 : b = b'
      · exact .inr (.inr (h h1 h2))
      · exact .inr (.inl h2)
    · exact .inl h1
theorem cl_beq (p q : Cl) : ((p.wit == q.wit) && ((p.knd == q.knd) && ((p.a.per == q.a.per) && ((p.a.num == q.a.num) && ((p.a.nt == q.a.nt) && ((p.b.per == q.b.per) && ((p.b.num == q.b.num) && (p.b.nt == q.b.nt)))))))) = decide (p = q) := by
  have h1 := wd_beq p.a q.a
  have h2 := wd_beq p.b q.b
  have e : ((p.wit == q.wit) && ((p.knd == q.knd) && ((p.a.per == q.a.per) && ((p.a.num == q.a.num) && ((p.a.nt == q.a.nt) && ((p.b.per == q.b.per) && ((p.b.num == q.b.num) && (p.b.nt == q.b.nt)))))))) = ((p.wit == q.wit) && ((p.knd == q.knd) && (((p.a.per == q.a.per) && ((p.a.num == q.a.num) && (p.a.nt == q.a.nt))) && ((p.b.per == q.b.per) && ((p.b.num == q.b.num) && (p.b.nt == q.b.nt)))))) := by
    simp only [Bool.and_assoc]
  rw [e, h1, h2]
  obtain ⟨a, b, c, d⟩ := p
  obtain ⟨a', b', c', d'⟩ := q
  by_cases h : (⟨a, b, c, d⟩ : Cl) = ⟨a', b', c', d'⟩
  · rw [decide_eq_true h]; cases h; simp
  · rw [decide_eq_false h]
    simp only [Cl.mk.injEq, not_and] at h
    simp only [Bool.and_eq_false_iff, beq_eq_false_iff_ne, decide_eq_false_iff_not]
    by_cases h1 : a = a'
    · by_cases h2 : b = b'
      · by_cases h3 : c = c'
        · exact .inr (.inr (.inr (h h1 h2 h3)))
        · exact .inr (.inr (.inl h3))
      · exact .inr (.inl h2)
    · exact .inl h1
section
variable {W : World} {K : VK} {E : List PanicEntry → Hp → Prop} {s : Hp}
theorem c_Ints {A B : List Int} {x y : Option Addr} {c d : Nat} (hx : RowAt s x (ints A)) (hy : RowAt s y (ints B)) (hA : A.length ≤ 1000000) (h : K (.bool (decide (A = B))) s) : CALL Pg W F_ref09_Ints [.slice x A.length c, .slice y B.length d] K E s := by
  refine does_ref09_Ints W x A.length c y B.length d _ s ?_
  unfold T_ref09_Ints
  refine BR_ne (fun hn => ?_) (fun hn => ?_)
  · try simp only [TUP_mk, AGG_mk, HD_mk, NL_mk, TYI_mk, TYB_mk, TYP_mk, TYL_mk, TYS_mk, TYM_mk, SO_mk, NX_mk, endK_mk, endK_mk', add_0]
    rw [decide_eq_false (fun e => hn (by rw [e]))] at h
    exact h
  · have hl : A.length = B.length := by omega
    refine L_ref09_Ints_0_rule W _ _ _ _ _ _ _ (fun b n s' => ∃ k : Nat, n = (k : Int) ∧ k ≤ A.length ∧ s' = s ∧ A.take k = B.take k) (fun b n s' => A.length - n.toNat) _ _ s ⟨0, rfl, by omega, rfl, by simp⟩ ?_
    rintro b n s1 ⟨k, rfl, hk, rfl, ht⟩
    unfold B_ref09_Ints_0
    refine BR_dec (fun hlt => ?_) (fun hge => ?_)
    · have hkA : k < A.length := by omega
      have hkB : k < B.length := by omega
      obtain ⟨a, ha, ca⟩ := hx k (by rw [ints_len]; exact hkA)
      obtain ⟨b', hb, cb⟩ := hy k (by rw [ints_len]; exact hkB)
      subst ha; subst hb
      simp only [ints, List.getElem_map] at ca cb
      refine IXS_nat hkA ⟨_, ca, IXS_nat hkB ⟨_, cb, ?_⟩⟩
      refine BR_ne (fun hne => ?_) (fun heq => ?_)
      · try simp only [TUP_mk, AGG_mk, HD_mk, NL_mk, TYI_mk, TYB_mk, TYP_mk, TYL_mk, TYS_mk, TYM_mk, SO_mk, NX_mk, endK_mk, endK_mk', add_0]
        rw [decide_eq_false (fun e => hne (by subst e; rfl))] at h
        exact h
      · try simp only [TUP_mk, AGG_mk, HD_mk, NL_mk, TYI_mk, TYB_mk, TYP_mk, TYL_mk, TYS_mk, TYM_mk, SO_mk, NX_mk, endK_mk, endK_mk', add_0]
        exact ⟨_, _, rfl, ⟨k + 1, wr_k (by omega), by omega, rfl, take_eq hkA hkB ht heq⟩, ms_k hkA (by omega)⟩
    · have hkl : k = A.length := by omega
      subst hkl
      rw [List.take_length, hl, List.take_length] at ht
      try simp only [TUP_mk, AGG_mk, HD_mk, NL_mk, TYI_mk, TYB_mk, TYP_mk, TYL_mk, TYS_mk, TYM_mk, SO_mk, NX_mk, endK_mk, endK_mk', add_0]
      rw [decide_eq_true ht] at h
      exact h
theorem c_spans {A B : List (Int × Int)} {x y : Option Addr} {c d : Nat} (hx : RowAt s x (A.flatMap kinV)) (hy : RowAt s y (B.flatMap kinV)) (hA : A.length ≤ 1000000) (h : K (.bool (decide (A = B))) s) : CALL Pg W F_ref14_spans [.slice x A.length c, .slice y B.length d] K E s := by
  refine does_ref14_spans W x A.length c y B.length d _ s ?_
  unfold T_ref14_spans
  refine BR_ne (fun hn => ?_) (fun hn => ?_)
  · try simp only [TUP_mk, AGG_mk, HD_mk, NL_mk, TYI_mk, TYB_mk, TYP_mk, TYL_mk, TYS_mk, TYM_mk, SO_mk, NX_mk, endK_mk, endK_mk', add_0]
    rw [decide_eq_false (fun e => hn (by rw [e]))] at h
    exact h
  · have hl : A.length = B.length := by omega
    refine L_ref14_spans_0_rule W _ _ _ _ _ _ _ (fun b n s' => ∃ k : Nat, n = (k : Int) ∧ k ≤ A.length ∧ s' = s ∧ A.take k = B.take k) (fun b n s' => A.length - n.toNat) _ _ s ⟨0, rfl, by omega, rfl, by simp⟩ ?_
    rintro b n s1 ⟨k, rfl, hk, rfl, ht⟩
    unfold B_ref14_spans_0
    refine BR_dec (fun hlt => ?_) (fun hge => ?_)
    · have hkA : k < A.length := by omega
      have hkB : k < B.length := by omega
      obtain ⟨a, ha, ca⟩ := rowF (f := kinV) (M := 2) (fun _ => rfl) hx k hkA (by omega)
      obtain ⟨b', hb, cb⟩ := rowF (f := kinV) (M := 2) (fun _ => rfl) hy k hkB (by omega)
      subst ha; subst hb
      refine IXS_nat hkA ⟨_, ca 0 (by omega), _, ca 1 (by omega), IXS_nat hkB ⟨_, cb 0 (by omega), _, cb 1 (by omega), ?_⟩⟩
      show BR (!((A[k].1 == B[k].1) && (A[k].2 == B[k].2))) _ _ s1
      rw [k2_beq]
      refine BR_not (fun hne => ?_) (fun heq => ?_)
      · try simp only [TUP_mk, AGG_mk, HD_mk, NL_mk, TYI_mk, TYB_mk, TYP_mk, TYL_mk, TYS_mk, TYM_mk, SO_mk, NX_mk, endK_mk, endK_mk', add_0]
        rw [decide_eq_false_iff_not] at hne
        rw [decide_eq_false (fun e => hne (by subst e; rfl))] at h
        exact h
      · rw [decide_eq_true_eq] at heq
        try simp only [TUP_mk, AGG_mk, HD_mk, NL_mk, TYI_mk, TYB_mk, TYP_mk, TYL_mk, TYS_mk, TYM_mk, SO_mk, NX_mk, endK_mk, endK_mk', add_0]
        exact ⟨_, _, rfl, ⟨k + 1, wr_k (by omega), by omega, rfl, take_eq hkA hkB ht heq⟩, ms_k hkA (by omega)⟩
    · have hkl : k = A.length := by omega
      subst hkl
      rw [List.take_length, hl, List.take_length] at ht
      try simp only [TUP_mk, AGG_mk, HD_mk, NL_mk, TYI_mk, TYB_mk, TYP_mk, TYL_mk, TYS_mk, TYM_mk, SO_mk, NX_mk, endK_mk, endK_mk', add_0]
      rw [decide_eq_true ht] at h
      exact h
theorem c_SamePegs {p q : PgS} {x y x' y' : Option Addr} {c d c' d' : Nat} (hx : RowAt s x (p.posts.flatMap q4V)) (hy : RowAt s y (p.lens.flatMap q4V)) (hx' : RowAt s x' (q.posts.flatMap q4V)) (hy' : RowAt s y' (q.lens.flatMap q4V)) (h1 : p.posts.length ≤ 1000000) (h2 : p.lens.length ≤ 1000000)
    (hk : ∀ s', Ext s s' → K (.bool (decide (p = q))) s') : CALL Pg W F_ref14_SamePegs [.agg #[.int .i64 p.side, .slice x p.posts.length c, .slice y p.lens.length d], .agg #[.int .i64 q.side, .slice x' q.posts.length c', .slice y' q.lens.length d']] K E s := by
  refine does_ref14_SamePegs W _ _ _ _ _ _ _ _ _ _ _ _ _ _ _ s ?_
  unfold T_ref14_SamePegs
  refine NEW_rule fun s1 e1 z1 o _ => ?_
  refine NEW_rule fun s2 e2 z2 o' _ => ?_
  have a0 := e2.cell (o 0 _ rfl).cell
  have a1 := e2.cell (o 1 _ rfl).cell
  have a2 := e2.cell (o 2 _ rfl).cell
  have b0 := (o' 0 _ rfl).cell
  have b1 := (o' 1 _ rfl).cell
  have b2 := (o' 2 _ rfl).cell
  have e12 := e1.trans e2
  have hx := hx.ext e12
  have hy := hy.ext e12
  have hx' := hx'.ext e12
  have hy' := hy'.ext e12
  have h := hk s2 e12
  have no : p ≠ q → endK K E (.returned (.bool false)) s2 := fun hne => by rw [decide_eq_false hne] at h; exact h
  refine ⟨_, _, _, a1, _, _, _, b1, ?_⟩
  refine BR_ne (fun hn => ?_) (fun hn => ?_)
  · unfold J_ref14_SamePegs_0
    exact BR_tt rfl (no fun e => hn (by rw [e]))
  refine ⟨_, _, _, a2, _, _, _, b2, ?_⟩
  unfold J_ref14_SamePegs_0
  refine BR_ne (fun hn2 => no fun e => hn2 (by rw [e])) (fun hn2 => ?_)
  have hl : p.posts.length = q.posts.length := by omega
  have hl2 : p.lens.length = q.lens.length := by omega
  refine L_ref14_SamePegs_0_rule W _ _ _ (fun b n s' => ∃ k : Nat, n = (k : Int) ∧ k ≤ p.posts.length ∧ s' = s2 ∧ p.posts.take k = q.posts.take k) (fun b n s' => p.posts.length - n.toNat) _ _ s2 ⟨0, rfl, by omega, rfl, by simp⟩ ?_
  rintro b n s3 ⟨k, rfl, hk1, rfl, ht⟩
  unfold B_ref14_SamePegs_0
  refine ⟨_, _, _, a1, ?_⟩
  refine BR_dec (fun hlt => ?_) (fun hge => ?_)
  · have hkA : k < p.posts.length := by omega
    have hkB : k < q.posts.length := by omega
    obtain ⟨a, ha, ca⟩ := rowF (f := q4V) (M := 4) (fun _ => rfl) hx k hkA (by omega)
    obtain ⟨b', hb, cb⟩ := rowF (f := q4V) (M := 4) (fun _ => rfl) hx' k hkB (by omega)
    refine ⟨_, _, _, a1, ?_⟩
    subst ha; subst hb
    refine IXS_nat hkA ⟨_, ca 0 (by omega), _, ca 1 (by omega), _, ca 2 (by omega), _, ca 3 (by omega), _, _, _, b1, IXS_nat hkB ⟨_, cb 0 (by omega), _, cb 1 (by omega), _, cb 2 (by omega), _, cb 3 (by omega), ?_⟩⟩
    show BR (!((p.posts[k].a == q.posts[k].a) && ((p.posts[k].b == q.posts[k].b) && ((p.posts[k].c == q.posts[k].c) && (p.posts[k].d == q.posts[k].d))))) _ _ s3
    rw [q4_beq]
    refine BR_not (fun hne => ?_) (fun heq => ?_)
    · rw [decide_eq_false_iff_not] at hne
      exact no fun e => hne (by subst e; rfl)
    · rw [decide_eq_true_eq] at heq
      try simp only [TUP_mk, AGG_mk, HD_mk, NL_mk, TYI_mk, TYB_mk, TYP_mk, TYL_mk, TYS_mk, TYM_mk, SO_mk, NX_mk, endK_mk, endK_mk', add_0]
      exact ⟨_, _, rfl, ⟨k + 1, wr_k (by omega), by omega, rfl, take_eq hkA hkB ht heq⟩, ms_k hkA (by omega)⟩
  have hkl : k = p.posts.length := by omega
  subst hkl
  rw [List.take_length, hl, List.take_length] at ht
  refine L_ref14_SamePegs_1_rule W _ _ _ (fun b n s' => ∃ k : Nat, n = (k : Int) ∧ k ≤ p.lens.length ∧ s' = s3 ∧ p.lens.take k = q.lens.take k) (fun b n s' => p.lens.length - n.toNat) _ _ s3 ⟨0, rfl, by omega, rfl, by simp⟩ ?_
  rintro b n s4 ⟨k, rfl, hk1, rfl, ht2⟩
  unfold B_ref14_SamePegs_1
  refine ⟨_, _, _, a2, ?_⟩
  refine BR_dec (fun hlt => ?_) (fun hge => ?_)
  · have hkA : k < p.lens.length := by omega
    have hkB : k < q.lens.length := by omega
    obtain ⟨a, ha, ca⟩ := rowF (f := q4V) (M := 4) (fun _ => rfl) hy k hkA (by omega)
    obtain ⟨b', hb, cb⟩ := rowF (f := q4V) (M := 4) (fun _ => rfl) hy' k hkB (by omega)
    refine ⟨_, _, _, a2, ?_⟩
    subst ha; subst hb
    refine IXS_nat hkA ⟨_, ca 0 (by omega), _, ca 1 (by omega), _, ca 2 (by omega), _, ca 3 (by omega), _, _, _, b2, IXS_nat hkB ⟨_, cb 0 (by omega), _, cb 1 (by omega), _, cb 2 (by omega), _, cb 3 (by omega), ?_⟩⟩
    show BR (!((p.lens[k].a == q.lens[k].a) && ((p.lens[k].b == q.lens[k].b) && ((p.lens[k].c == q.lens[k].c) && (p.lens[k].d == q.lens[k].d))))) _ _ s4
    rw [q4_beq]
    refine BR_not (fun hne => ?_) (fun heq => ?_)
    · rw [decide_eq_false_iff_not] at hne
      exact no fun e => hne (by subst e; rfl)
    · rw [decide_eq_true_eq] at heq
      try simp only [TUP_mk, AGG_mk, HD_mk, NL_mk, TYI_mk, TYB_mk, TYP_mk, TYL_mk, TYS_mk, TYM_mk, SO_mk, NX_mk, endK_mk, endK_mk', add_0]
      exact ⟨_, _, rfl, ⟨k + 1, wr_k (by omega), by omega, rfl, take_eq hkA hkB ht2 heq⟩, ms_k hkA (by omega)⟩
  have hkl : k = p.lens.length := by omega
  subst hkl
  rw [List.take_length, hl2, List.take_length] at ht2
  refine ⟨_, a0, _, b0, ?_⟩
  try simp only [TUP_mk, AGG_mk, HD_mk, NL_mk, TYI_mk, TYB_mk, TYP_mk, TYL_mk, TYS_mk, TYM_mk, SO_mk, NX_mk, endK_mk, endK_mk', add_0]
  have e : (p.side == q.side) = decide (p = q) := by
    obtain ⟨a, b, c⟩ := p
    obtain ⟨a', b', c'⟩ := q
    simp only at ht ht2
    subst ht; subst ht2
    by_cases hs : a = a'
    · subst hs; simp
    · rw [decide_eq_false (fun e => hs (congrArg PgS.side e))]; simpa using hs
  rw [e]
  exact h
theorem c_SamePanels {p q : PnS} {x y w x' y' w' : Option Addr} {c d e c' d' e' : Nat} (hx : RowAt s x (ints p.loads)) (hy : RowAt s y (ints p.needs)) (hw : RowAt s w (p.kin.flatMap kinV)) (hx' : RowAt s x' (ints q.loads)) (hy' : RowAt s y' (ints q.needs)) (hw' : RowAt s w' (q.kin.flatMap kinV)) (h1 : p.loads.length ≤ 1000000) (h2 : p.needs.length ≤ 1000000) (h3 : p.kin.length ≤ 1000000)
    (hk : ∀ s', Ext s s' → K (.bool (decide (p = q))) s') : CALL Pg W F_ref14_SamePanels [.agg #[.slice x p.loads.length c, .slice y p.needs.length d, .slice w p.kin.length e], .agg #[.slice x' q.loads.length c', .slice y' q.needs.length d', .slice w' q.kin.length e']] K E s := by
  refine does_ref14_SamePanels W _ _ _ _ _ _ _ _ _ _ _ _ _ _ _ _ _ _ _ s ?_
  unfold T_ref14_SamePanels
  refine NEW_rule fun s1 e1 z1 o _ => ?_
  refine NEW_rule fun s2 e2 z2 o' _ => ?_
  have a0 := e2.cell (o 0 _ rfl).cell
  have a1 := e2.cell (o 1 _ rfl).cell
  have a2 := e2.cell (o 2 _ rfl).cell
  have b0 := (o' 0 _ rfl).cell
  have b1 := (o' 1 _ rfl).cell
  have b2 := (o' 2 _ rfl).cell
  have e12 := e1.trans e2
  have hx := hx.ext e12
  have hy := hy.ext e12
  have hw := hw.ext e12
  have hx' := hx'.ext e12
  have hy' := hy'.ext e12
  have hw' := hw'.ext e12
  have h := hk s2 e12
  have no : p ≠ q → endK K E (.returned (.bool false)) s2 := fun hne => by rw [decide_eq_false hne] at h; exact h
  refine ⟨_, _, _, a2, _, _, _, b2, ?_⟩
  refine BR_ne (fun hn => no fun e => hn (by rw [e])) (fun hn => ?_)
  have hl : p.kin.length = q.kin.length := by omega
  refine L_ref14_SamePanels_0_rule W _ _ _ (fun b n s' => ∃ k : Nat, n = (k : Int) ∧ k ≤ p.kin.length ∧ s' = s2 ∧ p.kin.take k = q.kin.take k) (fun b n s' => p.kin.length - n.toNat) _ _ s2 ⟨0, rfl, by omega, rfl, by simp⟩ ?_
  rintro b n s3 ⟨k, rfl, hk1, rfl, ht⟩
  unfold B_ref14_SamePanels_0
  refine ⟨_, _, _, a2, ?_⟩
  refine BR_dec (fun hlt => ?_) (fun hge => ?_)
  · have hkA : k < p.kin.length := by omega
    have hkB : k < q.kin.length := by omega
    obtain ⟨a, ha, ca⟩ := rowF (f := kinV) (M := 2) (fun _ => rfl) hw k hkA (by omega)
    obtain ⟨b', hb, cb⟩ := rowF (f := kinV) (M := 2) (fun _ => rfl) hw' k hkB (by omega)
    refine ⟨_, _, _, a2, ?_⟩
    subst ha; subst hb
    refine IXS_nat hkA ⟨_, ca 0 (by omega), _, ca 1 (by omega), _, _, _, b2, IXS_nat hkB ⟨_, cb 0 (by omega), _, cb 1 (by omega), ?_⟩⟩
    show BR (!((p.kin[k].1 == q.kin[k].1) && (p.kin[k].2 == q.kin[k].2))) _ _ s3
    rw [k2_beq]
    refine BR_not (fun hne => ?_) (fun heq => ?_)
    · rw [decide_eq_false_iff_not] at hne
      exact no fun e => hne (by subst e; rfl)
    · rw [decide_eq_true_eq] at heq
      try simp only [TUP_mk, AGG_mk, HD_mk, NL_mk, TYI_mk, TYB_mk, TYP_mk, TYL_mk, TYS_mk, TYM_mk, SO_mk, NX_mk, endK_mk, endK_mk', add_0]
      exact ⟨_, _, rfl, ⟨k + 1, wr_k (by omega), by omega, rfl, take_eq hkA hkB ht heq⟩, ms_k hkA (by omega)⟩
  have hkl : k = p.kin.length := by omega
  subst hkl
  rw [List.take_length, hl, List.take_length] at ht
  refine ⟨_, _, _, a0, _, _, _, b0, ?_⟩
  refine c_Ints hx hx' h1 ?_
  try simp only [TUP_mk, AGG_mk, HD_mk, NL_mk, TYI_mk, TYB_mk, TYP_mk, TYL_mk, TYS_mk, TYM_mk, SO_mk, NX_mk, endK_mk, endK_mk', add_0]
  refine BR_dec (fun hA => ?_) (fun hA => no fun e => hA (by rw [e]))
  refine ⟨_, _, _, a1, _, _, _, b1, ?_⟩
  refine c_Ints hy hy' h2 ?_
  try simp only [TUP_mk, AGG_mk, HD_mk, NL_mk, TYI_mk, TYB_mk, TYP_mk, TYL_mk, TYS_mk, TYM_mk, SO_mk, NX_mk, endK_mk, endK_mk', add_0]
  have e : decide (p.needs = q.needs) = decide (p = q) := by
    obtain ⟨a, b, c⟩ := p
    obtain ⟨a', b', c'⟩ := q
    simp only at ht hA
    subst ht; subst hA
    by_cases hs : b = b'
    · subst hs; simp
    · rw [decide_eq_false (fun e => hs (congrArg PnS.needs e))]; simpa using hs
  rw [e]
  exact h
theorem c_SameHearing {p q : HrS} {x y x' y' : Option Addr} {c d c' d' : Nat} (hx : RowAt s x (p.claims.flatMap cl8)) (hy : RowAt s y (p.known.flatMap wd3)) (hx' : RowAt s x' (q.claims.flatMap cl8)) (hy' : RowAt s y' (q.known.flatMap wd3)) (h1 : p.claims.length ≤ 1000000) (h2 : p.known.length ≤ 1000000)
    (hk : ∀ s', Ext s s' → K (.bool (decide (p = q))) s') : CALL Pg W F_ref14_SameHearing [.agg #[.int .i64 p.facts, .int .i64 p.wits, .int .i64 p.liars, .slice x p.claims.length c, .slice y p.known.length d], .agg #[.int .i64 q.facts, .int .i64 q.wits, .int .i64 q.liars, .slice x' q.claims.length c', .slice y' q.known.length d']] K E s := by
  refine does_ref14_SameHearing W _ _ _ _ _ _ _ _ _ _ _ _ _ _ _ _ _ _ _ s ?_
  unfold T_ref14_SameHearing
  refine NEW_rule fun s1 e1 z1 o _ => ?_
  refine NEW_rule fun s2 e2 z2 o' _ => ?_
  have a0 := e2.cell (o 0 _ rfl).cell
  have a1 := e2.cell (o 1 _ rfl).cell
  have a2 := e2.cell (o 2 _ rfl).cell
  have a3 := e2.cell (o 3 _ rfl).cell
  have a4 := e2.cell (o 4 _ rfl).cell
  have b0 := (o' 0 _ rfl).cell
  have b1 := (o' 1 _ rfl).cell
  have b2 := (o' 2 _ rfl).cell
  have b3 := (o' 3 _ rfl).cell
  have b4 := (o' 4 _ rfl).cell
  have e12 := e1.trans e2
  have hx := hx.ext e12
  have hy := hy.ext e12
  have hx' := hx'.ext e12
  have hy' := hy'.ext e12
  have h := hk s2 e12
  have no : p ≠ q → endK K E (.returned (.bool false)) s2 := fun hne => by rw [decide_eq_false hne] at h; exact h
  refine ⟨_, _, _, a3, _, _, _, b3, ?_⟩
  refine BR_ne (fun hn => ?_) (fun hn => ?_)
  · unfold J_ref14_SameHearing_0
    exact BR_tt rfl (no fun e => hn (by rw [e]))
  refine ⟨_, _, _, a4, _, _, _, b4, ?_⟩
  unfold J_ref14_SameHearing_0
  refine BR_ne (fun hn2 => no fun e => hn2 (by rw [e])) (fun hn2 => ?_)
  have hl : p.claims.length = q.claims.length := by omega
  have hl2 : p.known.length = q.known.length := by omega
  refine L_ref14_SameHearing_0_rule W _ _ _ (fun b n s' => ∃ k : Nat, n = (k : Int) ∧ k ≤ p.claims.length ∧ s' = s2 ∧ p.claims.take k = q.claims.take k) (fun b n s' => p.claims.length - n.toNat) _ _ s2 ⟨0, rfl, by omega, rfl, by simp⟩ ?_
  rintro b n s3 ⟨k, rfl, hk1, rfl, ht⟩
  unfold B_ref14_SameHearing_0
  refine ⟨_, _, _, a3, ?_⟩
  refine BR_dec (fun hlt => ?_) (fun hge => ?_)
  · have hkA : k < p.claims.length := by omega
    have hkB : k < q.claims.length := by omega
    obtain ⟨a, ha, ca⟩ := rowF (f := cl8) (M := 8) (fun _ => rfl) hx k hkA (by omega)
    obtain ⟨b', hb, cb⟩ := rowF (f := cl8) (M := 8) (fun _ => rfl) hx' k hkB (by omega)
    refine ⟨_, _, _, a3, ?_⟩
    subst ha; subst hb
    refine IXS_nat hkA ⟨_, ca 0 (by omega), _, ca 1 (by omega), _, ca 2 (by omega), _, ca 3 (by omega), _, ca 4 (by omega), _, ca 5 (by omega), _, ca 6 (by omega), _, ca 7 (by omega), _, _, _, b3, IXS_nat hkB ⟨_, cb 0 (by omega), _, cb 1 (by omega), _, cb 2 (by omega), _, cb 3 (by omega), _, cb 4 (by omega), _, cb 5 (by omega), _, cb 6 (by omega), _, cb 7 (by omega), ?_⟩⟩
    show BR (!((p.claims[k].wit == q.claims[k].wit) && ((p.claims[k].knd == q.claims[k].knd) && ((p.claims[k].a.per == q.claims[k].a.per) && ((p.claims[k].a.num == q.claims[k].a.num) && ((p.claims[k].a.nt == q.claims[k].a.nt) && ((p.claims[k].b.per == q.claims[k].b.per) && ((p.claims[k].b.num == q.claims[k].b.num) && (p.claims[k].b.nt == q.claims[k].b.nt))))))))) _ _ s3
    rw [cl_beq]
    refine BR_not (fun hne => ?_) (fun heq => ?_)
    · rw [decide_eq_false_iff_not] at hne
      exact no fun e => hne (by subst e; rfl)
    · rw [decide_eq_true_eq] at heq
      try simp only [TUP_mk, AGG_mk, HD_mk, NL_mk, TYI_mk, TYB_mk, TYP_mk, TYL_mk, TYS_mk, TYM_mk, SO_mk, NX_mk, endK_mk, endK_mk', add_0]
      exact ⟨_, _, rfl, ⟨k + 1, wr_k (by omega), by omega, rfl, take_eq hkA hkB ht heq⟩, ms_k hkA (by omega)⟩
  have hkl : k = p.claims.length := by omega
  subst hkl
  rw [List.take_length, hl, List.take_length] at ht
  refine L_ref14_SameHearing_1_rule W _ _ _ (fun b n s' => ∃ k : Nat, n = (k : Int) ∧ k ≤ p.known.length ∧ s' = s3 ∧ p.known.take k = q.known.take k) (fun b n s' => p.known.length - n.toNat) _ _ s3 ⟨0, rfl, by omega, rfl, by simp⟩ ?_
  rintro b n s4 ⟨k, rfl, hk1, rfl, ht2⟩
  unfold B_ref14_SameHearing_1
  refine ⟨_, _, _, a4, ?_⟩
  refine BR_dec (fun hlt => ?_) (fun hge => ?_)
  · have hkA : k < p.known.length := by omega
    have hkB : k < q.known.length := by omega
    obtain ⟨a, ha, ca⟩ := rowF (f := wd3) (M := 3) (fun _ => rfl) hy k hkA (by omega)
    obtain ⟨b', hb, cb⟩ := rowF (f := wd3) (M := 3) (fun _ => rfl) hy' k hkB (by omega)
    refine ⟨_, _, _, a4, ?_⟩
    subst ha; subst hb
    refine IXS_nat hkA ⟨_, ca 0 (by omega), _, ca 1 (by omega), _, ca 2 (by omega), _, _, _, b4, IXS_nat hkB ⟨_, cb 0 (by omega), _, cb 1 (by omega), _, cb 2 (by omega), ?_⟩⟩
    show BR (!((p.known[k].per == q.known[k].per) && ((p.known[k].num == q.known[k].num) && (p.known[k].nt == q.known[k].nt)))) _ _ s4
    rw [wd_beq]
    refine BR_not (fun hne => ?_) (fun heq => ?_)
    · rw [decide_eq_false_iff_not] at hne
      exact no fun e => hne (by subst e; rfl)
    · rw [decide_eq_true_eq] at heq
      try simp only [TUP_mk, AGG_mk, HD_mk, NL_mk, TYI_mk, TYB_mk, TYP_mk, TYL_mk, TYS_mk, TYM_mk, SO_mk, NX_mk, endK_mk, endK_mk', add_0]
      exact ⟨_, _, rfl, ⟨k + 1, wr_k (by omega), by omega, rfl, take_eq hkA hkB ht2 heq⟩, ms_k hkA (by omega)⟩
  have hkl : k = p.known.length := by omega
  subst hkl
  rw [List.take_length, hl2, List.take_length] at ht2
  refine ⟨_, a0, _, b0, ?_⟩
  refine BR_eq (fun hA => ?_) (fun hA => no fun e => hA (by rw [e]))
  refine ⟨_, a1, _, b1, ?_⟩
  refine BR_eq (fun hB => ?_) (fun hB => no fun e => hB (by rw [e]))
  refine ⟨_, a2, _, b2, ?_⟩
  try simp only [TUP_mk, AGG_mk, HD_mk, NL_mk, TYI_mk, TYB_mk, TYP_mk, TYL_mk, TYS_mk, TYM_mk, SO_mk, NX_mk, endK_mk, endK_mk', add_0]
  have e : (p.liars == q.liars) = decide (p = q) := by
    obtain ⟨a, b, c, d, f⟩ := p
    obtain ⟨a', b', c', d', f'⟩ := q
    simp only at ht ht2 hA hB
    subst ht; subst ht2; subst hA; subst hB
    by_cases hs : c = c'
    · subst hs; simp
    · rw [decide_eq_false (fun e => hs (congrArg HrS.liars e))]; simpa using hs
  rw [e]
  exact h
theorem c_SameFurrow {p q : FrS} {x y w x' y' w' : Option Addr} {c d e c' d' e' : Nat} (hf : FrC s x y w p) (hf' : FrC s x' y' w' q) (h1 : p.offs.length ≤ 1000000) (h2 : p.wids.length ≤ 1000000) (h3 : p.deps.length ≤ 1000000)
    (hk : ∀ s', Ext s s' → K (.bool (decide (p = q))) s') : CALL Pg W F_ref14_SameFurrow [.agg #[.slice x p.offs.length c, .slice y p.wids.length d, .slice w p.deps.length e], .agg #[.slice x' q.offs.length c', .slice y' q.wids.length d', .slice w' q.deps.length e']] K E s := by
  refine does_ref14_SameFurrow W _ _ _ _ _ _ _ _ _ _ _ _ _ _ _ _ _ _ _ s ?_
  unfold T_ref14_SameFurrow
  refine NEW_rule fun s1 e1 z1 o _ => ?_
  refine NEW_rule fun s2 e2 z2 o' _ => ?_
  have a0 := e2.cell (o 0 _ rfl).cell
  have a1 := e2.cell (o 1 _ rfl).cell
  have a2 := e2.cell (o 2 _ rfl).cell
  have b0 := (o' 0 _ rfl).cell
  have b1 := (o' 1 _ rfl).cell
  have b2 := (o' 2 _ rfl).cell
  have e12 := e1.trans e2
  have hf := hf.ext e12
  have hf' := hf'.ext e12
  have h := hk s2 e12
  have no : p ≠ q → endK K E (.returned (.bool false)) s2 := fun hne => by rw [decide_eq_false hne] at h; exact h
  refine ⟨_, _, _, a0, _, _, _, b0, ?_⟩
  refine c_spans hf.offs hf'.offs h1 ?_
  try simp only [TUP_mk, AGG_mk, HD_mk, NL_mk, TYI_mk, TYB_mk, TYP_mk, TYL_mk, TYS_mk, TYM_mk, SO_mk, NX_mk, endK_mk, endK_mk', add_0]
  refine BR_dec (fun hA => ?_) (fun hA => ?_)
  rotate_left
  · unfold J_ref14_SameFurrow_0
    exact BR_ff rfl (no fun e => hA (by rw [e]))
  refine ⟨_, _, _, a1, _, _, _, b1, ?_⟩
  refine c_spans hf.wids hf'.wids h2 ?_
  try simp only [TUP_mk, AGG_mk, HD_mk, NL_mk, TYI_mk, TYB_mk, TYP_mk, TYL_mk, TYS_mk, TYM_mk, SO_mk, NX_mk, endK_mk, endK_mk', add_0]
  unfold J_ref14_SameFurrow_0
  refine BR_dec (fun hB => ?_) (fun hB => no fun e => hB (by rw [e]))
  refine ⟨_, _, _, a2, _, _, _, b2, ?_⟩
  refine c_spans hf.deps hf'.deps h3 ?_
  try simp only [TUP_mk, AGG_mk, HD_mk, NL_mk, TYI_mk, TYB_mk, TYP_mk, TYL_mk, TYS_mk, TYM_mk, SO_mk, NX_mk, endK_mk, endK_mk', add_0]
  have e : decide (p.deps = q.deps) = decide (p = q) := by
    obtain ⟨a, b, c⟩ := p
    obtain ⟨a', b', c'⟩ := q
    simp only at hA hB
    subst hA; subst hB
    by_cases hs : c = c'
    · subst hs; simp
    · rw [decide_eq_false (fun e => hs (congrArg FrS.deps e))]; simpa using hs
  rw [e]
  exact h
theorem B2S_bs {l : BL} {x : Option Addr} {K : ByteArray → Hp → Prop} (hx : RowAt s x (u8s l)) (h : K (bs l) s) : B2S x l.length K s := by
  refine ⟨l, ?_, h⟩
  have := hx.cells
  rw [u8s_len] at this
  exact this
theorem seq_bs' (a b : BL) : seqB (bs a) (bs b) = decide (a = b) := by
  unfold seqB
  rw [Lib.toList_data, Lib.toList_data, bs_l, bs_l]
  by_cases h : a = b
  · rw [decide_eq_true h, h]; simp
  · rw [decide_eq_false h]; simpa using h
theorem c_SameBytes {A B : BL} {x y : Option Addr} {c d : Nat} (hx : RowAt s x (u8s A)) (hy : RowAt s y (u8s B)) (h : K (.bool (decide (A = B))) s) : CALL Pg W F_ref14_SameBytes [.slice x A.length c, .slice y B.length d] K E s := by
  refine does_ref14_SameBytes W x A.length c y B.length d _ s ?_
  unfold T_ref14_SameBytes
  refine B2S_bs hx (B2S_bs hy ?_)
  try simp only [TUP_mk, AGG_mk, HD_mk, NL_mk, TYI_mk, TYB_mk, TYP_mk, TYL_mk, TYS_mk, TYM_mk, SO_mk, NX_mk, endK_mk, endK_mk', add_0]
  rw [seq_bs']
  exact h
theorem c_Check {l : BL} {x : Option Addr} {c : Nat} (hrow : RowAt s x (u8s l)) (hl : l.length ≤ 10000) (hk : K (.int .i64 (chk l)) s) : CALL Pg W F_ref14_Check [.slice x l.length c] K E s := by
  refine does_ref14_Check W x l.length c _ s ?_
  unfold T_ref14_Check
  refine L_ref14_Check_0_rule W _ _ _ _ (fun n m s' => ∃ k : Nat, m = (k : Int) ∧ k ≤ l.length ∧ n = chk (l.take k) ∧ s' = s) (fun n m s' => l.length - m.toNat) _ _ s ⟨0, rfl, by omega, by simp [chk, chkF], rfl⟩ ?_
  rintro n m s1 ⟨k, rfl, hk1, rfl, rfl⟩
  unfold B_ref14_Check_0
  have hc := chk_rg (l.take k)
  refine BR_dec (fun hlt => ?_) (fun hge => ?_)
  · have hkl : k < l.length := by omega
    obtain ⟨a, ha, hcell⟩ := hrow k (by rw [u8s_len]; exact hkl)
    subst ha
    refine IXS_nat hkl ?_
    have hb := b_lt l[k]
    simp only [u8s, List.getElem_map] at hcell
    refine ⟨_, hcell, ?_⟩
    try simp only [TUP_mk, AGG_mk, HD_mk, NL_mk, TYI_mk, TYB_mk, TYP_mk, TYL_mk, TYS_mk, TYM_mk, SO_mk, NX_mk, endK_mk, endK_mk', add_0]
    have hp : 0 ≤ ((k : Int) + 1) * (l[k].toNat : Int) := Int.mul_nonneg (by omega) (by omega)
    have hp2 : ((k : Int) + 1) * (l[k].toNat : Int) ≤ 10001 * 255 := Int.mul_le_mul (by omega) (by omega) (by omega) (by omega)
    have hw1 : IntKind.wrap .i64 ((k : Int) + 1) = (k : Int) + 1 := wrap_i64 (by omega) (by omega)
    have hw2 : IntKind.wrap .i64 (l[k].toNat : Int) = (l[k].toNat : Int) := wrap_i64 (by omega) (by omega)
    have hw3 : IntKind.wrap .i64 (((k : Int) + 1) * (l[k].toNat : Int)) = ((k : Int) + 1) * (l[k].toNat : Int) := wrap_i64 (by omega) (by omega)
    have hw4 : IntKind.wrap .i64 (chk (l.take k) + ((k : Int) + 1) * (l[k].toNat : Int)) = chk (l.take k) + ((k : Int) + 1) * (l[k].toNat : Int) := wrap_i64 (by omega) (by omega)
    refine ⟨_, _, rfl, ⟨k + 1, wr_k (by omega), by omega, ?_, rfl⟩, ?_⟩
    · rw [hw1, hw2, hw3, hw4, Int.tmod_eq_emod_of_nonneg (by omega), chk_take hkl]
    · show l.length - (IntKind.wrap .i64 ((k : Int) + 1)).toNat < l.length - ((k : Nat) : Int).toNat
      rw [hw1]; omega
  · have hkl : k = l.length := by omega
    subst hkl
    rw [List.take_length]
    try simp only [TUP_mk, AGG_mk, HD_mk, NL_mk, TYI_mk, TYB_mk, TYP_mk, TYL_mk, TYS_mk, TYM_mk, SO_mk, NX_mk, endK_mk, endK_mk', add_0]
    exact hk
end
end Go.Proofs.YtcjgbanpkmpekaaGreatDoor.G

/- The iterator of lines. -/
set_option linter.unusedVariables false
set_option linter.unusedSimpArgs false
set_option maxRecDepth 20000
namespace Go.Proofs.YtcjgbanpkmpekaaGreatDoor.G
open Go.V
theorem bs_ext (t : BL) (i j : Nat) : (bs t).extract i j = bs ((t.drop i).take (j - i)) := by rw [Lib.extract_eq]; rfl
theorem ib_none {c : UInt8} : ∀ {l : BL}, c ∉ l → Lib.indexByte l c = -1
  | [], _ => rfl
  | x :: l, h => by
    simp only [List.mem_cons, not_or] at h
    unfold Lib.indexByte
    have hx : (x == c) = false := by simpa using fun e => h.1 e.symm
    rw [hx, ib_none h.2]; rfl
theorem ib_at {c : UInt8} : ∀ {l r : BL}, c ∉ l → Lib.indexByte (l ++ c :: r) c = (l.length : Nat)
  | [], r, _ => by simp [Lib.indexByte]
  | x :: l, r, h => by
    simp only [List.mem_cons, not_or] at h
    rw [List.cons_append]
    unfold Lib.indexByte
    have hx : (x == c) = false := by simpa using fun e => h.1 e.symm
    rw [hx, ib_at h.2]
    have : ((l.length : Nat) : Int) ≠ -1 := by omega
    simp [this]
theorem own_eq {s : Hp} {a : Addr} {v w : Value} (h : Own s a v) (g : cellAt s a = some w) : w = v := by rw [h.cell] at g; cases g; rfl
section
variable {W : World} {s : Hp}
theorem own_same {O : Nat → Prop} {s s' : Hp} {a : Addr} {v : Value} (h : Own s a v) (ho : O a.block) (k : ∀ b, O b → b < s.size → s'[b]? = s[b]?) : Own s' a v :=
  ⟨by rw [cell_of_block (k _ ho h.lt)]; exact h.1, by rw [frozen_of_block (k _ ho h.lt)]; exact h.2⟩
/-- How much is left. -/
def remL (B : Nat) (s : Hp) : Nat := match cellAt s ⟨B, 0, none⟩ with | some (.string b) => b.size | _ => 0
theorem remL_own {s : Hp} {B : Nat} {v : BL} (h : Own s ⟨B, 0, none⟩ (.string (bs v))) : remL B s = v.length := by unfold remL; rw [h.cell]; exact bs_size v
/-- What holds between rounds. -/
def LinI (t : BL) (B z0 : Nat) (I : Nat → Nat → Hp → Prop) (s' : Hp) : Prop := ∃ (k : Nat) (r : BL), Own s' ⟨B, 0, none⟩ (.string (bs r)) ∧ lnl t = (lnl t).take k ++ lnl r ∧ k ≤ (lnl t).length ∧ r.length ≤ 100000 ∧ I z0 k s' ∧ z0 ≤ s'.size
theorem doesV_cap {P : Program} {f : FuncId} {y c : Value} {R : Ending → Hp → Prop} (h : Does P W f #[y, c] s R) : DoesV P W (.func (.func f) #[] #[c]) #[y] s R := by
  show Does P W f (#[] ++ #[y] ++ #[c]) s R
  have e : (#[] ++ #[y] ++ #[c] : Array Value) = #[y, c] := rfl
  rw [e]; exact h
/-- strings.Lines' iterator. -/
theorem it_lines {t : BL} {B : Nat} (ht : t.length ≤ 100000) : IterP Pg W (.func (.func 133) #[] #[.pointer (some ⟨B, 0, none⟩)]) (lnl t).length (fun z k x _ s => ∃ h : k < (lnl t).length, x = [.string (bs ((lnl t)[k]))]) (fun _ => True) (fun s => Own s ⟨B, 0, none⟩ (.string (bs t))) (· = B) True (fun _ _ => False) := by
  refine ⟨⟨_, _, _, rfl⟩, fun y I J E s hy hR0 _ hI0 hI hJ hE hround => ?_⟩
  obtain ⟨R, hR⟩ : ∃ R : Ending → Hp → Prop, R = fun e s' => ∃ z, s.size ≤ z ∧ z ≤ s'.size ∧ ((∃ v, e = .returned v ∧ ((True ∧ I z (lnl t).length s') ∨ J z s')) ∨ ∃ c, e = .panicked c ∧ (E z c s' ∨ ∃ k, (fun _ _ => False : Nat → List PanicEntry → Prop) k c ∧ I z k s')) := ⟨_, rfl⟩
  rw [← hR]
  refine doesV_cap (does_strings_Lines_c1 W y ⟨B, 0, none⟩ R s ?_)
  unfold T_strings_Lines_c1
  have hzz : ∀ b, OwnB (· = B) s.size s.size b ↔ b = B := fun b => ⟨fun h => h.elim id (fun h => by omega), fun h => .inl h⟩
  refine L_strings_Lines_c1_0_rule W _ y ⟨B, 0, none⟩ (LinI t B s.size I) (remL B) s ⟨0, t, hR0, by simp, by omega, ht, hI0 s ⟨Nat.le_refl _, fun _ _ _ => rfl⟩, Nat.le_refl _⟩ ?_
  rintro s1 ⟨k, r, o1, hl, hk, hrl, i1, z1⟩
  unfold B_strings_Lines_c1_0
  have hblt := o1.lt
  refine ⟨_, o1.cell, ?_⟩
  refine BR_dec (fun hpos => ?_) (fun hpos => ?_) <;> rw [bs_size] at hpos
  · have hr0 : r ≠ [] := by rintro rfl; simp at hpos
    have hlk : (lnl t).drop k = lnl r := by
      conv => lhs; rw [hl]
      rw [List.drop_append_of_le_length (by simp; omega)]
      simp [List.drop_take_self]
    have hkl : k < (lnl t).length := by
      rcases Nat.lt_or_ge k (lnl t).length with h | h
      · exact h
      · have e1 : (lnl t).drop k = [] := List.drop_eq_nil_of_le h
        rw [hlk] at e1
        cases r with
        | nil => exact absurd rfl hr0
        | cons c r =>
          unfold lnl at e1
          split at e1
          · cases e1
          · split at e1 <;> cases e1
    -- a round, with the first line 'u' and what is left 'v'
    have round : ∀ (u v : BL), lnl r = u :: lnl v → ∀ (s2 : Hp), Ext s1 s2 → ∀ (s3 : Hp), Kp (· = B) s2 s3 → Own s3 ⟨B, 0, none⟩ (.string (bs v)) → ∀ (K : VK) (E' : List PanicEntry → Hp → Prop),
        (∀ s4, Own s4 ⟨B, 0, none⟩ (.string (bs v)) → I s.size (k + 1) s4 → s.size ≤ s4.size → lnl t = (lnl t).take (k + 1) ++ lnl v → K (.bool true) s4) → (∀ s4, J s.size s4 → s.size ≤ s4.size → K (.bool false) s4) → (∀ c s4, E s.size c s4 → s.size ≤ s4.size → E' c s4) →
        CALLV Pg W y [(.string (bs u))] K E' s3 := by
      intro u v huv s2 e2 s3 k3 o3 K E' h1 h2 h3
      have hsz : s1.size ≤ s3.size := Nat.le_trans e2.1 k3.1
      have same3 : Same (OwnB (· = B) s.size s.size) s1 s3 := ⟨hsz, fun b hb ho => (k3.2 b (Nat.lt_of_lt_of_le hb e2.1) (fun h => ho (.inl h))).trans (e2.2 b hb)⟩
      have hu : (lnl t)[k] = u := by
        have : (lnl t).drop k = (lnl t)[k] :: (lnl t).drop (k + 1) := List.drop_eq_getElem_cons hkl
        rw [hlk, huv] at this
        exact (List.cons.inj this).1.symm
      have hnext : lnl t = (lnl t).take (k + 1) ++ lnl v := by
        have h1 : (lnl t).drop k = (lnl t)[k] :: (lnl t).drop (k + 1) := List.drop_eq_getElem_cons hkl
        rw [hlk, huv] at h1
        rw [(List.cons.inj h1).2, List.take_append_drop]
      refine (hround s.size k [.string (bs u)] s1 s3 (Nat.le_refl _) z1 hkl i1 same3 ⟨hkl, by rw [hu]⟩).mono ?_
      rintro e s4 ⟨g1, g2, g3⟩
      have o4 : Own s4 ⟨B, 0, none⟩ (.string (bs v)) := own_same (O := (· = B)) o3 rfl fun b hb hlt => g2 b (.inl hb) hlt
      have z4 : s.size ≤ s4.size := by omega
      rcases g3 with ⟨rfl, g3⟩ | ⟨rfl, g3⟩ | ⟨c, rfl, g3⟩
      · exact h1 s4 o4 g3 z4 hnext
      · exact h2 s4 g3 z4
      · exact h3 c s4 g3 z4
    have stop : ∀ s4, J s.size s4 → s.size ≤ s4.size → R (.returned (.tuple #[])) s4 := fun s4 h z4 => by rw [hR]; exact ⟨s.size, Nat.le_refl _, z4, .inl ⟨_, rfl, .inr h⟩⟩
    have pan : ∀ c s4, E s.size c s4 → s.size ≤ s4.size → R (.panicked c) s4 := fun c s4 h z4 => by rw [hR]; exact ⟨s.size, Nat.le_refl _, z4, .inr ⟨_, rfl, .inl h⟩⟩
    refine ⟨_, o1.cell, ?_⟩
    refine c_IndexByte fun s2 e2 => ?_
    rw [bs_l]
    have h10 : (Int.toNat 10).toUInt8 = (10 : UInt8) := rfl
    rw [h10]
    by_cases hin : 10 ∈ r
    · obtain ⟨u, v, rfl, hu⟩ := one_split hin
      rw [ib_at hu]
      try simp only [TUP_mk, AGG_mk, HD_mk, NL_mk, TYI_mk, TYB_mk, TYP_mk, TYL_mk, TYS_mk, TYM_mk, SO_mk, NX_mk, endK_mk, endK_mk', add_0]
      refine BR_tt (decide_eq_true (by omega)) ?_
      have hw : IntKind.wrap .i64 (((u.length : Nat) : Int) + 1) = ((u.length + 1 : Nat) : Int) := by
        simp only [List.length_append, List.length_cons] at hrl
        rw [wrap_i64 (by omega) (by omega)]; omega
      have o2 := e2.own o1
      have hu' : lnl (u ++ 10 :: v) = (u ++ [10]) :: lnl v := lnl_app hu
      have x1 : (bs (u ++ 10 :: v)).extract (Int.toNat 0) (Int.toNat ((u.length + 1 : Nat) : Int)) = bs (u ++ [10]) := by
        rw [bs_ext, Int.toNat_natCast]
        congr 1
        show (u ++ 10 :: v).take (u.length + 1 - 0) = _
        rw [show u ++ 10 :: v = (u ++ [10]) ++ v by simp, List.take_left' (by simp)]
      have x2 : (bs (u ++ 10 :: v)).extract (Int.toNat ((u.length + 1 : Nat) : Int)) (Int.toNat (((bs (u ++ 10 :: v)).size : Nat) : Int)) = bs v := by
        rw [bs_ext, Int.toNat_natCast, Int.toNat_natCast, bs_size]
        congr 1
        rw [show u ++ 10 :: v = (u ++ [10]) ++ v by simp, List.drop_left' (by simp)]
        apply List.take_of_length_le
        simp; omega
      have sl1 : ∀ {K : ByteArray → Hp → Prop} {s' : Hp}, K (bs (u ++ [10])) s' → STSL (bs (u ++ 10 :: v)) 0 ((u.length + 1 : Nat) : Int) K s' := fun {K s'} h => ⟨⟨by omega, by omega, by rw [bs_size]; simp; omega⟩, by rw [x1]; exact h⟩
      have sl2 : ∀ {K : ByteArray → Hp → Prop} {s' : Hp}, K (bs v) s' → STSL (bs (u ++ 10 :: v)) ((u.length + 1 : Nat) : Int) (((bs (u ++ 10 :: v)).size : Nat) : Int) K s' := fun {K s'} h => ⟨⟨by omega, by rw [bs_size]; simp; omega, by omega⟩, by rw [x2]; exact h⟩
      have hvl : v.length ≤ 100000 := by simp only [List.length_append, List.length_cons] at hrl; omega
      have nx : ∀ s4, Own s4 ⟨B, 0, none⟩ (.string (bs v)) → I s.size (k + 1) s4 → s.size ≤ s4.size → lnl t = (lnl t).take (k + 1) ++ lnl v → N_strings_Lines_c1_0 (LinI t B s.size I) (remL B) s1 [] s4 := fun s4 o4 i4 z4 hn => ⟨rfl, ⟨k + 1, v, o4, hn, by omega, hvl, i4, z4⟩, by
        rw [remL_own o4, remL_own o1]
        simp only [List.length_append, List.length_cons]
        omega⟩
      refine ⟨_, o2.cell, _, o2.cell, ?_⟩
      rw [hw]
      refine CONJ_more ?_ (CONJ_one ?_)
      · refine sl1 (ANDS_i ⟨_, o2.cell, rfl⟩ (CONJ_more ?_ (CONJ_one ?_)))
        · refine sl2 (ANDS_i ⟨_, o2.cell, rfl⟩ (ANDS_i ⟨_, o2.cell, rfl⟩ ?_))
          refine wr1 (a := ⟨B, 0, none⟩) o2 rfl fun s3 k3 z3 o3 => ?_
          refine round (u ++ [10]) v hu' s2 e2 s3 k3 o3 _ _ (fun s4 o4 i4 z4 hn => ?_) (fun s4 j4 z4 => ?_) pan
          · try simp only [TUP_mk, AGG_mk, HD_mk, NL_mk, TYI_mk, TYB_mk, TYP_mk, TYL_mk, TYS_mk, TYM_mk, SO_mk, NX_mk, endK_mk, endK_mk', add_0]
            exact BR_ff rfl (nx s4 o4 i4 z4 hn)
          · try simp only [TUP_mk, AGG_mk, HD_mk, NL_mk, TYI_mk, TYB_mk, TYP_mk, TYL_mk, TYS_mk, TYM_mk, SO_mk, NX_mk, endK_mk, endK_mk', add_0]
            exact BR_tt rfl (stop s4 j4 z4)
        · refine ANDS_i ⟨_, o2.cell, rfl⟩ (sl2 (ANDS_i ⟨_, o2.cell, rfl⟩ ?_))
          refine wr1 (a := ⟨B, 0, none⟩) o2 rfl fun s3 k3 z3 o3 => ?_
          refine round (u ++ [10]) v hu' s2 e2 s3 k3 o3 _ _ (fun s4 o4 i4 z4 hn => ?_) (fun s4 j4 z4 => ?_) pan
          · try simp only [TUP_mk, AGG_mk, HD_mk, NL_mk, TYI_mk, TYB_mk, TYP_mk, TYL_mk, TYS_mk, TYM_mk, SO_mk, NX_mk, endK_mk, endK_mk', add_0]
            exact BR_ff rfl (nx s4 o4 i4 z4 hn)
          · try simp only [TUP_mk, AGG_mk, HD_mk, NL_mk, TYI_mk, TYB_mk, TYP_mk, TYL_mk, TYS_mk, TYM_mk, SO_mk, NX_mk, endK_mk, endK_mk', add_0]
            exact BR_tt rfl (stop s4 j4 z4)
      · refine sl2 (ANDS_i ⟨_, o2.cell, rfl⟩ (sl1 (ANDS_i ⟨_, o2.cell, rfl⟩ (ANDS_i ⟨_, o2.cell, rfl⟩ ?_))))
        refine wr1 (a := ⟨B, 0, none⟩) o2 rfl fun s3 k3 z3 o3 => ?_
        refine round (u ++ [10]) v hu' s2 e2 s3 k3 o3 _ _ (fun s4 o4 i4 z4 hn => ?_) (fun s4 j4 z4 => ?_) pan
        · try simp only [TUP_mk, AGG_mk, HD_mk, NL_mk, TYI_mk, TYB_mk, TYP_mk, TYL_mk, TYS_mk, TYM_mk, SO_mk, NX_mk, endK_mk, endK_mk', add_0]
          exact BR_ff rfl (nx s4 o4 i4 z4 hn)
        · try simp only [TUP_mk, AGG_mk, HD_mk, NL_mk, TYI_mk, TYB_mk, TYP_mk, TYL_mk, TYS_mk, TYM_mk, SO_mk, NX_mk, endK_mk, endK_mk', add_0]
          exact BR_tt rfl (stop s4 j4 z4)
    · rw [ib_none hin]
      try simp only [TUP_mk, AGG_mk, HD_mk, NL_mk, TYI_mk, TYB_mk, TYP_mk, TYL_mk, TYS_mk, TYM_mk, SO_mk, NX_mk, endK_mk, endK_mk', add_0]
      refine BR_ff (decide_eq_false (by omega)) ?_
      have o2 := e2.own o1
      refine ⟨_, o2.cell, ?_⟩
      refine wr1 (a := ⟨B, 0, none⟩) o2 rfl fun s3 k3 z3 o3 => ?_
      have hu' : lnl r = r :: lnl [] := by rw [lnl_none hin hr0]; rfl
      refine round r [] hu' s2 e2 s3 k3 o3 _ _ (fun s4 o4 i4 z4 hn => ?_) (fun s4 j4 z4 => ?_) pan
      · try simp only [TUP_mk, AGG_mk, HD_mk, NL_mk, TYI_mk, TYB_mk, TYP_mk, TYL_mk, TYS_mk, TYM_mk, SO_mk, NX_mk, endK_mk, endK_mk', add_0]
        refine BR_ff rfl ⟨rfl, ⟨k + 1, [], o4, hn, by omega, by simp, i4, z4⟩, ?_⟩
        rw [remL_own o4, remL_own o1]
        exact List.length_pos_iff.2 hr0
      · try simp only [TUP_mk, AGG_mk, HD_mk, NL_mk, TYI_mk, TYB_mk, TYP_mk, TYL_mk, TYS_mk, TYM_mk, SO_mk, NX_mk, endK_mk, endK_mk', add_0]
        exact BR_tt rfl (stop s4 j4 z4)
  · have hr0 : r = [] := List.eq_nil_of_length_eq_zero (by omega)
    subst hr0
    have hkl : k = (lnl t).length := by
      have := congrArg List.length hl
      simp [lnl] at this
      omega
    subst hkl
    rw [hR]
    exact ⟨s.size, Nat.le_refl _, z1, .inl ⟨_, rfl, .inl ⟨trivial, i1⟩⟩⟩
end
end Go.Proofs.YtcjgbanpkmpekaaGreatDoor.G

/- The iterator of rows. -/
set_option linter.unusedVariables false
set_option linter.unusedSimpArgs false
set_option maxRecDepth 20000
namespace Go.Proofs.YtcjgbanpkmpekaaGreatDoor.G
open Go.V
theorem spl_len {c : UInt8} : ∀ {l w : BL}, w ∈ spl c l → w.length ≤ l.length
  | [], w, h => by simp [spl] at h; subst h; simp
  | x :: l, w, h => by
    unfold spl at h
    split at h
    · rcases List.mem_cons.1 h with rfl | h
      · simp
      · have := spl_len h; simp; omega
    · split at h
      · rename_i e; exact absurd e (spl_ne _ _)
      · rename_i w' ws e
        rcases List.mem_cons.1 h with rfl | h
        · have := spl_len (c := c) (l := l) (w := w') (by rw [e]; simp)
          simp; omega
        · have := spl_len (c := c) (l := l) (w := w) (by rw [e]; simp [h])
          simp; omega
theorem lnl_len : ∀ {l w : BL}, w ∈ lnl l → w.length ≤ l.length
  | [], w, h => by simp [lnl] at h
  | x :: l, w, h => by
    unfold lnl at h
    split at h
    · rcases List.mem_cons.1 h with rfl | h
      · simp
      · have := lnl_len h; simp; omega
    · split at h
      · simp at h; subst h; simp
      · rename_i w' ws e
        rcases List.mem_cons.1 h with rfl | h
        · have := lnl_len (l := l) (w := w') (by rw [e]; simp)
          simp; omega
        · have := lnl_len (l := l) (w := w) (by rw [e]; simp [h])
          simp; omega
theorem own_mask {s : Hp} {l : Nat} {o : Obj} {a : Addr} {v : Value} (hl : s[l]? = some o) (ho : hidden o = true) (h : Own s a v) : Own (s.setIfInBounds l junk) a v := by
  have hne : a.block ≠ l := by
    rintro rfl
    obtain ⟨c, t, f, hb⟩ := block_of_cell h.1
    rw [hl] at hb; cases hb; cases ho
  refine ⟨by rw [cell_of_block (set_ne hne)]; exact h.1, by rw [frozen_of_block (set_ne hne)]; exact h.2⟩
theorem cell_mask {s : Hp} {l : Nat} {o : Obj} {a : Addr} {v : Value} (hl : s[l]? = some o) (ho : hidden o = true) (h : cellAt s a = some v) : cellAt (s.setIfInBounds l junk) a = some v := by
  have hne : a.block ≠ l := by
    rintro rfl
    obtain ⟨c, t, f, hb⟩ := block_of_cell h
    rw [hl] at hb; cases hb; cases ho
  rw [cell_of_block (set_ne hne)]; exact h
theorem own_blind {s : Hp} {l : Nat} {o : Obj} {a : Addr} {v : Value} (hl : s[l]? = some o) (h : Own (s.setIfInBounds l junk) a v) : Own s a v := by
  have hne : a.block ≠ l := by
    rintro rfl
    obtain ⟨c, t, f, hb⟩ := block_of_cell h.1
    have hlt : a.block < s.size := (Array.getElem?_eq_some_iff.1 hl).1
    rw [set_eq hlt] at hb; cases hb
  refine ⟨by rw [← cell_of_block (set_ne hne)]; exact h.1, by rw [← frozen_of_block (set_ne hne)]; exact h.2⟩
theorem RowS.mask {s : Hp} {l : Nat} {o : Obj} {a : Addr} {q : Nat} {ps : List BL} (hl : s[l]? = some o) (ho : hidden o = true) (h : RowS s a q ps) : RowS (s.setIfInBounds l junk) a q ps := by
  obtain ⟨⟨x, c, h1, h2, h3, h4⟩, h5, h6, h7⟩ := h
  refine ⟨⟨x, c, own_mask hl ho h1, h2, fun i hi => ?_, h4⟩, h5, by simpa using h6, h7⟩
  obtain ⟨b, hb, hc⟩ := h3 i hi
  exact ⟨b, hb, cell_mask hl ho hc⟩
theorem Env.blind : Blind Env := fun s l o hl ho h => by
  refine ⟨?_, ?_, ?_, ?_, ?_⟩
  · obtain ⟨m, hm⟩ := h.mx; exact ⟨m, cell_blind hl hm⟩
  · intro hb
    obtain ⟨g, t, f, h1, h2⟩ := h.pow hb
    refine ⟨g, t, f, h1, ?_⟩
    by_cases e : g = l
    · subst e
      rw [set_eq (Array.getElem?_eq_some_iff.1 hl).1] at h2; cases h2
    · rw [← set_ne e (o := junk)]; exact h2
  · intro hB; obtain ⟨v, hm, hv⟩ := h.es hB; exact ⟨v, cell_blind hl hm, hv⟩
  · simpa using h.sz
  · intro hB; obtain ⟨v, hm, hv⟩ := h.er hB; exact ⟨v, cell_blind hl hm, hv⟩
theorem splitB_spl (l : BL) : Lib.splitB (ByteArray.mk #[32]) 0 (Lib.countB (bs l) (ByteArray.mk #[32])) (bs l) = (spl 32 l).map bs := by
  have h1 := Lib.splitB_data (ByteArray.mk #[32]) 0 (Lib.countB (bs l) (ByteArray.mk #[32])) (bs l)
  have h2 : Lib.splitK (ByteArray.mk #[32]).data.toList 0 (Lib.countB (bs l) (ByteArray.mk #[32])) (bs l).data.toList = spl 32 l := split_one 32 _ l rfl
  rw [h2] at h1
  rw [← h1, List.map_map]
  have : (bs ∘ fun x : ByteArray => x.data.toList) = id := by funext b; exact bs_of b
  rw [this, List.map_id]
theorem count_spl (l : BL) : Lib.countB (bs l) (ByteArray.mk #[32]) + 1 = (spl 32 l).length := by
  have h1 := Lib.splitB_all (ByteArray.mk #[32]) (by show 1 ≤ 1; omega) 0 _ (bs l) rfl
  rw [splitB_spl, List.length_map] at h1
  exact h1.symm
section
variable {W : World} {s : Hp} {K : VK} {E : List PanicEntry → Hp → Prop}
/-- A line's parts. -/
theorem row_new' {vs : List Value} {B : Nat} {s : Hp} (h : ∀ i v, vs[i]? = some v → Own s ⟨B, i, none⟩ v) : RowAt s (some ⟨B, 0, none⟩) vs := fun i hi => ⟨_, rfl, by
  rw [Nat.mul_one, add_nil, Nat.zero_add]
  exact (h i _ (List.getElem?_eq_getElem hi)).cell⟩
theorem c_split {l : BL} (hl : l.length ≤ 100000) (he : Env s) (hk : ∀ s', Ext s s' → s'.size = s.size + 1 → (∀ c, c = (spl 32 l).length → Own s' ⟨s.size, 0, none⟩ ((strs (spl 32 l)).headD undef) → RowAt s' (some ⟨s.size, 0, none⟩) (strs (spl 32 l)) → K (.slice (some ⟨s.size, 0, none⟩) c c) s')) : CALL Pg W F_strings_Split [.string (bs l), .string ⟨#[32]⟩] K E s := by
  refine c_Split (by rw [bs_size]; omega) (by show 1 ≤ 1; omega) he fun s' e => ?_
  subst e
  have hstr : (Lib.splitB (ByteArray.mk #[32]) 0 (Lib.countB (bs l) (ByteArray.mk #[32])) (bs l)).map Value.string = strs (spl 32 l) := by
    rw [splitB_spl, List.map_map]; rfl
  rw [hstr]
  refine hk _ (Ext.push (Ext.refl s)) (by simp) _ (count_spl l) ?_ ?_
  · apply own_new
    cases h : spl 32 l with
    | nil => exact absurd h (spl_ne _ _)
    | cons a b => rfl
  · exact row_new' fun i v hv => own_new hv
/-- What is yielded: a row. -/
def RowY (t : BL) (z k : Nat) (x : List Value) (s0 s : Hp) : Prop := ∃ (h : k < (lnl t).length) (a : Addr) (q : Nat), x = [.pointer (some a)] ∧ RowS s a q (lparts (lnl t)[k]) ∧ s0.size ≤ a.block ∧ s0.size ≤ q
/-- The iterator of rows. -/
theorem it_rows {t : BL} {B : Nat} (ht : t.length ≤ 100000) : IterP Pg W (.func (.func 125) #[] #[.pointer (some ⟨B, 0, none⟩)]) (lnl t).length (RowY t) Env (fun s => Env s ∧ cellAt s ⟨B, 0, none⟩ = some (.string (bs t))) (fun _ => False) (Lib.hasSuffix t [10] = true) (fun k c => c = MF 8 ∧ Lib.hasSuffix t [10] = false ∧ k = 0) := by
  refine ⟨⟨_, _, _, rfl⟩, fun y I J E s hy hR0 hIR hI0 hI hJ hE hround => ?_⟩
  obtain ⟨R, hR⟩ : ∃ R : Ending → Hp → Prop, R = fun e s' => ∃ z, s.size ≤ z ∧ z ≤ s'.size ∧ ((∃ v, e = .returned v ∧ ((Lib.hasSuffix t [10] = true ∧ I z (lnl t).length s') ∨ J z s')) ∨ ∃ c, e = .panicked c ∧ (E z c s' ∨ ∃ k, (fun k c => c = MF 8 ∧ Lib.hasSuffix t [10] = false ∧ k = 0 : Nat → List PanicEntry → Prop) k c ∧ I z k s')) := ⟨_, rfl⟩
  rw [← hR]
  refine doesV_cap (does_book_rows_c1 W y ⟨B, 0, none⟩ R s ?_)
  unfold T_book_rows_c1
  unfold ONE
  rw [hy]
  refine ne1 fun s1 e1 z1 o1 => ?_
  have hB := e1.cell hR0.2
  refine ⟨_, hB, ?_⟩
  refine c_HasSuffix (by rw [bs_size]; omega) fun s2 e2 => ?_
  rw [bs_l]
  have hby : (ByteArray.mk #[10]).data.toList = ([10] : BL) := rfl
  rw [hby]
  try simp only [TUP_mk, AGG_mk, HD_mk, NL_mk, TYI_mk, TYB_mk, TYP_mk, TYL_mk, TYS_mk, TYM_mk, SO_mk, NX_mk, endK_mk, endK_mk', add_0]
  have e12 := e1.trans e2
  refine c_need (fun hs => ?_) (fun hs => ?_)
  rotate_left
  · rw [hR]
    exact ⟨s2.size, e12.1, Nat.le_refl _, .inr ⟨_, rfl, .inr ⟨0, ⟨rfl, hs, rfl⟩, hI0 s2 ⟨e12.1, fun b hb _ => e12.2 b hb⟩⟩⟩⟩
  try simp only [TUP_mk, AGG_mk, HD_mk, NL_mk, TYI_mk, TYB_mk, TYP_mk, TYL_mk, TYS_mk, TYM_mk, SO_mk, NX_mk, endK_mk, endK_mk', add_0]
  refine ⟨_, e2.cell hB, ?_⟩
  refine does_strings_Lines W (bs t) _ s2 ?_
  unfold T_strings_Lines
  refine ne1 fun s3 e3 z3 o3 => ?_
  try simp only [TUP_mk, AGG_mk, HD_mk, NL_mk, TYI_mk, TYB_mk, TYP_mk, TYL_mk, TYS_mk, TYM_mk, SO_mk, NX_mk, endK_mk, endK_mk', add_0]
  have e13 := e12.trans e3
  have hs2 := e2.1
  -- the round's own
  refine ⟨_, _, _, _, _, _, _, fun z k s' => I z k s' ∧ cellAt s' ⟨s.size, 0, none⟩ = some y, fun z c s' => c = .ret ∧ J z s', fun z c s' => E z c s', it_lines (B := s2.size) ht, fun _ _ _ _ _ _ => trivial, fun s' l o hl ho h => own_blind hl h, fun _ _ _ _ _ _ _ _ _ _ h => h, fun _ _ _ _ => trivial, ?_, ?_, ?_, ?_, ?_, ?_, ?_, ?_, ?_, ?_, ?_⟩
  · exact own_push (own_push o3)
  · show ¬ s3.size + 1 = s2.size
    omega
  · intro s0 h0
    refine ⟨hI0 s0 ⟨?_, fun b hb _ => ?_⟩, ?_⟩
    · have := h0.1; simp at this; have := e13.1; omega
    · have hb3 : b < s3.size := Nat.lt_of_lt_of_le hb e13.1
      rw [h0.2 b (by simp; omega) (fun h => by have h' : b = s2.size := h; have := e12.1; omega), Array.getElem?_push, if_neg (by simp; omega), Array.getElem?_push, if_neg (by omega)]
      exact e13.2 b hb
    · have hlt : s.size < s3.size := by omega
      rw [cell_of_block (h0.2 s.size (by simp; omega) (fun h => by have h' : s.size = s2.size := h; omega))]
      exact cell_push (cell_push (e3.cell (e2.cell o1.cell)))
  · rintro z k t1 t2 hz hz1 ⟨h1, h2⟩ hs
    refine ⟨hI z k t1 t2 (by omega) hz1 h1 ⟨hs.1, fun b hb ho => hs.2 b hb fun h => ho (.inr ?_)⟩, ?_⟩
    · rcases h with h | h
      · have h' : b = s2.size := h; omega
      · omega
    · rw [cell_of_block (hs.2 s.size (cell_lt h2) (fun h => by
        rcases h with h | h
        · have h' : s.size = s2.size := h; omega
        · have h' : s3.size + 2 ≤ s.size := h.1; omega))]
      exact h2
  · rintro z c t1 t2 hz hz1 ⟨h1, h2⟩ hs
    refine ⟨h1, hJ z t1 t2 (by omega) hz1 h2 ⟨hs.1, fun b hb ho => hs.2 b hb fun h => ho (.inr ?_)⟩⟩
    rcases h with h | h
    · have h' : b = s2.size := h; omega
    · omega
  · intro z c t1 t2 hz hz1 h2 hs
    refine hE z c t1 t2 (by omega) hz1 h2 ⟨hs.1, fun b hb ho => hs.2 b hb fun h => ho (.inr ?_)⟩
    rcases h with h | h
    · have h' : b = s2.size := h; omega
    · omega
  · rintro z k x t0 t1 hz hz0 hk ⟨i0, c0⟩ hsame ⟨hk', rfl⟩
    refine ⟨rfl, ?_⟩
    have hz1 : z ≤ t1.size := Nat.le_trans hz0 hsame.1
    have same1 : Same (OwnB (fun _ => False) s.size z) t0 t1 := ⟨hsame.1, fun b hb ho => hsame.2 b hb fun h => ho (.inr (by
      rcases h with h | h
      · have h' : b = s2.size := h; omega
      · omega))⟩
    have i1 : I z k t1 := hI z k t0 t1 (by omega) hz0 i0 same1
    have c1 : cellAt t1 ⟨s.size, 0, none⟩ = some y := by
      rw [cell_of_block (hsame.2 s.size (cell_lt c0) (fun h => by
        rcases h with h | h
        · have h' : s.size = s2.size := h; omega
        · have h' : s3.size + 2 ≤ s.size := h.1; omega))]
      exact c0
    try simp only [TUP_mk, AGG_mk, HD_mk, NL_mk, TYI_mk, TYB_mk, TYP_mk, TYL_mk, TYS_mk, TYM_mk, SO_mk, NX_mk, endK_mk, endK_mk', add_0]
    refine ⟨_, c1, ?_⟩
    have hle : (lnl t)[k].length ≤ 100000 := Nat.le_trans (lnl_len (List.getElem_mem hk')) ht
    refine c_TrimSuffix (by rw [bs_size]; omega) fun t2 f2 => ?_
    rw [bs_l, hby]
    try simp only [TUP_mk, AGG_mk, HD_mk, NL_mk, TYI_mk, TYB_mk, TYP_mk, TYL_mk, TYS_mk, TYM_mk, SO_mk, NX_mk, endK_mk, endK_mk', add_0]
    refine ANDS_i ⟨_, f2.cell c1, rfl⟩ ?_
    have htl : (Lib.trimSuffix (lnl t)[k] [10]).length ≤ 100000 := Nat.le_trans (Lib.trimSuffix_le _ _) hle
    have hen : Env t1 := hIR z k t1 i1
    refine c_split (l := Lib.trimSuffix (lnl t)[k] [10]) htl (hen.ext f2) fun t3 f3 w3 n hn _ hrow => ?_
    subst hn
    try simp only [TUP_mk, AGG_mk, HD_mk, NL_mk, TYI_mk, TYB_mk, TYP_mk, TYL_mk, TYS_mk, TYM_mk, SO_mk, NX_mk, endK_mk, endK_mk', add_0]
    refine ANDS_i ⟨_, f3.cell (f2.cell c1), rfl⟩ ?_
    refine ne1 fun t4 f4 w4 o4 => ?_
    refine ANDS_i ⟨_, f4.cell (f3.cell (f2.cell c1)), rfl⟩ ?_
    have f14 := (f2.trans f3).trans f4
    have same4 : Same (OwnB (fun _ => False) s.size z) t0 t4 := ⟨Nat.le_trans same1.1 f14.1, fun b hb ho => (f14.2 b (Nat.lt_of_lt_of_le hb same1.1)).trans (same1.2 b hb ho)⟩
    have hz2 : t0.size ≤ t2.size := Nat.le_trans same1.1 f2.1
    have hz3 : z ≤ t2.size := Nat.le_trans hz0 hz2
    have hY : RowY t z k [.pointer (some ⟨t3.size, 0, none⟩)] t0 t4 := by
      refine ⟨hk', ⟨t3.size, 0, none⟩, t2.size, rfl, ⟨⟨_, _, o4, Nat.le_refl _, hrow.ext f4, ?_⟩, ?_, ?_, ?_⟩, ?_, hz2⟩
      · intro b hb; cases hb; rfl
      · show t2.size ≠ t3.size; omega
      · omega
      · intro w hw
        exact Nat.le_trans (spl_len hw) htl
      · show t0.size ≤ t3.size; omega
    refine (hround z k _ t0 t4 (by omega) hz0 hk' i0 same4 hY).mono ?_
    rintro e t5 ⟨g1, g2, g3⟩
    have c5 : cellAt t5 ⟨s.size, 0, none⟩ = some y := by
      have c4 := f14.cell c1
      rw [cell_of_block (g2 s.size (.inr ⟨Nat.le_refl _, by omega⟩) (cell_lt c4))]
      exact c4
    have keep : ∀ b, OwnB (· = s2.size) (s3.size + 2) z b → b < t1.size → t5[b]? = t1[b]? := by
      intro b hb hlt
      have hb' : OwnB (fun _ => False) s.size z b := by
        rcases hb with h | h
        · have h' : b = s2.size := h
          exact .inr (by omega)
        · exact .inr (by omega)
      rw [g2 b hb' (Nat.lt_of_lt_of_le hlt f14.1)]
      exact f14.2 b hlt
    rcases g3 with ⟨rfl, g3⟩ | ⟨rfl, g3⟩ | ⟨c, rfl, g3⟩
    · try simp only [TUP_mk, AGG_mk, HD_mk, NL_mk, TYI_mk, TYB_mk, TYP_mk, TYL_mk, TYS_mk, TYM_mk, SO_mk, NX_mk, endK_mk, endK_mk', add_0]
      exact BR_ff rfl ⟨keep, g3, c5⟩
    · try simp only [TUP_mk, AGG_mk, HD_mk, NL_mk, TYI_mk, TYB_mk, TYP_mk, TYL_mk, TYS_mk, TYM_mk, SO_mk, NX_mk, endK_mk, endK_mk', add_0]
      exact BR_tt rfl ⟨keep, ⟨trivial, g3⟩⟩
    · exact ⟨keep, g3⟩
  · rintro z t2 hz hz1 _ ⟨i1, _⟩
    show R (.returned (.tuple #[])) t2
    rw [hR]
    exact ⟨z, by omega, hz1, .inl ⟨_, rfl, .inl ⟨hs, i1⟩⟩⟩
  · rintro z c t2 hz hz1 ⟨rfl, h⟩
    show R (.returned (.tuple #[])) t2
    rw [hR]
    exact ⟨z, by omega, hz1, .inl ⟨_, rfl, .inr h⟩⟩
  · intro z c t2 hz hz1 h
    rw [hR]
    exact ⟨z, by omega, hz1, .inr ⟨_, rfl, .inl h⟩⟩
  · intro z k c t2 hz hz1 h
    exact h.elim
end
end Go.Proofs.YtcjgbanpkmpekaaGreatDoor.G

/- Book: maps from texts, as what is found in them. -/
set_option linter.unusedSimpArgs false
set_option linter.unusedVariables false
set_option maxRecDepth 20000
namespace Go.Proofs.YtcjgbanpkmpekaaGreatDoor.G
open Go.V
theorem und_9 : Pg.underlying 9 = some .string := by kernel_rfl
theorem und_177 : ∃ e, Pg.underlying 177 = some (.map 9 e) ∧ ∀ (K : Value → Hp → Prop) (E : Value → Hp → Prop) (s : Hp), sp Pg (zeroValue e) K E s = K .nilFunc s := ⟨184, by kernel_rfl, fun K E s => by kernel_rfl⟩
theorem check_str (b : Bool) (m : ByteArray) (K : Unit → Hp → Prop) (E : Value → Hp → Prop) (s : Hp) : sp Pg (Instr.checkKey b 10000 9 (.string m)) K E s = K () s := by kernel_rfl
def kv (x : ByteArray × Value) : Value × Value := (.string x.1, x.2)
def findV (k : ByteArray) : List (ByteArray × Value) → Nat → Option (Nat × Value)
  | [], _ => none
  | x :: r, i => if k = x.1 then some (i, x.2) else findV k r (i + 1)
def lookV (l : List (ByteArray × Value)) (k : ByteArray) : Option Value := (findV k l 0).map (·.2)
theorem findV_shift {k : ByteArray} : ∀ (l : List (ByteArray × Value)) (i : Nat), (findV k l i).map (·.2) = (findV k l 0).map (·.2)
  | [], _ => rfl
  | x :: r, i => by
    unfold findV
    by_cases h : k = x.1
    · rw [if_pos h, if_pos h]; rfl
    · rw [if_neg h, if_neg h, findV_shift r (i + 1), findV_shift r (0 + 1)]
theorem lookV_cons (x : ByteArray × Value) (r : List (ByteArray × Value)) (k : ByteArray) : lookV (x :: r) k = if k = x.1 then some x.2 else lookV r k := by
  unfold lookV
  conv => lhs; unfold findV
  by_cases h : k = x.1
  · rw [if_pos h, if_pos h]; rfl
  · rw [if_neg h, if_neg h, findV_shift]
theorem findV_some {k : ByteArray} : ∀ (l : List (ByteArray × Value)) (i j : Nat) (v : Value), findV k l i = some (j, v) → ∃ n, j = i + n ∧ n < l.length ∧ l[n]? = some (k, v) ∧ ∀ w k', lookV (l.set n (k, w)) k' = if k' = k then some w else lookV l k'
  | [], _, _, _, h => by cases h
  | x :: r, i, j, v, h => by
    unfold findV at h
    by_cases he : k = x.1
    · rw [if_pos he] at h
      cases h
      refine ⟨0, rfl, by simp, by rw [he]; rfl, fun w k' => ?_⟩
      rw [List.set_cons_zero, lookV_cons, lookV_cons, ← he]
      by_cases h2 : k' = k
      · rw [if_pos h2, if_pos h2]
      · rw [if_neg h2, if_neg h2, if_neg h2]
    · rw [if_neg he] at h
      obtain ⟨n, h1, h2, h3, h4⟩ := findV_some r (i + 1) j v h
      refine ⟨n + 1, by omega, by simp; omega, by simpa using h3, fun w k' => ?_⟩
      rw [List.set_cons_succ, lookV_cons, lookV_cons, h4]
      by_cases h5 : k' = x.1
      · rw [if_pos h5, if_pos h5, if_neg (fun e => he (e.symm.trans h5))]
      · rw [if_neg h5, if_neg h5]
theorem findV_none {k : ByteArray} : ∀ (l : List (ByteArray × Value)) (i : Nat), findV k l i = none → ∀ w k', lookV (l ++ [(k, w)]) k' = if k' = k then some w else lookV l k'
  | [], _, _, w, k' => by
    rw [List.nil_append, lookV_cons]
  | x :: r, i, h, w, k' => by
    unfold findV at h
    by_cases he : k = x.1
    · rw [if_pos he] at h; cases h
    · rw [if_neg he] at h
      rw [List.cons_append, lookV_cons, lookV_cons, findV_none r (i + 1) h w k']
      by_cases h5 : k' = x.1
      · rw [if_pos h5, if_pos h5, if_neg (fun e => he (e.symm.trans h5))]
      · rw [if_neg h5, if_neg h5]
theorem ba_beq (a b : ByteArray) : (a == b) = decide (a = b) := by
  show ByteArray.beq a b = _
  unfold ByteArray.beq
  by_cases h : a = b
  · subst h; simp
  · have h2 : a.data ≠ b.data := fun e => h (by cases a; cases b; simp at e; rw [e])
    rw [decide_eq_false h, beq_eq_false_iff_ne.2 h2]
theorem find_now {k : ByteArray} : ∀ (l : List (ByteArray × Value)) (es : List MapEntry) (i : Nat), es.map (fun e => (e.key, e.val)) = l.map kv → Instr.findNow .string (.string k) es i = some (findV k l i)
  | [], [], _, _ => rfl
  | [], e :: es, _, h => by simp at h
  | x :: l, [], _, h => by simp at h
  | x :: l, e :: es, i, h => by
    simp only [List.map_cons, List.cons.injEq, kv, Prod.mk.injEq] at h
    obtain ⟨⟨h1, h2⟩, h3⟩ := h
    unfold Instr.findNow findV
    rw [h1]
    show (match some (k == x.1) with | some true => _ | some false => _ | none => _) = _
    by_cases he : k = x.1
    · have hb : (k == x.1) = true := by rw [ba_beq]; simpa using he
      rw [hb, if_pos he, h2]
    · have hb : (k == x.1) = false := by rw [ba_beq]; simpa using he
      rw [hb, if_neg he]
      exact find_now l es (i + 1) h3
theorem find_key {k : ByteArray} {K : Option (Nat × Value) → Hp → Prop} {E : Value → Hp → Prop} {s : Hp} {l : List (ByteArray × Value)} {es : Array MapEntry} (h : es.toList.map (fun e => (e.key, e.val)) = l.map kv) (hk : K (findV k l 0) s) : sp Pg (Instr.findKey 9 (.string k) es.toList) K E s := by
  unfold Instr.findKey
  rw [sp_bind, sp_und und_9, find_now l es.toList 0 h]
  exact hk
theorem same_str {k : ByteArray} : Instr.sameBits 10000 (.string k) (.string k) = true := by simp [Instr.sameBits, ba_beq]
theorem setO_get {s : Hp} {r : Nat} {o o' : Obj} (h : s[r]? = some o') : (s.setIfInBounds r o)[r]? = some o := by
  have := (Array.getElem?_eq_some_iff.1 h).1
  rw [Array.getElem?_setIfInBounds]
  simp [this]
theorem setO_kp {s : Hp} {r : Nat} {o : Obj} : Kp (· = r) s (s.setIfInBounds r o) := ⟨by simp, fun b _ hb => Array.getElem?_setIfInBounds_ne (fun e => hb e.symm)⟩
/-- A map in the heap, as what is found of each text. -/
def MapS (s : Hp) (r : Nat) (g : ByteArray → Option Value) : Prop := ∃ es cl l, s[r]? = some (.map es cl) ∧ es.toList.map (fun e => (e.key, e.val)) = l.map kv ∧ ∀ k, lookV l k = g k
def updI (g : ByteArray → Option Value) (k : ByteArray) (v : Value) : ByteArray → Option Value := fun k' => if k' = k then some v else g k'
section
variable {s s' : Hp} {r : Nat} {g : ByteArray → Option Value}
theorem MapS.lt (h : MapS s r g) : r < s.size := by
  obtain ⟨es, cl, l, h1, _⟩ := h
  exact (Array.getElem?_eq_some_iff.1 h1).1
theorem MapS.ext (e : Ext s s') (h : MapS s r g) : MapS s' r g := by
  have hl := h.lt
  obtain ⟨es, cl, l, h1, h2⟩ := h
  exact ⟨es, cl, l, by rw [e.2 _ hl]; exact h1, h2⟩
theorem MapS.kp {D : Nat → Prop} (e : Kp D s s') (hd : ¬ D r) (h : MapS s r g) : MapS s' r g := by
  have hl := h.lt
  obtain ⟨es, cl, l, h1, h2⟩ := h
  exact ⟨es, cl, l, by rw [e.2 _ hl hd]; exact h1, h2⟩
theorem MapS.blind : Blind (fun s => MapS s r g) := fun s l o hl ho h => by
  obtain ⟨es, cl, l', h1, h2⟩ := h
  refine ⟨es, cl, l', ?_, h2⟩
  by_cases e : l = r
  · subst e
    have := setO_get (o := junk) hl
    rw [this] at h1; cases h1
  · rw [← h1]; exact (Array.getElem?_setIfInBounds_ne e).symm
theorem MapS.cell {a : Addr} {v : Value} (h : MapS s r g) (hc : cellAt s a = some v) : a.block ≠ r := fun e => by
  obtain ⟨c, t, f, hb⟩ := block_of_cell hc
  obtain ⟨es, cl, l, h1, _⟩ := h
  rw [e, h1] at hb
  cases hb
theorem MKM_rule {K : Nat → Hp → Prop} (h : ∀ s', Ext s s' → s'.size = s.size + 1 → MapS s' s.size (fun _ => none) → K s.size s') : MKM K s :=
  h _ (Ext.push (Ext.refl s)) (by simp) ⟨#[], 0, [], by simp, rfl, fun _ => rfl⟩
theorem LKP_v {t e : TypeId} {z : Value} {k : ByteArray} {ok : Bool} {K : VK} (ht : Pg.underlying t = some (.map 9 e)) (hz : ∀ (K : Value → Hp → Prop) (E : Value → Hp → Prop) (s : Hp), sp Pg (zeroValue e) K E s = K z s) (h : MapS s r g)
    (h1 : ∀ v, g k = some v → K (match ok with | true => .tuple #[v, .bool true] | false => v) s) (h2 : g k = none → K (match ok with | true => .tuple #[z, .bool false] | false => z) s) : LKP Pg t (.map (some r)) (.string k) ok K s := by
  obtain ⟨es, cl, l, hs, ha, hg⟩ := h
  unfold LKP Instr.lookup
  rw [sp_bind, sp_und ht]
  simp only [sp_bind]
  refine ⟨_, hs, rfl, rfl, ?_⟩
  show sp Pg (Sem.pure (Obj.map es cl)) _ _ s
  simp only [sp, sp_bind, sp_pure]
  rw [check_str]
  refine find_key ha ?_
  have hk := hg k
  unfold lookV at hk
  cases hf : findV k l 0 with
  | some x =>
    rw [hf] at hk
    have := h1 x.2 (by rw [← hk]; rfl)
    cases ok <;> exact this
  | none =>
    rw [hf] at hk
    have := h2 (by rw [← hk]; rfl)
    simp only [sp_bind]
    rw [hz]
    cases ok <;> exact this
theorem MUP_v {t e : TypeId} {k : ByteArray} {v : Value} {K : Hp → Prop} (ht : Pg.underlying t = some (.map 9 e)) (h : MapS s r g)
    (hk : ∀ s', Kp (· = r) s s' → s'.size = s.size → MapS s' r (updI g k v) → K s') : MUP Pg t (.map (some r)) (.string k) v K s := by
  obtain ⟨es, cl, l, hs, ha, hg⟩ := h
  unfold MUP Instr.mapUpdate
  rw [sp_bind, sp_und ht]
  simp only [sp_bind]
  refine ⟨_, hs, rfl, rfl, ?_⟩
  show sp Pg (Sem.pure (Obj.map es cl)) _ _ s
  simp only [sp, sp_bind]
  rw [check_str]
  refine find_key ha ?_
  have hlen : es.size = l.length := by have := congrArg List.length ha; simpa using this
  cases hf : findV k l 0 with
  | none =>
    refine ⟨⟨_, hs, rfl, rfl⟩, ?_⟩
    refine hk _ setO_kp (by simp) ⟨_, _, l ++ [(k, v)], setO_get hs, ?_, fun k' => ?_⟩
    · rw [Array.toList_push, List.map_append, List.map_append, ha]; rfl
    · rw [findV_none l 0 hf v k', hg]; rfl
  | some x =>
    obtain ⟨j, v0⟩ := x
    obtain ⟨n, hj, hn, hx, hset⟩ := findV_some l 0 j v0 hf
    have hjn : j = n := by omega
    subst hjn
    simp only [sp_bind]
    have hje : j < es.size := by omega
    have hkey : es[j].key = .string k := by
      have h2 : (es.toList.map (fun e => (e.key, e.val)))[j]? = (l.map kv)[j]? := by rw [ha]
      rw [List.getElem?_map, List.getElem?_map, hx] at h2
      rw [List.getElem?_eq_getElem (by simpa using hje)] at h2
      simp [kv] at h2
      exact h2.1
    have hold : (Option.map (fun x => x.key) es[j]?).getD (.string k) = .string k := by
      rw [Array.getElem?_eq_getElem hje]
      exact hkey
    rw [hold]
    unfold Instr.keyThatStays
    rw [if_pos same_str]
    simp only [sp_pure]
    refine ⟨⟨_, hs, rfl, rfl⟩, ?_⟩
    refine hk _ setO_kp (by simp) ⟨_, _, l.set j (k, v), setO_get hs, ?_, fun k' => ?_⟩
    · apply List.ext_getElem?
      intro i
      rw [List.getElem?_map, List.getElem?_map, Array.getElem?_toList, Array.getElem?_modify, List.getElem?_set]
      have h2 : (es.toList.map (fun e => (e.key, e.val)))[i]? = (l.map kv)[i]? := by rw [ha]
      rw [List.getElem?_map, List.getElem?_map, Array.getElem?_toList] at h2
      by_cases e : j = i
      · subst e
        rw [if_pos rfl, if_pos rfl, if_pos hn, Array.getElem?_eq_getElem hje]
        simp [kv, hkey]
      · rw [if_neg e, if_neg e]
        exact h2
    · rw [hset, hg]; rfl
end
end Go.Proofs.YtcjgbanpkmpekaaGreatDoor.G

/- Texts are read into a target. -/
set_option linter.unusedVariables false
set_option linter.unusedSimpArgs false
set_option maxRecDepth 20000
namespace Go.Proofs.YtcjgbanpkmpekaaGreatDoor.G
open Go.V
theorem runL_none {α : Type} {step : α → List BL → Option α} : ∀ {A B : List (List BL)} {a p : α} {w : List BL}, runL step a A = some p → step p w = none → runL step a (A ++ w :: B) = none
  | A, B, a, p, w, h, hn => by
    rw [runL_app A _ a p h]
    simp only [runL]
    rw [hn]; rfl
theorem runL_snoc {α : Type} {step : α → List BL → Option α} {A : List (List BL)} {a p p' : α} {w : List BL} (h : runL step a A = some p) (hn : step p w = some p') : runL step a (A ++ [w]) = some p' := by
  rw [runL_app A _ a p h]
  simp only [runL]
  rw [hn]; rfl
theorem lparts_len {t : BL} {k : Nat} (h : k < (lnl t).length) (ht : t.length ≤ 2000) : (lparts (lnl t)[k]).length ≤ 2001 := by
  have h1 := lnl_len (List.getElem_mem h)
  have h2 := Lib.trimSuffix_le (lnl t)[k] [10]
  have h3 : ∀ l : BL, (spl 32 l).length ≤ l.length + 1 := by
    intro l
    induction l with
    | nil => simp [spl]
    | cons x l ih =>
      unfold spl
      split
      · simp; omega
      · split
        · simp
        · rename_i w ws e; rw [e] at ih; simp at ih ⊢; omega
  have := h3 (Lib.trimSuffix (lnl t)[k] [10])
  unfold lparts
  omega
theorem lnl_cnt : ∀ (t : BL), (lnl t).length ≤ t.length
  | [] => by simp [lnl]
  | x :: l => by
    have ih := lnl_cnt l
    unfold lnl
    split
    · simp; omega
    · split
      · simp
      · rename_i w ws e; rw [e] at ih; simp at ih ⊢; omega
theorem take_map' {α β : Type} {f : α → β} {l : List α} {k : Nat} (h : k < l.length) : (l.take (k + 1)).map f = (l.take k).map f ++ [f l[k]] := by
  rw [List.take_add_one, List.getElem?_eq_getElem h, List.map_append]; rfl
/-- What a step may change: the row, the target, and what is new. -/
def StepC (ab B z b : Nat) : Prop := b = ab ∨ b = B ∨ z ≤ b
/-- A kind of targets, at a block B. -/
structure FillH (W : World) {α : Type} (B : Nat) (tv : Value) (St : Nat → Nat → Hp → α → Prop) (tbl : Nat → ByteArray → Option Value) (step : α → List BL → Option α) (z0 : α) (ok : α → Bool) (tx : α → BL) (gd : α → Nat → Prop) (sm : α → Prop) : Prop where
  one : oneCell tv = true
  keep : ∀ z u s s' p, St z u s p → s.size ≤ s'.size → (∀ b, b < s.size → (b = B ∨ (z ≤ b ∧ b < u)) → s'[b]? = s[b]?) → St z u s' p
  up : ∀ z u u' s p, u ≤ u' → St z u s p → St z u' s p
  begins : ∀ (s : Hp) (K : VK) (E : List PanicEntry → Hp → Prop), (∀ s' m V, Ext s s' → MapS s' m (tbl V) → s.size ≤ m → s.size ≤ V → cellAt s' ⟨V, 0, none⟩ = some (.pointer (some ⟨B, 0, none⟩)) → K (.map (some m)) s') → INV Pg W tv "furrowworks/book.begins" [] K E s
  step : ∀ (z u : Nat) (s : Hp) (p : α) (V : Nat) (a : Addr) (q : Nat) (f : BL) (r : List BL) (k : Nat) (K : VK) (E : List PanicEntry → Hp → Prop), St z u s p → Env s → RowS s a q r → u ≤ a.block → u ≤ q → z ≤ u → V < z → B < V → 8 ≤ B → u ≤ s.size → f.length ≤ 100000 → r.length ≤ 3000 → gd p k → k ≤ 2000 → cellAt s ⟨V, 0, none⟩ = some (.pointer (some ⟨B, 0, none⟩)) →
    (step p (f :: r) = none → Big) → (step p (f :: r) = none → ∀ s', Kp (StepC a.block B z) s s' → E (MF 8) s') → (∀ p' s', step p (f :: r) = some p' → gd p' (k + 1) → Kp (StepC a.block B z) s s' → St z s'.size s' p' → K (.tuple #[]) s') →
    (∀ v, tbl V (bs f) = some v → CALLV Pg W v [.pointer (some a)] K E s) ∧ (tbl V (bs f) = none → INV Pg W tv "furrowworks/book.other" [.string (bs f), .pointer (some a)] K E s)
  text : ∀ (z u : Nat) (s : Hp) (p : α) (k : Nat) (K : VK) (E : List PanicEntry → Hp → Prop), St z u s p → Env s → gd p k → k ≤ 2000 → sm p → (∀ s', Ext s s' → K (.tuple #[.string (bs (tx p)), .bool (ok p)]) s') → INV Pg W tv "furrowworks/book.text" [] K E s
  gd0 : gd z0 0
theorem zc_177 : zc Pg 177 = [.map none] := by kernel_rfl
theorem seq_bs (a b : BL) : seqB (bs a) (bs b) = decide (a = b) := by
  unfold seqB
  rw [Lib.toList_data, Lib.toList_data, bs_l, bs_l]
  by_cases h : a = b
  · rw [decide_eq_true h, h]; simp
  · rw [decide_eq_false h]; simpa using h
section
variable {W : World} {s : Hp} {K : VK} {E : List PanicEntry → Hp → Prop} {α : Type} {B : Nat} {tv : Value} {St : Nat → Nat → Hp → α → Prop} {tbl : Nat → ByteArray → Option Value} {step : α → List BL → Option α} {z0 : α} {ok : α → Bool} {tx : α → BL} {gd : α → Nat → Prop} {sm : α → Prop}
theorem kp_B {D : Nat → Prop} {s s1 s2 : Hp} (k1 : Kp (· = B) s s1) (k2 : Kp D s1 s2) (hd : ∀ b, D b → b = B ∨ s.size ≤ b) : Kp (· = B) s s2 := kp_trans k1 k2 hd
theorem c_fill (H : FillH W B tv St tbl step z0 ok tx gd sm) {t : BL} (hsm : (∀ p, parseT step z0 t = some p → sm p) ∧ (parseT step z0 t = none → Big)) (he : Env s) (hB : B < s.size) (hB8 : 8 ≤ B) (h0 : ∀ z u s', z ≤ u → Ext s s' → St z u s' z0)
    (hlong : 2000 < t.length → ∀ s', Kp (· = B) s s' → E (MF 3) s')
    (hbad : t.length ≤ 2000 → (∀ p, parseT step z0 t = some p → ¬ (ok p = true ∧ tx p = t)) → ∀ s', Kp (· = B) s s' → E (MF 8) s')
    (hok : t.length ≤ 2000 → ∀ p z s', parseT step z0 t = some p → ok p = true → tx p = t → Kp (· = B) s s' → s.size ≤ z → St z s'.size s' p → K (.tuple #[]) s') : CALL Pg W F_book_fill [tv, .string (bs t)] K E s := by
  refine does_book_fill W tv (bs t) _ s ?_
  unfold T_book_fill ONE
  rw [H.one]
  refine ne1 fun s1 e1 z1 o1 => ?_
  refine c_need (fun hl => ?_) (fun hl => ?_)
  rotate_left
  · rw [decide_eq_false_iff_not, bs_size] at hl
    exact hlong (by omega) s1 e1.kp
  rw [decide_eq_true_eq, bs_size] at hl
  have ht : t.length ≤ 2000 := by omega
  try simp only [TUP_mk, AGG_mk, HD_mk, NL_mk, TYI_mk, TYB_mk, TYP_mk, TYL_mk, TYS_mk, TYM_mk, SO_mk, NX_mk, endK_mk, endK_mk', add_0]
  refine ⟨_, o1.cell, ?_⟩
  refine H.begins s1 _ _ fun s2 m V e2 mm hm hV cV => ?_
  try simp only [TUP_mk, AGG_mk, HD_mk, NL_mk, TYI_mk, TYB_mk, TYP_mk, TYL_mk, TYS_mk, TYM_mk, SO_mk, NX_mk, endK_mk, endK_mk', add_0]
  refine nw1 zc_177 rfl fun s3 e3 z3 o3 => ?_
  refine does_book_rows W (bs t) _ s3 ?_
  unfold T_book_rows
  refine ne1 fun s4 e4 z4 o4 => ?_
  try simp only [TUP_mk, AGG_mk, HD_mk, NL_mk, TYI_mk, TYB_mk, TYP_mk, TYL_mk, TYS_mk, TYM_mk, SO_mk, NX_mk, endK_mk, endK_mk', add_0]
  have e24 := e3.trans e4
  have e14 := e2.trans e24
  have e04 := e1.trans e14
  have mlt := mm.lt
  have Vlt := cell_lt cV
  have hs24 := e24.1
  have hs12 := e2.1
  have hc1 := e14.cell o1.cell
  have hc3 := e4.cell o3.cell
  have hcV := e24.cell cV
  have hmm := mm.ext e24
  have hV2 : V < s2.size := Vlt
  obtain ⟨I, hI⟩ : ∃ I : Nat → Nat → Hp → Prop, I = fun z k s' => k ≤ (lnl t).length ∧ ∃ p, runL step z0 (((lnl t).take k).map lparts) = some p ∧ St z s'.size s' p ∧ gd p k ∧ Kp (· = B) s s' ∧ cellAt s' ⟨s.size, 0, none⟩ = some tv ∧ cellAt s' ⟨s2.size, 0, none⟩ = some (.map (some m)) ∧ MapS s' m (tbl V) ∧ cellAt s' ⟨V, 0, none⟩ = some (.pointer (some ⟨B, 0, none⟩)) := ⟨_, rfl⟩
  have hEnv : ∀ s', Kp (· = B) s s' → Env s' := fun s' k => he.kp k fun b hb => by have h : b = B := hb; omega
  have hcnt := lnl_cnt t
  refine ⟨_, _, _, _, _, _, _, I, fun z c s' => False, fun z c s' => c = MF 8 ∧ (∀ p, parseT step z0 t = some p → ¬ (ok p = true ∧ tx p = t)) ∧ Kp (· = B) s s', it_rows (B := s3.size) (by omega : t.length ≤ 100000), Env.blind, fun s' l o hl ho h => ⟨Env.blind _ _ _ hl ho h.1, cell_blind hl h.2⟩, ?_, ?_, ?_, id, ?_, ?_, ?_, ?_, ?_, ?_, ?_, ?_, ?_⟩
  · rintro z k x s0 s' l o hl0 hl ho ⟨hk, a, q, rfl, hr, h1, h2⟩
    exact ⟨hk, a, q, rfl, hr.mask hl ho, by simpa using h1, by simpa using h2⟩
  · intro z k s' h
    rw [hI] at h
    obtain ⟨_, p, _, _, _, kp, _⟩ := h
    exact hEnv s' kp
  · exact ⟨(he.ext e04).ext ((Ext.refl _).push.push), cell_push (cell_push o4.cell)⟩
  · intro u hu
    have hx : Ext s4 u := ⟨by have := hu.1; simp at this; omega, fun b hb => by
      rw [hu.2 b (by simp; omega) id, Array.getElem?_push, if_neg (by simp; omega), Array.getElem?_push, if_neg (by omega)]⟩
    rw [hI]
    exact ⟨Nat.zero_le _, z0, by simp [runL], h0 _ _ u (Nat.le_refl _) (e04.trans hx), H.gd0, (e04.trans hx).kp, hx.cell hc1, hx.cell hc3, hmm.ext hx, hx.cell hcV⟩
  · intro z k t1 t2 hz hz1 h hs
    rw [hI] at h ⊢
    obtain ⟨hk, p, h1, h2, h3, h4, h5, h6, h7, h8⟩ := h
    have hno : ∀ b, OwnB (fun _ => False) (s4.size + 2) z b → s4.size + 2 ≤ b ∧ b < z := fun b hb => hb.elim False.elim id
    have kk : Kp (fun b => s4.size + 2 ≤ b ∧ b < z) t1 t2 := ⟨hs.1, fun b hb hd => hs.2 b hb fun hh => hd (hno b hh)⟩
    refine ⟨hk, p, h1, H.up z t1.size t2.size t2 p hs.1 (H.keep z t1.size t1 t2 p h2 hs.1 (fun b hb hB' => kk.2 b hb (fun hh => by omega))), h3, kp_B h4 kk (fun b hb => .inr (by omega)), kk.cell (fun hh => by have : s4.size + 2 ≤ s.size := hh.1; omega) h5, kk.cell (fun hh => by have : s4.size + 2 ≤ s2.size := hh.1; omega) h6, h7.kp kk (fun hh => by omega), kk.cell (fun hh => by have : s4.size + 2 ≤ V := hh.1; omega) h8⟩
  · intro z c t1 t2 _ _ h; exact h.elim
  · rintro z c t1 t2 hz hz1 ⟨h1, h2, h3⟩ hs
    refine ⟨h1, h2, kp_B h3 (D := fun b => s4.size + 2 ≤ b) ⟨hs.1, fun b hb hd => hs.2 b hb fun hh => hd (hh.elim False.elim fun h => h.1)⟩ (fun b hb => .inr (by have : s4.size + 2 ≤ b := hb; omega))⟩
  · rintro z k x t0 t1 hz hz0 hkN h hsame ⟨hk, a, q, rfl, hr, hua, huq⟩
    rw [hI] at h
    obtain ⟨_, p, h1, h2, h3, h4, h5, h6, h7, h8⟩ := h
    refine ⟨rfl, ?_⟩
    try simp only [TUP_mk, AGG_mk, HD_mk, NL_mk, TYI_mk, TYB_mk, TYP_mk, TYL_mk, TYS_mk, TYM_mk, SO_mk, NX_mk, endK_mk, endK_mk', add_0]
    have htk : (((lnl t).take (k + 1)).map lparts) = (((lnl t).take k).map lparts) ++ [lparts (lnl t)[k]] := take_map' hk
    have hall : (lnl t).map lparts = ((lnl t).take k).map lparts ++ lparts (lnl t)[k] :: ((lnl t).drop (k + 1)).map lparts := by
      conv => lhs; rw [← List.take_append_drop k (lnl t), List.drop_eq_getElem_cons hk]
      rw [List.map_append, List.map_cons]
    have hnone : step p (lparts (lnl t)[k]) = none → ∀ p', parseT step z0 t = some p' → ¬ (ok p' = true ∧ tx p' = t) := by
      intro hn p' hp'
      unfold parseT at hp'
      split at hp'
      · rw [hall, runL_none h1 hn] at hp'; cases hp'
      · cases hp'
    have hbig : step p (lparts (lnl t)[k]) = none → Big := fun hn => hsm.2 (by
      cases hp' : parseT step z0 t with
      | none => rfl
      | some p' =>
        unfold parseT at hp'
        split at hp'
        · rw [hall, runL_none h1 hn] at hp'; cases hp'
        · cases hp')
    have hno : ∀ b, OwnB (fun _ => False) (s4.size + 2) z b → s4.size + 2 ≤ b ∧ b < z := fun b hb => hb.elim False.elim id
    have kk : Kp (fun b => s4.size + 2 ≤ b ∧ b < z) t0 t1 := ⟨hsame.1, fun b hb hd => hsame.2 b hb fun hh => hd (hno b hh)⟩
    have kB1 : Kp (· = B) s t1 := kp_B h4 kk (fun b hb => .inr (by omega))
    have g5 := kk.cell (fun hh => by have : s4.size + 2 ≤ s.size := hh.1; omega) h5
    have g6 := kk.cell (fun hh => by have : s4.size + 2 ≤ s2.size := hh.1; omega) h6
    have g7 := h7.kp kk (fun hh => by omega)
    have g8 := kk.cell (fun hh => by have : s4.size + 2 ≤ V := hh.1; omega) h8
    have hz1 : z ≤ t1.size := Nat.le_trans hz0 hsame.1
    have hown : ∀ t2, Kp (StepC a.block B z) t1 t2 → ∀ b, OwnB (fun _ => False) (s4.size + 2) z b → b < t1.size → t2[b]? = t1[b]? := by
      intro t2 k2 b hb hlt
      have hb' := hno b hb
      refine k2.2 b hlt fun hh => ?_
      rcases hh with hh | hh | hh <;> omega
    have hpl := lparts_len hk ht
    refine c_part hr (fun hnil => absurd hnil (spl_ne _ _)) (fun f r t2 hfr k2 w2 r2 => ?_)
    try simp only [TUP_mk, AGG_mk, HD_mk, NL_mk, TYI_mk, TYB_mk, TYP_mk, TYL_mk, TYS_mk, TYM_mk, SO_mk, NX_mk, endK_mk, endK_mk', add_0]
    have k2' : Kp (StepC a.block B z) t1 t2 := k2.mono fun b hb => .inl hb
    have ne1 : ¬ s.size = a.block := by omega
    have ne2 : ¬ s2.size = a.block := by omega
    have neV : ¬ V = a.block := by omega
    have neB : ¬ B = a.block := by omega
    refine ⟨_, k2.cell ne2 g6, ?_⟩
    have mm2 := g7.kp k2 (fun hh => by have h' : m = a.block := hh; omega)
    have st2 : St z t0.size t2 p := by
      refine H.keep z t0.size t0 t2 p h2 (Nat.le_trans hsame.1 k2.1) fun b hb hb' => ?_
      rw [k2.2 b (Nat.lt_of_lt_of_le hb hsame.1) (fun hh => by have h' : b = a.block := hh; omega)]
      exact kk.2 b hb (fun hh => by omega)
    have kB2 : Kp (· = B) s t2 := kp_B kB1 k2 (fun b hb => .inr (by have h' : b = a.block := hb; omega))
    have en2 := hEnv t2 kB2
    rw [hfr] at hpl htk hnone hbig
    simp only [List.length_cons] at hpl
    have hfl : f.length ≤ 100000 := hr.sz f (by rw [hfr]; simp)
    have stepK : ∀ t3, Kp (StepC a.block B z) t2 t3 → Kp (· = B) s t3 := fun t3 k3 => kp_B kB2 k3 (fun b hb => by
      rcases hb with hb | hb | hb
      · exact .inr (by omega)
      · exact .inl hb
      · exact .inr (by omega))
    have bad : step p (f :: r) = none → ∀ t3, Kp (StepC a.block B z) t2 t3 → (∀ b, OwnB (fun _ => False) (s4.size + 2) z b → b < t1.size → t3[b]? = t1[b]?) ∧ MF 8 = MF 8 ∧ (∀ p, parseT step z0 t = some p → ¬ (ok p = true ∧ tx p = t)) ∧ Kp (· = B) s t3 := fun hn t3 k3 => ⟨hown t3 (k2'.trans k3), rfl, hnone hn, stepK t3 k3⟩
    have good : ∀ p' t3, step p (f :: r) = some p' → gd p' (k + 1) → Kp (StepC a.block B z) t2 t3 → St z t3.size t3 p' → (∀ b, OwnB (fun _ => False) (s4.size + 2) z b → b < t1.size → t3[b]? = t1[b]?) ∧ I z (k + 1) t3 := by
      intro p' t3 hs hg k3 st3
      refine ⟨hown t3 (k2'.trans k3), ?_⟩
      rw [hI]
      have no : ∀ b, b < t2.size → (b = s.size ∨ b = s2.size ∨ b = V ∨ b = m) → ¬ StepC a.block B z b := fun b _ hb hh => by
        rcases hh with hh | hh | hh <;> omega
      refine ⟨by omega, p', by rw [htk]; exact runL_snoc h1 hs, st3, hg, stepK t3 k3, ?_, ?_, ?_, ?_⟩
      · exact k3.cell (fun hh => no s.size (by have := e04.1; have := kB2.1; omega) (.inl rfl) hh) (k2.cell ne1 g5)
      · exact k3.cell (fun hh => by rcases hh with hh | hh | hh <;> simp only at hh <;> omega) (k2.cell ne2 g6)
      · exact mm2.kp k3 (fun hh => by rcases hh with hh | hh | hh <;> omega)
      · exact k3.cell (fun hh => by rcases hh with hh | hh | hh <;> simp only at hh <;> omega) (k2.cell neV g8)
    have h02 : t0.size ≤ t2.size := Nat.le_trans hsame.1 k2.1
    obtain ⟨e, hu1, hu2⟩ := und_177
    have hst := fun K E => H.step z t0.size t2 p V a q f r k K E st2 en2 r2 hua huq hz0 (by omega) (by omega) hB8 (by omega) hfl (by omega) h3 (by omega) (k2.cell neV g8) hbig
    refine LKP_v hu1 hu2 mm2 (fun v hv => ?_) (fun hv => ?_)
    · try simp only [TUP_mk, AGG_mk, HD_mk, NL_mk, TYI_mk, TYB_mk, TYP_mk, TYL_mk, TYS_mk, TYM_mk, SO_mk, NX_mk, endK_mk, endK_mk', add_0]
      refine BR_tt rfl ?_
      refine (hst _ _ (fun hn t3 k3 => bad hn t3 k3) (fun p' t3 hs hg k3 st3 => ?_)).1 v hv
      try simp only [TUP_mk, AGG_mk, HD_mk, NL_mk, TYI_mk, TYB_mk, TYP_mk, TYL_mk, TYS_mk, TYM_mk, SO_mk, NX_mk, endK_mk, endK_mk', add_0]
      exact good p' t3 hs hg k3 st3
    · try simp only [TUP_mk, AGG_mk, HD_mk, NL_mk, TYI_mk, TYB_mk, TYP_mk, TYL_mk, TYS_mk, TYM_mk, SO_mk, NX_mk, endK_mk, endK_mk', add_0]
      refine BR_ff rfl ?_
      refine ⟨_, k2.cell ne1 g5, ?_⟩
      refine (hst _ _ (fun hn t3 k3 => bad hn t3 k3) (fun p' t3 hs hg k3 st3 => ?_)).2 hv
      try simp only [TUP_mk, AGG_mk, HD_mk, NL_mk, TYI_mk, TYB_mk, TYP_mk, TYL_mk, TYS_mk, TYM_mk, SO_mk, NX_mk, endK_mk, endK_mk', add_0]
      exact good p' t3 hs hg k3 st3
  · intro z t2 hz hz1 hs h
    rw [hI] at h
    obtain ⟨_, p, h1, h2, h3, h4, h5, h6, h7, h8⟩ := h
    rw [List.take_length] at h1
    have hpar : parseT step z0 t = some p := by unfold parseT; rw [if_pos hs]; exact h1
    have hen := hEnv t2 h4
    show RDV _ _ t2
    refine ⟨_, h5, ?_⟩
    refine H.text z t2.size t2 p (lnl t).length _ _ h2 hen h3 (by omega) (hsm.1 p hpar) fun t3 f3 => ?_
    try simp only [TUP_mk, AGG_mk, HD_mk, NL_mk, TYI_mk, TYB_mk, TYP_mk, TYL_mk, TYS_mk, TYM_mk, SO_mk, NX_mk, endK_mk, endK_mk', add_0]
    have k3 : Kp (· = B) s t3 := h4.ext f3
    refine BR_bool (fun hok' => ?_) (fun hok' => ?_)
    · rw [seq_bs]
      refine c_need (fun hd => ?_) (fun hd => ?_)
      · rw [decide_eq_true_eq] at hd
        try simp only [TUP_mk, AGG_mk, HD_mk, NL_mk, TYI_mk, TYB_mk, TYP_mk, TYL_mk, TYS_mk, TYM_mk, SO_mk, NX_mk, endK_mk, endK_mk', add_0]
        refine hok ht p z t3 hpar hok' hd k3 (by omega) ?_
        exact H.up z t2.size t3.size t3 p f3.1 (H.keep z t2.size t2 t3 p h2 f3.1 fun b hb _ => f3.2 b hb)
      · rw [decide_eq_false_iff_not] at hd
        refine hbad ht (fun p' hp' hh => ?_) t3 k3
        rw [hpar] at hp'; cases hp'
        exact hd hh.2
    · refine c_need (fun hd => by cases hd) (fun hd => ?_)
      refine hbad ht (fun p' hp' hh => ?_) t3 k3
      rw [hpar] at hp'; cases hp'
      rw [hok'] at hh
      exact absurd hh.1 (by simp)
  · intro z c t2 _ _ h; exact h.elim
  · rintro z c t2 hz hz1 ⟨rfl, h1, h2⟩
    exact hbad ht h1 t2 h2
  · rintro z k c t2 hz hz1 ⟨rfl, hs, rfl⟩ h
    rw [hI] at h
    obtain ⟨_, p, h1, h2, h3, h4, _⟩ := h
    refine hbad ht (fun p' hp' _ => ?_) t2 h4
    unfold parseT at hp'
    rw [hs] at hp'
    cases hp'
end
end Go.Proofs.YtcjgbanpkmpekaaGreatDoor.G

/- Texts of panels. -/
set_option linter.unusedVariables false
set_option linter.unusedSimpArgs false
set_option maxRecDepth 20000
namespace Go.Proofs.YtcjgbanpkmpekaaGreatDoor.G
open Go.V
/-- Panels, as they are looked at. -/
structure PnC (s : Hp) (B : Nat) (p : PnS) : Prop where
  c0 : ∃ x c, cellAt s ⟨B, 0, none⟩ = some (.slice x p.loads.length c) ∧ RowAt s x (ints p.loads)
  c1 : ∃ x c, cellAt s ⟨B, 1, none⟩ = some (.slice x p.needs.length c) ∧ RowAt s x (ints p.needs)
  c2 : ∃ x c, cellAt s ⟨B, 2, none⟩ = some (.slice x p.kin.length c) ∧ RowAt s x (p.kin.flatMap kinV)
structure PnG (p : PnS) : Prop where
  loads : ∀ n ∈ p.loads, rg n
  needs : ∀ n ∈ p.needs, rg n
  kin : ∀ k ∈ p.kin, rg k.1 ∧ rg k.2
  n0 : p.loads.length ≤ 10000
  n1 : p.needs.length ≤ 10000
  n2 : p.kin.length ≤ 10000
theorem PnC.ext {s s' : Hp} {B : Nat} {p : PnS} (e : Ext s s') (h : PnC s B p) : PnC s' B p where
  c0 := by obtain ⟨x, c, h1, h2⟩ := h.c0; exact ⟨x, c, e.cell h1, h2.ext e⟩
  c1 := by obtain ⟨x, c, h1, h2⟩ := h.c1; exact ⟨x, c, e.cell h1, h2.ext e⟩
  c2 := by obtain ⟨x, c, h1, h2⟩ := h.c2; exact ⟨x, c, e.cell h1, h2.ext e⟩
section
variable {W : World} {K : VK} {E : List PanicEntry → Hp → Prop} {s s0 : Hp}
theorem pn_kin {p : PnS} {B : Nat} {a : BL} (he : Env s) (hp : PnC s B p) (g : PnG p) (hl : a.length ≤ 1000000000000)
    (hk : ∀ s', Ext s s' → K (.tuple #[.string (bs (a ++ txt (p.kin.map kinW))), .bool (okPn p)]) s') : J_book_panels_text_0 W (endK K E) (some ⟨B, 0, none⟩) (bs a) s := by
  unfold J_book_panels_text_0
  try simp only [TUP_mk, AGG_mk, HD_mk, NL_mk, TYI_mk, TYB_mk, TYP_mk, TYL_mk, TYS_mk, TYM_mk, SO_mk, NX_mk, endK_mk, endK_mk', add_0]
  obtain ⟨x0, c0, h0, r0⟩ := hp.c0
  obtain ⟨x1, c1, h1, r1⟩ := hp.c1
  obtain ⟨x2, c2, h2, r2⟩ := hp.c2
  refine ⟨_, _, _, h2, ?_⟩
  have g2 := g.n2
  refine L_book_panels_text_0_rule W _ _ _ _ _ _ _ (fun t n s' => ∃ k : Nat, n = (k : Int) ∧ k ≤ p.kin.length ∧ Ext s s' ∧ t = bs (a ++ txt ((p.kin.take k).map kinW))) (fun t n s' => p.kin.length - n.toNat) _ _ s ⟨0, rfl, by omega, Ext.refl s, by simp [txt]⟩ ?_
  rintro t n s1 ⟨k, rfl, hk1, e1, rfl⟩
  unfold B_book_panels_text_0
  refine BR_dec (fun hlt => ?_) (fun hge => ?_)
  · have hkl : k < p.kin.length := by omega
    obtain ⟨b, hb, hc⟩ := rowF (f := kinV) (M := 2) (fun _ => rfl) r2 k hkl (by omega)
    subst hb
    refine IXS_nat hkl ?_
    refine ⟨_, e1.cell (hc 0 (by omega)), _, e1.cell (hc 1 (by omega)), ?_⟩
    refine nw2 zc_85 rfl rfl fun s2 e2 z2 o0 o1 => ?_
    refine ⟨_, o0.cell, _, o1.cell, ?_⟩
    obtain ⟨q1, q2⟩ := g.kin _ (List.getElem_mem hkl)
    have hPok : ∀ q ∈ [Prt.str b_kin, .num p.kin[k].1, .num p.kin[k].2], PrtOk s2 q := by
      intro q hq
      simp only [List.mem_cons, List.not_mem_nil, or_false] at hq
      rcases hq with rfl | rfl | rfl
      · show 3 ≤ 100; omega
      · exact q1
      · exact q2
    refine said_new (l := [.str b_kin, .num p.kin[k].1, .num p.kin[k].2]) (he.ext (e1.trans e2)) rfl (by simp) hPok fun s3 e3 => ?_
    try simp only [TUP_mk, AGG_mk, HD_mk, NL_mk, TYI_mk, TYB_mk, TYP_mk, TYL_mk, TYS_mk, TYM_mk, SO_mk, NX_mk, endK_mk, endK_mk', add_0]
    have hL := ln_len10 hPok (by simp)
    have hT := txt_lenG (W := (p.kin.take k).map kinW) (m := 500) (fun ws hws => by
      obtain ⟨q, hq, rfl⟩ := List.mem_map.1 hws
      obtain ⟨r1, r2⟩ := g.kin q (List.mem_of_mem_take hq)
      have := ln_len (ws := kinW q) (k := 4) (m := 100) (by simp [kinW]) (fun w hw => by
        simp only [kinW, List.mem_cons, List.not_mem_nil, or_false] at hw
        rcases hw with rfl | rfl | rfl
        · show 3 ≤ 100; omega
        · have := it_len r1.1.1 r1.1.2; omega
        · have := it_len r2.1.1 r2.1.2; omega)
      omega)
    have hTl : ((p.kin.take k).map kinW).length ≤ 10000 := by simp; omega
    refine STC_bs (by simp only [List.length_append] at hL ⊢; omega) ?_
    try simp only [TUP_mk, AGG_mk, HD_mk, NL_mk, TYI_mk, TYB_mk, TYP_mk, TYL_mk, TYS_mk, TYM_mk, SO_mk, NX_mk, endK_mk, endK_mk', add_0]
    refine ⟨_, _, rfl, ⟨k + 1, wr_k (by omega), by omega, (e1.trans e2).trans e3, ?_⟩, ms_k hkl (by omega)⟩
    rw [take_map hkl, txt_snoc, List.append_assoc]
    rfl
  · have hkl : k = p.kin.length := by omega
    subst hkl
    rw [List.take_length]
    refine ⟨_, _, _, e1.cell h0, _, _, _, e1.cell h1, _, _, _, e1.cell h2, ?_⟩
    refine c_isPanels (by rw [← ints_flat]; exact r0.ext e1) (by rw [← ints_flat]; exact r1.ext e1) (r2.ext e1) (by have := g.n0; omega) (by have := g.n1; omega) (by omega) fun s2 e2 => ?_
    try simp only [TUP_mk, AGG_mk, HD_mk, NL_mk, TYI_mk, TYB_mk, TYP_mk, TYL_mk, TYS_mk, TYM_mk, SO_mk, NX_mk, endK_mk, endK_mk', add_0]
    exact hk s2 (e1.trans e2)
theorem ints_app (w : BL) (l : List Int) (x : Option Addr) (c : Nat) : [Prt.str w, .nums x c l].flatMap prtW = w :: l.map it := by simp [prtW]
theorem c_panels_text {p : PnS} {B : Nat} (he : Env s) (hp : PnC s B p) (g : PnG p) (hk : ∀ s', Ext s s' → K (.tuple #[.string (bs (txt (pnW p))), .bool (okPn p)]) s') : CALL Pg W F_book_panels_text [.pointer (some ⟨B, 0, none⟩)] K E s := by
  refine does_book_panels_text W _ _ s ?_
  unfold T_book_panels_text
  try simp only [TUP_mk, AGG_mk, HD_mk, NL_mk, TYI_mk, TYB_mk, TYP_mk, TYL_mk, TYS_mk, TYM_mk, SO_mk, NX_mk, endK_mk, endK_mk', add_0]
  obtain ⟨x0, c0, h0, r0⟩ := hp.c0
  obtain ⟨x1, c1, h1, r1⟩ := hp.c1
  refine ⟨_, _, _, h0, _, _, _, h1, ?_⟩
  have hP : ∀ t, Ext s t → ∀ q ∈ [Prt.str b_judges, .nums x0 c0 p.loads], PrtOk t q := by
    intro t et q hq
    simp only [List.mem_cons, List.not_mem_nil, or_false] at hq
    rcases hq with rfl | rfl
    · show 6 ≤ 100; omega
    · exact ⟨r0.ext et, g.loads, g.n0⟩
  have hQ : ∀ t, Ext s t → ∀ q ∈ [Prt.str b_plots, .nums x1 c1 p.needs], PrtOk t q := by
    intro t et q hq
    simp only [List.mem_cons, List.not_mem_nil, or_false] at hq
    rcases hq with rfl | rfl
    · show 5 ≤ 100; omega
    · exact ⟨r1.ext et, g.needs, g.n1⟩
  have hPl := ln_len10 (hP s (Ext.refl s)) (by simp)
  have hQl := ln_len10 (hQ s (Ext.refl s)) (by simp)
  rw [ints_app] at hPl hQl
  have hfin : ∀ t, Ext s t → STC (bs (ln (b_judges :: p.loads.map it))) (bs (ln (b_plots :: p.needs.map it))) (fun u => J_book_panels_text_0 W (endK K E) (some ⟨B, 0, none⟩) u) t := by
    intro t et
    refine STC_bs (by omega) ?_
    refine pn_kin (he.ext et) (hp.ext et) g (by simp only [List.length_append]; omega) fun t2 et2 => ?_
    have := hk t2 (et.trans et2)
    have e : txt (pnW p) = ln (b_judges :: p.loads.map it) ++ ln (b_plots :: p.needs.map it) ++ txt (p.kin.map kinW) := by
      unfold pnW
      rw [txt_cons, txt_cons, List.append_assoc]
    rw [e] at this
    exact this
  have saidP : ∀ (t : Hp) (b : Nat) (K : VK) (E : List PanicEntry → Hp → Prop), Ext s t → RowAt t (some ⟨b, 0, none⟩) [.iface 9 (.string (bs b_judges)), .iface 26 (.slice x0 p.loads.length c0)] → (∀ t', Ext t t' → K (.string (bs (ln (b_judges :: p.loads.map it)))) t') → CALL Pg W F_book_said [.slice (some ⟨b, 0, none⟩) 2 2] K E t := by
    intro t b K E et hr hk
    refine c_said (l := [.str b_judges, .nums x0 c0 p.loads]) (he.ext et) rfl (by simp) hr (hP t et) fun t' et' => ?_
    rw [ints_app]; exact hk t' et'
  have saidQ : ∀ (t : Hp) (b : Nat) (K : VK) (E : List PanicEntry → Hp → Prop), Ext s t → RowAt t (some ⟨b, 0, none⟩) [.iface 9 (.string (bs b_plots)), .iface 26 (.slice x1 p.needs.length c1)] → (∀ t', Ext t t' → K (.string (bs (ln (b_plots :: p.needs.map it)))) t') → CALL Pg W F_book_said [.slice (some ⟨b, 0, none⟩) 2 2] K E t := by
    intro t b K E et hr hk
    refine c_said (l := [.str b_plots, .nums x1 c1 p.needs]) (he.ext et) rfl (by simp) hr (hQ t et) fun t' et' => ?_
    rw [ints_app]; exact hk t' et'
  refine CONJ_more ?_ (CONJ_one ?_)
  · refine NEW_rule fun s1 e1 z1 o _ => ?_
    have u := row_new o
    refine ANDS_i ⟨_, _, _, e1.cell h1, rfl⟩ ?_
    refine CONJ_more ?_ (CONJ_one ?_)
    · refine saidP s1 _ _ _ e1 u fun s2 e2 => ?_
      try simp only [TUP_mk, AGG_mk, HD_mk, NL_mk, TYI_mk, TYB_mk, TYP_mk, TYL_mk, TYS_mk, TYM_mk, SO_mk, NX_mk, endK_mk, endK_mk', add_0]
      refine ANDS_i ⟨_, _, _, e2.cell (e1.cell h1), rfl⟩ ?_
      refine NEW_rule fun s3 e3 z3 o3 _ => ?_
      refine ANDS_i ⟨_, _, _, e3.cell (e2.cell (e1.cell h0)), rfl⟩ ?_
      refine saidQ s3 _ _ _ ((e1.trans e2).trans e3) (row_new o3) fun s4 e4 => ?_
      try simp only [TUP_mk, AGG_mk, HD_mk, NL_mk, TYI_mk, TYB_mk, TYP_mk, TYL_mk, TYS_mk, TYM_mk, SO_mk, NX_mk, endK_mk, endK_mk', add_0]
      exact hfin s4 (((e1.trans e2).trans e3).trans e4)
    · refine NEW_rule fun s3 e3 z3 o3 _ => ?_
      refine ANDS_i ⟨_, _, _, e3.cell (e1.cell h0), rfl⟩ ?_
      refine saidP s3 _ _ _ (e1.trans e3) (u.ext e3) fun s4 e4 => ?_
      try simp only [TUP_mk, AGG_mk, HD_mk, NL_mk, TYI_mk, TYB_mk, TYP_mk, TYL_mk, TYS_mk, TYM_mk, SO_mk, NX_mk, endK_mk, endK_mk', add_0]
      refine ANDS_i ⟨_, _, _, e4.cell (e3.cell (e1.cell h1)), rfl⟩ ?_
      refine saidQ s4 _ _ _ ((e1.trans e3).trans e4) ((row_new o3).ext e4) fun s5 e5 => ?_
      try simp only [TUP_mk, AGG_mk, HD_mk, NL_mk, TYI_mk, TYB_mk, TYP_mk, TYL_mk, TYS_mk, TYM_mk, SO_mk, NX_mk, endK_mk, endK_mk', add_0]
      exact hfin s5 (((e1.trans e3).trans e4).trans e5)
  · refine NEW_rule fun s1 e1 z1 o _ => ?_
    have u := row_new o
    refine ANDS_i ⟨_, _, _, e1.cell h0, rfl⟩ ?_
    refine NEW_rule fun s3 e3 z3 o3 _ => ?_
    refine ANDS_i ⟨_, _, _, e3.cell (e1.cell h1), rfl⟩ ?_
    refine saidP s3 _ _ _ (e1.trans e3) (row_new o3) fun s4 e4 => ?_
    try simp only [TUP_mk, AGG_mk, HD_mk, NL_mk, TYI_mk, TYB_mk, TYP_mk, TYL_mk, TYS_mk, TYM_mk, SO_mk, NX_mk, endK_mk, endK_mk', add_0]
    refine ANDS_i ⟨_, _, _, e4.cell (e3.cell (e1.cell h1)), rfl⟩ ?_
    refine saidQ s4 _ _ _ ((e1.trans e3).trans e4) ((u.ext e3).ext e4) fun s5 e5 => ?_
    try simp only [TUP_mk, AGG_mk, HD_mk, NL_mk, TYI_mk, TYB_mk, TYP_mk, TYL_mk, TYS_mk, TYM_mk, SO_mk, NX_mk, endK_mk, endK_mk', add_0]
    exact hfin s5 (((e1.trans e3).trans e4).trans e5)
end
end Go.Proofs.YtcjgbanpkmpekaaGreatDoor.G

/- Texts of hearings. -/
set_option linter.unusedVariables false
set_option linter.unusedSimpArgs false
set_option maxRecDepth 20000
namespace Go.Proofs.YtcjgbanpkmpekaaGreatDoor.G
open Go.V
theorem zc_122 : zc Pg 122 = [.int .i64 0, .int .i64 0, .bool false, .int .i64 0, .bool false, .bool false, .int .i64 0, .bool false] := by kernel_rfl
theorem zc_284 : zc Pg 284 = [.string ⟨#[]⟩, .string ⟨#[]⟩, .string ⟨#[]⟩] := by kernel_rfl
/-- A hearing, as it is looked at. -/
structure HrC (s : Hp) (B : Nat) (p : HrS) : Prop where
  c0 : cellAt s ⟨B, 0, none⟩ = some (.int .i64 p.facts)
  c1 : cellAt s ⟨B, 1, none⟩ = some (.int .i64 p.wits)
  c2 : cellAt s ⟨B, 2, none⟩ = some (.int .i64 p.liars)
  c3 : ∃ x c, cellAt s ⟨B, 3, none⟩ = some (.slice x p.claims.length c) ∧ RowAt s x (p.claims.flatMap cl8)
  c4 : ∃ x c, cellAt s ⟨B, 4, none⟩ = some (.slice x p.known.length c) ∧ RowAt s x (p.known.flatMap wd3)
structure HrG (p : HrS) : Prop where
  facts : rg p.facts
  wits : rg p.wits
  liars : rg p.liars
  claims : ∀ c ∈ p.claims, rg c.wit ∧ rg c.a.num ∧ rg c.b.num
  known : ∀ w ∈ p.known, rg w.num
  n3 : p.claims.length ≤ 10000
  n4 : p.known.length ≤ 10000
theorem HrC.ext {s s' : Hp} {B : Nat} {p : HrS} (e : Ext s s') (h : HrC s B p) : HrC s' B p where
  c0 := e.cell h.c0
  c1 := e.cell h.c1
  c2 := e.cell h.c2
  c3 := by obtain ⟨x, c, h1, h2⟩ := h.c3; exact ⟨x, c, e.cell h1, h2.ext e⟩
  c4 := by obtain ⟨x, c, h1, h2⟩ := h.c4; exact ⟨x, c, e.cell h1, h2.ext e⟩
section
variable {W : World} {K : VK} {E : List PanicEntry → Hp → Prop} {s s0 : Hp}
theorem c_kinds (hk : ∀ s', Ext s s' → K (.agg #[.string (bs b_is), .string (bs b_or), .string (bs b_if)]) s') : CALL Pg W F_book_kinds [] K E s := by
  refine does_book_kinds W _ s ?_
  unfold T_book_kinds
  refine nw3 zc_284 rfl rfl rfl fun s1 e1 z1 o0 o1 o2 => ?_
  refine ⟨_, o0.cell, _, o1.cell, _, o2.cell, ?_⟩
  try simp only [TUP_mk, AGG_mk, HD_mk, NL_mk, TYI_mk, TYB_mk, TYP_mk, TYL_mk, TYS_mk, TYM_mk, SO_mk, NX_mk, endK_mk, endK_mk', add_0]
  exact hk s1 e1
theorem nw8 {P : Program} {t : TypeId} {z : List Value} {v0 v1 v2 v3 v4 v5 v6 v7 : Value} {K : Nat → Hp → Prop} (hz : zc P t = z) (hl : z.length = 8) (hv : ∀ v ∈ [v0, v1, v2, v3, v4, v5, v6, v7], oneCell v = true)
    (h : ∀ s', Ext s s' → s'.size = s.size + 1 → (∀ i (h : i < 8), Own s' ⟨s.size, i, none⟩ ([v0, v1, v2, v3, v4, v5, v6, v7][i]'h)) → K s.size s') :
    NEWZ P t (fun B => WR (Addr.add ⟨B, 0, none⟩ 0) v0 (WR (Addr.add ⟨B, 0, none⟩ 1) v1 (WR (Addr.add ⟨B, 0, none⟩ 2) v2 (WR (Addr.add ⟨B, 0, none⟩ 3) v3 (WR (Addr.add ⟨B, 0, none⟩ 4) v4 (WR (Addr.add ⟨B, 0, none⟩ 5) v5 (WR (Addr.add ⟨B, 0, none⟩ 6) v6 (WR (Addr.add ⟨B, 0, none⟩ 7) v7 (K B))))))))) s :=
  nwN (vs := [v0, v1, v2, v3, v4, v5, v6, v7]) hz (by rw [hl]; rfl) hv fun s' e z o => h s' e z o
theorem IXG_k {k : Int} {K : VK} (h : 0 ≤ k ∧ k ≤ 2) (hk : K (.string (bs (kindT k))) s) : IXG [(.string (bs b_is)), (.string (bs b_or)), (.string (bs b_if))] 3 1 k K s := by
  have : k = 0 ∨ k = 1 ∨ k = 2 := by omega
  rcases this with rfl | rfl | rfl <;> exact hk
theorem hr_known {p : HrS} {a : BL} {y : Option Addr} {c : Nat} {zt : ByteArray} (he : Env s0) (g : HrG p) (hok : okHr p = true) (e : Ext s0 s) (hl : a.length ≤ 1000000000000) (hy : RowAt s0 y (p.known.flatMap wd3))
    (hk : ∀ s', Ext s0 s' → K (.tuple #[.string (bs (a ++ txt (p.known.map knownW))), .bool true]) s') : L_book_hearing_text_1 W (endK K E) zt y p.known.length c (p.known.length : Int) (bs a) 0 s := by
  refine L_book_hearing_text_1_rule W _ _ _ _ _ _ (fun t n s' => ∃ k : Nat, n = (k : Int) ∧ k ≤ p.known.length ∧ Ext s0 s' ∧ t = bs (a ++ txt ((p.known.take k).map knownW))) (fun t n s' => p.known.length - n.toNat) _ _ s ⟨0, rfl, by omega, e, by simp [txt]⟩ ?_
  rintro t n s1 ⟨k, rfl, hk1, e1, rfl⟩
  unfold B_book_hearing_text_1
  have g2 := g.n4
  refine BR_dec (fun hlt => ?_) (fun hge => ?_)
  · have hkl : k < p.known.length := by omega
    obtain ⟨b, hb, hc⟩ := rowF (f := wd3) (M := 3) (fun _ => rfl) hy k hkl (by omega)
    subst hb
    refine IXS_nat hkl ?_
    refine ⟨_, e1.cell (hc 0 (by omega)), _, e1.cell (hc 1 (by omega)), _, e1.cell (hc 2 (by omega)), ?_⟩
    refine nw3 zc_79 rfl rfl rfl fun s2 e2 z2 o0 o1 o2 => ?_
    refine ⟨_, o0.cell, _, o1.cell, _, o2.cell, ?_⟩
    have r1 := g.known _ (List.getElem_mem hkl)
    have hPok : ∀ q ∈ [Prt.str b_known, .word p.known[k]], PrtOk s2 q := by
      intro q hq
      simp only [List.mem_cons, List.not_mem_nil, or_false] at hq
      rcases hq with rfl | rfl
      · show 5 ≤ 100; omega
      · exact r1
    refine said_new (l := [.str b_known, .word p.known[k]]) (he.ext (e1.trans e2)) rfl (by simp) hPok fun s3 e3 => ?_
    try simp only [TUP_mk, AGG_mk, HD_mk, NL_mk, TYI_mk, TYB_mk, TYP_mk, TYL_mk, TYS_mk, TYM_mk, SO_mk, NX_mk, endK_mk, endK_mk', add_0]
    have hL := ln_len10 hPok (by simp)
    have hT := txt_lenG (W := (p.known.take k).map knownW) (m := 500) (fun ws hws => by
      obtain ⟨q, hq, rfl⟩ := List.mem_map.1 hws
      have r := g.known q (List.mem_of_mem_take hq)
      have := ln_len (ws := knownW q) (k := 4) (m := 100) (by simp [knownW]) (fun w hw => by
        simp only [knownW, List.mem_cons, List.not_mem_nil, or_false] at hw
        rcases hw with rfl | rfl
        · show 5 ≤ 100; omega
        · have := wd_len r; omega)
      omega)
    have hTl : ((p.known.take k).map knownW).length ≤ 10000 := by simp; omega
    refine STC_bs (by simp only [List.length_append] at hL ⊢; omega) ?_
    try simp only [TUP_mk, AGG_mk, HD_mk, NL_mk, TYI_mk, TYB_mk, TYP_mk, TYL_mk, TYS_mk, TYM_mk, SO_mk, NX_mk, endK_mk, endK_mk', add_0]
    refine ⟨_, _, rfl, ⟨k + 1, wr_k (by omega), by omega, (e1.trans e2).trans e3, ?_⟩, ms_k hkl (by omega)⟩
    rw [take_map hkl, txt_snoc, List.append_assoc]
    rfl
  · have hkl : k = p.known.length := by omega
    subst hkl
    rw [List.take_length]
    try simp only [TUP_mk, AGG_mk, HD_mk, NL_mk, TYI_mk, TYB_mk, TYP_mk, TYL_mk, TYS_mk, TYM_mk, SO_mk, NX_mk, endK_mk, endK_mk', add_0]
    exact hk s1 e1
theorem cl_len {c : Cl} (h1 : rg c.wit) (h2 : rg c.a.num) (h3 : rg c.b.num) : (ln (clW c)).length ≤ 500 := by
  have := ln_len (ws := clW c) (k := 4) (m := 100) (by unfold clW; split <;> simp) (fun w hw => by
    unfold clW at hw
    rcases List.mem_append.1 hw with hw | hw
    · simp only [List.mem_cons, List.not_mem_nil, or_false] at hw
      rcases hw with rfl | rfl | rfl
      · have := it_len h1.1.1 h1.1.2; omega
      · have := (kind_ok c.knd).2; omega
      · have := wd_len h2; omega
    · split at hw
      · simp at hw
      · simp only [List.mem_cons, List.not_mem_nil, or_false] at hw
        subst hw
        have := wd_len h3; omega)
  omega
theorem c_hearing_text {p : HrS} {B : Nat} (he : Env s) (hp : HrC s B p) (g : HrG p) (hk : ∀ s', Ext s s' → K (.tuple #[.string (bs (if okHr p then txt (hrW p) else [])), .bool (okHr p)]) s') : CALL Pg W F_book_hearing_text [.pointer (some ⟨B, 0, none⟩)] K E s := by
  refine does_book_hearing_text W _ _ s ?_
  unfold T_book_hearing_text
  try simp only [TUP_mk, AGG_mk, HD_mk, NL_mk, TYI_mk, TYB_mk, TYP_mk, TYL_mk, TYS_mk, TYM_mk, SO_mk, NX_mk, endK_mk, endK_mk', add_0]
  obtain ⟨x3, c3, h3, r3⟩ := hp.c3
  obtain ⟨x4, c4, h4, r4⟩ := hp.c4
  have g3 := g.n3
  have g4 := g.n4
  refine ⟨_, hp.c0, _, hp.c1, _, hp.c2, _, _, _, h3, _, _, _, h4, ?_⟩
  refine c_isHearing r3 r4 (by omega) (by omega) fun s1 e1 => ?_
  try simp only [TUP_mk, AGG_mk, HD_mk, NL_mk, TYI_mk, TYB_mk, TYP_mk, TYL_mk, TYS_mk, TYM_mk, SO_mk, NX_mk, endK_mk, endK_mk', add_0]
  refine BR_not (fun hok => ?_) (fun hok => ?_)
  · try simp only [TUP_mk, AGG_mk, HD_mk, NL_mk, TYI_mk, TYB_mk, TYP_mk, TYL_mk, TYS_mk, TYM_mk, SO_mk, NX_mk, endK_mk, endK_mk', add_0]
    have := hk s1 e1
    rw [hok] at this
    exact this
  rw [hok, if_pos rfl] at hk
  have hp1 := hp.ext e1
  refine ⟨_, hp1.c0, ?_⟩
  refine ⟨_, hp1.c1, ?_⟩
  refine ⟨_, hp1.c2, ?_⟩
  have hPok : ∀ q ∈ [Prt.str b_hearing, .num p.facts, .num p.wits, .num p.liars], PrtOk s1 q := by
    intro q hq
    simp only [List.mem_cons, List.not_mem_nil, or_false] at hq
    rcases hq with rfl | rfl | rfl | rfl
    · show 7 ≤ 100; omega
    · exact g.facts
    · exact g.wits
    · exact g.liars
  refine said_new (l := [.str b_hearing, .num p.facts, .num p.wits, .num p.liars]) (he.ext e1) rfl (by simp) hPok fun s2 e2 => ?_
  try simp only [TUP_mk, AGG_mk, HD_mk, NL_mk, TYI_mk, TYB_mk, TYP_mk, TYL_mk, TYS_mk, TYM_mk, SO_mk, NX_mk, endK_mk, endK_mk', add_0]
  refine ⟨_, _, _, e2.cell (e1.cell h3), ?_⟩
  have hA := ln_len10 hPok (by simp)
  have eA : [Prt.str b_hearing, .num p.facts, .num p.wits, .num p.liars].flatMap prtW = [b_hearing, it p.facts, it p.wits, it p.liars] := rfl
  rw [eA] at hA ⊢
  generalize hAd : ln [b_hearing, it p.facts, it p.wits, it p.liars] = A at hA ⊢
  obtain ⟨_, hcl, _⟩ := okHr_b hok
  refine L_book_hearing_text_0_rule W _ _ _ _ _ _ _ (fun t n s' => ∃ k : Nat, n = (k : Int) ∧ k ≤ p.claims.length ∧ Ext s s' ∧ t = bs (A ++ txt ((p.claims.take k).map clW))) (fun t n s' => p.claims.length - n.toNat) _ _ s2 ⟨0, rfl, by omega, e1.trans e2, by simp [txt]⟩ ?_
  rintro t n s3 ⟨k, rfl, hk1, e3, rfl⟩
  unfold B_book_hearing_text_0
  have hT := txt_lenG (W := (p.claims.take k).map clW) (m := 500) (fun ws hws => by
    obtain ⟨q, hq, rfl⟩ := List.mem_map.1 hws
    obtain ⟨q1, q2, q3⟩ := g.claims q (List.mem_of_mem_take hq)
    exact cl_len q1 q2 q3)
  have hTl : ((p.claims.take k).map clW).length ≤ 10000 := by simp; omega
  refine BR_dec (fun hlt => ?_) (fun hge => ?_)
  · have hkl : k < p.claims.length := by omega
    obtain ⟨b, hb, hc⟩ := rowF (f := cl8) (M := 8) (fun _ => rfl) r3 k hkl (by omega)
    subst hb
    refine IXS_nat hkl ?_
    refine ⟨_, e3.cell (hc 0 (by omega)), _, e3.cell (hc 1 (by omega)), _, e3.cell (hc 2 (by omega)), _, e3.cell (hc 3 (by omega)), _, e3.cell (hc 4 (by omega)), _, e3.cell (hc 5 (by omega)), _, e3.cell (hc 6 (by omega)), _, e3.cell (hc 7 (by omega)), ?_⟩
    obtain ⟨g1, g2, g3'⟩ := g.claims _ (List.getElem_mem hkl)
    have hckl := okCl_b (hcl _ (List.getElem_mem hkl)).1
    have hkn : 0 ≤ p.claims[k].knd ∧ p.claims[k].knd ≤ 2 := by
      have := (hcl _ (List.getElem_mem hkl)).1
      unfold okClD at this
      simp only [Bool.and_eq_true, decide_eq_true_eq] at this
      exact this.2.1
    generalize hC : p.claims[k] = C at hc g1 g2 g3' hkn
    refine nw8 zc_122 rfl (by simp [cl8, oneCell]) fun s4 e4 z4 o => ?_
    have o0 := (o 0 (by omega)).cell
    have o1 := (o 1 (by omega)).cell
    have o2 := (o 2 (by omega)).cell
    have o3 := (o 3 (by omega)).cell
    have o4 := (o 4 (by omega)).cell
    have o5 := (o 5 (by omega)).cell
    have o6 := (o 6 (by omega)).cell
    have o7 := (o 7 (by omega)).cell
    refine ⟨_, o1, ?_⟩
    have e34 := e3.trans e4
    have fin : ∀ (s5 : Hp) (u : BL), Ext s s5 → u = ln (clW C) → STC (bs (A ++ txt ((p.claims.take k).map clW))) (bs u) (fun t74 => J_book_hearing_text_0 W (endK K E) (some ⟨B, 0, none⟩) ⟨#[]⟩ (some b) p.claims.length c3 (p.claims.length : Int) (N_book_hearing_text_0 (fun t n s' => ∃ k : Nat, n = (k : Int) ∧ k ≤ p.claims.length ∧ Ext s s' ∧ t = bs (A ++ txt ((p.claims.take k).map clW))) (fun t n s' => p.claims.length - n.toNat) (bs (A ++ txt ((p.claims.take k).map clW))) (k : Int) s3) t74 (k : Int)) s5 := by
      intro s5 u e5 hu
      subst hu
      have := cl_len g1 g2 g3'
      refine STC_bs (by simp only [List.length_append]; omega) ?_
      unfold J_book_hearing_text_0
      try simp only [TUP_mk, AGG_mk, HD_mk, NL_mk, TYI_mk, TYB_mk, TYP_mk, TYL_mk, TYS_mk, TYM_mk, SO_mk, NX_mk, endK_mk, endK_mk', add_0]
      refine ⟨_, _, rfl, ⟨k + 1, wr_k (by omega), by omega, e5, ?_⟩, ms_k hkl (by omega)⟩
      rw [take_map hkl, txt_snoc, List.append_assoc, hC]
    refine BR_eq (fun hk0 => ?_) (fun hk0 => ?_)
    · have hk0' : C.knd = 0 := hk0
      refine ⟨_, o0, _, o1, _, o2, _, o3, _, o4, ?_⟩
      refine c_kinds fun s5 e5 => ?_
      try simp only [TUP_mk, AGG_mk, HD_mk, NL_mk, TYI_mk, TYB_mk, TYP_mk, TYL_mk, TYS_mk, TYM_mk, SO_mk, NX_mk, endK_mk, endK_mk', add_0]
      refine ANDS_i ⟨_, e5.cell o2, _, e5.cell o3, _, e5.cell o4, rfl⟩ ?_
      refine ANDS_i ⟨_, e5.cell o1, rfl⟩ ?_
      refine ANDS_i ⟨_, e5.cell o0, rfl⟩ ?_
      refine IXG_k hkn ?_
      try simp only [TUP_mk, AGG_mk, HD_mk, NL_mk, TYI_mk, TYB_mk, TYP_mk, TYL_mk, TYS_mk, TYM_mk, SO_mk, NX_mk, endK_mk, endK_mk', add_0]
      refine ANDS_i ⟨_, e5.cell o2, _, e5.cell o3, _, e5.cell o4, rfl⟩ ?_
      refine ANDS_i ⟨_, e5.cell o0, rfl⟩ ?_
      have hQ : ∀ q ∈ [Prt.num C.wit, .str (kindT C.knd), .word C.a], PrtOk s5 q := by
        intro q hq
        simp only [List.mem_cons, List.not_mem_nil, or_false] at hq
        rcases hq with rfl | rfl | rfl
        · exact g1
        · have := (kind_ok C.knd).2; show (kindT C.knd).length ≤ 100; omega
        · exact g2
      refine said_new (l := [.num C.wit, .str (kindT C.knd), .word C.a]) (he.ext (e34.trans e5)) rfl (by simp) hQ fun s6 e6 => ?_
      try simp only [TUP_mk, AGG_mk, HD_mk, NL_mk, TYI_mk, TYB_mk, TYP_mk, TYL_mk, TYS_mk, TYM_mk, SO_mk, NX_mk, endK_mk, endK_mk', add_0]
      refine fin s6 _ ((e34.trans e5).trans e6) ?_
      unfold clW
      rw [if_pos hk0']
      rfl
    · have hk0' : ¬ C.knd = 0 := hk0
      refine ⟨_, o0, _, o1, _, o2, _, o3, _, o4, _, o5, _, o6, _, o7, ?_⟩
      refine c_kinds fun s5 e5 => ?_
      try simp only [TUP_mk, AGG_mk, HD_mk, NL_mk, TYI_mk, TYB_mk, TYP_mk, TYL_mk, TYS_mk, TYM_mk, SO_mk, NX_mk, endK_mk, endK_mk', add_0]
      refine ANDS_i ⟨_, e5.cell o5, _, e5.cell o6, _, e5.cell o7, rfl⟩ ?_
      refine ANDS_i ⟨_, e5.cell o2, _, e5.cell o3, _, e5.cell o4, rfl⟩ ?_
      refine ANDS_i ⟨_, e5.cell o1, rfl⟩ ?_
      refine ANDS_i ⟨_, e5.cell o0, rfl⟩ ?_
      refine IXG_k hkn ?_
      try simp only [TUP_mk, AGG_mk, HD_mk, NL_mk, TYI_mk, TYB_mk, TYP_mk, TYL_mk, TYS_mk, TYM_mk, SO_mk, NX_mk, endK_mk, endK_mk', add_0]
      refine ANDS_i ⟨_, e5.cell o5, _, e5.cell o6, _, e5.cell o7, rfl⟩ ?_
      refine ANDS_i ⟨_, e5.cell o2, _, e5.cell o3, _, e5.cell o4, rfl⟩ ?_
      refine ANDS_i ⟨_, e5.cell o0, rfl⟩ ?_
      have hQ : ∀ q ∈ [Prt.num C.wit, .str (kindT C.knd), .word C.a, .word C.b], PrtOk s5 q := by
        intro q hq
        simp only [List.mem_cons, List.not_mem_nil, or_false] at hq
        rcases hq with rfl | rfl | rfl | rfl
        · exact g1
        · have := (kind_ok C.knd).2; show (kindT C.knd).length ≤ 100; omega
        · exact g2
        · exact g3'
      refine said_new (l := [.num C.wit, .str (kindT C.knd), .word C.a, .word C.b]) (he.ext (e34.trans e5)) rfl (by simp) hQ fun s6 e6 => ?_
      try simp only [TUP_mk, AGG_mk, HD_mk, NL_mk, TYI_mk, TYB_mk, TYP_mk, TYL_mk, TYS_mk, TYM_mk, SO_mk, NX_mk, endK_mk, endK_mk', add_0]
      refine fin s6 _ ((e34.trans e5).trans e6) ?_
      unfold clW
      rw [if_neg hk0']
      rfl
  · have hkl : k = p.claims.length := by omega
    subst hkl
    rw [List.take_length] at hT ⊢
    rw [List.take_length] at hTl
    try simp only [TUP_mk, AGG_mk, HD_mk, NL_mk, TYI_mk, TYB_mk, TYP_mk, TYL_mk, TYS_mk, TYM_mk, SO_mk, NX_mk, endK_mk, endK_mk', add_0]
    refine ⟨_, _, _, e3.cell h4, ?_⟩
    refine hr_known he g hok e3 (by simp only [List.length_append]; omega) r4 fun s4 e4 => ?_
    have := hk s4 e4
    have et : txt (hrW p) = A ++ txt (p.claims.map clW) ++ txt (p.known.map knownW) := by
      unfold hrW
      rw [txt_cons, txt_app, hAd, List.append_assoc]
    rw [et] at this
    exact this
end
end Go.Proofs.YtcjgbanpkmpekaaGreatDoor.G

/- Targets that are read into: lists of one's own; pegs. -/
set_option linter.unusedVariables false
set_option linter.unusedSimpArgs false
set_option maxRecDepth 20000
namespace Go.Proofs.YtcjgbanpkmpekaaGreatDoor.G
open Go.V
/-- A list of one's own, in blocks from z on, below u. -/
structure FrU (z u : Nat) (s : Hp) (x : Option Addr) (l c es : Nat) (vs : List Value) : Prop where
  fr : Fr z s x l c es vs
  lt : ∀ a, x = some a → a.block < u
/-- .. which the cell j of the block B holds. -/
structure Lst (z u : Nat) (s : Hp) (B j : Nat) (x : Option Addr) (l c es : Nat) (vs : List Value) : Prop where
  own : Own s ⟨B, j, none⟩ (.slice x l c)
  f : FrU z u s x l c es vs
def Dj (x y : Option Addr) : Prop := ∀ a b, x = some a → y = some b → a.block ≠ b.block
theorem Dj.symm {x y : Option Addr} (h : Dj x y) : Dj y x := fun a b ha hb e => h b a hb ha e.symm
theorem Dj.none_l (y : Option Addr) : Dj none y := fun a b ha => by cases ha
theorem Dj.none_r (y : Option Addr) : Dj y none := fun a b _ hb => by cases hb
section
variable {s s' : Hp} {z u B j l c es : Nat} {x y : Option Addr} {vs : List Value}
theorem FrU.nil (z u : Nat) (s : Hp) (es : Nat) : FrU z u s none 0 0 es [] := ⟨Fr.nil _ _ _, fun a h => by cases h⟩
theorem FrU.kp {D : Nat → Prop} (k : Kp D s s') (h : FrU z u s x l c es vs) (hd : ∀ a, x = some a → ¬ D a.block) : FrU z u s' x l c es vs := ⟨h.fr.kp k hd, h.lt⟩
theorem FrU.up {u' : Nat} (hu : u ≤ u') (h : FrU z u s x l c es vs) : FrU z u' s x l c es vs := ⟨h.fr, fun a ha => Nat.lt_of_lt_of_le (h.lt a ha) hu⟩
theorem Lst.kp {D : Nat → Prop} (k : Kp D s s') (h : Lst z u s B j x l c es vs) (hB : ¬ D B) (hd : ∀ a, x = some a → ¬ D a.block) : Lst z u s' B j x l c es vs := ⟨k.own hB h.own, h.f.kp k hd⟩
theorem Lst.ext (e : Ext s s') (h : Lst z u s B j x l c es vs) : Lst z u s' B j x l c es vs := h.kp (e.kp (C := fun _ => False)) id (fun _ _ => id)
theorem Lst.up {u' : Nat} (hu : u ≤ u') (h : Lst z u s B j x l c es vs) : Lst z u' s B j x l c es vs := ⟨h.own, h.f.up hu⟩
/-- What is neither the target nor one of its lists may change. -/
theorem Lst.keep (h : Lst z u s B j x l c es vs) (hs : s.size ≤ s'.size) (hk : ∀ b, b < s.size → (b = B ∨ (z ≤ b ∧ b < u)) → s'[b]? = s[b]?) : Lst z u s' B j x l c es vs :=
  h.kp (D := fun b => ¬ (b = B ∨ (z ≤ b ∧ b < u))) ⟨hs, fun b hb hd => hk b hb (Classical.not_not.1 hd)⟩ (fun hh => hh (.inl rfl)) (fun a ha hh => hh (.inr ⟨h.f.fr.fr a ha, h.f.lt a ha⟩))
theorem row_lt {t : Hp} {x : Option Addr} {lo l c es : Nat} {vs : List Value} (h : Fr lo t x l c es vs) (hv : vs ≠ []) : ∀ a, x = some a → a.block < t.size := fun a ha => by
  obtain ⟨b, hb, hc⟩ := h.row 0 (List.length_pos_iff.2 hv)
  rw [ha] at hb; cases hb
  have := cell_lt hc
  rwa [add_blk] at this
/-- One thing more at a list's end. -/
theorem lst_app {ty : TypeId} {b : Nat} {ws zs : List Value} {K : Option Addr → Nat → Nat → Hp → Prop} (L : Lst z u s B j x l c es vs) (hBz : B < z) (hzu : z ≤ u) (hu : u ≤ s.size) (hrow : RowAt s (some ⟨b, 0, none⟩) ws) (hw : ws.length = es) (hws : ∀ v ∈ ws, oneCell v = true) (hz : zc Pg ty = zs) (hzl : zs.length = es) (hes : 0 < es) (hl : l ≤ 100000)
    (h : ∀ s1 x' c', Kp (fun b => ∃ a, x = some a ∧ a.block = b) s s1 → Own s1 ⟨B, j, none⟩ (.slice x l c) → FrU z s1.size s1 x' (l + 1) c' es (vs ++ ws) → (∀ y, (∀ a, y = some a → a.block < s.size) → Dj x y → Dj x' y) → K x' (l + 1) c' s1) : APP Pg ty es x l c (some ⟨b, 0, none⟩) 1 K s := by
  refine APP_fr L.f.fr (by omega) hrow (by omega) hz hzl hes hws (by omega) fun s1 x' c' k hx f => ?_
  have hne : vs ++ ws ≠ [] := by
    intro e
    have := congrArg List.length e
    rw [List.length_append] at this
    simp only [List.length_nil] at this
    omega
  refine h s1 x' c' k (k.own (fun ⟨a, h1, h2⟩ => by have := L.f.fr.fr a h1; simp only at h2; omega) L.own) ⟨f, row_lt f hne⟩ fun y hy hd a b' ha hb' => ?_
  rcases hx a ha with ⟨a0, h1, h2⟩ | h1
  · rw [← h2]; exact hd a0 b' h1 hb'
  · have := hy b' hb'; omega
/-- The list is laid into its cell. -/
theorem lst_wr {w : Value} {K : Hp → Prop} (ho : Own s ⟨B, j, none⟩ w) (f : FrU z u s x l c es vs) (hBz : B < z)
    (h : ∀ s', Kp (· = B) s s' → s'.size = s.size → Lst z u s' B j x l c es vs → (∀ i v, i ≠ j → Own s ⟨B, i, none⟩ v → Own s' ⟨B, i, none⟩ v) → K s') : WR ⟨B, j, none⟩ (.slice x l c) K s := by
  refine wr1k ho rfl fun s1 k z1 o kk => ?_
  refine h s1 k z1 ⟨o, f.kp k (fun a ha hh => by have := f.fr.fr a ha; have h' : a.block = B := hh; omega)⟩ fun i v hi hv => kk ⟨B, i, none⟩ v (.inr hi) hv
theorem Lst.wr (h : Lst z u s B j x l c es vs) (k : Kp (· = B) s s') (hBz : B < z) (ho : ∀ v, Own s ⟨B, j, none⟩ v → Own s' ⟨B, j, none⟩ v) : Lst z u s' B j x l c es vs :=
  ⟨ho _ h.own, h.f.kp k (fun a ha hh => by have := h.f.fr.fr a ha; have h' : a.block = B := hh; omega)⟩
end
/-! ### Pegs -/
def StPg (B : Nat) (z u : Nat) (s : Hp) (p : PgS) : Prop := ∃ x1 c1 x2 c2, Own s ⟨B, 0, none⟩ (.int .i64 p.side) ∧ Lst z u s B 1 x1 p.posts.length c1 4 (p.posts.flatMap q4V) ∧ Lst z u s B 2 x2 p.lens.length c2 4 (p.lens.flatMap q4V) ∧ Dj x1 x2
def tblPg (V : Nat) (k : ByteArray) : Option Value := if k = bs b_chain then some (.func (.func 179) #[] #[.pointer (some ⟨V, 0, none⟩)]) else if k = bs b_post then some (.func (.func 177) #[] #[.pointer (some ⟨V, 0, none⟩)]) else if k = bs b_field then some (.func (.func 175) #[] #[.pointer (some ⟨V, 0, none⟩)]) else none
/-- Numbers that are read can be written. -/
def sml (l : List Int) : Prop := Big ∨ ∀ n ∈ l, 0 ≤ n ∧ n < 100
theorem sml.rg {l : List Int} {n : Int} (h : sml l) (hn : n ∈ l) (hr : rp n) : rg n := ⟨hr, h.imp id fun h => h n hn⟩
theorem rg_p {n : Int} (h : rg n) : rp n := h.1
def rp4 (q : Q4) : Prop := (rp q.a ∧ rp q.b) ∧ rp q.c ∧ rp q.d
def q4N (q : Q4) : List Int := [q.a, q.b, q.c, q.d]
def pgN (p : PgS) : List Int := p.side :: (p.posts.flatMap q4N ++ p.lens.flatMap q4N)
theorem sml.q4 {l : List Int} {q : Q4} (h : sml l) (hn : ∀ n ∈ q4N q, n ∈ l) (hr : rp4 q) : rg4 q :=
  ⟨⟨h.rg (hn _ (by simp [q4N])) hr.1.1, h.rg (hn _ (by simp [q4N])) hr.1.2⟩, h.rg (hn _ (by simp [q4N])) hr.2.1, h.rg (hn _ (by simp [q4N])) hr.2.2⟩
structure gdPg (p : PgS) (k : Nat) : Prop where
  side : rp p.side
  posts : ∀ q ∈ p.posts, rp4 q
  lens : ∀ q ∈ p.lens, rp4 q
  n1 : p.posts.length ≤ k
  n2 : p.lens.length ≤ k
theorem gdPg.g {p : PgS} {k : Nat} (h : gdPg p k) (hk : k ≤ 2000) (hs : sml (pgN p)) : PgG p := ⟨hs.rg (by simp [pgN]) h.side, fun q hq => hs.q4 (fun n hn => List.mem_cons_of_mem _ (List.mem_append_left _ (List.mem_flatMap.2 ⟨q, hq, hn⟩))) (h.posts q hq), fun q hq => hs.q4 (fun n hn => List.mem_cons_of_mem _ (List.mem_append_right _ (List.mem_flatMap.2 ⟨q, hq, hn⟩))) (h.lens q hq), by have := h.n1; omega, by have := h.n2; omega⟩
theorem bs_inj {a b : BL} (h : bs a = bs b) : a = b := by rw [← bs_l a, h, bs_l]
theorem nextN_rg {ps r : List BL} {n : Int} (h : nextN ps = some (n, r)) : rp n := by
  cases ps with
  | nil => cases h
  | cons y q =>
    obtain ⟨m, hm, e⟩ := Option.map_eq_some_iff.1 h
    cases e
    exact fig_rg hm
theorem nextS_rg {ps r : List BL} {x : Int × Int} (h : nextS ps = some (x, r)) : rp x.1 ∧ rp x.2 := by
  cases ps with
  | nil => cases h
  | cons y q =>
    unfold nextS at h
    simp only at h
    split at h
    · split at h
      · rename_i lo hi h1 h2
        cases h
        exact ⟨fig_rg h1, fig_rg h2⟩
      · cases h
    · cases h
theorem q4_one (q : Q4) : ∀ v ∈ q4V q, oneCell v = true := by
  intro v hv
  simp only [q4V, List.mem_cons, List.not_mem_nil, or_false] at hv
  rcases hv with rfl | rfl | rfl | rfl <;> rfl
theorem flat_snoc {α : Type} (f : α → List Value) (l : List α) (a : α) : (l ++ [a]).flatMap f = l.flatMap f ++ f a := by simp
theorem cell_ne {D : Nat → Prop} {s s' : Hp} {a : Addr} {v : Value} (k : Kp D s s') (h : cellAt s a = some v) (hd : ¬ D a.block) : cellAt s' a = some v := k.cell hd h
section
variable {W : World} {s : Hp} {K : VK} {E : List PanicEntry → Hp → Prop} {B : Nat}
theorem strange (hE : ∀ s', Ext s s' → E (MF 8) s') {t : ByteArray} {p : Option Addr} : CALL Pg W F_book_strange_other [.agg #[], .string t, .pointer p] K E s := by
  refine does_book_strange_other W t p _ s ?_
  unfold T_book_strange_other
  refine NEW_rule fun s1 e1 z1 o _ => ?_
  exact c_need (fun h => by cases h) (fun _ => hE s1 e1)
theorem mk_begins {t : TypeId} {v0 : Value} {K : Nat → Nat → Hp → Prop} (h : ∀ s2, Ext s s2 → s2.size = s.size + 2 → MapS s2 (s.size + 1) (fun _ => none) → cellAt s2 ⟨s.size, 0, none⟩ = some v0 → K s.size (s.size + 1) s2) : NEW t [v0] (fun B2 => MKM fun B3 => K B2 B3) s := by
  refine ne1 fun s1 e1 z1 o1 => ?_
  refine MKM_rule fun s2 e2 z2 m2 => ?_
  rw [z1] at m2 ⊢
  exact h s2 (e1.trans e2) (by omega) m2 (e2.cell o1.cell)
theorem MUP_s {r : Nat} {g : ByteArray → Option Value} {k : ByteArray} {v : Value} {K : Hp → Prop} (h : MapS s r g) (hk : ∀ s', Kp (· = r) s s' → s'.size = s.size → MapS s' r (updI g k v) → K s') : MUP Pg 177 (.map (some r)) (.string k) v K s := by
  obtain ⟨e, ht, _⟩ := und_177
  exact MUP_v ht h hk
end
end Go.Proofs.YtcjgbanpkmpekaaGreatDoor.G

/- Pegs are read. -/
set_option linter.unusedVariables false
set_option linter.unusedSimpArgs false
set_option maxRecDepth 20000
namespace Go.Proofs.YtcjgbanpkmpekaaGreatDoor.G
open Go.V
theorem inv_of {W : World} {s : Hp} {K : VK} {E : List PanicEntry → Hp → Prop} {t : TypeId} {v : Value} {name : String} {f : FuncId} {args : List Value} (h : mth Pg t name = some f) (hc : CALL Pg W f (v :: args) K E s) : INV Pg W (.iface t v) name args K E s := by
  unfold INV
  simp only
  rw [h]
  exact hc
section
variable {W : World} {s : Hp} {K : VK} {E : List PanicEntry → Hp → Prop} {B : Nat}
/-- A step's premises. -/
structure StepP (z u : Nat) (s : Hp) (B V : Nat) (a : Addr) (q : Nat) (r : List BL) : Prop where
  env : Env s
  row : RowS s a q r
  ua : u ≤ a.block
  uq : u ≤ q
  zu : z ≤ u
  Vz : V < z
  BV : B < V
  B8 : 8 ≤ B
  us : u ≤ s.size
  r3 : r.length ≤ 3000
  cV : cellAt s ⟨V, 0, none⟩ = some (.pointer (some ⟨B, 0, none⟩))
theorem StepP.ra {z u V q : Nat} {a : Addr} {r : List BL} (h : StepP z u s B V a q r) : 8 ≤ a.block := by have := h.ua; have := h.zu; have := h.Vz; have := h.BV; have := h.B8; omega
/-- What a row's reading leaves. -/
theorem StepP.cVa {z u V q : Nat} {a : Addr} {r : List BL} (h : StepP z u s B V a q r) {s' : Hp} (k : Kp (· = a.block) s s') : cellAt s' ⟨V, 0, none⟩ = some (.pointer (some ⟨B, 0, none⟩)) :=
  k.cell (fun hh => by have h' : V = a.block := hh; have := h.ua; have := h.zu; have := h.Vz; omega) h.cV
theorem Lst.row {z u j l c es : Nat} {x : Option Addr} {vs : List Value} {s' : Hp} {a : Addr} (L : Lst z u s B j x l c es vs) (k : Kp (· = a.block) s s') (hua : u ≤ a.block) (hB : B < u) : Lst z u s' B j x l c es vs :=
  L.kp k (fun hh => by have h' : B = a.block := hh; omega) (fun b hb hh => by have := L.f.lt b hb; have h' : b.block = a.block := hh; omega)
theorem stepC_row {a : Addr} {z : Nat} {s' : Hp} (k : Kp (· = a.block) s s') : Kp (StepC a.block B z) s s' := k.mono fun b hb => .inl hb
theorem stepC_B {a : Addr} {z : Nat} {s' : Hp} (k : Kp (· = B) s s') : Kp (StepC a.block B z) s s' := k.mono fun b hb => .inr (.inl hb)
theorem stepC_new {a : Addr} {z : Nat} {s1 s2 : Hp} {D : Nat → Prop} (k1 : Kp (StepC a.block B z) s s1) (k2 : Kp D s1 s2) (hd : ∀ b, D b → z ≤ b) : Kp (StepC a.block B z) s s2 := k1.trans (k2.mono fun b hb => .inr (.inr (hd b hb)))
theorem pg_field {z u V q k : Nat} {a : Addr} {r : List BL} {p : PgS} (hst : StPg B z u s p) (h : StepP z u s B V a q r) (g : gdPg p k)
    (hB : pgStep p (b_field :: r) = none → Big) (h0 : pgStep p (b_field :: r) = none → ∀ s', Kp (StepC a.block B z) s s' → E (MF 8) s') (h1 : ∀ p' s', pgStep p (b_field :: r) = some p' → gdPg p' (k + 1) → Kp (StepC a.block B z) s s' → StPg B z s'.size s' p' → K (.tuple #[]) s') :
    CALLV Pg W (.func (.func 175) #[] #[.pointer (some ⟨V, 0, none⟩)]) [.pointer (some a)] K E s := by
  refine CALLV_func ?_
  refine does_book_pegs_begins_c1 W (some a) ⟨V, 0, none⟩ _ s ?_
  unfold T_book_pegs_begins_c1
  have hp : pgStep p (b_field :: r) = (nextN r).map fun x => { p with side := x.1 } := by unfold pgStep; dsimp only; rw [if_pos rfl]
  have hBu : B < u := by have := h.BV; have := h.Vz; have := h.zu; omega
  have hBz : B < z := by have := h.BV; have := h.Vz; omega
  obtain ⟨x1, c1, x2, c2, o0, L1, L2, dj⟩ := hst
  refine ⟨_, h.cV, ?_⟩
  refine c_number h.row h.env h.ra (fun hn => hB (by rw [hp, hn]; rfl)) (fun hn s1 k1 => h0 (by rw [hp, hn]; rfl) s1 (stepC_row k1)) (fun n r' s1 hn k1 r1 => ?_)
  try simp only [TUP_mk, AGG_mk, HD_mk, NL_mk, TYI_mk, TYB_mk, TYP_mk, TYL_mk, TYS_mk, TYM_mk, SO_mk, NX_mk, endK_mk, endK_mk', add_0]
  refine ANDS_i ⟨_, h.cVa k1, rfl⟩ ?_
  have o0' := k1.own (fun hh => by have h' : B = a.block := hh; have := h.ua; omega) o0
  refine wr1k (a := ⟨B, 0, none⟩) o0' rfl fun s2 k2 z2 q0 kk => ?_
  try simp only [TUP_mk, AGG_mk, HD_mk, NL_mk, TYI_mk, TYB_mk, TYP_mk, TYL_mk, TYS_mk, TYM_mk, SO_mk, NX_mk, endK_mk, endK_mk', add_0]
  have hs2 : u ≤ s2.size := by have := h.us; have := k1.1; omega
  refine h1 { p with side := n } s2 (by rw [hp, hn]; rfl) ⟨nextN_rg hn, g.posts, g.lens, by have := g.n1; show p.posts.length ≤ k + 1; omega, by have := g.n2; show p.lens.length ≤ k + 1; omega⟩ ((stepC_row k1).trans (stepC_B k2)) ⟨x1, c1, x2, c2, q0, ?_, ?_, dj⟩
  · exact ((L1.row k1 h.ua hBu).wr k2 hBz (fun v hv => kk ⟨B, 1, none⟩ v (.inr (by show 1 ≠ 0; omega)) hv)).up hs2
  · exact ((L2.row k1 h.ua hBu).wr k2 hBz (fun v hv => kk ⟨B, 2, none⟩ v (.inr (by show 2 ≠ 0; omega)) hv)).up hs2
theorem pg_post {z u V q k : Nat} {a : Addr} {r : List BL} {p : PgS} (hst : StPg B z u s p) (h : StepP z u s B V a q r) (g : gdPg p k) (hk : k ≤ 2000)
    (hB : pgStep p (b_post :: r) = none → Big) (h0 : pgStep p (b_post :: r) = none → ∀ s', Kp (StepC a.block B z) s s' → E (MF 8) s') (h1 : ∀ p' s', pgStep p (b_post :: r) = some p' → gdPg p' (k + 1) → Kp (StepC a.block B z) s s' → StPg B z s'.size s' p' → K (.tuple #[]) s') :
    CALLV Pg W (.func (.func 177) #[] #[.pointer (some ⟨V, 0, none⟩)]) [.pointer (some a)] K E s := by
  refine CALLV_func ?_
  refine does_book_pegs_begins_c2 W (some a) ⟨V, 0, none⟩ _ s ?_
  unfold T_book_pegs_begins_c2
  have hp : pgStep p (b_post :: r) = (nextS r).bind fun x => (nextS x.2).map fun y => { p with posts := p.posts ++ [⟨x.1.1, x.1.2, y.1.1, y.1.2⟩] } := by unfold pgStep; dsimp only; rw [if_neg b_fp, if_pos rfl]
  have hBu : B < u := by have := h.BV; have := h.Vz; have := h.zu; omega
  have hBz : B < z := by have := h.BV; have := h.Vz; omega
  have hBa : ¬ B = a.block := by have := h.ua; omega
  have hg1 := g.n1
  obtain ⟨x1, c1, x2, c2, o0, L1, L2, dj⟩ := hst
  refine ⟨_, h.cV, _, h.cV, ?_⟩
  try simp only [TUP_mk, AGG_mk, HD_mk, NL_mk, TYI_mk, TYB_mk, TYP_mk, TYL_mk, TYS_mk, TYM_mk, SO_mk, NX_mk, endK_mk, endK_mk', add_0]
  refine ⟨_, _, _, L1.own.cell, ?_⟩
  refine c_span h.row h.env h.ra (fun hn => hB (by rw [hp, hn]; rfl)) (fun hn s1 k1 => h0 (by rw [hp, hn]; rfl) s1 (stepC_row k1)) (fun x r1 s1 hn k1 rr1 => ?_)
  try simp only [TUP_mk, AGG_mk, HD_mk, NL_mk, TYI_mk, TYB_mk, TYP_mk, TYL_mk, TYS_mk, TYM_mk, SO_mk, NX_mk, endK_mk, endK_mk', add_0]
  have M1 := L1.row k1 h.ua hBu
  have cV1 := h.cVa k1
  refine ANDS_i ⟨_, _, _, M1.own.cell, rfl⟩ (ANDS_i ⟨_, cV1, rfl⟩ (ANDS_i ⟨_, cV1, rfl⟩ ?_))
  refine c_span rr1 (h.env.row h.ra k1) h.ra (fun hn2 => hB (by rw [hp, hn]; simp only [Option.bind_some, hn2]; rfl)) (fun hn2 s2 k2 => h0 (by rw [hp, hn]; simp only [Option.bind_some, hn2]; rfl) s2 (stepC_row (k1.trans k2))) (fun y r2 s2 hn2 k2 rr2 => ?_)
  try simp only [TUP_mk, AGG_mk, HD_mk, NL_mk, TYI_mk, TYB_mk, TYP_mk, TYL_mk, TYS_mk, TYM_mk, SO_mk, NX_mk, endK_mk, endK_mk', add_0]
  have k12 := k1.trans k2
  have M2 := L1.row k12 h.ua hBu
  have N2 := L2.row k12 h.ua hBu
  have cV2 := h.cVa k12
  refine ANDS_i ⟨_, _, _, M2.own.cell, rfl⟩ (ANDS_i ⟨_, cV2, rfl⟩ (ANDS_i ⟨_, cV2, rfl⟩ ?_))
  refine NEW_rule fun s3 e3 z3 o3 _ => ?_
  have M3 := M2.ext e3
  have N3 := N2.ext e3
  have cV3 := e3.cell cV2
  refine ANDS_i ⟨_, _, _, M3.own.cell, rfl⟩ (ANDS_i ⟨_, cV3, rfl⟩ (ANDS_i ⟨_, cV3, rfl⟩ ?_))
  have hu3 : u ≤ s3.size := by have := h.us; have := k12.1; have := e3.1; omega
  have hps : pgStep p (b_post :: r) = some { p with posts := p.posts ++ [⟨x.1, x.2, y.1, y.2⟩] } := by rw [hp, hn]; simp only [Option.bind_some, hn2]; rfl
  refine lst_app (ws := q4V ⟨x.1, x.2, y.1, y.2⟩) M3 hBz h.zu hu3 (row_new' o3) rfl (q4_one _) zc_77 rfl (by omega) (by omega) fun s4 x' c' k4 o4 f4 hd4 => ?_
  have kz : ∀ b, (∃ a, x1 = some a ∧ a.block = b) → z ≤ b := fun b ⟨a', g1, g2⟩ => by rw [← g2]; exact M3.f.fr.fr a' g1
  have cV4 := k4.cell (a := ⟨V, 0, none⟩) (fun hh => by have h9 : z ≤ V := kz _ hh; have := h.Vz; omega) cV3
  refine ANDS_i ⟨_, cV4, rfl⟩ ?_
  have K34 : Kp (StepC a.block B z) s s4 := stepC_new ((stepC_row k12).ext e3) k4 kz
  have N4 : Lst z u s4 B 2 x2 p.lens.length c2 4 (p.lens.flatMap q4V) := N3.kp k4 (fun hh => by have := kz _ hh; omega) (fun b hb ⟨a', g1, g2⟩ => dj a' b g1 hb g2)
  have o0' : Own s4 ⟨B, 0, none⟩ (.int .i64 p.side) := k4.own (fun hh => by have h9 : z ≤ B := kz _ hh; omega) (e3.own (k12.own hBa o0))
  refine lst_wr (j := 1) o4 f4 hBz fun s5 k5 z5 L5 kk5 => ?_
  try simp only [TUP_mk, AGG_mk, HD_mk, NL_mk, TYI_mk, TYB_mk, TYP_mk, TYL_mk, TYS_mk, TYM_mk, SO_mk, NX_mk, endK_mk, endK_mk', add_0]
  refine h1 _ s5 hps ⟨g.side, fun q hq => ?_, g.lens, by simp; omega, by have := g.n2; show p.lens.length ≤ k + 1; omega⟩ (K34.trans (stepC_B k5)) ⟨x', c', x2, c2, kk5 0 _ (by omega) o0', ?_, ?_, ?_⟩
  · rcases List.mem_append.1 hq with hq | hq
    · exact g.posts q hq
    · rw [List.mem_singleton] at hq; subst hq; exact ⟨nextS_rg hn, nextS_rg hn2⟩
  · have hl : (p.posts ++ [(⟨x.1, x.2, y.1, y.2⟩ : Q4)]).length = p.posts.length + 1 := by simp
    rw [z5]
    show Lst z s4.size s5 B 1 x' (p.posts ++ [(⟨x.1, x.2, y.1, y.2⟩ : Q4)]).length c' 4 ((p.posts ++ [(⟨x.1, x.2, y.1, y.2⟩ : Q4)]).flatMap q4V)
    rw [hl, flat_snoc]
    exact L5
  · exact ((N4.wr k5 hBz (fun v hv => kk5 2 v (by omega) hv)).up (by have := hu3; have := k4.1; have := k5.1; omega))
  · exact hd4 x2 (fun b hb => by have := N3.f.lt b hb; omega) dj
theorem pg_chain {z u V q k : Nat} {a : Addr} {r : List BL} {p : PgS} (hst : StPg B z u s p) (h : StepP z u s B V a q r) (g : gdPg p k) (hk : k ≤ 2000)
    (hB : pgStep p (b_chain :: r) = none → Big) (h0 : pgStep p (b_chain :: r) = none → ∀ s', Kp (StepC a.block B z) s s' → E (MF 8) s') (h1 : ∀ p' s', pgStep p (b_chain :: r) = some p' → gdPg p' (k + 1) → Kp (StepC a.block B z) s s' → StPg B z s'.size s' p' → K (.tuple #[]) s') :
    CALLV Pg W (.func (.func 179) #[] #[.pointer (some ⟨V, 0, none⟩)]) [.pointer (some a)] K E s := by
  refine CALLV_func ?_
  refine does_book_pegs_begins_c3 W (some a) ⟨V, 0, none⟩ _ s ?_
  unfold T_book_pegs_begins_c3
  have hp : pgStep p (b_chain :: r) = (nextN r).bind fun x => (nextN x.2).bind fun y => (nextS y.2).map fun z => { p with lens := p.lens ++ [⟨x.1, y.1, z.1.1, z.1.2⟩] } := by unfold pgStep; dsimp only; rw [if_neg b_fc, if_neg b_pc, if_pos rfl]
  have hBu : B < u := by have := h.BV; have := h.Vz; have := h.zu; omega
  have hBz : B < z := by have := h.BV; have := h.Vz; omega
  have hBa : ¬ B = a.block := by have := h.ua; omega
  have hg1 := g.n2
  obtain ⟨x1, c1, x2, c2, o0, L1, L2, dj⟩ := hst
  refine ⟨_, h.cV, _, h.cV, ?_⟩
  try simp only [TUP_mk, AGG_mk, HD_mk, NL_mk, TYI_mk, TYB_mk, TYP_mk, TYL_mk, TYS_mk, TYM_mk, SO_mk, NX_mk, endK_mk, endK_mk', add_0]
  refine ⟨_, _, _, L2.own.cell, ?_⟩
  refine c_number h.row h.env h.ra (fun hn => hB (by rw [hp, hn]; rfl)) (fun hn s1 k1 => h0 (by rw [hp, hn]; rfl) s1 (stepC_row k1)) (fun n1 r1 s1 hn k1 rr1 => ?_)
  try simp only [TUP_mk, AGG_mk, HD_mk, NL_mk, TYI_mk, TYB_mk, TYP_mk, TYL_mk, TYS_mk, TYM_mk, SO_mk, NX_mk, endK_mk, endK_mk', add_0]
  have M1 := L2.row k1 h.ua hBu
  have cV1 := h.cVa k1
  refine ANDS_i ⟨_, _, _, M1.own.cell, rfl⟩ (ANDS_i ⟨_, cV1, rfl⟩ (ANDS_i ⟨_, cV1, rfl⟩ ?_))
  refine c_number rr1 (h.env.row h.ra k1) h.ra (fun hn2 => hB (by rw [hp, hn]; simp only [Option.bind_some, hn2]; rfl)) (fun hn2 s2 k2 => h0 (by rw [hp, hn]; simp only [Option.bind_some, hn2]; rfl) s2 (stepC_row (k1.trans k2))) (fun n2 r2 s2 hn2 k2 rr2 => ?_)
  try simp only [TUP_mk, AGG_mk, HD_mk, NL_mk, TYI_mk, TYB_mk, TYP_mk, TYL_mk, TYS_mk, TYM_mk, SO_mk, NX_mk, endK_mk, endK_mk', add_0]
  have k12 := k1.trans k2
  have M2 := L2.row k12 h.ua hBu
  have cV2 := h.cVa k12
  refine ANDS_i ⟨_, _, _, M2.own.cell, rfl⟩ (ANDS_i ⟨_, cV2, rfl⟩ (ANDS_i ⟨_, cV2, rfl⟩ ?_))
  refine c_span rr2 (h.env.row h.ra k12) h.ra (fun hn3 => hB (by rw [hp, hn]; simp only [Option.bind_some, hn2, hn3]; rfl)) (fun hn3 s3 k3 => h0 (by rw [hp, hn]; simp only [Option.bind_some, hn2, hn3]; rfl) s3 (stepC_row (k12.trans k3))) (fun y r3 s3 hn3 k3 rr3 => ?_)
  try simp only [TUP_mk, AGG_mk, HD_mk, NL_mk, TYI_mk, TYB_mk, TYP_mk, TYL_mk, TYS_mk, TYM_mk, SO_mk, NX_mk, endK_mk, endK_mk', add_0]
  have k13 := k12.trans k3
  have M3 := L2.row k13 h.ua hBu
  have N3 := L1.row k13 h.ua hBu
  have cV3 := h.cVa k13
  refine ANDS_i ⟨_, _, _, M3.own.cell, rfl⟩ (ANDS_i ⟨_, cV3, rfl⟩ (ANDS_i ⟨_, cV3, rfl⟩ ?_))
  refine NEW_rule fun s4 e4 z4 o4 _ => ?_
  have M4 := M3.ext e4
  have N4 := N3.ext e4
  have cV4 := e4.cell cV3
  refine ANDS_i ⟨_, _, _, M4.own.cell, rfl⟩ (ANDS_i ⟨_, cV4, rfl⟩ (ANDS_i ⟨_, cV4, rfl⟩ ?_))
  have hu4 : u ≤ s4.size := by have := h.us; have := k13.1; have := e4.1; omega
  have hps : pgStep p (b_chain :: r) = some { p with lens := p.lens ++ [⟨n1, n2, y.1, y.2⟩] } := by rw [hp, hn]; simp only [Option.bind_some, hn2, hn3]; rfl
  refine lst_app (ws := q4V ⟨n1, n2, y.1, y.2⟩) M4 hBz h.zu hu4 (row_new' o4) rfl (q4_one _) zc_83 rfl (by omega) (by omega) fun s5 x' c' k5 o5 f5 hd5 => ?_
  have kz : ∀ b, (∃ a, x2 = some a ∧ a.block = b) → z ≤ b := fun b ⟨a', g1, g2⟩ => by rw [← g2]; exact M4.f.fr.fr a' g1
  have cV5 := k5.cell (a := ⟨V, 0, none⟩) (fun hh => by have h9 : z ≤ V := kz _ hh; have := h.Vz; omega) cV4
  refine ANDS_i ⟨_, cV5, rfl⟩ ?_
  have K45 : Kp (StepC a.block B z) s s5 := stepC_new ((stepC_row k13).ext e4) k5 kz
  have N5 : Lst z u s5 B 1 x1 p.posts.length c1 4 (p.posts.flatMap q4V) := N4.kp k5 (fun hh => by have := kz _ hh; omega) (fun b hb ⟨a', g1, g2⟩ => dj b a' hb g1 g2.symm)
  have o0' : Own s5 ⟨B, 0, none⟩ (.int .i64 p.side) := k5.own (fun hh => by have h9 : z ≤ B := kz _ hh; omega) (e4.own (k13.own hBa o0))
  refine lst_wr (j := 2) o5 f5 hBz fun s6 k6 z6 L6 kk6 => ?_
  try simp only [TUP_mk, AGG_mk, HD_mk, NL_mk, TYI_mk, TYB_mk, TYP_mk, TYL_mk, TYS_mk, TYM_mk, SO_mk, NX_mk, endK_mk, endK_mk', add_0]
  refine h1 _ s6 hps ⟨g.side, g.posts, fun q hq => ?_, by have := g.n1; show p.posts.length ≤ k + 1; omega, by simp; omega⟩ (K45.trans (stepC_B k6)) ⟨x1, c1, x', c', kk6 0 _ (by omega) o0', ?_, ?_, ?_⟩
  · rcases List.mem_append.1 hq with hq | hq
    · exact g.lens q hq
    · rw [List.mem_singleton] at hq; subst hq; exact ⟨⟨nextN_rg hn, nextN_rg hn2⟩, nextS_rg hn3⟩
  · exact ((N5.wr k6 hBz (fun v hv => kk6 1 v (by omega) hv)).up (by have := hu4; have := k5.1; have := k6.1; omega))
  · have hl : (p.lens ++ [(⟨n1, n2, y.1, y.2⟩ : Q4)]).length = p.lens.length + 1 := by simp
    rw [z6]
    show Lst z s5.size s6 B 2 x' (p.lens ++ [(⟨n1, n2, y.1, y.2⟩ : Q4)]).length c' 4 ((p.lens ++ [(⟨n1, n2, y.1, y.2⟩ : Q4)]).flatMap q4V)
    rw [hl, flat_snoc]
    exact L6
  · exact (hd5 x1 (fun b hb => by have := N4.f.lt b hb; omega) dj.symm).symm
theorem StPg.c {z u : Nat} {p : PgS} (h : StPg B z u s p) : PgC s B p := by
  obtain ⟨x1, c1, x2, c2, o0, L1, L2, _⟩ := h
  exact ⟨o0.cell, ⟨_, _, L1.own.cell, L1.f.fr.row⟩, ⟨_, _, L2.own.cell, L2.f.fr.row⟩⟩
theorem tbl_none {V : Nat} {f : BL} (h : tblPg V (bs f) = none) : f ≠ b_field ∧ f ≠ b_post ∧ f ≠ b_chain := by
  unfold tblPg at h
  refine ⟨?_, ?_, ?_⟩ <;> rintro rfl
  · split at h
    · cases h
    · split at h
      · cases h
      · rw [if_pos rfl] at h; cases h
  · split at h
    · cases h
    · rw [if_pos rfl] at h; cases h
  · rw [if_pos rfl] at h; cases h
theorem fill_pg : FillH W B (.iface 145 (.pointer (some ⟨B, 0, none⟩))) (StPg B) tblPg pgStep pg0 okPg (fun p => txt (pgW p)) gdPg (fun p => sml (pgN p)) where
  one := rfl
  keep := fun z u s s' p ⟨x1, c1, x2, c2, o0, L1, L2, dj⟩ hs hk => ⟨x1, c1, x2, c2, ⟨by rw [cell_of_block (hk B o0.lt (.inl rfl))]; exact o0.1, by rw [frozen_of_block (hk B o0.lt (.inl rfl))]; exact o0.2⟩, L1.keep hs hk, L2.keep hs hk, dj⟩
  up := fun z u u' s p hu ⟨x1, c1, x2, c2, o0, L1, L2, dj⟩ => ⟨x1, c1, x2, c2, o0, L1.up hu, L2.up hu, dj⟩
  begins := fun s K E h => by
    refine inv_of (f := F_book_pegs_begins) (by kernel_rfl) ?_
    refine does_book_pegs_begins W _ _ s ?_
    unfold T_book_pegs_begins
    refine mk_begins fun s2 e2 z2 m2 c2 => ?_
    refine MUP_s m2 fun s3 k3 z3 m3 => ?_
    refine MUP_s m3 fun s4 k4 z4 m4 => ?_
    refine MUP_s m4 fun s5 k5 z5 m5 => ?_
    have hne : ¬ s.size = s.size + 1 := by omega
    refine h s5 (s.size + 1) s.size ?_ m5 (by omega) (Nat.le_refl _) (k5.cell hne (k4.cell hne (k3.cell hne c2)))
    exact ext_kp (ext_kp (ext_kp e2 (by omega) k3) (by omega) k4) (by omega) k5
  step := fun z u s p V a q f r k K E hst he hr hua huq hzu hVz hBV hB8 hus hf hr3 hg hk cV hB h0 h1 => by
    have H : StepP z u s B V a q r := ⟨he, hr, hua, huq, hzu, hVz, hBV, hB8, hus, hr3, cV⟩
    refine ⟨fun v hv => ?_, fun hn => ?_⟩
    · unfold tblPg at hv
      split at hv
      · rename_i e; cases hv
        have e' := bs_inj e
        subst e'
        exact pg_chain hst H hg hk hB h0 h1
      · split at hv
        · rename_i e; cases hv
          have e' := bs_inj e
          subst e'
          exact pg_post hst H hg hk hB h0 h1
        · split at hv
          · rename_i e; cases hv
            have e' := bs_inj e
            subst e'
            exact pg_field hst H hg hB h0 h1
          · cases hv
    · obtain ⟨n1, n2, n3⟩ := tbl_none hn
      refine inv_of (f := F_book_pegs_other) (by kernel_rfl) ?_
      refine does_book_pegs_other W _ (bs f) (some a) _ s ?_
      unfold T_book_pegs_other
      refine strange fun s' e' => ?_
      refine h0 ?_ s' e'.kp
      unfold pgStep
      simp only
      rw [if_neg n1, if_neg n2, if_neg n3]
  text := fun z u s p k K E hst he hg hk hsm h => by
    refine inv_of (f := F_book_pegs_text) (by kernel_rfl) ?_
    exact c_pegs_text he hst.c (hg.g hk hsm) h
  gd0 := ⟨by unfold rp pg0; simp, fun q hq => by simp [pg0] at hq, fun q hq => by simp [pg0] at hq, by simp [pg0], by simp [pg0]⟩
end
end Go.Proofs.YtcjgbanpkmpekaaGreatDoor.G

/- Panels are read. -/
set_option linter.unusedVariables false
set_option linter.unusedSimpArgs false
set_option maxRecDepth 20000
namespace Go.Proofs.YtcjgbanpkmpekaaGreatDoor.G
open Go.V
def StPn (B : Nat) (z u : Nat) (s : Hp) (p : PnS) : Prop := ∃ x0 c0 x1 c1 x2 c2, Lst z u s B 0 x0 p.loads.length c0 1 (ints p.loads) ∧ Lst z u s B 1 x1 p.needs.length c1 1 (ints p.needs) ∧ Lst z u s B 2 x2 p.kin.length c2 2 (p.kin.flatMap kinV) ∧ Dj x0 x1 ∧ Dj x0 x2 ∧ Dj x1 x2
def tblPn (V : Nat) (k : ByteArray) : Option Value := if k = bs b_kin then some (.func (.func 223) #[] #[.pointer (some ⟨V, 0, none⟩)]) else if k = bs b_plots then some (.func (.func 222) #[] #[.pointer (some ⟨V, 0, none⟩)]) else if k = bs b_judges then some (.func (.func 220) #[] #[.pointer (some ⟨V, 0, none⟩)]) else none
structure gdPn (p : PnS) (k : Nat) : Prop where
  loads : ∀ n ∈ p.loads, rp n
  needs : ∀ n ∈ p.needs, rp n
  kin : ∀ q ∈ p.kin, rp q.1 ∧ rp q.2
  n0 : p.loads.length ≤ 3000
  n1 : p.needs.length ≤ 3000
  n2 : p.kin.length ≤ k
def pnN (p : PnS) : List Int := p.loads ++ (p.needs ++ p.kin.flatMap fun q => [q.1, q.2])
theorem gdPn.g {p : PnS} {k : Nat} (h : gdPn p k) (hk : k ≤ 2000) (hs : sml (pnN p)) : PnG p := ⟨fun n hn => hs.rg (List.mem_append_left _ hn) (h.loads n hn), fun n hn => hs.rg (List.mem_append_right _ (List.mem_append_left _ hn)) (h.needs n hn), fun q hq => ⟨hs.rg (List.mem_append_right _ (List.mem_append_right _ (List.mem_flatMap.2 ⟨q, hq, by simp⟩))) (h.kin q hq).1, hs.rg (List.mem_append_right _ (List.mem_append_right _ (List.mem_flatMap.2 ⟨q, hq, by simp⟩))) (h.kin q hq).2⟩, by have := h.n0; omega, by have := h.n1; omega, by have := h.n2; omega⟩
theorem allN_rg : ∀ {ps : List BL} {l : List Int}, allN ps = some l → (∀ n ∈ l, rp n) ∧ l.length = ps.length
  | [], l, h => by injection h with h; subst h; exact ⟨by simp, rfl⟩
  | y :: r, l, h => by
    simp only [allN] at h
    obtain ⟨n, hn, h2⟩ := Option.bind_eq_some_iff.1 h
    obtain ⟨l', hl, rfl⟩ := Option.map_eq_some_iff.1 h2
    obtain ⟨h3, h4⟩ := allN_rg hl
    refine ⟨fun m hm => ?_, by simp [h4]⟩
    rcases List.mem_cons.1 hm with rfl | hm
    · exact fig_rg hn
    · exact h3 m hm
theorem kin_one (q : Int × Int) : ∀ v ∈ kinV q, oneCell v = true := by
  intro v hv
  simp only [kinV, List.mem_cons, List.not_mem_nil, or_false] at hv
  rcases hv with rfl | rfl <;> rfl
section
variable {W : World} {s : Hp} {K : VK} {E : List PanicEntry → Hp → Prop} {B : Nat}
theorem dj_new {x y : Option Addr} {lo : Nat} (hx : ∀ a, x = some a → lo ≤ a.block) (hy : ∀ a, y = some a → a.block < lo) : Dj x y := fun a b ha hb => by have := hx a ha; have := hy b hb; omega
theorem pn_judges {z u V q k : Nat} {a : Addr} {r : List BL} {p : PnS} (hst : StPn B z u s p) (h : StepP z u s B V a q r) (g : gdPn p k)
    (hB : pnStep p (b_judges :: r) = none → Big) (h0 : pnStep p (b_judges :: r) = none → ∀ s', Kp (StepC a.block B z) s s' → E (MF 8) s') (h1 : ∀ p' s', pnStep p (b_judges :: r) = some p' → gdPn p' (k + 1) → Kp (StepC a.block B z) s s' → StPn B z s'.size s' p' → K (.tuple #[]) s') :
    CALLV Pg W (.func (.func 220) #[] #[.pointer (some ⟨V, 0, none⟩)]) [.pointer (some a)] K E s := by
  refine CALLV_func ?_
  refine does_book_panels_begins_c1 W (some a) ⟨V, 0, none⟩ _ s ?_
  unfold T_book_panels_begins_c1
  have hp : pnStep p (b_judges :: r) = (allN r).map fun l => { p with loads := l } := by unfold pnStep; dsimp only; rw [if_pos rfl]
  have hBu : B < u := by have := h.BV; have := h.Vz; have := h.zu; omega
  have hBz : B < z := by have := h.BV; have := h.Vz; omega
  obtain ⟨x0, c0, x1, c1, x2, c2, L0, L1, L2, d01, d02, d12⟩ := hst
  refine ⟨_, h.cV, ?_⟩
  refine c_numbers h.row h.env h.ra (by have := h.r3; omega) (fun hn => hB (by rw [hp, hn]; rfl)) (fun hn s1 k1 => h0 (by rw [hp, hn]; rfl) s1 (stepC_row k1)) (fun l x c s1 hn k1 f1 lt1 => ?_)
  try simp only [TUP_mk, AGG_mk, HD_mk, NL_mk, TYI_mk, TYB_mk, TYP_mk, TYL_mk, TYS_mk, TYM_mk, SO_mk, NX_mk, endK_mk, endK_mk', add_0]
  refine ANDS_i ⟨_, h.cVa k1, rfl⟩ ?_
  have M0 := L0.row k1 h.ua hBu
  have M1 := L1.row k1 h.ua hBu
  have M2 := L2.row k1 h.ua hBu
  have hzs : z ≤ s.size := by have := h.zu; have := h.us; omega
  refine lst_wr (j := 0) M0.own (z := z) (u := s1.size) ⟨⟨f1.buf, f1.len, fun b hb => by have := f1.fr b hb; omega, f1.cap⟩, lt1⟩ hBz fun s2 k2 z2 N0 kk => ?_
  try simp only [TUP_mk, AGG_mk, HD_mk, NL_mk, TYI_mk, TYB_mk, TYP_mk, TYL_mk, TYS_mk, TYM_mk, SO_mk, NX_mk, endK_mk, endK_mk', add_0]
  have hs2 : u ≤ s2.size := by have := h.us; have := k1.1; omega
  obtain ⟨r1, r2⟩ := allN_rg hn
  refine h1 { p with loads := l } s2 (by rw [hp, hn]; rfl) ⟨r1, g.needs, g.kin, by show l.length ≤ 3000; rw [r2]; exact h.r3, g.n1, by have := g.n2; show p.kin.length ≤ k + 1; omega⟩ ((stepC_row k1).trans (stepC_B k2)) ⟨x, c, x1, c1, x2, c2, by rw [z2]; exact N0, ?_, ?_, ?_, ?_, d12⟩
  · exact (M1.wr k2 hBz (fun v hv => kk 1 v (by omega) hv)).up hs2
  · exact (M2.wr k2 hBz (fun v hv => kk 2 v (by omega) hv)).up hs2
  · exact dj_new f1.fr (fun b hb => by have := M1.f.lt b hb; have := h.us; omega)
  · exact dj_new f1.fr (fun b hb => by have := M2.f.lt b hb; have := h.us; omega)
theorem pn_plots {z u V q k : Nat} {a : Addr} {r : List BL} {p : PnS} (hst : StPn B z u s p) (h : StepP z u s B V a q r) (g : gdPn p k)
    (hB : pnStep p (b_plots :: r) = none → Big) (h0 : pnStep p (b_plots :: r) = none → ∀ s', Kp (StepC a.block B z) s s' → E (MF 8) s') (h1 : ∀ p' s', pnStep p (b_plots :: r) = some p' → gdPn p' (k + 1) → Kp (StepC a.block B z) s s' → StPn B z s'.size s' p' → K (.tuple #[]) s') :
    CALLV Pg W (.func (.func 222) #[] #[.pointer (some ⟨V, 0, none⟩)]) [.pointer (some a)] K E s := by
  refine CALLV_func ?_
  refine does_book_panels_begins_c2 W (some a) ⟨V, 0, none⟩ _ s ?_
  unfold T_book_panels_begins_c2
  have hp : pnStep p (b_plots :: r) = (allN r).map fun l => { p with needs := l } := by unfold pnStep; dsimp only; rw [if_neg b_pj, if_pos rfl]
  have hBu : B < u := by have := h.BV; have := h.Vz; have := h.zu; omega
  have hBz : B < z := by have := h.BV; have := h.Vz; omega
  obtain ⟨x0, c0, x1, c1, x2, c2, L0, L1, L2, d01, d02, d12⟩ := hst
  refine ⟨_, h.cV, ?_⟩
  refine c_numbers h.row h.env h.ra (by have := h.r3; omega) (fun hn => hB (by rw [hp, hn]; rfl)) (fun hn s1 k1 => h0 (by rw [hp, hn]; rfl) s1 (stepC_row k1)) (fun l x c s1 hn k1 f1 lt1 => ?_)
  try simp only [TUP_mk, AGG_mk, HD_mk, NL_mk, TYI_mk, TYB_mk, TYP_mk, TYL_mk, TYS_mk, TYM_mk, SO_mk, NX_mk, endK_mk, endK_mk', add_0]
  refine ANDS_i ⟨_, h.cVa k1, rfl⟩ ?_
  have M0 := L0.row k1 h.ua hBu
  have M1 := L1.row k1 h.ua hBu
  have M2 := L2.row k1 h.ua hBu
  have hzs : z ≤ s.size := by have := h.zu; have := h.us; omega
  refine lst_wr (j := 1) M1.own (z := z) (u := s1.size) ⟨⟨f1.buf, f1.len, fun b hb => by have := f1.fr b hb; omega, f1.cap⟩, lt1⟩ hBz fun s2 k2 z2 N1 kk => ?_
  try simp only [TUP_mk, AGG_mk, HD_mk, NL_mk, TYI_mk, TYB_mk, TYP_mk, TYL_mk, TYS_mk, TYM_mk, SO_mk, NX_mk, endK_mk, endK_mk', add_0]
  have hs2 : u ≤ s2.size := by have := h.us; have := k1.1; omega
  obtain ⟨r1, r2⟩ := allN_rg hn
  refine h1 { p with needs := l } s2 (by rw [hp, hn]; rfl) ⟨g.loads, r1, g.kin, g.n0, by show l.length ≤ 3000; rw [r2]; exact h.r3, by have := g.n2; show p.kin.length ≤ k + 1; omega⟩ ((stepC_row k1).trans (stepC_B k2)) ⟨x0, c0, x, c, x2, c2, ?_, by rw [z2]; exact N1, ?_, ?_, d02, ?_⟩
  · exact (M0.wr k2 hBz (fun v hv => kk 0 v (by omega) hv)).up hs2
  · exact (M2.wr k2 hBz (fun v hv => kk 2 v (by omega) hv)).up hs2
  · exact (dj_new f1.fr (fun b hb => by have := M0.f.lt b hb; have := h.us; omega)).symm
  · exact dj_new f1.fr (fun b hb => by have := M2.f.lt b hb; have := h.us; omega)
theorem pn_kinS {z u V q k : Nat} {a : Addr} {r : List BL} {p : PnS} (hst : StPn B z u s p) (h : StepP z u s B V a q r) (g : gdPn p k) (hk : k ≤ 2000)
    (hB : pnStep p (b_kin :: r) = none → Big) (h0 : pnStep p (b_kin :: r) = none → ∀ s', Kp (StepC a.block B z) s s' → E (MF 8) s') (h1 : ∀ p' s', pnStep p (b_kin :: r) = some p' → gdPn p' (k + 1) → Kp (StepC a.block B z) s s' → StPn B z s'.size s' p' → K (.tuple #[]) s') :
    CALLV Pg W (.func (.func 223) #[] #[.pointer (some ⟨V, 0, none⟩)]) [.pointer (some a)] K E s := by
  refine CALLV_func ?_
  refine does_book_panels_begins_c3 W (some a) ⟨V, 0, none⟩ _ s ?_
  unfold T_book_panels_begins_c3
  have hp : pnStep p (b_kin :: r) = (nextN r).bind fun x => (nextN x.2).map fun y => { p with kin := p.kin ++ [(x.1, y.1)] } := by unfold pnStep; dsimp only; rw [if_neg b_kj, if_neg b_kp, if_pos rfl]
  have hBu : B < u := by have := h.BV; have := h.Vz; have := h.zu; omega
  have hBz : B < z := by have := h.BV; have := h.Vz; omega
  have hg1 := g.n2
  obtain ⟨x0, c0, x1, c1, x2, c2, L0, L1, L2, d01, d02, d12⟩ := hst
  refine ⟨_, h.cV, _, h.cV, ?_⟩
  try simp only [TUP_mk, AGG_mk, HD_mk, NL_mk, TYI_mk, TYB_mk, TYP_mk, TYL_mk, TYS_mk, TYM_mk, SO_mk, NX_mk, endK_mk, endK_mk', add_0]
  refine ⟨_, _, _, L2.own.cell, ?_⟩
  refine c_number h.row h.env h.ra (fun hn => hB (by rw [hp, hn]; rfl)) (fun hn s1 k1 => h0 (by rw [hp, hn]; rfl) s1 (stepC_row k1)) (fun n1 r1 s1 hn k1 rr1 => ?_)
  try simp only [TUP_mk, AGG_mk, HD_mk, NL_mk, TYI_mk, TYB_mk, TYP_mk, TYL_mk, TYS_mk, TYM_mk, SO_mk, NX_mk, endK_mk, endK_mk', add_0]
  have M2 := L2.row k1 h.ua hBu
  have cV1 := h.cVa k1
  refine ANDS_i ⟨_, _, _, M2.own.cell, rfl⟩ (ANDS_i ⟨_, cV1, rfl⟩ (ANDS_i ⟨_, cV1, rfl⟩ ?_))
  refine c_number rr1 (h.env.row h.ra k1) h.ra (fun hn2 => hB (by rw [hp, hn]; simp only [Option.bind_some, hn2]; rfl)) (fun hn2 s2 k2 => h0 (by rw [hp, hn]; simp only [Option.bind_some, hn2]; rfl) s2 (stepC_row (k1.trans k2))) (fun n2 r2 s2 hn2 k2 rr2 => ?_)
  try simp only [TUP_mk, AGG_mk, HD_mk, NL_mk, TYI_mk, TYB_mk, TYP_mk, TYL_mk, TYS_mk, TYM_mk, SO_mk, NX_mk, endK_mk, endK_mk', add_0]
  have k12 := k1.trans k2
  have A0 := L0.row k12 h.ua hBu
  have A1 := L1.row k12 h.ua hBu
  have A2 := L2.row k12 h.ua hBu
  have cV2 := h.cVa k12
  refine ANDS_i ⟨_, _, _, A2.own.cell, rfl⟩ (ANDS_i ⟨_, cV2, rfl⟩ (ANDS_i ⟨_, cV2, rfl⟩ ?_))
  refine NEW_rule fun s3 e3 z3 o3 _ => ?_
  have A0 := A0.ext e3
  have A1 := A1.ext e3
  have A2 := A2.ext e3
  have cV3 := e3.cell cV2
  refine ANDS_i ⟨_, _, _, A2.own.cell, rfl⟩ (ANDS_i ⟨_, cV3, rfl⟩ (ANDS_i ⟨_, cV3, rfl⟩ ?_))
  have hu3 : u ≤ s3.size := by have := h.us; have := k12.1; have := e3.1; omega
  have hps : pnStep p (b_kin :: r) = some { p with kin := p.kin ++ [(n1, n2)] } := by rw [hp, hn]; simp only [Option.bind_some, hn2]; rfl
  refine lst_app (ws := kinV (n1, n2)) A2 hBz h.zu hu3 (row_new' o3) rfl (kin_one _) zc_85 rfl (by omega) (by omega) fun s4 x' c' k4 o4 f4 hd4 => ?_
  have kz : ∀ b, (∃ a, x2 = some a ∧ a.block = b) → z ≤ b := fun b ⟨a', g1, g2⟩ => by rw [← g2]; exact A2.f.fr.fr a' g1
  have cV4 := k4.cell (a := ⟨V, 0, none⟩) (fun hh => by have h9 : z ≤ V := kz _ hh; have := h.Vz; omega) cV3
  refine ANDS_i ⟨_, cV4, rfl⟩ ?_
  have K34 : Kp (StepC a.block B z) s s4 := stepC_new ((stepC_row k12).ext e3) k4 kz
  have B0 := A0.kp k4 (fun hh => by have := kz _ hh; omega) (fun b hb ⟨a', g1, g2⟩ => d02 b a' hb g1 g2.symm)
  have B1 := A1.kp k4 (fun hh => by have := kz _ hh; omega) (fun b hb ⟨a', g1, g2⟩ => d12 b a' hb g1 g2.symm)
  refine lst_wr (j := 2) o4 f4 hBz fun s5 k5 z5 L5 kk5 => ?_
  try simp only [TUP_mk, AGG_mk, HD_mk, NL_mk, TYI_mk, TYB_mk, TYP_mk, TYL_mk, TYS_mk, TYM_mk, SO_mk, NX_mk, endK_mk, endK_mk', add_0]
  have hs5 : u ≤ s5.size := by have := hu3; have := k4.1; have := k5.1; omega
  refine h1 _ s5 hps ⟨g.loads, g.needs, fun q hq => ?_, g.n0, g.n1, by simp; omega⟩ (K34.trans (stepC_B k5)) ⟨x0, c0, x1, c1, x', c', ?_, ?_, ?_, d01, ?_, ?_⟩
  · rcases List.mem_append.1 hq with hq | hq
    · exact g.kin q hq
    · rw [List.mem_singleton] at hq; subst hq; exact ⟨nextN_rg hn, nextN_rg hn2⟩
  · exact (B0.wr k5 hBz (fun v hv => kk5 0 v (by omega) hv)).up hs5
  · exact (B1.wr k5 hBz (fun v hv => kk5 1 v (by omega) hv)).up hs5
  · have hl : (p.kin ++ [((n1, n2) : Int × Int)]).length = p.kin.length + 1 := by simp
    rw [z5]
    show Lst z s4.size s5 B 2 x' (p.kin ++ [((n1, n2) : Int × Int)]).length c' 2 ((p.kin ++ [((n1, n2) : Int × Int)]).flatMap kinV)
    rw [hl, flat_snoc]
    exact L5
  · exact (hd4 x0 (fun b hb => by have := A0.f.lt b hb; omega) d02.symm).symm
  · exact (hd4 x1 (fun b hb => by have := A1.f.lt b hb; omega) d12.symm).symm
theorem StPn.c {z u : Nat} {p : PnS} (h : StPn B z u s p) : PnC s B p := by
  obtain ⟨x0, c0, x1, c1, x2, c2, L0, L1, L2, _⟩ := h
  exact ⟨⟨_, _, L0.own.cell, L0.f.fr.row⟩, ⟨_, _, L1.own.cell, L1.f.fr.row⟩, ⟨_, _, L2.own.cell, L2.f.fr.row⟩⟩
theorem tblPn_none {V : Nat} {f : BL} (h : tblPn V (bs f) = none) : f ≠ b_judges ∧ f ≠ b_plots ∧ f ≠ b_kin := by
  unfold tblPn at h
  refine ⟨?_, ?_, ?_⟩ <;> rintro rfl
  · split at h
    · cases h
    · split at h
      · cases h
      · rw [if_pos rfl] at h; cases h
  · split at h
    · cases h
    · rw [if_pos rfl] at h; cases h
  · rw [if_pos rfl] at h; cases h
theorem fill_pn : FillH W B (.iface 157 (.pointer (some ⟨B, 0, none⟩))) (StPn B) tblPn pnStep pn0 okPn (fun p => txt (pnW p)) gdPn (fun p => sml (pnN p)) where
  one := rfl
  keep := fun z u s s' p ⟨x0, c0, x1, c1, x2, c2, L0, L1, L2, dj⟩ hs hk => ⟨x0, c0, x1, c1, x2, c2, L0.keep hs hk, L1.keep hs hk, L2.keep hs hk, dj⟩
  up := fun z u u' s p hu ⟨x0, c0, x1, c1, x2, c2, L0, L1, L2, dj⟩ => ⟨x0, c0, x1, c1, x2, c2, L0.up hu, L1.up hu, L2.up hu, dj⟩
  begins := fun s K E h => by
    refine inv_of (f := F_book_panels_begins) (by kernel_rfl) ?_
    refine does_book_panels_begins W _ _ s ?_
    unfold T_book_panels_begins
    refine mk_begins fun s2 e2 z2 m2 c2 => ?_
    refine MUP_s m2 fun s3 k3 z3 m3 => ?_
    refine MUP_s m3 fun s4 k4 z4 m4 => ?_
    refine MUP_s m4 fun s5 k5 z5 m5 => ?_
    have hne : ¬ s.size = s.size + 1 := by omega
    refine h s5 (s.size + 1) s.size ?_ m5 (by omega) (Nat.le_refl _) (k5.cell hne (k4.cell hne (k3.cell hne c2)))
    exact ext_kp (ext_kp (ext_kp e2 (by omega) k3) (by omega) k4) (by omega) k5
  step := fun z u s p V a q f r k K E hst he hr hua huq hzu hVz hBV hB8 hus hf hr3 hg hk cV hB h0 h1 => by
    have H : StepP z u s B V a q r := ⟨he, hr, hua, huq, hzu, hVz, hBV, hB8, hus, hr3, cV⟩
    refine ⟨fun v hv => ?_, fun hn => ?_⟩
    · unfold tblPn at hv
      split at hv
      · rename_i e; cases hv
        have e' := bs_inj e
        subst e'
        exact pn_kinS hst H hg hk hB h0 h1
      · split at hv
        · rename_i e; cases hv
          have e' := bs_inj e
          subst e'
          exact pn_plots hst H hg hB h0 h1
        · split at hv
          · rename_i e; cases hv
            have e' := bs_inj e
            subst e'
            exact pn_judges hst H hg hB h0 h1
          · cases hv
    · obtain ⟨n1, n2, n3⟩ := tblPn_none hn
      refine inv_of (f := F_book_panels_other) (by kernel_rfl) ?_
      refine does_book_panels_other W _ (bs f) (some a) _ s ?_
      unfold T_book_panels_other
      refine strange fun s' e' => ?_
      refine h0 ?_ s' e'.kp
      unfold pnStep
      simp only
      rw [if_neg n1, if_neg n2, if_neg n3]
  text := fun z u s p k K E hst he hg hk hsm h => by
    refine inv_of (f := F_book_panels_text) (by kernel_rfl) ?_
    exact c_panels_text he hst.c (hg.g hk hsm) h
  gd0 := ⟨fun q hq => by simp [pn0] at hq, fun q hq => by simp [pn0] at hq, fun q hq => by simp [pn0] at hq, by simp [pn0], by simp [pn0], by simp [pn0]⟩
end
end Go.Proofs.YtcjgbanpkmpekaaGreatDoor.G

/- Hearings are read. -/
set_option linter.unusedVariables false
set_option linter.unusedSimpArgs false
set_option maxRecDepth 20000
namespace Go.Proofs.YtcjgbanpkmpekaaGreatDoor.G
open Go.V
def StHr (B : Nat) (z u : Nat) (s : Hp) (p : HrS) : Prop := ∃ x3 c3 x4 c4, (Own s ⟨B, 0, none⟩ (.int .i64 p.facts) ∧ Own s ⟨B, 1, none⟩ (.int .i64 p.wits) ∧ Own s ⟨B, 2, none⟩ (.int .i64 p.liars)) ∧ Lst z u s B 3 x3 p.claims.length c3 8 (p.claims.flatMap cl8) ∧ Lst z u s B 4 x4 p.known.length c4 3 (p.known.flatMap wd3) ∧ Dj x3 x4
def tblHr (V : Nat) (k : ByteArray) : Option Value := if k = bs b_known then some (.func (.func 236) #[] #[.pointer (some ⟨V, 0, none⟩)]) else if k = bs b_hearing then some (.func (.func 235) #[] #[.pointer (some ⟨V, 0, none⟩)]) else none
structure gdHr (p : HrS) (k : Nat) : Prop where
  facts : rp p.facts
  wits : rp p.wits
  liars : rp p.liars
  claims : ∀ c ∈ p.claims, rp c.wit ∧ rp c.a.num ∧ rp c.b.num
  known : ∀ w ∈ p.known, rp w.num
  n3 : p.claims.length ≤ k
  n4 : p.known.length ≤ k
def hrN (p : HrS) : List Int := p.facts :: p.wits :: p.liars :: (p.claims.flatMap (fun c => [c.wit, c.a.num, c.b.num]) ++ p.known.map fun w => w.num)
theorem gdHr.g {p : HrS} {k : Nat} (h : gdHr p k) (hk : k ≤ 2000) (hs : sml (hrN p)) : HrG p :=
  have hc : ∀ c ∈ p.claims, ∀ n ∈ [c.wit, c.a.num, c.b.num], n ∈ hrN p := fun c hc n hn => List.mem_cons_of_mem _ (List.mem_cons_of_mem _ (List.mem_cons_of_mem _ (List.mem_append_left _ (List.mem_flatMap.2 ⟨c, hc, hn⟩))))
  ⟨hs.rg (by simp [hrN]) h.facts, hs.rg (by simp [hrN]) h.wits, hs.rg (by simp [hrN]) h.liars, fun c h' => ⟨hs.rg (hc c h' _ (by simp)) (h.claims c h').1, hs.rg (hc c h' _ (by simp)) (h.claims c h').2.1, hs.rg (hc c h' _ (by simp)) (h.claims c h').2.2⟩, fun w hw => hs.rg (List.mem_cons_of_mem _ (List.mem_cons_of_mem _ (List.mem_cons_of_mem _ (List.mem_append_right _ (List.mem_map.2 ⟨w, hw, rfl⟩))))) (h.known w hw), by have := h.n3; omega, by have := h.n4; omega⟩
theorem wordL_rg {y : BL} {w : Wd} (h : wordL y = some w) : rp w.num := by
  unfold wordL at h
  simp only at h
  split at h
  · obtain ⟨n, hn, rfl⟩ := Option.map_eq_some_iff.1 h
    exact fig_rg hn
  · split at h
    · obtain ⟨n, hn, rfl⟩ := Option.map_eq_some_iff.1 h
      exact fig_rg hn
    · cases h
theorem nextW_rg {ps r : List BL} {x : Wd} (h : nextW ps = some (x, r)) : rp x.num := by
  cases ps with
  | nil => cases h
  | cons y q =>
    obtain ⟨m, hm, e⟩ := Option.map_eq_some_iff.1 h
    cases e
    exact wordL_rg hm
theorem wd_one (w : Wd) : ∀ v ∈ wd3 w, oneCell v = true := by
  intro v hv
  simp only [wd3, List.mem_cons, List.not_mem_nil, or_false] at hv
  rcases hv with rfl | rfl | rfl <;> rfl
theorem cl_one (c : Cl) : ∀ v ∈ cl8 c, oneCell v = true := by
  intro v hv
  simp only [cl8, List.mem_cons, List.not_mem_nil, or_false] at hv
  rcases hv with rfl | rfl | rfl | rfl | rfl | rfl | rfl | rfl <;> rfl
/-- The kind of a word, of the first k words of kinds. -/
def kindTo (w : BL) : Nat → Int
  | 0 => -1
  | k + 1 => if kindT (k : Int) = w then (k : Int) else kindTo w k
theorem kindTo3 (w : BL) : kindTo w 3 = kindL w := rfl
/-- A variable of several cells. -/
def CC (s : Hp) (C : Nat) (l : List Value) : Prop := ∀ i v, l[i]? = some v → Own s ⟨C, i, none⟩ v
theorem CC.kp {D : Nat → Prop} {s s' : Hp} {C : Nat} {l : List Value} (k : Kp D s s') (h : CC s C l) (hd : ¬ D C) : CC s' C l := fun i v hv => k.own hd (h i v hv)
theorem CC.ext {s s' : Hp} {C : Nat} {l : List Value} (e : Ext s s') (h : CC s C l) : CC s' C l := fun i v hv => e.own (h i v hv)
theorem cc_wr {s : Hp} {C i : Nat} {l : List Value} {v : Value} {K : Hp → Prop} (h : CC s C l) (hi : i < l.length) (h1 : oneCell v = true) (hk : ∀ s', Kp (· = C) s s' → s'.size = s.size → CC s' C (l.set i v) → K s') : WR ⟨C, i, none⟩ v K s := by
  refine wr1k (h i _ (List.getElem?_eq_getElem hi)) h1 fun s1 k1 z1 o1 kk => hk s1 k1 z1 fun j w hj => ?_
  by_cases e : i = j
  · subst e
    rw [List.getElem?_set_self hi] at hj
    cases hj
    exact o1
  · rw [List.getElem?_set_ne e] at hj
    exact kk ⟨C, j, none⟩ w (.inr (fun e' => e e'.symm)) (h j w hj)
section
variable {W : World} {s : Hp} {K : VK} {E : List PanicEntry → Hp → Prop} {B : Nat}
theorem hr_hearing {z u V q k : Nat} {a : Addr} {r : List BL} {p : HrS} (hst : StHr B z u s p) (h : StepP z u s B V a q r) (g : gdHr p k)
    (hB : hrStep p (b_hearing :: r) = none → Big) (h0 : hrStep p (b_hearing :: r) = none → ∀ s', Kp (StepC a.block B z) s s' → E (MF 8) s') (h1 : ∀ p' s', hrStep p (b_hearing :: r) = some p' → gdHr p' (k + 1) → Kp (StepC a.block B z) s s' → StHr B z s'.size s' p' → K (.tuple #[]) s') :
    CALLV Pg W (.func (.func 235) #[] #[.pointer (some ⟨V, 0, none⟩)]) [.pointer (some a)] K E s := by
  refine CALLV_func ?_
  refine does_book_hearing_begins_c1 W (some a) ⟨V, 0, none⟩ _ s ?_
  unfold T_book_hearing_begins_c1
  have hp : hrStep p (b_hearing :: r) = (nextN r).bind fun x => (nextN x.2).bind fun y => (nextN y.2).map fun z => { p with facts := x.1, wits := y.1, liars := z.1 } := by unfold hrStep; dsimp only; rw [if_pos rfl]
  have hBu : B < u := by have := h.BV; have := h.Vz; have := h.zu; omega
  have hBz : B < z := by have := h.BV; have := h.Vz; omega
  have hBa : ¬ B = a.block := by have := h.ua; omega
  have hVB : ¬ V = B := by have := h.BV; omega
  obtain ⟨x3, c3, x4, c4, ⟨q0, q1, q2⟩, L3, L4, dj⟩ := hst
  refine ⟨_, h.cV, _, h.cV, _, h.cV, ?_⟩
  refine c_number h.row h.env h.ra (fun hn => hB (by rw [hp, hn]; rfl)) (fun hn s1 k1 => h0 (by rw [hp, hn]; rfl) s1 (stepC_row k1)) (fun n1 r1 s1 hn k1 rr1 => ?_)
  try simp only [TUP_mk, AGG_mk, HD_mk, NL_mk, TYI_mk, TYB_mk, TYP_mk, TYL_mk, TYS_mk, TYM_mk, SO_mk, NX_mk, endK_mk, endK_mk', add_0]
  have cV1 := h.cVa k1
  refine ANDS_i ⟨_, cV1, rfl⟩ (ANDS_i ⟨_, cV1, rfl⟩ (ANDS_i ⟨_, cV1, rfl⟩ ?_))
  refine c_number rr1 (h.env.row h.ra k1) h.ra (fun hn2 => hB (by rw [hp, hn]; simp only [Option.bind_some, hn2]; rfl)) (fun hn2 s2 k2 => h0 (by rw [hp, hn]; simp only [Option.bind_some, hn2]; rfl) s2 (stepC_row (k1.trans k2))) (fun n2 r2 s2 hn2 k2 rr2 => ?_)
  try simp only [TUP_mk, AGG_mk, HD_mk, NL_mk, TYI_mk, TYB_mk, TYP_mk, TYL_mk, TYS_mk, TYM_mk, SO_mk, NX_mk, endK_mk, endK_mk', add_0]
  have k12 := k1.trans k2
  have cV2 := h.cVa k12
  refine ANDS_i ⟨_, cV2, rfl⟩ (ANDS_i ⟨_, cV2, rfl⟩ (ANDS_i ⟨_, cV2, rfl⟩ ?_))
  refine c_number rr2 (h.env.row h.ra k12) h.ra (fun hn3 => hB (by rw [hp, hn]; simp only [Option.bind_some, hn2, hn3]; rfl)) (fun hn3 s3 k3 => h0 (by rw [hp, hn]; simp only [Option.bind_some, hn2, hn3]; rfl) s3 (stepC_row (k12.trans k3))) (fun n3 r3 s3 hn3 k3 rr3 => ?_)
  try simp only [TUP_mk, AGG_mk, HD_mk, NL_mk, TYI_mk, TYB_mk, TYP_mk, TYL_mk, TYS_mk, TYM_mk, SO_mk, NX_mk, endK_mk, endK_mk', add_0]
  have k13 := k12.trans k3
  have cV3 := h.cVa k13
  refine ANDS_i ⟨_, cV3, rfl⟩ (ANDS_i ⟨_, cV3, rfl⟩ (ANDS_i ⟨_, cV3, rfl⟩ ?_))
  refine wr1k (a := ⟨B, 0, none⟩) (k13.own hBa q0) rfl fun s4 k4 z4 w0 kk4 => ?_
  have cV4 := k4.cell (a := ⟨V, 0, none⟩) hVB cV3
  refine ANDS_i ⟨_, cV4, rfl⟩ (ANDS_i ⟨_, cV4, rfl⟩ ?_)
  try simp only [TUP_mk, AGG_mk, HD_mk, NL_mk, TYI_mk, TYB_mk, TYP_mk, TYL_mk, TYS_mk, TYM_mk, SO_mk, NX_mk, endK_mk, endK_mk', add_0]
  refine wr1k (a := ⟨B, 1, none⟩) (kk4 ⟨B, 1, none⟩ _ (.inr (by show 1 ≠ 0; omega)) (k13.own hBa q1)) rfl fun s5 k5 z5 w1 kk5 => ?_
  have cV5 := k5.cell (a := ⟨V, 0, none⟩) hVB cV4
  refine ANDS_i ⟨_, cV5, rfl⟩ ?_
  try simp only [TUP_mk, AGG_mk, HD_mk, NL_mk, TYI_mk, TYB_mk, TYP_mk, TYL_mk, TYS_mk, TYM_mk, SO_mk, NX_mk, endK_mk, endK_mk', add_0]
  refine wr1k (a := ⟨B, 2, none⟩) (kk5 ⟨B, 2, none⟩ _ (.inr (by show 2 ≠ 1; omega)) (kk4 ⟨B, 2, none⟩ _ (.inr (by show 2 ≠ 0; omega)) (k13.own hBa q2))) rfl fun s6 k6 z6 w2 kk6 => ?_
  try simp only [TUP_mk, AGG_mk, HD_mk, NL_mk, TYI_mk, TYB_mk, TYP_mk, TYL_mk, TYS_mk, TYM_mk, SO_mk, NX_mk, endK_mk, endK_mk', add_0]
  have k46 : Kp (· = B) s3 s6 := (k4.trans k5).trans k6
  have keep : ∀ i v, i ≠ 0 → i ≠ 1 → i ≠ 2 → Own s3 ⟨B, i, none⟩ v → Own s6 ⟨B, i, none⟩ v := fun i v i0 i1 i2 ho => kk6 ⟨B, i, none⟩ v (.inr i2) (kk5 ⟨B, i, none⟩ v (.inr i1) (kk4 ⟨B, i, none⟩ v (.inr i0) ho))
  have hs6 : u ≤ s6.size := by have := h.us; have := k13.1; have := k46.1; omega
  refine h1 { p with facts := n1, wits := n2, liars := n3 } s6 (by rw [hp, hn]; simp only [Option.bind_some, hn2, hn3]; rfl) ⟨nextN_rg hn, nextN_rg hn2, nextN_rg hn3, g.claims, g.known, by have := g.n3; show p.claims.length ≤ k + 1; omega, by have := g.n4; show p.known.length ≤ k + 1; omega⟩ ((stepC_row k13).trans (stepC_B k46)) ⟨x3, c3, x4, c4, ⟨?_, ?_, w2⟩, ?_, ?_, dj⟩
  · exact kk6 ⟨B, 0, none⟩ _ (.inr (by show 0 ≠ 2; omega)) (kk5 ⟨B, 0, none⟩ _ (.inr (by show 0 ≠ 1; omega)) w0)
  · exact kk6 ⟨B, 1, none⟩ _ (.inr (by show 1 ≠ 2; omega)) w1
  · exact ((L3.row k13 h.ua hBu).wr k46 hBz (fun v hv => keep 3 v (by omega) (by omega) (by omega) hv)).up hs6
  · exact ((L4.row k13 h.ua hBu).wr k46 hBz (fun v hv => keep 4 v (by omega) (by omega) (by omega) hv)).up hs6
theorem hr_knownS {z u V q k : Nat} {a : Addr} {r : List BL} {p : HrS} (hst : StHr B z u s p) (h : StepP z u s B V a q r) (g : gdHr p k) (hk : k ≤ 2000)
    (hB : hrStep p (b_known :: r) = none → Big) (h0 : hrStep p (b_known :: r) = none → ∀ s', Kp (StepC a.block B z) s s' → E (MF 8) s') (h1 : ∀ p' s', hrStep p (b_known :: r) = some p' → gdHr p' (k + 1) → Kp (StepC a.block B z) s s' → StHr B z s'.size s' p' → K (.tuple #[]) s') :
    CALLV Pg W (.func (.func 236) #[] #[.pointer (some ⟨V, 0, none⟩)]) [.pointer (some a)] K E s := by
  refine CALLV_func ?_
  refine does_book_hearing_begins_c2 W (some a) ⟨V, 0, none⟩ _ s ?_
  unfold T_book_hearing_begins_c2
  have hp : hrStep p (b_known :: r) = (nextW r).map fun x => { p with known := p.known ++ [x.1] } := by unfold hrStep; dsimp only; rw [if_neg b_kh, if_pos rfl]
  have hBu : B < u := by have := h.BV; have := h.Vz; have := h.zu; omega
  have hBz : B < z := by have := h.BV; have := h.Vz; omega
  have hBa : ¬ B = a.block := by have := h.ua; omega
  have hg1 := g.n4
  obtain ⟨x3, c3, x4, c4, ⟨q0, q1, q2⟩, L3, L4, dj⟩ := hst
  refine ⟨_, h.cV, _, h.cV, ?_⟩
  try simp only [TUP_mk, AGG_mk, HD_mk, NL_mk, TYI_mk, TYB_mk, TYP_mk, TYL_mk, TYS_mk, TYM_mk, SO_mk, NX_mk, endK_mk, endK_mk', add_0]
  refine ⟨_, _, _, L4.own.cell, ?_⟩
  refine c_word h.row h.env h.ra (fun hn => hB (by rw [hp, hn]; rfl)) (fun hn s1 k1 => h0 (by rw [hp, hn]; rfl) s1 (stepC_row k1)) (fun w r1 s1 hn k1 rr1 => ?_)
  unfold wdV
  try simp only [TUP_mk, AGG_mk, HD_mk, NL_mk, TYI_mk, TYB_mk, TYP_mk, TYL_mk, TYS_mk, TYM_mk, SO_mk, NX_mk, endK_mk, endK_mk', add_0]
  have M3 := L3.row k1 h.ua hBu
  have M4 := L4.row k1 h.ua hBu
  have cV1 := h.cVa k1
  refine ANDS_i ⟨_, _, _, M4.own.cell, rfl⟩ (ANDS_i ⟨_, cV1, rfl⟩ (ANDS_i ⟨_, cV1, rfl⟩ ?_))
  refine NEW_rule fun s3 e3 z3 o3 _ => ?_
  have M3 := M3.ext e3
  have M4 := M4.ext e3
  have cV3 := e3.cell cV1
  refine ANDS_i ⟨_, _, _, M4.own.cell, rfl⟩ (ANDS_i ⟨_, cV3, rfl⟩ (ANDS_i ⟨_, cV3, rfl⟩ ?_))
  have hu3 : u ≤ s3.size := by have := h.us; have := k1.1; have := e3.1; omega
  have hps : hrStep p (b_known :: r) = some { p with known := p.known ++ [w] } := by rw [hp, hn]; rfl
  refine lst_app (ws := wd3 w) M4 hBz h.zu hu3 (row_new' o3) rfl (wd_one _) zc_79 rfl (by omega) (by omega) fun s4 x' c' k4 o4 f4 hd4 => ?_
  have kz : ∀ b, (∃ a, x4 = some a ∧ a.block = b) → z ≤ b := fun b ⟨a', g1, g2⟩ => by rw [← g2]; exact M4.f.fr.fr a' g1
  have cV4 := k4.cell (a := ⟨V, 0, none⟩) (fun hh => by have h9 : z ≤ V := kz _ hh; have := h.Vz; omega) cV3
  refine ANDS_i ⟨_, cV4, rfl⟩ ?_
  have K34 : Kp (StepC a.block B z) s s4 := stepC_new ((stepC_row k1).ext e3) k4 kz
  have hB4 : ¬ ∃ a, x4 = some a ∧ a.block = B := fun hh => by have h9 : z ≤ B := kz _ hh; omega
  have N3 := M3.kp k4 hB4 (fun b hb ⟨a', g1, g2⟩ => dj b a' hb g1 g2.symm)
  have q0' := k4.own (a := ⟨B, 0, none⟩) hB4 (e3.own (k1.own hBa q0))
  have q1' := k4.own (a := ⟨B, 1, none⟩) hB4 (e3.own (k1.own hBa q1))
  have q2' := k4.own (a := ⟨B, 2, none⟩) hB4 (e3.own (k1.own hBa q2))
  refine lst_wr (j := 4) o4 f4 hBz fun s5 k5 z5 L5 kk5 => ?_
  try simp only [TUP_mk, AGG_mk, HD_mk, NL_mk, TYI_mk, TYB_mk, TYP_mk, TYL_mk, TYS_mk, TYM_mk, SO_mk, NX_mk, endK_mk, endK_mk', add_0]
  have hs5 : u ≤ s5.size := by have := hu3; have := k4.1; have := k5.1; omega
  refine h1 _ s5 hps ⟨g.facts, g.wits, g.liars, g.claims, fun x hx => ?_, by have := g.n3; show p.claims.length ≤ k + 1; omega, by simp; omega⟩ (K34.trans (stepC_B k5)) ⟨x3, c3, x', c', ⟨kk5 0 _ (by omega) q0', kk5 1 _ (by omega) q1', kk5 2 _ (by omega) q2'⟩, ?_, ?_, ?_⟩
  · rcases List.mem_append.1 hx with hx | hx
    · exact g.known x hx
    · rw [List.mem_singleton] at hx; subst hx; exact nextW_rg hn
  · exact (N3.wr k5 hBz (fun v hv => kk5 3 v (by omega) hv)).up hs5
  · have hl : (p.known ++ [w]).length = p.known.length + 1 := by simp
    rw [z5]
    show Lst z s4.size s5 B 4 x' (p.known ++ [w]).length c' 3 ((p.known ++ [w]).flatMap wd3)
    rw [hl, flat_snoc]
    exact L5
  · exact (hd4 x3 (fun b hb => by have := M3.f.lt b hb; omega) dj.symm).symm
/-- The claim is laid behind the others. -/
theorem hr_last {z u : Nat} {p : HrS} {C : Nat} {c : Cl} {s0 : Hp} {a : Addr} (hst : StHr B z u s p) (hzu : z ≤ u) (hu : u ≤ s.size) (hBz : B < z) (hn3 : p.claims.length ≤ 2000) (cc : CC s C (cl8 c)) (K0 : Kp (StepC a.block B z) s0 s)
    (h1 : ∀ s', Kp (StepC a.block B z) s0 s' → StHr B z s'.size s' { p with claims := p.claims ++ [c] } → K (.tuple #[]) s') : J_book_hearing_other_1 W (endK K E) (some ⟨B, 0, none⟩) ⟨C, 0, none⟩ s := by
  unfold J_book_hearing_other_1
  obtain ⟨x3, c3, x4, c4, ⟨q0, q1, q2⟩, L3, L4, dj⟩ := hst
  try simp only [TUP_mk, AGG_mk, HD_mk, NL_mk, TYI_mk, TYB_mk, TYP_mk, TYL_mk, TYS_mk, TYM_mk, SO_mk, NX_mk, endK_mk, endK_mk', add_0]
  refine ⟨_, _, _, L3.own.cell, ?_⟩
  refine ⟨_, (cc 0 _ rfl).cell, _, (cc 1 _ rfl).cell, _, (cc 2 _ rfl).cell, _, (cc 3 _ rfl).cell, _, (cc 4 _ rfl).cell, _, (cc 5 _ rfl).cell, _, (cc 6 _ rfl).cell, _, (cc 7 _ rfl).cell, ?_⟩
  refine NEW_rule fun s3 e3 z3 o3 _ => ?_
  have M3 := L3.ext e3
  have M4 := L4.ext e3
  refine ANDS_i ⟨_, _, _, M3.own.cell, rfl⟩ ?_
  have hu3 : u ≤ s3.size := by have := e3.1; omega
  refine lst_app (ws := cl8 c) M3 hBz hzu hu3 (row_new' o3) rfl (cl_one _) zc_122 rfl (by omega) (by omega) fun s4 x' c' k4 o4 f4 hd4 => ?_
  have kz : ∀ b, (∃ a, x3 = some a ∧ a.block = b) → z ≤ b := fun b ⟨a', g1, g2⟩ => by rw [← g2]; exact M3.f.fr.fr a' g1
  have K34 : Kp (StepC a.block B z) s0 s4 := stepC_new (K0.ext e3) k4 kz
  have hB4 : ¬ ∃ a, x3 = some a ∧ a.block = B := fun hh => by have h9 : z ≤ B := kz _ hh; omega
  have N4 := M4.kp k4 hB4 (fun b hb ⟨a', g1, g2⟩ => dj a' b g1 hb g2)
  have q0' := k4.own (a := ⟨B, 0, none⟩) hB4 (e3.own q0)
  have q1' := k4.own (a := ⟨B, 1, none⟩) hB4 (e3.own q1)
  have q2' := k4.own (a := ⟨B, 2, none⟩) hB4 (e3.own q2)
  try simp only [TUP_mk, AGG_mk, HD_mk, NL_mk, TYI_mk, TYB_mk, TYP_mk, TYL_mk, TYS_mk, TYM_mk, SO_mk, NX_mk, endK_mk, endK_mk', add_0]
  refine lst_wr (j := 3) o4 f4 hBz fun s5 k5 z5 L5 kk5 => ?_
  try simp only [TUP_mk, AGG_mk, HD_mk, NL_mk, TYI_mk, TYB_mk, TYP_mk, TYL_mk, TYS_mk, TYM_mk, SO_mk, NX_mk, endK_mk, endK_mk', add_0]
  have hs5 : u ≤ s5.size := by have := hu3; have := k4.1; have := k5.1; omega
  refine h1 s5 (K34.trans (stepC_B k5)) ⟨x', c', x4, c4, ⟨kk5 0 _ (by omega) q0', kk5 1 _ (by omega) q1', kk5 2 _ (by omega) q2'⟩, ?_, ?_, ?_⟩
  · have hl : (p.claims ++ [c]).length = p.claims.length + 1 := by simp
    rw [z5]
    show Lst z s4.size s5 B 3 x' (p.claims ++ [c]).length c' 8 ((p.claims ++ [c]).flatMap cl8)
    rw [hl, flat_snoc]
    exact L5
  · exact (N4.wr k5 hBz (fun v hv => kk5 4 v (by omega) hv)).up hs5
  · exact hd4 x4 (fun b hb => by have := M4.f.lt b hb; omega) dj
theorem StHr.keep {z u : Nat} {s s' : Hp} {p : HrS} (h : StHr B z u s p) (hs : s.size ≤ s'.size) (hk : ∀ b, b < s.size → (b = B ∨ (z ≤ b ∧ b < u)) → s'[b]? = s[b]?) : StHr B z u s' p := by
  obtain ⟨x3, c3, x4, c4, ⟨q0, q1, q2⟩, L3, L4, dj⟩ := h
  have o : ∀ i v, Own s ⟨B, i, none⟩ v → Own s' ⟨B, i, none⟩ v := fun i v o0 => ⟨by rw [cell_of_block (hk B o0.lt (.inl rfl))]; exact o0.1, by rw [frozen_of_block (hk B o0.lt (.inl rfl))]; exact o0.2⟩
  exact ⟨x3, c3, x4, c4, ⟨o _ _ q0, o _ _ q1, o _ _ q2⟩, L3.keep hs hk, L4.keep hs hk, dj⟩
theorem hr_claim {z u V q k : Nat} {a : Addr} {f : BL} {r : List BL} {p : HrS} (hst : StHr B z u s p) (h : StepP z u s B V a q r) (g : gdHr p k) (hk : k ≤ 2000) (hf : f.length ≤ 100000) (n1 : f ≠ b_hearing) (n2 : f ≠ b_known)
    (hB : hrStep p (f :: r) = none → Big) (h0 : hrStep p (f :: r) = none → ∀ s', Kp (StepC a.block B z) s s' → E (MF 8) s') (h1 : ∀ p' s', hrStep p (f :: r) = some p' → gdHr p' (k + 1) → Kp (StepC a.block B z) s s' → StHr B z s'.size s' p' → K (.tuple #[]) s') :
    CALL Pg W F_book_hearing_other [.pointer (some ⟨B, 0, none⟩), .string (bs f), .pointer (some a)] K E s := by
  refine does_book_hearing_other W _ (bs f) (some a) _ s ?_
  unfold T_book_hearing_other
  have hp : hrStep p (f :: r) = (claimL f r).map fun c => { p with claims := p.claims ++ [c] } := by unfold hrStep; dsimp only; rw [if_neg n1, if_neg n2]
  have hBu : B < u := by have := h.BV; have := h.Vz; have := h.zu; omega
  have hBz : B < z := by have := h.BV; have := h.Vz; omega
  have hBa : ¬ B = a.block := by have := h.ua; omega
  have hg3 := g.n3
  have hus := h.us
  have hua := h.ua
  have huq := h.uq
  have hzu := h.zu
  refine c_figure (by omega) h.env (fun hn => hB (by rw [hp]; unfold claimL; rw [hn]; rfl)) (fun hn s1 e1 => h0 (by rw [hp]; unfold claimL; rw [hn]; rfl) s1 e1.kp) (fun n s1 hn e1 => ?_)
  try simp only [TUP_mk, AGG_mk, HD_mk, NL_mk, TYI_mk, TYB_mk, TYP_mk, TYL_mk, TYS_mk, TYM_mk, SO_mk, NX_mk, endK_mk, endK_mk', add_0]
  refine nw8 zc_122 rfl (by simp [oneCell]) fun s2 e2 z2 o => ?_
  have e12 := e1.trans e2
  have cc2 : CC s2 s1.size (cl8 ⟨n, kindTo [] 0, wd0, wd0⟩) := fun i v hv => by
    have hi : i < 8 := (List.getElem?_eq_some_iff.1 hv).1
    have := o i hi
    have e : ([.int .i64 n, .int .i64 (-1), .bool false, .int .i64 0, .bool false, .bool false, .int .i64 0, .bool false] : List Value)[i]'hi = v := by
      have hv' : ([.int .i64 n, .int .i64 (-1), .bool false, .int .i64 0, .bool false, .bool false, .int .i64 0, .bool false] : List Value)[i]? = some v := hv
      rw [List.getElem?_eq_getElem hi] at hv'
      exact Option.some.inj hv'
    rw [← e]; exact this
  have hs12 := e1.1
  have row2 := h.row.ext e12
  have hclaim : claimL f r = match r with
      | [] => none
      | w :: r => (nextW r).bind fun x => if kindL w = 0 then some ⟨n, kindL w, x.1, wd0⟩ else (nextW x.2).map fun y => ⟨n, kindL w, x.1, y.1⟩ := by unfold claimL; rw [hn]; rfl
  have halt := h.row.alt
  have hqlt := h.row.lt
  refine c_part row2 (fun hnil => h0 (by rw [hp, hclaim, hnil]; rfl) s2 e12.kp) (fun w r' s3 hr k3 z3 rr3 => ?_)
  subst hr
  try simp only [TUP_mk, AGG_mk, HD_mk, NL_mk, TYI_mk, TYB_mk, TYP_mk, TYL_mk, TYS_mk, TYM_mk, SO_mk, NX_mk, endK_mk, endK_mk', add_0]
  refine c_kinds fun s4 e4 => ?_
  try simp only [TUP_mk, AGG_mk, HD_mk, NL_mk, TYI_mk, TYB_mk, TYP_mk, TYL_mk, TYS_mk, TYM_mk, SO_mk, NX_mk, endK_mk, endK_mk', add_0]
  have hCa : ¬ s1.size = a.block := by omega
  have hCB : ¬ B = s1.size := by omega
  have K4 : Kp (StepC a.block B z) s s4 := (e12.kp.trans (stepC_row k3)).ext e4
  have cc4 : CC s4 s1.size (cl8 ⟨n, kindTo w 0, wd0, wd0⟩) := (cc2.kp k3 hCa).ext e4
  have rr4 := rr3.ext e4
  have st4 : StHr B z u s4 p := by
    refine hst.keep K4.1 fun b hb hb' => ?_
    rw [e4.2 b (Nat.lt_of_lt_of_le hb (Nat.le_trans e12.1 k3.1)), k3.2 b (Nat.lt_of_lt_of_le hb e12.1) (fun hh => by have h' : b = a.block := hh; omega)]
    exact e12.2 b hb
  have en4 : Env s4 := (((h.env.ext e12).row h.ra k3)).ext e4
  refine L_book_hearing_other_0_rule W (endK K E) _ _ _ _ _ _ _ (fun m s' => ∃ j : Nat, m = (j : Int) ∧ j ≤ 3 ∧ CC s' s1.size (cl8 ⟨n, kindTo w j, wd0, wd0⟩) ∧ Kp (· = s1.size) s4 s') (fun m s' => 3 - m.toNat) _ s4 ⟨0, rfl, by omega, cc4, Kp.refl _⟩ ?_
  rintro m s5 ⟨j, rfl, hj, cc5, k5⟩
  unfold B_book_hearing_other_0
  have K5 : Kp (StepC a.block B z) s s5 := kp_trans K4 k5 (fun b hb => .inr (by have h' : b = s1.size := hb; omega))
  have rr5 := rr4.kp k5 (fun hh => hCa hh.symm) (fun hh => by have h' : q = s1.size := hh; omega)
  have h14 : s1.size < s4.size := by have := e4.1; have := k3.1; omega
  have st5 : StHr B z u s5 p := st4.keep k5.1 fun b hb hb' => k5.2 b hb (fun hh => by have h' : b = s1.size := hh; omega)
  have en5 : Env s5 := en4.kp k5 (fun b hb => by have h' : b = s1.size := hb; have := h.B8; omega)
  refine BR_dec (fun hlt => ?_) (fun hge => ?_)
  · refine IXG_k (by omega) ?_
    try simp only [TUP_mk, AGG_mk, HD_mk, NL_mk, TYI_mk, TYB_mk, TYP_mk, TYL_mk, TYS_mk, TYM_mk, SO_mk, NX_mk, endK_mk, endK_mk', add_0]
    rw [seq_bs]
    have ms : 3 - (IntKind.wrap .i64 ((j : Int) + 1)).toNat < 3 - ((j : Nat) : Int).toNat := ms_k (n := 3) (by omega) (by omega)
    refine BR_dec (fun he => ?_) (fun he => ?_)
    · refine cc_wr (i := 1) cc5 (show 1 < 8 by omega) rfl fun s6 k6 z6 cc6 => ?_
      unfold J_book_hearing_other_0
      try simp only [TUP_mk, AGG_mk, HD_mk, NL_mk, TYI_mk, TYB_mk, TYP_mk, TYL_mk, TYS_mk, TYM_mk, SO_mk, NX_mk, endK_mk, endK_mk', add_0]
      refine ⟨_, rfl, ⟨j + 1, wr_k (by omega), by omega, ?_, k5.trans k6⟩, ms⟩
      have ek : kindTo w (j + 1) = (j : Int) := if_pos he
      rw [ek]
      exact cc6
    · unfold J_book_hearing_other_0
      try simp only [TUP_mk, AGG_mk, HD_mk, NL_mk, TYI_mk, TYB_mk, TYP_mk, TYL_mk, TYS_mk, TYM_mk, SO_mk, NX_mk, endK_mk, endK_mk', add_0]
      refine ⟨_, rfl, ⟨j + 1, wr_k (by omega), by omega, ?_, k5⟩, ms⟩
      have ek : kindTo w (j + 1) = kindTo w j := if_neg he
      rw [ek]
      exact cc5
  · have hj3 : j = 3 := by omega
    subst hj3
    rw [kindTo3] at cc5
    refine c_word rr5 en5 h.ra (fun hnw => hB (by rw [hp, hclaim]; simp only [hnw]; rfl)) (fun hnw s6 k6 => h0 (by rw [hp, hclaim]; simp only [hnw]; rfl) s6 (K5.trans (stepC_row k6))) (fun x r1 s6 hnw k6 rr6 => ?_)
    unfold wdV
    try simp only [TUP_mk, AGG_mk, HD_mk, NL_mk, TYI_mk, TYB_mk, TYP_mk, TYL_mk, TYS_mk, TYM_mk, SO_mk, NX_mk, endK_mk, endK_mk', add_0]
    have cc6 := cc5.kp k6 hCa
    refine cc_wr (i := 2) cc6 (show 2 < 8 by omega) rfl fun s7 k7 z7 cc7 => ?_
    refine cc_wr (i := 3) cc7 (show 3 < 8 by omega) rfl fun s8 k8 z8 cc8 => ?_
    refine cc_wr (i := 4) cc8 (show 4 < 8 by omega) rfl fun s9 k9 z9 cc9 => ?_
    have cc9' : CC s9 s1.size (cl8 ⟨n, kindL w, x, wd0⟩) := cc9
    have k69 : Kp (· = s1.size) s6 s9 := (k7.trans k8).trans k9
    have h15 : s.size ≤ s1.size := e1.1
    have K6 : Kp (StepC a.block B z) s s6 := K5.trans (stepC_row k6)
    have K9 : Kp (StepC a.block B z) s s9 := kp_trans K6 k69 (fun b hb => .inr (by have h' : b = s1.size := hb; omega))
    have hsz5 : s4.size ≤ s5.size := k5.1
    have st6 : StHr B z u s6 p := st5.keep k6.1 fun b hb hb' => k6.2 b hb (fun hh => by have h' : b = a.block := hh; omega)
    have st9 : StHr B z u s9 p := st6.keep k69.1 fun b hb hb' => k69.2 b hb (fun hh => by have h' : b = s1.size := hh; omega)
    have en6 : Env s6 := en5.row h.ra k6
    have en9 : Env s9 := en6.kp k69 (fun b hb => by have h' : b = s1.size := hb; have := h.B8; omega)
    have rr9 := rr6.kp k69 (fun hh => hCa hh.symm) (fun hh => by have h' : q = s1.size := hh; omega)
    refine ⟨_, (cc9' 1 _ rfl).cell, ?_⟩
    have hu9 : u ≤ s9.size := by have := K9.1; omega
    have gfin : ∀ c : Cl, rp c.wit → rp c.a.num → rp c.b.num → gdHr { p with claims := p.claims ++ [c] } (k + 1) := fun c r1 r2 r3 => ⟨g.facts, g.wits, g.liars, fun y hy => by
      rcases List.mem_append.1 hy with hy | hy
      · exact g.claims y hy
      · rw [List.mem_singleton] at hy; subst hy; exact ⟨r1, r2, r3⟩, g.known, by simp; omega, by have := g.n4; show p.known.length ≤ k + 1; omega⟩
    have r0 : rp (wd0.num) := by unfold rp wd0; simp
    refine BR_ne (fun hk0 => ?_) (fun hk0 => ?_)
    · have hk0' : ¬ kindL w = 0 := hk0
      refine c_word rr9 en9 h.ra (fun hnw2 => hB (by rw [hp, hclaim]; simp only [hnw, Option.bind_some]; rw [if_neg hk0', hnw2]; rfl)) (fun hnw2 s10 k10 => h0 (by rw [hp, hclaim]; simp only [hnw, Option.bind_some]; rw [if_neg hk0', hnw2]; rfl) s10 (K9.trans (stepC_row k10))) (fun y r2 s10 hnw2 k10 rr10 => ?_)
      unfold wdV
      try simp only [TUP_mk, AGG_mk, HD_mk, NL_mk, TYI_mk, TYB_mk, TYP_mk, TYL_mk, TYS_mk, TYM_mk, SO_mk, NX_mk, endK_mk, endK_mk', add_0]
      have cc10 := cc9'.kp k10 hCa
      refine cc_wr (i := 5) cc10 (show 5 < 8 by omega) rfl fun s11 k11 z11 cc11 => ?_
      refine cc_wr (i := 6) cc11 (show 6 < 8 by omega) rfl fun s12 k12 z12 cc12 => ?_
      refine cc_wr (i := 7) cc12 (show 7 < 8 by omega) rfl fun s13 k13 z13 cc13 => ?_
      have cc13' : CC s13 s1.size (cl8 ⟨n, kindL w, x, y⟩) := cc13
      have kt : Kp (· = s1.size) s10 s13 := (k11.trans k12).trans k13
      have K10 : Kp (StepC a.block B z) s s10 := K9.trans (stepC_row k10)
      have K13 : Kp (StepC a.block B z) s s13 := kp_trans K10 kt (fun b hb => .inr (by have h' : b = s1.size := hb; omega))
      have st10 : StHr B z u s10 p := st9.keep k10.1 fun b hb hb' => k10.2 b hb (fun hh => by have h' : b = a.block := hh; omega)
      have st13 : StHr B z u s13 p := st10.keep kt.1 fun b hb hb' => kt.2 b hb (fun hh => by have h' : b = s1.size := hh; omega)
      refine hr_last (a := a) (s0 := s) st13 hzu (by have := K13.1; omega) hBz (by omega) cc13' K13 fun s' k' st' => ?_
      exact h1 _ s' (by rw [hp, hclaim]; simp only [hnw, Option.bind_some]; rw [if_neg hk0', hnw2]; rfl) (gfin _ (fig_rg hn) (nextW_rg hnw) (nextW_rg hnw2)) k' st'
    · have hk0' : kindL w = 0 := hk0
      refine hr_last (a := a) (s0 := s) st9 hzu hu9 hBz (by omega) cc9' K9 fun s' k' st' => ?_
      exact h1 _ s' (by rw [hp, hclaim]; simp only [hnw, Option.bind_some]; rw [if_pos hk0']; rfl) (gfin _ (fig_rg hn) (nextW_rg hnw) r0) k' st'
theorem StHr.c {z u : Nat} {p : HrS} (h : StHr B z u s p) : HrC s B p := by
  obtain ⟨x3, c3, x4, c4, ⟨q0, q1, q2⟩, L3, L4, _⟩ := h
  exact ⟨q0.cell, q1.cell, q2.cell, ⟨_, _, L3.own.cell, L3.f.fr.row⟩, ⟨_, _, L4.own.cell, L4.f.fr.row⟩⟩
theorem tblHr_none {V : Nat} {f : BL} (h : tblHr V (bs f) = none) : f ≠ b_hearing ∧ f ≠ b_known := by
  unfold tblHr at h
  refine ⟨?_, ?_⟩ <;> rintro rfl
  · split at h
    · cases h
    · rw [if_pos rfl] at h; cases h
  · rw [if_pos rfl] at h; cases h
theorem fill_hr : FillH W B (.iface 160 (.pointer (some ⟨B, 0, none⟩))) (StHr B) tblHr hrStep hr0 okHr (fun p => if okHr p then txt (hrW p) else []) gdHr (fun p => sml (hrN p)) where
  one := rfl
  keep := fun z u s s' p h hs hk => h.keep hs hk
  up := fun z u u' s p hu ⟨x3, c3, x4, c4, o0, L3, L4, dj⟩ => ⟨x3, c3, x4, c4, o0, L3.up hu, L4.up hu, dj⟩
  begins := fun s K E h => by
    refine inv_of (f := F_book_hearing_begins) (by kernel_rfl) ?_
    refine does_book_hearing_begins W _ _ s ?_
    unfold T_book_hearing_begins
    refine mk_begins fun s2 e2 z2 m2 c2 => ?_
    refine MUP_s m2 fun s3 k3 z3 m3 => ?_
    refine MUP_s m3 fun s4 k4 z4 m4 => ?_
    have hne : ¬ s.size = s.size + 1 := by omega
    refine h s4 (s.size + 1) s.size ?_ m4 (by omega) (Nat.le_refl _) (k4.cell hne (k3.cell hne c2))
    exact ext_kp (ext_kp e2 (by omega) k3) (by omega) k4
  step := fun z u s p V a q f r k K E hst he hr hua huq hzu hVz hBV hB8 hus hf hr3 hg hk cV hB h0 h1 => by
    have H : StepP z u s B V a q r := ⟨he, hr, hua, huq, hzu, hVz, hBV, hB8, hus, hr3, cV⟩
    refine ⟨fun v hv => ?_, fun hn => ?_⟩
    · unfold tblHr at hv
      split at hv
      · rename_i e; cases hv
        have e' := bs_inj e
        subst e'
        exact hr_knownS hst H hg hk hB h0 h1
      · split at hv
        · rename_i e; cases hv
          have e' := bs_inj e
          subst e'
          exact hr_hearing hst H hg hB h0 h1
        · cases hv
    · obtain ⟨n1, n2⟩ := tblHr_none hn
      refine inv_of (f := F_book_hearing_other) (by kernel_rfl) ?_
      exact hr_claim hst H hg hk hf n1 n2 hB h0 h1
  text := fun z u s p k K E hst he hg hk hsm h => by
    refine inv_of (f := F_book_hearing_text) (by kernel_rfl) ?_
    exact c_hearing_text he hst.c (hg.g hk hsm) h
  gd0 := ⟨by unfold rp hr0; simp, by unfold rp hr0; simp, by unfold rp hr0; simp, fun q hq => by simp [hr0] at hq, fun q hq => by simp [hr0] at hq, by simp [hr0], by simp [hr0]⟩
end
end Go.Proofs.YtcjgbanpkmpekaaGreatDoor.G

/- Pegs, panels and hearings: reading and writing. -/
set_option linter.unusedVariables false
set_option linter.unusedSimpArgs false
set_option maxRecDepth 20000
namespace Go.Proofs.YtcjgbanpkmpekaaGreatDoor.G
open Go.V
theorem zc_172 : zc Pg 172 = [.int .i64 0] := by kernel_rfl
theorem zc_39 : zc Pg 39 = [.int .i64 0] := by kernel_rfl
theorem zc_25 : zc Pg 25 = [.int .i64 0, .slice none 0 0, .slice none 0 0] := by kernel_rfl
theorem zc_29 : zc Pg 29 = [.slice none 0 0, .slice none 0 0, .slice none 0 0] := by kernel_rfl
theorem zc_34 : zc Pg 34 = [.int .i64 0, .int .i64 0, .int .i64 0, .slice none 0 0, .slice none 0 0] := by kernel_rfl
theorem ext_74 : isExt Pg 74 = false := by kernel_rfl
theorem ty_0 (K : Hp → Prop) : tyR Pg 0 (.tuple #[]) (fun _ => K) = K := by kernel_rfl
section
variable {W : World} {s : Hp}
theorem caught_none {p : Option Addr} {K : VK} {E : List PanicEntry → Hp → Prop} (h : K (.tuple #[]) s) : CALL Pg W F_book_caught [.nilIface, .pointer p] K E s := by
  refine does_book_caught W .nilIface p _ s ?_
  unfold T_book_caught
  exact h
theorem caught_some {a : Addr} {e : Int} {x : Value} {K : VK} {E : List PanicEntry → Hp → Prop} (ho : Own s a x) (h : ∀ s', Kp (· = a.block) s s' → Own s' a (.int .i64 e) → K (.tuple #[]) s') : CALL Pg W F_book_caught [.iface 172 (.agg #[.int .i64 e]), .pointer (some a)] K E s := by
  refine does_book_caught W _ (some a) _ s ?_
  unfold T_book_caught
  have nile : ∀ (K : Bool → Hp → Prop) (t : TypeId) (v : Value), K false s → NILE (.iface t v) K s := fun K t v h => h
  refine nile _ _ _ (BR_ff rfl (IFC_i (BR_tt rfl ?_)))
  try simp only [TUP_mk, AGG_mk, HD_mk, NL_mk, TYI_mk, TYB_mk, TYP_mk, TYL_mk, TYS_mk, TYM_mk, SO_mk, NX_mk, endK_mk, endK_mk', add_0]
  refine TYC_i ?_
  try simp only [TUP_mk, AGG_mk, HD_mk, NL_mk, TYI_mk, TYB_mk, TYP_mk, TYL_mk, TYS_mk, TYM_mk, SO_mk, NX_mk, endK_mk, endK_mk', add_0]
  refine nw1 zc_172 rfl fun s1 e1 z1 o1 => ?_
  refine ⟨_, o1.cell, ?_⟩
  try simp only [TUP_mk, AGG_mk, HD_mk, NL_mk, TYI_mk, TYB_mk, TYP_mk, TYL_mk, TYS_mk, TYM_mk, SO_mk, NX_mk, endK_mk, endK_mk', add_0]
  refine wr1 (e1.own ho) rfl fun s2 k2 z2 o2 => ?_
  exact h s2 (e1.kp.trans k2) o2
/-- The functions that tell what was caught. -/
def isTold (f : FuncId) : Prop := f = 97 ∨ f = 104 ∨ f = 107
theorem told_any {K : Hp → Prop} {f : FuncId} {a1 : Value} {rec : Option (List PanicEntry)} {v : Value} (hf : isTold f) (hrec : (rec = none ∧ v = .nilIface) ∨ (rec = some [{ v := v, recovered := false }]))
    (h : CALL Pg W 74 [v, a1] (fun v => tyR Pg 0 v fun _ => K) (fun _ => FF) s) : DoesD Pg W f [a1] rec s K := by
  rcases hf with rfl | rfl | rfl
  · exact told2_ok (id := 0) (d := 1) (d2 := 2) (ty := 20) (ty2 := 0) (pos := "book.go:173") (pos2 := "book.go:173") (ats := #[20, 129]) (aft := #[{ on := 0, ground := Go.Ground.data }, { on := 0, ground := Go.Ground.chain }]) Tryz.func97 (by kernel_rfl) (by kernel_rfl) (by kernel_rfl) (show 1 < 3 by decide) (show 0 < 3 by decide) (by decide) ext_74 hrec h
  · exact told2_ok (id := 0) (d := 1) (d2 := 2) (ty := 20) (ty2 := 0) (pos := "book.go:173") (pos2 := "book.go:173") (ats := #[20, 129]) (aft := #[{ on := 0, ground := Go.Ground.data }, { on := 0, ground := Go.Ground.chain }]) Tryz.func104 (by kernel_rfl) (by kernel_rfl) (by kernel_rfl) (show 1 < 3 by decide) (show 0 < 3 by decide) (by decide) ext_74 hrec h
  · exact told2_ok (id := 0) (d := 1) (d2 := 2) (ty := 20) (ty2 := 0) (pos := "book.go:173") (pos2 := "book.go:173") (ats := #[20, 129]) (aft := #[{ on := 0, ground := Go.Ground.data }, { on := 0, ground := Go.Ground.chain }]) Tryz.func107 (by kernel_rfl) (by kernel_rfl) (by kernel_rfl) (show 1 < 3 by decide) (show 0 < 3 by decide) (by decide) ext_74 hrec h
theorem def_none {K : Hp → Prop} {f : FuncId} {a : Addr} (hf : isTold f) (h : K s) : DEF Pg W (.tuple #[.func (.func f) #[] #[.pointer (some a)], .tuple #[]]) none K s := by
  show DoesD Pg W f [.pointer (some a)] none s K
  refine told_any hf (.inl ⟨rfl, rfl⟩) (caught_none ?_)
  rw [ty_0]; exact h
theorem def_some {K : Hp → Prop} {f : FuncId} {a : Addr} {e : Int} {x : Value} (hf : isTold f) (ho : Own s a x) (h : ∀ s', Kp (· = a.block) s s' → Own s' a (.int .i64 e) → K s') : DEF Pg W (.tuple #[.func (.func f) #[] #[.pointer (some a)], .tuple #[]]) (some (MF e)) K s := by
  show DoesD Pg W f [.pointer (some a)] (some (MF e)) s K
  refine told_any (v := .iface 172 (.agg #[.int .i64 e])) hf (.inr rfl) (caught_some ho fun s' k o => ?_)
  rw [ty_0]; exact h s' k o
end
theorem Fr.lo {lo lo' : Nat} {s : Hp} {x : Option Addr} {l c es : Nat} {vs : List Value} (h : Fr lo s x l c es vs) (hl : lo' ≤ lo) : Fr lo' s x l c es vs := ⟨h.buf, h.len, fun a ha => Nat.le_trans hl (h.fr a ha), h.cap⟩
/-- What is read. -/
def ResPg (lo : Nat) (s : Hp) (p : PgS) (v : Value) : Prop := ∃ x c y d, v = .agg #[.int .i64 p.side, .slice x p.posts.length c, .slice y p.lens.length d] ∧ Fr lo s x p.posts.length c 4 (p.posts.flatMap q4V) ∧ Fr lo s y p.lens.length d 4 (p.lens.flatMap q4V) ∧ Dj x y
def ResPn (lo : Nat) (s : Hp) (p : PnS) (v : Value) : Prop := ∃ x c y d w e, v = .agg #[.slice x p.loads.length c, .slice y p.needs.length d, .slice w p.kin.length e] ∧ Fr lo s x p.loads.length c 1 (ints p.loads) ∧ Fr lo s y p.needs.length d 1 (ints p.needs) ∧ Fr lo s w p.kin.length e 2 (p.kin.flatMap kinV) ∧ Dj x y ∧ Dj x w ∧ Dj y w
def ResHr (lo : Nat) (s : Hp) (p : HrS) (v : Value) : Prop := ∃ x c y d, v = .agg #[.int .i64 p.facts, .int .i64 p.wits, .int .i64 p.liars, .slice x p.claims.length c, .slice y p.known.length d] ∧ Fr lo s x p.claims.length c 8 (p.claims.flatMap cl8) ∧ Fr lo s y p.known.length d 3 (p.known.flatMap wd3) ∧ Dj x y
section
variable {W : World} {s : Hp} {K : VK} {E : List PanicEntry → Hp → Prop}
theorem nz3 {P : Program} {t : TypeId} {v0 v1 v2 : Value} {K : Nat → Hp → Prop} (hz : zc P t = [v0, v1, v2]) (h : ∀ s', Ext s s' → s'.size = s.size + 1 → Own s' ⟨s.size, 0, none⟩ v0 → Own s' ⟨s.size, 1, none⟩ v1 → Own s' ⟨s.size, 2, none⟩ v2 → K s.size s') : NEWZ P t K s :=
  NEWZ_rule hz fun s1 e1 z1 n1 => h s1 e1 z1 (n1 0 _ rfl) (n1 1 _ rfl) (n1 2 _ rfl)
theorem readT_long {α : Type} {step : α → List BL → Option α} {z : α} {ok : α → Bool} {Wf : α → List (List BL)} {t : BL} (h : 2000 < t.length) : readT step z ok Wf t = (z, 3) := by unfold readT; rw [if_pos h]
theorem readT_bad {α : Type} {step : α → List BL → Option α} {z : α} {ok : α → Bool} {Wf : α → List (List BL)} {t : BL} (h : t.length ≤ 2000) (hn : ∀ p, parseT step z t = some p → ¬ (ok p = true ∧ txt (Wf p) = t)) : readT step z ok Wf t = (z, 8) := by
  unfold readT
  rw [if_neg (by omega)]
  split
  · rename_i p hp; rw [if_neg (hn p hp)]
  · rfl
theorem readT_good {α : Type} {step : α → List BL → Option α} {z : α} {ok : α → Bool} {Wf : α → List (List BL)} {t : BL} {p : α} (h : t.length ≤ 2000) (hp : parseT step z t = some p) (h1 : ok p = true) (h2 : txt (Wf p) = t) : readT step z ok Wf t = (p, 0) := by
  unfold readT
  rw [if_neg (by omega), hp]
  simp only
  rw [if_pos ⟨h1, h2⟩]
theorem c_readPg {t : BL} (hsm : (∀ p, parseT pgStep pg0 t = some p → sml (pgN p)) ∧ (parseT pgStep pg0 t = none → Big)) (he : Env s) (hk : ∀ s' v, Ext s s' → ResPg s.size s' (readT pgStep pg0 okPg pgW t).1 v → K (.tuple #[v, .int .i64 (readT pgStep pg0 okPg pgW t).2]) s') :
    CALL Pg W F_book_file_api_Pegs_read [.agg #[.func (.func 94) #[] #[], .func (.func 95) #[] #[]], .string (bs t)] K E s := by
  refine does_book_file_api_Pegs_read W _ _ (bs t) _ s ?_
  unfold T_book_file_api_Pegs_read
  refine ne2 fun s1 e1 z1 a0 a1 => ?_
  refine nz3 zc_25 fun s2 e2 z2 b0 b1 b2 => ?_
  refine nz1 zc_39 fun s3 e3 z3 c0 => ?_
  refine nz3 zc_25 fun s4 e4 z4 d0 d1 d2 => ?_
  have e24 := e2.trans (e3.trans e4)
  have e04 := e1.trans e24
  refine ⟨_, (e24.own a0).cell, _, d0.cell, _, _, _, d1.cell, _, _, _, d2.cell, ?_⟩
  refine CALLV_func ?_
  refine does_book_pegsFile_c1 W 0 none 0 0 none 0 0 _ s4 ?_
  unfold T_book_pegsFile_c1
  refine NEW_rule fun s5 e5 z5 o5 _ => ?_
  refine ⟨_, (o5 0 _ rfl).cell, _, _, _, (o5 1 _ rfl).cell, _, _, _, (o5 2 _ rfl).cell, ?_⟩
  refine NEW_rule fun s6 e6 z6 o6 _ => ?_
  try simp only [TUP_mk, AGG_mk, HD_mk, NL_mk, TYI_mk, TYB_mk, TYP_mk, TYL_mk, TYS_mk, TYM_mk, SO_mk, NX_mk, endK_mk, endK_mk', add_0]
  have e46 := e5.trans e6
  have e06 := e04.trans e46
  have hs8 := (he.ext e04).size
  have hst : ∀ z u s', z ≤ u → Ext s6 s' → StPg s5.size z u s' pg0 := fun z u s' _ ex => ⟨none, 0, none, 0, ex.own (o6 0 _ rfl), ⟨ex.own (o6 1 _ rfl), FrU.nil _ _ _ _⟩, ⟨ex.own (o6 2 _ rfl), FrU.nil _ _ _ _⟩, Dj.none_l _⟩
  -- what is so behind fill
  have B5 : Ext s2 s6 := (e3.trans e4).trans e46
  have B6 : Ext s3 s6 := e4.trans e46
  have hne5 : ¬ s1.size = s5.size := by omega
  have hne6 : ¬ s2.size = s5.size := by omega
  have hne4 : ¬ s.size = s5.size := by omega
  have kx : ∀ s', Kp (· = s5.size) s6 s' → Ext s s' := fun s' k => ext_kp e06 (by omega) k
  have fail : ∀ (e : Int) (s' : Hp), Kp (· = s5.size) s6 s' → readT pgStep pg0 okPg pgW t = (pg0, e) → DEF Pg W (.tuple #[(.func (.func 97) #[] #[(.pointer (some ⟨s2.size, 0, none⟩))]), (.tuple #[])]) (some (MF e)) (RDI .i64 (Addr.add ⟨s1.size, 0, none⟩ 0) fun n54 =>
             RDL (Addr.add ⟨s1.size, 0, none⟩ 1) fun x55 l56 c57 =>
              RDL (Addr.add ⟨s1.size, 0, none⟩ 2) fun x58 l59 c60 =>
               RDI .i64 ⟨s2.size, 0, none⟩ fun n61 =>
                endK K E (.returned (.tuple #[(.agg #[(.int .i64 n54), (.slice x55 l56 c57), (.slice x58 l59 c60)]), (.int .i64 n61)]))) s' := by
    intro e s' k hr
    refine def_some (.inl rfl) (k.own hne6 (B6.own c0)) fun s'' k2 o2 => ?_
    have hne : ¬ s1.size = s2.size := by omega
    refine ⟨_, (k2.own hne (k.own hne5 (B5.own b0))).cell, _, _, _, (k2.own hne (k.own hne5 (B5.own b1))).cell, _, _, _, (k2.own hne (k.own hne5 (B5.own b2))).cell, _, o2.cell, ?_⟩
    try simp only [TUP_mk, AGG_mk, HD_mk, NL_mk, TYI_mk, TYB_mk, TYP_mk, TYL_mk, TYS_mk, TYM_mk, SO_mk, NX_mk, endK_mk, endK_mk', add_0]
    have := hk s'' (.agg #[.int .i64 0, .slice none 0 0, .slice none 0 0]) (ext_kp (kx s' k) (by show s.size ≤ s2.size; omega) k2)
    rw [hr] at this
    exact this ⟨none, 0, none, 0, rfl, Fr.nil _ _ _, Fr.nil _ _ _, Dj.none_l _⟩
  refine c_fill (B := s5.size) fill_pg hsm (he.ext e06) (by omega) (by omega) hst (fun hl s' k => ?_) (fun hl hbad s' k => ?_) (fun hl p z s' hp hok htx k hz hst' => ?_)
  · exact fail 3 s' k (readT_long hl)
  · exact fail 8 s' k (readT_bad hl hbad)
  · try simp only [TUP_mk, AGG_mk, HD_mk, NL_mk, TYI_mk, TYB_mk, TYP_mk, TYL_mk, TYS_mk, TYM_mk, SO_mk, NX_mk, endK_mk, endK_mk', add_0]
    refine ⟨_, (k.own hne4 (e46.own (e24.own a1))).cell, ?_⟩
    refine CALLV_func ?_
    refine does_book_pegsFile_c2 W _ _ s' ?_
    unfold T_book_pegsFile_c2
    refine nz3 zc_25 fun t1 f1 w1 g0 g1 g2 => ?_
    refine IFC_i (BR_tt rfl ?_)
    try simp only [TUP_mk, AGG_mk, HD_mk, NL_mk, TYI_mk, TYB_mk, TYP_mk, TYL_mk, TYS_mk, TYM_mk, SO_mk, NX_mk, endK_mk, endK_mk', add_0]
    obtain ⟨x1, c1, x2, c2, p0, L1, L2, dj⟩ := hst'
    refine ⟨_, (f1.own p0).cell, _, _, _, (f1.own L1.own).cell, _, _, _, (f1.own L2.own).cell, ?_⟩
    refine wrs3 g0 g1 g2 rfl rfl rfl fun t2 k2 w2 h0 h1 h2 => ?_
    refine ⟨_, h0.cell, _, _, _, h1.cell, _, _, _, h2.cell, ?_⟩
    try simp only [TUP_mk, AGG_mk, HD_mk, NL_mk, TYI_mk, TYB_mk, TYP_mk, TYL_mk, TYS_mk, TYM_mk, SO_mk, NX_mk, endK_mk, endK_mk', add_0]
    have f12 : Ext s' t2 := ext_kp f1 (Nat.le_refl _) k2
    refine wrs3 (f12.own (k.own hne5 (B5.own b0))) (f12.own (k.own hne5 (B5.own b1))) (f12.own (k.own hne5 (B5.own b2))) rfl rfl rfl fun t3 k3 w3 i0 i1 i2 => ?_
    have hne : ¬ s2.size = s1.size := by omega
    refine wr1 (a := ⟨s2.size, 0, none⟩) (k3.own hne (f12.own (k.own hne6 (B6.own c0)))) rfl fun t4 k4 w4 j0 => ?_
    refine def_none (.inl rfl) ?_
    have hne' : ¬ s1.size = s2.size := by omega
    refine ⟨_, (k4.own hne' i0).cell, _, _, _, (k4.own hne' i1).cell, _, _, _, (k4.own hne' i2).cell, _, j0.cell, ?_⟩
    try simp only [TUP_mk, AGG_mk, HD_mk, NL_mk, TYI_mk, TYB_mk, TYP_mk, TYL_mk, TYS_mk, TYM_mk, SO_mk, NX_mk, endK_mk, endK_mk', add_0]
    have hlo : s.size ≤ z := by omega
    have E4 : Ext s t4 := ext_kp (ext_kp ((kx s' k).trans f12) (by omega) k3) (by show s.size ≤ s2.size; omega) k4
    have fr : ∀ x l c vs, Fr z s' x l c 4 vs → Fr s.size t4 x l c 4 vs := fun x l c vs hf => Fr.lo (((hf.ext f12).kp k3 (fun b hb hh => by have := hf.fr b hb; have h' : b.block = s1.size := hh; omega)).kp k4 (fun b hb hh => by have := hf.fr b hb; have h' : b.block = s2.size := hh; omega)) hlo
    have := hk t4 (.agg #[.int .i64 p.side, .slice x1 p.posts.length c1, .slice x2 p.lens.length c2]) E4
    rw [readT_good hl hp hok htx] at this
    exact this ⟨x1, c1, x2, c2, rfl, fr _ _ _ _ L1.f.fr, fr _ _ _ _ L2.f.fr, dj⟩
end
end Go.Proofs.YtcjgbanpkmpekaaGreatDoor.G

/- Panels and hearings: reading. -/
set_option linter.unusedVariables false
set_option linter.unusedSimpArgs false
set_option maxRecDepth 20000
namespace Go.Proofs.YtcjgbanpkmpekaaGreatDoor.G
open Go.V
section
variable {W : World} {s : Hp} {K : VK} {E : List PanicEntry → Hp → Prop}
theorem wrs5 {B : Nat} {y0 y1 y2 y3 y4 v0 v1 v2 v3 v4 : Value} {s : Hp} {K : Hp → Prop} (c0 : Own s ⟨B, 0, none⟩ y0) (c1 : Own s ⟨B, 1, none⟩ y1) (c2 : Own s ⟨B, 2, none⟩ y2) (c3 : Own s ⟨B, 3, none⟩ y3) (c4 : Own s ⟨B, 4, none⟩ y4) (hv : ∀ v ∈ [v0, v1, v2, v3, v4], oneCell v = true)
    (h : ∀ s', Kp (· = B) s s' → s'.size = s.size → Own s' ⟨B, 0, none⟩ v0 → Own s' ⟨B, 1, none⟩ v1 → Own s' ⟨B, 2, none⟩ v2 → Own s' ⟨B, 3, none⟩ v3 → Own s' ⟨B, 4, none⟩ v4 → K s') :
    WR (Addr.add ⟨B, 0, none⟩ 0) v0 (WR (Addr.add ⟨B, 0, none⟩ 1) v1 (WR (Addr.add ⟨B, 0, none⟩ 2) v2 (WR (Addr.add ⟨B, 0, none⟩ 3) v3 (WR (Addr.add ⟨B, 0, none⟩ 4) v4 K)))) s :=
  wrs (a := ⟨B, 0, none⟩) (vs := [v0, v1, v2, v3, v4]) (cs := [y0, y1, y2, y3, y4]) rfl (fun i hi => match i, hi with | 0, _ => c0 | 1, _ => c1 | 2, _ => c2 | 3, _ => c3 | 4, _ => c4) hv fun s' k z o => h s' k z (o 0 (by simp)) (o 1 (by simp)) (o 2 (by simp)) (o 3 (by simp)) (o 4 (by simp))
theorem nz5 {P : Program} {t : TypeId} {v0 v1 v2 v3 v4 : Value} {K : Nat → Hp → Prop} (hz : zc P t = [v0, v1, v2, v3, v4]) (h : ∀ s', Ext s s' → s'.size = s.size + 1 → Own s' ⟨s.size, 0, none⟩ v0 → Own s' ⟨s.size, 1, none⟩ v1 → Own s' ⟨s.size, 2, none⟩ v2 → Own s' ⟨s.size, 3, none⟩ v3 → Own s' ⟨s.size, 4, none⟩ v4 → K s.size s') : NEWZ P t K s :=
  NEWZ_rule hz fun s1 e1 z1 n1 => h s1 e1 z1 (n1 0 _ rfl) (n1 1 _ rfl) (n1 2 _ rfl) (n1 3 _ rfl) (n1 4 _ rfl)
theorem c_readPn {t : BL} (hsm : (∀ p, parseT pnStep pn0 t = some p → sml (pnN p)) ∧ (parseT pnStep pn0 t = none → Big)) (he : Env s) (hk : ∀ s' v, Ext s s' → ResPn s.size s' (readT pnStep pn0 okPn pnW t).1 v → K (.tuple #[v, .int .i64 (readT pnStep pn0 okPn pnW t).2]) s') :
    CALL Pg W F_book_file_api_Panels_read [.agg #[.func (.func 102) #[] #[], .func (.func 103) #[] #[]], .string (bs t)] K E s := by
  refine does_book_file_api_Panels_read W _ _ (bs t) _ s ?_
  unfold T_book_file_api_Panels_read
  refine ne2 fun s1 e1 z1 a0 a1 => ?_
  refine nz3 zc_29 fun s2 e2 z2 b0 b1 b2 => ?_
  refine nz1 zc_39 fun s3 e3 z3 c0 => ?_
  refine nz3 zc_29 fun s4 e4 z4 d0 d1 d2 => ?_
  have e24 := e2.trans (e3.trans e4)
  have e04 := e1.trans e24
  refine ⟨_, (e24.own a0).cell, _, _, _, d0.cell, _, _, _, d1.cell, _, _, _, d2.cell, ?_⟩
  refine CALLV_func ?_
  refine does_book_panelsFile_c1 W none 0 0 none 0 0 none 0 0 _ s4 ?_
  unfold T_book_panelsFile_c1
  refine NEW_rule fun s5 e5 z5 o5 _ => ?_
  refine ⟨_, _, _, (o5 0 _ rfl).cell, _, _, _, (o5 1 _ rfl).cell, _, _, _, (o5 2 _ rfl).cell, ?_⟩
  refine NEW_rule fun s6 e6 z6 o6 _ => ?_
  try simp only [TUP_mk, AGG_mk, HD_mk, NL_mk, TYI_mk, TYB_mk, TYP_mk, TYL_mk, TYS_mk, TYM_mk, SO_mk, NX_mk, endK_mk, endK_mk', add_0]
  have e46 := e5.trans e6
  have e06 := e04.trans e46
  have hs8 := (he.ext e04).size
  have hst : ∀ z u s', z ≤ u → Ext s6 s' → StPn s5.size z u s' pn0 := fun z u s' _ ex => ⟨none, 0, none, 0, none, 0, ⟨ex.own (o6 0 _ rfl), FrU.nil _ _ _ _⟩, ⟨ex.own (o6 1 _ rfl), FrU.nil _ _ _ _⟩, ⟨ex.own (o6 2 _ rfl), FrU.nil _ _ _ _⟩, Dj.none_l _, Dj.none_l _, Dj.none_l _⟩
  have B5 : Ext s2 s6 := (e3.trans e4).trans e46
  have B6 : Ext s3 s6 := e4.trans e46
  have hne5 : ¬ s1.size = s5.size := by omega
  have hne6 : ¬ s2.size = s5.size := by omega
  have hne4 : ¬ s.size = s5.size := by omega
  have kx : ∀ s', Kp (· = s5.size) s6 s' → Ext s s' := fun s' k => ext_kp e06 (by omega) k
  have fail : ∀ (e : Int) (s' : Hp), Kp (· = s5.size) s6 s' → readT pnStep pn0 okPn pnW t = (pn0, e) → DEF Pg W (.tuple #[(.func (.func 104) #[] #[(.pointer (some ⟨s2.size, 0, none⟩))]), (.tuple #[])]) (some (MF e)) (RDL (Addr.add ⟨s1.size, 0, none⟩ 0) fun x72 l73 c74 =>
            RDL (Addr.add ⟨s1.size, 0, none⟩ 1) fun x75 l76 c77 =>
             RDL (Addr.add ⟨s1.size, 0, none⟩ 2) fun x78 l79 c80 =>
              RDI .i64 ⟨s2.size, 0, none⟩ fun n81 =>
               endK K E (.returned (.tuple #[(.agg #[(.slice x72 l73 c74), (.slice x75 l76 c77), (.slice x78 l79 c80)]), (.int .i64 n81)]))) s' := by
    intro e s' k hr
    refine def_some (.inr (.inl rfl)) (k.own hne6 (B6.own c0)) fun s'' k2 o2 => ?_
    have hne : ¬ s1.size = s2.size := by omega
    refine ⟨_, _, _, (k2.own hne (k.own hne5 (B5.own b0))).cell, _, _, _, (k2.own hne (k.own hne5 (B5.own b1))).cell, _, _, _, (k2.own hne (k.own hne5 (B5.own b2))).cell, _, o2.cell, ?_⟩
    try simp only [TUP_mk, AGG_mk, HD_mk, NL_mk, TYI_mk, TYB_mk, TYP_mk, TYL_mk, TYS_mk, TYM_mk, SO_mk, NX_mk, endK_mk, endK_mk', add_0]
    have := hk s'' (.agg #[.slice none 0 0, .slice none 0 0, .slice none 0 0]) (ext_kp (kx s' k) (by show s.size ≤ s2.size; omega) k2)
    rw [hr] at this
    exact this ⟨none, 0, none, 0, none, 0, rfl, Fr.nil _ _ _, Fr.nil _ _ _, Fr.nil _ _ _, Dj.none_l _, Dj.none_l _, Dj.none_l _⟩
  refine c_fill (B := s5.size) fill_pn hsm (he.ext e06) (by omega) (by omega) hst (fun hl s' k => ?_) (fun hl hbad s' k => ?_) (fun hl p z s' hp hok htx k hz hst' => ?_)
  · exact fail 3 s' k (readT_long hl)
  · exact fail 8 s' k (readT_bad hl hbad)
  · try simp only [TUP_mk, AGG_mk, HD_mk, NL_mk, TYI_mk, TYB_mk, TYP_mk, TYL_mk, TYS_mk, TYM_mk, SO_mk, NX_mk, endK_mk, endK_mk', add_0]
    refine ⟨_, (k.own hne4 (e46.own (e24.own a1))).cell, ?_⟩
    refine CALLV_func ?_
    refine does_book_panelsFile_c2 W _ _ s' ?_
    unfold T_book_panelsFile_c2
    refine nz3 zc_29 fun t1 f1 w1 g0 g1 g2 => ?_
    refine IFC_i (BR_tt rfl ?_)
    try simp only [TUP_mk, AGG_mk, HD_mk, NL_mk, TYI_mk, TYB_mk, TYP_mk, TYL_mk, TYS_mk, TYM_mk, SO_mk, NX_mk, endK_mk, endK_mk', add_0]
    obtain ⟨x0, c0', x1, c1, x2, c2, L0, L1, L2, dj0, dj1, dj2⟩ := hst'
    refine ⟨_, _, _, (f1.own L0.own).cell, _, _, _, (f1.own L1.own).cell, _, _, _, (f1.own L2.own).cell, ?_⟩
    refine wrs3 g0 g1 g2 rfl rfl rfl fun t2 k2 w2 h0 h1 h2 => ?_
    refine ⟨_, _, _, h0.cell, _, _, _, h1.cell, _, _, _, h2.cell, ?_⟩
    try simp only [TUP_mk, AGG_mk, HD_mk, NL_mk, TYI_mk, TYB_mk, TYP_mk, TYL_mk, TYS_mk, TYM_mk, SO_mk, NX_mk, endK_mk, endK_mk', add_0]
    have f12 : Ext s' t2 := ext_kp f1 (Nat.le_refl _) k2
    refine wrs3 (f12.own (k.own hne5 (B5.own b0))) (f12.own (k.own hne5 (B5.own b1))) (f12.own (k.own hne5 (B5.own b2))) rfl rfl rfl fun t3 k3 w3 i0 i1 i2 => ?_
    have hne : ¬ s2.size = s1.size := by omega
    refine wr1 (a := ⟨s2.size, 0, none⟩) (k3.own hne (f12.own (k.own hne6 (B6.own c0)))) rfl fun t4 k4 w4 j0 => ?_
    refine def_none (.inr (.inl rfl)) ?_
    have hne' : ¬ s1.size = s2.size := by omega
    refine ⟨_, _, _, (k4.own hne' i0).cell, _, _, _, (k4.own hne' i1).cell, _, _, _, (k4.own hne' i2).cell, _, j0.cell, ?_⟩
    try simp only [TUP_mk, AGG_mk, HD_mk, NL_mk, TYI_mk, TYB_mk, TYP_mk, TYL_mk, TYS_mk, TYM_mk, SO_mk, NX_mk, endK_mk, endK_mk', add_0]
    have hlo : s.size ≤ z := by omega
    have E4 : Ext s t4 := ext_kp (ext_kp ((kx s' k).trans f12) (by omega) k3) (by show s.size ≤ s2.size; omega) k4
    have fr : ∀ x l c es vs, Fr z s' x l c es vs → Fr s.size t4 x l c es vs := fun x l c es vs hf => Fr.lo (((hf.ext f12).kp k3 (fun b hb hh => by have := hf.fr b hb; have h' : b.block = s1.size := hh; omega)).kp k4 (fun b hb hh => by have := hf.fr b hb; have h' : b.block = s2.size := hh; omega)) hlo
    have := hk t4 (.agg #[.slice x0 p.loads.length c0', .slice x1 p.needs.length c1, .slice x2 p.kin.length c2]) E4
    rw [readT_good hl hp hok htx] at this
    exact this ⟨x0, c0', x1, c1, x2, c2, rfl, fr _ _ _ _ _ L0.f.fr, fr _ _ _ _ _ L1.f.fr, fr _ _ _ _ _ L2.f.fr, dj0, dj1, dj2⟩
theorem c_readHr {t : BL} (hsm : (∀ p, parseT hrStep hr0 t = some p → sml (hrN p)) ∧ (parseT hrStep hr0 t = none → Big)) (he : Env s) (hk : ∀ s' v, Ext s s' → ResHr s.size s' (readT hrStep hr0 okHr hrW t).1 v → K (.tuple #[v, .int .i64 (readT hrStep hr0 okHr hrW t).2]) s') :
    CALL Pg W F_book_file_api_Hearing_read [.agg #[.func (.func 105) #[] #[], .func (.func 106) #[] #[]], .string (bs t)] K E s := by
  refine does_book_file_api_Hearing_read W _ _ (bs t) _ s ?_
  unfold T_book_file_api_Hearing_read
  refine ne2 fun s1 e1 z1 a0 a1 => ?_
  refine nz5 zc_34 fun s2 e2 z2 b0 b1 b2 b3 b4 => ?_
  refine nz1 zc_39 fun s3 e3 z3 c0 => ?_
  refine nz5 zc_34 fun s4 e4 z4 d0 d1 d2 d3 d4 => ?_
  have e24 := e2.trans (e3.trans e4)
  have e04 := e1.trans e24
  refine ⟨_, (e24.own a0).cell, _, d0.cell, _, d1.cell, _, d2.cell, _, _, _, d3.cell, _, _, _, d4.cell, ?_⟩
  refine CALLV_func ?_
  refine does_book_hearingFile_c1 W 0 0 0 none 0 0 none 0 0 _ s4 ?_
  unfold T_book_hearingFile_c1
  refine NEW_rule fun s5 e5 z5 o5 _ => ?_
  refine ⟨_, (o5 0 _ rfl).cell, _, (o5 1 _ rfl).cell, _, (o5 2 _ rfl).cell, _, _, _, (o5 3 _ rfl).cell, _, _, _, (o5 4 _ rfl).cell, ?_⟩
  refine NEW_rule fun s6 e6 z6 o6 _ => ?_
  try simp only [TUP_mk, AGG_mk, HD_mk, NL_mk, TYI_mk, TYB_mk, TYP_mk, TYL_mk, TYS_mk, TYM_mk, SO_mk, NX_mk, endK_mk, endK_mk', add_0]
  have e46 := e5.trans e6
  have e06 := e04.trans e46
  have hs8 := (he.ext e04).size
  have hst : ∀ z u s', z ≤ u → Ext s6 s' → StHr s5.size z u s' hr0 := fun z u s' _ ex => ⟨none, 0, none, 0, ⟨ex.own (o6 0 _ rfl), ex.own (o6 1 _ rfl), ex.own (o6 2 _ rfl)⟩, ⟨ex.own (o6 3 _ rfl), FrU.nil _ _ _ _⟩, ⟨ex.own (o6 4 _ rfl), FrU.nil _ _ _ _⟩, Dj.none_l _⟩
  have B5 : Ext s2 s6 := (e3.trans e4).trans e46
  have B6 : Ext s3 s6 := e4.trans e46
  have hne5 : ¬ s1.size = s5.size := by omega
  have hne6 : ¬ s2.size = s5.size := by omega
  have hne4 : ¬ s.size = s5.size := by omega
  have kx : ∀ s', Kp (· = s5.size) s6 s' → Ext s s' := fun s' k => ext_kp e06 (by omega) k
  have fail : ∀ (e : Int) (s' : Hp), Kp (· = s5.size) s6 s' → readT hrStep hr0 okHr hrW t = (hr0, e) → DEF Pg W (.tuple #[(.func (.func 107) #[] #[(.pointer (some ⟨s2.size, 0, none⟩))]), (.tuple #[])]) (some (MF e)) (RDI .i64 (Addr.add ⟨s1.size, 0, none⟩ 0) fun n76 =>
              RDI .i64 (Addr.add ⟨s1.size, 0, none⟩ 1) fun n77 =>
               RDI .i64 (Addr.add ⟨s1.size, 0, none⟩ 2) fun n78 =>
                RDL (Addr.add ⟨s1.size, 0, none⟩ 3) fun x79 l80 c81 =>
                 RDL (Addr.add ⟨s1.size, 0, none⟩ 4) fun x82 l83 c84 =>
                  RDI .i64 ⟨s2.size, 0, none⟩ fun n85 =>
                   endK K E (.returned (.tuple #[(.agg #[(.int .i64 n76), (.int .i64 n77), (.int .i64 n78), (.slice x79 l80 c81), (.slice x82 l83 c84)]), (.int .i64 n85)]))) s' := by
    intro e s' k hr
    refine def_some (.inr (.inr rfl)) (k.own hne6 (B6.own c0)) fun s'' k2 o2 => ?_
    have hne : ¬ s1.size = s2.size := by omega
    refine ⟨_, (k2.own hne (k.own hne5 (B5.own b0))).cell, _, (k2.own hne (k.own hne5 (B5.own b1))).cell, _, (k2.own hne (k.own hne5 (B5.own b2))).cell, _, _, _, (k2.own hne (k.own hne5 (B5.own b3))).cell, _, _, _, (k2.own hne (k.own hne5 (B5.own b4))).cell, _, o2.cell, ?_⟩
    try simp only [TUP_mk, AGG_mk, HD_mk, NL_mk, TYI_mk, TYB_mk, TYP_mk, TYL_mk, TYS_mk, TYM_mk, SO_mk, NX_mk, endK_mk, endK_mk', add_0]
    have := hk s'' (.agg #[.int .i64 0, .int .i64 0, .int .i64 0, .slice none 0 0, .slice none 0 0]) (ext_kp (kx s' k) (by show s.size ≤ s2.size; omega) k2)
    rw [hr] at this
    exact this ⟨none, 0, none, 0, rfl, Fr.nil _ _ _, Fr.nil _ _ _, Dj.none_l _⟩
  have htx0 : ∀ p, okHr p = true → (if okHr p = true then txt (hrW p) else []) = txt (hrW p) := fun p h => if_pos h
  refine c_fill (B := s5.size) fill_hr hsm (he.ext e06) (by omega) (by omega) hst (fun hl s' k => ?_) (fun hl hbad s' k => ?_) (fun hl p z s' hp hok htx k hz hst' => ?_)
  · exact fail 3 s' k (readT_long hl)
  · exact fail 8 s' k (readT_bad hl fun p hp hh => hbad p hp ⟨hh.1, by rw [if_pos hh.1]; exact hh.2⟩)
  · rw [htx0 p hok] at htx
    try simp only [TUP_mk, AGG_mk, HD_mk, NL_mk, TYI_mk, TYB_mk, TYP_mk, TYL_mk, TYS_mk, TYM_mk, SO_mk, NX_mk, endK_mk, endK_mk', add_0]
    refine ⟨_, (k.own hne4 (e46.own (e24.own a1))).cell, ?_⟩
    refine CALLV_func ?_
    refine does_book_hearingFile_c2 W _ _ s' ?_
    unfold T_book_hearingFile_c2
    refine nz5 zc_34 fun t1 f1 w1 g0 g1 g2 g3 g4 => ?_
    refine IFC_i (BR_tt rfl ?_)
    try simp only [TUP_mk, AGG_mk, HD_mk, NL_mk, TYI_mk, TYB_mk, TYP_mk, TYL_mk, TYS_mk, TYM_mk, SO_mk, NX_mk, endK_mk, endK_mk', add_0]
    obtain ⟨x3, c3, x4, c4, ⟨p0, p1, p2⟩, L3, L4, dj⟩ := hst'
    refine ⟨_, (f1.own p0).cell, _, (f1.own p1).cell, _, (f1.own p2).cell, _, _, _, (f1.own L3.own).cell, _, _, _, (f1.own L4.own).cell, ?_⟩
    refine wrs5 g0 g1 g2 g3 g4 (by simp [oneCell]) fun t2 k2 w2 h0 h1 h2 h3 h4 => ?_
    refine ⟨_, h0.cell, _, h1.cell, _, h2.cell, _, _, _, h3.cell, _, _, _, h4.cell, ?_⟩
    try simp only [TUP_mk, AGG_mk, HD_mk, NL_mk, TYI_mk, TYB_mk, TYP_mk, TYL_mk, TYS_mk, TYM_mk, SO_mk, NX_mk, endK_mk, endK_mk', add_0]
    have f12 : Ext s' t2 := ext_kp f1 (Nat.le_refl _) k2
    refine wrs5 (f12.own (k.own hne5 (B5.own b0))) (f12.own (k.own hne5 (B5.own b1))) (f12.own (k.own hne5 (B5.own b2))) (f12.own (k.own hne5 (B5.own b3))) (f12.own (k.own hne5 (B5.own b4))) (by simp [oneCell]) fun t3 k3 w3 i0 i1 i2 i3 i4 => ?_
    have hne : ¬ s2.size = s1.size := by omega
    refine wr1 (a := ⟨s2.size, 0, none⟩) (k3.own hne (f12.own (k.own hne6 (B6.own c0)))) rfl fun t4 k4 w4 j0 => ?_
    refine def_none (.inr (.inr rfl)) ?_
    have hne' : ¬ s1.size = s2.size := by omega
    refine ⟨_, (k4.own hne' i0).cell, _, (k4.own hne' i1).cell, _, (k4.own hne' i2).cell, _, _, _, (k4.own hne' i3).cell, _, _, _, (k4.own hne' i4).cell, _, j0.cell, ?_⟩
    try simp only [TUP_mk, AGG_mk, HD_mk, NL_mk, TYI_mk, TYB_mk, TYP_mk, TYL_mk, TYS_mk, TYM_mk, SO_mk, NX_mk, endK_mk, endK_mk', add_0]
    have hlo : s.size ≤ z := by omega
    have E4 : Ext s t4 := ext_kp (ext_kp ((kx s' k).trans f12) (by omega) k3) (by show s.size ≤ s2.size; omega) k4
    have fr : ∀ x l c es vs, Fr z s' x l c es vs → Fr s.size t4 x l c es vs := fun x l c es vs hf => Fr.lo (((hf.ext f12).kp k3 (fun b hb hh => by have := hf.fr b hb; have h' : b.block = s1.size := hh; omega)).kp k4 (fun b hb hh => by have := hf.fr b hb; have h' : b.block = s2.size := hh; omega)) hlo
    have := hk t4 (.agg #[.int .i64 p.facts, .int .i64 p.wits, .int .i64 p.liars, .slice x3 p.claims.length c3, .slice x4 p.known.length c4]) E4
    rw [readT_good hl hp hok htx] at this
    exact this ⟨x3, c3, x4, c4, rfl, fr _ _ _ _ _ L3.f.fr, fr _ _ _ _ _ L4.f.fr, dj⟩
end
end Go.Proofs.YtcjgbanpkmpekaaGreatDoor.G

/- The exported functions of pegs, panels and hearings. -/
set_option linter.unusedVariables false
set_option linter.unusedSimpArgs false
set_option maxRecDepth 20000
namespace Go.Proofs.YtcjgbanpkmpekaaGreatDoor.G
open Go.V
theorem zc_99 : zc Pg 99 = [.nilFunc, .nilFunc] := by kernel_rfl
theorem zc_111 : zc Pg 111 = [.nilFunc, .nilFunc] := by kernel_rfl
theorem zc_119 : zc Pg 119 = [.nilFunc, .nilFunc] := by kernel_rfl
section
variable {W : World} {s : Hp} {K : VK} {E : List PanicEntry → Hp → Prop}
theorem c_pegsFile (hk : ∀ s', Ext s s' → K (.agg #[.func (.func 94) #[] #[], .func (.func 95) #[] #[]]) s') : CALL Pg W F_book_pegsFile [] K E s := by
  refine does_book_pegsFile W _ s ?_
  unfold T_book_pegsFile
  refine nw2 zc_99 rfl rfl fun s1 e1 z1 o0 o1 => ?_
  exact ⟨_, o0.cell, _, o1.cell, hk s1 e1⟩
theorem c_panelsFile (hk : ∀ s', Ext s s' → K (.agg #[.func (.func 102) #[] #[], .func (.func 103) #[] #[]]) s') : CALL Pg W F_book_panelsFile [] K E s := by
  refine does_book_panelsFile W _ s ?_
  unfold T_book_panelsFile
  refine nw2 zc_111 rfl rfl fun s1 e1 z1 o0 o1 => ?_
  exact ⟨_, o0.cell, _, o1.cell, hk s1 e1⟩
theorem c_hearingFile (hk : ∀ s', Ext s s' → K (.agg #[.func (.func 105) #[] #[], .func (.func 106) #[] #[]]) s') : CALL Pg W F_book_hearingFile [] K E s := by
  refine does_book_hearingFile W _ s ?_
  unfold T_book_hearingFile
  refine nw2 zc_119 rfl rfl fun s1 e1 z1 o0 o1 => ?_
  exact ⟨_, o0.cell, _, o1.cell, hk s1 e1⟩
theorem c_ReadPegs {t : BL} (hsm : (∀ p, parseT pgStep pg0 t = some p → sml (pgN p)) ∧ (parseT pgStep pg0 t = none → Big)) (he : Env s) (hk : ∀ s' v, Ext s s' → ResPg s.size s' (readT pgStep pg0 okPg pgW t).1 v → K (.tuple #[v, .int .i64 (readT pgStep pg0 okPg pgW t).2]) s') : CALL Pg W F_book_ReadPegs [.string (bs t)] K E s := by
  refine does_book_ReadPegs W (bs t) _ s ?_
  unfold T_book_ReadPegs
  refine nz3 zc_25 fun s1 e1 z1 o0 o1 o2 => ?_
  refine c_pegsFile fun s2 e2 => ?_
  try simp only [TUP_mk, AGG_mk, HD_mk, NL_mk, TYI_mk, TYB_mk, TYP_mk, TYL_mk, TYS_mk, TYM_mk, SO_mk, NX_mk, endK_mk, endK_mk', add_0]
  refine c_readPg hsm ((he.ext e1).ext e2) fun s3 v e3 hr => ?_
  obtain ⟨x, c, y, d, rfl, f1, f2, dj⟩ := hr
  try simp only [TUP_mk, AGG_mk, HD_mk, NL_mk, TYI_mk, TYB_mk, TYP_mk, TYL_mk, TYS_mk, TYM_mk, SO_mk, NX_mk, endK_mk, endK_mk', add_0]
  have e23 := e2.trans e3
  refine wrs3 (e23.own o0) (e23.own o1) (e23.own o2) rfl rfl rfl fun s4 k4 z4 q0 q1 q2 => ?_
  refine ⟨_, q0.cell, _, _, _, q1.cell, _, _, _, q2.cell, ?_⟩
  try simp only [TUP_mk, AGG_mk, HD_mk, NL_mk, TYI_mk, TYB_mk, TYP_mk, TYL_mk, TYS_mk, TYM_mk, SO_mk, NX_mk, endK_mk, endK_mk', add_0]
  have hs := e2.1
  refine hk s4 _ (ext_kp (e1.trans e23) (Nat.le_refl _) k4) ⟨x, c, y, d, rfl, Fr.lo (f1.kp k4 (fun b hb hh => ?_)) (by omega), Fr.lo (f2.kp k4 (fun b hb hh => ?_)) (by omega), dj⟩
  · have := f1.fr b hb; have h' : b.block = s.size := hh; omega
  · have := f2.fr b hb; have h' : b.block = s.size := hh; omega
theorem c_ReadPanels {t : BL} (hsm : (∀ p, parseT pnStep pn0 t = some p → sml (pnN p)) ∧ (parseT pnStep pn0 t = none → Big)) (he : Env s) (hk : ∀ s' v, Ext s s' → ResPn s.size s' (readT pnStep pn0 okPn pnW t).1 v → K (.tuple #[v, .int .i64 (readT pnStep pn0 okPn pnW t).2]) s') : CALL Pg W F_book_ReadPanels [.string (bs t)] K E s := by
  refine does_book_ReadPanels W (bs t) _ s ?_
  unfold T_book_ReadPanels
  refine nz3 zc_29 fun s1 e1 z1 o0 o1 o2 => ?_
  refine c_panelsFile fun s2 e2 => ?_
  try simp only [TUP_mk, AGG_mk, HD_mk, NL_mk, TYI_mk, TYB_mk, TYP_mk, TYL_mk, TYS_mk, TYM_mk, SO_mk, NX_mk, endK_mk, endK_mk', add_0]
  refine c_readPn hsm ((he.ext e1).ext e2) fun s3 v e3 hr => ?_
  obtain ⟨x, c, y, d, w, e, rfl, f1, f2, f3, dj⟩ := hr
  try simp only [TUP_mk, AGG_mk, HD_mk, NL_mk, TYI_mk, TYB_mk, TYP_mk, TYL_mk, TYS_mk, TYM_mk, SO_mk, NX_mk, endK_mk, endK_mk', add_0]
  have e23 := e2.trans e3
  refine wrs3 (e23.own o0) (e23.own o1) (e23.own o2) rfl rfl rfl fun s4 k4 z4 q0 q1 q2 => ?_
  refine ⟨_, _, _, q0.cell, _, _, _, q1.cell, _, _, _, q2.cell, ?_⟩
  try simp only [TUP_mk, AGG_mk, HD_mk, NL_mk, TYI_mk, TYB_mk, TYP_mk, TYL_mk, TYS_mk, TYM_mk, SO_mk, NX_mk, endK_mk, endK_mk', add_0]
  have hs := e2.1
  refine hk s4 _ (ext_kp (e1.trans e23) (Nat.le_refl _) k4) ⟨x, c, y, d, w, e, rfl, Fr.lo (f1.kp k4 (fun b hb hh => ?_)) (by omega), Fr.lo (f2.kp k4 (fun b hb hh => ?_)) (by omega), Fr.lo (f3.kp k4 (fun b hb hh => ?_)) (by omega), dj⟩
  · have := f1.fr b hb; have h' : b.block = s.size := hh; omega
  · have := f2.fr b hb; have h' : b.block = s.size := hh; omega
  · have := f3.fr b hb; have h' : b.block = s.size := hh; omega
theorem c_ReadHearing {t : BL} (hsm : (∀ p, parseT hrStep hr0 t = some p → sml (hrN p)) ∧ (parseT hrStep hr0 t = none → Big)) (he : Env s) (hk : ∀ s' v, Ext s s' → ResHr s.size s' (readT hrStep hr0 okHr hrW t).1 v → K (.tuple #[v, .int .i64 (readT hrStep hr0 okHr hrW t).2]) s') : CALL Pg W F_book_ReadHearing [.string (bs t)] K E s := by
  refine does_book_ReadHearing W (bs t) _ s ?_
  unfold T_book_ReadHearing
  refine nz5 zc_34 fun s1 e1 z1 o0 o1 o2 o3 o4 => ?_
  refine c_hearingFile fun s2 e2 => ?_
  try simp only [TUP_mk, AGG_mk, HD_mk, NL_mk, TYI_mk, TYB_mk, TYP_mk, TYL_mk, TYS_mk, TYM_mk, SO_mk, NX_mk, endK_mk, endK_mk', add_0]
  refine c_readHr hsm ((he.ext e1).ext e2) fun s3 v e3 hr => ?_
  obtain ⟨x, c, y, d, rfl, f1, f2, dj⟩ := hr
  try simp only [TUP_mk, AGG_mk, HD_mk, NL_mk, TYI_mk, TYB_mk, TYP_mk, TYL_mk, TYS_mk, TYM_mk, SO_mk, NX_mk, endK_mk, endK_mk', add_0]
  have e23 := e2.trans e3
  refine wrs5 (e23.own o0) (e23.own o1) (e23.own o2) (e23.own o3) (e23.own o4) (by simp [oneCell]) fun s4 k4 z4 q0 q1 q2 q3 q4 => ?_
  refine ⟨_, q0.cell, _, q1.cell, _, q2.cell, _, _, _, q3.cell, _, _, _, q4.cell, ?_⟩
  try simp only [TUP_mk, AGG_mk, HD_mk, NL_mk, TYI_mk, TYB_mk, TYP_mk, TYL_mk, TYS_mk, TYM_mk, SO_mk, NX_mk, endK_mk, endK_mk', add_0]
  have hs := e2.1
  refine hk s4 _ (ext_kp (e1.trans e23) (Nat.le_refl _) k4) ⟨x, c, y, d, rfl, Fr.lo (f1.kp k4 (fun b hb hh => ?_)) (by omega), Fr.lo (f2.kp k4 (fun b hb hh => ?_)) (by omega), dj⟩
  · have := f1.fr b hb; have h' : b.block = s.size := hh; omega
  · have := f2.fr b hb; have h' : b.block = s.size := hh; omega
/-- How a text is written: the text, and the error. -/
def wrT (ok : Bool) (t : BL) : Value := .tuple #[.string (bs (if ok = true then t else [])), .int .i64 (if ok = true then 0 else 1)]
theorem c_WritePegs {p : PgS} {x y : Option Addr} {c d : Nat} (he : Env s) (hx : RowAt s x (p.posts.flatMap q4V)) (hy : RowAt s y (p.lens.flatMap q4V)) (g : PgG p)
    (hk : ∀ s', Ext s s' → K (wrT (okPg p) (txt (pgW p))) s') : CALL Pg W F_book_WritePegs [.agg #[.int .i64 p.side, .slice x p.posts.length c, .slice y p.lens.length d]] K E s := by
  refine does_book_WritePegs W p.side x p.posts.length c y p.lens.length d _ s ?_
  unfold T_book_WritePegs
  refine NEW_rule fun s1 e1 z1 o _ => ?_
  refine c_pegsFile fun s2 e2 => ?_
  try simp only [TUP_mk, AGG_mk, HD_mk, NL_mk, TYI_mk, TYB_mk, TYP_mk, TYL_mk, TYS_mk, TYM_mk, SO_mk, NX_mk, endK_mk, endK_mk', add_0]
  refine ⟨_, e2.cell (o 0 _ rfl).cell, _, _, _, e2.cell (o 1 _ rfl).cell, _, _, _, e2.cell (o 2 _ rfl).cell, ?_⟩
  show Does Pg W F_book_file_api_Pegs_write #[_, _] s2 _
  refine does_book_file_api_Pegs_write W _ _ p.side x p.posts.length c y p.lens.length d _ s2 ?_
  unfold T_book_file_api_Pegs_write
  refine ne2 fun s3 e3 z3 a0 a1 => ?_
  refine NEW_rule fun s4 e4 z4 q _ => ?_
  refine ⟨_, (e4.own a0).cell, _, (q 0 _ rfl).cell, _, _, _, (q 1 _ rfl).cell, _, _, _, (q 2 _ rfl).cell, ?_⟩
  refine CALLV_func ?_
  refine does_book_pegsFile_c1 W _ _ _ _ _ _ _ _ s4 ?_
  unfold T_book_pegsFile_c1
  refine NEW_rule fun s5 e5 z5 o5 _ => ?_
  refine ⟨_, (o5 0 _ rfl).cell, _, _, _, (o5 1 _ rfl).cell, _, _, _, (o5 2 _ rfl).cell, ?_⟩
  refine NEW_rule fun s6 e6 z6 o6 _ => ?_
  try simp only [TUP_mk, AGG_mk, HD_mk, NL_mk, TYI_mk, TYB_mk, TYP_mk, TYL_mk, TYS_mk, TYM_mk, SO_mk, NX_mk, endK_mk, endK_mk', add_0]
  have e06 := (e1.trans e2).trans ((e3.trans e4).trans (e5.trans e6))
  refine inv_of (f := F_book_pegs_text) (by kernel_rfl) ?_
  refine c_pegs_text (he.ext e06) ⟨(o6 0 _ rfl).cell, ⟨_, _, (o6 1 _ rfl).cell, hx.ext e06⟩, ⟨_, _, (o6 2 _ rfl).cell, hy.ext e06⟩⟩ g fun s7 e7 => ?_
  try simp only [TUP_mk, AGG_mk, HD_mk, NL_mk, TYI_mk, TYB_mk, TYP_mk, TYL_mk, TYS_mk, TYM_mk, SO_mk, NX_mk, endK_mk, endK_mk', add_0]
  have := hk s7 (e06.trans e7)
  unfold wrT at this
  refine BR_not (fun hb => ?_) (fun hb => ?_)
  · rw [hb] at this
    try simp only [TUP_mk, AGG_mk, HD_mk, NL_mk, TYI_mk, TYB_mk, TYP_mk, TYL_mk, TYS_mk, TYM_mk, SO_mk, NX_mk, endK_mk, endK_mk', add_0]
    exact this
  · rw [hb] at this
    try simp only [TUP_mk, AGG_mk, HD_mk, NL_mk, TYI_mk, TYB_mk, TYP_mk, TYL_mk, TYS_mk, TYM_mk, SO_mk, NX_mk, endK_mk, endK_mk', add_0]
    exact this
theorem c_WritePanels {p : PnS} {x y w : Option Addr} {c d e : Nat} (he : Env s) (hx : RowAt s x (ints p.loads)) (hy : RowAt s y (ints p.needs)) (hw : RowAt s w (p.kin.flatMap kinV)) (g : PnG p)
    (hk : ∀ s', Ext s s' → K (wrT (okPn p) (txt (pnW p))) s') : CALL Pg W F_book_WritePanels [.agg #[.slice x p.loads.length c, .slice y p.needs.length d, .slice w p.kin.length e]] K E s := by
  refine does_book_WritePanels W x p.loads.length c y p.needs.length d w p.kin.length e _ s ?_
  unfold T_book_WritePanels
  refine NEW_rule fun s1 e1 z1 o _ => ?_
  have o0 := (o 0 _ rfl).cell
  have o1 := (o 1 _ rfl).cell
  have o2 := (o 2 _ rfl).cell
  refine ⟨_, _, _, o0, _, _, _, o1, _, _, _, o2, ?_⟩
  refine c_panelsFile fun s2 e2 => ?_
  try simp only [TUP_mk, AGG_mk, HD_mk, NL_mk, TYI_mk, TYB_mk, TYP_mk, TYL_mk, TYS_mk, TYM_mk, SO_mk, NX_mk, endK_mk, endK_mk', add_0]
  refine ANDS_i ⟨_, _, _, e2.cell o0, _, _, _, e2.cell o1, _, _, _, e2.cell o2, rfl⟩ ?_
  refine does_book_file_api_Panels_write W _ _ x p.loads.length c y p.needs.length d w p.kin.length e _ s2 ?_
  unfold T_book_file_api_Panels_write
  refine ne2 fun s3 e3 z3 a0 a1 => ?_
  refine NEW_rule fun s4 e4 z4 q _ => ?_
  refine ⟨_, (e4.own a0).cell, _, _, _, (q 0 _ rfl).cell, _, _, _, (q 1 _ rfl).cell, _, _, _, (q 2 _ rfl).cell, ?_⟩
  refine CALLV_func ?_
  refine does_book_panelsFile_c1 W _ _ _ _ _ _ _ _ _ _ s4 ?_
  unfold T_book_panelsFile_c1
  refine NEW_rule fun s5 e5 z5 o5 _ => ?_
  refine ⟨_, _, _, (o5 0 _ rfl).cell, _, _, _, (o5 1 _ rfl).cell, _, _, _, (o5 2 _ rfl).cell, ?_⟩
  refine NEW_rule fun s6 e6 z6 o6 _ => ?_
  try simp only [TUP_mk, AGG_mk, HD_mk, NL_mk, TYI_mk, TYB_mk, TYP_mk, TYL_mk, TYS_mk, TYM_mk, SO_mk, NX_mk, endK_mk, endK_mk', add_0]
  have e06 := (e1.trans e2).trans ((e3.trans e4).trans (e5.trans e6))
  refine inv_of (f := F_book_panels_text) (by kernel_rfl) ?_
  refine c_panels_text (he.ext e06) ⟨⟨_, _, (o6 0 _ rfl).cell, hx.ext e06⟩, ⟨_, _, (o6 1 _ rfl).cell, hy.ext e06⟩, ⟨_, _, (o6 2 _ rfl).cell, hw.ext e06⟩⟩ g fun s7 e7 => ?_
  try simp only [TUP_mk, AGG_mk, HD_mk, NL_mk, TYI_mk, TYB_mk, TYP_mk, TYL_mk, TYS_mk, TYM_mk, SO_mk, NX_mk, endK_mk, endK_mk', add_0]
  have := hk s7 (e06.trans e7)
  unfold wrT at this
  refine BR_not (fun hb => ?_) (fun hb => ?_)
  · rw [hb] at this
    try simp only [TUP_mk, AGG_mk, HD_mk, NL_mk, TYI_mk, TYB_mk, TYP_mk, TYL_mk, TYS_mk, TYM_mk, SO_mk, NX_mk, endK_mk, endK_mk', add_0]
    exact this
  · rw [hb] at this
    try simp only [TUP_mk, AGG_mk, HD_mk, NL_mk, TYI_mk, TYB_mk, TYP_mk, TYL_mk, TYS_mk, TYM_mk, SO_mk, NX_mk, endK_mk, endK_mk', add_0]
    exact this
theorem c_WriteHearing {p : HrS} {x y : Option Addr} {c d : Nat} (he : Env s) (hx : RowAt s x (p.claims.flatMap cl8)) (hy : RowAt s y (p.known.flatMap wd3)) (g : HrG p)
    (hk : ∀ s', Ext s s' → K (wrT (okHr p) (txt (hrW p))) s') : CALL Pg W F_book_WriteHearing [.agg #[.int .i64 p.facts, .int .i64 p.wits, .int .i64 p.liars, .slice x p.claims.length c, .slice y p.known.length d]] K E s := by
  refine does_book_WriteHearing W p.facts p.wits p.liars x p.claims.length c y p.known.length d _ s ?_
  unfold T_book_WriteHearing
  refine NEW_rule fun s1 e1 z1 o _ => ?_
  have o0 := (o 0 _ rfl).cell
  have o1 := (o 1 _ rfl).cell
  have o2 := (o 2 _ rfl).cell
  have o3 := (o 3 _ rfl).cell
  have o4 := (o 4 _ rfl).cell
  refine ⟨_, o0, _, o1, _, o2, _, _, _, o3, _, _, _, o4, ?_⟩
  refine c_hearingFile fun s2 e2 => ?_
  try simp only [TUP_mk, AGG_mk, HD_mk, NL_mk, TYI_mk, TYB_mk, TYP_mk, TYL_mk, TYS_mk, TYM_mk, SO_mk, NX_mk, endK_mk, endK_mk', add_0]
  refine ANDS_i ⟨_, e2.cell o0, _, e2.cell o1, _, e2.cell o2, _, _, _, e2.cell o3, _, _, _, e2.cell o4, rfl⟩ ?_
  refine does_book_file_api_Hearing_write W _ _ p.facts p.wits p.liars x p.claims.length c y p.known.length d _ s2 ?_
  unfold T_book_file_api_Hearing_write
  refine ne2 fun s3 e3 z3 a0 a1 => ?_
  refine NEW_rule fun s4 e4 z4 q _ => ?_
  refine ⟨_, (e4.own a0).cell, _, (q 0 _ rfl).cell, _, (q 1 _ rfl).cell, _, (q 2 _ rfl).cell, _, _, _, (q 3 _ rfl).cell, _, _, _, (q 4 _ rfl).cell, ?_⟩
  refine CALLV_func ?_
  refine does_book_hearingFile_c1 W _ _ _ _ _ _ _ _ _ _ s4 ?_
  unfold T_book_hearingFile_c1
  refine NEW_rule fun s5 e5 z5 o5 _ => ?_
  refine ⟨_, (o5 0 _ rfl).cell, _, (o5 1 _ rfl).cell, _, (o5 2 _ rfl).cell, _, _, _, (o5 3 _ rfl).cell, _, _, _, (o5 4 _ rfl).cell, ?_⟩
  refine NEW_rule fun s6 e6 z6 o6 _ => ?_
  try simp only [TUP_mk, AGG_mk, HD_mk, NL_mk, TYI_mk, TYB_mk, TYP_mk, TYL_mk, TYS_mk, TYM_mk, SO_mk, NX_mk, endK_mk, endK_mk', add_0]
  have e06 := (e1.trans e2).trans ((e3.trans e4).trans (e5.trans e6))
  refine inv_of (f := F_book_hearing_text) (by kernel_rfl) ?_
  refine c_hearing_text (he.ext e06) ⟨(o6 0 _ rfl).cell, (o6 1 _ rfl).cell, (o6 2 _ rfl).cell, ⟨_, _, (o6 3 _ rfl).cell, hx.ext e06⟩, ⟨_, _, (o6 4 _ rfl).cell, hy.ext e06⟩⟩ g fun s7 e7 => ?_
  try simp only [TUP_mk, AGG_mk, HD_mk, NL_mk, TYI_mk, TYB_mk, TYP_mk, TYL_mk, TYS_mk, TYM_mk, SO_mk, NX_mk, endK_mk, endK_mk', add_0]
  have := hk s7 (e06.trans e7)
  unfold wrT at this
  refine BR_not (fun hb => ?_) (fun hb => ?_)
  · rw [hb] at this
    try simp only [TUP_mk, AGG_mk, HD_mk, NL_mk, TYI_mk, TYB_mk, TYP_mk, TYL_mk, TYS_mk, TYM_mk, SO_mk, NX_mk, endK_mk, endK_mk', add_0]
    exact this
  · rw [hb] at this
    try simp only [TUP_mk, AGG_mk, HD_mk, NL_mk, TYI_mk, TYB_mk, TYP_mk, TYL_mk, TYS_mk, TYM_mk, SO_mk, NX_mk, endK_mk, endK_mk', add_0]
    rw [hb]
    exact this
end
end Go.Proofs.YtcjgbanpkmpekaaGreatDoor.G

/- More of the functions' shallow texts, by gen.py. -/
set_option linter.unusedVariables false
set_option maxRecDepth 100000
namespace Go.Proofs.YtcjgbanpkmpekaaGreatDoor.G
open Go.V
def an_41 : Nat → Ann := fun b => match b with
 | _ => {}
abbrev rv_41 : List ResultVar := [.cell 4 74]
abbrev rs_41 : List Nat := [8, 4]
def T_law14_span (W : World) (n1 : Int) (n2 : Int) (R : Ending → Hp → Prop) : Hp → Prop :=
 NEWZ Pg 74 fun B3 =>
 WR (Addr.add ⟨B3, 0, none⟩ 0) (.int .i64 n1) <|
 WR (Addr.add ⟨B3, 0, none⟩ 1) (.int .i64 n2) <|
 RDI .i64 (Addr.add ⟨B3, 0, none⟩ 0) fun n4 =>
 RDI .i64 (Addr.add ⟨B3, 0, none⟩ 1) fun n5 =>
 R (.returned (.agg #[(.int .i64 n4), (.int .i64 n5)]))
theorem does_law14_span (W : World) (n1 : Int) (n2 : Int) (R : Ending → Hp → Prop) (s : Hp) (h : T_law14_span W n1 n2 R s) : Does Pg W F_law14_span #[(.int .i64 n1), (.int .i64 n2)] s R :=
  does_of_vfun Pg W an_41 Tryz.func41 rfl (by kernel_rfl) (Eq.mpr (by kernel_rfl) h)
def an_48 : Nat → Ann := fun b => match b with
 | _ => {}
abbrev rv_48 : List ResultVar := [.cell 0 25]
abbrev rs_48 : List Nat := [17, 0]
def T_law14_pegs (W : World) (R : Ending → Hp → Prop) : Hp → Prop :=
 NEWZ Pg 25 fun B1 =>
 CALLV Pg W (.func (.func 93) #[] #[]) [(.int .i64 0), (.int .i64 0), (.int .i64 0), (.int .i64 0)]
 (fun v2 => AGG v2 fun q4 => HD q4 fun v5 r6 => TYI .i64 v5 fun n7 =>
 HD r6 fun v8 r9 => TYI .i64 v8 fun n10 =>
 HD r9 fun v11 r12 => TYI .i64 v11 fun n13 =>
 HD r12 fun v14 r15 => TYI .i64 v14 fun n16 =>
 NL r15 <|
 CALLV Pg W (.func (.func 93) #[] #[]) [(.int .i64 4), (.int .i64 5), (.int .i64 0), (.int .i64 0)]
 (fun v17 => AGG v17 fun q19 => HD q19 fun v20 r21 => TYI .i64 v20 fun n22 =>
 HD r21 fun v23 r24 => TYI .i64 v23 fun n25 =>
 HD r24 fun v26 r27 => TYI .i64 v26 fun n28 =>
 HD r27 fun v29 r30 => TYI .i64 v29 fun n31 =>
 NL r30 <|
 CALLV Pg W (.func (.func 93) #[] #[]) [(.int .i64 0), (.int .i64 0), (.int .i64 3), (.int .i64 3)]
 (fun v32 => AGG v32 fun q34 => HD q34 fun v35 r36 => TYI .i64 v35 fun n37 =>
 HD r36 fun v38 r39 => TYI .i64 v38 fun n40 =>
 HD r39 fun v41 r42 => TYI .i64 v41 fun n43 =>
 HD r42 fun v44 r45 => TYI .i64 v44 fun n46 =>
 NL r45 <|
 NEW 77 [(.int .i64 n7), (.int .i64 n10), (.int .i64 n13), (.int .i64 n16), (.int .i64 n22), (.int .i64 n25), (.int .i64 n28), (.int .i64 n31), (.int .i64 n37), (.int .i64 n40), (.int .i64 n43), (.int .i64 n46)] fun B47 =>
 CALL Pg W F_law14_span [(.int .i64 7), (.int .i64 7)]
 (fun v48 => AGG v48 fun q50 => HD q50 fun v51 r52 => TYI .i64 v51 fun n53 =>
 HD r52 fun v54 r55 => TYI .i64 v54 fun n56 =>
 NL r55 <|
 CALL Pg W F_law14_span [(.int .i64 3), (.int .i64 3)]
 (fun v57 => AGG v57 fun q59 => HD q59 fun v60 r61 => TYI .i64 v60 fun n62 =>
 HD r61 fun v63 r64 => TYI .i64 v63 fun n65 =>
 NL r64 <|
 CALL Pg W F_law14_span [(.int .i64 7), (.int .i64 8)]
 (fun v66 => AGG v66 fun q68 => HD q68 fun v69 r70 => TYI .i64 v69 fun n71 =>
 HD r70 fun v72 r73 => TYI .i64 v72 fun n74 =>
 NL r73 <|
 NEW 83 [(.int .i64 0), (.int .i64 1), (.int .i64 n53), (.int .i64 n56), (.int .i64 0), (.int .i64 2), (.int .i64 n62), (.int .i64 n65), (.int .i64 1), (.int .i64 2), (.int .i64 n71), (.int .i64 n74)] fun B75 =>
 WR (Addr.add ⟨B1, 0, none⟩ 0) (.int .i64 12) <|
 WR (Addr.add ⟨B1, 0, none⟩ 1) (.slice (some ⟨B47, 0, none⟩) 3 3) <|
 WR (Addr.add ⟨B1, 0, none⟩ 2) (.slice (some ⟨B75, 0, none⟩) 3 3) <|
 RDI .i64 (Addr.add ⟨B1, 0, none⟩ 0) fun n76 =>
 RDL (Addr.add ⟨B1, 0, none⟩ 1) fun x77 l78 c79 =>
 RDL (Addr.add ⟨B1, 0, none⟩ 2) fun x80 l81 c82 =>
 R (.returned (.agg #[(.int .i64 n76), (.slice x77 l78 c79), (.slice x80 l81 c82)])))
 (fun e67 => R (.panicked e67)))
 (fun e58 => R (.panicked e58)))
 (fun e49 => R (.panicked e49)))
 (fun e33 => R (.panicked e33)))
 (fun e18 => R (.panicked e18)))
 (fun e3 => R (.panicked e3))
theorem does_law14_pegs (W : World) (R : Ending → Hp → Prop) (s : Hp) (h : T_law14_pegs W R s) : Does Pg W F_law14_pegs #[] s R :=
  does_of_vfun Pg W an_48 Tryz.func48 rfl (by kernel_rfl) (Eq.mpr (by kernel_rfl) h)
def an_49 : Nat → Ann := fun b => match b with
 | _ => {}
abbrev rv_49 : List ResultVar := [.cell 0 29]
abbrev rs_49 : List Nat := [7, 0]
def T_law14_panels (W : World) (R : Ending → Hp → Prop) : Hp → Prop :=
 NEWZ Pg 29 fun B1 =>
 NEW 3 [(.int .i64 2), (.int .i64 2), (.int .i64 1)] fun B2 =>
 NEW 3 [(.int .i64 2), (.int .i64 1), (.int .i64 2)] fun B3 =>
 NEW 85 [(.int .i64 0), (.int .i64 2), (.int .i64 2), (.int .i64 1)] fun B4 =>
 WR (Addr.add ⟨B1, 0, none⟩ 0) (.slice (some ⟨B2, 0, none⟩) 3 3) <|
 WR (Addr.add ⟨B1, 0, none⟩ 1) (.slice (some ⟨B3, 0, none⟩) 3 3) <|
 WR (Addr.add ⟨B1, 0, none⟩ 2) (.slice (some ⟨B4, 0, none⟩) 2 2) <|
 RDL (Addr.add ⟨B1, 0, none⟩ 0) fun x5 l6 c7 =>
 RDL (Addr.add ⟨B1, 0, none⟩ 1) fun x8 l9 c10 =>
 RDL (Addr.add ⟨B1, 0, none⟩ 2) fun x11 l12 c13 =>
 R (.returned (.agg #[(.slice x5 l6 c7), (.slice x8 l9 c10), (.slice x11 l12 c13)]))
theorem does_law14_panels (W : World) (R : Ending → Hp → Prop) (s : Hp) (h : T_law14_panels W R s) : Does Pg W F_law14_panels #[] s R :=
  does_of_vfun Pg W an_49 Tryz.func49 rfl (by kernel_rfl) (Eq.mpr (by kernel_rfl) h)
def an_50 : Nat → Ann := fun b => match b with
 | _ => {}
abbrev rv_50 : List ResultVar := [.cell 0 34]
abbrev rs_50 : List Nat := [12, 0]
def T_law14_hearing (W : World) (R : Ending → Hp → Prop) : Hp → Prop :=
 NEWZ Pg 34 fun B1 =>
 NEW 122 [(.int .i64 0), (.int .i64 0), (.bool false), (.int .i64 0), (.bool false), (.bool false), (.int .i64 0), (.bool false), (.int .i64 1), (.int .i64 0), (.bool false), (.int .i64 0), (.bool true), (.bool false), (.int .i64 0), (.bool false), (.int .i64 2), (.int .i64 1), (.bool true), (.int .i64 1), (.bool true), (.bool false), (.int .i64 1), (.bool false)] fun B2 =>
 NEW 79 [(.bool false), (.int .i64 1), (.bool true)] fun B3 =>
 WR (Addr.add ⟨B1, 0, none⟩ 0) (.int .i64 2) <|
 WR (Addr.add ⟨B1, 0, none⟩ 1) (.int .i64 3) <|
 WR (Addr.add ⟨B1, 0, none⟩ 2) (.int .i64 1) <|
 WR (Addr.add ⟨B1, 0, none⟩ 3) (.slice (some ⟨B2, 0, none⟩) 3 3) <|
 WR (Addr.add ⟨B1, 0, none⟩ 4) (.slice (some ⟨B3, 0, none⟩) 1 1) <|
 RDI .i64 (Addr.add ⟨B1, 0, none⟩ 0) fun n4 =>
 RDI .i64 (Addr.add ⟨B1, 0, none⟩ 1) fun n5 =>
 RDI .i64 (Addr.add ⟨B1, 0, none⟩ 2) fun n6 =>
 RDL (Addr.add ⟨B1, 0, none⟩ 3) fun x7 l8 c9 =>
 RDL (Addr.add ⟨B1, 0, none⟩ 4) fun x10 l11 c12 =>
 R (.returned (.agg #[(.int .i64 n4), (.int .i64 n5), (.int .i64 n6), (.slice x7 l8 c9), (.slice x10 l11 c12)]))
theorem does_law14_hearing (W : World) (R : Ending → Hp → Prop) (s : Hp) (h : T_law14_hearing W R s) : Does Pg W F_law14_hearing #[] s R :=
  does_of_vfun Pg W an_50 Tryz.func50 rfl (by kernel_rfl) (Eq.mpr (by kernel_rfl) h)
def an_51 : Nat → Ann := fun b => match b with
 | 0 => { ms := [18], ks := [.i .i64], us := [0, 1, 17, 28], rt := false, ex := [] }
 | _ => {}
abbrev rv_51 : List ResultVar := [.cell 0 37]
abbrev rs_51 : List Nat := [28, 0]
def L_law14_furrow_0 (W : World) (R : Ending → Hp → Prop) (za0 : Addr) (za1 : Addr) (zn2 : Int) (n98 : Int) : Hp → Prop :=
 LOOPN [.i .i64] (fun ys next s => ∀ j : Tm, vc Pg W 28 rs_51 an_51 false (sub (bodyOf Tryz.f51) [1, 1, 0, 1, 0, 0]) 0 (KLoop [18] [0, 1, 17, 28] [(.pointer (some za0)), (.pointer (some za1)), (.int .i64 zn2), (.tuple #[])] next (KBlk 0 (KS Pg W 28 rs_51 an_51 false (sub (bodyOf Tryz.f51) [1, 1, 1]) 0 (fin Pg W 28 rv_51 R)))) (known [18] ys (known [0, 1, 17, 28] [(.pointer (some za0)), (.pointer (some za1)), (.int .i64 zn2), (.tuple #[])] j)) s) [(.int .i64 n98)]
def B_law14_furrow_0 (W : World) (R : Ending → Hp → Prop) (za0 : Addr) (za1 : Addr) (zn2 : Int) (n98 : Int) (nx0 : List Value → Hp → Prop) : Hp → Prop :=
 BR (decide (n98 < zn2))
 (RDL (Addr.add za1 1) fun x99 l100 c101 =>
 CALL Pg W F_law14_span [(.int .i64 30), (.int .i64 30)]
 (fun v102 => AGG v102 fun q104 => HD q104 fun v105 r106 => TYI .i64 v105 fun n107 =>
 HD r106 fun v108 r109 => TYI .i64 v108 fun n110 =>
 NL r109 <|
 ANDS (RDL (Addr.add za1 1) fun x111 l112 c113 =>
 fun _ => ((.slice x111 l112 c113) : Value) = (.slice x99 l100 c101)) <|
 NEW 74 [(.int .i64 n107), (.int .i64 n110)] fun B114 =>
 ANDS (RDL (Addr.add za1 1) fun x115 l116 c117 =>
 fun _ => ((.slice x115 l116 c117) : Value) = (.slice x99 l100 c101)) <|
 APP Pg 74 2 x99 l100 c101 (some ⟨B114, 0, none⟩) 1 fun x118 l119 c120 =>
 WR (Addr.add (Addr.add za1 1) 0) (.slice x118 l119 c120) <|
 NX [(.pointer (some za0)), (.pointer (some za1)), (.int .i64 zn2), (.tuple #[])] [(.pointer (some za0)), (.pointer (some za1)), (.int .i64 zn2), (.tuple #[])] (nx0 [(.int .i64 (IntKind.wrap .i64 (n98 + 1)))]))
 (fun e103 => R (.panicked e103)))
 (RDL (Addr.add za1 0) fun x121 l122 c123 =>
 RDL (Addr.add za1 1) fun x124 l125 c126 =>
 RDL (Addr.add za1 2) fun x127 l128 c129 =>
 WR (Addr.add za0 0) (.slice x121 l122 c123) <|
 WR (Addr.add za0 1) (.slice x124 l125 c126) <|
 WR (Addr.add za0 2) (.slice x127 l128 c129) <|
 RDL (Addr.add za0 0) fun x130 l131 c132 =>
 RDL (Addr.add za0 1) fun x133 l134 c135 =>
 RDL (Addr.add za0 2) fun x136 l137 c138 =>
 R (.returned (.agg #[(.slice x130 l131 c132), (.slice x133 l134 c135), (.slice x136 l137 c138)])))
theorem B_law14_furrow_0_eq (W : World) (R : Ending → Hp → Prop) (za0 : Addr) (za1 : Addr) (zn2 : Int) (n98 : Int) (nx0 : List Value → Hp → Prop) (j : Tm) : vc Pg W 28 rs_51 an_51 false (sub (bodyOf Tryz.f51) [1, 1, 0, 1, 0, 0]) 0 (KLoop [18] [0, 1, 17, 28] [(.pointer (some za0)), (.pointer (some za1)), (.int .i64 zn2), (.tuple #[])] nx0 (KBlk 0 (KS Pg W 28 rs_51 an_51 false (sub (bodyOf Tryz.f51) [1, 1, 1]) 0 (fin Pg W 28 rv_51 R)))) (known [18] [(.int .i64 n98)] (known [0, 1, 17, 28] [(.pointer (some za0)), (.pointer (some za1)), (.int .i64 zn2), (.tuple #[])] j)) = B_law14_furrow_0 W R za0 za1 zn2 n98 nx0 := by kernel_rfl
def N_law14_furrow_0 (I : Int → Hp → Prop) (μ : Int → Hp → Nat) (n980 : Int) (s : Hp) (vs : List Value) : Hp → Prop := fun s' => ∃ n98, vs = [(.int .i64 n98)] ∧ I n98 s' ∧ μ n98 s' < μ n980 s
theorem L_law14_furrow_0_rule (W : World) (R : Ending → Hp → Prop) (za0 : Addr) (za1 : Addr) (zn2 : Int) (I : Int → Hp → Prop) (μ : Int → Hp → Nat) (n980 : Int) (s : Hp) (h0 : I n980 s)
    (hr : ∀ (n98 : Int) (s : Hp), I n98 s → B_law14_furrow_0 W R za0 za1 zn2 n98 (fun vs => N_law14_furrow_0 I μ n98 s vs) s) : L_law14_furrow_0 W R za0 za1 zn2 n980 s := by
  refine ⟨fun vs s => ∃ n98, vs = [(.int .i64 n98)] ∧ I n98 s, fun vs s => (match vs with | [.int _ n98] => μ n98 s | _ => 0), ⟨⟨⟨_, rfl⟩, trivial⟩, ⟨_, rfl, h0⟩⟩, ?_⟩
  intro n98 s hI j
  obtain ⟨n98', hy, hI⟩ := hI
  have hI' : I n98 s := by cases hy; exact hI
  have hh := hr n98 s hI'
  rw [← B_law14_furrow_0_eq W R za0 za1 zn2 n98 _ j] at hh
  refine vc_mono ?_ _ _ hh
  exact KLoop_mono (fun vs s' h => by obtain ⟨n981, rfl, h1, h2⟩ := h; exact ⟨⟨⟨_, rfl⟩, trivial⟩, ⟨_, rfl, h1⟩, h2⟩)
def T_law14_furrow (W : World) (R : Ending → Hp → Prop) : Hp → Prop :=
 NEWZ Pg 37 fun B1 =>
 CALL Pg W F_law14_span [(.int .i64 0), (.int .i64 1)]
 (fun v2 => AGG v2 fun q4 => HD q4 fun v5 r6 => TYI .i64 v5 fun n7 =>
 HD r6 fun v8 r9 => TYI .i64 v8 fun n10 =>
 NL r9 <|
 CALL Pg W F_law14_span [(.int .i64 2), (.int .i64 3)]
 (fun v11 => AGG v11 fun q13 => HD q13 fun v14 r15 => TYI .i64 v14 fun n16 =>
 HD r15 fun v17 r18 => TYI .i64 v17 fun n19 =>
 NL r18 <|
 CALL Pg W F_law14_span [(.int .i64 0), (.int .i64 0)]
 (fun v20 => AGG v20 fun q22 => HD q22 fun v23 r24 => TYI .i64 v23 fun n25 =>
 HD r24 fun v26 r27 => TYI .i64 v26 fun n28 =>
 NL r27 <|
 CALL Pg W F_law14_span [(.int .i64 1), (.int .i64 1)]
 (fun v29 => AGG v29 fun q31 => HD q31 fun v32 r33 => TYI .i64 v32 fun n34 =>
 HD r33 fun v35 r36 => TYI .i64 v35 fun n37 =>
 NL r36 <|
 CALL Pg W F_law14_span [(.int .i64 5), (.int .i64 6)]
 (fun v38 => AGG v38 fun q40 => HD q40 fun v41 r42 => TYI .i64 v41 fun n43 =>
 HD r42 fun v44 r45 => TYI .i64 v44 fun n46 =>
 NL r45 <|
 NEW 74 [(.int .i64 n7), (.int .i64 n10), (.int .i64 n16), (.int .i64 n19), (.int .i64 n25), (.int .i64 n28), (.int .i64 n34), (.int .i64 n37), (.int .i64 n43), (.int .i64 n46)] fun B47 =>
 CALL Pg W F_law14_span [(.int .i64 15), (.int .i64 16)]
 (fun v48 => AGG v48 fun q50 => HD q50 fun v51 r52 => TYI .i64 v51 fun n53 =>
 HD r52 fun v54 r55 => TYI .i64 v54 fun n56 =>
 NL r55 <|
 CALL Pg W F_law14_span [(.int .i64 14), (.int .i64 18)]
 (fun v57 => AGG v57 fun q59 => HD q59 fun v60 r61 => TYI .i64 v60 fun n62 =>
 HD r61 fun v63 r64 => TYI .i64 v63 fun n65 =>
 NL r64 <|
 CALL Pg W F_law14_span [(.int .i64 15), (.int .i64 15)]
 (fun v66 => AGG v66 fun q68 => HD q68 fun v69 r70 => TYI .i64 v69 fun n71 =>
 HD r70 fun v72 r73 => TYI .i64 v72 fun n74 =>
 NL r73 <|
 CALL Pg W F_law14_span [(.int .i64 12), (.int .i64 14)]
 (fun v75 => AGG v75 fun q77 => HD q77 fun v78 r79 => TYI .i64 v78 fun n80 =>
 HD r79 fun v81 r82 => TYI .i64 v81 fun n83 =>
 NL r82 <|
 CALL Pg W F_law14_span [(.int .i64 16), (.int .i64 17)]
 (fun v84 => AGG v84 fun q86 => HD q86 fun v87 r88 => TYI .i64 v87 fun n89 =>
 HD r88 fun v90 r91 => TYI .i64 v90 fun n92 =>
 NL r91 <|
 NEW 74 [(.int .i64 n53), (.int .i64 n56), (.int .i64 n62), (.int .i64 n65), (.int .i64 n71), (.int .i64 n74), (.int .i64 n80), (.int .i64 n83), (.int .i64 n89), (.int .i64 n92)] fun B93 =>
 NEWZ Pg 37 fun B94 =>
 WR (Addr.add ⟨B94, 0, none⟩ 0) (.slice (some ⟨B47, 0, none⟩) 5 5) <|
 WR (Addr.add ⟨B94, 0, none⟩ 1) (.slice none 0 0) <|
 WR (Addr.add ⟨B94, 0, none⟩ 2) (.slice (some ⟨B93, 0, none⟩) 5 5) <|
 RDL (Addr.add ⟨B94, 0, none⟩ 0) fun x95 l96 c97 =>
 L_law14_furrow_0 W R ⟨B1, 0, none⟩ ⟨B94, 0, none⟩ (↑l96 : Int) 0)
 (fun e85 => R (.panicked e85)))
 (fun e76 => R (.panicked e76)))
 (fun e67 => R (.panicked e67)))
 (fun e58 => R (.panicked e58)))
 (fun e49 => R (.panicked e49)))
 (fun e39 => R (.panicked e39)))
 (fun e30 => R (.panicked e30)))
 (fun e21 => R (.panicked e21)))
 (fun e12 => R (.panicked e12)))
 (fun e3 => R (.panicked e3))
theorem does_law14_furrow (W : World) (R : Ending → Hp → Prop) (s : Hp) (h : T_law14_furrow W R s) : Does Pg W F_law14_furrow #[] s R :=
  does_of_vfun Pg W an_51 Tryz.func51 rfl (by kernel_rfl) (Eq.mpr (by kernel_rfl) h)
def an_93 : Nat → Ann := fun b => match b with
 | _ => {}
abbrev rv_93 : List ResultVar := [.cell 8 77]
abbrev rs_93 : List Nat := [16, 8]
def T_law14_pegs_c1 (W : World) (n1 : Int) (n2 : Int) (n3 : Int) (n4 : Int) (R : Ending → Hp → Prop) : Hp → Prop :=
 NEWZ Pg 77 fun B5 =>
 CALL Pg W F_law14_span [(.int .i64 n1), (.int .i64 n2)]
 (fun v6 => AGG v6 fun q8 => HD q8 fun v9 r10 => TYI .i64 v9 fun n11 =>
 HD r10 fun v12 r13 => TYI .i64 v12 fun n14 =>
 NL r13 <|
 CALL Pg W F_law14_span [(.int .i64 n3), (.int .i64 n4)]
 (fun v15 => AGG v15 fun q17 => HD q17 fun v18 r19 => TYI .i64 v18 fun n20 =>
 HD r19 fun v21 r22 => TYI .i64 v21 fun n23 =>
 NL r22 <|
 WR (Addr.add ⟨B5, 0, none⟩ 0) (.int .i64 n11) <|
 WR (Addr.add ⟨B5, 0, none⟩ 1) (.int .i64 n14) <|
 WR (Addr.add ⟨B5, 0, none⟩ 2) (.int .i64 n20) <|
 WR (Addr.add ⟨B5, 0, none⟩ 3) (.int .i64 n23) <|
 RDI .i64 (Addr.add ⟨B5, 0, none⟩ 0) fun n24 =>
 RDI .i64 (Addr.add ⟨B5, 0, none⟩ 1) fun n25 =>
 RDI .i64 (Addr.add ⟨B5, 0, none⟩ 2) fun n26 =>
 RDI .i64 (Addr.add ⟨B5, 0, none⟩ 3) fun n27 =>
 R (.returned (.agg #[(.int .i64 n24), (.int .i64 n25), (.int .i64 n26), (.int .i64 n27)])))
 (fun e16 => R (.panicked e16)))
 (fun e7 => R (.panicked e7))
theorem does_law14_pegs_c1 (W : World) (n1 : Int) (n2 : Int) (n3 : Int) (n4 : Int) (R : Ending → Hp → Prop) (s : Hp) (h : T_law14_pegs_c1 W n1 n2 n3 n4 R s) : Does Pg W F_law14_pegs_c1 #[(.int .i64 n1), (.int .i64 n2), (.int .i64 n3), (.int .i64 n4)] s R :=
  does_of_vfun Pg W an_93 Tryz.func93 rfl (by kernel_rfl) (Eq.mpr (by kernel_rfl) h)
end Go.Proofs.YtcjgbanpkmpekaaGreatDoor.G
