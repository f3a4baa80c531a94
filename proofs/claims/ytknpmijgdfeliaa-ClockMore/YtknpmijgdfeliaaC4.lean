import Derived.Test.YtknpmijgdfeliaaC3
/- Lemmas: contracts over the visible heap, and that they are sound; no condition. -/
/- More of the functions' shallow texts, by gen.py. -/
set_option linter.unusedVariables false
set_option maxRecDepth 100000
namespace Go.Proofs.Ytknpmijgdfeliaa.G
open Go.V
def an_9 : Nat → Ann := fun b => match b with
 | 0 => { ms := [7, 27], ks := [.i .i64, .i .i64], us := [1, 2, 3, 6, 25, 26, 61], rt := false, ex := [] }
 | _ => {}
abbrev rv_9 : List ResultVar := [.tmp 6]
abbrev rs_9 : List Nat := [61, 6]
def L_law07_heavy_0 (W : World) (R : Ending → Hp → Prop) (zn0 : Int) (zn1 : Int) (za2 : Addr) (zp3 : Option Addr) (zl4 : Nat) (zl5 : Nat) (zn6 : Int) (n39 : Int) (n40 : Int) : Hp → Prop :=
 LOOPN [.i .i64, .i .i64] (fun ys next s => ∀ j : Tm, vc Pg W 61 rs_9 an_9 false (sub (bodyOf Try.f9) [1, 1, 1, 1, 0, 1, 0, 0]) 0 (KLoop [7, 27] [1, 2, 3, 6, 25, 26, 61] [(.int .i64 zn0), (.int .i64 zn1), (.pointer (some za2)), (.bool false), (.slice zp3 zl4 zl5), (.int .i64 zn6), (.tuple #[])] next (KBlk 0 (KS Pg W 61 rs_9 an_9 false (sub (bodyOf Try.f9) [1, 1, 1, 1, 1]) 0 (fin Pg W 61 rv_9 R)))) (known [7, 27] ys (known [1, 2, 3, 6, 25, 26, 61] [(.int .i64 zn0), (.int .i64 zn1), (.pointer (some za2)), (.bool false), (.slice zp3 zl4 zl5), (.int .i64 zn6), (.tuple #[])] j)) s) [(.int .i64 n39), (.int .i64 n40)]
def B_law07_heavy_0 (W : World) (R : Ending → Hp → Prop) (zn0 : Int) (zn1 : Int) (za2 : Addr) (zp3 : Option Addr) (zl4 : Nat) (zl5 : Nat) (zn6 : Int) (n39 : Int) (n40 : Int) (nx0 : List Value → Hp → Prop) : Hp → Prop :=
 BR (decide (n40 < zn6))
 (IXS zp3 zl4 n40 4 fun a41 =>
 RDI .i64 (Addr.add a41 0) fun n42 =>
 RDI .i64 (Addr.add a41 1) fun n43 =>
 RDI .i64 (Addr.add a41 2) fun n44 =>
 RDI .i64 (Addr.add a41 3) fun n45 =>
 NEWZ Pg 66 fun B46 =>
 WR (Addr.add ⟨B46, 0, none⟩ 0) (.int .i64 n42) <|
 WR (Addr.add ⟨B46, 0, none⟩ 1) (.int .i64 n43) <|
 WR (Addr.add ⟨B46, 0, none⟩ 2) (.int .i64 n44) <|
 WR (Addr.add ⟨B46, 0, none⟩ 3) (.int .i64 n45) <|
 RDI .i64 (Addr.add (Addr.add ⟨B46, 0, none⟩ 0) 1) fun n47 =>
 RDI .i64 (Addr.add (Addr.add ⟨B46, 0, none⟩ 0) 0) fun n48 =>
 RDI .i64 (Addr.add (Addr.add ⟨B46, 0, none⟩ 2) 1) fun n49 =>
 RDI .i64 (Addr.add (Addr.add ⟨B46, 0, none⟩ 2) 0) fun n50 =>
 NX [(.int .i64 zn0), (.int .i64 zn1), (.pointer (some za2)), (.bool false), (.slice zp3 zl4 zl5), (.int .i64 zn6), (.tuple #[])] [(.int .i64 zn0), (.int .i64 zn1), (.pointer (some za2)), (.bool false), (.slice zp3 zl4 zl5), (.int .i64 zn6), (.tuple #[])] (nx0 [(.int .i64 (IntKind.wrap .i64 (n39 * (IntKind.wrap .i64 ((IntKind.wrap .i64 ((IntKind.wrap .i64 (n47 - n48)) + 1)) * (IntKind.wrap .i64 ((IntKind.wrap .i64 (n49 - n50)) + 1))))))), (.int .i64 (IntKind.wrap .i64 (n40 + 1)))]))
 (BR (decide (n39 > zn0))
 (R (.returned (.bool true)))
 (RDL (Addr.add za2 2) fun x51 l52 c53 =>
 R (.returned (.bool (decide ((↑l52 : Int) > zn1))))))
theorem B_law07_heavy_0_eq (W : World) (R : Ending → Hp → Prop) (zn0 : Int) (zn1 : Int) (za2 : Addr) (zp3 : Option Addr) (zl4 : Nat) (zl5 : Nat) (zn6 : Int) (n39 : Int) (n40 : Int) (nx0 : List Value → Hp → Prop) (j : Tm) : vc Pg W 61 rs_9 an_9 false (sub (bodyOf Try.f9) [1, 1, 1, 1, 0, 1, 0, 0]) 0 (KLoop [7, 27] [1, 2, 3, 6, 25, 26, 61] [(.int .i64 zn0), (.int .i64 zn1), (.pointer (some za2)), (.bool false), (.slice zp3 zl4 zl5), (.int .i64 zn6), (.tuple #[])] nx0 (KBlk 0 (KS Pg W 61 rs_9 an_9 false (sub (bodyOf Try.f9) [1, 1, 1, 1, 1]) 0 (fin Pg W 61 rv_9 R)))) (known [7, 27] [(.int .i64 n39), (.int .i64 n40)] (known [1, 2, 3, 6, 25, 26, 61] [(.int .i64 zn0), (.int .i64 zn1), (.pointer (some za2)), (.bool false), (.slice zp3 zl4 zl5), (.int .i64 zn6), (.tuple #[])] j)) = B_law07_heavy_0 W R zn0 zn1 za2 zp3 zl4 zl5 zn6 n39 n40 nx0 := by kernel_rfl
def N_law07_heavy_0 (I : Int → Int → Hp → Prop) (μ : Int → Int → Hp → Nat) (n390 : Int) (n400 : Int) (s : Hp) (vs : List Value) : Hp → Prop := fun s' => ∃ n39 n40, vs = [(.int .i64 n39), (.int .i64 n40)] ∧ I n39 n40 s' ∧ μ n39 n40 s' < μ n390 n400 s
theorem L_law07_heavy_0_rule (W : World) (R : Ending → Hp → Prop) (zn0 : Int) (zn1 : Int) (za2 : Addr) (zp3 : Option Addr) (zl4 : Nat) (zl5 : Nat) (zn6 : Int) (I : Int → Int → Hp → Prop) (μ : Int → Int → Hp → Nat) (n390 : Int) (n400 : Int) (s : Hp) (h0 : I n390 n400 s)
    (hr : ∀ (n39 : Int) (n40 : Int) (s : Hp), I n39 n40 s → B_law07_heavy_0 W R zn0 zn1 za2 zp3 zl4 zl5 zn6 n39 n40 (fun vs => N_law07_heavy_0 I μ n39 n40 s vs) s) : L_law07_heavy_0 W R zn0 zn1 za2 zp3 zl4 zl5 zn6 n390 n400 s := by
  refine ⟨fun vs s => ∃ n39 n40, vs = [(.int .i64 n39), (.int .i64 n40)] ∧ I n39 n40 s, fun vs s => (match vs with | [.int _ n39, .int _ n40] => μ n39 n40 s | _ => 0), ⟨⟨⟨_, rfl⟩, ⟨⟨_, rfl⟩, trivial⟩⟩, ⟨_, _, rfl, h0⟩⟩, ?_⟩
  intro n39 n40 s hI j
  obtain ⟨n39', n40', hy, hI⟩ := hI
  have hI' : I n39 n40 s := by cases hy; exact hI
  have hh := hr n39 n40 s hI'
  rw [← B_law07_heavy_0_eq W R zn0 zn1 za2 zp3 zl4 zl5 zn6 n39 n40 _ j] at hh
  refine vc_mono ?_ _ _ hh
  exact KLoop_mono (fun vs s' h => by obtain ⟨n391, n401, rfl, h1, h2⟩ := h; exact ⟨⟨⟨_, rfl⟩, ⟨⟨_, rfl⟩, trivial⟩⟩, ⟨_, _, rfl, h1⟩, h2⟩)
def T_law07_heavy (W : World) (x1 : Option Addr) (l2 : Nat) (c3 : Nat) (n4 : Int) (x5 : Option Addr) (l6 : Nat) (c7 : Nat) (x8 : Option Addr) (l9 : Nat) (c10 : Nat) (n11 : Int) (n12 : Int) (R : Ending → Hp → Prop) : Hp → Prop :=
 NEW 26 [(.slice x1 l2 c3), (.int .i64 n4), (.slice x5 l6 c7), (.slice x8 l9 c10)] fun B13 =>
 RDL (Addr.add ⟨B13, 0, none⟩ 0) fun x14 l15 c16 =>
 RDL (Addr.add ⟨B13, 0, none⟩ 2) fun x17 l18 c19 =>
 RDL (Addr.add ⟨B13, 0, none⟩ 3) fun x20 l21 c22 =>
 BR (decide ((if (↑l21 : Int) > (if (↑l18 : Int) > (↑l15 : Int) then (↑l18 : Int) else (↑l15 : Int)) then (↑l21 : Int) else (if (↑l18 : Int) > (↑l15 : Int) then (↑l18 : Int) else (↑l15 : Int))) > 40))
 (R (.returned (.bool true)))
 (RDL (Addr.add ⟨B13, 0, none⟩ 0) fun x23 l24 c25 =>
 RDI .i64 (Addr.add ⟨B13, 0, none⟩ 1) fun n26 =>
 RDL (Addr.add ⟨B13, 0, none⟩ 2) fun x27 l28 c29 =>
 RDL (Addr.add ⟨B13, 0, none⟩ 3) fun x30 l31 c32 =>
 CALL Pg W F_ref07_Clock [(.agg #[(.slice x23 l24 c25), (.int .i64 n26), (.slice x27 l28 c29), (.slice x30 l31 c32)])]
 (fun v33 => TYB v33 fun b35 =>
 BR (!b35)
 (R (.returned (.bool false)))
 (RDL (Addr.add ⟨B13, 0, none⟩ 0) fun x36 l37 c38 =>
 L_law07_heavy_0 W R n11 n12 ⟨B13, 0, none⟩ x36 l37 c38 (↑l37 : Int) 1 0))
 (fun e34 => R (.panicked e34)))
theorem T_law07_heavy_eq (W : World) (x1 : Option Addr) (l2 : Nat) (c3 : Nat) (n4 : Int) (x5 : Option Addr) (l6 : Nat) (c7 : Nat) (x8 : Option Addr) (l9 : Nat) (c10 : Nat) (n11 : Int) (n12 : Int) (R : Ending → Hp → Prop) : vfun Pg W an_9 Try.f9 [(.agg #[(.slice x1 l2 c3), (.int .i64 n4), (.slice x5 l6 c7), (.slice x8 l9 c10)]), (.int .i64 n11), (.int .i64 n12)] R = T_law07_heavy W x1 l2 c3 n4 x5 l6 c7 x8 l9 c10 n11 n12 R := by kernel_rfl
theorem does_law07_heavy (W : World) (x1 : Option Addr) (l2 : Nat) (c3 : Nat) (n4 : Int) (x5 : Option Addr) (l6 : Nat) (c7 : Nat) (x8 : Option Addr) (l9 : Nat) (c10 : Nat) (n11 : Int) (n12 : Int) (R : Ending → Hp → Prop) (s : Hp) (h : T_law07_heavy W x1 l2 c3 n4 x5 l6 c7 x8 l9 c10 n11 n12 R s) : Does Pg W F_law07_heavy #[(.agg #[(.slice x1 l2 c3), (.int .i64 n4), (.slice x5 l6 c7), (.slice x8 l9 c10)]), (.int .i64 n11), (.int .i64 n12)] s R :=
  does_of_vfun Pg W an_9 Try.func9 rfl (by kernel_rfl) (by rw [T_law07_heavy_eq]; exact h)
def an_16 : Nat → Ann := fun b => match b with
 | 0 => { ms := [13], ks := [.i .i64], us := [1, 4, 5, 11, 12, 31], rt := false, ex := [] }
 | _ => {}
abbrev rv_16 : List ResultVar := [.cell 4 26]
abbrev rs_16 : List Nat := [31, 4]
def L_law07_part_0 (W : World) (R : Ending → Hp → Prop) (zn0 : Int) (za1 : Addr) (za2 : Addr) (zp3 : Option Addr) (zl4 : Nat) (zl5 : Nat) (zn6 : Int) (n28 : Int) : Hp → Prop :=
 LOOPN [.i .i64] (fun ys next s => ∀ j : Tm, vc Pg W 31 rs_16 an_16 false (sub (bodyOf Try.f16) [1, 1, 1, 0, 1, 0, 0]) 0 (KLoop [13] [1, 4, 5, 11, 12, 31] [(.int .i64 zn0), (.pointer (some za1)), (.pointer (some za2)), (.slice zp3 zl4 zl5), (.int .i64 zn6), (.tuple #[])] next (KBlk 0 (KS Pg W 31 rs_16 an_16 false (sub (bodyOf Try.f16) [1, 1, 1, 1]) 0 (fin Pg W 31 rv_16 R)))) (known [13] ys (known [1, 4, 5, 11, 12, 31] [(.int .i64 zn0), (.pointer (some za1)), (.pointer (some za2)), (.slice zp3 zl4 zl5), (.int .i64 zn6), (.tuple #[])] j)) s) [(.int .i64 n28)]
def J_law07_part_0 (W : World) (R : Ending → Hp → Prop) (zn0 : Int) (za1 : Addr) (za2 : Addr) (zp3 : Option Addr) (zl4 : Nat) (zl5 : Nat) (zn6 : Int) (nx0 : List Value → Hp → Prop) (n28 : Int) : Hp → Prop :=
 NX [(.int .i64 zn0), (.pointer (some za1)), (.pointer (some za2)), (.slice zp3 zl4 zl5), (.int .i64 zn6), (.tuple #[])] [(.int .i64 zn0), (.pointer (some za1)), (.pointer (some za2)), (.slice zp3 zl4 zl5), (.int .i64 zn6), (.tuple #[])] (nx0 [(.int .i64 (IntKind.wrap .i64 (n28 + 1)))])
def B_law07_part_0 (W : World) (R : Ending → Hp → Prop) (zn0 : Int) (za1 : Addr) (za2 : Addr) (zp3 : Option Addr) (zl4 : Nat) (zl5 : Nat) (zn6 : Int) (n28 : Int) (nx0 : List Value → Hp → Prop) : Hp → Prop :=
 BR (decide (n28 < zn6))
 (IXS zp3 zl4 n28 3 fun a29 =>
 RDI .i64 (Addr.add a29 0) fun n30 =>
 RDI .i64 (Addr.add a29 1) fun n31 =>
 RDI .i64 (Addr.add a29 2) fun n32 =>
 NEWZ Pg 61 fun B33 =>
 WR (Addr.add ⟨B33, 0, none⟩ 0) (.int .i64 n30) <|
 WR (Addr.add ⟨B33, 0, none⟩ 1) (.int .i64 n31) <|
 WR (Addr.add ⟨B33, 0, none⟩ 2) (.int .i64 n32) <|
 NNI n28 <|
 BR ((andv .i64 (shrv .i64 zn0 n28) 1) == 1)
 (RDL (Addr.add za2 2) fun x34 l35 c36 =>
 RDI .i64 (Addr.add ⟨B33, 0, none⟩ 0) fun n37 =>
 RDI .i64 (Addr.add ⟨B33, 0, none⟩ 1) fun n38 =>
 RDI .i64 (Addr.add ⟨B33, 0, none⟩ 2) fun n39 =>
 NEW 61 [(.int .i64 n37), (.int .i64 n38), (.int .i64 n39)] fun B40 =>
 APP Pg 61 3 x34 l35 c36 (some ⟨B40, 0, none⟩) 1 fun x41 l42 c43 =>
 WR (Addr.add (Addr.add za2 2) 0) (.slice x41 l42 c43) <|
 J_law07_part_0 W R zn0 za1 za2 zp3 zl4 zl5 zn6 nx0 n28)
 (J_law07_part_0 W R zn0 za1 za2 zp3 zl4 zl5 zn6 nx0 n28))
 (RDL (Addr.add za2 0) fun x44 l45 c46 =>
 RDI .i64 (Addr.add za2 1) fun n47 =>
 RDL (Addr.add za2 2) fun x48 l49 c50 =>
 RDL (Addr.add za2 3) fun x51 l52 c53 =>
 WR (Addr.add za1 0) (.slice x44 l45 c46) <|
 WR (Addr.add za1 1) (.int .i64 n47) <|
 WR (Addr.add za1 2) (.slice x48 l49 c50) <|
 WR (Addr.add za1 3) (.slice x51 l52 c53) <|
 RDL (Addr.add za1 0) fun x54 l55 c56 =>
 RDI .i64 (Addr.add za1 1) fun n57 =>
 RDL (Addr.add za1 2) fun x58 l59 c60 =>
 RDL (Addr.add za1 3) fun x61 l62 c63 =>
 R (.returned (.agg #[(.slice x54 l55 c56), (.int .i64 n57), (.slice x58 l59 c60), (.slice x61 l62 c63)])))
theorem B_law07_part_0_eq (W : World) (R : Ending → Hp → Prop) (zn0 : Int) (za1 : Addr) (za2 : Addr) (zp3 : Option Addr) (zl4 : Nat) (zl5 : Nat) (zn6 : Int) (n28 : Int) (nx0 : List Value → Hp → Prop) (j : Tm) : vc Pg W 31 rs_16 an_16 false (sub (bodyOf Try.f16) [1, 1, 1, 0, 1, 0, 0]) 0 (KLoop [13] [1, 4, 5, 11, 12, 31] [(.int .i64 zn0), (.pointer (some za1)), (.pointer (some za2)), (.slice zp3 zl4 zl5), (.int .i64 zn6), (.tuple #[])] nx0 (KBlk 0 (KS Pg W 31 rs_16 an_16 false (sub (bodyOf Try.f16) [1, 1, 1, 1]) 0 (fin Pg W 31 rv_16 R)))) (known [13] [(.int .i64 n28)] (known [1, 4, 5, 11, 12, 31] [(.int .i64 zn0), (.pointer (some za1)), (.pointer (some za2)), (.slice zp3 zl4 zl5), (.int .i64 zn6), (.tuple #[])] j)) = B_law07_part_0 W R zn0 za1 za2 zp3 zl4 zl5 zn6 n28 nx0 := by kernel_rfl
def N_law07_part_0 (I : Int → Hp → Prop) (μ : Int → Hp → Nat) (n280 : Int) (s : Hp) (vs : List Value) : Hp → Prop := fun s' => ∃ n28, vs = [(.int .i64 n28)] ∧ I n28 s' ∧ μ n28 s' < μ n280 s
theorem L_law07_part_0_rule (W : World) (R : Ending → Hp → Prop) (zn0 : Int) (za1 : Addr) (za2 : Addr) (zp3 : Option Addr) (zl4 : Nat) (zl5 : Nat) (zn6 : Int) (I : Int → Hp → Prop) (μ : Int → Hp → Nat) (n280 : Int) (s : Hp) (h0 : I n280 s)
    (hr : ∀ (n28 : Int) (s : Hp), I n28 s → B_law07_part_0 W R zn0 za1 za2 zp3 zl4 zl5 zn6 n28 (fun vs => N_law07_part_0 I μ n28 s vs) s) : L_law07_part_0 W R zn0 za1 za2 zp3 zl4 zl5 zn6 n280 s := by
  refine ⟨fun vs s => ∃ n28, vs = [(.int .i64 n28)] ∧ I n28 s, fun vs s => (match vs with | [.int _ n28] => μ n28 s | _ => 0), ⟨⟨⟨_, rfl⟩, trivial⟩, ⟨_, rfl, h0⟩⟩, ?_⟩
  intro n28 s hI j
  obtain ⟨n28', hy, hI⟩ := hI
  have hI' : I n28 s := by cases hy; exact hI
  have hh := hr n28 s hI'
  rw [← B_law07_part_0_eq W R zn0 za1 za2 zp3 zl4 zl5 zn6 n28 _ j] at hh
  refine vc_mono ?_ _ _ hh
  exact KLoop_mono (fun vs s' h => by obtain ⟨n281, rfl, h1, h2⟩ := h; exact ⟨⟨⟨_, rfl⟩, trivial⟩, ⟨_, rfl, h1⟩, h2⟩)
def T_law07_part (W : World) (x1 : Option Addr) (l2 : Nat) (c3 : Nat) (n4 : Int) (x5 : Option Addr) (l6 : Nat) (c7 : Nat) (x8 : Option Addr) (l9 : Nat) (c10 : Nat) (n11 : Int) (R : Ending → Hp → Prop) : Hp → Prop :=
 NEW 26 [(.slice x1 l2 c3), (.int .i64 n4), (.slice x5 l6 c7), (.slice x8 l9 c10)] fun B12 =>
 NEWZ Pg 26 fun B13 =>
 RDL (Addr.add ⟨B12, 0, none⟩ 0) fun x14 l15 c16 =>
 RDI .i64 (Addr.add ⟨B12, 0, none⟩ 1) fun n17 =>
 RDL (Addr.add ⟨B12, 0, none⟩ 2) fun x18 l19 c20 =>
 RDL (Addr.add ⟨B12, 0, none⟩ 3) fun x21 l22 c23 =>
 NEWZ Pg 26 fun B24 =>
 WR (Addr.add ⟨B24, 0, none⟩ 0) (.slice x14 l15 c16) <|
 WR (Addr.add ⟨B24, 0, none⟩ 1) (.int .i64 n17) <|
 WR (Addr.add ⟨B24, 0, none⟩ 2) (.slice x18 l19 c20) <|
 WR (Addr.add ⟨B24, 0, none⟩ 3) (.slice x21 l22 c23) <|
 WR (Addr.add (Addr.add ⟨B24, 0, none⟩ 2) 0) (.slice none 0 0) <|
 RDL (Addr.add ⟨B12, 0, none⟩ 2) fun x25 l26 c27 =>
 L_law07_part_0 W R n11 ⟨B13, 0, none⟩ ⟨B24, 0, none⟩ x25 l26 c27 (↑l26 : Int) 0
theorem T_law07_part_eq (W : World) (x1 : Option Addr) (l2 : Nat) (c3 : Nat) (n4 : Int) (x5 : Option Addr) (l6 : Nat) (c7 : Nat) (x8 : Option Addr) (l9 : Nat) (c10 : Nat) (n11 : Int) (R : Ending → Hp → Prop) : vfun Pg W an_16 Try.f16 [(.agg #[(.slice x1 l2 c3), (.int .i64 n4), (.slice x5 l6 c7), (.slice x8 l9 c10)]), (.int .i64 n11)] R = T_law07_part W x1 l2 c3 n4 x5 l6 c7 x8 l9 c10 n11 R := by kernel_rfl
theorem does_law07_part (W : World) (x1 : Option Addr) (l2 : Nat) (c3 : Nat) (n4 : Int) (x5 : Option Addr) (l6 : Nat) (c7 : Nat) (x8 : Option Addr) (l9 : Nat) (c10 : Nat) (n11 : Int) (R : Ending → Hp → Prop) (s : Hp) (h : T_law07_part W x1 l2 c3 n4 x5 l6 c7 x8 l9 c10 n11 R s) : Does Pg W F_law07_part #[(.agg #[(.slice x1 l2 c3), (.int .i64 n4), (.slice x5 l6 c7), (.slice x8 l9 c10)]), (.int .i64 n11)] s R :=
  does_of_vfun Pg W an_16 Try.func16 rfl (by kernel_rfl) (by rw [T_law07_part_eq]; exact h)
def an_20 : Nat → Ann := fun b => match b with
 | _ => {}
abbrev rv_20 : List ResultVar := [.cell 2 26]
abbrev rs_20 : List Nat := [22, 2]
def T_law07_sample (W : World) (n1 : Int) (R : Ending → Hp → Prop) : Hp → Prop :=
 NEWZ Pg 26 fun B2 =>
 CALL Pg W F_law07_span [(.int .i64 0), (.int .i64 0)]
 (fun v3 => AGG v3 fun q5 => HD q5 fun v6 r7 => TYI .i64 v6 fun n8 =>
 HD r7 fun v9 r10 => TYI .i64 v9 fun n11 =>
 NL r10 <|
 CALL Pg W F_law07_span [(.int .i64 1000), (.int .i64 1000)]
 (fun v12 => AGG v12 fun q14 => HD q14 fun v15 r16 => TYI .i64 v15 fun n17 =>
 HD r16 fun v18 r19 => TYI .i64 v18 fun n20 =>
 NL r19 <|
 CALL Pg W F_law07_span [(.int .i64 5), (.int .i64 6)]
 (fun v21 => AGG v21 fun q23 => HD q23 fun v24 r25 => TYI .i64 v24 fun n26 =>
 HD r25 fun v27 r28 => TYI .i64 v27 fun n29 =>
 NL r28 <|
 CALL Pg W F_law07_span [(.int .i64 998), (.int .i64 1002)]
 (fun v30 => AGG v30 fun q32 => HD q32 fun v33 r34 => TYI .i64 v33 fun n35 =>
 HD r34 fun v36 r37 => TYI .i64 v36 fun n38 =>
 NL r37 <|
 NEW 66 [(.int .i64 n8), (.int .i64 n11), (.int .i64 n17), (.int .i64 n20), (.int .i64 n26), (.int .i64 n29), (.int .i64 n35), (.int .i64 n38)] fun B39 =>
 NEW 61 [(.int .i64 0), (.int .i64 0), (.int .i64 10), (.int .i64 1), (.int .i64 1), (.int .i64 66), (.int .i64 2), (.int .i64 0), (.int .i64 130), (.int .i64 2), (.int .i64 1), (.int .i64 n1)] fun B40 =>
 CALL Pg W F_law07_span [(.int .i64 40), (.int .i64 60)]
 (fun v41 => AGG v41 fun q43 => HD q43 fun v44 r45 => TYI .i64 v44 fun n46 =>
 HD r45 fun v47 r48 => TYI .i64 v47 fun n49 =>
 NL r48 <|
 CALL Pg W F_law07_span [(.int .i64 60), (.int .i64 70)]
 (fun v50 => AGG v50 fun q52 => HD q52 fun v53 r54 => TYI .i64 v53 fun n55 =>
 HD r54 fun v56 r57 => TYI .i64 v56 fun n58 =>
 NL r57 <|
 NEW 63 [(.int .i64 0), (.int .i64 1), (.int .i64 n46), (.int .i64 n49), (.int .i64 1), (.int .i64 2), (.int .i64 n55), (.int .i64 n58)] fun B59 =>
 WR (Addr.add ⟨B2, 0, none⟩ 0) (.slice (some ⟨B39, 0, none⟩) 2 2) <|
 WR (Addr.add ⟨B2, 0, none⟩ 1) (.int .i64 3) <|
 WR (Addr.add ⟨B2, 0, none⟩ 2) (.slice (some ⟨B40, 0, none⟩) 4 4) <|
 WR (Addr.add ⟨B2, 0, none⟩ 3) (.slice (some ⟨B59, 0, none⟩) 2 2) <|
 RDL (Addr.add ⟨B2, 0, none⟩ 0) fun x60 l61 c62 =>
 RDI .i64 (Addr.add ⟨B2, 0, none⟩ 1) fun n63 =>
 RDL (Addr.add ⟨B2, 0, none⟩ 2) fun x64 l65 c66 =>
 RDL (Addr.add ⟨B2, 0, none⟩ 3) fun x67 l68 c69 =>
 R (.returned (.agg #[(.slice x60 l61 c62), (.int .i64 n63), (.slice x64 l65 c66), (.slice x67 l68 c69)])))
 (fun e51 => R (.panicked e51)))
 (fun e42 => R (.panicked e42)))
 (fun e31 => R (.panicked e31)))
 (fun e22 => R (.panicked e22)))
 (fun e13 => R (.panicked e13)))
 (fun e4 => R (.panicked e4))
theorem T_law07_sample_eq (W : World) (n1 : Int) (R : Ending → Hp → Prop) : vfun Pg W an_20 Try.f20 [(.int .i64 n1)] R = T_law07_sample W n1 R := by kernel_rfl
theorem does_law07_sample (W : World) (n1 : Int) (R : Ending → Hp → Prop) (s : Hp) (h : T_law07_sample W n1 R s) : Does Pg W F_law07_sample #[(.int .i64 n1)] s R :=
  does_of_vfun Pg W an_20 Try.func20 rfl (by kernel_rfl) (by rw [T_law07_sample_eq]; exact h)
def an_24 : Nat → Ann := fun b => match b with
 | _ => {}
abbrev rv_24 : List ResultVar := [.cell 4 34]
abbrev rs_24 : List Nat := [8, 4]
def T_law07_span (W : World) (n1 : Int) (n2 : Int) (R : Ending → Hp → Prop) : Hp → Prop :=
 NEWZ Pg 34 fun B3 =>
 WR (Addr.add ⟨B3, 0, none⟩ 0) (.int .i64 n1) <|
 WR (Addr.add ⟨B3, 0, none⟩ 1) (.int .i64 n2) <|
 RDI .i64 (Addr.add ⟨B3, 0, none⟩ 0) fun n4 =>
 RDI .i64 (Addr.add ⟨B3, 0, none⟩ 1) fun n5 =>
 R (.returned (.agg #[(.int .i64 n4), (.int .i64 n5)]))
theorem T_law07_span_eq (W : World) (n1 : Int) (n2 : Int) (R : Ending → Hp → Prop) : vfun Pg W an_24 Try.f24 [(.int .i64 n1), (.int .i64 n2)] R = T_law07_span W n1 n2 R := by kernel_rfl
theorem does_law07_span (W : World) (n1 : Int) (n2 : Int) (R : Ending → Hp → Prop) (s : Hp) (h : T_law07_span W n1 n2 R s) : Does Pg W F_law07_span #[(.int .i64 n1), (.int .i64 n2)] s R :=
  does_of_vfun Pg W an_24 Try.func24 rfl (by kernel_rfl) (by rw [T_law07_span_eq]; exact h)
def an_27 : Nat → Ann := fun b => match b with
 | _ => {}
abbrev rv_27 : List ResultVar := [.tmp 4]
abbrev rs_27 : List Nat := [15, 4]
def T_law07_inside (W : World) (n1 : Int) (n2 : Int) (n3 : Int) (R : Ending → Hp → Prop) : Hp → Prop :=
 NEW 34 [(.int .i64 n2), (.int .i64 n3)] fun B4 =>
 RDI .i64 (Addr.add ⟨B4, 0, none⟩ 0) fun n5 =>
 BR (decide (n5 ≤ n1))
 (RDI .i64 (Addr.add ⟨B4, 0, none⟩ 1) fun n6 =>
 R (.returned (.bool (decide (n1 ≤ n6)))))
 (R (.returned (.bool false)))
theorem T_law07_inside_eq (W : World) (n1 : Int) (n2 : Int) (n3 : Int) (R : Ending → Hp → Prop) : vfun Pg W an_27 Try.f27 [(.int .i64 n1), (.agg #[(.int .i64 n2), (.int .i64 n3)])] R = T_law07_inside W n1 n2 n3 R := by kernel_rfl
theorem does_law07_inside (W : World) (n1 : Int) (n2 : Int) (n3 : Int) (R : Ending → Hp → Prop) (s : Hp) (h : T_law07_inside W n1 n2 n3 R s) : Does Pg W F_law07_inside #[(.int .i64 n1), (.agg #[(.int .i64 n2), (.int .i64 n3)])] s R :=
  does_of_vfun Pg W an_27 Try.func27 rfl (by kernel_rfl) (by rw [T_law07_inside_eq]; exact h)
end Go.Proofs.Ytknpmijgdfeliaa.G

/- More of the functions' shallow texts, by gen.py. -/
set_option linter.unusedVariables false
set_option maxRecDepth 100000
namespace Go.Proofs.Ytknpmijgdfeliaa.G
open Go.V
def an_10 : Nat → Ann := fun b => match b with
 | _ => {}
abbrev rv_10 : List ResultVar := [.tmp 0]
abbrev rs_10 : List Nat := [99, 0]
def J_law07_alive_0 (W : World) (R : Ending → Hp → Prop) (b317 : Bool) (n149 : Int) (n178 : Int) (n181 : Int) (n208 : Int) (n211 : Int) : Hp → Prop :=
 BR b317
 (BR (n149 == 0)
 (BR (n178 == 2)
 (BR (n181 == 0)
 (BR (n208 == 8)
 (R (.returned (.bool (n211 == 0))))
 (R (.returned (.bool false))))
 (R (.returned (.bool false))))
 (R (.returned (.bool false))))
 (R (.returned (.bool false))))
 (R (.returned (.bool false)))
def J_law07_alive_1 (W : World) (R : Ending → Hp → Prop) (b290 : Bool) (B151 : Nat) (n149 : Int) (n178 : Int) (n181 : Int) (n208 : Int) (n211 : Int) : Hp → Prop :=
 BR b290
 (RDI .i64 (Addr.add ⟨B151, 0, none⟩ 0) fun n291 =>
 RDI .i64 (Addr.add ⟨B151, 0, none⟩ 1) fun n292 =>
 CALL Pg W F_law07_span [(.int .i64 1000), (.int .i64 1002)]
 (fun v293 => AGG v293 fun q295 => HD q295 fun v296 r297 => TYI .i64 v296 fun n298 =>
 HD r297 fun v299 r300 => TYI .i64 v299 fun n301 =>
 NL r300 <|
 ANDS (RDI .i64 (Addr.add ⟨B151, 0, none⟩ 0) fun n304 =>
 RDI .i64 (Addr.add ⟨B151, 0, none⟩ 1) fun n305 =>
 fun _ => ((.agg #[(.int .i64 n304), (.int .i64 n305)]) : Value) = (.agg #[(.int .i64 n291), (.int .i64 n292)])) <|
 J_law07_alive_0 W R ((n291 == n298) && (n292 == n301)) n149 n178 n181 n208 n211)
 (fun e294 => R (.panicked e294)))
 (J_law07_alive_0 W R false n149 n178 n181 n208 n211)
def J_law07_alive_2 (W : World) (R : Ending → Hp → Prop) (b266 : Bool) (B150 : Nat) (B151 : Nat) (n149 : Int) (n178 : Int) (n181 : Int) (n208 : Int) (n211 : Int) : Hp → Prop :=
 BR b266
 (RDI .i64 (Addr.add ⟨B150, 0, none⟩ 0) fun n267 =>
 RDI .i64 (Addr.add ⟨B150, 0, none⟩ 1) fun n268 =>
 CALL Pg W F_law07_span [(.int .i64 6), (.int .i64 6)]
 (fun v269 => AGG v269 fun q271 => HD q271 fun v272 r273 => TYI .i64 v272 fun n274 =>
 HD r273 fun v275 r276 => TYI .i64 v275 fun n277 =>
 NL r276 <|
 ANDS (RDI .i64 (Addr.add ⟨B150, 0, none⟩ 0) fun n280 =>
 RDI .i64 (Addr.add ⟨B150, 0, none⟩ 1) fun n281 =>
 fun _ => ((.agg #[(.int .i64 n280), (.int .i64 n281)]) : Value) = (.agg #[(.int .i64 n267), (.int .i64 n268)])) <|
 J_law07_alive_1 W R ((n267 == n274) && (n268 == n277)) B151 n149 n178 n181 n208 n211)
 (fun e270 => R (.panicked e270)))
 (J_law07_alive_1 W R false B151 n149 n178 n181 n208 n211)
def J_law07_alive_3 (W : World) (R : Ending → Hp → Prop) (b260 : Bool) (n104 : Int) (B150 : Nat) (B151 : Nat) (n149 : Int) (n178 : Int) (n181 : Int) (n208 : Int) (n211 : Int) : Hp → Prop :=
 BR b260
 (J_law07_alive_2 W R (n104 == 0) B150 B151 n149 n178 n181 n208 n211)
 (J_law07_alive_2 W R false B150 B151 n149 n178 n181 n208 n211)
def J_law07_alive_4 (W : World) (R : Ending → Hp → Prop) (b254 : Bool) (n101 : Int) (n104 : Int) (B150 : Nat) (B151 : Nat) (n149 : Int) (n178 : Int) (n181 : Int) (n208 : Int) (n211 : Int) : Hp → Prop :=
 BR b254
 (J_law07_alive_3 W R (n101 == 2) n104 B150 B151 n149 n178 n181 n208 n211)
 (J_law07_alive_3 W R false n104 B150 B151 n149 n178 n181 n208 n211)
def J_law07_alive_5 (W : World) (R : Ending → Hp → Prop) (b248 : Bool) (n73 : Int) (n101 : Int) (n104 : Int) (B150 : Nat) (B151 : Nat) (n149 : Int) (n178 : Int) (n181 : Int) (n208 : Int) (n211 : Int) : Hp → Prop :=
 BR b248
 (J_law07_alive_4 W R (n73 == 0) n101 n104 B150 B151 n149 n178 n181 n208 n211)
 (J_law07_alive_4 W R false n101 n104 B150 B151 n149 n178 n181 n208 n211)
def J_law07_alive_6 (W : World) (R : Ending → Hp → Prop) (b227 : Bool) (B74 : Nat) (n73 : Int) (n101 : Int) (n104 : Int) (B150 : Nat) (B151 : Nat) (n149 : Int) (n178 : Int) (n181 : Int) (n208 : Int) (n211 : Int) : Hp → Prop :=
 BR b227
 (RDI .i64 (Addr.add ⟨B74, 0, none⟩ 0) fun n228 =>
 RDI .i64 (Addr.add ⟨B74, 0, none⟩ 1) fun n229 =>
 CALL Pg W F_law07_span [(.int .i64 (-70)), (.int .i64 (-70))]
 (fun v230 => AGG v230 fun q232 => HD q232 fun v233 r234 => TYI .i64 v233 fun n235 =>
 HD r234 fun v236 r237 => TYI .i64 v236 fun n238 =>
 NL r237 <|
 ANDS (RDI .i64 (Addr.add ⟨B74, 0, none⟩ 0) fun n241 =>
 RDI .i64 (Addr.add ⟨B74, 0, none⟩ 1) fun n242 =>
 fun _ => ((.agg #[(.int .i64 n241), (.int .i64 n242)]) : Value) = (.agg #[(.int .i64 n228), (.int .i64 n229)])) <|
 J_law07_alive_5 W R ((n228 == n235) && (n229 == n238)) n73 n101 n104 B150 B151 n149 n178 n181 n208 n211)
 (fun e231 => R (.panicked e231)))
 (J_law07_alive_5 W R false n73 n101 n104 B150 B151 n149 n178 n181 n208 n211)
def T_law07_alive (W : World) (R : Ending → Hp → Prop) : Hp → Prop :=
 CALL Pg W F_law07_sample [(.int .i64 136)]
 (fun v1 => AGG v1 fun q3 => HD q3 fun v4 r5 => TYL v4 fun x6 l7 c8 =>
 HD r5 fun v9 r10 => TYI .i64 v9 fun n11 =>
 HD r10 fun v12 r13 => TYL v12 fun x14 l15 c16 =>
 HD r13 fun v17 r18 => TYL v17 fun x19 l20 c21 =>
 NL r18 <|
 CALL Pg W F_clock_When [(.agg #[(.slice x6 l7 c8), (.int .i64 n11), (.slice x14 l15 c16), (.slice x19 l20 c21)]), (.int .i64 1)]
 (fun v22 => TUP v22 fun q24 => HD q24 fun v25 r26 => AGG v25 fun q27 => HD q27 fun v28 r29 => TYI .i64 v28 fun n30 =>
 HD r29 fun v31 r32 => TYI .i64 v31 fun n33 =>
 NL r32 <|
 HD r26 fun v34 r35 => TYI .i64 v34 fun n36 =>
 NL r35 <|
 NEWZ Pg 34 fun B37 =>
 WR (Addr.add ⟨B37, 0, none⟩ 0) (.int .i64 n30) <|
 WR (Addr.add ⟨B37, 0, none⟩ 1) (.int .i64 n33) <|
 CALL Pg W F_law07_sample [(.int .i64 136)]
 (fun v38 => AGG v38 fun q40 => HD q40 fun v41 r42 => TYL v41 fun x43 l44 c45 =>
 HD r42 fun v46 r47 => TYI .i64 v46 fun n48 =>
 HD r47 fun v49 r50 => TYL v49 fun x51 l52 c53 =>
 HD r50 fun v54 r55 => TYL v54 fun x56 l57 c58 =>
 NL r55 <|
 CALL Pg W F_clock_Lasted [(.agg #[(.slice x43 l44 c45), (.int .i64 n48), (.slice x51 l52 c53), (.slice x56 l57 c58)]), (.int .i64 2), (.int .i64 1)]
 (fun v59 => TUP v59 fun q61 => HD q61 fun v62 r63 => AGG v62 fun q64 => HD q64 fun v65 r66 => TYI .i64 v65 fun n67 =>
 HD r66 fun v68 r69 => TYI .i64 v68 fun n70 =>
 NL r69 <|
 HD r63 fun v71 r72 => TYI .i64 v71 fun n73 =>
 NL r72 <|
 NEWZ Pg 34 fun B74 =>
 WR (Addr.add ⟨B74, 0, none⟩ 0) (.int .i64 n67) <|
 WR (Addr.add ⟨B74, 0, none⟩ 1) (.int .i64 n70) <|
 CALL Pg W F_law07_sample [(.int .i64 136)]
 (fun v75 => AGG v75 fun q77 => HD q77 fun v78 r79 => TYL v78 fun x80 l81 c82 =>
 HD r79 fun v83 r84 => TYI .i64 v83 fun n85 =>
 HD r84 fun v86 r87 => TYL v86 fun x88 l89 c90 =>
 HD r87 fun v91 r92 => TYL v91 fun x93 l94 c95 =>
 NL r92 <|
 CALL Pg W F_clock_First [(.agg #[(.slice x80 l81 c82), (.int .i64 n85), (.slice x88 l89 c90), (.slice x93 l94 c95)]), (.int .i64 0), (.int .i64 1)]
 (fun v96 => TUP v96 fun q98 => HD q98 fun v99 r100 => TYI .i64 v99 fun n101 =>
 HD r100 fun v102 r103 => TYI .i64 v102 fun n104 =>
 NL r103 <|
 CALL Pg W F_law07_sample [(.int .i64 136)]
 (fun v105 => AGG v105 fun q107 => HD q107 fun v108 r109 => TYL v108 fun x110 l111 c112 =>
 HD r109 fun v113 r114 => TYI .i64 v113 fun n115 =>
 HD r114 fun v116 r117 => TYL v116 fun x118 l119 c120 =>
 HD r117 fun v121 r122 => TYL v121 fun x123 l124 c125 =>
 NL r122 <|
 CALL Pg W F_clock_Goes [(.agg #[(.slice x110 l111 c112), (.int .i64 n115), (.slice x118 l119 c120), (.slice x123 l124 c125)]), (.int .i64 1)]
 (fun v126 => TUP v126 fun q128 => HD q128 fun v129 r130 => AGG v129 fun q131 => HD q131 fun v132 r133 => TYI .i64 v132 fun n134 =>
 HD r133 fun v135 r136 => TYI .i64 v135 fun n137 =>
 NL r136 <|
 HD r130 fun v138 r139 => AGG v138 fun q140 => HD q140 fun v141 r142 => TYI .i64 v141 fun n143 =>
 HD r142 fun v144 r145 => TYI .i64 v144 fun n146 =>
 NL r145 <|
 HD r139 fun v147 r148 => TYI .i64 v147 fun n149 =>
 NL r148 <|
 NEWZ Pg 34 fun B150 =>
 NEWZ Pg 34 fun B151 =>
 WR (Addr.add ⟨B150, 0, none⟩ 0) (.int .i64 n134) <|
 WR (Addr.add ⟨B150, 0, none⟩ 1) (.int .i64 n137) <|
 WR (Addr.add ⟨B151, 0, none⟩ 0) (.int .i64 n143) <|
 WR (Addr.add ⟨B151, 0, none⟩ 1) (.int .i64 n146) <|
 CALL Pg W F_law07_sample [(.int .i64 140)]
 (fun v152 => AGG v152 fun q154 => HD q154 fun v155 r156 => TYL v155 fun x157 l158 c159 =>
 HD r156 fun v160 r161 => TYI .i64 v160 fun n162 =>
 HD r161 fun v163 r164 => TYL v163 fun x165 l166 c167 =>
 HD r164 fun v168 r169 => TYL v168 fun x170 l171 c172 =>
 NL r169 <|
 CALL Pg W F_clock_Wrong [(.agg #[(.slice x157 l158 c159), (.int .i64 n162), (.slice x165 l166 c167), (.slice x170 l171 c172)])]
 (fun v173 => TUP v173 fun q175 => HD q175 fun v176 r177 => TYI .i64 v176 fun n178 =>
 HD r177 fun v179 r180 => TYI .i64 v179 fun n181 =>
 NL r180 <|
 CALL Pg W F_law07_sample [(.int .i64 140)]
 (fun v182 => AGG v182 fun q184 => HD q184 fun v185 r186 => TYL v185 fun x187 l188 c189 =>
 HD r186 fun v190 r191 => TYI .i64 v190 fun n192 =>
 HD r191 fun v193 r194 => TYL v193 fun x195 l196 c197 =>
 HD r194 fun v198 r199 => TYL v198 fun x200 l201 c202 =>
 NL r199 <|
 CALL Pg W F_clock_Drop [(.agg #[(.slice x187 l188 c189), (.int .i64 n192), (.slice x195 l196 c197), (.slice x200 l201 c202)])]
 (fun v203 => TUP v203 fun q205 => HD q205 fun v206 r207 => TYI .i64 v206 fun n208 =>
 HD r207 fun v209 r210 => TYI .i64 v209 fun n211 =>
 NL r210 <|
 RDI .i64 (Addr.add ⟨B37, 0, none⟩ 0) fun n212 =>
 RDI .i64 (Addr.add ⟨B37, 0, none⟩ 1) fun n213 =>
 CALL Pg W F_law07_span [(.int .i64 60), (.int .i64 60)]
 (fun v214 => AGG v214 fun q216 => HD q216 fun v217 r218 => TYI .i64 v217 fun n219 =>
 HD r218 fun v220 r221 => TYI .i64 v220 fun n222 =>
 NL r221 <|
 ANDS (RDI .i64 (Addr.add ⟨B37, 0, none⟩ 0) fun n223 =>
 RDI .i64 (Addr.add ⟨B37, 0, none⟩ 1) fun n224 =>
 fun _ => ((.agg #[(.int .i64 n223), (.int .i64 n224)]) : Value) = (.agg #[(.int .i64 n212), (.int .i64 n213)])) <|
 BR ((n212 == n219) && (n213 == n222))
 (J_law07_alive_6 W R (n36 == 0) B74 n73 n101 n104 B150 B151 n149 n178 n181 n208 n211)
 (J_law07_alive_6 W R false B74 n73 n101 n104 B150 B151 n149 n178 n181 n208 n211))
 (fun e215 => R (.panicked e215)))
 (fun e204 => R (.panicked e204)))
 (fun e183 => R (.panicked e183)))
 (fun e174 => R (.panicked e174)))
 (fun e153 => R (.panicked e153)))
 (fun e127 => R (.panicked e127)))
 (fun e106 => R (.panicked e106)))
 (fun e97 => R (.panicked e97)))
 (fun e76 => R (.panicked e76)))
 (fun e60 => R (.panicked e60)))
 (fun e39 => R (.panicked e39)))
 (fun e23 => R (.panicked e23)))
 (fun e2 => R (.panicked e2))
theorem T_law07_alive_eq (W : World) (R : Ending → Hp → Prop) : vfun Pg W an_10 Try.f10 [] R = T_law07_alive W R := by kernel_rfl
theorem does_law07_alive (W : World) (R : Ending → Hp → Prop) (s : Hp) (h : T_law07_alive W R s) : Does Pg W F_law07_alive #[] s R :=
  does_of_vfun Pg W an_10 Try.func10 rfl (by kernel_rfl) (by rw [T_law07_alive_eq]; exact h)
end Go.Proofs.Ytknpmijgdfeliaa.G

/- Clock: the document's examples hold. -/
set_option linter.unusedSimpArgs false
set_option linter.unusedVariables false
set_option maxRecDepth 20000
namespace Go.Proofs.Ytknpmijgdfeliaa.G
open Go.V
section
variable {W : World} {K : VK} {E : List PanicEntry → Hp → Prop} {s : Hp}
theorem c_span {a b : Int} (h : ∀ s', Ext s s' → K (.agg #[.int .i64 a, .int .i64 b]) s') : CALL Pg W F_law07_span [.int .i64 a, .int .i64 b] K E s := by
  refine does_law07_span W a b _ s ?_
  unfold T_law07_span
  refine nw2 zc_34 rfl rfl fun s1 e1 z1 o1 o2 => ⟨_, o1.cell, ⟨_, o2.cell, ?_⟩⟩
  exact h s1 e1
theorem c_sample {l : Int} (h : ∀ s' x y z, Ext s s' → ClV s' (CL l) x y z → K (clkV (CL l) x y z 2 4 2) s') : CALL Pg W F_law07_sample [.int .i64 l] K E s := by
  refine does_law07_sample W l _ s ?_
  unfold T_law07_sample
  refine nz4 zc_26 fun s1 e1 z1 p1 p2 p3 p4 => ?_
  refine c_span fun s2 e2 => ?_
  try simp only [TUP_mk, AGG_mk, HD_mk, NL_mk, TYI_mk, TYB_mk, TYP_mk, TYL_mk, TYS_mk, TYM_mk, SO_mk, NX_mk, endK_mk, endK_mk', add_0]
  refine c_span fun s3 e3 => ?_
  try simp only [TUP_mk, AGG_mk, HD_mk, NL_mk, TYI_mk, TYB_mk, TYP_mk, TYL_mk, TYS_mk, TYM_mk, SO_mk, NX_mk, endK_mk, endK_mk', add_0]
  refine c_span fun s4 e4 => ?_
  try simp only [TUP_mk, AGG_mk, HD_mk, NL_mk, TYI_mk, TYB_mk, TYP_mk, TYL_mk, TYS_mk, TYM_mk, SO_mk, NX_mk, endK_mk, endK_mk', add_0]
  refine c_span fun s5 e5 => ?_
  try simp only [TUP_mk, AGG_mk, HD_mk, NL_mk, TYI_mk, TYB_mk, TYP_mk, TYL_mk, TYS_mk, TYM_mk, SO_mk, NX_mk, endK_mk, endK_mk', add_0]
  refine NEW_rule fun s6 e6 z6 n6 _ => ?_
  refine NEW_rule fun s7 e7 z7 n7 _ => ?_
  refine c_span fun s8 e8 => ?_
  try simp only [TUP_mk, AGG_mk, HD_mk, NL_mk, TYI_mk, TYB_mk, TYP_mk, TYL_mk, TYS_mk, TYM_mk, SO_mk, NX_mk, endK_mk, endK_mk', add_0]
  refine c_span fun s9 e9 => ?_
  try simp only [TUP_mk, AGG_mk, HD_mk, NL_mk, TYI_mk, TYB_mk, TYP_mk, TYL_mk, TYS_mk, TYM_mk, SO_mk, NX_mk, endK_mk, endK_mk', add_0]
  refine NEW_rule fun t et zt nt _ => ?_
  have e15 := ((e2.trans e3).trans e4).trans e5
  have e1t := (((e15.trans e6).trans e7).trans (e8.trans e9)).trans et
  have hlt : s.size < s1.size := by omega
  have h15 : s1.size ≤ s5.size := e15.1
  have h6 : s5.size < s6.size := by omega
  have h9 : s7.size ≤ s9.size := (e8.trans e9).1
  show wrN [_, _, _, _] ⟨s.size, 0, none⟩ 0 _ t
  refine wrN_rule _ _ 0 _ t (fun i hi => ?_) ?_ ?_
  · match i, hi with
    | 0, _ => exact ⟨_, e1t.own p1⟩
    | 1, _ => exact ⟨_, e1t.own p2⟩
    | 2, _ => exact ⟨_, e1t.own p3⟩
    | 3, _ => exact ⟨_, e1t.own p4⟩
  · intro w hw
    simp at hw
    rcases hw with rfl | rfl | rfl | rfl <;> rfl
  · intro u k zu ho _
    have q0 := ho 0 (by simp)
    have q1 := ho 1 (by simp)
    have q2 := ho 2 (by simp)
    have q3 := ho 3 (by simp)
    refine ⟨_, _, _, q0.cell, ⟨_, q1.cell, ⟨_, _, _, q2.cell, ⟨_, _, _, q3.cell, ?_⟩⟩⟩⟩
    refine h u (some ⟨s5.size, 0, none⟩) (some ⟨s6.size, 0, none⟩) (some ⟨s9.size, 0, none⟩) (ext_kp (e1.trans e1t) (Nat.le_refl _) k) ⟨?_, ?_, ?_⟩
    · intro i hi
      have hi' : i < 2 := hi
      have f := (e7.trans (e8.trans e9)).trans et
      have g : ∀ j v, _ → Own u ⟨s5.size, j, none⟩ v := fun j v hv => k.own (by show ¬ s5.size = s.size; omega) (f.own (n6 j v hv))
      refine ⟨_, rfl, ?_⟩
      match i, hi' with
      | 0, _ => exact ⟨(g 0 _ rfl).cell, (g 1 _ rfl).cell, (g 2 _ rfl).cell, (g 3 _ rfl).cell⟩
      | 1, _ => exact ⟨(g 4 _ rfl).cell, (g 5 _ rfl).cell, (g 6 _ rfl).cell, (g 7 _ rfl).cell⟩
    · intro i hi
      have hi' : i < 4 := hi
      have f := (e8.trans e9).trans et
      have g : ∀ j v, _ → Own u ⟨s6.size, j, none⟩ v := fun j v hv => k.own (by show ¬ s6.size = s.size; omega) (f.own (n7 j v hv))
      refine ⟨_, rfl, ?_⟩
      match i, hi' with
      | 0, _ => exact ⟨(g 0 _ rfl).cell, (g 1 _ rfl).cell, (g 2 _ rfl).cell⟩
      | 1, _ => exact ⟨(g 3 _ rfl).cell, (g 4 _ rfl).cell, (g 5 _ rfl).cell⟩
      | 2, _ => exact ⟨(g 6 _ rfl).cell, (g 7 _ rfl).cell, (g 8 _ rfl).cell⟩
      | 3, _ => exact ⟨(g 9 _ rfl).cell, (g 10 _ rfl).cell, (g 11 _ rfl).cell⟩
    · intro i hi
      have hi' : i < 2 := hi
      have g : ∀ j v, _ → Own u ⟨s9.size, j, none⟩ v := fun j v hv => k.own (by show ¬ s9.size = s.size; omega) (nt j v hv)
      refine ⟨_, rfl, ?_⟩
      match i, hi' with
      | 0, _ => exact ⟨(g 0 _ rfl).cell, (g 1 _ rfl).cell, (g 2 _ rfl).cell, (g 3 _ rfl).cell⟩
      | 1, _ => exact ⟨(g 4 _ rfl).cell, (g 5 _ rfl).cell, (g 6 _ rfl).cell, (g 7 _ rfl).cell⟩
theorem c_alive (h : ∀ s', Ext s s' → K (.bool true) s') : CALL Pg W F_law07_alive [] K E s := by
  refine does_law07_alive W _ s ?_
  unfold T_law07_alive
  refine c_sample fun s1 xa ya za e1 ca => ?_
  unfold clkV
  try simp only [TUP_mk, AGG_mk, HD_mk, NL_mk, TYI_mk, TYB_mk, TYP_mk, TYL_mk, TYS_mk, TYM_mk, SO_mk, NX_mk, endK_mk, endK_mk', add_0]
  refine c_When (c := CL 136) ca fun s2 lo1 hi1 er1 e2 q1 => ?_
  obtain ⟨rfl, rfl, rfl⟩ := cl_when1 q1
  try simp only [TUP_mk, AGG_mk, HD_mk, NL_mk, TYI_mk, TYB_mk, TYP_mk, TYL_mk, TYS_mk, TYM_mk, SO_mk, NX_mk, endK_mk, endK_mk', add_0]
  refine nw2 zc_34 rfl rfl fun s3 e3 z3 a1 a2 => ?_
  refine c_sample fun s4 xb yb zb e4 cb => ?_
  unfold clkV
  try simp only [TUP_mk, AGG_mk, HD_mk, NL_mk, TYI_mk, TYB_mk, TYP_mk, TYL_mk, TYS_mk, TYM_mk, SO_mk, NX_mk, endK_mk, endK_mk', add_0]
  refine c_Lasted (c := CL 136) cb fun s5 lo2 hi2 er2 e5 q2 => ?_
  obtain ⟨rfl, rfl, rfl⟩ := cl_lasted21 q2
  try simp only [TUP_mk, AGG_mk, HD_mk, NL_mk, TYI_mk, TYB_mk, TYP_mk, TYL_mk, TYS_mk, TYM_mk, SO_mk, NX_mk, endK_mk, endK_mk', add_0]
  refine nw2 zc_34 rfl rfl fun s6 e6 z6 b1 b2 => ?_
  refine c_sample fun s7 xc yc zc e7 cc => ?_
  unfold clkV
  try simp only [TUP_mk, AGG_mk, HD_mk, NL_mk, TYI_mk, TYB_mk, TYP_mk, TYL_mk, TYS_mk, TYM_mk, SO_mk, NX_mk, endK_mk, endK_mk', add_0]
  refine c_First (c := CL 136) cc fun s8 lo3 hi3 er3 e8 q3 => ?_
  obtain ⟨f3, rfl⟩ := cl_first q3
  rw [f3]
  try simp only [TUP_mk, AGG_mk, HD_mk, NL_mk, TYI_mk, TYB_mk, TYP_mk, TYL_mk, TYS_mk, TYM_mk, SO_mk, NX_mk, endK_mk, endK_mk', add_0]
  refine c_sample fun s9 xd yd zd e9 cd => ?_
  unfold clkV
  try simp only [TUP_mk, AGG_mk, HD_mk, NL_mk, TYI_mk, TYB_mk, TYP_mk, TYL_mk, TYS_mk, TYM_mk, SO_mk, NX_mk, endK_mk, endK_mk', add_0]
  refine c_Goes (c := CL 136) cd (by decide) fun s10 zl zh rl rh er4 e10 q4 q5 => ?_
  obtain ⟨rfl, rfl, rfl⟩ := cl_zero q4
  obtain ⟨rfl, rfl, _⟩ := cl_rate q5
  try simp only [TUP_mk, AGG_mk, HD_mk, NL_mk, TYI_mk, TYB_mk, TYP_mk, TYL_mk, TYS_mk, TYM_mk, SO_mk, NX_mk, endK_mk, endK_mk', add_0]
  refine nz2 zc_34 fun s11 e11 z11 d1 d2 => ?_
  refine nz2 zc_34 fun s12 e12 z12 g1 g2 => ?_
  refine wrB (e12.own d1) (e12.own d2) rfl rfl fun s13 k13 z13 d1' d2' => ?_
  have n1 : ¬ s11.size = s10.size := by omega
  refine wrB (k13.own n1 g1) (k13.own n1 g2) rfl rfl fun s14 k14 z14 g1' g2' => ?_
  have n2 : ¬ s10.size = s11.size := by omega
  have d1'' := k14.own n2 d1'
  have d2'' := k14.own n2 d2'
  have e1014 : Ext s10 s14 := kp_nil (kp_nil (e11.trans e12) (fun b hb => by have : b = s10.size := hb; omega) k13) (fun b hb => by have : b = s11.size := hb; omega) k14
  refine c_sample fun s15 xe ye ze e15 ce => ?_
  unfold clkV
  try simp only [TUP_mk, AGG_mk, HD_mk, NL_mk, TYI_mk, TYB_mk, TYP_mk, TYL_mk, TYS_mk, TYM_mk, SO_mk, NX_mk, endK_mk, endK_mk', add_0]
  refine c_Wrong (c := CL 140) ce fun s16 w er5 e16 q6 => ?_
  obtain ⟨rfl, rfl⟩ := cl_wrong q6
  try simp only [TUP_mk, AGG_mk, HD_mk, NL_mk, TYI_mk, TYB_mk, TYP_mk, TYL_mk, TYS_mk, TYM_mk, SO_mk, NX_mk, endK_mk, endK_mk', add_0]
  refine c_sample fun s17 xf yf zf e17 cf => ?_
  unfold clkV
  try simp only [TUP_mk, AGG_mk, HD_mk, NL_mk, TYI_mk, TYB_mk, TYP_mk, TYL_mk, TYS_mk, TYM_mk, SO_mk, NX_mk, endK_mk, endK_mk', add_0]
  refine c_Drop (c := CL 140) cf fun s18 d er6 e18 q7 => ?_
  obtain ⟨rfl, rfl⟩ := cl_drop q7
  try simp only [TUP_mk, AGG_mk, HD_mk, NL_mk, TYI_mk, TYB_mk, TYP_mk, TYL_mk, TYS_mk, TYM_mk, SO_mk, NX_mk, endK_mk, endK_mk', add_0]
  have e1418 := ((e15.trans e16).trans e17).trans e18
  have e610 := ((e7.trans e8).trans e9).trans e10
  have e36 := (e4.trans e5).trans e6
  have e318 := ((e36.trans e610).trans e1014).trans e1418
  have e618 := (e610.trans e1014).trans e1418
  have ea : Ext s s18 := ((e1.trans e2).trans e3).trans e318
  refine ⟨_, (e318.own a1).cell, ⟨_, (e318.own a2).cell, ?_⟩⟩
  refine c_span fun s19 e19 => ?_
  try simp only [TUP_mk, AGG_mk, HD_mk, NL_mk, TYI_mk, TYB_mk, TYP_mk, TYL_mk, TYS_mk, TYM_mk, SO_mk, NX_mk, endK_mk, endK_mk', add_0]
  refine ANDS_i ⟨_, ((e318.trans e19).own a1).cell, ⟨_, ((e318.trans e19).own a2).cell, rfl⟩⟩ ?_
  refine BR_tt rfl ?_
  unfold J_law07_alive_6
  refine BR_tt rfl ⟨_, ((e618.trans e19).own b1).cell, ⟨_, ((e618.trans e19).own b2).cell, ?_⟩⟩
  refine c_span fun s20 e20 => ?_
  try simp only [TUP_mk, AGG_mk, HD_mk, NL_mk, TYI_mk, TYB_mk, TYP_mk, TYL_mk, TYS_mk, TYM_mk, SO_mk, NX_mk, endK_mk, endK_mk', add_0]
  have e1920 := e19.trans e20
  refine ANDS_i ⟨_, ((e618.trans e1920).own b1).cell, ⟨_, ((e618.trans e1920).own b2).cell, rfl⟩⟩ ?_
  unfold J_law07_alive_5
  refine BR_tt rfl ?_
  unfold J_law07_alive_4
  refine BR_tt rfl ?_
  unfold J_law07_alive_3
  refine BR_tt rfl ?_
  unfold J_law07_alive_2
  refine BR_tt rfl ⟨_, ((e1418.trans e1920).own d1'').cell, ⟨_, ((e1418.trans e1920).own d2'').cell, ?_⟩⟩
  refine c_span fun s21 e21 => ?_
  try simp only [TUP_mk, AGG_mk, HD_mk, NL_mk, TYI_mk, TYB_mk, TYP_mk, TYL_mk, TYS_mk, TYM_mk, SO_mk, NX_mk, endK_mk, endK_mk', add_0]
  have e1921 := e1920.trans e21
  refine ANDS_i ⟨_, ((e1418.trans e1921).own d1'').cell, ⟨_, ((e1418.trans e1921).own d2'').cell, rfl⟩⟩ ?_
  unfold J_law07_alive_1
  refine BR_tt rfl ⟨_, ((e1418.trans e1921).own g1').cell, ⟨_, ((e1418.trans e1921).own g2').cell, ?_⟩⟩
  refine c_span fun s22 e22 => ?_
  try simp only [TUP_mk, AGG_mk, HD_mk, NL_mk, TYI_mk, TYB_mk, TYP_mk, TYL_mk, TYS_mk, TYM_mk, SO_mk, NX_mk, endK_mk, endK_mk', add_0]
  have e1922 := e1921.trans e22
  refine ANDS_i ⟨_, ((e1418.trans e1922).own g1').cell, ⟨_, ((e1418.trans e1922).own g2').cell, rfl⟩⟩ ?_
  unfold J_law07_alive_0
  refine BR_tt rfl (BR_tt rfl (BR_tt rfl (BR_tt rfl (BR_tt rfl ?_))))
  exact h s22 (ea.trans e1922)
end
end Go.Proofs.Ytknpmijgdfeliaa.G

/- More of the functions' shallow texts, by gen.py. -/
set_option linter.unusedVariables false
set_option maxRecDepth 100000
namespace Go.Proofs.Ytknpmijgdfeliaa.G
open Go.V
def an_25 : Nat → Ann := fun b => match b with
 | 0 => { ms := [3, 12], ks := [.l, .i .i64], us := [0, 2, 4, 11, 155], rt := false, ex := [] }
 | 2 => { ms := [4, 59], ks := [.l, .i .i64], us := [0, 2, 3, 58, 155], rt := false, ex := [] }
 | 4 => { ms := [78], ks := [.i .i64], us := [0, 2, 3, 4, 77, 155], rt := false, ex := [] }
 | 6 => { ms := [110], ks := [.i .i64], us := [0, 2, 3, 4, 109, 155], rt := false, ex := [] }
 | _ => {}
abbrev rv_25 : List ResultVar := [.cell 2 26, .tmp 3, .tmp 4]
abbrev rs_25 : List Nat := [155, 2, 3, 4]
def L_law07_made_0 (W : World) (R : Ending → Hp → Prop) (zv0 : Value) (za1 : Addr) (zn2 : Int) (x6 : Option Addr) (l7 : Nat) (c8 : Nat) (n9 : Int) : Hp → Prop :=
 LOOPN [.l, .i .i64] (fun ys next s => ∀ j : Tm, vc Pg W 155 rs_25 an_25 false (sub (bodyOf Try.f25) [1, 0, 1, 0, 0]) 0 (KLoop [3, 12] [0, 2, 4, 11, 155] [zv0, (.pointer (some za1)), (.slice none 0 0), (.int .i64 zn2), (.tuple #[])] next (KBlk 0 (KS Pg W 155 rs_25 an_25 false (sub (bodyOf Try.f25) [1, 1]) 0 (fin Pg W 155 rv_25 R)))) (known [3, 12] ys (known [0, 2, 4, 11, 155] [zv0, (.pointer (some za1)), (.slice none 0 0), (.int .i64 zn2), (.tuple #[])] j)) s) [(.slice x6 l7 c8), (.int .i64 n9)]
def L_law07_made_1 (W : World) (R : Ending → Hp → Prop) (zv0 : Value) (za1 : Addr) (zp2 : Option Addr) (zl3 : Nat) (zl4 : Nat) (zn5 : Int) (x103 : Option Addr) (l104 : Nat) (c105 : Nat) (n106 : Int) : Hp → Prop :=
 LOOPN [.l, .i .i64] (fun ys next s => ∀ j : Tm, vc Pg W 155 rs_25 an_25 false (sub (bodyOf Try.f25) [1, 1, 1, 0, 1, 0, 0]) 2 (KLoop [4, 59] [0, 2, 3, 58, 155] [zv0, (.pointer (some za1)), (.slice zp2 zl3 zl4), (.int .i64 zn5), (.tuple #[])] next (KBlk 2 (KS Pg W 155 rs_25 an_25 false (sub (bodyOf Try.f25) [1, 1, 1, 1]) 0 (fin Pg W 155 rv_25 R)))) (known [4, 59] ys (known [0, 2, 3, 58, 155] [zv0, (.pointer (some za1)), (.slice zp2 zl3 zl4), (.int .i64 zn5), (.tuple #[])] j)) s) [(.slice x103 l104 c105), (.int .i64 n106)]
def L_law07_made_2 (W : World) (R : Ending → Hp → Prop) (zv0 : Value) (za1 : Addr) (zp2 : Option Addr) (zl3 : Nat) (zl4 : Nat) (zp5 : Option Addr) (zl6 : Nat) (zl7 : Nat) (zn8 : Int) (n141 : Int) : Hp → Prop :=
 LOOPN [.i .i64] (fun ys next s => ∀ j : Tm, vc Pg W 155 rs_25 an_25 false (sub (bodyOf Try.f25) [1, 1, 1, 1, 1, 0, 1, 0, 1, 0, 0]) 4 (KLoop [78] [0, 2, 3, 4, 77, 155] [zv0, (.pointer (some za1)), (.slice zp2 zl3 zl4), (.slice zp5 zl6 zl7), (.int .i64 zn8), (.tuple #[])] next (KBlk 4 (KS Pg W 155 rs_25 an_25 false (sub (bodyOf Try.f25) [1, 1, 1, 1, 1, 1]) 0 (fin Pg W 155 rv_25 R)))) (known [78] ys (known [0, 2, 3, 4, 77, 155] [zv0, (.pointer (some za1)), (.slice zp2 zl3 zl4), (.slice zp5 zl6 zl7), (.int .i64 zn8), (.tuple #[])] j)) s) [(.int .i64 n141)]
def L_law07_made_3 (W : World) (R : Ending → Hp → Prop) (zv0 : Value) (za1 : Addr) (zp2 : Option Addr) (zl3 : Nat) (zl4 : Nat) (zp5 : Option Addr) (zl6 : Nat) (zl7 : Nat) (zn8 : Int) (n173 : Int) : Hp → Prop :=
 LOOPN [.i .i64] (fun ys next s => ∀ j : Tm, vc Pg W 155 rs_25 an_25 false (sub (bodyOf Try.f25) [1, 1, 1, 1, 1, 1, 0, 1, 0, 0]) 6 (KLoop [110] [0, 2, 3, 4, 109, 155] [zv0, (.pointer (some za1)), (.slice zp2 zl3 zl4), (.slice zp5 zl6 zl7), (.int .i64 zn8), (.tuple #[])] next (KBlk 6 (KS Pg W 155 rs_25 an_25 false (sub (bodyOf Try.f25) [1, 1, 1, 1, 1, 1, 1]) 0 (fin Pg W 155 rv_25 R)))) (known [110] ys (known [0, 2, 3, 4, 109, 155] [zv0, (.pointer (some za1)), (.slice zp2 zl3 zl4), (.slice zp5 zl6 zl7), (.int .i64 zn8), (.tuple #[])] j)) s) [(.int .i64 n173)]
def J_law07_made_0 (W : World) (R : Ending → Hp → Prop) (zv0 : Value) (za1 : Addr) (zp2 : Option Addr) (zl3 : Nat) (zl4 : Nat) (zp5 : Option Addr) (zl6 : Nat) (zl7 : Nat) (zn8 : Int) (nx3 : List Value → Hp → Prop) (n173 : Int) : Hp → Prop :=
 NX [zv0, (.pointer (some za1)), (.slice zp2 zl3 zl4), (.slice zp5 zl6 zl7), (.int .i64 zn8), (.tuple #[])] [zv0, (.pointer (some za1)), (.slice zp2 zl3 zl4), (.slice zp5 zl6 zl7), (.int .i64 zn8), (.tuple #[])] (nx3 [(.int .i64 (IntKind.wrap .i64 (n173 + 1)))])
def B_law07_made_0 (W : World) (R : Ending → Hp → Prop) (zv0 : Value) (za1 : Addr) (zn2 : Int) (x6 : Option Addr) (l7 : Nat) (c8 : Nat) (n9 : Int) (nx0 : List Value → Hp → Prop) : Hp → Prop :=
 BR (decide (n9 < zn2))
 (CALLV Pg W zv0 [(.int .i64 900)]
 (fun v10 => TYI .i64 v10 fun n12 =>
 CALLV Pg W zv0 [(.int .i64 100)]
 (fun v13 => TYI .i64 v13 fun n15 =>
 NEWZ Pg 55 fun B16 =>
 WR (Addr.add ⟨B16, 0, none⟩ 0) (.int .i64 (IntKind.wrap .i64 (20 + n12))) <|
 WR (Addr.add ⟨B16, 0, none⟩ 1) (.int .i64 (IntKind.wrap .i64 (950 + n15))) <|
 RDI .i64 (Addr.add ⟨B16, 0, none⟩ 0) fun n17 =>
 RDI .i64 (Addr.add ⟨B16, 0, none⟩ 1) fun n18 =>
 NEW 55 [(.int .i64 n17), (.int .i64 n18)] fun B19 =>
 APP Pg 55 2 x6 l7 c8 (some ⟨B19, 0, none⟩) 1 fun x20 l21 c22 =>
 RDL (Addr.add za1 0) fun x23 l24 c25 =>
 RDI .i64 (Addr.add ⟨B16, 0, none⟩ 0) fun n26 =>
 RDI .i64 (Addr.add ⟨B16, 0, none⟩ 0) fun n27 =>
 RDI .i64 (Addr.add ⟨B16, 0, none⟩ 1) fun n28 =>
 RDI .i64 (Addr.add ⟨B16, 0, none⟩ 1) fun n29 =>
 CALLV Pg W zv0 [(.int .i64 2)]
 (fun v30 => TYI .i64 v30 fun n32 =>
 ANDS (RDI .i64 (Addr.add ⟨B16, 0, none⟩ 1) fun n33 =>
 fun _ => ((.int .i64 n33) : Value) = (.int .i64 n29)) <|
 ANDS (RDI .i64 (Addr.add ⟨B16, 0, none⟩ 1) fun n34 =>
 fun _ => ((.int .i64 n34) : Value) = (.int .i64 n28)) <|
 ANDS (RDI .i64 (Addr.add ⟨B16, 0, none⟩ 0) fun n35 =>
 fun _ => ((.int .i64 n35) : Value) = (.int .i64 n27)) <|
 ANDS (RDI .i64 (Addr.add ⟨B16, 0, none⟩ 0) fun n36 =>
 fun _ => ((.int .i64 n36) : Value) = (.int .i64 n26)) <|
 ANDS (RDL (Addr.add za1 0) fun x37 l38 c39 =>
 fun _ => ((.slice x37 l38 c39) : Value) = (.slice x23 l24 c25)) <|
 CALLV Pg W zv0 [(.int .i64 2)]
 (fun v40 => TYI .i64 v40 fun n42 =>
 ANDS (RDI .i64 (Addr.add ⟨B16, 0, none⟩ 1) fun n43 =>
 fun _ => ((.int .i64 n43) : Value) = (.int .i64 n29)) <|
 ANDS (RDI .i64 (Addr.add ⟨B16, 0, none⟩ 1) fun n44 =>
 fun _ => ((.int .i64 n44) : Value) = (.int .i64 n28)) <|
 ANDS (RDI .i64 (Addr.add ⟨B16, 0, none⟩ 0) fun n45 =>
 fun _ => ((.int .i64 n45) : Value) = (.int .i64 n27)) <|
 ANDS (RDI .i64 (Addr.add ⟨B16, 0, none⟩ 0) fun n46 =>
 fun _ => ((.int .i64 n46) : Value) = (.int .i64 n26)) <|
 ANDS (RDL (Addr.add za1 0) fun x47 l48 c49 =>
 fun _ => ((.slice x47 l48 c49) : Value) = (.slice x23 l24 c25)) <|
 CALL Pg W F_law07_span [(.int .i64 (IntKind.wrap .i64 (n26 - n32))), (.int .i64 (IntKind.wrap .i64 (n27 + n42)))]
 (fun v50 => AGG v50 fun q52 => HD q52 fun v53 r54 => TYI .i64 v53 fun n55 =>
 HD r54 fun v56 r57 => TYI .i64 v56 fun n58 =>
 NL r57 <|
 ANDS (RDI .i64 (Addr.add ⟨B16, 0, none⟩ 1) fun n59 =>
 fun _ => ((.int .i64 n59) : Value) = (.int .i64 n29)) <|
 ANDS (RDI .i64 (Addr.add ⟨B16, 0, none⟩ 1) fun n60 =>
 fun _ => ((.int .i64 n60) : Value) = (.int .i64 n28)) <|
 ANDS (RDL (Addr.add za1 0) fun x61 l62 c63 =>
 fun _ => ((.slice x61 l62 c63) : Value) = (.slice x23 l24 c25)) <|
 CALLV Pg W zv0 [(.int .i64 2)]
 (fun v64 => TYI .i64 v64 fun n66 =>
 ANDS (RDI .i64 (Addr.add ⟨B16, 0, none⟩ 1) fun n67 =>
 fun _ => ((.int .i64 n67) : Value) = (.int .i64 n29)) <|
 ANDS (RDI .i64 (Addr.add ⟨B16, 0, none⟩ 1) fun n68 =>
 fun _ => ((.int .i64 n68) : Value) = (.int .i64 n28)) <|
 ANDS (RDL (Addr.add za1 0) fun x69 l70 c71 =>
 fun _ => ((.slice x69 l70 c71) : Value) = (.slice x23 l24 c25)) <|
 CALLV Pg W zv0 [(.int .i64 2)]
 (fun v72 => TYI .i64 v72 fun n74 =>
 ANDS (RDI .i64 (Addr.add ⟨B16, 0, none⟩ 1) fun n75 =>
 fun _ => ((.int .i64 n75) : Value) = (.int .i64 n29)) <|
 ANDS (RDI .i64 (Addr.add ⟨B16, 0, none⟩ 1) fun n76 =>
 fun _ => ((.int .i64 n76) : Value) = (.int .i64 n28)) <|
 ANDS (RDL (Addr.add za1 0) fun x77 l78 c79 =>
 fun _ => ((.slice x77 l78 c79) : Value) = (.slice x23 l24 c25)) <|
 CALL Pg W F_law07_span [(.int .i64 (IntKind.wrap .i64 (n28 - n66))), (.int .i64 (IntKind.wrap .i64 (n29 + n74)))]
 (fun v80 => AGG v80 fun q82 => HD q82 fun v83 r84 => TYI .i64 v83 fun n85 =>
 HD r84 fun v86 r87 => TYI .i64 v86 fun n88 =>
 NL r87 <|
 ANDS (RDL (Addr.add za1 0) fun x89 l90 c91 =>
 fun _ => ((.slice x89 l90 c91) : Value) = (.slice x23 l24 c25)) <|
 NEW 66 [(.int .i64 n55), (.int .i64 n58), (.int .i64 n85), (.int .i64 n88)] fun B92 =>
 ANDS (RDL (Addr.add za1 0) fun x93 l94 c95 =>
 fun _ => ((.slice x93 l94 c95) : Value) = (.slice x23 l24 c25)) <|
 APP Pg 66 4 x23 l24 c25 (some ⟨B92, 0, none⟩) 1 fun x96 l97 c98 =>
 WR (Addr.add (Addr.add za1 0) 0) (.slice x96 l97 c98) <|
 NX [zv0, (.pointer (some za1)), (.slice none 0 0), (.int .i64 zn2), (.tuple #[])] [zv0, (.pointer (some za1)), (.slice none 0 0), (.int .i64 zn2), (.tuple #[])] (nx0 [(.slice x20 l21 c22), (.int .i64 (IntKind.wrap .i64 (n9 + 1)))]))
 (fun e81 => R (.panicked e81)))
 (fun e73 => R (.panicked e73)))
 (fun e65 => R (.panicked e65)))
 (fun e51 => R (.panicked e51)))
 (fun e41 => R (.panicked e41)))
 (fun e31 => R (.panicked e31)))
 (fun e14 => R (.panicked e14)))
 (fun e11 => R (.panicked e11)))
 (CALLV Pg W zv0 [(.int .i64 6)]
 (fun v99 => TYI .i64 v99 fun n101 =>
 WR (Addr.add (Addr.add za1 1) 0) (.int .i64 n101) <|
 RDI .i64 (Addr.add za1 1) fun n102 =>
 L_law07_made_1 W R zv0 za1 x6 l7 c8 n102 none 0 0 0)
 (fun e100 => R (.panicked e100)))
theorem B_law07_made_0_eq (W : World) (R : Ending → Hp → Prop) (zv0 : Value) (za1 : Addr) (zn2 : Int) (x6 : Option Addr) (l7 : Nat) (c8 : Nat) (n9 : Int) (nx0 : List Value → Hp → Prop) (j : Tm) : vc Pg W 155 rs_25 an_25 false (sub (bodyOf Try.f25) [1, 0, 1, 0, 0]) 0 (KLoop [3, 12] [0, 2, 4, 11, 155] [zv0, (.pointer (some za1)), (.slice none 0 0), (.int .i64 zn2), (.tuple #[])] nx0 (KBlk 0 (KS Pg W 155 rs_25 an_25 false (sub (bodyOf Try.f25) [1, 1]) 0 (fin Pg W 155 rv_25 R)))) (known [3, 12] [(.slice x6 l7 c8), (.int .i64 n9)] (known [0, 2, 4, 11, 155] [zv0, (.pointer (some za1)), (.slice none 0 0), (.int .i64 zn2), (.tuple #[])] j)) = B_law07_made_0 W R zv0 za1 zn2 x6 l7 c8 n9 nx0 := by kernel_rfl
def N_law07_made_0 (I : Option Addr → Nat → Nat → Int → Hp → Prop) (μ : Option Addr → Nat → Nat → Int → Hp → Nat) (x60 : Option Addr) (l70 : Nat) (c80 : Nat) (n90 : Int) (s : Hp) (vs : List Value) : Hp → Prop := fun s' => ∃ x6 l7 c8 n9, vs = [(.slice x6 l7 c8), (.int .i64 n9)] ∧ I x6 l7 c8 n9 s' ∧ μ x6 l7 c8 n9 s' < μ x60 l70 c80 n90 s
theorem L_law07_made_0_rule (W : World) (R : Ending → Hp → Prop) (zv0 : Value) (za1 : Addr) (zn2 : Int) (I : Option Addr → Nat → Nat → Int → Hp → Prop) (μ : Option Addr → Nat → Nat → Int → Hp → Nat) (x60 : Option Addr) (l70 : Nat) (c80 : Nat) (n90 : Int) (s : Hp) (h0 : I x60 l70 c80 n90 s)
    (hr : ∀ (x6 : Option Addr) (l7 : Nat) (c8 : Nat) (n9 : Int) (s : Hp), I x6 l7 c8 n9 s → B_law07_made_0 W R zv0 za1 zn2 x6 l7 c8 n9 (fun vs => N_law07_made_0 I μ x6 l7 c8 n9 s vs) s) : L_law07_made_0 W R zv0 za1 zn2 x60 l70 c80 n90 s := by
  refine ⟨fun vs s => ∃ x6 l7 c8 n9, vs = [(.slice x6 l7 c8), (.int .i64 n9)] ∧ I x6 l7 c8 n9 s, fun vs s => (match vs with | [.slice x6 l7 c8, .int _ n9] => μ x6 l7 c8 n9 s | _ => 0), ⟨⟨⟨_, _, _, rfl⟩, ⟨⟨_, rfl⟩, trivial⟩⟩, ⟨_, _, _, _, rfl, h0⟩⟩, ?_⟩
  intro x6 l7 c8 n9 s hI j
  obtain ⟨x6', l7', c8', n9', hy, hI⟩ := hI
  have hI' : I x6 l7 c8 n9 s := by cases hy; exact hI
  have hh := hr x6 l7 c8 n9 s hI'
  rw [← B_law07_made_0_eq W R zv0 za1 zn2 x6 l7 c8 n9 _ j] at hh
  refine vc_mono ?_ _ _ hh
  exact KLoop_mono (fun vs s' h => by obtain ⟨x61, l71, c81, n91, rfl, h1, h2⟩ := h; exact ⟨⟨⟨_, _, _, rfl⟩, ⟨⟨_, rfl⟩, trivial⟩⟩, ⟨_, _, _, _, rfl, h1⟩, h2⟩)
def B_law07_made_1 (W : World) (R : Ending → Hp → Prop) (zv0 : Value) (za1 : Addr) (zp2 : Option Addr) (zl3 : Nat) (zl4 : Nat) (zn5 : Int) (x103 : Option Addr) (l104 : Nat) (c105 : Nat) (n106 : Int) (nx1 : List Value → Hp → Prop) : Hp → Prop :=
 BR (decide (n106 < zn5))
 (CALLV Pg W zv0 [(.int .i64 601)]
 (fun v107 => TYI .i64 v107 fun n109 =>
 NEW 3 [(.int .i64 n109)] fun B110 =>
 APP Pg 3 1 x103 l104 c105 (some ⟨B110, 0, none⟩) 1 fun x111 l112 c113 =>
 NX [zv0, (.pointer (some za1)), (.slice zp2 zl3 zl4), (.int .i64 zn5), (.tuple #[])] [zv0, (.pointer (some za1)), (.slice zp2 zl3 zl4), (.int .i64 zn5), (.tuple #[])] (nx1 [(.slice x111 l112 c113), (.int .i64 (IntKind.wrap .i64 (n106 + 1)))]))
 (fun e108 => R (.panicked e108)))
 (RDI .i64 (Addr.add za1 1) fun n114 =>
 BR (n114 == 0)
 (RDL (Addr.add za1 0) fun x115 l116 c117 =>
 RDI .i64 (Addr.add za1 1) fun n118 =>
 RDL (Addr.add za1 2) fun x119 l120 c121 =>
 RDL (Addr.add za1 3) fun x122 l123 c124 =>
 WR (Addr.add za1 0) (.slice x115 l116 c117) <|
 WR (Addr.add za1 1) (.int .i64 n118) <|
 WR (Addr.add za1 2) (.slice x119 l120 c121) <|
 WR (Addr.add za1 3) (.slice x122 l123 c124) <|
 RDL (Addr.add za1 0) fun x125 l126 c127 =>
 RDI .i64 (Addr.add za1 1) fun n128 =>
 RDL (Addr.add za1 2) fun x129 l130 c131 =>
 RDL (Addr.add za1 3) fun x132 l133 c134 =>
 R (.returned (.tuple #[(.agg #[(.slice x125 l126 c127), (.int .i64 n128), (.slice x129 l130 c131), (.slice x132 l133 c134)]), (.slice zp2 zl3 zl4), (.slice x103 l104 c105)])))
 (BR (decide ((↑zl3 : Int) > 0))
 (CALLV Pg W zv0 [(.int .i64 9)]
 (fun v135 => TYI .i64 v135 fun n137 =>
 L_law07_made_2 W R zv0 za1 zp2 zl3 zl4 x103 l104 c105 n137 0)
 (fun e136 => R (.panicked e136)))
 (CALLV Pg W zv0 [(.int .i64 6)]
 (fun v138 => TYI .i64 v138 fun n140 =>
 L_law07_made_3 W R zv0 za1 zp2 zl3 zl4 x103 l104 c105 n140 0)
 (fun e139 => R (.panicked e139)))))
theorem B_law07_made_1_eq (W : World) (R : Ending → Hp → Prop) (zv0 : Value) (za1 : Addr) (zp2 : Option Addr) (zl3 : Nat) (zl4 : Nat) (zn5 : Int) (x103 : Option Addr) (l104 : Nat) (c105 : Nat) (n106 : Int) (nx1 : List Value → Hp → Prop) (j : Tm) : vc Pg W 155 rs_25 an_25 false (sub (bodyOf Try.f25) [1, 1, 1, 0, 1, 0, 0]) 2 (KLoop [4, 59] [0, 2, 3, 58, 155] [zv0, (.pointer (some za1)), (.slice zp2 zl3 zl4), (.int .i64 zn5), (.tuple #[])] nx1 (KBlk 2 (KS Pg W 155 rs_25 an_25 false (sub (bodyOf Try.f25) [1, 1, 1, 1]) 0 (fin Pg W 155 rv_25 R)))) (known [4, 59] [(.slice x103 l104 c105), (.int .i64 n106)] (known [0, 2, 3, 58, 155] [zv0, (.pointer (some za1)), (.slice zp2 zl3 zl4), (.int .i64 zn5), (.tuple #[])] j)) = B_law07_made_1 W R zv0 za1 zp2 zl3 zl4 zn5 x103 l104 c105 n106 nx1 := by kernel_rfl
def N_law07_made_1 (I : Option Addr → Nat → Nat → Int → Hp → Prop) (μ : Option Addr → Nat → Nat → Int → Hp → Nat) (x1030 : Option Addr) (l1040 : Nat) (c1050 : Nat) (n1060 : Int) (s : Hp) (vs : List Value) : Hp → Prop := fun s' => ∃ x103 l104 c105 n106, vs = [(.slice x103 l104 c105), (.int .i64 n106)] ∧ I x103 l104 c105 n106 s' ∧ μ x103 l104 c105 n106 s' < μ x1030 l1040 c1050 n1060 s
theorem L_law07_made_1_rule (W : World) (R : Ending → Hp → Prop) (zv0 : Value) (za1 : Addr) (zp2 : Option Addr) (zl3 : Nat) (zl4 : Nat) (zn5 : Int) (I : Option Addr → Nat → Nat → Int → Hp → Prop) (μ : Option Addr → Nat → Nat → Int → Hp → Nat) (x1030 : Option Addr) (l1040 : Nat) (c1050 : Nat) (n1060 : Int) (s : Hp) (h0 : I x1030 l1040 c1050 n1060 s)
    (hr : ∀ (x103 : Option Addr) (l104 : Nat) (c105 : Nat) (n106 : Int) (s : Hp), I x103 l104 c105 n106 s → B_law07_made_1 W R zv0 za1 zp2 zl3 zl4 zn5 x103 l104 c105 n106 (fun vs => N_law07_made_1 I μ x103 l104 c105 n106 s vs) s) : L_law07_made_1 W R zv0 za1 zp2 zl3 zl4 zn5 x1030 l1040 c1050 n1060 s := by
  refine ⟨fun vs s => ∃ x103 l104 c105 n106, vs = [(.slice x103 l104 c105), (.int .i64 n106)] ∧ I x103 l104 c105 n106 s, fun vs s => (match vs with | [.slice x103 l104 c105, .int _ n106] => μ x103 l104 c105 n106 s | _ => 0), ⟨⟨⟨_, _, _, rfl⟩, ⟨⟨_, rfl⟩, trivial⟩⟩, ⟨_, _, _, _, rfl, h0⟩⟩, ?_⟩
  intro x103 l104 c105 n106 s hI j
  obtain ⟨x103', l104', c105', n106', hy, hI⟩ := hI
  have hI' : I x103 l104 c105 n106 s := by cases hy; exact hI
  have hh := hr x103 l104 c105 n106 s hI'
  rw [← B_law07_made_1_eq W R zv0 za1 zp2 zl3 zl4 zn5 x103 l104 c105 n106 _ j] at hh
  refine vc_mono ?_ _ _ hh
  exact KLoop_mono (fun vs s' h => by obtain ⟨x1031, l1041, c1051, n1061, rfl, h1, h2⟩ := h; exact ⟨⟨⟨_, _, _, rfl⟩, ⟨⟨_, rfl⟩, trivial⟩⟩, ⟨_, _, _, _, rfl, h1⟩, h2⟩)
def B_law07_made_2 (W : World) (R : Ending → Hp → Prop) (zv0 : Value) (za1 : Addr) (zp2 : Option Addr) (zl3 : Nat) (zl4 : Nat) (zp5 : Option Addr) (zl6 : Nat) (zl7 : Nat) (zn8 : Int) (n141 : Int) (nx2 : List Value → Hp → Prop) : Hp → Prop :=
 BR (decide (n141 < zn8))
 (RDI .i64 (Addr.add za1 1) fun n142 =>
 CALLV Pg W zv0 [(.int .i64 n142)]
 (fun v143 => TYI .i64 v143 fun n145 =>
 CALLV Pg W zv0 [(.int .i64 (↑zl3 : Int))]
 (fun v146 => TYI .i64 v146 fun n148 =>
 NEWZ Pg 61 fun B149 =>
 WR (Addr.add ⟨B149, 0, none⟩ 0) (.int .i64 n145) <|
 WR (Addr.add ⟨B149, 0, none⟩ 1) (.int .i64 n148) <|
 WR (Addr.add ⟨B149, 0, none⟩ 2) (.int .i64 0) <|
 RDI .i64 (Addr.add ⟨B149, 0, none⟩ 1) fun n150 =>
 IXS zp2 zl3 n150 2 fun a151 =>
 RDI .i64 (Addr.add a151 0) fun n152 =>
 RDI .i64 (Addr.add a151 1) fun n153 =>
 RDI .i64 (Addr.add ⟨B149, 0, none⟩ 0) fun n154 =>
 IXS zp5 zl6 n154 1 fun a155 =>
 RDI .i64 a155 fun n156 =>
 CALL Pg W F_ref07_Show [(.agg #[(.int .i64 n152), (.int .i64 n153)]), (.int .i64 n156)]
 (fun v157 => TYI .i64 v157 fun n159 =>
 WR (Addr.add (Addr.add ⟨B149, 0, none⟩ 2) 0) (.int .i64 n159) <|
 RDL (Addr.add za1 2) fun x160 l161 c162 =>
 RDI .i64 (Addr.add ⟨B149, 0, none⟩ 0) fun n163 =>
 RDI .i64 (Addr.add ⟨B149, 0, none⟩ 1) fun n164 =>
 RDI .i64 (Addr.add ⟨B149, 0, none⟩ 2) fun n165 =>
 NEW 61 [(.int .i64 n163), (.int .i64 n164), (.int .i64 n165)] fun B166 =>
 APP Pg 61 3 x160 l161 c162 (some ⟨B166, 0, none⟩) 1 fun x167 l168 c169 =>
 WR (Addr.add (Addr.add za1 2) 0) (.slice x167 l168 c169) <|
 NX [zv0, (.pointer (some za1)), (.slice zp2 zl3 zl4), (.slice zp5 zl6 zl7), (.int .i64 zn8), (.tuple #[])] [zv0, (.pointer (some za1)), (.slice zp2 zl3 zl4), (.slice zp5 zl6 zl7), (.int .i64 zn8), (.tuple #[])] (nx2 [(.int .i64 (IntKind.wrap .i64 (n141 + 1)))]))
 (fun e158 => R (.panicked e158)))
 (fun e147 => R (.panicked e147)))
 (fun e144 => R (.panicked e144)))
 (CALLV Pg W zv0 [(.int .i64 6)]
 (fun v170 => TYI .i64 v170 fun n172 =>
 L_law07_made_3 W R zv0 za1 zp2 zl3 zl4 zp5 zl6 zl7 n172 0)
 (fun e171 => R (.panicked e171)))
theorem B_law07_made_2_eq (W : World) (R : Ending → Hp → Prop) (zv0 : Value) (za1 : Addr) (zp2 : Option Addr) (zl3 : Nat) (zl4 : Nat) (zp5 : Option Addr) (zl6 : Nat) (zl7 : Nat) (zn8 : Int) (n141 : Int) (nx2 : List Value → Hp → Prop) (j : Tm) : vc Pg W 155 rs_25 an_25 false (sub (bodyOf Try.f25) [1, 1, 1, 1, 1, 0, 1, 0, 1, 0, 0]) 4 (KLoop [78] [0, 2, 3, 4, 77, 155] [zv0, (.pointer (some za1)), (.slice zp2 zl3 zl4), (.slice zp5 zl6 zl7), (.int .i64 zn8), (.tuple #[])] nx2 (KBlk 4 (KS Pg W 155 rs_25 an_25 false (sub (bodyOf Try.f25) [1, 1, 1, 1, 1, 1]) 0 (fin Pg W 155 rv_25 R)))) (known [78] [(.int .i64 n141)] (known [0, 2, 3, 4, 77, 155] [zv0, (.pointer (some za1)), (.slice zp2 zl3 zl4), (.slice zp5 zl6 zl7), (.int .i64 zn8), (.tuple #[])] j)) = B_law07_made_2 W R zv0 za1 zp2 zl3 zl4 zp5 zl6 zl7 zn8 n141 nx2 := by kernel_rfl
def N_law07_made_2 (I : Int → Hp → Prop) (μ : Int → Hp → Nat) (n1410 : Int) (s : Hp) (vs : List Value) : Hp → Prop := fun s' => ∃ n141, vs = [(.int .i64 n141)] ∧ I n141 s' ∧ μ n141 s' < μ n1410 s
theorem L_law07_made_2_rule (W : World) (R : Ending → Hp → Prop) (zv0 : Value) (za1 : Addr) (zp2 : Option Addr) (zl3 : Nat) (zl4 : Nat) (zp5 : Option Addr) (zl6 : Nat) (zl7 : Nat) (zn8 : Int) (I : Int → Hp → Prop) (μ : Int → Hp → Nat) (n1410 : Int) (s : Hp) (h0 : I n1410 s)
    (hr : ∀ (n141 : Int) (s : Hp), I n141 s → B_law07_made_2 W R zv0 za1 zp2 zl3 zl4 zp5 zl6 zl7 zn8 n141 (fun vs => N_law07_made_2 I μ n141 s vs) s) : L_law07_made_2 W R zv0 za1 zp2 zl3 zl4 zp5 zl6 zl7 zn8 n1410 s := by
  refine ⟨fun vs s => ∃ n141, vs = [(.int .i64 n141)] ∧ I n141 s, fun vs s => (match vs with | [.int _ n141] => μ n141 s | _ => 0), ⟨⟨⟨_, rfl⟩, trivial⟩, ⟨_, rfl, h0⟩⟩, ?_⟩
  intro n141 s hI j
  obtain ⟨n141', hy, hI⟩ := hI
  have hI' : I n141 s := by cases hy; exact hI
  have hh := hr n141 s hI'
  rw [← B_law07_made_2_eq W R zv0 za1 zp2 zl3 zl4 zp5 zl6 zl7 zn8 n141 _ j] at hh
  refine vc_mono ?_ _ _ hh
  exact KLoop_mono (fun vs s' h => by obtain ⟨n1411, rfl, h1, h2⟩ := h; exact ⟨⟨⟨_, rfl⟩, trivial⟩, ⟨_, rfl, h1⟩, h2⟩)
def B_law07_made_3 (W : World) (R : Ending → Hp → Prop) (zv0 : Value) (za1 : Addr) (zp2 : Option Addr) (zl3 : Nat) (zl4 : Nat) (zp5 : Option Addr) (zl6 : Nat) (zl7 : Nat) (zn8 : Int) (n173 : Int) (nx3 : List Value → Hp → Prop) : Hp → Prop :=
 BR (decide (n173 < zn8))
 (RDI .i64 (Addr.add za1 1) fun n174 =>
 RDI .i64 (Addr.add za1 1) fun n175 =>
 CALLV Pg W zv0 [(.int .i64 n174)]
 (fun v176 => TYI .i64 v176 fun n178 =>
 ANDS (RDI .i64 (Addr.add za1 1) fun n179 =>
 fun _ => ((.int .i64 n179) : Value) = (.int .i64 n175)) <|
 CALLV Pg W zv0 [(.int .i64 n175)]
 (fun v180 => TYI .i64 v180 fun n182 =>
 BR (n178 == n182)
 (J_law07_made_0 W R zv0 za1 zp2 zl3 zl4 zp5 zl6 zl7 zn8 nx3 n173)
 (IXS zp5 zl6 n182 1 fun a183 =>
 RDI .i64 a183 fun n184 =>
 IXS zp5 zl6 n178 1 fun a185 =>
 RDI .i64 a185 fun n186 =>
 RDL (Addr.add za1 3) fun x187 l188 c189 =>
 CALLV Pg W zv0 [(.int .i64 9)]
 (fun v190 => TYI .i64 v190 fun n192 =>
 ANDS (RDL (Addr.add za1 3) fun x193 l194 c195 =>
 fun _ => ((.slice x193 l194 c195) : Value) = (.slice x187 l188 c189)) <|
 CONJ [
 ANDS (RDL (Addr.add za1 3) fun x196 l197 c198 =>
 fun _ => ((.slice x196 l197 c198) : Value) = (.slice x187 l188 c189)) <|
 CALLV Pg W zv0 [(.int .i64 9)]
 (fun v199 => TYI .i64 v199 fun n201 =>
 ANDS (RDL (Addr.add za1 3) fun x202 l203 c204 =>
 fun _ => ((.slice x202 l203 c204) : Value) = (.slice x187 l188 c189)) <|
 ANDS (RDL (Addr.add za1 3) fun x205 l206 c207 =>
 fun _ => ((.slice x205 l206 c207) : Value) = (.slice x187 l188 c189)) <|
 CALL Pg W F_law07_span [(.int .i64 (if (IntKind.wrap .i64 ((IntKind.wrap .i64 (n184 - n186)) - n192)) > (-600) then (IntKind.wrap .i64 ((IntKind.wrap .i64 (n184 - n186)) - n192)) else (-600))), (.int .i64 (if (IntKind.wrap .i64 ((IntKind.wrap .i64 (n184 - n186)) + n201)) < 600 then (IntKind.wrap .i64 ((IntKind.wrap .i64 (n184 - n186)) + n201)) else 600))]
 (fun v208 => AGG v208 fun q210 => HD q210 fun v211 r212 => TYI .i64 v211 fun n213 =>
 HD r212 fun v214 r215 => TYI .i64 v214 fun n216 =>
 NL r215 <|
 ANDS (RDL (Addr.add za1 3) fun x217 l218 c219 =>
 fun _ => ((.slice x217 l218 c219) : Value) = (.slice x187 l188 c189)) <|
 NEW 63 [(.int .i64 n178), (.int .i64 n182), (.int .i64 n213), (.int .i64 n216)] fun B220 =>
 ANDS (RDL (Addr.add za1 3) fun x221 l222 c223 =>
 fun _ => ((.slice x221 l222 c223) : Value) = (.slice x187 l188 c189)) <|
 APP Pg 63 4 x187 l188 c189 (some ⟨B220, 0, none⟩) 1 fun x224 l225 c226 =>
 WR (Addr.add (Addr.add za1 3) 0) (.slice x224 l225 c226) <|
 J_law07_made_0 W R zv0 za1 zp2 zl3 zl4 zp5 zl6 zl7 zn8 nx3 n173)
 (fun e209 => R (.panicked e209)))
 (fun e200 => R (.panicked e200)),
 CALLV Pg W zv0 [(.int .i64 9)]
 (fun v227 => TYI .i64 v227 fun n229 =>
 ANDS (RDL (Addr.add za1 3) fun x230 l231 c232 =>
 fun _ => ((.slice x230 l231 c232) : Value) = (.slice x187 l188 c189)) <|
 CONJ [
 ANDS (RDL (Addr.add za1 3) fun x233 l234 c235 =>
 fun _ => ((.slice x233 l234 c235) : Value) = (.slice x187 l188 c189)) <|
 ANDS (RDL (Addr.add za1 3) fun x236 l237 c238 =>
 fun _ => ((.slice x236 l237 c238) : Value) = (.slice x187 l188 c189)) <|
 CALL Pg W F_law07_span [(.int .i64 (if (IntKind.wrap .i64 ((IntKind.wrap .i64 (n184 - n186)) - n192)) > (-600) then (IntKind.wrap .i64 ((IntKind.wrap .i64 (n184 - n186)) - n192)) else (-600))), (.int .i64 (if (IntKind.wrap .i64 ((IntKind.wrap .i64 (n184 - n186)) + n229)) < 600 then (IntKind.wrap .i64 ((IntKind.wrap .i64 (n184 - n186)) + n229)) else 600))]
 (fun v239 => AGG v239 fun q241 => HD q241 fun v242 r243 => TYI .i64 v242 fun n244 =>
 HD r243 fun v245 r246 => TYI .i64 v245 fun n247 =>
 NL r246 <|
 ANDS (RDL (Addr.add za1 3) fun x248 l249 c250 =>
 fun _ => ((.slice x248 l249 c250) : Value) = (.slice x187 l188 c189)) <|
 NEW 63 [(.int .i64 n178), (.int .i64 n182), (.int .i64 n244), (.int .i64 n247)] fun B251 =>
 ANDS (RDL (Addr.add za1 3) fun x252 l253 c254 =>
 fun _ => ((.slice x252 l253 c254) : Value) = (.slice x187 l188 c189)) <|
 APP Pg 63 4 x187 l188 c189 (some ⟨B251, 0, none⟩) 1 fun x255 l256 c257 =>
 WR (Addr.add (Addr.add za1 3) 0) (.slice x255 l256 c257) <|
 J_law07_made_0 W R zv0 za1 zp2 zl3 zl4 zp5 zl6 zl7 zn8 nx3 n173)
 (fun e240 => R (.panicked e240)),
 ANDS (RDL (Addr.add za1 3) fun x258 l259 c260 =>
 fun _ => ((.slice x258 l259 c260) : Value) = (.slice x187 l188 c189)) <|
 ANDS (RDL (Addr.add za1 3) fun x261 l262 c263 =>
 fun _ => ((.slice x261 l262 c263) : Value) = (.slice x187 l188 c189)) <|
 CALL Pg W F_law07_span [(.int .i64 (if (IntKind.wrap .i64 ((IntKind.wrap .i64 (n184 - n186)) - n192)) > (-600) then (IntKind.wrap .i64 ((IntKind.wrap .i64 (n184 - n186)) - n192)) else (-600))), (.int .i64 (if (IntKind.wrap .i64 ((IntKind.wrap .i64 (n184 - n186)) + n229)) < 600 then (IntKind.wrap .i64 ((IntKind.wrap .i64 (n184 - n186)) + n229)) else 600))]
 (fun v264 => AGG v264 fun q266 => HD q266 fun v267 r268 => TYI .i64 v267 fun n269 =>
 HD r268 fun v270 r271 => TYI .i64 v270 fun n272 =>
 NL r271 <|
 ANDS (RDL (Addr.add za1 3) fun x273 l274 c275 =>
 fun _ => ((.slice x273 l274 c275) : Value) = (.slice x187 l188 c189)) <|
 NEW 63 [(.int .i64 n178), (.int .i64 n182), (.int .i64 n269), (.int .i64 n272)] fun B276 =>
 ANDS (RDL (Addr.add za1 3) fun x277 l278 c279 =>
 fun _ => ((.slice x277 l278 c279) : Value) = (.slice x187 l188 c189)) <|
 APP Pg 63 4 x187 l188 c189 (some ⟨B276, 0, none⟩) 1 fun x280 l281 c282 =>
 WR (Addr.add (Addr.add za1 3) 0) (.slice x280 l281 c282) <|
 J_law07_made_0 W R zv0 za1 zp2 zl3 zl4 zp5 zl6 zl7 zn8 nx3 n173)
 (fun e265 => R (.panicked e265))])
 (fun e228 => R (.panicked e228))])
 (fun e191 => R (.panicked e191))))
 (fun e181 => R (.panicked e181)))
 (fun e177 => R (.panicked e177)))
 (RDL (Addr.add za1 0) fun x283 l284 c285 =>
 RDI .i64 (Addr.add za1 1) fun n286 =>
 RDL (Addr.add za1 2) fun x287 l288 c289 =>
 RDL (Addr.add za1 3) fun x290 l291 c292 =>
 WR (Addr.add za1 0) (.slice x283 l284 c285) <|
 WR (Addr.add za1 1) (.int .i64 n286) <|
 WR (Addr.add za1 2) (.slice x287 l288 c289) <|
 WR (Addr.add za1 3) (.slice x290 l291 c292) <|
 RDL (Addr.add za1 0) fun x293 l294 c295 =>
 RDI .i64 (Addr.add za1 1) fun n296 =>
 RDL (Addr.add za1 2) fun x297 l298 c299 =>
 RDL (Addr.add za1 3) fun x300 l301 c302 =>
 R (.returned (.tuple #[(.agg #[(.slice x293 l294 c295), (.int .i64 n296), (.slice x297 l298 c299), (.slice x300 l301 c302)]), (.slice zp2 zl3 zl4), (.slice zp5 zl6 zl7)])))
theorem B_law07_made_3_eq (W : World) (R : Ending → Hp → Prop) (zv0 : Value) (za1 : Addr) (zp2 : Option Addr) (zl3 : Nat) (zl4 : Nat) (zp5 : Option Addr) (zl6 : Nat) (zl7 : Nat) (zn8 : Int) (n173 : Int) (nx3 : List Value → Hp → Prop) (j : Tm) : vc Pg W 155 rs_25 an_25 false (sub (bodyOf Try.f25) [1, 1, 1, 1, 1, 1, 0, 1, 0, 0]) 6 (KLoop [110] [0, 2, 3, 4, 109, 155] [zv0, (.pointer (some za1)), (.slice zp2 zl3 zl4), (.slice zp5 zl6 zl7), (.int .i64 zn8), (.tuple #[])] nx3 (KBlk 6 (KS Pg W 155 rs_25 an_25 false (sub (bodyOf Try.f25) [1, 1, 1, 1, 1, 1, 1]) 0 (fin Pg W 155 rv_25 R)))) (known [110] [(.int .i64 n173)] (known [0, 2, 3, 4, 109, 155] [zv0, (.pointer (some za1)), (.slice zp2 zl3 zl4), (.slice zp5 zl6 zl7), (.int .i64 zn8), (.tuple #[])] j)) = B_law07_made_3 W R zv0 za1 zp2 zl3 zl4 zp5 zl6 zl7 zn8 n173 nx3 := by kernel_rfl
def N_law07_made_3 (I : Int → Hp → Prop) (μ : Int → Hp → Nat) (n1730 : Int) (s : Hp) (vs : List Value) : Hp → Prop := fun s' => ∃ n173, vs = [(.int .i64 n173)] ∧ I n173 s' ∧ μ n173 s' < μ n1730 s
theorem L_law07_made_3_rule (W : World) (R : Ending → Hp → Prop) (zv0 : Value) (za1 : Addr) (zp2 : Option Addr) (zl3 : Nat) (zl4 : Nat) (zp5 : Option Addr) (zl6 : Nat) (zl7 : Nat) (zn8 : Int) (I : Int → Hp → Prop) (μ : Int → Hp → Nat) (n1730 : Int) (s : Hp) (h0 : I n1730 s)
    (hr : ∀ (n173 : Int) (s : Hp), I n173 s → B_law07_made_3 W R zv0 za1 zp2 zl3 zl4 zp5 zl6 zl7 zn8 n173 (fun vs => N_law07_made_3 I μ n173 s vs) s) : L_law07_made_3 W R zv0 za1 zp2 zl3 zl4 zp5 zl6 zl7 zn8 n1730 s := by
  refine ⟨fun vs s => ∃ n173, vs = [(.int .i64 n173)] ∧ I n173 s, fun vs s => (match vs with | [.int _ n173] => μ n173 s | _ => 0), ⟨⟨⟨_, rfl⟩, trivial⟩, ⟨_, rfl, h0⟩⟩, ?_⟩
  intro n173 s hI j
  obtain ⟨n173', hy, hI⟩ := hI
  have hI' : I n173 s := by cases hy; exact hI
  have hh := hr n173 s hI'
  rw [← B_law07_made_3_eq W R zv0 za1 zp2 zl3 zl4 zp5 zl6 zl7 zn8 n173 _ j] at hh
  refine vc_mono ?_ _ _ hh
  exact KLoop_mono (fun vs s' h => by obtain ⟨n1731, rfl, h1, h2⟩ := h; exact ⟨⟨⟨_, rfl⟩, trivial⟩, ⟨_, rfl, h1⟩, h2⟩)
def T_law07_made (W : World) (v1 : Value) (R : Ending → Hp → Prop) : Hp → Prop :=
 NEWZ Pg 26 fun B2 =>
 CALLV Pg W v1 [(.int .i64 3)]
 (fun v3 => TYI .i64 v3 fun n5 =>
 L_law07_made_0 W R v1 ⟨B2, 0, none⟩ n5 none 0 0 0)
 (fun e4 => R (.panicked e4))
theorem T_law07_made_eq (W : World) (v1 : Value) (R : Ending → Hp → Prop) : vfun Pg W an_25 Try.f25 [v1] R = T_law07_made W v1 R := by kernel_rfl
theorem does_law07_made (W : World) (v1 : Value) (R : Ending → Hp → Prop) (s : Hp) (h : T_law07_made W v1 R s) : Does Pg W F_law07_made #[v1] s R :=
  does_of_vfun Pg W an_25 Try.func25 rfl (by kernel_rfl) (by rw [T_law07_made_eq]; exact h)
def an_26 : Nat → Ann := fun b => match b with
 | _ => {}
abbrev rv_26 : List ResultVar := [.tmp 2]
abbrev rs_26 : List Nat := [5, 2]
def T_law07_draws (W : World) (x1 : Option Addr) (l2 : Nat) (c3 : Nat) (R : Ending → Hp → Prop) : Hp → Prop :=
 NEW 47 [(.slice x1 l2 c3)] fun B4 =>
 NEWZ Pg 3 fun B5 =>
 WR (Addr.add ⟨B5, 0, none⟩ 0) (.int .i64 0) <|
 R (.returned (.func (.func 57) #[] #[(.pointer (some ⟨B5, 0, none⟩)), (.pointer (some ⟨B4, 0, none⟩))]))
theorem T_law07_draws_eq (W : World) (x1 : Option Addr) (l2 : Nat) (c3 : Nat) (R : Ending → Hp → Prop) : vfun Pg W an_26 Try.f26 [(.slice x1 l2 c3)] R = T_law07_draws W x1 l2 c3 R := by kernel_rfl
theorem does_law07_draws (W : World) (x1 : Option Addr) (l2 : Nat) (c3 : Nat) (R : Ending → Hp → Prop) (s : Hp) (h : T_law07_draws W x1 l2 c3 R s) : Does Pg W F_law07_draws #[(.slice x1 l2 c3)] s R :=
  does_of_vfun Pg W an_26 Try.func26 rfl (by kernel_rfl) (by rw [T_law07_draws_eq]; exact h)
def an_57 : Nat → Ann := fun b => match b with
 | _ => {}
abbrev rv_57 : List ResultVar := [.tmp 4]
abbrev rs_57 : List Nat := [20, 4]
def T_law07_draws_c1 (W : World) (n1 : Int) (a2 : Addr) (a3 : Addr) (R : Ending → Hp → Prop) : Hp → Prop :=
 RDI .i64 a2 fun n4 =>
 WR (Addr.add a2 0) (.int .i64 (IntKind.wrap .i64 (n4 + 1))) <|
 RDL a3 fun x5 l6 c7 =>
 RDI .i64 a2 fun n8 =>
 RDL a3 fun x9 l10 c11 =>
 NZI (↑l10 : Int) <|
 IXS x5 l6 (Int.tmod n8 (↑l10 : Int)) 1 fun a12 =>
 RDI .u16 a12 fun n13 =>
 RDI .i64 a2 fun n14 =>
 NZI n1 <|
 R (.returned (.int .i64 (Int.tmod (IntKind.wrap .i64 ((IntKind.wrap .i64 n13) + (IntKind.wrap .i64 (53 * n14)))) n1)))
theorem T_law07_draws_c1_eq (W : World) (n1 : Int) (a2 : Addr) (a3 : Addr) (R : Ending → Hp → Prop) : vfun Pg W an_57 Try.f57 [(.int .i64 n1), (.pointer (some a2)), (.pointer (some a3))] R = T_law07_draws_c1 W n1 a2 a3 R := by kernel_rfl
theorem does_law07_draws_c1 (W : World) (n1 : Int) (a2 : Addr) (a3 : Addr) (R : Ending → Hp → Prop) (s : Hp) (h : T_law07_draws_c1 W n1 a2 a3 R s) : Does Pg W F_law07_draws_c1 #[(.int .i64 n1), (.pointer (some a2)), (.pointer (some a3))] s R :=
  does_of_vfun Pg W an_57 Try.func57 rfl (by kernel_rfl) (by rw [T_law07_draws_c1_eq]; exact h)
end Go.Proofs.Ytknpmijgdfeliaa.G

/- Clock: numbers that are drawn. -/
set_option linter.unusedSimpArgs false
set_option linter.unusedVariables false
set_option maxRecDepth 20000
namespace Go.Proofs.Ytknpmijgdfeliaa.G
open Go.V
def u16s (l : List Nat) : List Value := l.map fun (b : Nat) => .int .u16 (b : Int)
/-- What draws numbers: so many were drawn; all of it lies below 'N'. -/
structure DrO (N : Nat) (s : Hp) (a b : Addr) (k : Nat) : Prop where
  le : k ≤ 1000000
  at' : Own s a (.int .i64 (k : Int))
  by' : ∃ x l c, cellAt s b = some (.slice x l c) ∧ 0 < l ∧ ∀ i, i < l → ∃ y v, x = some y ∧ y.block ≠ a.block ∧ y.block < N ∧ cellAt s (y.add (i * 1)) = some (.int .u16 ((v : Nat) : Int)) ∧ v < 65536
  ne : a.block ≠ b.block
  an : a.block < N
  bn : b.block < N
section
variable {W : World} {K : VK} {E : List PanicEntry → Hp → Prop} {s : Hp}
theorem DrO.kp {N : Nat} {D : Nat → Prop} {s s' : Hp} {a b : Addr} {k : Nat} (h : DrO N s a b k) (e : Kp D s s') (hd : ∀ q, q < N → ¬ D q) : DrO N s' a b k where
  le := h.le
  at' := e.own (hd _ h.an) h.at'
  by' := by
    obtain ⟨x, l, c, h1, h2, h3⟩ := h.by'
    refine ⟨x, l, c, e.cell (hd _ h.bn) h1, h2, fun i hi => ?_⟩
    obtain ⟨y, v, g1, g2, g5, g3, g4⟩ := h3 i hi
    exact ⟨y, v, g1, g2, g5, e.cell (by rw [add_blk]; exact hd _ g5) g3, g4⟩
  ne := h.ne
  an := h.an
  bn := h.bn
theorem DrO.ext {N : Nat} {s s' : Hp} {a b : Addr} {k : Nat} (h : DrO N s a b k) (e : Ext s s') : DrO N s' a b k := h.kp (D := fun _ => False) e.kp fun _ _ h => h
theorem c_draw {N : Nat} {a b : Addr} {k : Nat} {n : Int} (hd : DrO N s a b k) (hk : k < 1000000) (hn : 0 < n ∧ n ≤ 100000) (h : ∀ s' r, Kp (· = a.block) s s' → s'.size = s.size → 0 ≤ r → r < n → DrO N s' a b (k + 1) → K (.int .i64 r) s') : CALLV Pg W (.func (.func 57) #[] #[.pointer (some a), .pointer (some b)]) [.int .i64 n] K E s := by
  refine CALLV_func ?_
  refine does_law07_draws_c1 W n a b _ s ?_
  unfold T_law07_draws_c1
  obtain ⟨x, l, c, h1, h2, h3⟩ := hd.by'
  refine ⟨_, hd.at'.cell, ?_⟩
  dsimp only
  rw [wrap_succ (by omega)]
  refine wr1 (a := a) hd.at' rfl fun s1 k1 z1 o1 => ?_
  have hb : ¬ b.block = a.block := fun e => hd.ne e.symm
  have h1' := k1.cell hb h1
  refine ⟨_, _, _, h1', ⟨_, o1.cell, ⟨_, _, _, h1', NZI_pos (by omega) ?_⟩⟩⟩
  have hm : Int.tmod (((k + 1 : Nat) : Int)) ((l : Nat) : Int) = (((k + 1) % l : Nat) : Int) := by
    rw [Int.tmod_eq_emod_of_nonneg (by omega)]; rfl
  rw [hm]
  have hml : (k + 1) % l < l := Nat.mod_lt _ h2
  obtain ⟨y, v, g1, g2, g5, g3, g4⟩ := h3 _ hml
  rw [g1]
  refine IXS_nat hml ⟨_, k1.cell (by rw [add_blk]; exact g2) g3, ⟨_, o1.cell, NZI_pos (by omega) ?_⟩⟩
  have e : Int.tmod (IntKind.i64.wrap (IntKind.i64.wrap ((v : Nat) : Int) + IntKind.i64.wrap (53 * (((k + 1 : Nat) : Int))))) n = ((v : Int) + 53 * ((k + 1 : Nat) : Int)) % n := by
    rw [wrap_i64 (n := ((v : Nat) : Int)) (by omega) (by omega), wrap_i64 (n := 53 * (((k + 1 : Nat) : Int))) (by omega) (by omega), wrap_i64 (by omega) (by omega), Int.tmod_eq_emod_of_nonneg (by omega)]
  rw [e]
  refine h s1 _ k1 z1 (Int.emod_nonneg _ (by omega)) (Int.emod_lt_of_pos _ hn.1) ⟨by omega, o1, ⟨x, l, c, h1', h2, fun i hi => ?_⟩, hd.ne, hd.an, hd.bn⟩
  obtain ⟨y', v', q1, q2, q5, q3, q4⟩ := h3 i hi
  exact ⟨y', v', q1, q2, q5, k1.cell (by rw [add_blk]; exact q2) q3, q4⟩
end
end Go.Proofs.Ytknpmijgdfeliaa.G

/- Clock: the document's functions. -/
set_option linter.unusedSimpArgs false
set_option linter.unusedVariables false
set_option maxRecDepth 20000
namespace Go.Proofs.Ytknpmijgdfeliaa.G
open Go.V
section
variable {W : World} {K : VK} {E : List PanicEntry → Hp → Prop} {s : Hp} {c : Clk}
theorem f_in {a b d : Int} (h : K (.bool (decide (b ≤ a ∧ a ≤ d))) s) : CALL Pg W F_ref07_in [.int .i64 a, .int .i64 b, .int .i64 d] K E s := by
  refine does_ref07_in W a b d _ s ?_
  unfold T_ref07_in
  refine BR_dec (fun h1 => ?_) (fun h1 => ?_)
  · have : decide (b ≤ a ∧ a ≤ d) = decide (a ≤ d) := by simp [h1]
    rw [← this]; exact h
  · have : decide (b ≤ a ∧ a ≤ d) = false := by simp [h1]
    rw [← this]; exact h
theorem f_span {lo hi low high : Int} (h : ∀ s', Ext s s' → K (.bool (decide (low ≤ lo ∧ lo ≤ hi ∧ hi ≤ high))) s') : CALL Pg W F_ref07_span [.agg #[.int .i64 lo, .int .i64 hi], .int .i64 low, .int .i64 high] K E s := by
  refine does_ref07_span W lo hi low high _ s ?_
  unfold T_ref07_span
  refine ne2 fun s1 e1 z1 o1 o2 => ⟨_, o1.cell, ?_⟩
  have hh := h s1 e1
  refine BR_dec (fun h1 => ⟨_, o1.cell, ⟨_, o2.cell, ?_⟩⟩) (fun h1 => ?_)
  · refine BR_dec (fun h2 => ⟨_, o2.cell, ?_⟩) (fun h2 => ?_)
    · have : decide (low ≤ lo ∧ lo ≤ hi ∧ hi ≤ high) = decide (hi ≤ high) := by simp [h1, h2]
      rw [this] at hh; exact hh
    · have : decide (low ≤ lo ∧ lo ≤ hi ∧ hi ≤ high) = false := by simp [h2]
      rw [this] at hh; exact hh
  · have : decide (low ≤ lo ∧ lo ≤ hi ∧ hi ≤ high) = false := by simp [h1]
    rw [this] at hh; exact hh
theorem f_Event {x y z : Option Addr} {l1 l2 l3 c1 c2 c3 : Nat} {n e : Int} (hn : 0 ≤ n ∧ n ≤ 5) (h : ∀ s', Ext s s' → K (.bool (decide (0 ≤ e ∧ e < n))) s') : CALL Pg W F_ref07_Event [.agg #[.slice x l1 c1, .int .i64 n, .slice y l2 c2, .slice z l3 c3], .int .i64 e] K E s := by
  refine does_ref07_Event W x l1 c1 n y l2 c2 z l3 c3 e _ s ?_
  unfold T_ref07_Event
  refine ne4 fun s1 e1 z1 o1 o2 o3 o4 => ⟨_, o2.cell, ?_⟩
  dsimp only
  rw [wrap_i64 (by omega) (by omega)]
  refine f_in ?_
  try simp only [TUP_mk, AGG_mk, HD_mk, NL_mk, TYI_mk, TYB_mk, TYP_mk, TYL_mk, TYS_mk, TYM_mk, SO_mk, NX_mk, endK_mk, endK_mk', add_0]
  have : decide (0 ≤ e ∧ e ≤ n - 1) = decide (0 ≤ e ∧ e < n) := by congr 1; apply propext; omega
  rw [this]; exact h s1 e1
theorem f_Watch {x y z : Option Addr} {l1 l2 l3 c1 c2 c3 : Nat} {n e : Int} (hn : l1 ≤ 1000000000) (h : ∀ s', Ext s s' → K (.bool (decide (0 ≤ e ∧ e < l1))) s') : CALL Pg W F_ref07_Watch [.agg #[.slice x l1 c1, .int .i64 n, .slice y l2 c2, .slice z l3 c3], .int .i64 e] K E s := by
  refine does_ref07_Watch W x l1 c1 n y l2 c2 z l3 c3 e _ s ?_
  unfold T_ref07_Watch
  refine ne4 fun s1 e1 z1 o1 o2 o3 o4 => ⟨_, _, _, o1.cell, ?_⟩
  dsimp only
  rw [wrap_i64 (by omega) (by omega)]
  refine f_in ?_
  try simp only [TUP_mk, AGG_mk, HD_mk, NL_mk, TYI_mk, TYB_mk, TYP_mk, TYL_mk, TYS_mk, TYM_mk, SO_mk, NX_mk, endK_mk, endK_mk', add_0]
  have : decide (0 ≤ e ∧ e ≤ (l1 : Int) - 1) = decide (0 ≤ e ∧ e < l1) := by congr 1; apply propext; omega
  rw [this]; exact h s1 e1
theorem f_power {n : Nat} (hn : n ≤ 20) (h : K (.int .i64 ((2 ^ n : Nat) : Int)) s) : CALL Pg W F_ref07_power [.int .i64 (n : Int)] K E s := by
  refine does_ref07_power W n _ s ?_
  unfold T_ref07_power
  refine L_ref07_power_0_rule W _ n (fun v k t => t = s ∧ ∃ j : Nat, k = j ∧ j ≤ n ∧ v = ((2 ^ j : Nat) : Int)) (fun _ k _ => ((n : Int) - k).toNat) 1 0 s ⟨rfl, 0, rfl, Nat.zero_le _, rfl⟩ ?_
  rintro v k t ⟨rfl, j, rfl, hj, rfl⟩
  unfold B_ref07_power_0
  refine BR_dec (fun hlt => ?_) (fun hge => ?_)
  · try simp only [TUP_mk, AGG_mk, HD_mk, NL_mk, TYI_mk, TYB_mk, TYP_mk, TYL_mk, TYS_mk, TYM_mk, SO_mk, NX_mk, endK_mk, endK_mk', add_0]
    have hp : 2 ^ j ≤ 2 ^ 20 := Nat.pow_le_pow_right (by omega) (by omega)
    refine ⟨_, _, rfl, ⟨rfl, j + 1, wrap_succ (by omega), by omega, ?_⟩, ?_⟩
    · rw [Nat.pow_succ]
      generalize 2 ^ j = q at *
      rw [wrap_i64 (by omega) (by omega)]; omega
    · rw [wrap_succ (by omega)]
      show ((n : Int) - ((j + 1 : Nat) : Int)).toNat < ((n : Int) - (j : Int)).toNat
      omega
  · have : j = n := by omega
    subst this
    exact h
theorem f_Show {g : Go'} {m : Int} (hz : 0 ≤ g.1 ∧ g.1 ≤ 3000) (hr : 0 ≤ g.2 ∧ g.2 ≤ 1100) (hm : 0 ≤ m ∧ m ≤ 3000) (h : ∀ s', Ext s s' → K (.int .i64 (showP g m)) s') : CALL Pg W F_ref07_Show [.agg #[.int .i64 g.1, .int .i64 g.2], .int .i64 m] K E s := by
  refine does_ref07_Show W g.1 g.2 m _ s ?_
  unfold T_ref07_Show
  refine ne2 fun s1 e1 z1 o1 o2 => ⟨_, o1.cell, ⟨_, o2.cell, ?_⟩⟩
  have h0 : 0 ≤ m * g.2 := Int.mul_nonneg hm.1 (by omega)
  have h1 : m * g.2 ≤ 3000 * 1100 := Int.mul_le_mul hm.2 hr.2 (by omega) (by omega)
  have e : IntKind.i64.wrap (g.1 + IntKind.i64.wrap (Int.tdiv (IntKind.i64.wrap (m * g.2)) 1000)) = showP g m := by
    unfold showP
    generalize m * g.2 = q at *
    rw [wrap_i64 (n := q) (by omega) (by omega), Int.tdiv_eq_ediv_of_nonneg h0, wrap_i64 (n := q / 1000) (by omega) (by omega)]
    exact wrap_i64 (by omega) (by omega)
  dsimp only
  rw [e]
  exact h s1 e1
variable {x y z : Option Addr} {c1 c2 c3 : Nat}
theorem f_Every (hl : c.rs.length ≤ 8) (h : ∀ s', Ext s s' → K (.int .i64 (everyN c : Nat)) s') : CALL Pg W F_ref07_Every [clkV c x y z c1 c2 c3] K E s := by
  unfold clkV
  refine does_ref07_Every W x _ c1 c.n y _ c2 z _ c3 _ s ?_
  unfold T_ref07_Every
  refine ne4 fun s1 e1 z1 o1 o2 o3 o4 => ⟨_, _, _, o3.cell, ?_⟩
  refine f_power (by omega) ?_
  try simp only [TUP_mk, AGG_mk, HD_mk, NL_mk, TYI_mk, TYB_mk, TYP_mk, TYL_mk, TYS_mk, TYM_mk, SO_mk, NX_mk, endK_mk, endK_mk', add_0]
  have hp := Nat.two_pow_pos c.rs.length
  have hp2 := Nat.pow_le_pow_right (show 0 < 2 by omega) hl
  have : IntKind.i64.wrap (((2 ^ c.rs.length : Nat) : Int) - 1) = ((everyN c : Nat) : Int) := by
    rw [wrap_i64 (by omega) (by omega)]; unfold everyN; omega
  rw [this]
  exact h s1 e1
/-- The readings that are not a watch's. -/
def woS (k : Int) : List Rd → Nat → Nat
  | [], _ => 0
  | r :: rs, i => (if r.wa ≠ k then 2 ^ i else 0) + woS k rs (i + 1)
def woN (c : Clk) (k : Int) : Nat := woS k c.rs 0
theorem woS_app {k : Int} {r : Rd} : ∀ (l : List Rd) (i : Nat), woS k (l ++ [r]) i = woS k l i + (if r.wa ≠ k then 2 ^ (i + l.length) else 0)
  | [], i => by simp [woS]
  | q :: l, i => by
    have ih := woS_app (k := k) (r := r) l (i + 1)
    show (if q.wa ≠ k then 2 ^ i else 0) + woS k (l ++ [r]) (i + 1) = (if q.wa ≠ k then 2 ^ i else 0) + woS k l (i + 1) + _
    rw [ih, show i + 1 + l.length = i + (q :: l).length by simp; omega]
    omega
theorem woS_lt {k : Int} : ∀ (l : List Rd) (i : Nat), woS k l i + 2 ^ i ≤ 2 ^ (i + l.length)
  | [], i => by simp [woS]
  | q :: l, i => by
    have ih := woS_lt (k := k) l (i + 1)
    have e : i + 1 + l.length = i + (q :: l).length := by simp; omega
    rw [e, Nat.pow_succ] at ih
    unfold woS
    split <;> omega
theorem woS_shift {k : Int} : ∀ (l : List Rd) (i : Nat), woS k l (i + 1) = 2 * woS k l i
  | [], i => rfl
  | q :: l, i => by
    have ih := woS_shift (k := k) l (i + 1)
    unfold woS
    rw [ih, Nat.pow_succ]
    split <;> omega
theorem woN_bit {k : Int} : ∀ (l : List Rd) (j : Nat) (hj : j < l.length), (woS k l 0).testBit j = decide (l[j].wa ≠ k)
  | [], j, hj => by simp at hj
  | q :: l, 0, _ => by
    show ((if q.wa ≠ k then 2 ^ 0 else 0) + woS k l (0 + 1)).testBit 0 = decide (q.wa ≠ k)
    rw [woS_shift, Nat.testBit_zero]
    by_cases h : q.wa ≠ k
    · rw [if_pos h]; simp [h]
    · rw [if_neg h]; simp at h; simp [h]
  | q :: l, j + 1, hj => by
    have hj' : j < l.length := by simpa using hj
    show ((if q.wa ≠ k then 2 ^ 0 else 0) + woS k l (0 + 1)).testBit (j + 1) = decide (l[j].wa ≠ k)
    rw [woS_shift, Nat.testBit_succ]
    have : ((if q.wa ≠ k then 2 ^ 0 else 0) + 2 * woS k l 0) / 2 = woS k l 0 := by split <;> omega
    rw [this]
    exact woN_bit l j hj'
theorem f_Without {k : Int} (hc : ClV s c x y z) (hl : c.rs.length ≤ 8) (h : ∀ s', Ext s s' → K (.int .i64 (woN c k : Nat)) s') : CALL Pg W F_ref07_Without [clkV c x y z c1 c2 c3, .int .i64 k] K E s := by
  unfold clkV
  refine does_ref07_Without W x _ c1 c.n y _ c2 z _ c3 k _ s ?_
  unfold T_ref07_Without
  refine ne4 fun s1 e1 z1 o1 o2 o3 o4 => ?_
  have hr := hc.rs.ce (CE.ext e1)
  refine L_ref07_Without_0_rule W _ k ⟨s.size, 0, none⟩ (fun v i t => t = s1 ∧ ∃ j : Nat, i = j ∧ j ≤ c.rs.length ∧ v = ((woS k (c.rs.take j) 0 : Nat) : Int)) (fun _ i _ => ((c.rs.length : Int) - i).toNat) 0 0 s1 ⟨rfl, 0, rfl, Nat.zero_le _, rfl⟩ ?_
  rintro v i t ⟨rfl, j, rfl, hj, rfl⟩
  unfold B_ref07_Without_0
  refine ⟨_, _, _, o3.cell, ?_⟩
  refine BR_dec (fun hlt => ?_) (fun hge => ?_)
  · have hjl : j < c.rs.length := by omega
    obtain ⟨a, hx0, g1, g2, g3⟩ := hr j hjl
    subst hx0
    refine ⟨_, _, _, o3.cell, IXS_nat hjl ⟨_, g2, ?_⟩⟩
    have htk : woS k (c.rs.take (j + 1)) 0 = woS k (c.rs.take j) 0 + (if c.rs[j].wa ≠ k then 2 ^ j else 0) := by
      rw [take_succ' hjl, woS_app]
      simp [Nat.min_eq_left (Nat.le_of_lt hjl)]
    have hb := woS_lt (k := k) (c.rs.take j) 0
    have hb2 : 2 ^ (0 + (c.rs.take j).length) ≤ 2 ^ 8 := Nat.pow_le_pow_right (by omega) (by simp; omega)
    have hp8 : 2 ^ j ≤ 2 ^ 8 := Nat.pow_le_pow_right (by omega) (by omega)
    have hms : ((c.rs.length : Int) - ((j + 1 : Nat) : Int)).toNat < ((c.rs.length : Int) - (j : Int)).toNat := by omega
    refine BR_ne (fun hne => ?_) (fun he => ?_)
    · refine f_power (by omega) ?_
      try simp only [TUP_mk, AGG_mk, HD_mk, NL_mk, TYI_mk, TYB_mk, TYP_mk, TYL_mk, TYS_mk, TYM_mk, SO_mk, NX_mk, endK_mk, endK_mk', add_0]
      refine ⟨_, _, rfl, ⟨rfl, j + 1, wrap_succ (by omega), hjl, ?_⟩, by rw [wrap_succ (by omega)]; exact hms⟩
      rw [htk, if_pos hne]
      generalize 2 ^ j = q at *
      generalize woS k (c.rs.take j) 0 = v at *
      rw [wrap_i64 (by omega) (by omega)]; omega
    · try simp only [TUP_mk, AGG_mk, HD_mk, NL_mk, TYI_mk, TYB_mk, TYP_mk, TYL_mk, TYS_mk, TYM_mk, SO_mk, NX_mk, endK_mk, endK_mk', add_0]
      refine ⟨_, _, rfl, ⟨rfl, j + 1, wrap_succ (by omega), hjl, ?_⟩, by rw [wrap_succ (by omega)]; exact hms⟩
      rw [htk, if_neg (by simpa using he)]; rfl
  · have hjl : j = c.rs.length := by omega
    subst hjl
    rw [List.take_length]
    exact h t e1
theorem pop_tab : ∀ n : Nat, n < 256 → popN n = popN (n / 2) + n % 2 := by
  have h : ((List.range 256).all fun (n : Nat) => decide (popN n = popN (n / 2) + n % 2)) = true := by decide +kernel
  intro n hn
  simpa using List.all_eq_true.1 h n (by simpa using hn)
theorem f_Size {n : Nat} (hn : n < 256) (h : K (.int .i64 (popN n : Nat)) s) : CALL Pg W F_ref07_Size [.int .i64 (n : Int)] K E s := by
  refine does_ref07_Size W n _ s ?_
  unfold T_ref07_Size
  refine L_ref07_Size_0_rule W _ (fun a b t => t = s ∧ ∃ p q : Nat, a = p ∧ b = q ∧ p < 256 ∧ q ≤ 1000000 - p ∧ popN p + q = popN n) (fun a _ _ => a.toNat) n 0 s ⟨rfl, n, 0, rfl, rfl, hn, by omega, rfl⟩ ?_
  rintro a b t ⟨rfl, p, q, rfl, rfl, hp, hq, hpq⟩
  unfold B_ref07_Size_0
  refine BR_dec (fun hlt => ?_) (fun hge => ?_)
  · try simp only [TUP_mk, AGG_mk, HD_mk, NL_mk, TYI_mk, TYB_mk, TYP_mk, TYL_mk, TYS_mk, TYM_mk, SO_mk, NX_mk, endK_mk, endK_mk', add_0]
    have ht := pop_tab p hp
    have e1 : IntKind.i64.wrap (Int.tdiv (p : Int) 2) = ((p / 2 : Nat) : Int) := by
      rw [Int.tdiv_eq_ediv_of_nonneg (by omega), wrap_i64 (by omega) (by omega)]; rfl
    have e2 : IntKind.i64.wrap ((q : Int) + Int.tmod (p : Int) 2) = ((q + p % 2 : Nat) : Int) := by
      rw [Int.tmod_eq_emod_of_nonneg (by omega), wrap_i64 (by omega) (by omega)]; rfl
    refine ⟨_, _, rfl, ⟨rfl, p / 2, q + p % 2, e1, e2, by omega, by omega, by omega⟩, ?_⟩
    rw [e1]
    show ((p / 2 : Nat) : Int).toNat < ((p : Nat) : Int).toNat
    omega
  · have hp0 : p = 0 := by omega
    subst hp0
    have : popN 0 = 0 := by decide
    have e : q = popN n := by omega
    rw [e]; exact h
end
end Go.Proofs.Ytknpmijgdfeliaa.G

/- Clock: the document's view of whether a clock is valid. -/
set_option linter.unusedSimpArgs false
set_option linter.unusedVariables false
set_option maxRecDepth 20000
namespace Go.Proofs.Ytknpmijgdfeliaa.G
open Go.V
section
variable {W : World} {K : VK} {E : List PanicEntry → Hp → Prop} {s : Hp} {c : Clk} {x y z : Option Addr} {c1 c2 c3 : Nat}
theorem f_Clock (hc : ClV s c x y z) (h : ∀ s', Ext s s' → K (.bool (okC c)) s') : CALL Pg W F_ref07_Clock [clkV c x y z c1 c2 c3] K E s := by
  unfold clkV
  refine does_ref07_Clock W x _ c1 c.n y _ c2 z _ c3 _ s ?_
  unfold T_ref07_Clock
  refine ne4 fun s1 e1 z1 o1 o2 o3 o4 => ⟨_, _, _, o1.cell, ?_⟩
  have hX : ∀ t, Ext s1 t → ClV t c x y z := fun t e => hc.ext (e1.trans e)
  have no : okC c = false → ∀ t, Ext s1 t → K (.bool false) t := fun hn t e => by have := h t (e1.trans e); rw [hn] at this; exact this
  -- the links
  have h2 : ∀ t, Ext s1 t → sizesC c = true → c.ws.any badW = false → c.rs.any (badR c) = false → L_ref07_Clock_2 W (endK K E) ⟨s.size, 0, none⟩ false 0 t := by
    intro t et hs hw hr
    have hsz := of_decide_eq_true hs
    refine L_ref07_Clock_2_rule W _ ⟨s.size, 0, none⟩ (fun _ n u => Ext s1 u ∧ ∃ k : Nat, n = k ∧ k ≤ c.ls.length ∧ ∀ i (hi : i < c.ls.length), i < k → badL c c.ls[i] = false) (fun _ n _ => ((c.ls.length : Int) - n).toNat) false 0 t ⟨et, 0, rfl, Nat.zero_le _, fun i _ h => by omega⟩ ?_
    rintro b n u ⟨eu, k, rfl, hk, hno⟩
    generalize hnx : (fun vs => N_ref07_Clock_2 _ _ b (k : Int) u vs) = nx
    unfold B_ref07_Clock_2
    refine ⟨_, _, _, (eu.own o4).cell, ?_⟩
    refine BR_dec (fun hlt => ?_) (fun hge => ?_)
    rotate_left
    · have hh := h u (e1.trans eu)
      have : okC c = true := by unfold okC; rw [hs, hw, hr, any_no fun i hi => hno i hi (by omega)]; rfl
      rw [this] at hh; exact hh
    have hkl : k < c.ls.length := by omega
    have hgo : ∀ t', Ext u t' → badL c c.ls[k] = false → nx [.bool b, .int .i64 (IntKind.wrap .i64 ((k : Int) + 1))] t' := fun t' e hb => by
      rw [← hnx]
      refine ⟨_, _, rfl, ⟨eu.trans e, k + 1, wrap_succ (by omega), hkl, fun i hi hik => ?_⟩, ms_succ hkl (by omega)⟩
      by_cases e : i = k
      · subst e; exact hb
      · exact hno i hi (by omega)
    clear hnx
    have hbad : badL c c.ls[k] = true → ∀ t, Ext s1 t → K (.bool false) t := fun hb => no (by unfold okC; rw [idx_find hkl hb]; simp)
    obtain ⟨a, hx0, g1, g2, g3, g4⟩ := (hX u eu).ls k hkl
    generalize c.ls[k] = w at *
    subst hx0
    refine ⟨_, _, _, (eu.own o4).cell, IXS_nat hkl ⟨_, g1, ⟨_, g2, ⟨_, g3, ⟨_, g4, ?_⟩⟩⟩⟩⟩
    refine nw4 zc_63 rfl rfl rfl rfl fun u1 f1 y1 p1 p2 p3 p4 => ?_
    have eu1 := eu.trans f1
    refine ⟨_, _, _, (eu1.own o1).cell, ⟨_, (eu1.own o2).cell, ⟨_, _, _, (eu1.own o3).cell, ⟨_, _, _, (eu1.own o4).cell, ⟨_, p1.cell, ?_⟩⟩⟩⟩⟩
    have hJ7 : ∀ q t', Ext u1 t' → q = (!(decide (0 ≤ w.a ∧ w.a < c.n)) || !(decide (0 ≤ w.b ∧ w.b < c.n)) || decide (w.a = w.b)) → J_ref07_Clock_7 W (endK K E) q u.size ⟨s.size, 0, none⟩ nx b (k : Nat) t' := by
      intro q t' e' hq
      unfold J_ref07_Clock_7
      refine BR_bool (fun ht => ?_) (fun hf => ?_)
      · exact hbad (by unfold badL; rw [← hq, ht]; rfl) t' (eu1.trans e')
      · refine ⟨_, (e'.own p3).cell, ⟨_, (e'.own p4).cell, ?_⟩⟩
        refine f_span fun t2 e2 => ?_
        try simp only [TUP_mk, AGG_mk, HD_mk, NL_mk, TYI_mk, TYB_mk, TYP_mk, TYL_mk, TYS_mk, TYM_mk, SO_mk, NX_mk, endK_mk, endK_mk', add_0]
        have hbl : badL c w = !(decide (-600 ≤ w.lo ∧ w.lo ≤ w.hi ∧ w.hi ≤ 600)) := by unfold badL; rw [← hq, hf]; rfl
        refine BR_not (fun h0 => ?_) (fun h1 => ?_)
        · exact hbad (by rw [hbl, h0]; rfl) t2 ((eu1.trans e').trans e2)
        · try simp only [TUP_mk, AGG_mk, HD_mk, NL_mk, TYI_mk, TYB_mk, TYP_mk, TYL_mk, TYS_mk, TYM_mk, SO_mk, NX_mk, endK_mk, endK_mk', add_0]
          exact hgo t2 ((f1.trans e').trans e2) (by rw [hbl, h1]; rfl)
    have hJ8 : ∀ q t', Ext u1 t' → q = (!(decide (0 ≤ w.a ∧ w.a < c.n)) || !(decide (0 ≤ w.b ∧ w.b < c.n))) → J_ref07_Clock_8 W (endK K E) q u.size ⟨s.size, 0, none⟩ nx b (k : Nat) t' := by
      intro q t' e' hq
      unfold J_ref07_Clock_8
      refine BR_bool (fun ht => ?_) (fun hf => ?_)
      · refine hJ7 true t' e' ?_
        rw [← hq, ht]; rfl
      · refine ⟨_, (e'.own p1).cell, ⟨_, (e'.own p2).cell, ?_⟩⟩
        refine hJ7 _ t' e' ?_
        rw [← hq, hf]
        by_cases e : w.a = w.b <;> simp [e]
    refine f_Event ⟨hsz.2.1, hsz.2.2.1⟩ fun u2 f2 => ?_
    try simp only [TUP_mk, AGG_mk, HD_mk, NL_mk, TYI_mk, TYB_mk, TYP_mk, TYL_mk, TYS_mk, TYM_mk, SO_mk, NX_mk, endK_mk, endK_mk', add_0]
    have eu2 := eu1.trans f2
    refine BR_not (fun h0 => ?_) (fun h1 => ?_)
    · refine hJ8 true u2 f2 ?_
      rw [h0]; rfl
    · refine ⟨_, _, _, (eu2.own o1).cell, ⟨_, (eu2.own o2).cell, ⟨_, _, _, (eu2.own o3).cell, ⟨_, _, _, (eu2.own o4).cell, ⟨_, (f2.own p2).cell, ?_⟩⟩⟩⟩⟩
      refine f_Event ⟨hsz.2.1, hsz.2.2.1⟩ fun u3 f3 => ?_
      try simp only [TUP_mk, AGG_mk, HD_mk, NL_mk, TYI_mk, TYB_mk, TYP_mk, TYL_mk, TYS_mk, TYM_mk, SO_mk, NX_mk, endK_mk, endK_mk', add_0]
      refine hJ8 _ u3 (f2.trans f3) ?_
      rw [h1]; rfl
  -- the readings
  have hR : ∀ t, Ext s1 t → sizesC c = true → c.ws.any badW = false → L_ref07_Clock_1 W (endK K E) ⟨s.size, 0, none⟩ false 0 t := by
    intro t et hs hw
    have hsz := of_decide_eq_true hs
    refine L_ref07_Clock_1_rule W _ ⟨s.size, 0, none⟩ (fun b n u => b = false ∧ Ext s1 u ∧ ∃ k : Nat, n = k ∧ k ≤ c.rs.length ∧ ∀ i (hi : i < c.rs.length), i < k → badR c c.rs[i] = false) (fun _ n _ => ((c.rs.length : Int) - n).toNat) false 0 t ⟨rfl, et, 0, rfl, Nat.zero_le _, fun i _ h => by omega⟩ ?_
    rintro b n u ⟨rfl, eu, k, rfl, hk, hno⟩
    generalize hnx : (fun vs => N_ref07_Clock_1 _ _ false (k : Int) u vs) = nx
    unfold B_ref07_Clock_1
    refine ⟨_, _, _, (eu.own o3).cell, ?_⟩
    refine BR_dec (fun hlt => ?_) (fun hge => ?_)
    rotate_left
    · exact h2 u eu hs hw (any_no fun i hi => hno i hi (by omega))
    have hkl : k < c.rs.length := by omega
    have hgo : ∀ t', Ext u t' → badR c c.rs[k] = false → nx [.bool false, .int .i64 (IntKind.wrap .i64 ((k : Int) + 1))] t' := fun t' e hb => by
      rw [← hnx]
      refine ⟨_, _, rfl, ⟨rfl, eu.trans e, k + 1, wrap_succ (by omega), hkl, fun i hi hik => ?_⟩, ms_succ hkl (by omega)⟩
      by_cases e : i = k
      · subst e; exact hb
      · exact hno i hi (by omega)
    clear hnx
    have hbad : badR c c.rs[k] = true → ∀ t, Ext s1 t → K (.bool false) t := fun hb => no (by unfold okC; rw [idx_find hkl hb]; simp)
    obtain ⟨a, hx0, g1, g2, g3⟩ := (hX u eu).rs k hkl
    generalize c.rs[k] = w at *
    subst hx0
    refine ⟨_, _, _, (eu.own o3).cell, IXS_nat hkl ⟨_, g1, ⟨_, g2, ⟨_, g3, ?_⟩⟩⟩⟩
    refine nw3 zc_61 rfl rfl rfl fun u1 f1 y1 p1 p2 p3 => ?_
    have eu1 := eu.trans f1
    refine ⟨_, _, _, (eu1.own o1).cell, ⟨_, (eu1.own o2).cell, ⟨_, _, _, (eu1.own o3).cell, ⟨_, _, _, (eu1.own o4).cell, ⟨_, p1.cell, ?_⟩⟩⟩⟩⟩
    have hJ6 : ∀ q t', Ext u1 t' → q = (!(decide (0 ≤ w.ev ∧ w.ev < c.n)) || !(decide (0 ≤ w.wa ∧ w.wa < c.ws.length))) → J_ref07_Clock_6 W (endK K E) q u.size ⟨s.size, 0, none⟩ nx false (k : Nat) t' := by
      intro q t' e' hq
      unfold J_ref07_Clock_6
      refine BR_bool (fun ht => ?_) (fun hf => ?_)
      · exact hbad (by unfold badR; rw [← hq, ht]; rfl) t' (eu1.trans e')
      · refine ⟨_, (e'.own p3).cell, ?_⟩
        refine f_in ?_
        try simp only [TUP_mk, AGG_mk, HD_mk, NL_mk, TYI_mk, TYB_mk, TYP_mk, TYL_mk, TYS_mk, TYM_mk, SO_mk, NX_mk, endK_mk, endK_mk', add_0]
        have hbl : badR c w = !(decide (0 ≤ w.sh ∧ w.sh ≤ 2000)) := by unfold badR; rw [← hq, hf]; rfl
        refine BR_not (fun h0 => ?_) (fun h1 => ?_)
        · exact hbad (by rw [hbl, h0]; rfl) t' (eu1.trans e')
        · try simp only [TUP_mk, AGG_mk, HD_mk, NL_mk, TYI_mk, TYB_mk, TYP_mk, TYL_mk, TYS_mk, TYM_mk, SO_mk, NX_mk, endK_mk, endK_mk', add_0]
          exact hgo t' (f1.trans e') (by rw [hbl, h1]; rfl)
    refine f_Event ⟨hsz.2.1, hsz.2.2.1⟩ fun u2 f2 => ?_
    try simp only [TUP_mk, AGG_mk, HD_mk, NL_mk, TYI_mk, TYB_mk, TYP_mk, TYL_mk, TYS_mk, TYM_mk, SO_mk, NX_mk, endK_mk, endK_mk', add_0]
    have eu2 := eu1.trans f2
    refine BR_not (fun h0 => ?_) (fun h1 => ?_)
    · refine hJ6 true u2 f2 ?_
      rw [h0]; rfl
    · refine ⟨_, _, _, (eu2.own o1).cell, ⟨_, (eu2.own o2).cell, ⟨_, _, _, (eu2.own o3).cell, ⟨_, _, _, (eu2.own o4).cell, ⟨_, (f2.own p2).cell, ?_⟩⟩⟩⟩⟩
      refine f_Watch (by omega) fun u3 f3 => ?_
      try simp only [TUP_mk, AGG_mk, HD_mk, NL_mk, TYI_mk, TYB_mk, TYP_mk, TYL_mk, TYS_mk, TYM_mk, SO_mk, NX_mk, endK_mk, endK_mk', add_0]
      refine hJ6 _ u3 (f2.trans f3) ?_
      rw [h1]; rfl
  -- the watches
  have hW : ∀ t, Ext s1 t → sizesC c = true → L_ref07_Clock_0 W (endK K E) ⟨s.size, 0, none⟩ false 0 t := by
    intro t et hs
    have hsz := of_decide_eq_true hs
    refine L_ref07_Clock_0_rule W _ ⟨s.size, 0, none⟩ (fun b n u => b = false ∧ Ext s1 u ∧ ∃ k : Nat, n = k ∧ k ≤ c.ws.length ∧ ∀ i (hi : i < c.ws.length), i < k → badW c.ws[i] = false) (fun _ n _ => ((c.ws.length : Int) - n).toNat) false 0 t ⟨rfl, et, 0, rfl, Nat.zero_le _, fun i _ h => by omega⟩ ?_
    rintro b n u ⟨rfl, eu, k, rfl, hk, hno⟩
    generalize hnx : (fun vs => N_ref07_Clock_0 _ _ false (k : Int) u vs) = nx
    unfold B_ref07_Clock_0
    refine ⟨_, _, _, (eu.own o1).cell, ?_⟩
    refine BR_dec (fun hlt => ?_) (fun hge => ?_)
    rotate_left
    · exact hR u eu hs (any_no fun i hi => hno i hi (by omega))
    have hkl : k < c.ws.length := by omega
    have hgo : ∀ t', Ext u t' → badW c.ws[k] = false → nx [.bool false, .int .i64 (IntKind.wrap .i64 ((k : Int) + 1))] t' := fun t' e hb => by
      rw [← hnx]
      refine ⟨_, _, rfl, ⟨rfl, eu.trans e, k + 1, wrap_succ (by omega), hkl, fun i hi hik => ?_⟩, ms_succ hkl (by omega)⟩
      by_cases e : i = k
      · subst e; exact hb
      · exact hno i hi (by omega)
    clear hnx
    have hbad : badW c.ws[k] = true → ∀ t, Ext s1 t → K (.bool false) t := fun hb => no (by unfold okC; rw [idx_find hkl hb]; simp)
    obtain ⟨a, hx0, g1, g2, g3, g4⟩ := (hX u eu).ws k hkl
    generalize c.ws[k] = w at *
    subst hx0
    rw [← addr_add (m := 2) (n := 1)] at g4
    refine ⟨_, _, _, (eu.own o1).cell, IXS_nat hkl ⟨_, g1, ⟨_, g2, ⟨_, _, _, (eu.own o1).cell, IXS_nat hkl ⟨_, g3, ⟨_, g4, ?_⟩⟩⟩⟩⟩⟩
    have hJ3 : ∀ q b2 t' B, Ext u t' → Own t' ⟨B, 0, none⟩ (.int .i64 w.rlo) → Own t' ⟨B, 1, none⟩ (.int .i64 w.rhi) → q = (!(decide (0 ≤ w.zlo ∧ w.zlo ≤ w.zhi ∧ w.zhi ≤ 1000 ∧ w.zhi - w.zlo ≤ 6)) || b2) → b2 = !(decide (900 ≤ w.rlo ∧ w.rlo ≤ w.rhi ∧ w.rhi ≤ 1100)) → J_ref07_Clock_3 W (endK K E) q (some ⟨B, 0, none⟩) ⟨s.size, 0, none⟩ nx false (k : Nat) t' := by
      intro q b2 t' B e' q1 q2 hq hb2
      unfold J_ref07_Clock_3
      refine BR_bool (fun ht => ?_) (fun hf => ?_)
      · exact hbad (by unfold badW; rw [← hb2, ← hq, ht]; rfl) t' (eu.trans e')
      · refine ⟨_, q2.cell, ⟨_, q1.cell, ?_⟩⟩
        have hf2 : b2 = false := by rw [hf] at hq; revert hq; cases b2 <;> simp
        rw [hf2] at hb2
        have hrr : 900 ≤ w.rlo ∧ w.rlo ≤ w.rhi ∧ w.rhi ≤ 1100 := by simpa using hb2
        have hbl : badW w = decide (4 < w.rhi - w.rlo) := by unfold badW; rw [← hb2, ← hf2, ← hq, hf]; rfl
        dsimp only
        rw [wrap_i64 (by omega) (by omega)]
        refine BR_dec (fun h0 => ?_) (fun h1 => ?_)
        · exact hbad (by rw [hbl]; exact decide_eq_true h0) t' (eu.trans e')
        · try simp only [TUP_mk, AGG_mk, HD_mk, NL_mk, TYI_mk, TYB_mk, TYP_mk, TYL_mk, TYS_mk, TYM_mk, SO_mk, NX_mk, endK_mk, endK_mk', add_0]
          exact hgo t' e' (by rw [hbl]; exact decide_eq_false h1)
    have hJ4 : ∀ q t' B, Ext u t' → Own t' ⟨B, 0, none⟩ (.int .i64 w.rlo) → Own t' ⟨B, 1, none⟩ (.int .i64 w.rhi) → q = !(decide (0 ≤ w.zlo ∧ w.zlo ≤ w.zhi ∧ w.zhi ≤ 1000 ∧ w.zhi - w.zlo ≤ 6)) → J_ref07_Clock_4 W (endK K E) q (some ⟨B, 0, none⟩) ⟨s.size, 0, none⟩ nx false (k : Nat) t' := by
      intro q t' B e' q1 q2 hq
      unfold J_ref07_Clock_4
      refine BR_bool (fun ht => ?_) (fun hf => ?_)
      · refine hJ3 true _ t' B e' q1 q2 ?_ rfl
        rw [← hq, ht]; rfl
      · refine ⟨_, q1.cell, ⟨_, q2.cell, ?_⟩⟩
        refine f_span fun t2 e2 => ?_
        try simp only [TUP_mk, AGG_mk, HD_mk, NL_mk, TYI_mk, TYB_mk, TYP_mk, TYL_mk, TYS_mk, TYM_mk, SO_mk, NX_mk, endK_mk, endK_mk', add_0]
        refine hJ3 _ _ t2 B (e'.trans e2) (e2.own q1) (e2.own q2) ?_ rfl
        rw [← hq, hf]; rfl
    have hJ5 : ∀ t' A B, Ext u t' → Own t' ⟨A, 0, none⟩ (.int .i64 w.zlo) → Own t' ⟨A, 1, none⟩ (.int .i64 w.zhi) → Own t' ⟨B, 0, none⟩ (.int .i64 w.rlo) → Own t' ⟨B, 1, none⟩ (.int .i64 w.rhi) → J_ref07_Clock_5 W (endK K E) (some ⟨A, 0, none⟩) (some ⟨B, 0, none⟩) ⟨s.size, 0, none⟩ nx false (k : Nat) t' := by
      intro t' A B e' r1 r2 q1 q2
      unfold J_ref07_Clock_5
      refine ⟨_, r1.cell, ⟨_, r2.cell, ?_⟩⟩
      refine f_span fun t2 e2 => ?_
      try simp only [TUP_mk, AGG_mk, HD_mk, NL_mk, TYI_mk, TYB_mk, TYP_mk, TYL_mk, TYS_mk, TYM_mk, SO_mk, NX_mk, endK_mk, endK_mk', add_0]
      refine BR_not (fun h0 => ?_) (fun h1 => ?_)
      · have hz := of_decide_eq_false h0
        refine hJ4 true t2 B (e'.trans e2) (e2.own q1) (e2.own q2) ?_
        rw [decide_eq_false (by omega)]; rfl
      · have hz := of_decide_eq_true h1
        refine ⟨_, (e2.own r2).cell, ⟨_, (e2.own r1).cell, ?_⟩⟩
        refine hJ4 _ t2 B (e'.trans e2) (e2.own q1) (e2.own q2) ?_
        rw [wrap_i64 (by omega) (by omega)]
        by_cases h6 : w.zhi - w.zlo ≤ 6
        · rw [decide_eq_true (show 0 ≤ w.zlo ∧ w.zlo ≤ w.zhi ∧ w.zhi ≤ 1000 ∧ w.zhi - w.zlo ≤ 6 by omega)]
          exact decide_eq_false (by omega)
        · rw [decide_eq_false (show ¬ (0 ≤ w.zlo ∧ w.zlo ≤ w.zhi ∧ w.zhi ≤ 1000 ∧ w.zhi - w.zlo ≤ 6) by omega)]
          exact decide_eq_true (by omega)
    have A1 : ∀ t', Ext u t' → (RDI .i64 (Addr.add (Addr.add (a.add (k * 4)) 2) 0) fun n97 => RDI .i64 (Addr.add (Addr.add (a.add (k * 4)) 2) 1) fun n98 => fun _ => ((.agg #[(.int .i64 n97), (.int .i64 n98)]) : Value) = (.agg #[(.int .i64 w.rlo), (.int .i64 w.rhi)])) t' := fun t' e => ⟨_, e.cell g3, ⟨_, e.cell g4, rfl⟩⟩
    have A2 : ∀ t', Ext u t' → (RDL (Addr.add ⟨s.size, 0, none⟩ 0) fun x99 l100 c101 => fun _ => ((.slice x99 l100 c101) : Value) = (.slice (some a) c.ws.length c1)) t' := fun t' e => ⟨_, _, _, ((eu.trans e).own o1).cell, rfl⟩
    have A3 : ∀ t', Ext u t' → (RDI .i64 (Addr.add (Addr.add (a.add (k * 4)) 0) 0) fun n97 => RDI .i64 (Addr.add (Addr.add (a.add (k * 4)) 0) 1) fun n98 => fun _ => ((.agg #[(.int .i64 n97), (.int .i64 n98)]) : Value) = (.agg #[(.int .i64 w.zlo), (.int .i64 w.zhi)])) t' := fun t' e => ⟨_, e.cell g1, ⟨_, e.cell g2, rfl⟩⟩
    refine CONJ_two ?_ ?_
    · refine nz2 zc_34 fun u1 f1 y1 b1 b2 => ?_
      refine ANDS_i (A1 u1 f1) (ANDS_i (A2 u1 f1) (ANDS_i (A3 u1 f1) (ANDS_i (A2 u1 f1) ?_)))
      refine nz2 zc_34 fun u2 f2 y2 d1 d2 => ?_
      have f12 := f1.trans f2
      refine ANDS_i (A1 u2 f12) (ANDS_i (A2 u2 f12) (ANDS_i (A3 u2 f12) (ANDS_i (A2 u2 f12) ?_)))
      refine wrB (f2.own b1) (f2.own b2) rfl rfl fun u3 k3 y3 b1' b2' => ?_
      have f3 : Ext u u3 := ext_kp f12 (Nat.le_refl _) k3
      refine ANDS_i (A1 u3 f3) (ANDS_i (A2 u3 f3) ?_)
      have n1 : ¬ u1.size = u.size := by omega
      refine wrB (k3.own n1 d1) (k3.own n1 d2) rfl rfl fun u4 k4 y4 d1' d2' => ?_
      have n2 : ¬ u.size = u1.size := by omega
      exact hJ5 u4 _ _ (ext_kp f3 (by omega) k4) (k4.own n2 b1') (k4.own n2 b2') d1' d2'
    · refine nz2 zc_34 fun u1 f1 y1 d1 d2 => ?_
      refine ANDS_i (A1 u1 f1) (ANDS_i (A2 u1 f1) (ANDS_i (A3 u1 f1) (ANDS_i (A2 u1 f1) ?_)))
      refine nz2 zc_34 fun u2 f2 y2 b1 b2 => ?_
      have f12 := f1.trans f2
      refine ANDS_i (A1 u2 f12) (ANDS_i (A2 u2 f12) (ANDS_i (A3 u2 f12) (ANDS_i (A2 u2 f12) ?_)))
      refine wrB b1 b2 rfl rfl fun u3 k3 y3 b1' b2' => ?_
      have f3 : Ext u u3 := ext_kp f12 (by omega) k3
      refine ANDS_i (A1 u3 f3) (ANDS_i (A2 u3 f3) ?_)
      have n1 : ¬ u.size = u1.size := by omega
      refine wrB (k3.own n1 (f2.own d1)) (k3.own n1 (f2.own d2)) rfl rfl fun u4 k4 y4 d1' d2' => ?_
      have n2 : ¬ u1.size = u.size := by omega
      exact hJ5 u4 _ _ (ext_kp f3 (by omega) k4) (k4.own n2 b1') (k4.own n2 b2') d1' d2'
  have hJ0 : ∀ q t, Ext s1 t → q = !(sizesC c) → J_ref07_Clock_0 W (endK K E) q s.size t := by
    intro q t et hq
    unfold J_ref07_Clock_0
    refine BR_bool (fun ht => ?_) (fun hf => ?_)
    · have : sizesC c = false := by rw [ht] at hq; revert hq; cases sizesC c <;> simp
      exact no (by unfold okC; rw [this]; rfl) t et
    · have : sizesC c = true := by rw [hf] at hq; revert hq; cases sizesC c <;> simp
      exact hW t et this
  have hJ1 : ∀ q t, Ext s1 t → q = !(decide (c.ws.length ≤ 2 ∧ 0 ≤ c.n ∧ c.n ≤ 5 ∧ c.rs.length ≤ 8)) → J_ref07_Clock_1 W (endK K E) q s.size t := by
    intro q t et hq
    unfold J_ref07_Clock_1
    refine BR_bool (fun ht => ?_) (fun hf => ?_)
    · rw [ht] at hq
      have h4 : ¬ (c.ws.length ≤ 2 ∧ 0 ≤ c.n ∧ c.n ≤ 5 ∧ c.rs.length ≤ 8) := fun hh => by rw [decide_eq_true hh] at hq; cases hq
      refine hJ0 true t et ?_
      unfold sizesC
      rw [decide_eq_false (by omega)]; rfl
    · rw [hf] at hq
      have h4 : c.ws.length ≤ 2 ∧ 0 ≤ c.n ∧ c.n ≤ 5 ∧ c.rs.length ≤ 8 := by simpa using hq
      refine ⟨_, _, _, (et.own o4).cell, ?_⟩
      refine hJ0 _ t et ?_
      unfold sizesC
      by_cases h5 : c.ls.length ≤ 5
      · rw [decide_eq_true (show c.ws.length ≤ 2 ∧ 0 ≤ c.n ∧ c.n ≤ 5 ∧ c.rs.length ≤ 8 ∧ c.ls.length ≤ 5 by omega)]
        exact decide_eq_false (by omega)
      · rw [decide_eq_false (show ¬ (c.ws.length ≤ 2 ∧ 0 ≤ c.n ∧ c.n ≤ 5 ∧ c.rs.length ≤ 8 ∧ c.ls.length ≤ 5) by omega)]
        exact decide_eq_true (by omega)
  have hJ2 : ∀ q t, Ext s1 t → q = !(decide (c.ws.length ≤ 2 ∧ 0 ≤ c.n ∧ c.n ≤ 5)) → J_ref07_Clock_2 W (endK K E) q s.size t := by
    intro q t et hq
    unfold J_ref07_Clock_2
    refine BR_bool (fun ht => ?_) (fun hf => ?_)
    · rw [ht] at hq
      have h4 : ¬ (c.ws.length ≤ 2 ∧ 0 ≤ c.n ∧ c.n ≤ 5) := fun hh => by rw [decide_eq_true hh] at hq; cases hq
      refine hJ1 true t et ?_
      rw [decide_eq_false (by omega)]; rfl
    · rw [hf] at hq
      have h4 : c.ws.length ≤ 2 ∧ 0 ≤ c.n ∧ c.n ≤ 5 := by simpa using hq
      refine ⟨_, _, _, (et.own o3).cell, ?_⟩
      refine hJ1 _ t et ?_
      by_cases h5 : c.rs.length ≤ 8
      · rw [decide_eq_true (show c.ws.length ≤ 2 ∧ 0 ≤ c.n ∧ c.n ≤ 5 ∧ c.rs.length ≤ 8 by omega)]
        exact decide_eq_false (by omega)
      · rw [decide_eq_false (show ¬ (c.ws.length ≤ 2 ∧ 0 ≤ c.n ∧ c.n ≤ 5 ∧ c.rs.length ≤ 8) by omega)]
        exact decide_eq_true (by omega)
  refine BR_dec (fun h1 => ?_) (fun h1 => ?_)
  · refine hJ2 true s1 (Ext.refl _) ?_
    rw [decide_eq_false (by omega)]; rfl
  · refine ⟨_, o2.cell, ?_⟩
    refine f_in ?_
    try simp only [TUP_mk, AGG_mk, HD_mk, NL_mk, TYI_mk, TYB_mk, TYP_mk, TYL_mk, TYS_mk, TYM_mk, SO_mk, NX_mk, endK_mk, endK_mk', add_0]
    refine hJ2 _ s1 (Ext.refl _) ?_
    congr 1
    congr 1; apply propext; omega
end
end Go.Proofs.Ytknpmijgdfeliaa.G

/- Clock: what the statements ask with: clocks that are heavy, clocks with some readings. -/
set_option linter.unusedSimpArgs false
set_option linter.unusedVariables false
set_option maxRecDepth 20000
namespace Go.Proofs.Ytknpmijgdfeliaa.G
open Go.V
/-- The readings of a set. -/
def partL (S : Nat) : List Rd → Nat → List Rd
  | [], _ => []
  | r :: rs, i => if S.testBit i then r :: partL S rs (i + 1) else partL S rs (i + 1)
def partC (c : Clk) (S : Nat) : Clk := { c with rs := partL S c.rs 0 }
theorem part_app {S : Nat} {r : Rd} : ∀ (l : List Rd) (j : Nat), partL S (l ++ [r]) j = partL S l j ++ (if S.testBit (j + l.length) then [r] else [])
  | [], j => by
    show (if S.testBit j then _ else _) = _
    simp [partL]
  | x :: l, j => by
    have ih := part_app (S := S) (r := r) l (j + 1)
    show (if S.testBit j then x :: partL S (l ++ [r]) (j + 1) else partL S (l ++ [r]) (j + 1)) = (if S.testBit j then x :: partL S l (j + 1) else partL S l (j + 1)) ++ _
    rw [ih, show j + 1 + l.length = j + (x :: l).length by simp; omega]
    split <;> rfl
theorem part_len {S : Nat} : ∀ (l : List Rd) (j : Nat), (partL S l j).length ≤ l.length
  | [], _ => Nat.le_refl _
  | x :: l, j => by
    have := part_len (S := S) l (j + 1)
    unfold partL
    split <;> simp <;> omega
theorem part_mem {S : Nat} {r : Rd} : ∀ (l : List Rd) (j : Nat), r ∈ partL S l j ↔ ∃ i, ∃ h : i < l.length, S.testBit (j + i) = true ∧ l[i] = r
  | [], j => by simp [partL]
  | x :: l, j => by
    have ih := part_mem (S := S) (r := r) l (j + 1)
    have hs : (∃ i, ∃ h : i < l.length, S.testBit (j + 1 + i) = true ∧ l[i] = r) ↔ ∃ i, ∃ h : i + 1 < (x :: l).length, S.testBit (j + (i + 1)) = true ∧ (x :: l)[i + 1] = r := by
      constructor
      · rintro ⟨i, h, h1, h2⟩; exact ⟨i, by simpa using h, by rw [show j + (i + 1) = j + 1 + i by omega]; exact h1, h2⟩
      · rintro ⟨i, h, h1, h2⟩; exact ⟨i, by simpa using h, by rw [show j + 1 + i = j + (i + 1) by omega]; exact h1, h2⟩
    have hiff : r ∈ partL S (x :: l) j ↔ (S.testBit j = true ∧ x = r) ∨ r ∈ partL S l (j + 1) := by
      show r ∈ (if S.testBit j then x :: partL S l (j + 1) else partL S l (j + 1)) ↔ _
      by_cases hb : S.testBit j = true
      · rw [if_pos hb, List.mem_cons]
        constructor
        · rintro (rfl | h)
          · exact .inl ⟨hb, rfl⟩
          · exact .inr h
        · rintro (⟨_, rfl⟩ | h)
          · exact .inl rfl
          · exact .inr h
      · rw [if_neg hb]
        exact ⟨.inr, fun h => h.resolve_left fun h' => hb h'.1⟩
    rw [hiff, ih, hs]
    constructor
    · rintro (⟨h1, h2⟩ | ⟨i, h, h1, h2⟩)
      · exact ⟨0, by simp, h1, h2⟩
      · exact ⟨i + 1, h, h1, h2⟩
    · rintro ⟨i, h, h1, h2⟩
      cases i with
      | zero => exact .inl ⟨h1, h2⟩
      | succ i => exact .inr ⟨i, h, h1, h2⟩
theorem part_ok {c : Clk} {S : Nat} (hv : VdC c) : VdC (partC c S) where
  w2 := hv.w2
  n0 := hv.n0
  n5 := hv.n5
  r8 := Nat.le_trans (part_len _ _) hv.r8
  l5 := hv.l5
  wt := hv.wt
  rd := fun r hr => by
    obtain ⟨i, hi, _, rfl⟩ := (part_mem _ _).1 hr
    exact hv.rd _ (List.getElem_mem hi)
  lk := hv.lk
theorem part_truth {c : Clk} {S : Nat} {g : List Go'} {m : Int → Int} : Truth (partC c S) (everyN (partC c S)) g m ↔ Truth c S g m := by
  constructor
  · intro h
    refine ⟨h.goes, h.days, fun i hi hb => ?_, h.links⟩
    have hm : c.rs[i] ∈ partL S c.rs 0 := (part_mem _ _).2 ⟨i, hi, by rw [Nat.zero_add]; exact hb, rfl⟩
    obtain ⟨j, hj, he⟩ := List.getElem_of_mem hm
    have := h.shows j hj (every_bit hj)
    have e2 : (partC c S).rs[j] = c.rs[i] := he
    rw [e2] at this
    exact this
  · intro h
    refine ⟨h.goes, h.days, fun i hi hb => ?_, h.links⟩
    obtain ⟨j, hj, hb2, he⟩ := (part_mem c.rs 0).1 (List.getElem_mem (l := partL S c.rs 0) hi)
    have := h.shows j hj (by rw [Nat.zero_add] at hb2; exact hb2)
    rw [he] at this
    exact this
theorem part_can {c : Clk} {S : Nat} : CanC (partC c S) (everyN (partC c S)) ↔ CanC c S :=
  ⟨fun ⟨g, m, h⟩ => ⟨g, m, part_truth.1 h⟩, fun ⟨g, m, h⟩ => ⟨g, m, part_truth.2 h⟩⟩
def rd3 (r : Rd) : List Value := [.int .i64 r.ev, .int .i64 r.wa, .int .i64 r.sh]
def rdV (l : List Rd) : List Value := l.flatMap rd3
theorem rdV_len (l : List Rd) : (rdV l).length = l.length * 3 := by unfold rdV; exact flat_len (M := 3) (f := rd3) l fun x _ => rfl
theorem rdV_app (a b : List Rd) : rdV (a ++ b) = rdV a ++ rdV b := by unfold rdV; rw [List.flatMap_append]
theorem row_rd {s : Hp} {x : Option Addr} {l : List Rd} (h : RowAt s x (rdV l)) : RdAt s x l := fun i hi => by
  have hl := rdV_len l
  have hg : ∀ t : Nat, t < 3 → (rdV l)[i * 3 + t]? = (rd3 l[i])[t]? := fun t ht => flat_get (M := 3) (f := rd3) l (fun x _ => rfl) i hi t ht
  have hc : ∀ t (ht : t < 3) (a : Addr), x = some a → cellAt s ((a.add (i * 3)).add t) = some ((rd3 l[i])[t]'ht) := fun t ht a ha => by
    have hlt : i * 3 + t < (rdV l).length := by rw [hl]; omega
    obtain ⟨b, hb, hcell⟩ := h (i * 3 + t) hlt
    rw [ha] at hb; cases hb
    have := hg t ht
    rw [List.getElem?_eq_getElem hlt, List.getElem?_eq_getElem (show t < (rd3 l[i]).length from ht)] at this
    rw [Nat.mul_one] at hcell
    rw [addr_add, hcell]
    exact this
  obtain ⟨a, ha, _⟩ := h (i * 3) (by rw [hl]; omega)
  exact ⟨a, ha, hc 0 (by omega) a ha, hc 1 (by omega) a ha, hc 2 (by omega) a ha⟩
theorem bit_i64 : ∀ S : Nat, S < 256 → ∀ i : Nat, i < 8 → (andv .i64 (shrv .i64 (S : Int) (i : Int)) 1 == 1) = S.testBit i := by
  have h : ((List.range 256).all fun (S : Nat) => (List.range 8).all fun (i : Nat) => decide ((andv .i64 (shrv .i64 (S : Int) (i : Int)) 1 == 1) = S.testBit i)) = true := by decide +kernel
  intro x hx i hi
  have h1 := List.all_eq_true.1 h x (by simpa using hx)
  have h2 := List.all_eq_true.1 h1 i (by simpa using hi)
  exact of_decide_eq_true h2
section
variable {W : World} {K : VK} {E : List PanicEntry → Hp → Prop} {s : Hp} {c : Clk} {x y z : Option Addr} {c1 c2 c3 : Nat}
theorem c_heavy {a b : Int} (hc : ClV s c x y z) (h : ∀ s' q, Ext s s' → (q = false → okC c = true → (c.rs.length : Int) ≤ b) → K (.bool q) s') : CALL Pg W F_law07_heavy [clkV c x y z c1 c2 c3, .int .i64 a, .int .i64 b] K E s := by
  unfold clkV
  refine does_law07_heavy W x _ c1 c.n y _ c2 z _ c3 a b _ s ?_
  unfold T_law07_heavy
  refine ne4 fun s1 e1 z1 o1 o2 o3 o4 => ⟨_, _, _, o1.cell, ⟨_, _, _, o3.cell, ⟨_, _, _, o4.cell, ?_⟩⟩⟩
  refine BR_bool (fun _ => h s1 true e1 (fun h => by cases h)) (fun _ => ?_)
  refine ⟨_, _, _, o1.cell, ⟨_, o2.cell, ⟨_, _, _, o3.cell, ⟨_, _, _, o4.cell, ?_⟩⟩⟩⟩
  refine f_Clock (hc.ext e1) fun s2 e2 => ?_
  try simp only [TUP_mk, AGG_mk, HD_mk, NL_mk, TYI_mk, TYB_mk, TYP_mk, TYL_mk, TYS_mk, TYM_mk, SO_mk, NX_mk, endK_mk, endK_mk', add_0]
  refine BR_not (fun hno => h s2 false (e1.trans e2) (fun _ h => by rw [hno] at h; cases h)) (fun hok => ?_)
  have hv := okC_iff.1 hok
  have hw2 := hv.w2
  refine ⟨_, _, _, (e2.own o1).cell, ?_⟩
  refine L_law07_heavy_0_rule W _ a b ⟨s.size, 0, none⟩ x _ c1 _ (fun _ n t => Ext s2 t ∧ ∃ k : Nat, n = k ∧ k ≤ c.ws.length) (fun _ n _ => ((c.ws.length : Int) - n).toNat) 1 0 s2 ⟨Ext.refl _, 0, rfl, Nat.zero_le _⟩ ?_
  rintro v n t ⟨et, k, rfl, hk⟩
  unfold B_law07_heavy_0
  have e12 := (e1.trans e2).trans et
  refine BR_dec (fun hlt => ?_) (fun hge => ?_)
  · have hkl : k < c.ws.length := by omega
    obtain ⟨a, hx0, g1, g2, g3, g4⟩ := (hc.ext e12).ws k hkl
    subst hx0
    refine IXS_nat hkl ⟨_, g1, ⟨_, g2, ⟨_, g3, ⟨_, g4, ?_⟩⟩⟩⟩
    refine nw4 zc_66 rfl rfl rfl rfl fun u f zu p1 p2 p3 p4 => ?_
    refine ⟨_, p2.cell, ⟨_, p1.cell, ⟨_, p4.cell, ⟨_, p3.cell, ?_⟩⟩⟩⟩
    try simp only [TUP_mk, AGG_mk, HD_mk, NL_mk, TYI_mk, TYB_mk, TYP_mk, TYL_mk, TYS_mk, TYM_mk, SO_mk, NX_mk, endK_mk, endK_mk', add_0]
    exact ⟨_, _, rfl, ⟨et.trans f, k + 1, wrap_succ (by omega), hkl⟩, ms_succ hkl (by omega)⟩
  · refine BR_bool (fun _ => h t true e12 (fun h => by cases h)) (fun _ => ⟨_, _, _, ((e2.trans et).own o3).cell, h t _ e12 fun hq _ => ?_⟩)
    have := of_decide_eq_false hq
    omega
theorem c_part {S : Nat} (hc : ClV s c x y z) (hr8 : c.rs.length ≤ 8) (hS : S < 256) (h : ∀ s' y' cc, Ext s s' → ClV s' (partC c S) x y' z → (∀ q, y' = some q → s.size ≤ q.block) → K (clkV (partC c S) x y' z c1 cc c3) s') : CALL Pg W F_law07_part [clkV c x y z c1 c2 c3, .int .i64 (S : Nat)] K E s := by
  unfold clkV
  refine does_law07_part W x _ c1 c.n y _ c2 z _ c3 S _ s ?_
  unfold T_law07_part
  refine ne4 fun s1 e1 z1 o1 o2 o3 o4 => ?_
  refine nz4 zc_26 fun s2 e2 z2 r1 r2 r3 r4 => ?_
  refine ⟨_, _, _, (e2.own o1).cell, ⟨_, (e2.own o2).cell, ⟨_, _, _, (e2.own o3).cell, ⟨_, _, _, (e2.own o4).cell, ?_⟩⟩⟩⟩
  refine nw4 zc_26 rfl rfl rfl rfl fun s3 e3 z3 q1 q2 q3 q4 => ?_
  refine wrOne (i := 2) q3 rfl fun s4 k4 z4 q3' qk => ?_
  have q1' := qk 0 _ (by omega) q1
  have q2' := qk 1 _ (by omega) q2
  have q4' := qk 3 _ (by omega) q4
  have e13 := e2.trans e3
  have e03 := e1.trans e13
  have e04 : Ext s s4 := ext_kp e03 (show s.size ≤ s2.size by omega) k4
  have n1 : ¬ s.size = s2.size := by omega
  have n2 : ¬ s1.size = s2.size := by omega
  refine ⟨_, _, _, (k4.own n1 (e13.own o3)).cell, ?_⟩
  have r1' := k4.own n2 (e3.own r1)
  have r2' := k4.own n2 (e3.own r2)
  have r3' := k4.own n2 (e3.own r3)
  have r4' := k4.own n2 (e3.own r4)
  have hlt : s2.size < s4.size := by omega
  refine L_law07_part_0_rule W _ (S : Nat) ⟨s1.size, 0, none⟩ ⟨s2.size, 0, none⟩ y _ c2 _ (fun n t => ∃ (k : Nat) (x' : Option Addr) (l cc : Nat), n = k ∧ k ≤ c.rs.length ∧ Kp (· = s2.size) s4 t ∧ Own t ⟨s2.size, 0, none⟩ (.slice x c.ws.length c1) ∧ Own t ⟨s2.size, 1, none⟩ (.int .i64 c.n) ∧ Own t ⟨s2.size, 2, none⟩ (.slice x' l cc) ∧ Own t ⟨s2.size, 3, none⟩ (.slice z c.ls.length c3) ∧ Fr s4.size t x' l cc 3 (rdV (partL S (c.rs.take k) 0))) (fun n _ => ((c.rs.length : Int) - n).toNat) 0 s4
    ⟨0, none, 0, 0, rfl, Nat.zero_le _, Kp.refl _, q1', q2', q3', q4', Fr.nil _ _ _⟩ ?_
  rintro n t ⟨k, x', l, cc, rfl, hk, kt, w1, w2, w3, w4, fr⟩
  have et : Ext s t := ext_kp e04 (show s.size ≤ s2.size by omega) kt
  have hl : l = (partL S (c.rs.take k) 0).length := by have := fr.len; rw [rdV_len] at this; omega
  have hl8 : l ≤ 8 := by have := part_len (S := S) (c.rs.take k) 0; simp at this; omega
  unfold B_law07_part_0
  refine BR_dec (fun hlt2 => ?_) (fun hge => ?_)
  · have hkl : k < c.rs.length := by omega
    obtain ⟨a, hx0, g1, g2, g3⟩ := (hc.ext et).rs k hkl
    have htk : partL S (c.rs.take (k + 1)) 0 = partL S (c.rs.take k) 0 ++ (if S.testBit k then [c.rs[k]] else []) := by
      rw [take_succ' hkl, part_app]
      simp [Nat.min_eq_left (Nat.le_of_lt hkl)]
    subst hx0
    refine IXS_nat hkl ⟨_, g1, ⟨_, g2, ⟨_, g3, ?_⟩⟩⟩
    refine nw3 zc_61 rfl rfl rfl fun u1 f1 y1 p1 p2 p3 => ?_
    refine NNI_of (by omega) ?_
    rw [bit_i64 S hS k (by omega)]
    have kt1 : Kp (· = s2.size) s4 u1 := kt.ext f1
    refine BR_bool (fun hb => ?_) (fun hb => ?_)
    · refine ⟨_, _, _, (f1.own w3).cell, ⟨_, p1.cell, ⟨_, p2.cell, ⟨_, p3.cell, ?_⟩⟩⟩⟩
      refine NEW_rule fun u2 f2 y2 n2' _ => ?_
      have f12 := f1.trans f2
      have hz4 : s4.size ≤ t.size := kt.1
      refine APP_fr (lo := s4.size) (fr.ext f12) (by have := f12.1; omega) (ws := rd3 c.rs[k]) (fun i hi => ⟨⟨u1.size, 0, none⟩, rfl, ?_⟩) rfl zc_61 rfl (by omega) (by simp [rd3, oneCell]) (by omega) fun u3 x3 c3' k3 hx3 fr3 => ?_
      · have hi3 : i < 3 := hi
        match i, hi3 with
        | 0, _ => exact (n2' 0 _ rfl).cell
        | 1, _ => exact (n2' 1 _ rfl).cell
        | 2, _ => exact (n2' 2 _ rfl).cell
      · have hnD : ¬ (∃ a', x' = some a' ∧ a'.block = s2.size) := by
          rintro ⟨a', ha', hb'⟩
          have := fr.fr a' ha'
          omega
        have f2o : ∀ {j v}, Own t ⟨s2.size, j, none⟩ v → Own u3 ⟨s2.size, j, none⟩ v := fun o => k3.own hnD (f12.own o)
        refine wrOne (i := 2) (f2o w3) rfl fun u4 k5 y5 w3' wk => ?_
        unfold J_law07_part_0
        try simp only [TUP_mk, AGG_mk, HD_mk, NL_mk, TYI_mk, TYB_mk, TYP_mk, TYL_mk, TYS_mk, TYM_mk, SO_mk, NX_mk, endK_mk, endK_mk', add_0]
        have kt3 : Kp (· = s2.size) s4 u3 := ⟨by have := f12.1; have := k3.1; omega, fun b hb0 hb1 => by
          rw [k3.2 b (by have := f12.1; omega) (by
            rintro ⟨a', ha', hb'⟩
            have h6 := fr.fr a' ha'
            omega), f12.2 b (by omega)]
          exact kt.2 b hb0 hb1⟩
        refine ⟨_, rfl, ⟨k + 1, x3, l + 1, c3', wrap_succ (by omega), hkl, kt3.trans k5, wk 0 _ (by omega) (f2o w1), wk 1 _ (by omega) (f2o w2), w3', wk 3 _ (by omega) (f2o w4), ?_⟩, ms_succ hkl (by omega)⟩
        rw [htk, if_pos hb, rdV_app]
        have e1 : rdV [c.rs[k]] = rd3 c.rs[k] := by unfold rdV; simp
        rw [e1]
        exact fr3.kp k5 fun a' ha' hb' => by have := fr3.fr a' ha'; have : a'.block = s2.size := hb'; omega
    · unfold J_law07_part_0
      try simp only [TUP_mk, AGG_mk, HD_mk, NL_mk, TYI_mk, TYB_mk, TYP_mk, TYL_mk, TYS_mk, TYM_mk, SO_mk, NX_mk, endK_mk, endK_mk', add_0]
      refine ⟨_, rfl, ⟨k + 1, x', l, cc, wrap_succ (by omega), hkl, kt1, f1.own w1, f1.own w2, f1.own w3, f1.own w4, ?_⟩, ms_succ hkl (by omega)⟩
      rw [htk, if_neg (by rw [hb]; simp), List.append_nil]
      exact fr.ext f1
  · have hkl : k = c.rs.length := by omega
    subst hkl
    rw [List.take_length] at fr hl
    refine ⟨_, _, _, w1.cell, ⟨_, w2.cell, ⟨_, _, _, w3.cell, ⟨_, _, _, w4.cell, ?_⟩⟩⟩⟩
    have n3 : ¬ s1.size = s2.size := by omega
    have t1 := kt.own n3 r1'
    have t2 := kt.own n3 r2'
    have t3 := kt.own n3 r3'
    have t4 := kt.own n3 r4'
    show wrN [_, _, _, _] ⟨s1.size, 0, none⟩ 0 _ t
    refine wrN_rule _ _ 0 _ t (fun i hi => ?_) ?_ ?_
    · match i, hi with
      | 0, _ => exact ⟨_, t1⟩
      | 1, _ => exact ⟨_, t2⟩
      | 2, _ => exact ⟨_, t3⟩
      | 3, _ => exact ⟨_, t4⟩
    · intro w hw
      simp at hw
      rcases hw with rfl | rfl | rfl | rfl <;> rfl
    · intro u k zu ho _
      have q0 := ho 0 (by simp)
      have q1 := ho 1 (by simp)
      have q2 := ho 2 (by simp)
      have q3 := ho 3 (by simp)
      refine ⟨_, _, _, q0.cell, ⟨_, q1.cell, ⟨_, _, _, q2.cell, ⟨_, _, _, q3.cell, ?_⟩⟩⟩⟩
      have eu : Ext s u := ext_kp et (show s.size ≤ s1.size by omega) k
      have hcu := hc.ext eu
      have hro : RowAt u x' (rdV (partL S c.rs 0)) := fr.row.keep k fun a' ha' hb' => by have := fr.fr a' ha'; have : a'.block = s1.size := hb'; omega
      have hh := h u x' cc eu ⟨hcu.ws, row_rd hro, hcu.ls⟩ (fun q hq => by have := fr.fr q hq; omega)
      rw [hl]
      exact hh
end
end Go.Proofs.Ytknpmijgdfeliaa.G

/- Clock: plain: a watch without readings; a reading that tells nothing more. -/
set_option linter.unusedSimpArgs false
set_option linter.unusedVariables false
set_option maxRecDepth 20000
namespace Go.Proofs.Ytknpmijgdfeliaa.G
open Go.V
theorem goes_set : ∀ {ws : List Wt} {g : List Go'}, GoesOk ws g → ∀ (i : Nat) (hi : i < ws.length) (q : Go'), GoOk ws[i] q → GoesOk ws (g.set i q)
  | _, _, .nil, i, hi, _, _ => by simp at hi
  | _, _, .cons h t, 0, _, q, hq => .cons hq t
  | _, _, .cons h t, i + 1, hi, q, hq => .cons h (goes_set t i (by simpa using hi) q hq)
theorem getD_set_ne {g : List Go'} {i j : Nat} {q : Go'} (h : i ≠ j) : (g.set i q).getD j (0, 0) = g.getD j (0, 0) := by
  simp only [List.getD_eq_getElem?_getD, List.getElem?_set, if_neg h]
theorem getD_set_eq {g : List Go'} {i : Nat} {q : Go'} (h : i < g.length) : (g.set i q).getD i (0, 0) = q := by
  simp only [List.getD_eq_getElem?_getD, List.getElem?_set, if_pos h, if_true, Option.getD_some]
/-- A watch whose readings are not asked for can go in any way. -/
theorem truth_set {c : Clk} {S : Nat} {g : List Go'} {m : Int → Int} {w : Nat} {q : Go'} (hv : VdC c) (h : Truth c S g m) (hw : w < c.ws.length) (hq : GoOk c.ws[w] q) (hno : ∀ i (hi : i < c.rs.length), S.testBit i = true → c.rs[i].wa ≠ (w : Int)) : Truth c S (g.set w q) m where
  goes := goes_set h.goes w hw q hq
  days := h.days
  shows := fun i hi hb => by
    have h1 := hno i hi hb
    have h2 := hv.rd _ (List.getElem_mem hi)
    rw [getD_set_ne (by omega)]
    exact h.shows i hi hb
  links := h.links
theorem alone_span {c : Clk} {S : Nat} {w : Nat} {zl zh rl rh : Int} (hv : VdC c) (hw : w < c.ws.length) (hno : ∀ i (hi : i < c.rs.length), S.testBit i = true → c.rs[i].wa ≠ (w : Int)) (hz : SpanC c S (zeroV (w : Int)) zl zh) (hr : SpanC c S (rateV (w : Int)) rl rh) :
    zl = c.ws[w].zlo ∧ zh = c.ws[w].zhi ∧ rl = c.ws[w].rlo ∧ rh = c.ws[w].rhi := by
  obtain ⟨⟨g1, m1, t1, v1⟩, ⟨g2, m2, t2, v2⟩, hz3⟩ := hz
  obtain ⟨⟨g3, m3, t3, v3⟩, ⟨g4, m4, t4, v4⟩, hr3⟩ := hr
  have hwv := hv.wt _ (List.getElem_mem hw)
  have hb : ∀ g m, Truth c S g m → GoOk c.ws[w] (g.getD w (0, 0)) := fun g m t => t.goes.get w hw
  have hlen : ∀ g m, Truth c S g m → w < g.length := fun g m t => by rw [t.goes.len]; exact hw
  have hzv : ∀ g : List Go', ∀ m, zeroV (w : Int) g m = (g.getD w (0, 0)).1 := fun g m => by unfold zeroV; rw [Int.toNat_natCast]
  have hrv : ∀ g : List Go', ∀ m, rateV (w : Int) g m = (g.getD w (0, 0)).2 := fun g m => by unfold rateV; rw [Int.toNat_natCast]
  rw [hzv] at v1 v2
  rw [hrv] at v3 v4
  have b1 := hb g1 m1 t1
  have b2 := hb g2 m2 t2
  have b3 := hb g3 m3 t3
  have b4 := hb g4 m4 t4
  have hput : ∀ q : Go', GoOk c.ws[w] q → zl ≤ q.1 ∧ q.1 ≤ zh ∧ rl ≤ q.2 ∧ q.2 ≤ rh := fun q hq => by
    have t := truth_set hv t1 hw hq hno
    have x := hz3 _ _ t
    have y := hr3 _ _ t
    rw [hzv, getD_set_eq (hlen g1 m1 t1)] at x
    rw [hrv, getD_set_eq (hlen g1 m1 t1)] at y
    exact ⟨x.1, x.2, y.1, y.2⟩
  have p1 := hput (c.ws[w].zlo, c.ws[w].rlo) ⟨Int.le_refl _, hwv.2.1, Int.le_refl _, hwv.2.2.2.2.2.1⟩
  have p2 := hput (c.ws[w].zhi, c.ws[w].rhi) ⟨hwv.2.1, Int.le_refl _, hwv.2.2.2.2.2.1, Int.le_refl _⟩
  unfold GoOk at b1 b2 b3 b4
  simp only at p1 p2
  omega
/-- A clock with a reading more. -/
def moreR (c : Clk) (r : Rd) : Clk := { c with rs := c.rs ++ [r] }
theorem moreR_ok {c : Clk} {r : Rd} (hv : VdC c) (h7 : c.rs.length ≤ 7) (hr : 0 ≤ r.ev ∧ r.ev < c.n ∧ 0 ≤ r.wa ∧ r.wa < c.ws.length ∧ 0 ≤ r.sh ∧ r.sh ≤ 2000) : VdC (moreR c r) where
  w2 := hv.w2
  n0 := hv.n0
  n5 := hv.n5
  r8 := by show (c.rs ++ [r]).length ≤ 8; simp; omega
  l5 := hv.l5
  wt := hv.wt
  rd := fun q hq => by
    rcases List.mem_append.1 hq with hq | hq
    · exact hv.rd q hq
    · rw [List.mem_singleton] at hq; subst hq; exact hr
  lk := hv.lk
theorem truth_every {c : Clk} {g : List Go'} {m : Int → Int} : Truth c (everyN c) g m ↔ GoesOk c.ws g ∧ (∀ e, 0 ≤ e → e < c.n → 0 ≤ m e ∧ m e ≤ 600) ∧ (∀ r ∈ c.rs, showP (g.getD r.wa.toNat (0, 0)) (m r.ev) = r.sh) ∧ ∀ l ∈ c.ls, l.lo ≤ m l.b - m l.a ∧ m l.b - m l.a ≤ l.hi := by
  constructor
  · intro h
    refine ⟨h.goes, h.days, fun r hr => ?_, h.links⟩
    obtain ⟨i, hi, rfl⟩ := List.getElem_of_mem hr
    exact h.shows i hi (every_bit hi)
  · rintro ⟨h1, h2, h3, h4⟩
    exact ⟨h1, h2, fun i hi _ => h3 _ (List.getElem_mem hi), h4⟩
theorem moreR_truth {c : Clk} {r : Rd} {g : List Go'} {m : Int → Int} : Truth (moreR c r) (everyN (moreR c r)) g m ↔ Truth c (everyN c) g m ∧ showP (g.getD r.wa.toNat (0, 0)) (m r.ev) = r.sh := by
  rw [truth_every, truth_every]
  constructor
  · rintro ⟨h1, h2, h3, h4⟩
    exact ⟨⟨h1, h2, fun q hq => h3 q (List.mem_append_left _ hq), h4⟩, h3 r (List.mem_append_right _ (by simp))⟩
  · rintro ⟨⟨h1, h2, h3, h4⟩, h5⟩
    refine ⟨h1, h2, fun q hq => ?_, h4⟩
    rcases List.mem_append.1 hq with hq | hq
    · exact h3 q hq
    · rw [List.mem_singleton] at hq; subst hq; exact h5
theorem span_uniq {c c' : Clk} {S S' : Nat} {val : List Go' → (Int → Int) → Int} {lo hi lo' hi' : Int} (h : SpanC c S val lo hi) (h' : SpanC c' S' val lo' hi') (he : ∀ g m, Truth c S g m ↔ Truth c' S' g m) : lo = lo' ∧ hi = hi' := by
  obtain ⟨⟨g1, m1, t1, v1⟩, ⟨g2, m2, t2, v2⟩, h3⟩ := h
  obtain ⟨⟨g1', m1', t1', v1'⟩, ⟨g2', m2', t2', v2'⟩, h3'⟩ := h'
  have a1 := h3' _ _ ((he _ _).1 t1)
  have a2 := h3' _ _ ((he _ _).1 t2)
  have a3 := h3 _ _ ((he _ _).2 t1')
  have a4 := h3 _ _ ((he _ _).2 t2')
  omega
theorem span_sub {c c' : Clk} {S S' : Nat} {val : List Go' → (Int → Int) → Int} {lo hi lo' hi' : Int} (h : SpanC c S val lo hi) (h' : SpanC c' S' val lo' hi') (he : ∀ g m, Truth c' S' g m → Truth c S g m) : lo ≤ lo' ∧ hi' ≤ hi := by
  obtain ⟨_, _, h3⟩ := h
  obtain ⟨⟨g1', m1', t1', v1'⟩, ⟨g2', m2', t2', v2'⟩, _⟩ := h'
  have a3 := h3 _ _ (he _ _ t1')
  have a4 := h3 _ _ (he _ _ t2')
  omega
end Go.Proofs.Ytknpmijgdfeliaa.G

/- Clock: a clock of watches that truly go: plain, and rows. -/
set_option linter.unusedSimpArgs false
set_option linter.unusedVariables false
set_option maxRecDepth 20000
namespace Go.Proofs.Ytknpmijgdfeliaa.G
open Go.V
theorem kp_step {C D : Nat → Prop} {s0 s s' : Hp} (h : Kp D s0 s) (k : Kp C s s') (hc : ∀ q, C q → D q ∨ s0.size ≤ q) : Kp D s0 s' := ⟨Nat.le_trans h.1 k.1, fun q hq hd => (k.2 q (Nat.lt_of_lt_of_le hq h.1) (fun hh => (hc q hh).elim hd (fun h' => by omega))).trans (h.2 q hq hd)⟩
/-- Rows of things of several cells. -/
theorem rowF {α : Type} {f : α → List Value} {M : Nat} (hf : ∀ x, (f x).length = M) {s : Hp} {x : Option Addr} {l : List α} (h : RowAt s x (l.flatMap f)) (i : Nat) (hi : i < l.length) (hM : 0 < M) : ∃ a, x = some a ∧ ∀ t (ht : t < M), cellAt s ((a.add (i * M)).add t) = some ((f l[i])[t]'(by rw [hf]; exact ht)) := by
  have hl : (l.flatMap f).length = l.length * M := flat_len l fun x _ => hf x
  have hlt : ∀ t, t < M → i * M + t < (l.flatMap f).length := fun t ht => by
    rw [hl]
    have : (i + 1) * M ≤ l.length * M := Nat.mul_le_mul_right _ hi
    rw [Nat.add_mul] at this
    omega
  obtain ⟨a, ha, _⟩ := h (i * M) (by have := hlt 0 hM; omega)
  refine ⟨a, ha, fun t ht => ?_⟩
  obtain ⟨b, hb, hcell⟩ := h (i * M + t) (hlt t ht)
  rw [ha] at hb; cases hb
  have hg := flat_get (M := M) (f := f) l (fun x _ => hf x) i hi t ht
  rw [List.getElem?_eq_getElem (hlt t ht), List.getElem?_eq_getElem (by rw [hf]; exact ht)] at hg
  rw [Nat.mul_one] at hcell
  rw [addr_add, hcell]
  exact hg
def go2 (g : Go') : List Value := [.int .i64 g.1, .int .i64 g.2]
def wt4 (w : Wt) : List Value := [.int .i64 w.zlo, .int .i64 w.zhi, .int .i64 w.rlo, .int .i64 w.rhi]
def lk4 (l : Lk) : List Value := [.int .i64 l.a, .int .i64 l.b, .int .i64 l.lo, .int .i64 l.hi]
def mi1 (m : Int) : List Value := [.int .i64 m]
def goV (l : List Go') : List Value := l.flatMap go2
def wtV (l : List Wt) : List Value := l.flatMap wt4
def lkV (l : List Lk) : List Value := l.flatMap lk4
def miV (l : List Int) : List Value := l.flatMap mi1
theorem row_go {s : Hp} {x : Option Addr} {l : List Go'} (h : RowAt s x (goV l)) (i : Nat) (hi : i < l.length) : ∃ a, x = some a ∧ cellAt s ((a.add (i * 2)).add 0) = some (.int .i64 l[i].1) ∧ cellAt s ((a.add (i * 2)).add 1) = some (.int .i64 l[i].2) := by
  obtain ⟨a, h1, h2⟩ := rowF (f := go2) (M := 2) (fun _ => rfl) h i hi (by omega)
  exact ⟨a, h1, h2 0 (by omega), h2 1 (by omega)⟩
theorem row_mi {s : Hp} {x : Option Addr} {l : List Int} (h : RowAt s x (miV l)) (i : Nat) (hi : i < l.length) : ∃ a, x = some a ∧ cellAt s (a.add (i * 1)) = some (.int .i64 l[i]) := by
  obtain ⟨a, h1, h2⟩ := rowF (f := mi1) (M := 1) (fun _ => rfl) h i hi (by omega)
  refine ⟨a, h1, ?_⟩
  have := h2 0 (by omega)
  rw [addr_add] at this
  exact this
theorem row_wt {s : Hp} {x : Option Addr} {l : List Wt} (h : RowAt s x (wtV l)) : WtAt s x l := fun i hi => by
  obtain ⟨a, h1, h2⟩ := rowF (f := wt4) (M := 4) (fun _ => rfl) h i hi (by omega)
  exact ⟨a, h1, h2 0 (by omega), h2 1 (by omega), h2 2 (by omega), h2 3 (by omega)⟩
theorem row_lk {s : Hp} {x : Option Addr} {l : List Lk} (h : RowAt s x (lkV l)) : LkAt s x l := fun i hi => by
  obtain ⟨a, h1, h2⟩ := rowF (f := lk4) (M := 4) (fun _ => rfl) h i hi (by omega)
  exact ⟨a, h1, h2 0 (by omega), h2 1 (by omega), h2 2 (by omega), h2 3 (by omega)⟩
/-- What is truly so of watches, minutes, readings and links. -/
structure Wl (ws : List Wt) (gl : List Go') : Prop where
  len : ws.length ≤ 2
  goes : GoesOk ws gl
  gb : ∀ g ∈ gl, 20 ≤ g.1 ∧ g.1 ≤ 919 ∧ 950 ≤ g.2 ∧ g.2 ≤ 1049
  wb : ∀ w ∈ ws, 0 ≤ w.zlo ∧ w.zlo ≤ w.zhi ∧ w.zhi ≤ 1000 ∧ w.zhi - w.zlo ≤ 6 ∧ 900 ≤ w.rlo ∧ w.rlo ≤ w.rhi ∧ w.rhi ≤ 1100 ∧ w.rhi - w.rlo ≤ 4
theorem GoesOk.snoc : ∀ {ws : List Wt} {gl : List Go'} {w : Wt} {g : Go'}, GoesOk ws gl → GoOk w g → GoesOk (ws ++ [w]) (gl ++ [g])
  | _, _, _, _, .nil, h => .cons h .nil
  | _, _, _, _, .cons a t, h => .cons a (t.snoc h)
theorem Wl.snoc {ws : List Wt} {gl : List Go'} {z r a b c d : Int} (h : Wl ws gl) (hl : ws.length ≤ 1) (hz : 20 ≤ z ∧ z ≤ 919) (hr : 950 ≤ r ∧ r ≤ 1049) (ha : 0 ≤ a ∧ a ≤ 1) (hb : 0 ≤ b ∧ b ≤ 1) (hc : 0 ≤ c ∧ c ≤ 1) (hd : 0 ≤ d ∧ d ≤ 1) : Wl (ws ++ [⟨z - a, z + b, r - c, r + d⟩]) (gl ++ [(z, r)]) where
  len := by simp; omega
  goes := h.goes.snoc ⟨by show z - a ≤ z; omega, by show z ≤ z + b; omega, by show r - c ≤ r; omega, by show r ≤ r + d; omega⟩
  gb := fun g hg => by
    rcases List.mem_append.1 hg with hg | hg
    · exact h.gb g hg
    · rw [List.mem_singleton] at hg; subst hg; exact ⟨hz.1, hz.2, hr.1, hr.2⟩
  wb := fun w hw => by
    rcases List.mem_append.1 hw with hw | hw
    · exact h.wb w hw
    · rw [List.mem_singleton] at hw; subst hw
      simp only
      omega
def Ml (n : Int) (ml : List Int) : Prop := (ml.length : Int) = n ∧ n ≤ 5 ∧ ∀ m ∈ ml, 0 ≤ m ∧ m ≤ 600
def mAt (ml : List Int) : Int → Int := fun e => ml.getD e.toNat 0
def Rl (gl : List Go') (ml : List Int) (rs : List Rd) : Prop := rs.length ≤ 8 ∧ ∀ r ∈ rs, (0 ≤ r.ev ∧ r.ev < ml.length ∧ 0 ≤ r.wa ∧ r.wa < gl.length) ∧ showP (gl.getD r.wa.toNat (0, 0)) (mAt ml r.ev) = r.sh
def Ll (ml : List Int) (ls : List Lk) : Prop := ls.length ≤ 5 ∧ ∀ l ∈ ls, (0 ≤ l.a ∧ l.a < ml.length ∧ 0 ≤ l.b ∧ l.b < ml.length ∧ l.a ≠ l.b ∧ -600 ≤ l.lo ∧ l.lo ≤ l.hi ∧ l.hi ≤ 600) ∧ l.lo ≤ mAt ml l.b - mAt ml l.a ∧ mAt ml l.b - mAt ml l.a ≤ l.hi
/-- What is made: a clock, how its watches go, and when things happened. -/
structure Made (c : Clk) (gl : List Go') (ml : List Int) : Prop where
  ok : VdC c
  len : (ml.length : Int) = c.n
  gb : ∀ g ∈ gl, 20 ≤ g.1 ∧ g.1 ≤ 919 ∧ 950 ≤ g.2 ∧ g.2 ≤ 1049
  mb : ∀ m ∈ ml, 0 ≤ m ∧ m ≤ 600
  goes : GoesOk c.ws gl
  truth : Truth c (everyN c) gl (mAt ml)
theorem mAt_get {ml : List Int} {i : Nat} (hi : i < ml.length) : mAt ml (i : Int) = ml[i] := by
  unfold mAt; rw [Int.toNat_natCast]; simp [List.getD, hi]
theorem show_bnd {g : Go'} {m : Int} (hg : 20 ≤ g.1 ∧ g.1 ≤ 919 ∧ 950 ≤ g.2 ∧ g.2 ≤ 1049) (hm : 0 ≤ m ∧ m ≤ 600) : 0 ≤ showP g m ∧ showP g m ≤ 2000 := by
  unfold showP
  have h0 : 0 ≤ m * g.2 := Int.mul_nonneg hm.1 (by omega)
  have h1 : m * g.2 ≤ 600 * 1049 := Int.mul_le_mul hm.2 hg.2.2.2 (by omega) (by omega)
  generalize m * g.2 = q at *
  omega
theorem made_of {n : Int} {gl : List Go'} {ml : List Int} {ws : List Wt} {rs : List Rd} {ls : List Lk} (hw : Wl ws gl) (hm : Ml n ml) (hr : Rl gl ml rs) (hl : Ll ml ls) : Made ⟨ws, n, rs, ls⟩ gl ml := by
  have hgl : gl.length = ws.length := hw.goes.len
  have hmb : ∀ e : Int, 0 ≤ e → e < ml.length → 0 ≤ mAt ml e ∧ mAt ml e ≤ 600 := fun e h0 h1 => by
    obtain ⟨i, rfl⟩ := Int.eq_ofNat_of_zero_le h0
    have hi : i < ml.length := by omega
    rw [mAt_get hi]
    exact hm.2.2 _ (List.getElem_mem hi)
  have hv : VdC ⟨ws, n, rs, ls⟩ := by
    refine ⟨hw.len, by have := hm.1; show 0 ≤ n; omega, hm.2.1, hr.1, hl.1, hw.wb, fun r hrm => ?_, fun l hlm => ?_⟩
    · obtain ⟨⟨h1, h2, h3, h4⟩, h5⟩ := hr.2 r hrm
      have hm2 := hmb r.ev h1 h2
      obtain ⟨i, hi⟩ := Int.eq_ofNat_of_zero_le h3
      have hi' : i < gl.length := by omega
      have hg : gl.getD r.wa.toNat (0, 0) = gl[i] := by
        rw [hi, Int.toNat_natCast]; simp [List.getD, hi']
      have hb := show_bnd (hw.gb _ (List.getElem_mem hi')) hm2
      rw [← hg, h5] at hb
      have := hm.1
      refine ⟨h1, by show r.ev < n; omega, h3, by show r.wa < ws.length; omega, hb.1, hb.2⟩
    · obtain ⟨⟨h1, h2, h3, h4, h5, h6⟩, _⟩ := hl.2 l hlm
      have := hm.1
      exact ⟨h1, by show l.a < n; omega, h3, by show l.b < n; omega, h5, h6⟩
  refine ⟨hv, hm.1, hw.gb, hm.2.2, hw.goes, truth_every.2 ⟨hw.goes, fun e h0 h1 => hmb e h0 (by have := hm.1; have : e < n := h1; omega), fun r hrm => (hr.2 r hrm).2, fun l hlm => (hl.2 l hlm).2⟩⟩
end Go.Proofs.Ytknpmijgdfeliaa.G

/- Clock: plain: a clock of which more is told. -/
set_option linter.unusedSimpArgs false
set_option linter.unusedVariables false
set_option maxRecDepth 20000
namespace Go.Proofs.Ytknpmijgdfeliaa.G
open Go.V
/-- Whatever is true of the second clock is true of the first one. -/
structure Mo (c q : Clk) : Prop where
  n : q.n = c.n
  wl : q.ws.length = c.ws.length
  r1 : c.rs.length ≤ q.rs.length
  tr : ∀ S g m, Truth q S g m → Truth c S g m
section
variable {c q : Clk}
theorem Mo.can (h : Mo c q) {S : Nat} (hc : CanC q S) : CanC c S := by obtain ⟨g, m, t⟩ := hc; exact ⟨g, m, h.tr _ _ _ t⟩
theorem Mo.every (h : Mo c q) {g : List Go'} {m : Int → Int} (t : Truth q (everyN q) g m) : Truth c (everyN c) g m :=
  (h.tr _ _ _ t).congr fun i hi _ => every_bit (Nat.lt_of_lt_of_le hi h.r1)
theorem Mo.cane (h : Mo c q) (hc : CanC q (everyN q)) : CanC c (everyN c) := by obtain ⟨g, m, t⟩ := hc; exact ⟨g, m, h.every t⟩
theorem Mo.span (h : Mo c q) {val : List Go' → (Int → Int) → Int} {lo hi lo' hi' : Int} (s1 : SpanC c (everyN c) val lo hi) (s2 : SpanC q (everyN q) val lo' hi') : lo ≤ lo' ∧ hi' ≤ hi := by
  obtain ⟨⟨g1, m1, t1, v1⟩, ⟨g2, m2, t2, v2⟩, _⟩ := s2
  have a1 := s1.2.2 _ _ (h.every t1)
  have a2 := s1.2.2 _ _ (h.every t2)
  omega
/-- An answer of the second clock is one of the first one, and is within it. -/
theorem Mo.qr (h : Mo c q) (hv : VdC c) (hv' : VdC q) {val : List Go' → (Int → Int) → Int} {lo hi lo' hi' err err' : Int} {is : Bool} (q1 : QR c is val lo hi err) (q2 : QR q is val lo' hi' err') (he : err' = 0) : err = 0 ∧ lo ≤ lo' ∧ hi' ≤ hi ∧ lo' ≤ hi' := by
  have hok := okC_iff.2 hv
  have hok' := okC_iff.2 hv'
  rcases q2 with ⟨h1, _⟩ | ⟨_, _, _, _, h1⟩ | ⟨_, _, _, _, _, h1⟩ | ⟨_, his, hc, hs, _⟩
  · rw [hok'] at h1; cases h1
  · omega
  · omega
  · rcases q1 with ⟨h1, _⟩ | ⟨_, h1, _⟩ | ⟨_, _, h1, _⟩ | ⟨_, _, _, hs', h1⟩
    · rw [hok] at h1; cases h1
    · rw [his] at h1; cases h1
    · exact absurd (h.cane hc) h1
    · obtain ⟨a, b⟩ := h.span hs' hs
      obtain ⟨⟨g1, m1, t1, v1⟩, _, w⟩ := hs
      have := w _ _ t1
      exact ⟨h1, a, b, by omega⟩
theorem mod_tab : ∀ n : Nat, n < 256 → ∀ N : Nat, N < 9 → popN (n % 2 ^ N) ≤ popN n := by
  have h : ((List.range 256).all fun (n : Nat) => (List.range 9).all fun (N : Nat) => decide (popN (n % 2 ^ N) ≤ popN n)) = true := by decide +kernel
  intro n hn N hN
  have h1 := List.all_eq_true.1 h n (by simpa using hn)
  exact of_decide_eq_true (List.all_eq_true.1 h1 N (by simpa using hN))
/-- No fewer readings must be wrong. -/
theorem Mo.drop (h : Mo c q) (hv : VdC c) (hv' : VdC q) {d err d' err' : Int} (q1 : DropR c d err) (q2 : DropR q d' err') : (err' = 0 ∨ err' = 10) ∧ (err' = 0 → err = 0 ∧ ∃ n n' : Nat, d = n ∧ d' = n' ∧ n < 256 ∧ n' < 256 ∧ popN n ≤ popN n') := by
  have hok := okC_iff.2 hv
  have hok' := okC_iff.2 hv'
  have hp : ∀ {c : Clk}, VdC c → everyN c < 256 := fun {c} hv => every_lt hv
  rcases q2 with ⟨h1, _⟩ | ⟨_, _, _, h1⟩ | ⟨_, b1, b2, n', b3, b4, b5, b6⟩
  · rw [hok'] at h1; cases h1
  · exact ⟨.inr h1, fun h => by omega⟩
  · refine ⟨.inl b2, fun _ => ?_⟩
    rcases q1 with ⟨h1, _⟩ | ⟨_, h1, _⟩ | ⟨_, a1, a2, n, a3, a4, a5, a6⟩
    · rw [hok] at h1; cases h1
    · exact absurd (h.can b1) h1
    · have hr8 := hv.r8
      have e1 := hp hv
      have e2 := hp hv'
      have hlt : n' % 2 ^ c.rs.length < 2 ^ c.rs.length := Nat.mod_lt _ (Nat.two_pow_pos _)
      have hle : n' % 2 ^ c.rs.length ≤ everyN c := by unfold everyN; omega
      have hcan : CanC c (coN c (n' % 2 ^ c.rs.length)) := by
        refine (h.can b5).congr fun i hi hb => ?_
        rw [co_bit hle hi] at hb
        rw [co_bit b4 (Nat.lt_of_lt_of_le hi h.r1)]
        rw [Nat.testBit_mod_two_pow, decide_eq_true hi, Bool.true_and] at hb
        exact hb
      have hm := a6 _ hle hcan
      have ht := mod_tab n' (by omega) c.rs.length (by omega)
      refine ⟨a2, n, n', a3, b3, by omega, by omega, ?_⟩
      rcases hm with hm | hm <;> omega
theorem first_more {lo hi lo' hi' : Int} (h1 : lo ≤ lo') (h2 : hi' ≤ hi) (h3 : lo' ≤ hi') (hne : firstN lo hi 0 ≠ 1) : firstN lo hi 0 = firstN lo' hi' 0 := by
  unfold firstN at *
  by_cases a : hi ≤ 0
  · rw [if_pos (by omega), if_pos (by omega)]
  · rw [if_neg (by omega)] at hne ⊢
    by_cases b : 0 < lo
    · rw [if_pos b, if_neg (by omega), if_pos (by omega)]
    · rw [if_neg b] at hne; exact absurd rfl hne
/-! ### A reading more, a link more, narrower bounds -/
theorem Mo.read {r : Rd} : Mo c (moreR c r) where
  n := rfl
  wl := rfl
  r1 := by show c.rs.length ≤ (c.rs ++ [r]).length; simp
  tr := fun S g m h => ⟨h.goes, h.days, fun i hi hb => by
    have hi' : i < (c.rs ++ [r]).length := by simp; omega
    have := h.shows i hi' hb
    have e : (moreR c r).rs[i] = c.rs[i] := List.getElem_append_left hi
    rw [e] at this
    exact this, h.links⟩
def moreL (c : Clk) (l : Lk) : Clk := { c with ls := c.ls ++ [l] }
theorem Mo.link {l : Lk} : Mo c (moreL c l) where
  n := rfl
  wl := rfl
  r1 := Nat.le_refl _
  tr := fun S g m h => ⟨h.goes, h.days, h.shows, fun k hk => h.links k (List.mem_append_left _ hk)⟩
def nW (w : Wt) : Wt := ⟨min w.zhi (w.zlo + 1), w.zhi, w.rlo, max w.rlo (w.rhi - 1)⟩
def nL (t : Int) (l : Lk) : Lk := ⟨l.a, l.b, min l.hi (l.lo + t), l.hi⟩
theorem goes_mod : ∀ {ws : List Wt} {i : Nat} {g : List Go'} (hi : i < ws.length), ws[i].zlo ≤ ws[i].zhi → ws[i].rlo ≤ ws[i].rhi → GoesOk (ws.set i (nW ws[i])) g → GoesOk ws g
  | w :: ws, 0, g, _, hz, hr, h => by
    cases h with
    | cons h t =>
      refine .cons ?_ t
      unfold GoOk nW at h
      unfold GoOk
      simp only [List.getElem_cons_zero] at h hz hr
      have a1 := Int.min_le_left w.zhi (w.zlo + 1)
      have a2 := Int.min_le_right w.zhi (w.zlo + 1)
      have a3 : w.zlo ≤ min w.zhi (w.zlo + 1) := Int.le_min.2 ⟨hz, by omega⟩
      have a4 : max w.rlo (w.rhi - 1) ≤ w.rhi := Int.max_le.2 ⟨hr, by omega⟩
      omega
  | w :: ws, i + 1, g, hi, hz, hr, h => by
    cases h with
    | cons h t => exact .cons h (goes_mod (i := i) (by simpa using hi) hz hr t)
/-- Narrower: a watch, and a link. -/
def narC (c : Clk) (by' : Nat) : Clk := { c with
  ws := if h : 0 < c.ws.length then c.ws.set (by' % c.ws.length) (nW (c.ws[by' % c.ws.length]'(Nat.mod_lt _ h))) else c.ws
  ls := if h : 0 < c.ls.length then c.ls.set (by' % c.ls.length) (nL ((by' % 7 : Nat) : Int) (c.ls[by' % c.ls.length]'(Nat.mod_lt _ h))) else c.ls }
theorem Mo.nar {by' : Nat} (hv : VdC c) : Mo c (narC c by') where
  n := rfl
  wl := by show (if h : 0 < c.ws.length then _ else c.ws).length = _; split <;> simp
  r1 := Nat.le_refl _
  tr := fun S g m h => by
    refine ⟨?_, h.days, h.shows, fun k hk => ?_⟩
    · have hg := h.goes
      have e : (narC c by').ws = (if h : 0 < c.ws.length then c.ws.set (by' % c.ws.length) (nW (c.ws[by' % c.ws.length]'(Nat.mod_lt _ h))) else c.ws) := rfl
      rw [e] at hg
      split at hg
      · rename_i h0
        have hw := hv.wt _ (List.getElem_mem (Nat.mod_lt by' h0))
        exact goes_mod (Nat.mod_lt _ h0) hw.2.1 hw.2.2.2.2.2.1 hg
      · exact hg
    · have hl := h.links
      have e : (narC c by').ls = (if h : 0 < c.ls.length then c.ls.set (by' % c.ls.length) (nL ((by' % 7 : Nat) : Int) (c.ls[by' % c.ls.length]'(Nat.mod_lt _ h))) else c.ls) := rfl
      rw [e] at hl
      split at hl
      · rename_i h0
        obtain ⟨i, hi, rfl⟩ := List.getElem_of_mem hk
        by_cases he : by' % c.ls.length = i
        · have h1 := hl (nL ((by' % 7 : Nat) : Int) (c.ls[by' % c.ls.length]'(Nat.mod_lt _ h0))) (List.mem_iff_getElem.2 ⟨by' % c.ls.length, by simp; exact Nat.mod_lt _ h0, by simp⟩)
          have hk' := hv.lk _ hk
          unfold nL at h1
          simp only [he] at h1
          have a3 : c.ls[i].lo ≤ min c.ls[i].hi (c.ls[i].lo + ((by' % 7 : Nat) : Int)) := Int.le_min.2 ⟨by omega, by omega⟩
          omega
        · exact hl _ (List.mem_iff_getElem.2 ⟨i, by simpa using hi, by rw [List.getElem_set_ne he]⟩)
      · exact hl k hk
end
end Go.Proofs.Ytknpmijgdfeliaa.G

/- Clock: rows of watches, readings and links. -/
set_option linter.unusedSimpArgs false
set_option linter.unusedVariables false
set_option maxRecDepth 20000
namespace Go.Proofs.Ytknpmijgdfeliaa.G
open Go.V
/-- 'append([]T{}, x...)', behind the empty list. -/
theorem APP_empty {P : Program} {t : TypeId} {es m : Nat} {a : Addr} {y : Option Addr} {ws zs : List Value} {s : Hp} {K : Option Addr → Nat → Nat → Hp → Prop} (hy : RowAt s y ws) (hm : ws.length = m * es) (hz : zc P t = zs) (hzl : zs.length = es) (hes : 0 < es) (hlen : m ≤ 1000000)
    (h : ∀ s' x' c', Ext s s' → RowAt s' x' ws → K x' m c' s') : APP P t es (some a) 0 0 y m K s := by
  have hyc := hy.cells
  rw [hm] at hyc
  refine ⟨⟨by omega, by omega⟩, ws, hyc, ?_⟩
  rw [Nat.zero_add]
  split
  · rename_i hle
    have hm0 : m = 0 := by omega
    subst hm0
    have hws : ws = [] := List.eq_nil_of_length_eq_zero (by rw [hm]; simp)
    subst hws
    exact h s (some a) 0 (Ext.refl _) (fun i hi => by simp at hi)
  · refine ⟨[], by rw [Nat.zero_mul]; rfl, fun c' g1 g2 => ?_⟩
    rw [hz]
    refine h _ _ c' (Ext.push (Ext.refl s)) ?_
    have hlen' : ([] ++ ws ++ repL (c' - m) zs).length = c' * es := by
      rw [List.length_append, List.length_append, repL_lenN, hzl, hm, List.length_nil, Nat.zero_add, ← Nat.add_mul]
      congr 1; omega
    exact (buf_new (by simp) (fun i hi => by rw [List.nil_append, List.getElem?_append_left hi, List.getElem?_eq_getElem hi])).row
theorem wt_row {s : Hp} {x : Option Addr} {l : List Wt} (h : WtAt s x l) : RowAt s x (wtV l) := fun i hi => by
  have hl : (wtV l).length = l.length * 4 := flat_len (M := 4) (f := wt4) l fun x _ => rfl
  have hk : i / 4 < l.length := by rw [hl] at hi; omega
  have hm : i % 4 < 4 := Nat.mod_lt _ (by omega)
  obtain ⟨a, h0, h1, h2, h3, h4⟩ := h (i / 4) hk
  have hg : (wtV l)[i / 4 * 4 + i % 4]? = (wt4 l[i / 4])[i % 4]? := flat_get (M := 4) (f := wt4) l (fun x _ => rfl) (i / 4) hk (i % 4) hm
  have e : i / 4 * 4 + i % 4 = i := by omega
  rw [e, List.getElem?_eq_getElem hi, List.getElem?_eq_getElem (show i % 4 < (wt4 l[i / 4]).length from hm)] at hg
  refine ⟨a, h0, ?_⟩
  rw [Nat.mul_one, Option.some.inj hg]
  rw [addr_add] at h1 h2 h3 h4
  have h0123 : i % 4 = 0 ∨ i % 4 = 1 ∨ i % 4 = 2 ∨ i % 4 = 3 := by omega
  rcases h0123 with e0 | e0 | e0 | e0
  · have : i / 4 * 4 + 0 = i := by omega
    rw [this] at h1
    simp only [e0]; exact h1
  · have : i / 4 * 4 + 1 = i := by omega
    rw [this] at h2
    simp only [e0]; exact h2
  · have : i / 4 * 4 + 2 = i := by omega
    rw [this] at h3
    simp only [e0]; exact h3
  · have : i / 4 * 4 + 3 = i := by omega
    rw [this] at h4
    simp only [e0]; exact h4
theorem lk_row {s : Hp} {x : Option Addr} {l : List Lk} (h : LkAt s x l) : RowAt s x (lkV l) := fun i hi => by
  have hl : (lkV l).length = l.length * 4 := flat_len (M := 4) (f := lk4) l fun x _ => rfl
  have hk : i / 4 < l.length := by rw [hl] at hi; omega
  have hm : i % 4 < 4 := Nat.mod_lt _ (by omega)
  obtain ⟨a, h0, h1, h2, h3, h4⟩ := h (i / 4) hk
  have hg : (lkV l)[i / 4 * 4 + i % 4]? = (lk4 l[i / 4])[i % 4]? := flat_get (M := 4) (f := lk4) l (fun x _ => rfl) (i / 4) hk (i % 4) hm
  have e : i / 4 * 4 + i % 4 = i := by omega
  rw [e, List.getElem?_eq_getElem hi, List.getElem?_eq_getElem (show i % 4 < (lk4 l[i / 4]).length from hm)] at hg
  refine ⟨a, h0, ?_⟩
  rw [Nat.mul_one, Option.some.inj hg]
  rw [addr_add] at h1 h2 h3 h4
  have h0123 : i % 4 = 0 ∨ i % 4 = 1 ∨ i % 4 = 2 ∨ i % 4 = 3 := by omega
  rcases h0123 with e0 | e0 | e0 | e0
  · have : i / 4 * 4 + 0 = i := by omega
    rw [this] at h1
    simp only [e0]; exact h1
  · have : i / 4 * 4 + 1 = i := by omega
    rw [this] at h2
    simp only [e0]; exact h2
  · have : i / 4 * 4 + 2 = i := by omega
    rw [this] at h3
    simp only [e0]; exact h3
  · have : i / 4 * 4 + 3 = i := by omega
    rw [this] at h4
    simp only [e0]; exact h4
theorem rd_rowF {s : Hp} {x : Option Addr} {l : List Rd} (h : RdAt s x l) : RowAt s x (rdV l) := fun i hi => by
  have hl := rdV_len l
  have hk : i / 3 < l.length := by rw [hl] at hi; omega
  have hm : i % 3 < 3 := Nat.mod_lt _ (by omega)
  obtain ⟨a, h0, h1, h2, h3⟩ := h (i / 3) hk
  have hg : (rdV l)[i / 3 * 3 + i % 3]? = (rd3 l[i / 3])[i % 3]? := flat_get (M := 3) (f := rd3) l (fun x _ => rfl) (i / 3) hk (i % 3) hm
  have e : i / 3 * 3 + i % 3 = i := by omega
  rw [e, List.getElem?_eq_getElem hi, List.getElem?_eq_getElem (show i % 3 < (rd3 l[i / 3]).length from hm)] at hg
  refine ⟨a, h0, ?_⟩
  rw [Nat.mul_one, Option.some.inj hg]
  rw [addr_add] at h1 h2 h3
  have h012 : i % 3 = 0 ∨ i % 3 = 1 ∨ i % 3 = 2 := by omega
  rcases h012 with e0 | e0 | e0
  · have : i / 3 * 3 + 0 = i := by omega
    rw [this] at h1
    simp only [e0]; exact h1
  · have : i / 3 * 3 + 1 = i := by omega
    rw [this] at h2
    simp only [e0]; exact h2
  · have : i / 3 * 3 + 2 = i := by omega
    rw [this] at h3
    simp only [e0]; exact h3
end Go.Proofs.Ytknpmijgdfeliaa.G

/- More of the functions' shallow texts, by gen.py. -/
set_option linter.unusedVariables false
set_option maxRecDepth 100000
namespace Go.Proofs.Ytknpmijgdfeliaa.G
open Go.V
def an_6 : Nat → Ann := fun b => match b with
 | 0 => { ms := [14, 211], ks := [.b, .i .i64], us := [3, 4, 5, 22, 23, 24, 25, 26, 27, 28, 29, 30, 31, 32, 33, 34, 35, 209, 210, 368], rt := false, ex := [] }
 | 2000003 => { ms := [], ks := [], us := [3, 4, 5, 6, 7, 8, 9, 14, 368], rt := true, ex := [] }
 | 2000004 => { ms := [], ks := [], us := [3, 4, 5, 6, 7, 8, 9, 14, 15, 16, 17, 368], rt := true, ex := [] }
 | 1000000 => { acc := true }
 | _ => {}
abbrev rv_6 : List ResultVar := [.tmp 14]
abbrev rs_6 : List Nat := [368, 14]
def D_law07_ClockMore_0 (W : World) (R : Ending → Hp → Prop) (zn0 : Int) (zn1 : Int) (zn2 : Int) (zn3 : Int) (za4 : Addr) (za5 : Addr) (za6 : Addr) : Hp → Prop := DRG Pg W 368 rs_6 (opsAt (sub (bodyOf Try.f6) [1, 1, 0])) (KS Pg W 368 rs_6 an_6 false (sub (bodyOf Try.f6) [1, 1, 1]) 0 (fin Pg W 368 rv_6 R)) [3, 4, 5, 6, 7, 8, 9, 14, 368] [(.int .i64 zn0), (.int .i64 zn1), (.int .i64 zn2), (.int .u8 zn3), (.pointer (some za4)), (.pointer (some za5)), (.pointer (some za6)), (.bool false), (.tuple #[])]
def D_law07_ClockMore_1 (W : World) (R : Ending → Hp → Prop) (zn0 : Int) (zn1 : Int) (zn2 : Int) (zn3 : Int) (za4 : Addr) (za5 : Addr) (za6 : Addr) (za7 : Addr) (za8 : Addr) (za9 : Addr) : Hp → Prop := DRG Pg W 368 rs_6 (opsAt (sub (bodyOf Try.f6) [1, 1, 1, 0])) (KS Pg W 368 rs_6 an_6 false (sub (bodyOf Try.f6) [1, 1, 1, 1]) 0 (fin Pg W 368 rv_6 R)) [3, 4, 5, 6, 7, 8, 9, 14, 15, 16, 17, 368] [(.int .i64 zn0), (.int .i64 zn1), (.int .i64 zn2), (.int .u8 zn3), (.pointer (some za4)), (.pointer (some za5)), (.pointer (some za6)), (.bool false), (.pointer (some za7)), (.pointer (some za8)), (.pointer (some za9)), (.tuple #[])]
def L_law07_ClockMore_0 (W : World) (R : Ending → Hp → Prop) (zn0 : Int) (zn1 : Int) (zn2 : Int) (zn3 : Int) (zn4 : Int) (za5 : Addr) (zn6 : Int) (za7 : Addr) (zn8 : Int) (zn9 : Int) (zn10 : Int) (za11 : Addr) (za12 : Addr) (zn13 : Int) (za14 : Addr) (zn15 : Int) (za16 : Addr) (b472 : Bool) (n473 : Int) : Hp → Prop :=
 LOOPN [.b, .i .i64] (fun ys next s => ∀ j : Tm, vc Pg W 368 rs_6 an_6 false (sub (bodyOf Try.f6) [1, 1, 1, 1, 1, 1, 1, 1, 1, 1, 1, 1, 1, 1, 0, 1, 0, 0]) 0 (KLoop [14, 211] [3, 4, 5, 22, 23, 24, 25, 26, 27, 28, 29, 30, 31, 32, 33, 34, 35, 209, 210, 368] [(.int .i64 zn0), (.int .i64 zn1), (.int .i64 zn2), (.func (.func 30) #[] #[]), (.int .i64 zn3), (.int .i64 zn4), (.pointer (some za5)), (.int .i64 zn6), (.pointer (some za7)), (.int .i64 zn8), (.int .i64 zn9), (.int .i64 zn10), (.pointer (some za11)), (.pointer (some za12)), (.int .i64 zn13), (.pointer (some za14)), (.int .i64 zn15), (.slice (some za16) 3 3), (.int .i64 3), (.tuple #[])] next (KBlk 0 (KS Pg W 368 rs_6 an_6 false (sub (bodyOf Try.f6) [1, 1, 1, 1, 1, 1, 1, 1, 1, 1, 1, 1, 1, 1, 1]) 0 (fin Pg W 368 rv_6 R)))) (known [14, 211] ys (known [3, 4, 5, 22, 23, 24, 25, 26, 27, 28, 29, 30, 31, 32, 33, 34, 35, 209, 210, 368] [(.int .i64 zn0), (.int .i64 zn1), (.int .i64 zn2), (.func (.func 30) #[] #[]), (.int .i64 zn3), (.int .i64 zn4), (.pointer (some za5)), (.int .i64 zn6), (.pointer (some za7)), (.int .i64 zn8), (.int .i64 zn9), (.int .i64 zn10), (.pointer (some za11)), (.pointer (some za12)), (.int .i64 zn13), (.pointer (some za14)), (.int .i64 zn15), (.slice (some za16) 3 3), (.int .i64 3), (.tuple #[])] j)) s) [(.bool b472), (.int .i64 n473)]
def J_law07_ClockMore_0 (W : World) (R : Ending → Hp → Prop) (b38 : Bool) (B22 : Nat) (n18 : Int) (n19 : Int) (n20 : Int) (n21 : Int) (B23 : Nat) (B24 : Nat) : Hp → Prop :=
 BR b38
 (CALL Pg W F_law07_alive []
 (fun v39 => TYB v39 fun b41 =>
 R (.returned (.bool b41)))
 (fun e40 => R (.panicked e40)))
 (RDL (Addr.add ⟨B22, 0, none⟩ 3) fun x42 l43 c44 =>
 BR (decide ((↑l43 : Int) > 4))
 (CALL Pg W F_law07_alive []
 (fun v45 => TYB v45 fun b47 =>
 R (.returned (.bool b47)))
 (fun e46 => R (.panicked e46)))
 (D_law07_ClockMore_0 W R n18 n19 n20 n21 ⟨B22, 0, none⟩ ⟨B23, 0, none⟩ ⟨B24, 0, none⟩))
def J_law07_ClockMore_1 (W : World) (R : Ending → Hp → Prop) (za4 : Addr) (zn0 : Int) (zn1 : Int) (zn2 : Int) (za7 : Addr) (za8 : Addr) (za9 : Addr) : Hp → Prop :=
 RDL (Addr.add za4 0) fun x248 l249 c250 =>
 RDI .i64 (Addr.add za4 1) fun n251 =>
 RDL (Addr.add za4 2) fun x252 l253 c254 =>
 RDL (Addr.add za4 3) fun x255 l256 c257 =>
 CALL Pg W F_clock_Drop [(.agg #[(.slice x248 l249 c250), (.int .i64 n251), (.slice x252 l253 c254), (.slice x255 l256 c257)])]
 (fun v258 => TUP v258 fun q260 => HD q260 fun v261 r262 => TYI .i64 v261 fun n263 =>
 HD r262 fun v264 r265 => TYI .i64 v264 fun n266 =>
 NL r265 <|
 RDL (Addr.add za4 0) fun x267 l268 c269 =>
 RDI .i64 (Addr.add za4 1) fun n270 =>
 RDL (Addr.add za4 2) fun x271 l272 c273 =>
 RDL (Addr.add za4 3) fun x274 l275 c276 =>
 CALL Pg W F_clock_When [(.agg #[(.slice x267 l268 c269), (.int .i64 n270), (.slice x271 l272 c273), (.slice x274 l275 c276)]), (.int .i64 zn0)]
 (fun v277 => TUP v277 fun q279 => HD q279 fun v280 r281 => AGG v280 fun q282 => HD q282 fun v283 r284 => TYI .i64 v283 fun n285 =>
 HD r284 fun v286 r287 => TYI .i64 v286 fun n288 =>
 NL r287 <|
 HD r281 fun v289 r290 => TYI .i64 v289 fun n291 =>
 NL r290 <|
 NEWZ Pg 34 fun B292 =>
 WR (Addr.add ⟨B292, 0, none⟩ 0) (.int .i64 n285) <|
 WR (Addr.add ⟨B292, 0, none⟩ 1) (.int .i64 n288) <|
 RDL (Addr.add za4 0) fun x293 l294 c295 =>
 RDI .i64 (Addr.add za4 1) fun n296 =>
 RDL (Addr.add za4 2) fun x297 l298 c299 =>
 RDL (Addr.add za4 3) fun x300 l301 c302 =>
 CALL Pg W F_clock_Lasted [(.agg #[(.slice x293 l294 c295), (.int .i64 n296), (.slice x297 l298 c299), (.slice x300 l301 c302)]), (.int .i64 zn0), (.int .i64 zn1)]
 (fun v303 => TUP v303 fun q305 => HD q305 fun v306 r307 => AGG v306 fun q308 => HD q308 fun v309 r310 => TYI .i64 v309 fun n311 =>
 HD r310 fun v312 r313 => TYI .i64 v312 fun n314 =>
 NL r313 <|
 HD r307 fun v315 r316 => TYI .i64 v315 fun n317 =>
 NL r316 <|
 NEWZ Pg 34 fun B318 =>
 WR (Addr.add ⟨B318, 0, none⟩ 0) (.int .i64 n311) <|
 WR (Addr.add ⟨B318, 0, none⟩ 1) (.int .i64 n314) <|
 RDL (Addr.add za4 0) fun x319 l320 c321 =>
 RDI .i64 (Addr.add za4 1) fun n322 =>
 RDL (Addr.add za4 2) fun x323 l324 c325 =>
 RDL (Addr.add za4 3) fun x326 l327 c328 =>
 CALL Pg W F_clock_First [(.agg #[(.slice x319 l320 c321), (.int .i64 n322), (.slice x323 l324 c325), (.slice x326 l327 c328)]), (.int .i64 zn0), (.int .i64 zn1)]
 (fun v329 => TUP v329 fun q331 => HD q331 fun v332 r333 => TYI .i64 v332 fun n334 =>
 HD r333 fun v335 r336 => TYI .i64 v335 fun n337 =>
 NL r336 <|
 RDL (Addr.add za4 0) fun x338 l339 c340 =>
 RDI .i64 (Addr.add za4 1) fun n341 =>
 RDL (Addr.add za4 2) fun x342 l343 c344 =>
 RDL (Addr.add za4 3) fun x345 l346 c347 =>
 CALL Pg W F_clock_Goes [(.agg #[(.slice x338 l339 c340), (.int .i64 n341), (.slice x342 l343 c344), (.slice x345 l346 c347)]), (.int .i64 zn2)]
 (fun v348 => TUP v348 fun q350 => HD q350 fun v351 r352 => AGG v351 fun q353 => HD q353 fun v354 r355 => TYI .i64 v354 fun n356 =>
 HD r355 fun v357 r358 => TYI .i64 v357 fun n359 =>
 NL r358 <|
 HD r352 fun v360 r361 => AGG v360 fun q362 => HD q362 fun v363 r364 => TYI .i64 v363 fun n365 =>
 HD r364 fun v366 r367 => TYI .i64 v366 fun n368 =>
 NL r367 <|
 HD r361 fun v369 r370 => TYI .i64 v369 fun n371 =>
 NL r370 <|
 NEWZ Pg 34 fun B372 =>
 NEWZ Pg 34 fun B373 =>
 WR (Addr.add ⟨B372, 0, none⟩ 0) (.int .i64 n356) <|
 WR (Addr.add ⟨B372, 0, none⟩ 1) (.int .i64 n359) <|
 WR (Addr.add ⟨B373, 0, none⟩ 0) (.int .i64 n365) <|
 WR (Addr.add ⟨B373, 0, none⟩ 1) (.int .i64 n368) <|
 RDL (Addr.add za4 0) fun x374 l375 c376 =>
 RDI .i64 (Addr.add za4 1) fun n377 =>
 RDL (Addr.add za4 2) fun x378 l379 c380 =>
 RDL (Addr.add za4 3) fun x381 l382 c383 =>
 CALL Pg W F_clock_Shows [(.agg #[(.slice x374 l375 c376), (.int .i64 n377), (.slice x378 l379 c380), (.slice x381 l382 c383)]), (.int .i64 zn2), (.int .i64 zn0)]
 (fun v384 => TUP v384 fun q386 => HD q386 fun v387 r388 => AGG v387 fun q389 => HD q389 fun v390 r391 => TYI .i64 v390 fun n392 =>
 HD r391 fun v393 r394 => TYI .i64 v393 fun n395 =>
 NL r394 <|
 HD r388 fun v396 r397 => TYI .i64 v396 fun n398 =>
 NL r397 <|
 NEWZ Pg 34 fun B399 =>
 WR (Addr.add ⟨B399, 0, none⟩ 0) (.int .i64 n392) <|
 WR (Addr.add ⟨B399, 0, none⟩ 1) (.int .i64 n395) <|
 RDL (Addr.add za7 0) fun x400 l401 c402 =>
 RDI .i64 (Addr.add za7 1) fun n403 =>
 RDL (Addr.add za7 2) fun x404 l405 c406 =>
 RDL (Addr.add za7 3) fun x407 l408 c409 =>
 RDL (Addr.add za8 0) fun x410 l411 c412 =>
 RDI .i64 (Addr.add za8 1) fun n413 =>
 RDL (Addr.add za8 2) fun x414 l415 c416 =>
 RDL (Addr.add za8 3) fun x417 l418 c419 =>
 RDL (Addr.add za9 0) fun x420 l421 c422 =>
 RDI .i64 (Addr.add za9 1) fun n423 =>
 RDL (Addr.add za9 2) fun x424 l425 c426 =>
 RDL (Addr.add za9 3) fun x427 l428 c429 =>
 NEW 26 [(.slice x400 l401 c402), (.int .i64 n403), (.slice x404 l405 c406), (.slice x407 l408 c409), (.slice x410 l411 c412), (.int .i64 n413), (.slice x414 l415 c416), (.slice x417 l418 c419), (.slice x420 l421 c422), (.int .i64 n423), (.slice x424 l425 c426), (.slice x427 l428 c429)] fun B430 =>
 L_law07_ClockMore_0 W R zn0 zn1 zn2 n263 n266 ⟨B292, 0, none⟩ n291 ⟨B318, 0, none⟩ n317 n334 n337 ⟨B372, 0, none⟩ ⟨B373, 0, none⟩ n371 ⟨B399, 0, none⟩ n398 ⟨B430, 0, none⟩ false 0)
 (fun e385 => R (.panicked e385)))
 (fun e349 => R (.panicked e349)))
 (fun e330 => R (.panicked e330)))
 (fun e304 => R (.panicked e304)))
 (fun e278 => R (.panicked e278)))
 (fun e259 => R (.panicked e259))
def J_law07_ClockMore_2 (W : World) (R : Ending → Hp → Prop) (za9 : Addr) (zn3 : Int) (za4 : Addr) (zn0 : Int) (zn1 : Int) (zn2 : Int) (za7 : Addr) (za8 : Addr) : Hp → Prop :=
 RDL (Addr.add za9 3) fun x239 l240 c241 =>
 BR (decide ((↑l240 : Int) > 0))
 (RDL (Addr.add za9 3) fun x242 l243 c244 =>
 NZI (↑l240 : Int) <|
 IXS x242 l243 (Int.tmod (IntKind.wrap .i64 zn3) (↑l240 : Int)) 4 fun a245 =>
 RDI .i64 (Addr.add (Addr.add a245 2) 1) fun n246 =>
 RDI .i64 (Addr.add (Addr.add a245 2) 0) fun n247 =>
 WR (Addr.add (Addr.add (Addr.add a245 2) 0) 0) (.int .i64 (if (IntKind.wrap .i64 (n247 + (Int.tmod (IntKind.wrap .i64 zn3) 7))) < n246 then (IntKind.wrap .i64 (n247 + (Int.tmod (IntKind.wrap .i64 zn3) 7))) else n246)) <|
 J_law07_ClockMore_1 W R za4 zn0 zn1 zn2 za7 za8 za9)
 (J_law07_ClockMore_1 W R za4 zn0 zn1 zn2 za7 za8 za9)
def J_law07_ClockMore_3 (W : World) (R : Ending → Hp → Prop) (za9 : Addr) (zn3 : Int) (za4 : Addr) (zn0 : Int) (zn1 : Int) (zn2 : Int) (za7 : Addr) (za8 : Addr) : Hp → Prop :=
 RDL (Addr.add za9 0) fun x226 l227 c228 =>
 BR (decide ((↑l227 : Int) > 0))
 (RDL (Addr.add za9 0) fun x229 l230 c231 =>
 NZI (↑l227 : Int) <|
 IXS x229 l230 (Int.tmod (IntKind.wrap .i64 zn3) (↑l227 : Int)) 4 fun a232 =>
 RDI .i64 (Addr.add (Addr.add a232 0) 1) fun n233 =>
 RDI .i64 (Addr.add (Addr.add a232 0) 0) fun n234 =>
 RDI .i64 (Addr.add (Addr.add a232 2) 0) fun n235 =>
 RDI .i64 (Addr.add (Addr.add a232 2) 1) fun n236 =>
 CONJ [
 ANDS (RDI .i64 (Addr.add (Addr.add a232 2) 1) fun n237 =>
 fun _ => ((.int .i64 n237) : Value) = (.int .i64 n236)) <|
 ANDS (RDI .i64 (Addr.add (Addr.add a232 2) 0) fun n238 =>
 fun _ => ((.int .i64 n238) : Value) = (.int .i64 n235)) <|
 CONJ [
 WR (Addr.add (Addr.add (Addr.add a232 0) 0) 0) (.int .i64 (if (IntKind.wrap .i64 (n234 + 1)) < n233 then (IntKind.wrap .i64 (n234 + 1)) else n233)) <|
 WR (Addr.add (Addr.add (Addr.add a232 2) 1) 0) (.int .i64 (if (IntKind.wrap .i64 (n236 - 1)) > n235 then (IntKind.wrap .i64 (n236 - 1)) else n235)) <|
 J_law07_ClockMore_2 W R za9 zn3 za4 zn0 zn1 zn2 za7 za8,
 WR (Addr.add (Addr.add (Addr.add a232 0) 0) 0) (.int .i64 (if (IntKind.wrap .i64 (n234 + 1)) < n233 then (IntKind.wrap .i64 (n234 + 1)) else n233)) <|
 WR (Addr.add (Addr.add (Addr.add a232 2) 1) 0) (.int .i64 (if (IntKind.wrap .i64 (n236 - 1)) > n235 then (IntKind.wrap .i64 (n236 - 1)) else n235)) <|
 J_law07_ClockMore_2 W R za9 zn3 za4 zn0 zn1 zn2 za7 za8],
 ANDS (RDI .i64 (Addr.add (Addr.add a232 0) 0) fun n431 =>
 fun _ => ((.int .i64 n431) : Value) = (.int .i64 n234)) <|
 ANDS (RDI .i64 (Addr.add (Addr.add a232 0) 1) fun n432 =>
 fun _ => ((.int .i64 n432) : Value) = (.int .i64 n233)) <|
 WR (Addr.add (Addr.add (Addr.add a232 0) 0) 0) (.int .i64 (if (IntKind.wrap .i64 (n234 + 1)) < n233 then (IntKind.wrap .i64 (n234 + 1)) else n233)) <|
 WR (Addr.add (Addr.add (Addr.add a232 2) 1) 0) (.int .i64 (if (IntKind.wrap .i64 (n236 - 1)) > n235 then (IntKind.wrap .i64 (n236 - 1)) else n235)) <|
 J_law07_ClockMore_2 W R za9 zn3 za4 zn0 zn1 zn2 za7 za8])
 (J_law07_ClockMore_2 W R za9 zn3 za4 zn0 zn1 zn2 za7 za8)
def J_law07_ClockMore_4 (W : World) (R : Ending → Hp → Prop) (zn0 : Int) (zn1 : Int) (zn2 : Int) (zn3 : Int) (zn4 : Int) (za5 : Addr) (zn6 : Int) (za7 : Addr) (zn8 : Int) (zn9 : Int) (zn10 : Int) (za11 : Addr) (za12 : Addr) (zn13 : Int) (za14 : Addr) (zn15 : Int) (za16 : Addr) (nx0 : List Value → Hp → Prop) (b499 : Bool) (n473 : Int) : Hp → Prop :=
 NX [(.int .i64 zn0), (.int .i64 zn1), (.int .i64 zn2), (.func (.func 30) #[] #[]), (.int .i64 zn3), (.int .i64 zn4), (.pointer (some za5)), (.int .i64 zn6), (.pointer (some za7)), (.int .i64 zn8), (.int .i64 zn9), (.int .i64 zn10), (.pointer (some za11)), (.pointer (some za12)), (.int .i64 zn13), (.pointer (some za14)), (.int .i64 zn15), (.slice (some za16) 3 3), (.int .i64 3), (.tuple #[])] [(.int .i64 zn0), (.int .i64 zn1), (.int .i64 zn2), (.func (.func 30) #[] #[]), (.int .i64 zn3), (.int .i64 zn4), (.pointer (some za5)), (.int .i64 zn6), (.pointer (some za7)), (.int .i64 zn8), (.int .i64 zn9), (.int .i64 zn10), (.pointer (some za11)), (.pointer (some za12)), (.int .i64 zn13), (.pointer (some za14)), (.int .i64 zn15), (.slice (some za16) 3 3), (.int .i64 3), (.tuple #[])] (nx0 [(.bool b499), (.int .i64 (IntKind.wrap .i64 (n473 + 1)))])
def J_law07_ClockMore_5 (W : World) (R : Ending → Hp → Prop) (b658 : Bool) (zn0 : Int) (zn1 : Int) (zn2 : Int) (zn3 : Int) (zn4 : Int) (za5 : Addr) (zn6 : Int) (za7 : Addr) (zn8 : Int) (zn9 : Int) (zn10 : Int) (za11 : Addr) (za12 : Addr) (zn13 : Int) (za14 : Addr) (zn15 : Int) (za16 : Addr) (nx0 : List Value → Hp → Prop) (b472 : Bool) (n473 : Int) : Hp → Prop :=
 BR b658
 (R (.returned (.bool false)))
 (J_law07_ClockMore_4 W R zn0 zn1 zn2 zn3 zn4 za5 zn6 za7 zn8 zn9 zn10 za11 za12 zn13 za14 zn15 za16 nx0 b472 n473)
def J_law07_ClockMore_6 (W : World) (R : Ending → Hp → Prop) (b657 : Bool) (zn0 : Int) (zn1 : Int) (zn2 : Int) (zn3 : Int) (zn4 : Int) (za5 : Addr) (zn6 : Int) (za7 : Addr) (zn8 : Int) (zn9 : Int) (zn10 : Int) (za11 : Addr) (za12 : Addr) (zn13 : Int) (za14 : Addr) (zn15 : Int) (za16 : Addr) (nx0 : List Value → Hp → Prop) (b472 : Bool) (n473 : Int) (n652 : Int) (B653 : Nat) : Hp → Prop :=
 BR b657
 (J_law07_ClockMore_5 W R true zn0 zn1 zn2 zn3 zn4 za5 zn6 za7 zn8 zn9 zn10 za11 za12 zn13 za14 zn15 za16 nx0 b472 n473)
 (BR (n652 == 0)
 (BR (zn15 != 0)
 (J_law07_ClockMore_5 W R true zn0 zn1 zn2 zn3 zn4 za5 zn6 za7 zn8 zn9 zn10 za11 za12 zn13 za14 zn15 za16 nx0 b472 n473)
 (RDI .i64 (Addr.add ⟨B653, 0, none⟩ 0) fun n659 =>
 RDI .i64 (Addr.add ⟨B653, 0, none⟩ 1) fun n660 =>
 RDI .i64 (Addr.add za14 0) fun n661 =>
 RDI .i64 (Addr.add za14 1) fun n662 =>
 CALLV Pg W (.func (.func 30) #[] #[]) [(.agg #[(.int .i64 n659), (.int .i64 n660)]), (.agg #[(.int .i64 n661), (.int .i64 n662)])]
 (fun v663 => TYB v663 fun b665 =>
 J_law07_ClockMore_5 W R (!b665) zn0 zn1 zn2 zn3 zn4 za5 zn6 za7 zn8 zn9 zn10 za11 za12 zn13 za14 zn15 za16 nx0 b472 n473)
 (fun e664 => R (.panicked e664))))
 (J_law07_ClockMore_5 W R false zn0 zn1 zn2 zn3 zn4 za5 zn6 za7 zn8 zn9 zn10 za11 za12 zn13 za14 zn15 za16 nx0 b472 n473))
def J_law07_ClockMore_7 (W : World) (R : Ending → Hp → Prop) (b656 : Bool) (n625 : Int) (zn13 : Int) (zn0 : Int) (zn1 : Int) (zn2 : Int) (zn3 : Int) (zn4 : Int) (za5 : Addr) (zn6 : Int) (za7 : Addr) (zn8 : Int) (zn9 : Int) (zn10 : Int) (za11 : Addr) (za12 : Addr) (za14 : Addr) (zn15 : Int) (za16 : Addr) (nx0 : List Value → Hp → Prop) (b472 : Bool) (n473 : Int) (n652 : Int) (B653 : Nat) (B626 : Nat) (B627 : Nat) : Hp → Prop :=
 BR b656
 (R (.returned (.bool false)))
 (BR (n625 == 0)
 (BR (zn13 != 0)
 (J_law07_ClockMore_6 W R true zn0 zn1 zn2 zn3 zn4 za5 zn6 za7 zn8 zn9 zn10 za11 za12 zn13 za14 zn15 za16 nx0 b472 n473 n652 B653)
 (RDI .i64 (Addr.add ⟨B626, 0, none⟩ 0) fun n666 =>
 RDI .i64 (Addr.add ⟨B626, 0, none⟩ 1) fun n667 =>
 RDI .i64 (Addr.add za11 0) fun n668 =>
 RDI .i64 (Addr.add za11 1) fun n669 =>
 CALLV Pg W (.func (.func 30) #[] #[]) [(.agg #[(.int .i64 n666), (.int .i64 n667)]), (.agg #[(.int .i64 n668), (.int .i64 n669)])]
 (fun v670 => TYB v670 fun b672 =>
 BR (!b672)
 (J_law07_ClockMore_6 W R true zn0 zn1 zn2 zn3 zn4 za5 zn6 za7 zn8 zn9 zn10 za11 za12 zn13 za14 zn15 za16 nx0 b472 n473 n652 B653)
 (RDI .i64 (Addr.add ⟨B627, 0, none⟩ 0) fun n673 =>
 RDI .i64 (Addr.add ⟨B627, 0, none⟩ 1) fun n674 =>
 RDI .i64 (Addr.add za12 0) fun n675 =>
 RDI .i64 (Addr.add za12 1) fun n676 =>
 CALLV Pg W (.func (.func 30) #[] #[]) [(.agg #[(.int .i64 n673), (.int .i64 n674)]), (.agg #[(.int .i64 n675), (.int .i64 n676)])]
 (fun v677 => TYB v677 fun b679 =>
 J_law07_ClockMore_6 W R (!b679) zn0 zn1 zn2 zn3 zn4 za5 zn6 za7 zn8 zn9 zn10 za11 za12 zn13 za14 zn15 za16 nx0 b472 n473 n652 B653)
 (fun e678 => R (.panicked e678))))
 (fun e671 => R (.panicked e671))))
 (J_law07_ClockMore_6 W R false zn0 zn1 zn2 zn3 zn4 za5 zn6 za7 zn8 zn9 zn10 za11 za12 zn13 za14 zn15 za16 nx0 b472 n473 n652 B653))
def J_law07_ClockMore_8 (W : World) (R : Ending → Hp → Prop) (b655 : Bool) (n625 : Int) (zn13 : Int) (zn0 : Int) (zn1 : Int) (zn2 : Int) (zn3 : Int) (zn4 : Int) (za5 : Addr) (zn6 : Int) (za7 : Addr) (zn8 : Int) (zn9 : Int) (zn10 : Int) (za11 : Addr) (za12 : Addr) (za14 : Addr) (zn15 : Int) (za16 : Addr) (nx0 : List Value → Hp → Prop) (b472 : Bool) (n473 : Int) (n652 : Int) (B653 : Nat) (B626 : Nat) (B627 : Nat) (n591 : Int) (n588 : Int) : Hp → Prop :=
 BR b655
 (J_law07_ClockMore_7 W R true n625 zn13 zn0 zn1 zn2 zn3 zn4 za5 zn6 za7 zn8 zn9 zn10 za11 za12 za14 zn15 za16 nx0 b472 n473 n652 B653 B626 B627)
 (BR (n591 == 0)
 (BR (zn10 != 0)
 (J_law07_ClockMore_7 W R true n625 zn13 zn0 zn1 zn2 zn3 zn4 za5 zn6 za7 zn8 zn9 zn10 za11 za12 za14 zn15 za16 nx0 b472 n473 n652 B653 B626 B627)
 (BR (zn9 != 1)
 (J_law07_ClockMore_7 W R (zn9 != n588) n625 zn13 zn0 zn1 zn2 zn3 zn4 za5 zn6 za7 zn8 zn9 zn10 za11 za12 za14 zn15 za16 nx0 b472 n473 n652 B653 B626 B627)
 (J_law07_ClockMore_7 W R false n625 zn13 zn0 zn1 zn2 zn3 zn4 za5 zn6 za7 zn8 zn9 zn10 za11 za12 za14 zn15 za16 nx0 b472 n473 n652 B653 B626 B627)))
 (J_law07_ClockMore_7 W R false n625 zn13 zn0 zn1 zn2 zn3 zn4 za5 zn6 za7 zn8 zn9 zn10 za11 za12 za14 zn15 za16 nx0 b472 n473 n652 B653 B626 B627))
def J_law07_ClockMore_9 (W : World) (R : Ending → Hp → Prop) (b654 : Bool) (n625 : Int) (zn13 : Int) (zn0 : Int) (zn1 : Int) (zn2 : Int) (zn3 : Int) (zn4 : Int) (za5 : Addr) (zn6 : Int) (za7 : Addr) (zn8 : Int) (zn9 : Int) (zn10 : Int) (za11 : Addr) (za12 : Addr) (za14 : Addr) (zn15 : Int) (za16 : Addr) (nx0 : List Value → Hp → Prop) (b472 : Bool) (n473 : Int) (n652 : Int) (B653 : Nat) (B626 : Nat) (B627 : Nat) (n591 : Int) (n588 : Int) (n571 : Int) (B572 : Nat) : Hp → Prop :=
 BR b654
 (J_law07_ClockMore_8 W R true n625 zn13 zn0 zn1 zn2 zn3 zn4 za5 zn6 za7 zn8 zn9 zn10 za11 za12 za14 zn15 za16 nx0 b472 n473 n652 B653 B626 B627 n591 n588)
 (BR (n571 == 0)
 (BR (zn8 != 0)
 (J_law07_ClockMore_8 W R true n625 zn13 zn0 zn1 zn2 zn3 zn4 za5 zn6 za7 zn8 zn9 zn10 za11 za12 za14 zn15 za16 nx0 b472 n473 n652 B653 B626 B627 n591 n588)
 (RDI .i64 (Addr.add ⟨B572, 0, none⟩ 0) fun n680 =>
 RDI .i64 (Addr.add ⟨B572, 0, none⟩ 1) fun n681 =>
 RDI .i64 (Addr.add za7 0) fun n682 =>
 RDI .i64 (Addr.add za7 1) fun n683 =>
 CALLV Pg W (.func (.func 30) #[] #[]) [(.agg #[(.int .i64 n680), (.int .i64 n681)]), (.agg #[(.int .i64 n682), (.int .i64 n683)])]
 (fun v684 => TYB v684 fun b686 =>
 J_law07_ClockMore_8 W R (!b686) n625 zn13 zn0 zn1 zn2 zn3 zn4 za5 zn6 za7 zn8 zn9 zn10 za11 za12 za14 zn15 za16 nx0 b472 n473 n652 B653 B626 B627 n591 n588)
 (fun e685 => R (.panicked e685))))
 (J_law07_ClockMore_8 W R false n625 zn13 zn0 zn1 zn2 zn3 zn4 za5 zn6 za7 zn8 zn9 zn10 za11 za12 za14 zn15 za16 nx0 b472 n473 n652 B653 B626 B627 n591 n588))
def J_law07_ClockMore_10 (W : World) (R : Ending → Hp → Prop) (b520 : Bool) (B485 : Nat) (zn0 : Int) (zn1 : Int) (zn2 : Int) (zn6 : Int) (zn13 : Int) (zn3 : Int) (zn4 : Int) (za5 : Addr) (za7 : Addr) (zn8 : Int) (zn9 : Int) (zn10 : Int) (za11 : Addr) (za12 : Addr) (za14 : Addr) (zn15 : Int) (za16 : Addr) (nx0 : List Value → Hp → Prop) (b472 : Bool) (n473 : Int) : Hp → Prop :=
 BR b520
 (R (.returned (.bool false)))
 (RDL (Addr.add ⟨B485, 0, none⟩ 0) fun x521 l522 c523 =>
 RDI .i64 (Addr.add ⟨B485, 0, none⟩ 1) fun n524 =>
 RDL (Addr.add ⟨B485, 0, none⟩ 2) fun x525 l526 c527 =>
 RDL (Addr.add ⟨B485, 0, none⟩ 3) fun x528 l529 c530 =>
 CALL Pg W F_clock_When [(.agg #[(.slice x521 l522 c523), (.int .i64 n524), (.slice x525 l526 c527), (.slice x528 l529 c530)]), (.int .i64 zn0)]
 (fun v531 => TUP v531 fun q533 => HD q533 fun v534 r535 => AGG v534 fun q536 => HD q536 fun v537 r538 => TYI .i64 v537 fun n539 =>
 HD r538 fun v540 r541 => TYI .i64 v540 fun n542 =>
 NL r541 <|
 HD r535 fun v543 r544 => TYI .i64 v543 fun n545 =>
 NL r544 <|
 NEWZ Pg 34 fun B546 =>
 WR (Addr.add ⟨B546, 0, none⟩ 0) (.int .i64 n539) <|
 WR (Addr.add ⟨B546, 0, none⟩ 1) (.int .i64 n542) <|
 RDL (Addr.add ⟨B485, 0, none⟩ 0) fun x547 l548 c549 =>
 RDI .i64 (Addr.add ⟨B485, 0, none⟩ 1) fun n550 =>
 RDL (Addr.add ⟨B485, 0, none⟩ 2) fun x551 l552 c553 =>
 RDL (Addr.add ⟨B485, 0, none⟩ 3) fun x554 l555 c556 =>
 CALL Pg W F_clock_Lasted [(.agg #[(.slice x547 l548 c549), (.int .i64 n550), (.slice x551 l552 c553), (.slice x554 l555 c556)]), (.int .i64 zn0), (.int .i64 zn1)]
 (fun v557 => TUP v557 fun q559 => HD q559 fun v560 r561 => AGG v560 fun q562 => HD q562 fun v563 r564 => TYI .i64 v563 fun n565 =>
 HD r564 fun v566 r567 => TYI .i64 v566 fun n568 =>
 NL r567 <|
 HD r561 fun v569 r570 => TYI .i64 v569 fun n571 =>
 NL r570 <|
 NEWZ Pg 34 fun B572 =>
 WR (Addr.add ⟨B572, 0, none⟩ 0) (.int .i64 n565) <|
 WR (Addr.add ⟨B572, 0, none⟩ 1) (.int .i64 n568) <|
 RDL (Addr.add ⟨B485, 0, none⟩ 0) fun x573 l574 c575 =>
 RDI .i64 (Addr.add ⟨B485, 0, none⟩ 1) fun n576 =>
 RDL (Addr.add ⟨B485, 0, none⟩ 2) fun x577 l578 c579 =>
 RDL (Addr.add ⟨B485, 0, none⟩ 3) fun x580 l581 c582 =>
 CALL Pg W F_clock_First [(.agg #[(.slice x573 l574 c575), (.int .i64 n576), (.slice x577 l578 c579), (.slice x580 l581 c582)]), (.int .i64 zn0), (.int .i64 zn1)]
 (fun v583 => TUP v583 fun q585 => HD q585 fun v586 r587 => TYI .i64 v586 fun n588 =>
 HD r587 fun v589 r590 => TYI .i64 v589 fun n591 =>
 NL r590 <|
 RDL (Addr.add ⟨B485, 0, none⟩ 0) fun x592 l593 c594 =>
 RDI .i64 (Addr.add ⟨B485, 0, none⟩ 1) fun n595 =>
 RDL (Addr.add ⟨B485, 0, none⟩ 2) fun x596 l597 c598 =>
 RDL (Addr.add ⟨B485, 0, none⟩ 3) fun x599 l600 c601 =>
 CALL Pg W F_clock_Goes [(.agg #[(.slice x592 l593 c594), (.int .i64 n595), (.slice x596 l597 c598), (.slice x599 l600 c601)]), (.int .i64 zn2)]
 (fun v602 => TUP v602 fun q604 => HD q604 fun v605 r606 => AGG v605 fun q607 => HD q607 fun v608 r609 => TYI .i64 v608 fun n610 =>
 HD r609 fun v611 r612 => TYI .i64 v611 fun n613 =>
 NL r612 <|
 HD r606 fun v614 r615 => AGG v614 fun q616 => HD q616 fun v617 r618 => TYI .i64 v617 fun n619 =>
 HD r618 fun v620 r621 => TYI .i64 v620 fun n622 =>
 NL r621 <|
 HD r615 fun v623 r624 => TYI .i64 v623 fun n625 =>
 NL r624 <|
 NEWZ Pg 34 fun B626 =>
 NEWZ Pg 34 fun B627 =>
 WR (Addr.add ⟨B626, 0, none⟩ 0) (.int .i64 n610) <|
 WR (Addr.add ⟨B626, 0, none⟩ 1) (.int .i64 n613) <|
 WR (Addr.add ⟨B627, 0, none⟩ 0) (.int .i64 n619) <|
 WR (Addr.add ⟨B627, 0, none⟩ 1) (.int .i64 n622) <|
 RDL (Addr.add ⟨B485, 0, none⟩ 0) fun x628 l629 c630 =>
 RDI .i64 (Addr.add ⟨B485, 0, none⟩ 1) fun n631 =>
 RDL (Addr.add ⟨B485, 0, none⟩ 2) fun x632 l633 c634 =>
 RDL (Addr.add ⟨B485, 0, none⟩ 3) fun x635 l636 c637 =>
 CALL Pg W F_clock_Shows [(.agg #[(.slice x628 l629 c630), (.int .i64 n631), (.slice x632 l633 c634), (.slice x635 l636 c637)]), (.int .i64 zn2), (.int .i64 zn0)]
 (fun v638 => TUP v638 fun q640 => HD q640 fun v641 r642 => AGG v641 fun q643 => HD q643 fun v644 r645 => TYI .i64 v644 fun n646 =>
 HD r645 fun v647 r648 => TYI .i64 v647 fun n649 =>
 NL r648 <|
 HD r642 fun v650 r651 => TYI .i64 v650 fun n652 =>
 NL r651 <|
 NEWZ Pg 34 fun B653 =>
 WR (Addr.add ⟨B653, 0, none⟩ 0) (.int .i64 n646) <|
 WR (Addr.add ⟨B653, 0, none⟩ 1) (.int .i64 n649) <|
 BR (n545 == 0)
 (BR (zn6 != 0)
 (J_law07_ClockMore_9 W R true n625 zn13 zn0 zn1 zn2 zn3 zn4 za5 zn6 za7 zn8 zn9 zn10 za11 za12 za14 zn15 za16 nx0 b472 n473 n652 B653 B626 B627 n591 n588 n571 B572)
 (RDI .i64 (Addr.add ⟨B546, 0, none⟩ 0) fun n687 =>
 RDI .i64 (Addr.add ⟨B546, 0, none⟩ 1) fun n688 =>
 RDI .i64 (Addr.add za5 0) fun n689 =>
 RDI .i64 (Addr.add za5 1) fun n690 =>
 CALLV Pg W (.func (.func 30) #[] #[]) [(.agg #[(.int .i64 n687), (.int .i64 n688)]), (.agg #[(.int .i64 n689), (.int .i64 n690)])]
 (fun v691 => TYB v691 fun b693 =>
 J_law07_ClockMore_9 W R (!b693) n625 zn13 zn0 zn1 zn2 zn3 zn4 za5 zn6 za7 zn8 zn9 zn10 za11 za12 za14 zn15 za16 nx0 b472 n473 n652 B653 B626 B627 n591 n588 n571 B572)
 (fun e692 => R (.panicked e692))))
 (J_law07_ClockMore_9 W R false n625 zn13 zn0 zn1 zn2 zn3 zn4 za5 zn6 za7 zn8 zn9 zn10 za11 za12 za14 zn15 za16 nx0 b472 n473 n652 B653 B626 B627 n591 n588 n571 B572))
 (fun e639 => R (.panicked e639)))
 (fun e603 => R (.panicked e603)))
 (fun e584 => R (.panicked e584)))
 (fun e558 => R (.panicked e558)))
 (fun e532 => R (.panicked e532)))
def J_law07_ClockMore_11 (W : World) (R : Ending → Hp → Prop) (b519 : Bool) (B485 : Nat) (zn0 : Int) (zn1 : Int) (zn2 : Int) (zn6 : Int) (zn13 : Int) (zn3 : Int) (zn4 : Int) (za5 : Addr) (za7 : Addr) (zn8 : Int) (zn9 : Int) (zn10 : Int) (za11 : Addr) (za12 : Addr) (za14 : Addr) (zn15 : Int) (za16 : Addr) (nx0 : List Value → Hp → Prop) (b472 : Bool) (n473 : Int) (n518 : Int) : Hp → Prop :=
 BR b519
 (J_law07_ClockMore_10 W R true B485 zn0 zn1 zn2 zn6 zn13 zn3 zn4 za5 za7 zn8 zn9 zn10 za11 za12 za14 zn15 za16 nx0 b472 n473)
 (BR (n518 != 0)
 (J_law07_ClockMore_10 W R (n518 != 10) B485 zn0 zn1 zn2 zn6 zn13 zn3 zn4 za5 za7 zn8 zn9 zn10 za11 za12 za14 zn15 za16 nx0 b472 n473)
 (J_law07_ClockMore_10 W R false B485 zn0 zn1 zn2 zn6 zn13 zn3 zn4 za5 za7 zn8 zn9 zn10 za11 za12 za14 zn15 za16 nx0 b472 n473))
def B_law07_ClockMore_0 (W : World) (R : Ending → Hp → Prop) (zn0 : Int) (zn1 : Int) (zn2 : Int) (zn3 : Int) (zn4 : Int) (za5 : Addr) (zn6 : Int) (za7 : Addr) (zn8 : Int) (zn9 : Int) (zn10 : Int) (za11 : Addr) (za12 : Addr) (zn13 : Int) (za14 : Addr) (zn15 : Int) (za16 : Addr) (b472 : Bool) (n473 : Int) (nx0 : List Value → Hp → Prop) : Hp → Prop :=
 BR (decide (n473 < 3))
 (IXS (some za16) 3 n473 4 fun a474 =>
 RDL (Addr.add a474 0) fun x475 l476 c477 =>
 RDI .i64 (Addr.add a474 1) fun n478 =>
 RDL (Addr.add a474 2) fun x479 l480 c481 =>
 RDL (Addr.add a474 3) fun x482 l483 c484 =>
 NEWZ Pg 26 fun B485 =>
 WR (Addr.add ⟨B485, 0, none⟩ 0) (.slice x475 l476 c477) <|
 WR (Addr.add ⟨B485, 0, none⟩ 1) (.int .i64 n478) <|
 WR (Addr.add ⟨B485, 0, none⟩ 2) (.slice x479 l480 c481) <|
 WR (Addr.add ⟨B485, 0, none⟩ 3) (.slice x482 l483 c484) <|
 RDL (Addr.add ⟨B485, 0, none⟩ 0) fun x486 l487 c488 =>
 RDI .i64 (Addr.add ⟨B485, 0, none⟩ 1) fun n489 =>
 RDL (Addr.add ⟨B485, 0, none⟩ 2) fun x490 l491 c492 =>
 RDL (Addr.add ⟨B485, 0, none⟩ 3) fun x493 l494 c495 =>
 CALL Pg W F_ref07_Clock [(.agg #[(.slice x486 l487 c488), (.int .i64 n489), (.slice x490 l491 c492), (.slice x493 l494 c495)])]
 (fun v496 => TYB v496 fun b498 =>
 BR (!b498)
 (J_law07_ClockMore_4 W R zn0 zn1 zn2 zn3 zn4 za5 zn6 za7 zn8 zn9 zn10 za11 za12 zn13 za14 zn15 za16 nx0 b472 n473)
 (RDL (Addr.add ⟨B485, 0, none⟩ 0) fun x500 l501 c502 =>
 RDI .i64 (Addr.add ⟨B485, 0, none⟩ 1) fun n503 =>
 RDL (Addr.add ⟨B485, 0, none⟩ 2) fun x504 l505 c506 =>
 RDL (Addr.add ⟨B485, 0, none⟩ 3) fun x507 l508 c509 =>
 CALL Pg W F_clock_Drop [(.agg #[(.slice x500 l501 c502), (.int .i64 n503), (.slice x504 l505 c506), (.slice x507 l508 c509)])]
 (fun v510 => TUP v510 fun q512 => HD q512 fun v513 r514 => TYI .i64 v513 fun n515 =>
 HD r514 fun v516 r517 => TYI .i64 v516 fun n518 =>
 NL r517 <|
 BR (n518 == 0)
 (BR (zn4 != 0)
 (J_law07_ClockMore_11 W R true B485 zn0 zn1 zn2 zn6 zn13 zn3 zn4 za5 za7 zn8 zn9 zn10 za11 za12 za14 zn15 za16 nx0 b472 n473 n518)
 (BR (decide (n515 < 0))
 (J_law07_ClockMore_11 W R true B485 zn0 zn1 zn2 zn6 zn13 zn3 zn4 za5 za7 zn8 zn9 zn10 za11 za12 za14 zn15 za16 nx0 b472 n473 n518)
 (BR (decide (zn3 < 0))
 (J_law07_ClockMore_11 W R true B485 zn0 zn1 zn2 zn6 zn13 zn3 zn4 za5 za7 zn8 zn9 zn10 za11 za12 za14 zn15 za16 nx0 b472 n473 n518)
 (CALL Pg W F_ref07_Size [(.int .i64 n515)]
 (fun v694 => TYI .i64 v694 fun n696 =>
 CALL Pg W F_ref07_Size [(.int .i64 zn3)]
 (fun v697 => TYI .i64 v697 fun n699 =>
 J_law07_ClockMore_11 W R (decide (n696 < n699)) B485 zn0 zn1 zn2 zn6 zn13 zn3 zn4 za5 za7 zn8 zn9 zn10 za11 za12 za14 zn15 za16 nx0 b472 n473 n518)
 (fun e698 => R (.panicked e698)))
 (fun e695 => R (.panicked e695))))))
 (J_law07_ClockMore_11 W R false B485 zn0 zn1 zn2 zn6 zn13 zn3 zn4 za5 za7 zn8 zn9 zn10 za11 za12 za14 zn15 za16 nx0 b472 n473 n518))
 (fun e511 => R (.panicked e511))))
 (fun e497 => R (.panicked e497)))
 (CALL Pg W F_law07_alive []
 (fun v700 => TYB v700 fun b702 =>
 R (.returned (.bool b702)))
 (fun e701 => R (.panicked e701)))
theorem B_law07_ClockMore_0_eq (W : World) (R : Ending → Hp → Prop) (zn0 : Int) (zn1 : Int) (zn2 : Int) (zn3 : Int) (zn4 : Int) (za5 : Addr) (zn6 : Int) (za7 : Addr) (zn8 : Int) (zn9 : Int) (zn10 : Int) (za11 : Addr) (za12 : Addr) (zn13 : Int) (za14 : Addr) (zn15 : Int) (za16 : Addr) (b472 : Bool) (n473 : Int) (nx0 : List Value → Hp → Prop) (j : Tm) : vc Pg W 368 rs_6 an_6 false (sub (bodyOf Try.f6) [1, 1, 1, 1, 1, 1, 1, 1, 1, 1, 1, 1, 1, 1, 0, 1, 0, 0]) 0 (KLoop [14, 211] [3, 4, 5, 22, 23, 24, 25, 26, 27, 28, 29, 30, 31, 32, 33, 34, 35, 209, 210, 368] [(.int .i64 zn0), (.int .i64 zn1), (.int .i64 zn2), (.func (.func 30) #[] #[]), (.int .i64 zn3), (.int .i64 zn4), (.pointer (some za5)), (.int .i64 zn6), (.pointer (some za7)), (.int .i64 zn8), (.int .i64 zn9), (.int .i64 zn10), (.pointer (some za11)), (.pointer (some za12)), (.int .i64 zn13), (.pointer (some za14)), (.int .i64 zn15), (.slice (some za16) 3 3), (.int .i64 3), (.tuple #[])] nx0 (KBlk 0 (KS Pg W 368 rs_6 an_6 false (sub (bodyOf Try.f6) [1, 1, 1, 1, 1, 1, 1, 1, 1, 1, 1, 1, 1, 1, 1]) 0 (fin Pg W 368 rv_6 R)))) (known [14, 211] [(.bool b472), (.int .i64 n473)] (known [3, 4, 5, 22, 23, 24, 25, 26, 27, 28, 29, 30, 31, 32, 33, 34, 35, 209, 210, 368] [(.int .i64 zn0), (.int .i64 zn1), (.int .i64 zn2), (.func (.func 30) #[] #[]), (.int .i64 zn3), (.int .i64 zn4), (.pointer (some za5)), (.int .i64 zn6), (.pointer (some za7)), (.int .i64 zn8), (.int .i64 zn9), (.int .i64 zn10), (.pointer (some za11)), (.pointer (some za12)), (.int .i64 zn13), (.pointer (some za14)), (.int .i64 zn15), (.slice (some za16) 3 3), (.int .i64 3), (.tuple #[])] j)) = B_law07_ClockMore_0 W R zn0 zn1 zn2 zn3 zn4 za5 zn6 za7 zn8 zn9 zn10 za11 za12 zn13 za14 zn15 za16 b472 n473 nx0 := by kernel_rfl
def N_law07_ClockMore_0 (I : Bool → Int → Hp → Prop) (μ : Bool → Int → Hp → Nat) (b4720 : Bool) (n4730 : Int) (s : Hp) (vs : List Value) : Hp → Prop := fun s' => ∃ b472 n473, vs = [(.bool b472), (.int .i64 n473)] ∧ I b472 n473 s' ∧ μ b472 n473 s' < μ b4720 n4730 s
theorem L_law07_ClockMore_0_rule (W : World) (R : Ending → Hp → Prop) (zn0 : Int) (zn1 : Int) (zn2 : Int) (zn3 : Int) (zn4 : Int) (za5 : Addr) (zn6 : Int) (za7 : Addr) (zn8 : Int) (zn9 : Int) (zn10 : Int) (za11 : Addr) (za12 : Addr) (zn13 : Int) (za14 : Addr) (zn15 : Int) (za16 : Addr) (I : Bool → Int → Hp → Prop) (μ : Bool → Int → Hp → Nat) (b4720 : Bool) (n4730 : Int) (s : Hp) (h0 : I b4720 n4730 s)
    (hr : ∀ (b472 : Bool) (n473 : Int) (s : Hp), I b472 n473 s → B_law07_ClockMore_0 W R zn0 zn1 zn2 zn3 zn4 za5 zn6 za7 zn8 zn9 zn10 za11 za12 zn13 za14 zn15 za16 b472 n473 (fun vs => N_law07_ClockMore_0 I μ b472 n473 s vs) s) : L_law07_ClockMore_0 W R zn0 zn1 zn2 zn3 zn4 za5 zn6 za7 zn8 zn9 zn10 za11 za12 zn13 za14 zn15 za16 b4720 n4730 s := by
  refine ⟨fun vs s => ∃ b472 n473, vs = [(.bool b472), (.int .i64 n473)] ∧ I b472 n473 s, fun vs s => (match vs with | [.bool b472, .int _ n473] => μ b472 n473 s | _ => 0), ⟨⟨⟨_, rfl⟩, ⟨⟨_, rfl⟩, trivial⟩⟩, ⟨_, _, rfl, h0⟩⟩, ?_⟩
  intro b472 n473 s hI j
  obtain ⟨b472', n473', hy, hI⟩ := hI
  have hI' : I b472 n473 s := by cases hy; exact hI
  have hh := hr b472 n473 s hI'
  rw [← B_law07_ClockMore_0_eq W R zn0 zn1 zn2 zn3 zn4 za5 zn6 za7 zn8 zn9 zn10 za11 za12 zn13 za14 zn15 za16 b472 n473 _ j] at hh
  refine vc_mono ?_ _ _ hh
  exact KLoop_mono (fun vs s' h => by obtain ⟨b4721, n4731, rfl, h1, h2⟩ := h; exact ⟨⟨⟨_, rfl⟩, ⟨⟨_, rfl⟩, trivial⟩⟩, ⟨_, _, rfl, h1⟩, h2⟩)
def A_law07_ClockMore_0 (W : World) (R : Ending → Hp → Prop) (zn0 : Int) (zn1 : Int) (zn2 : Int) (zn3 : Int) (za4 : Addr) (za5 : Addr) (za6 : Addr) (a127 : Addr) (a128 : Addr) (a129 : Addr) : Hp → Prop :=
 D_law07_ClockMore_1 W R zn0 zn1 zn2 zn3 za4 za5 za6 a127 a128 a129
theorem A_law07_ClockMore_0_eq (W : World) (R : Ending → Hp → Prop) (zn0 : Int) (zn1 : Int) (zn2 : Int) (zn3 : Int) (za4 : Addr) (za5 : Addr) (za6 : Addr) {a127 : Addr} {a128 : Addr} {a129 : Addr} {t : Tm} (h : KN [3, 4, 5, 6, 7, 8, 9, 14, 15, 16, 17, 368] [(.int .i64 zn0), (.int .i64 zn1), (.int .i64 zn2), (.int .u8 zn3), (.pointer (some za4)), (.pointer (some za5)), (.pointer (some za6)), (.bool false), (.pointer (some a127)), (.pointer (some a128)), (.pointer (some a129)), (.tuple #[])] t) : (KS Pg W 368 rs_6 an_6 false (sub (bodyOf Try.f6) [1, 1, 1]) 0 (fin Pg W 368 rv_6 R)) .normal t = A_law07_ClockMore_0 W R zn0 zn1 zn2 zn3 za4 za5 za6 a127 a128 a129 :=
  (congrArg (fun u => (KS Pg W 368 rs_6 an_6 false (sub (bodyOf Try.f6) [1, 1, 1]) 0 (fin Pg W 368 rv_6 R)) .normal u) (known_KN h).symm).trans (by kernel_rfl)
theorem O_law07_ClockMore_0_0 {W : World} {za4 : Addr} {t : Tm} {K : VK} {E : List PanicEntry → Hp → Prop} (h : KN [7] [(.pointer (some za4))] t) : vop Pg W (opN (opsAt (sub (bodyOf Try.f6) [1, 1, 0])) 0) t K E =
 (RDL (Addr.add za4 0) fun x61 l62 c63 =>
 RDI .i64 (Addr.add za4 1) fun n64 =>
 RDL (Addr.add za4 2) fun x65 l66 c67 =>
 RDL (Addr.add za4 3) fun x68 l69 c70 =>
 K (.agg #[(.slice x61 l62 c63), (.int .i64 n64), (.slice x65 l66 c67), (.slice x68 l69 c70)])) :=
 (vop_at h).trans (by kernel_rfl)
theorem O_law07_ClockMore_0_1 {W : World} {za4 : Addr} {t : Tm} {K : VK} {E : List PanicEntry → Hp → Prop} (h : KN [7] [(.pointer (some za4))] t) : vop Pg W (opN (opsAt (sub (bodyOf Try.f6) [1, 1, 0])) 1) t K E =
 (RDL (Addr.add za4 0) fun x71 l72 c73 =>
 RDI .i64 (Addr.add za4 1) fun n74 =>
 RDL (Addr.add za4 2) fun x75 l76 c77 =>
 RDL (Addr.add za4 3) fun x78 l79 c80 =>
 K (.agg #[(.slice x71 l72 c73), (.int .i64 n74), (.slice x75 l76 c77), (.slice x78 l79 c80)])) :=
 (vop_at h).trans (by kernel_rfl)
theorem O_law07_ClockMore_0_2 {W : World} {za4 : Addr} {t : Tm} {K : VK} {E : List PanicEntry → Hp → Prop} (h : KN [7] [(.pointer (some za4))] t) : vop Pg W (opN (opsAt (sub (bodyOf Try.f6) [1, 1, 0])) 2) t K E =
 (RDL (Addr.add za4 0) fun x81 l82 c83 =>
 RDI .i64 (Addr.add za4 1) fun n84 =>
 RDL (Addr.add za4 2) fun x85 l86 c87 =>
 RDL (Addr.add za4 3) fun x88 l89 c90 =>
 K (.agg #[(.slice x81 l82 c83), (.int .i64 n84), (.slice x85 l86 c87), (.slice x88 l89 c90)])) :=
 (vop_at h).trans (by kernel_rfl)
theorem O_law07_ClockMore_0_3 {W : World} {t : Tm} {K : VK} {E : List PanicEntry → Hp → Prop} (h : KN [] [] t) : vop Pg W (opN (opsAt (sub (bodyOf Try.f6) [1, 1, 0])) 3) t K E =
 (NEWZ Pg 26 fun B91 =>
 K (.pointer (some ⟨B91, 0, none⟩))) :=
 (vop_at h).trans (by kernel_rfl)
theorem O_law07_ClockMore_0_4 {W : World} {t : Tm} {K : VK} {E : List PanicEntry → Hp → Prop} (h : KN [] [] t) : vop Pg W (opN (opsAt (sub (bodyOf Try.f6) [1, 1, 0])) 4) t K E =
 (NEWZ Pg 26 fun B92 =>
 K (.pointer (some ⟨B92, 0, none⟩))) :=
 (vop_at h).trans (by kernel_rfl)
theorem O_law07_ClockMore_0_5 {W : World} {t : Tm} {K : VK} {E : List PanicEntry → Hp → Prop} (h : KN [] [] t) : vop Pg W (opN (opsAt (sub (bodyOf Try.f6) [1, 1, 0])) 5) t K E =
 (NEWZ Pg 26 fun B93 =>
 K (.pointer (some ⟨B93, 0, none⟩))) :=
 (vop_at h).trans (by kernel_rfl)
theorem O_law07_ClockMore_0_6 {W : World} {a94 : Addr} {x95 : Option Addr} {l96 : Nat} {c97 : Nat} {n98 : Int} {x99 : Option Addr} {l100 : Nat} {c101 : Nat} {x102 : Option Addr} {l103 : Nat} {c104 : Nat} {t : Tm} {K : VK} {E : List PanicEntry → Hp → Prop} (h : KN [15, 65] [(.pointer (some a94)), (.agg #[(.slice x95 l96 c97), (.int .i64 n98), (.slice x99 l100 c101), (.slice x102 l103 c104)])] t) : vop Pg W (opN (opsAt (sub (bodyOf Try.f6) [1, 1, 0])) 6) t K E =
 (WR (Addr.add a94 0) (.slice x95 l96 c97) <|
 WR (Addr.add a94 1) (.int .i64 n98) <|
 WR (Addr.add a94 2) (.slice x99 l100 c101) <|
 WR (Addr.add a94 3) (.slice x102 l103 c104) <|
 K (.tuple #[])) :=
 (vop_at h).trans (by kernel_rfl)
theorem O_law07_ClockMore_0_7 {W : World} {a105 : Addr} {x106 : Option Addr} {l107 : Nat} {c108 : Nat} {n109 : Int} {x110 : Option Addr} {l111 : Nat} {c112 : Nat} {x113 : Option Addr} {l114 : Nat} {c115 : Nat} {t : Tm} {K : VK} {E : List PanicEntry → Hp → Prop} (h : KN [16, 66] [(.pointer (some a105)), (.agg #[(.slice x106 l107 c108), (.int .i64 n109), (.slice x110 l111 c112), (.slice x113 l114 c115)])] t) : vop Pg W (opN (opsAt (sub (bodyOf Try.f6) [1, 1, 0])) 7) t K E =
 (WR (Addr.add a105 0) (.slice x106 l107 c108) <|
 WR (Addr.add a105 1) (.int .i64 n109) <|
 WR (Addr.add a105 2) (.slice x110 l111 c112) <|
 WR (Addr.add a105 3) (.slice x113 l114 c115) <|
 K (.tuple #[])) :=
 (vop_at h).trans (by kernel_rfl)
theorem O_law07_ClockMore_0_8 {W : World} {a116 : Addr} {x117 : Option Addr} {l118 : Nat} {c119 : Nat} {n120 : Int} {x121 : Option Addr} {l122 : Nat} {c123 : Nat} {x124 : Option Addr} {l125 : Nat} {c126 : Nat} {t : Tm} {K : VK} {E : List PanicEntry → Hp → Prop} (h : KN [17, 67] [(.pointer (some a116)), (.agg #[(.slice x117 l118 c119), (.int .i64 n120), (.slice x121 l122 c123), (.slice x124 l125 c126)])] t) : vop Pg W (opN (opsAt (sub (bodyOf Try.f6) [1, 1, 0])) 8) t K E =
 (WR (Addr.add a116 0) (.slice x117 l118 c119) <|
 WR (Addr.add a116 1) (.int .i64 n120) <|
 WR (Addr.add a116 2) (.slice x121 l122 c123) <|
 WR (Addr.add a116 3) (.slice x124 l125 c126) <|
 K (.tuple #[])) :=
 (vop_at h).trans (by kernel_rfl)
theorem D_law07_ClockMore_0_rule (W : World) (R : Ending → Hp → Prop) (zn0 : Int) (zn1 : Int) (zn2 : Int) (zn3 : Int) (za4 : Addr) (za5 : Addr) (za6 : Addr) (Φ : List Nat → (Nat → Value) → Hp → Prop) {s : Hp} (hi : ∀ ρ, Φ [] ρ s)
 (h0 : ∀ L ρ s, Φ L ρ s → 0 ∉ L → (RDL (Addr.add za4 0) fun x61 l62 c63 =>
 RDI .i64 (Addr.add za4 1) fun n64 =>
 RDL (Addr.add za4 2) fun x65 l66 c67 =>
 RDL (Addr.add za4 3) fun x68 l69 c70 =>
 Φ (0 :: L) (ru ρ 0 (.agg #[(.slice x61 l62 c63), (.int .i64 n64), (.slice x65 l66 c67), (.slice x68 l69 c70)]))) s)
 (h1 : ∀ L ρ s, Φ L ρ s → 1 ∉ L → (RDL (Addr.add za4 0) fun x71 l72 c73 =>
 RDI .i64 (Addr.add za4 1) fun n74 =>
 RDL (Addr.add za4 2) fun x75 l76 c77 =>
 RDL (Addr.add za4 3) fun x78 l79 c80 =>
 Φ (1 :: L) (ru ρ 1 (.agg #[(.slice x71 l72 c73), (.int .i64 n74), (.slice x75 l76 c77), (.slice x78 l79 c80)]))) s)
 (h2 : ∀ L ρ s, Φ L ρ s → 2 ∉ L → (RDL (Addr.add za4 0) fun x81 l82 c83 =>
 RDI .i64 (Addr.add za4 1) fun n84 =>
 RDL (Addr.add za4 2) fun x85 l86 c87 =>
 RDL (Addr.add za4 3) fun x88 l89 c90 =>
 Φ (2 :: L) (ru ρ 2 (.agg #[(.slice x81 l82 c83), (.int .i64 n84), (.slice x85 l86 c87), (.slice x88 l89 c90)]))) s)
 (h3 : ∀ L ρ s, Φ L ρ s → 3 ∉ L → (NEWZ Pg 26 fun B91 =>
 Φ (3 :: L) (ru ρ 3 (.pointer (some ⟨B91, 0, none⟩)))) s)
 (h4 : ∀ L ρ s, Φ L ρ s → 4 ∉ L → (NEWZ Pg 26 fun B92 =>
 Φ (4 :: L) (ru ρ 4 (.pointer (some ⟨B92, 0, none⟩)))) s)
 (h5 : ∀ L ρ s, Φ L ρ s → 5 ∉ L → (NEWZ Pg 26 fun B93 =>
 Φ (5 :: L) (ru ρ 5 (.pointer (some ⟨B93, 0, none⟩)))) s)
 (h6 : ∀ L ρ s, Φ L ρ s → 6 ∉ L → 0 ∈ L → 3 ∈ L → 4 ∈ L → 5 ∈ L → ∃ (a94 : Addr) (x95 : Option Addr) (l96 : Nat) (c97 : Nat) (n98 : Int) (x99 : Option Addr) (l100 : Nat) (c101 : Nat) (x102 : Option Addr) (l103 : Nat) (c104 : Nat), ρ 3 = (.pointer (some a94)) ∧ ρ 0 = (.agg #[(.slice x95 l96 c97), (.int .i64 n98), (.slice x99 l100 c101), (.slice x102 l103 c104)]) ∧ (WR (Addr.add a94 0) (.slice x95 l96 c97) <|
 WR (Addr.add a94 1) (.int .i64 n98) <|
 WR (Addr.add a94 2) (.slice x99 l100 c101) <|
 WR (Addr.add a94 3) (.slice x102 l103 c104) <|
 Φ (6 :: L) (ru ρ 6 (.tuple #[]))) s)
 (h7 : ∀ L ρ s, Φ L ρ s → 7 ∉ L → 0 ∈ L → 1 ∈ L → 3 ∈ L → 4 ∈ L → 5 ∈ L → 6 ∈ L → ∃ (a105 : Addr) (x106 : Option Addr) (l107 : Nat) (c108 : Nat) (n109 : Int) (x110 : Option Addr) (l111 : Nat) (c112 : Nat) (x113 : Option Addr) (l114 : Nat) (c115 : Nat), ρ 4 = (.pointer (some a105)) ∧ ρ 1 = (.agg #[(.slice x106 l107 c108), (.int .i64 n109), (.slice x110 l111 c112), (.slice x113 l114 c115)]) ∧ (WR (Addr.add a105 0) (.slice x106 l107 c108) <|
 WR (Addr.add a105 1) (.int .i64 n109) <|
 WR (Addr.add a105 2) (.slice x110 l111 c112) <|
 WR (Addr.add a105 3) (.slice x113 l114 c115) <|
 Φ (7 :: L) (ru ρ 7 (.tuple #[]))) s)
 (h8 : ∀ L ρ s, Φ L ρ s → 8 ∉ L → 0 ∈ L → 1 ∈ L → 2 ∈ L → 3 ∈ L → 4 ∈ L → 5 ∈ L → 6 ∈ L → 7 ∈ L → ∃ (a116 : Addr) (x117 : Option Addr) (l118 : Nat) (c119 : Nat) (n120 : Int) (x121 : Option Addr) (l122 : Nat) (c123 : Nat) (x124 : Option Addr) (l125 : Nat) (c126 : Nat), ρ 5 = (.pointer (some a116)) ∧ ρ 2 = (.agg #[(.slice x117 l118 c119), (.int .i64 n120), (.slice x121 l122 c123), (.slice x124 l125 c126)]) ∧ (WR (Addr.add a116 0) (.slice x117 l118 c119) <|
 WR (Addr.add a116 1) (.int .i64 n120) <|
 WR (Addr.add a116 2) (.slice x121 l122 c123) <|
 WR (Addr.add a116 3) (.slice x124 l125 c126) <|
 Φ (8 :: L) (ru ρ 8 (.tuple #[]))) s)
 (l0 : ∀ L ρ s, Φ L ρ s → 0 ∈ L → 6 ∉ L → 7 ∉ L → 8 ∉ L → (RDL (Addr.add za4 0) fun x61 l62 c63 =>
 RDI .i64 (Addr.add za4 1) fun n64 =>
 RDL (Addr.add za4 2) fun x65 l66 c67 =>
 RDL (Addr.add za4 3) fun x68 l69 c70 =>
 fun _ => ((.agg #[(.slice x61 l62 c63), (.int .i64 n64), (.slice x65 l66 c67), (.slice x68 l69 c70)]) : Value) = ρ 0) s)
 (l1 : ∀ L ρ s, Φ L ρ s → 1 ∈ L → 7 ∉ L → 8 ∉ L → (RDL (Addr.add za4 0) fun x71 l72 c73 =>
 RDI .i64 (Addr.add za4 1) fun n74 =>
 RDL (Addr.add za4 2) fun x75 l76 c77 =>
 RDL (Addr.add za4 3) fun x78 l79 c80 =>
 fun _ => ((.agg #[(.slice x71 l72 c73), (.int .i64 n74), (.slice x75 l76 c77), (.slice x78 l79 c80)]) : Value) = ρ 1) s)
 (l2 : ∀ L ρ s, Φ L ρ s → 2 ∈ L → 8 ∉ L → (RDL (Addr.add za4 0) fun x81 l82 c83 =>
 RDI .i64 (Addr.add za4 1) fun n84 =>
 RDL (Addr.add za4 2) fun x85 l86 c87 =>
 RDL (Addr.add za4 3) fun x88 l89 c90 =>
 fun _ => ((.agg #[(.slice x81 l82 c83), (.int .i64 n84), (.slice x85 l86 c87), (.slice x88 l89 c90)]) : Value) = ρ 2) s)
 (hf : ∀ L ρ s, Φ L ρ s → (∀ k, k < 9 → k ∈ L) → ∃ (a127 : Addr) (a128 : Addr) (a129 : Addr), ρ 3 = (.pointer (some a127)) ∧ ρ 4 = (.pointer (some a128)) ∧ ρ 5 = (.pointer (some a129)) ∧ A_law07_ClockMore_0 W R zn0 zn1 zn2 zn3 za4 za5 za6 a127 a128 a129 s) : D_law07_ClockMore_0 W R zn0 zn1 zn2 zn3 za4 za5 za6 s := by
  refine DRG_rho (by kernel_rfl) (by kernel_rfl) (by kernel_rfl) 9 (by kernel_rfl) Φ (by decide) hi ?_ ?_ ?_
  · intro k hk0 L t ρ s hr hΦ hc hk hp
    rcases (show k = 0 ∨ k = 1 ∨ k = 2 ∨ k = 3 ∨ k = 4 ∨ k = 5 ∨ k = 6 ∨ k = 7 ∨ k = 8 by omega) with rfl | rfl | rfl | rfl | rfl | rfl | rfl | rfl | rfl
    · have hx := h0 L ρ s hΦ hk
      have hh := hx
      unfold STEPR
      rw [O_law07_ClockMore_0_0 ⟨hr.base 4 rfl rfl (by kernel_rfl), trivial⟩]
      exact hh
    · have hx := h1 L ρ s hΦ hk
      have hh := hx
      unfold STEPR
      rw [O_law07_ClockMore_0_1 ⟨hr.base 4 rfl rfl (by kernel_rfl), trivial⟩]
      exact hh
    · have hx := h2 L ρ s hΦ hk
      have hh := hx
      unfold STEPR
      rw [O_law07_ClockMore_0_2 ⟨hr.base 4 rfl rfl (by kernel_rfl), trivial⟩]
      exact hh
    · have hx := h3 L ρ s hΦ hk
      have hh := hx
      unfold STEPR
      rw [O_law07_ClockMore_0_3 trivial]
      exact hh
    · have hx := h4 L ρ s hΦ hk
      have hh := hx
      unfold STEPR
      rw [O_law07_ClockMore_0_4 trivial]
      exact hh
    · have hx := h5 L ρ s hΦ hk
      have hh := hx
      unfold STEPR
      rw [O_law07_ClockMore_0_5 trivial]
      exact hh
    · have hx := h6 L ρ s hΦ hk (hp 0 (by rw [show preds (opN (opsAt (sub (bodyOf Try.f6) [1, 1, 0])) 6) = [3, 0, 0, 3, 4, 5] by kernel_rfl]; simp)) (hp 3 (by rw [show preds (opN (opsAt (sub (bodyOf Try.f6) [1, 1, 0])) 6) = [3, 0, 0, 3, 4, 5] by kernel_rfl]; simp)) (hp 4 (by rw [show preds (opN (opsAt (sub (bodyOf Try.f6) [1, 1, 0])) 6) = [3, 0, 0, 3, 4, 5] by kernel_rfl]; simp)) (hp 5 (by rw [show preds (opN (opsAt (sub (bodyOf Try.f6) [1, 1, 0])) 6) = [3, 0, 0, 3, 4, 5] by kernel_rfl]; simp))
      obtain ⟨a94, x95, l96, c97, n98, x99, l100, c101, x102, l103, c104, e0, e1, hh⟩ := hx
      unfold STEPR
      rw [O_law07_ClockMore_0_6 ⟨hr.at (hp 3 (by rw [show preds (opN (opsAt (sub (bodyOf Try.f6) [1, 1, 0])) 6) = [3, 0, 0, 3, 4, 5] by kernel_rfl]; simp)) (by kernel_rfl) e0, hr.at (hp 0 (by rw [show preds (opN (opsAt (sub (bodyOf Try.f6) [1, 1, 0])) 6) = [3, 0, 0, 3, 4, 5] by kernel_rfl]; simp)) (by kernel_rfl) e1, trivial⟩]
      exact hh
    · have hx := h7 L ρ s hΦ hk (hp 0 (by rw [show preds (opN (opsAt (sub (bodyOf Try.f6) [1, 1, 0])) 7) = [4, 1, 6, 0, 1, 3, 4, 5, 6] by kernel_rfl]; simp)) (hp 1 (by rw [show preds (opN (opsAt (sub (bodyOf Try.f6) [1, 1, 0])) 7) = [4, 1, 6, 0, 1, 3, 4, 5, 6] by kernel_rfl]; simp)) (hp 3 (by rw [show preds (opN (opsAt (sub (bodyOf Try.f6) [1, 1, 0])) 7) = [4, 1, 6, 0, 1, 3, 4, 5, 6] by kernel_rfl]; simp)) (hp 4 (by rw [show preds (opN (opsAt (sub (bodyOf Try.f6) [1, 1, 0])) 7) = [4, 1, 6, 0, 1, 3, 4, 5, 6] by kernel_rfl]; simp)) (hp 5 (by rw [show preds (opN (opsAt (sub (bodyOf Try.f6) [1, 1, 0])) 7) = [4, 1, 6, 0, 1, 3, 4, 5, 6] by kernel_rfl]; simp)) (hp 6 (by rw [show preds (opN (opsAt (sub (bodyOf Try.f6) [1, 1, 0])) 7) = [4, 1, 6, 0, 1, 3, 4, 5, 6] by kernel_rfl]; simp))
      obtain ⟨a105, x106, l107, c108, n109, x110, l111, c112, x113, l114, c115, e0, e1, hh⟩ := hx
      unfold STEPR
      rw [O_law07_ClockMore_0_7 ⟨hr.at (hp 4 (by rw [show preds (opN (opsAt (sub (bodyOf Try.f6) [1, 1, 0])) 7) = [4, 1, 6, 0, 1, 3, 4, 5, 6] by kernel_rfl]; simp)) (by kernel_rfl) e0, hr.at (hp 1 (by rw [show preds (opN (opsAt (sub (bodyOf Try.f6) [1, 1, 0])) 7) = [4, 1, 6, 0, 1, 3, 4, 5, 6] by kernel_rfl]; simp)) (by kernel_rfl) e1, trivial⟩]
      exact hh
    · have hx := h8 L ρ s hΦ hk (hp 0 (by rw [show preds (opN (opsAt (sub (bodyOf Try.f6) [1, 1, 0])) 8) = [5, 2, 7, 0, 1, 2, 3, 4, 5, 6, 7] by kernel_rfl]; simp)) (hp 1 (by rw [show preds (opN (opsAt (sub (bodyOf Try.f6) [1, 1, 0])) 8) = [5, 2, 7, 0, 1, 2, 3, 4, 5, 6, 7] by kernel_rfl]; simp)) (hp 2 (by rw [show preds (opN (opsAt (sub (bodyOf Try.f6) [1, 1, 0])) 8) = [5, 2, 7, 0, 1, 2, 3, 4, 5, 6, 7] by kernel_rfl]; simp)) (hp 3 (by rw [show preds (opN (opsAt (sub (bodyOf Try.f6) [1, 1, 0])) 8) = [5, 2, 7, 0, 1, 2, 3, 4, 5, 6, 7] by kernel_rfl]; simp)) (hp 4 (by rw [show preds (opN (opsAt (sub (bodyOf Try.f6) [1, 1, 0])) 8) = [5, 2, 7, 0, 1, 2, 3, 4, 5, 6, 7] by kernel_rfl]; simp)) (hp 5 (by rw [show preds (opN (opsAt (sub (bodyOf Try.f6) [1, 1, 0])) 8) = [5, 2, 7, 0, 1, 2, 3, 4, 5, 6, 7] by kernel_rfl]; simp)) (hp 6 (by rw [show preds (opN (opsAt (sub (bodyOf Try.f6) [1, 1, 0])) 8) = [5, 2, 7, 0, 1, 2, 3, 4, 5, 6, 7] by kernel_rfl]; simp)) (hp 7 (by rw [show preds (opN (opsAt (sub (bodyOf Try.f6) [1, 1, 0])) 8) = [5, 2, 7, 0, 1, 2, 3, 4, 5, 6, 7] by kernel_rfl]; simp))
      obtain ⟨a116, x117, l118, c119, n120, x121, l122, c123, x124, l125, c126, e0, e1, hh⟩ := hx
      unfold STEPR
      rw [O_law07_ClockMore_0_8 ⟨hr.at (hp 5 (by rw [show preds (opN (opsAt (sub (bodyOf Try.f6) [1, 1, 0])) 8) = [5, 2, 7, 0, 1, 2, 3, 4, 5, 6, 7] by kernel_rfl]; simp)) (by kernel_rfl) e0, hr.at (hp 2 (by rw [show preds (opN (opsAt (sub (bodyOf Try.f6) [1, 1, 0])) 8) = [5, 2, 7, 0, 1, 2, 3, 4, 5, 6, 7] by kernel_rfl]; simp)) (by kernel_rfl) e1, trivial⟩]
      exact hh
  · intro q hq0 hlo L t ρ s hr hΦ hc hq hno
    rcases (show q = 0 ∨ q = 1 ∨ q = 2 ∨ q = 3 ∨ q = 4 ∨ q = 5 ∨ q = 6 ∨ q = 7 ∨ q = 8 by omega) with rfl | rfl | rfl | rfl | rfl | rfl | rfl | rfl | rfl
    · have hx := l0 L ρ s hΦ hq (fun hm => absurd (hno 6 hm (by kernel_rfl)) (by rw [show bit ((masks (opsAt (sub (bodyOf Try.f6) [1, 1, 0])) []).getD 6 0) 0 = true by kernel_rfl]; simp)) (fun hm => absurd (hno 7 hm (by kernel_rfl)) (by rw [show bit ((masks (opsAt (sub (bodyOf Try.f6) [1, 1, 0])) []).getD 7 0) 0 = true by kernel_rfl]; simp)) (fun hm => absurd (hno 8 hm (by kernel_rfl)) (by rw [show bit ((masks (opsAt (sub (bodyOf Try.f6) [1, 1, 0])) []).getD 8 0) 0 = true by kernel_rfl]; simp))
      have hh := hx
      rw [O_law07_ClockMore_0_0 ⟨hr.base 4 rfl rfl (by kernel_rfl), trivial⟩]
      exact hh
    · have hx := l1 L ρ s hΦ hq (fun hm => absurd (hno 7 hm (by kernel_rfl)) (by rw [show bit ((masks (opsAt (sub (bodyOf Try.f6) [1, 1, 0])) []).getD 7 0) 1 = true by kernel_rfl]; simp)) (fun hm => absurd (hno 8 hm (by kernel_rfl)) (by rw [show bit ((masks (opsAt (sub (bodyOf Try.f6) [1, 1, 0])) []).getD 8 0) 1 = true by kernel_rfl]; simp))
      have hh := hx
      rw [O_law07_ClockMore_0_1 ⟨hr.base 4 rfl rfl (by kernel_rfl), trivial⟩]
      exact hh
    · have hx := l2 L ρ s hΦ hq (fun hm => absurd (hno 8 hm (by kernel_rfl)) (by rw [show bit ((masks (opsAt (sub (bodyOf Try.f6) [1, 1, 0])) []).getD 8 0) 2 = true by kernel_rfl]; simp))
      have hh := hx
      rw [O_law07_ClockMore_0_2 ⟨hr.base 4 rfl rfl (by kernel_rfl), trivial⟩]
      exact hh
    · exact absurd hlo (by rw [show isLoad (opN (opsAt (sub (bodyOf Try.f6) [1, 1, 0])) 3) = false by kernel_rfl]; simp)
    · exact absurd hlo (by rw [show isLoad (opN (opsAt (sub (bodyOf Try.f6) [1, 1, 0])) 4) = false by kernel_rfl]; simp)
    · exact absurd hlo (by rw [show isLoad (opN (opsAt (sub (bodyOf Try.f6) [1, 1, 0])) 5) = false by kernel_rfl]; simp)
    · exact absurd hlo (by rw [show isLoad (opN (opsAt (sub (bodyOf Try.f6) [1, 1, 0])) 6) = false by kernel_rfl]; simp)
    · exact absurd hlo (by rw [show isLoad (opN (opsAt (sub (bodyOf Try.f6) [1, 1, 0])) 7) = false by kernel_rfl]; simp)
    · exact absurd hlo (by rw [show isLoad (opN (opsAt (sub (bodyOf Try.f6) [1, 1, 0])) 8) = false by kernel_rfl]; simp)
  · intro L t ρ s hr hΦ hall
    have hx := hf L ρ s hΦ hall
    obtain ⟨a127, a128, a129, e0, e1, e2, hh⟩ := hx
    rw [A_law07_ClockMore_0_eq W R zn0 zn1 zn2 zn3 za4 za5 za6 ⟨hr.base 0 rfl rfl (by kernel_rfl), hr.base 1 rfl rfl (by kernel_rfl), hr.base 2 rfl rfl (by kernel_rfl), hr.base 3 rfl rfl (by kernel_rfl), hr.base 4 rfl rfl (by kernel_rfl), hr.base 5 rfl rfl (by kernel_rfl), hr.base 6 rfl rfl (by kernel_rfl), hr.base 7 rfl rfl (by kernel_rfl), hr.at (hall 3 (by omega)) (by kernel_rfl) e0, hr.at (hall 4 (by omega)) (by kernel_rfl) e1, hr.at (hall 5 (by omega)) (by kernel_rfl) e2, hr.base 8 rfl rfl (by kernel_rfl), trivial⟩]
    exact hh
def A_law07_ClockMore_1 (W : World) (R : Ending → Hp → Prop) (zn0 : Int) (zn1 : Int) (zn2 : Int) (zn3 : Int) (za4 : Addr) (za5 : Addr) (za6 : Addr) (za7 : Addr) (za8 : Addr) (za9 : Addr) : Hp → Prop :=
 RDL (Addr.add za4 0) fun x200 l201 c202 =>
 RDL (Addr.add za4 3) fun x203 l204 c205 =>
 CONJ [
 NEW 66 [] fun B206 =>
 ANDS (RDL (Addr.add za4 3) fun x207 l208 c209 =>
 fun _ => ((.slice x207 l208 c209) : Value) = (.slice x203 l204 c205)) <|
 ANDS (RDL (Addr.add za4 0) fun x210 l211 c212 =>
 fun _ => ((.slice x210 l211 c212) : Value) = (.slice x200 l201 c202)) <|
 CONJ [
 APP Pg 66 4 (some ⟨B206, 0, none⟩) 0 0 x200 l201 fun x213 l214 c215 =>
 ANDS (RDL (Addr.add za4 3) fun x216 l217 c218 =>
 fun _ => ((.slice x216 l217 c218) : Value) = (.slice x203 l204 c205)) <|
 NEW 63 [] fun B219 =>
 ANDS (RDL (Addr.add za4 3) fun x220 l221 c222 =>
 fun _ => ((.slice x220 l221 c222) : Value) = (.slice x203 l204 c205)) <|
 APP Pg 63 4 (some ⟨B219, 0, none⟩) 0 0 x203 l204 fun x223 l224 c225 =>
 WR (Addr.add (Addr.add za9 0) 0) (.slice x213 l214 c215) <|
 WR (Addr.add (Addr.add za9 3) 0) (.slice x223 l224 c225) <|
 J_law07_ClockMore_3 W R za9 zn3 za4 zn0 zn1 zn2 za7 za8,
 NEW 63 [] fun B433 =>
 ANDS (RDL (Addr.add za4 3) fun x434 l435 c436 =>
 fun _ => ((.slice x434 l435 c436) : Value) = (.slice x203 l204 c205)) <|
 ANDS (RDL (Addr.add za4 0) fun x437 l438 c439 =>
 fun _ => ((.slice x437 l438 c439) : Value) = (.slice x200 l201 c202)) <|
 APP Pg 66 4 (some ⟨B206, 0, none⟩) 0 0 x200 l201 fun x440 l441 c442 =>
 ANDS (RDL (Addr.add za4 3) fun x443 l444 c445 =>
 fun _ => ((.slice x443 l444 c445) : Value) = (.slice x203 l204 c205)) <|
 APP Pg 63 4 (some ⟨B433, 0, none⟩) 0 0 x203 l204 fun x446 l447 c448 =>
 WR (Addr.add (Addr.add za9 0) 0) (.slice x440 l441 c442) <|
 WR (Addr.add (Addr.add za9 3) 0) (.slice x446 l447 c448) <|
 J_law07_ClockMore_3 W R za9 zn3 za4 zn0 zn1 zn2 za7 za8],
 NEW 63 [] fun B449 =>
 ANDS (RDL (Addr.add za4 3) fun x450 l451 c452 =>
 fun _ => ((.slice x450 l451 c452) : Value) = (.slice x203 l204 c205)) <|
 ANDS (RDL (Addr.add za4 0) fun x453 l454 c455 =>
 fun _ => ((.slice x453 l454 c455) : Value) = (.slice x200 l201 c202)) <|
 NEW 66 [] fun B456 =>
 ANDS (RDL (Addr.add za4 3) fun x457 l458 c459 =>
 fun _ => ((.slice x457 l458 c459) : Value) = (.slice x203 l204 c205)) <|
 ANDS (RDL (Addr.add za4 0) fun x460 l461 c462 =>
 fun _ => ((.slice x460 l461 c462) : Value) = (.slice x200 l201 c202)) <|
 APP Pg 66 4 (some ⟨B456, 0, none⟩) 0 0 x200 l201 fun x463 l464 c465 =>
 ANDS (RDL (Addr.add za4 3) fun x466 l467 c468 =>
 fun _ => ((.slice x466 l467 c468) : Value) = (.slice x203 l204 c205)) <|
 APP Pg 63 4 (some ⟨B449, 0, none⟩) 0 0 x203 l204 fun x469 l470 c471 =>
 WR (Addr.add (Addr.add za9 0) 0) (.slice x463 l464 c465) <|
 WR (Addr.add (Addr.add za9 3) 0) (.slice x469 l470 c471) <|
 J_law07_ClockMore_3 W R za9 zn3 za4 zn0 zn1 zn2 za7 za8]
theorem A_law07_ClockMore_1_eq (W : World) (R : Ending → Hp → Prop) (zn0 : Int) (zn1 : Int) (zn2 : Int) (zn3 : Int) (za4 : Addr) (za5 : Addr) (za6 : Addr) (za7 : Addr) (za8 : Addr) (za9 : Addr) {t : Tm} (h : KN [3, 4, 5, 6, 7, 14, 15, 16, 17, 368] [(.int .i64 zn0), (.int .i64 zn1), (.int .i64 zn2), (.int .u8 zn3), (.pointer (some za4)), (.bool false), (.pointer (some za7)), (.pointer (some za8)), (.pointer (some za9)), (.tuple #[])] t) : (KS Pg W 368 rs_6 an_6 false (sub (bodyOf Try.f6) [1, 1, 1, 1]) 0 (fin Pg W 368 rv_6 R)) .normal t = A_law07_ClockMore_1 W R zn0 zn1 zn2 zn3 za4 za5 za6 za7 za8 za9 :=
  (congrArg (fun u => (KS Pg W 368 rs_6 an_6 false (sub (bodyOf Try.f6) [1, 1, 1, 1]) 0 (fin Pg W 368 rv_6 R)) .normal u) (known_KN h).symm).trans (by kernel_rfl)
theorem O_law07_ClockMore_1_0 {W : World} {t : Tm} {K : VK} {E : List PanicEntry → Hp → Prop} (h : KN [] [] t) : vop Pg W (opN (opsAt (sub (bodyOf Try.f6) [1, 1, 1, 0])) 0) t K E =
 (NEW 61 [] fun B130 =>
 K (.slice (some ⟨B130, 0, none⟩) 0 0)) :=
 (vop_at h).trans (by kernel_rfl)
theorem O_law07_ClockMore_1_1 {W : World} {za4 : Addr} {t : Tm} {K : VK} {E : List PanicEntry → Hp → Prop} (h : KN [7] [(.pointer (some za4))] t) : vop Pg W (opN (opsAt (sub (bodyOf Try.f6) [1, 1, 1, 0])) 1) t K E =
 (K (.pointer (some (Addr.add za4 2)))) :=
 (vop_at h).trans (by kernel_rfl)
theorem O_law07_ClockMore_1_2 {W : World} {a131 : Addr} {t : Tm} {K : VK} {E : List PanicEntry → Hp → Prop} (h : KN [69] [(.pointer (some a131))] t) : vop Pg W (opN (opsAt (sub (bodyOf Try.f6) [1, 1, 1, 0])) 2) t K E =
 (RDL a131 fun x132 l133 c134 =>
 K (.slice x132 l133 c134)) :=
 (vop_at h).trans (by kernel_rfl)
theorem O_law07_ClockMore_1_3 {W : World} {x135 : Option Addr} {l136 : Nat} {c137 : Nat} {x138 : Option Addr} {l139 : Nat} {c140 : Nat} {t : Tm} {K : VK} {E : List PanicEntry → Hp → Prop} (h : KN [68, 70] [(.slice x135 l136 c137), (.slice x138 l139 c140)] t) : vop Pg W (opN (opsAt (sub (bodyOf Try.f6) [1, 1, 1, 0])) 3) t K E =
 (APP Pg 61 3 x135 l136 c137 x138 l139 fun x141 l142 c143 =>
 K (.slice x141 l142 c143)) :=
 (vop_at h).trans (by kernel_rfl)
theorem O_law07_ClockMore_1_4 {W : World} {za5 : Addr} {t : Tm} {K : VK} {E : List PanicEntry → Hp → Prop} (h : KN [8] [(.pointer (some za5))] t) : vop Pg W (opN (opsAt (sub (bodyOf Try.f6) [1, 1, 1, 0])) 4) t K E =
 (RDI .i64 (Addr.add za5 0) fun n144 =>
 RDI .i64 (Addr.add za5 1) fun n145 =>
 RDI .i64 (Addr.add za5 2) fun n146 =>
 K (.agg #[(.int .i64 n144), (.int .i64 n145), (.int .i64 n146)])) :=
 (vop_at h).trans (by kernel_rfl)
theorem O_law07_ClockMore_1_5 {W : World} {n147 : Int} {n148 : Int} {n149 : Int} {t : Tm} {K : VK} {E : List PanicEntry → Hp → Prop} (h : KN [72] [(.agg #[(.int .i64 n147), (.int .i64 n148), (.int .i64 n149)])] t) : vop Pg W (opN (opsAt (sub (bodyOf Try.f6) [1, 1, 1, 0])) 5) t K E =
 (NEW 61 [(.int .i64 n147), (.int .i64 n148), (.int .i64 n149)] fun B150 =>
 K (.slice (some ⟨B150, 0, none⟩) 1 1)) :=
 (vop_at h).trans (by kernel_rfl)
theorem O_law07_ClockMore_1_6 {W : World} {x151 : Option Addr} {l152 : Nat} {c153 : Nat} {x154 : Option Addr} {l155 : Nat} {c156 : Nat} {t : Tm} {K : VK} {E : List PanicEntry → Hp → Prop} (h : KN [71, 73] [(.slice x151 l152 c153), (.slice x154 l155 c156)] t) : vop Pg W (opN (opsAt (sub (bodyOf Try.f6) [1, 1, 1, 0])) 6) t K E =
 (APP Pg 61 3 x151 l152 c153 x154 l155 fun x157 l158 c159 =>
 K (.slice x157 l158 c159)) :=
 (vop_at h).trans (by kernel_rfl)
theorem O_law07_ClockMore_1_7 {W : World} {t : Tm} {K : VK} {E : List PanicEntry → Hp → Prop} (h : KN [] [] t) : vop Pg W (opN (opsAt (sub (bodyOf Try.f6) [1, 1, 1, 0])) 7) t K E =
 (NEW 63 [] fun B160 =>
 K (.slice (some ⟨B160, 0, none⟩) 0 0)) :=
 (vop_at h).trans (by kernel_rfl)
theorem O_law07_ClockMore_1_8 {W : World} {za4 : Addr} {t : Tm} {K : VK} {E : List PanicEntry → Hp → Prop} (h : KN [7] [(.pointer (some za4))] t) : vop Pg W (opN (opsAt (sub (bodyOf Try.f6) [1, 1, 1, 0])) 8) t K E =
 (K (.pointer (some (Addr.add za4 3)))) :=
 (vop_at h).trans (by kernel_rfl)
theorem O_law07_ClockMore_1_9 {W : World} {a161 : Addr} {t : Tm} {K : VK} {E : List PanicEntry → Hp → Prop} (h : KN [76] [(.pointer (some a161))] t) : vop Pg W (opN (opsAt (sub (bodyOf Try.f6) [1, 1, 1, 0])) 9) t K E =
 (RDL a161 fun x162 l163 c164 =>
 K (.slice x162 l163 c164)) :=
 (vop_at h).trans (by kernel_rfl)
theorem O_law07_ClockMore_1_10 {W : World} {x165 : Option Addr} {l166 : Nat} {c167 : Nat} {x168 : Option Addr} {l169 : Nat} {c170 : Nat} {t : Tm} {K : VK} {E : List PanicEntry → Hp → Prop} (h : KN [75, 77] [(.slice x165 l166 c167), (.slice x168 l169 c170)] t) : vop Pg W (opN (opsAt (sub (bodyOf Try.f6) [1, 1, 1, 0])) 10) t K E =
 (APP Pg 63 4 x165 l166 c167 x168 l169 fun x171 l172 c173 =>
 K (.slice x171 l172 c173)) :=
 (vop_at h).trans (by kernel_rfl)
theorem O_law07_ClockMore_1_11 {W : World} {za6 : Addr} {t : Tm} {K : VK} {E : List PanicEntry → Hp → Prop} (h : KN [9] [(.pointer (some za6))] t) : vop Pg W (opN (opsAt (sub (bodyOf Try.f6) [1, 1, 1, 0])) 11) t K E =
 (RDI .i64 (Addr.add za6 0) fun n174 =>
 RDI .i64 (Addr.add za6 1) fun n175 =>
 RDI .i64 (Addr.add za6 2) fun n176 =>
 RDI .i64 (Addr.add za6 3) fun n177 =>
 K (.agg #[(.int .i64 n174), (.int .i64 n175), (.int .i64 n176), (.int .i64 n177)])) :=
 (vop_at h).trans (by kernel_rfl)
theorem O_law07_ClockMore_1_12 {W : World} {n178 : Int} {n179 : Int} {n180 : Int} {n181 : Int} {t : Tm} {K : VK} {E : List PanicEntry → Hp → Prop} (h : KN [79] [(.agg #[(.int .i64 n178), (.int .i64 n179), (.int .i64 n180), (.int .i64 n181)])] t) : vop Pg W (opN (opsAt (sub (bodyOf Try.f6) [1, 1, 1, 0])) 12) t K E =
 (NEW 63 [(.int .i64 n178), (.int .i64 n179), (.int .i64 n180), (.int .i64 n181)] fun B182 =>
 K (.slice (some ⟨B182, 0, none⟩) 1 1)) :=
 (vop_at h).trans (by kernel_rfl)
theorem O_law07_ClockMore_1_13 {W : World} {x183 : Option Addr} {l184 : Nat} {c185 : Nat} {x186 : Option Addr} {l187 : Nat} {c188 : Nat} {t : Tm} {K : VK} {E : List PanicEntry → Hp → Prop} (h : KN [78, 80] [(.slice x183 l184 c185), (.slice x186 l187 c188)] t) : vop Pg W (opN (opsAt (sub (bodyOf Try.f6) [1, 1, 1, 0])) 13) t K E =
 (APP Pg 63 4 x183 l184 c185 x186 l187 fun x189 l190 c191 =>
 K (.slice x189 l190 c191)) :=
 (vop_at h).trans (by kernel_rfl)
theorem O_law07_ClockMore_1_14 {W : World} {za7 : Addr} {t : Tm} {K : VK} {E : List PanicEntry → Hp → Prop} (h : KN [15] [(.pointer (some za7))] t) : vop Pg W (opN (opsAt (sub (bodyOf Try.f6) [1, 1, 1, 0])) 14) t K E =
 (K (.pointer (some (Addr.add za7 2)))) :=
 (vop_at h).trans (by kernel_rfl)
theorem O_law07_ClockMore_1_15 {W : World} {x192 : Option Addr} {l193 : Nat} {c194 : Nat} {a195 : Addr} {t : Tm} {K : VK} {E : List PanicEntry → Hp → Prop} (h : KN [74, 82] [(.slice x192 l193 c194), (.pointer (some a195))] t) : vop Pg W (opN (opsAt (sub (bodyOf Try.f6) [1, 1, 1, 0])) 15) t K E =
 (WR (Addr.add a195 0) (.slice x192 l193 c194) <|
 K (.tuple #[])) :=
 (vop_at h).trans (by kernel_rfl)
theorem O_law07_ClockMore_1_16 {W : World} {za8 : Addr} {t : Tm} {K : VK} {E : List PanicEntry → Hp → Prop} (h : KN [16] [(.pointer (some za8))] t) : vop Pg W (opN (opsAt (sub (bodyOf Try.f6) [1, 1, 1, 0])) 16) t K E =
 (K (.pointer (some (Addr.add za8 3)))) :=
 (vop_at h).trans (by kernel_rfl)
theorem O_law07_ClockMore_1_17 {W : World} {x196 : Option Addr} {l197 : Nat} {c198 : Nat} {a199 : Addr} {t : Tm} {K : VK} {E : List PanicEntry → Hp → Prop} (h : KN [81, 83] [(.slice x196 l197 c198), (.pointer (some a199))] t) : vop Pg W (opN (opsAt (sub (bodyOf Try.f6) [1, 1, 1, 0])) 17) t K E =
 (WR (Addr.add a199 0) (.slice x196 l197 c198) <|
 K (.tuple #[])) :=
 (vop_at h).trans (by kernel_rfl)
theorem D_law07_ClockMore_1_rule (W : World) (R : Ending → Hp → Prop) (zn0 : Int) (zn1 : Int) (zn2 : Int) (zn3 : Int) (za4 : Addr) (za5 : Addr) (za6 : Addr) (za7 : Addr) (za8 : Addr) (za9 : Addr) (Φ : List Nat → (Nat → Value) → Hp → Prop) {s : Hp} (hi : ∀ ρ, Φ [] ρ s)
 (h0 : ∀ L ρ s, Φ L ρ s → 0 ∉ L → (NEW 61 [] fun B130 =>
 Φ (0 :: L) (ru ρ 0 (.slice (some ⟨B130, 0, none⟩) 0 0))) s)
 (h1 : ∀ L ρ s, Φ L ρ s → 1 ∉ L → (Φ (1 :: L) (ru ρ 1 (.pointer (some (Addr.add za4 2))))) s)
 (h2 : ∀ L ρ s, Φ L ρ s → 2 ∉ L → 1 ∈ L → ∃ (a131 : Addr), ρ 1 = (.pointer (some a131)) ∧ (RDL a131 fun x132 l133 c134 =>
 Φ (2 :: L) (ru ρ 2 (.slice x132 l133 c134))) s)
 (h3 : ∀ L ρ s, Φ L ρ s → 3 ∉ L → 0 ∈ L → 2 ∈ L → ∃ (x135 : Option Addr) (l136 : Nat) (c137 : Nat) (x138 : Option Addr) (l139 : Nat) (c140 : Nat), ρ 0 = (.slice x135 l136 c137) ∧ ρ 2 = (.slice x138 l139 c140) ∧ (APP Pg 61 3 x135 l136 c137 x138 l139 fun x141 l142 c143 =>
 Φ (3 :: L) (ru ρ 3 (.slice x141 l142 c143))) s)
 (h4 : ∀ L ρ s, Φ L ρ s → 4 ∉ L → (RDI .i64 (Addr.add za5 0) fun n144 =>
 RDI .i64 (Addr.add za5 1) fun n145 =>
 RDI .i64 (Addr.add za5 2) fun n146 =>
 Φ (4 :: L) (ru ρ 4 (.agg #[(.int .i64 n144), (.int .i64 n145), (.int .i64 n146)]))) s)
 (h5 : ∀ L ρ s, Φ L ρ s → 5 ∉ L → 4 ∈ L → ∃ (n147 : Int) (n148 : Int) (n149 : Int), ρ 4 = (.agg #[(.int .i64 n147), (.int .i64 n148), (.int .i64 n149)]) ∧ (NEW 61 [(.int .i64 n147), (.int .i64 n148), (.int .i64 n149)] fun B150 =>
 Φ (5 :: L) (ru ρ 5 (.slice (some ⟨B150, 0, none⟩) 1 1))) s)
 (h6 : ∀ L ρ s, Φ L ρ s → 6 ∉ L → 3 ∈ L → 5 ∈ L → ∃ (x151 : Option Addr) (l152 : Nat) (c153 : Nat) (x154 : Option Addr) (l155 : Nat) (c156 : Nat), ρ 3 = (.slice x151 l152 c153) ∧ ρ 5 = (.slice x154 l155 c156) ∧ (APP Pg 61 3 x151 l152 c153 x154 l155 fun x157 l158 c159 =>
 Φ (6 :: L) (ru ρ 6 (.slice x157 l158 c159))) s)
 (h7 : ∀ L ρ s, Φ L ρ s → 7 ∉ L → (NEW 63 [] fun B160 =>
 Φ (7 :: L) (ru ρ 7 (.slice (some ⟨B160, 0, none⟩) 0 0))) s)
 (h8 : ∀ L ρ s, Φ L ρ s → 8 ∉ L → (Φ (8 :: L) (ru ρ 8 (.pointer (some (Addr.add za4 3))))) s)
 (h9 : ∀ L ρ s, Φ L ρ s → 9 ∉ L → 8 ∈ L → ∃ (a161 : Addr), ρ 8 = (.pointer (some a161)) ∧ (RDL a161 fun x162 l163 c164 =>
 Φ (9 :: L) (ru ρ 9 (.slice x162 l163 c164))) s)
 (h10 : ∀ L ρ s, Φ L ρ s → 10 ∉ L → 6 ∈ L → 7 ∈ L → 9 ∈ L → ∃ (x165 : Option Addr) (l166 : Nat) (c167 : Nat) (x168 : Option Addr) (l169 : Nat) (c170 : Nat), ρ 7 = (.slice x165 l166 c167) ∧ ρ 9 = (.slice x168 l169 c170) ∧ (APP Pg 63 4 x165 l166 c167 x168 l169 fun x171 l172 c173 =>
 Φ (10 :: L) (ru ρ 10 (.slice x171 l172 c173))) s)
 (h11 : ∀ L ρ s, Φ L ρ s → 11 ∉ L → (RDI .i64 (Addr.add za6 0) fun n174 =>
 RDI .i64 (Addr.add za6 1) fun n175 =>
 RDI .i64 (Addr.add za6 2) fun n176 =>
 RDI .i64 (Addr.add za6 3) fun n177 =>
 Φ (11 :: L) (ru ρ 11 (.agg #[(.int .i64 n174), (.int .i64 n175), (.int .i64 n176), (.int .i64 n177)]))) s)
 (h12 : ∀ L ρ s, Φ L ρ s → 12 ∉ L → 11 ∈ L → ∃ (n178 : Int) (n179 : Int) (n180 : Int) (n181 : Int), ρ 11 = (.agg #[(.int .i64 n178), (.int .i64 n179), (.int .i64 n180), (.int .i64 n181)]) ∧ (NEW 63 [(.int .i64 n178), (.int .i64 n179), (.int .i64 n180), (.int .i64 n181)] fun B182 =>
 Φ (12 :: L) (ru ρ 12 (.slice (some ⟨B182, 0, none⟩) 1 1))) s)
 (h13 : ∀ L ρ s, Φ L ρ s → 13 ∉ L → 10 ∈ L → 12 ∈ L → ∃ (x183 : Option Addr) (l184 : Nat) (c185 : Nat) (x186 : Option Addr) (l187 : Nat) (c188 : Nat), ρ 10 = (.slice x183 l184 c185) ∧ ρ 12 = (.slice x186 l187 c188) ∧ (APP Pg 63 4 x183 l184 c185 x186 l187 fun x189 l190 c191 =>
 Φ (13 :: L) (ru ρ 13 (.slice x189 l190 c191))) s)
 (h14 : ∀ L ρ s, Φ L ρ s → 14 ∉ L → 0 ∈ L → 1 ∈ L → 2 ∈ L → 3 ∈ L → 4 ∈ L → 5 ∈ L → 6 ∈ L → (Φ (14 :: L) (ru ρ 14 (.pointer (some (Addr.add za7 2))))) s)
 (h15 : ∀ L ρ s, Φ L ρ s → 15 ∉ L → 0 ∈ L → 1 ∈ L → 2 ∈ L → 3 ∈ L → 4 ∈ L → 5 ∈ L → 6 ∈ L → 13 ∈ L → 14 ∈ L → ∃ (x192 : Option Addr) (l193 : Nat) (c194 : Nat) (a195 : Addr), ρ 6 = (.slice x192 l193 c194) ∧ ρ 14 = (.pointer (some a195)) ∧ (WR (Addr.add a195 0) (.slice x192 l193 c194) <|
 Φ (15 :: L) (ru ρ 15 (.tuple #[]))) s)
 (h16 : ∀ L ρ s, Φ L ρ s → 16 ∉ L → 0 ∈ L → 1 ∈ L → 2 ∈ L → 3 ∈ L → 4 ∈ L → 5 ∈ L → 6 ∈ L → 7 ∈ L → 8 ∈ L → 9 ∈ L → 10 ∈ L → 11 ∈ L → 12 ∈ L → 13 ∈ L → 14 ∈ L → 15 ∈ L → (Φ (16 :: L) (ru ρ 16 (.pointer (some (Addr.add za8 3))))) s)
 (h17 : ∀ L ρ s, Φ L ρ s → 17 ∉ L → 0 ∈ L → 1 ∈ L → 2 ∈ L → 3 ∈ L → 4 ∈ L → 5 ∈ L → 6 ∈ L → 7 ∈ L → 8 ∈ L → 9 ∈ L → 10 ∈ L → 11 ∈ L → 12 ∈ L → 13 ∈ L → 14 ∈ L → 15 ∈ L → 16 ∈ L → ∃ (x196 : Option Addr) (l197 : Nat) (c198 : Nat) (a199 : Addr), ρ 13 = (.slice x196 l197 c198) ∧ ρ 16 = (.pointer (some a199)) ∧ (WR (Addr.add a199 0) (.slice x196 l197 c198) <|
 Φ (17 :: L) (ru ρ 17 (.tuple #[]))) s)
 (l2 : ∀ L ρ s, Φ L ρ s → 2 ∈ L → 1 ∈ L → 3 ∉ L → 6 ∉ L → 10 ∉ L → 13 ∉ L → 15 ∉ L → 17 ∉ L → ∃ (a131 : Addr), ρ 1 = (.pointer (some a131)) ∧ (RDL a131 fun x132 l133 c134 =>
 fun _ => ((.slice x132 l133 c134) : Value) = ρ 2) s)
 (l4 : ∀ L ρ s, Φ L ρ s → 4 ∈ L → 5 ∉ L → 6 ∉ L → 10 ∉ L → 13 ∉ L → 15 ∉ L → 17 ∉ L → (RDI .i64 (Addr.add za5 0) fun n144 =>
 RDI .i64 (Addr.add za5 1) fun n145 =>
 RDI .i64 (Addr.add za5 2) fun n146 =>
 fun _ => ((.agg #[(.int .i64 n144), (.int .i64 n145), (.int .i64 n146)]) : Value) = ρ 4) s)
 (l9 : ∀ L ρ s, Φ L ρ s → 9 ∈ L → 8 ∈ L → 10 ∉ L → 13 ∉ L → 15 ∉ L → 17 ∉ L → ∃ (a161 : Addr), ρ 8 = (.pointer (some a161)) ∧ (RDL a161 fun x162 l163 c164 =>
 fun _ => ((.slice x162 l163 c164) : Value) = ρ 9) s)
 (l11 : ∀ L ρ s, Φ L ρ s → 11 ∈ L → 12 ∉ L → 13 ∉ L → 15 ∉ L → 17 ∉ L → (RDI .i64 (Addr.add za6 0) fun n174 =>
 RDI .i64 (Addr.add za6 1) fun n175 =>
 RDI .i64 (Addr.add za6 2) fun n176 =>
 RDI .i64 (Addr.add za6 3) fun n177 =>
 fun _ => ((.agg #[(.int .i64 n174), (.int .i64 n175), (.int .i64 n176), (.int .i64 n177)]) : Value) = ρ 11) s)
 (hf : ∀ L ρ s, Φ L ρ s → (∀ k, k < 18 → k ∈ L) → A_law07_ClockMore_1 W R zn0 zn1 zn2 zn3 za4 za5 za6 za7 za8 za9 s) : D_law07_ClockMore_1 W R zn0 zn1 zn2 zn3 za4 za5 za6 za7 za8 za9 s := by
  refine DRG_rho (by kernel_rfl) (by kernel_rfl) (by kernel_rfl) 18 (by kernel_rfl) Φ (by decide) hi ?_ ?_ ?_
  · intro k hk0 L t ρ s hr hΦ hc hk hp
    rcases (show k = 0 ∨ k = 1 ∨ k = 2 ∨ k = 3 ∨ k = 4 ∨ k = 5 ∨ k = 6 ∨ k = 7 ∨ k = 8 ∨ k = 9 ∨ k = 10 ∨ k = 11 ∨ k = 12 ∨ k = 13 ∨ k = 14 ∨ k = 15 ∨ k = 16 ∨ k = 17 by omega) with rfl | rfl | rfl | rfl | rfl | rfl | rfl | rfl | rfl | rfl | rfl | rfl | rfl | rfl | rfl | rfl | rfl | rfl
    · have hx := h0 L ρ s hΦ hk
      have hh := hx
      unfold STEPR
      rw [O_law07_ClockMore_1_0 trivial]
      exact hh
    · have hx := h1 L ρ s hΦ hk
      have hh := hx
      unfold STEPR
      rw [O_law07_ClockMore_1_1 ⟨hr.base 4 rfl rfl (by kernel_rfl), trivial⟩]
      exact hh
    · have hx := h2 L ρ s hΦ hk (hp 1 (by rw [show preds (opN (opsAt (sub (bodyOf Try.f6) [1, 1, 1, 0])) 2) = [1] by kernel_rfl]; simp))
      obtain ⟨a131, e0, hh⟩ := hx
      unfold STEPR
      rw [O_law07_ClockMore_1_2 ⟨hr.at (hp 1 (by rw [show preds (opN (opsAt (sub (bodyOf Try.f6) [1, 1, 1, 0])) 2) = [1] by kernel_rfl]; simp)) (by kernel_rfl) e0, trivial⟩]
      exact hh
    · have hx := h3 L ρ s hΦ hk (hp 0 (by rw [show preds (opN (opsAt (sub (bodyOf Try.f6) [1, 1, 1, 0])) 3) = [0, 2] by kernel_rfl]; simp)) (hp 2 (by rw [show preds (opN (opsAt (sub (bodyOf Try.f6) [1, 1, 1, 0])) 3) = [0, 2] by kernel_rfl]; simp))
      obtain ⟨x135, l136, c137, x138, l139, c140, e0, e1, hh⟩ := hx
      unfold STEPR
      rw [O_law07_ClockMore_1_3 ⟨hr.at (hp 0 (by rw [show preds (opN (opsAt (sub (bodyOf Try.f6) [1, 1, 1, 0])) 3) = [0, 2] by kernel_rfl]; simp)) (by kernel_rfl) e0, hr.at (hp 2 (by rw [show preds (opN (opsAt (sub (bodyOf Try.f6) [1, 1, 1, 0])) 3) = [0, 2] by kernel_rfl]; simp)) (by kernel_rfl) e1, trivial⟩]
      exact hh
    · have hx := h4 L ρ s hΦ hk
      have hh := hx
      unfold STEPR
      rw [O_law07_ClockMore_1_4 ⟨hr.base 5 rfl rfl (by kernel_rfl), trivial⟩]
      exact hh
    · have hx := h5 L ρ s hΦ hk (hp 4 (by rw [show preds (opN (opsAt (sub (bodyOf Try.f6) [1, 1, 1, 0])) 5) = [4] by kernel_rfl]; simp))
      obtain ⟨n147, n148, n149, e0, hh⟩ := hx
      unfold STEPR
      rw [O_law07_ClockMore_1_5 ⟨hr.at (hp 4 (by rw [show preds (opN (opsAt (sub (bodyOf Try.f6) [1, 1, 1, 0])) 5) = [4] by kernel_rfl]; simp)) (by kernel_rfl) e0, trivial⟩]
      exact hh
    · have hx := h6 L ρ s hΦ hk (hp 3 (by rw [show preds (opN (opsAt (sub (bodyOf Try.f6) [1, 1, 1, 0])) 6) = [3, 5, 3] by kernel_rfl]; simp)) (hp 5 (by rw [show preds (opN (opsAt (sub (bodyOf Try.f6) [1, 1, 1, 0])) 6) = [3, 5, 3] by kernel_rfl]; simp))
      obtain ⟨x151, l152, c153, x154, l155, c156, e0, e1, hh⟩ := hx
      unfold STEPR
      rw [O_law07_ClockMore_1_6 ⟨hr.at (hp 3 (by rw [show preds (opN (opsAt (sub (bodyOf Try.f6) [1, 1, 1, 0])) 6) = [3, 5, 3] by kernel_rfl]; simp)) (by kernel_rfl) e0, hr.at (hp 5 (by rw [show preds (opN (opsAt (sub (bodyOf Try.f6) [1, 1, 1, 0])) 6) = [3, 5, 3] by kernel_rfl]; simp)) (by kernel_rfl) e1, trivial⟩]
      exact hh
    · have hx := h7 L ρ s hΦ hk
      have hh := hx
      unfold STEPR
      rw [O_law07_ClockMore_1_7 trivial]
      exact hh
    · have hx := h8 L ρ s hΦ hk
      have hh := hx
      unfold STEPR
      rw [O_law07_ClockMore_1_8 ⟨hr.base 4 rfl rfl (by kernel_rfl), trivial⟩]
      exact hh
    · have hx := h9 L ρ s hΦ hk (hp 8 (by rw [show preds (opN (opsAt (sub (bodyOf Try.f6) [1, 1, 1, 0])) 9) = [8] by kernel_rfl]; simp))
      obtain ⟨a161, e0, hh⟩ := hx
      unfold STEPR
      rw [O_law07_ClockMore_1_9 ⟨hr.at (hp 8 (by rw [show preds (opN (opsAt (sub (bodyOf Try.f6) [1, 1, 1, 0])) 9) = [8] by kernel_rfl]; simp)) (by kernel_rfl) e0, trivial⟩]
      exact hh
    · have hx := h10 L ρ s hΦ hk (hp 6 (by rw [show preds (opN (opsAt (sub (bodyOf Try.f6) [1, 1, 1, 0])) 10) = [7, 9, 6] by kernel_rfl]; simp)) (hp 7 (by rw [show preds (opN (opsAt (sub (bodyOf Try.f6) [1, 1, 1, 0])) 10) = [7, 9, 6] by kernel_rfl]; simp)) (hp 9 (by rw [show preds (opN (opsAt (sub (bodyOf Try.f6) [1, 1, 1, 0])) 10) = [7, 9, 6] by kernel_rfl]; simp))
      obtain ⟨x165, l166, c167, x168, l169, c170, e0, e1, hh⟩ := hx
      unfold STEPR
      rw [O_law07_ClockMore_1_10 ⟨hr.at (hp 7 (by rw [show preds (opN (opsAt (sub (bodyOf Try.f6) [1, 1, 1, 0])) 10) = [7, 9, 6] by kernel_rfl]; simp)) (by kernel_rfl) e0, hr.at (hp 9 (by rw [show preds (opN (opsAt (sub (bodyOf Try.f6) [1, 1, 1, 0])) 10) = [7, 9, 6] by kernel_rfl]; simp)) (by kernel_rfl) e1, trivial⟩]
      exact hh
    · have hx := h11 L ρ s hΦ hk
      have hh := hx
      unfold STEPR
      rw [O_law07_ClockMore_1_11 ⟨hr.base 6 rfl rfl (by kernel_rfl), trivial⟩]
      exact hh
    · have hx := h12 L ρ s hΦ hk (hp 11 (by rw [show preds (opN (opsAt (sub (bodyOf Try.f6) [1, 1, 1, 0])) 12) = [11] by kernel_rfl]; simp))
      obtain ⟨n178, n179, n180, n181, e0, hh⟩ := hx
      unfold STEPR
      rw [O_law07_ClockMore_1_12 ⟨hr.at (hp 11 (by rw [show preds (opN (opsAt (sub (bodyOf Try.f6) [1, 1, 1, 0])) 12) = [11] by kernel_rfl]; simp)) (by kernel_rfl) e0, trivial⟩]
      exact hh
    · have hx := h13 L ρ s hΦ hk (hp 10 (by rw [show preds (opN (opsAt (sub (bodyOf Try.f6) [1, 1, 1, 0])) 13) = [10, 12, 10] by kernel_rfl]; simp)) (hp 12 (by rw [show preds (opN (opsAt (sub (bodyOf Try.f6) [1, 1, 1, 0])) 13) = [10, 12, 10] by kernel_rfl]; simp))
      obtain ⟨x183, l184, c185, x186, l187, c188, e0, e1, hh⟩ := hx
      unfold STEPR
      rw [O_law07_ClockMore_1_13 ⟨hr.at (hp 10 (by rw [show preds (opN (opsAt (sub (bodyOf Try.f6) [1, 1, 1, 0])) 13) = [10, 12, 10] by kernel_rfl]; simp)) (by kernel_rfl) e0, hr.at (hp 12 (by rw [show preds (opN (opsAt (sub (bodyOf Try.f6) [1, 1, 1, 0])) 13) = [10, 12, 10] by kernel_rfl]; simp)) (by kernel_rfl) e1, trivial⟩]
      exact hh
    · have hx := h14 L ρ s hΦ hk (hp 0 (by rw [show preds (opN (opsAt (sub (bodyOf Try.f6) [1, 1, 1, 0])) 14) = [0, 1, 2, 3, 4, 5, 6] by kernel_rfl]; simp)) (hp 1 (by rw [show preds (opN (opsAt (sub (bodyOf Try.f6) [1, 1, 1, 0])) 14) = [0, 1, 2, 3, 4, 5, 6] by kernel_rfl]; simp)) (hp 2 (by rw [show preds (opN (opsAt (sub (bodyOf Try.f6) [1, 1, 1, 0])) 14) = [0, 1, 2, 3, 4, 5, 6] by kernel_rfl]; simp)) (hp 3 (by rw [show preds (opN (opsAt (sub (bodyOf Try.f6) [1, 1, 1, 0])) 14) = [0, 1, 2, 3, 4, 5, 6] by kernel_rfl]; simp)) (hp 4 (by rw [show preds (opN (opsAt (sub (bodyOf Try.f6) [1, 1, 1, 0])) 14) = [0, 1, 2, 3, 4, 5, 6] by kernel_rfl]; simp)) (hp 5 (by rw [show preds (opN (opsAt (sub (bodyOf Try.f6) [1, 1, 1, 0])) 14) = [0, 1, 2, 3, 4, 5, 6] by kernel_rfl]; simp)) (hp 6 (by rw [show preds (opN (opsAt (sub (bodyOf Try.f6) [1, 1, 1, 0])) 14) = [0, 1, 2, 3, 4, 5, 6] by kernel_rfl]; simp))
      have hh := hx
      unfold STEPR
      rw [O_law07_ClockMore_1_14 ⟨hr.base 8 rfl rfl (by kernel_rfl), trivial⟩]
      exact hh
    · have hx := h15 L ρ s hΦ hk (hp 0 (by rw [show preds (opN (opsAt (sub (bodyOf Try.f6) [1, 1, 1, 0])) 15) = [14, 6, 13, 0, 1, 2, 3, 4, 5, 6] by kernel_rfl]; simp)) (hp 1 (by rw [show preds (opN (opsAt (sub (bodyOf Try.f6) [1, 1, 1, 0])) 15) = [14, 6, 13, 0, 1, 2, 3, 4, 5, 6] by kernel_rfl]; simp)) (hp 2 (by rw [show preds (opN (opsAt (sub (bodyOf Try.f6) [1, 1, 1, 0])) 15) = [14, 6, 13, 0, 1, 2, 3, 4, 5, 6] by kernel_rfl]; simp)) (hp 3 (by rw [show preds (opN (opsAt (sub (bodyOf Try.f6) [1, 1, 1, 0])) 15) = [14, 6, 13, 0, 1, 2, 3, 4, 5, 6] by kernel_rfl]; simp)) (hp 4 (by rw [show preds (opN (opsAt (sub (bodyOf Try.f6) [1, 1, 1, 0])) 15) = [14, 6, 13, 0, 1, 2, 3, 4, 5, 6] by kernel_rfl]; simp)) (hp 5 (by rw [show preds (opN (opsAt (sub (bodyOf Try.f6) [1, 1, 1, 0])) 15) = [14, 6, 13, 0, 1, 2, 3, 4, 5, 6] by kernel_rfl]; simp)) (hp 6 (by rw [show preds (opN (opsAt (sub (bodyOf Try.f6) [1, 1, 1, 0])) 15) = [14, 6, 13, 0, 1, 2, 3, 4, 5, 6] by kernel_rfl]; simp)) (hp 13 (by rw [show preds (opN (opsAt (sub (bodyOf Try.f6) [1, 1, 1, 0])) 15) = [14, 6, 13, 0, 1, 2, 3, 4, 5, 6] by kernel_rfl]; simp)) (hp 14 (by rw [show preds (opN (opsAt (sub (bodyOf Try.f6) [1, 1, 1, 0])) 15) = [14, 6, 13, 0, 1, 2, 3, 4, 5, 6] by kernel_rfl]; simp))
      obtain ⟨x192, l193, c194, a195, e0, e1, hh⟩ := hx
      unfold STEPR
      rw [O_law07_ClockMore_1_15 ⟨hr.at (hp 6 (by rw [show preds (opN (opsAt (sub (bodyOf Try.f6) [1, 1, 1, 0])) 15) = [14, 6, 13, 0, 1, 2, 3, 4, 5, 6] by kernel_rfl]; simp)) (by kernel_rfl) e0, hr.at (hp 14 (by rw [show preds (opN (opsAt (sub (bodyOf Try.f6) [1, 1, 1, 0])) 15) = [14, 6, 13, 0, 1, 2, 3, 4, 5, 6] by kernel_rfl]; simp)) (by kernel_rfl) e1, trivial⟩]
      exact hh
    · have hx := h16 L ρ s hΦ hk (hp 0 (by rw [show preds (opN (opsAt (sub (bodyOf Try.f6) [1, 1, 1, 0])) 16) = [0, 1, 2, 3, 4, 5, 6, 7, 8, 9, 10, 11, 12, 13, 14, 15] by kernel_rfl]; simp)) (hp 1 (by rw [show preds (opN (opsAt (sub (bodyOf Try.f6) [1, 1, 1, 0])) 16) = [0, 1, 2, 3, 4, 5, 6, 7, 8, 9, 10, 11, 12, 13, 14, 15] by kernel_rfl]; simp)) (hp 2 (by rw [show preds (opN (opsAt (sub (bodyOf Try.f6) [1, 1, 1, 0])) 16) = [0, 1, 2, 3, 4, 5, 6, 7, 8, 9, 10, 11, 12, 13, 14, 15] by kernel_rfl]; simp)) (hp 3 (by rw [show preds (opN (opsAt (sub (bodyOf Try.f6) [1, 1, 1, 0])) 16) = [0, 1, 2, 3, 4, 5, 6, 7, 8, 9, 10, 11, 12, 13, 14, 15] by kernel_rfl]; simp)) (hp 4 (by rw [show preds (opN (opsAt (sub (bodyOf Try.f6) [1, 1, 1, 0])) 16) = [0, 1, 2, 3, 4, 5, 6, 7, 8, 9, 10, 11, 12, 13, 14, 15] by kernel_rfl]; simp)) (hp 5 (by rw [show preds (opN (opsAt (sub (bodyOf Try.f6) [1, 1, 1, 0])) 16) = [0, 1, 2, 3, 4, 5, 6, 7, 8, 9, 10, 11, 12, 13, 14, 15] by kernel_rfl]; simp)) (hp 6 (by rw [show preds (opN (opsAt (sub (bodyOf Try.f6) [1, 1, 1, 0])) 16) = [0, 1, 2, 3, 4, 5, 6, 7, 8, 9, 10, 11, 12, 13, 14, 15] by kernel_rfl]; simp)) (hp 7 (by rw [show preds (opN (opsAt (sub (bodyOf Try.f6) [1, 1, 1, 0])) 16) = [0, 1, 2, 3, 4, 5, 6, 7, 8, 9, 10, 11, 12, 13, 14, 15] by kernel_rfl]; simp)) (hp 8 (by rw [show preds (opN (opsAt (sub (bodyOf Try.f6) [1, 1, 1, 0])) 16) = [0, 1, 2, 3, 4, 5, 6, 7, 8, 9, 10, 11, 12, 13, 14, 15] by kernel_rfl]; simp)) (hp 9 (by rw [show preds (opN (opsAt (sub (bodyOf Try.f6) [1, 1, 1, 0])) 16) = [0, 1, 2, 3, 4, 5, 6, 7, 8, 9, 10, 11, 12, 13, 14, 15] by kernel_rfl]; simp)) (hp 10 (by rw [show preds (opN (opsAt (sub (bodyOf Try.f6) [1, 1, 1, 0])) 16) = [0, 1, 2, 3, 4, 5, 6, 7, 8, 9, 10, 11, 12, 13, 14, 15] by kernel_rfl]; simp)) (hp 11 (by rw [show preds (opN (opsAt (sub (bodyOf Try.f6) [1, 1, 1, 0])) 16) = [0, 1, 2, 3, 4, 5, 6, 7, 8, 9, 10, 11, 12, 13, 14, 15] by kernel_rfl]; simp)) (hp 12 (by rw [show preds (opN (opsAt (sub (bodyOf Try.f6) [1, 1, 1, 0])) 16) = [0, 1, 2, 3, 4, 5, 6, 7, 8, 9, 10, 11, 12, 13, 14, 15] by kernel_rfl]; simp)) (hp 13 (by rw [show preds (opN (opsAt (sub (bodyOf Try.f6) [1, 1, 1, 0])) 16) = [0, 1, 2, 3, 4, 5, 6, 7, 8, 9, 10, 11, 12, 13, 14, 15] by kernel_rfl]; simp)) (hp 14 (by rw [show preds (opN (opsAt (sub (bodyOf Try.f6) [1, 1, 1, 0])) 16) = [0, 1, 2, 3, 4, 5, 6, 7, 8, 9, 10, 11, 12, 13, 14, 15] by kernel_rfl]; simp)) (hp 15 (by rw [show preds (opN (opsAt (sub (bodyOf Try.f6) [1, 1, 1, 0])) 16) = [0, 1, 2, 3, 4, 5, 6, 7, 8, 9, 10, 11, 12, 13, 14, 15] by kernel_rfl]; simp))
      have hh := hx
      unfold STEPR
      rw [O_law07_ClockMore_1_16 ⟨hr.base 9 rfl rfl (by kernel_rfl), trivial⟩]
      exact hh
    · have hx := h17 L ρ s hΦ hk (hp 0 (by rw [show preds (opN (opsAt (sub (bodyOf Try.f6) [1, 1, 1, 0])) 17) = [16, 13, 15, 0, 1, 2, 3, 4, 5, 6, 7, 8, 9, 10, 11, 12, 13, 14, 15] by kernel_rfl]; simp)) (hp 1 (by rw [show preds (opN (opsAt (sub (bodyOf Try.f6) [1, 1, 1, 0])) 17) = [16, 13, 15, 0, 1, 2, 3, 4, 5, 6, 7, 8, 9, 10, 11, 12, 13, 14, 15] by kernel_rfl]; simp)) (hp 2 (by rw [show preds (opN (opsAt (sub (bodyOf Try.f6) [1, 1, 1, 0])) 17) = [16, 13, 15, 0, 1, 2, 3, 4, 5, 6, 7, 8, 9, 10, 11, 12, 13, 14, 15] by kernel_rfl]; simp)) (hp 3 (by rw [show preds (opN (opsAt (sub (bodyOf Try.f6) [1, 1, 1, 0])) 17) = [16, 13, 15, 0, 1, 2, 3, 4, 5, 6, 7, 8, 9, 10, 11, 12, 13, 14, 15] by kernel_rfl]; simp)) (hp 4 (by rw [show preds (opN (opsAt (sub (bodyOf Try.f6) [1, 1, 1, 0])) 17) = [16, 13, 15, 0, 1, 2, 3, 4, 5, 6, 7, 8, 9, 10, 11, 12, 13, 14, 15] by kernel_rfl]; simp)) (hp 5 (by rw [show preds (opN (opsAt (sub (bodyOf Try.f6) [1, 1, 1, 0])) 17) = [16, 13, 15, 0, 1, 2, 3, 4, 5, 6, 7, 8, 9, 10, 11, 12, 13, 14, 15] by kernel_rfl]; simp)) (hp 6 (by rw [show preds (opN (opsAt (sub (bodyOf Try.f6) [1, 1, 1, 0])) 17) = [16, 13, 15, 0, 1, 2, 3, 4, 5, 6, 7, 8, 9, 10, 11, 12, 13, 14, 15] by kernel_rfl]; simp)) (hp 7 (by rw [show preds (opN (opsAt (sub (bodyOf Try.f6) [1, 1, 1, 0])) 17) = [16, 13, 15, 0, 1, 2, 3, 4, 5, 6, 7, 8, 9, 10, 11, 12, 13, 14, 15] by kernel_rfl]; simp)) (hp 8 (by rw [show preds (opN (opsAt (sub (bodyOf Try.f6) [1, 1, 1, 0])) 17) = [16, 13, 15, 0, 1, 2, 3, 4, 5, 6, 7, 8, 9, 10, 11, 12, 13, 14, 15] by kernel_rfl]; simp)) (hp 9 (by rw [show preds (opN (opsAt (sub (bodyOf Try.f6) [1, 1, 1, 0])) 17) = [16, 13, 15, 0, 1, 2, 3, 4, 5, 6, 7, 8, 9, 10, 11, 12, 13, 14, 15] by kernel_rfl]; simp)) (hp 10 (by rw [show preds (opN (opsAt (sub (bodyOf Try.f6) [1, 1, 1, 0])) 17) = [16, 13, 15, 0, 1, 2, 3, 4, 5, 6, 7, 8, 9, 10, 11, 12, 13, 14, 15] by kernel_rfl]; simp)) (hp 11 (by rw [show preds (opN (opsAt (sub (bodyOf Try.f6) [1, 1, 1, 0])) 17) = [16, 13, 15, 0, 1, 2, 3, 4, 5, 6, 7, 8, 9, 10, 11, 12, 13, 14, 15] by kernel_rfl]; simp)) (hp 12 (by rw [show preds (opN (opsAt (sub (bodyOf Try.f6) [1, 1, 1, 0])) 17) = [16, 13, 15, 0, 1, 2, 3, 4, 5, 6, 7, 8, 9, 10, 11, 12, 13, 14, 15] by kernel_rfl]; simp)) (hp 13 (by rw [show preds (opN (opsAt (sub (bodyOf Try.f6) [1, 1, 1, 0])) 17) = [16, 13, 15, 0, 1, 2, 3, 4, 5, 6, 7, 8, 9, 10, 11, 12, 13, 14, 15] by kernel_rfl]; simp)) (hp 14 (by rw [show preds (opN (opsAt (sub (bodyOf Try.f6) [1, 1, 1, 0])) 17) = [16, 13, 15, 0, 1, 2, 3, 4, 5, 6, 7, 8, 9, 10, 11, 12, 13, 14, 15] by kernel_rfl]; simp)) (hp 15 (by rw [show preds (opN (opsAt (sub (bodyOf Try.f6) [1, 1, 1, 0])) 17) = [16, 13, 15, 0, 1, 2, 3, 4, 5, 6, 7, 8, 9, 10, 11, 12, 13, 14, 15] by kernel_rfl]; simp)) (hp 16 (by rw [show preds (opN (opsAt (sub (bodyOf Try.f6) [1, 1, 1, 0])) 17) = [16, 13, 15, 0, 1, 2, 3, 4, 5, 6, 7, 8, 9, 10, 11, 12, 13, 14, 15] by kernel_rfl]; simp))
      obtain ⟨x196, l197, c198, a199, e0, e1, hh⟩ := hx
      unfold STEPR
      rw [O_law07_ClockMore_1_17 ⟨hr.at (hp 13 (by rw [show preds (opN (opsAt (sub (bodyOf Try.f6) [1, 1, 1, 0])) 17) = [16, 13, 15, 0, 1, 2, 3, 4, 5, 6, 7, 8, 9, 10, 11, 12, 13, 14, 15] by kernel_rfl]; simp)) (by kernel_rfl) e0, hr.at (hp 16 (by rw [show preds (opN (opsAt (sub (bodyOf Try.f6) [1, 1, 1, 0])) 17) = [16, 13, 15, 0, 1, 2, 3, 4, 5, 6, 7, 8, 9, 10, 11, 12, 13, 14, 15] by kernel_rfl]; simp)) (by kernel_rfl) e1, trivial⟩]
      exact hh
  · intro q hq0 hlo L t ρ s hr hΦ hc hq hno
    rcases (show q = 0 ∨ q = 1 ∨ q = 2 ∨ q = 3 ∨ q = 4 ∨ q = 5 ∨ q = 6 ∨ q = 7 ∨ q = 8 ∨ q = 9 ∨ q = 10 ∨ q = 11 ∨ q = 12 ∨ q = 13 ∨ q = 14 ∨ q = 15 ∨ q = 16 ∨ q = 17 by omega) with rfl | rfl | rfl | rfl | rfl | rfl | rfl | rfl | rfl | rfl | rfl | rfl | rfl | rfl | rfl | rfl | rfl | rfl
    · exact absurd hlo (by rw [show isLoad (opN (opsAt (sub (bodyOf Try.f6) [1, 1, 1, 0])) 0) = false by kernel_rfl]; simp)
    · exact absurd hlo (by rw [show isLoad (opN (opsAt (sub (bodyOf Try.f6) [1, 1, 1, 0])) 1) = false by kernel_rfl]; simp)
    · have hx := l2 L ρ s hΦ hq (hc 2 hq 1 (by rw [show preds (opN (opsAt (sub (bodyOf Try.f6) [1, 1, 1, 0])) 2) = [1] by kernel_rfl]; simp)) (fun hm => absurd (hno 3 hm (by kernel_rfl)) (by rw [show bit ((masks (opsAt (sub (bodyOf Try.f6) [1, 1, 1, 0])) []).getD 3 0) 2 = true by kernel_rfl]; simp)) (fun hm => absurd (hno 6 hm (by kernel_rfl)) (by rw [show bit ((masks (opsAt (sub (bodyOf Try.f6) [1, 1, 1, 0])) []).getD 6 0) 2 = true by kernel_rfl]; simp)) (fun hm => absurd (hno 10 hm (by kernel_rfl)) (by rw [show bit ((masks (opsAt (sub (bodyOf Try.f6) [1, 1, 1, 0])) []).getD 10 0) 2 = true by kernel_rfl]; simp)) (fun hm => absurd (hno 13 hm (by kernel_rfl)) (by rw [show bit ((masks (opsAt (sub (bodyOf Try.f6) [1, 1, 1, 0])) []).getD 13 0) 2 = true by kernel_rfl]; simp)) (fun hm => absurd (hno 15 hm (by kernel_rfl)) (by rw [show bit ((masks (opsAt (sub (bodyOf Try.f6) [1, 1, 1, 0])) []).getD 15 0) 2 = true by kernel_rfl]; simp)) (fun hm => absurd (hno 17 hm (by kernel_rfl)) (by rw [show bit ((masks (opsAt (sub (bodyOf Try.f6) [1, 1, 1, 0])) []).getD 17 0) 2 = true by kernel_rfl]; simp))
      obtain ⟨a131, e0, hh⟩ := hx
      rw [O_law07_ClockMore_1_2 ⟨hr.at (hc 2 hq 1 (by rw [show preds (opN (opsAt (sub (bodyOf Try.f6) [1, 1, 1, 0])) 2) = [1] by kernel_rfl]; simp)) (by kernel_rfl) e0, trivial⟩]
      exact hh
    · exact absurd hlo (by rw [show isLoad (opN (opsAt (sub (bodyOf Try.f6) [1, 1, 1, 0])) 3) = false by kernel_rfl]; simp)
    · have hx := l4 L ρ s hΦ hq (fun hm => absurd (hno 5 hm (by kernel_rfl)) (by rw [show bit ((masks (opsAt (sub (bodyOf Try.f6) [1, 1, 1, 0])) []).getD 5 0) 4 = true by kernel_rfl]; simp)) (fun hm => absurd (hno 6 hm (by kernel_rfl)) (by rw [show bit ((masks (opsAt (sub (bodyOf Try.f6) [1, 1, 1, 0])) []).getD 6 0) 4 = true by kernel_rfl]; simp)) (fun hm => absurd (hno 10 hm (by kernel_rfl)) (by rw [show bit ((masks (opsAt (sub (bodyOf Try.f6) [1, 1, 1, 0])) []).getD 10 0) 4 = true by kernel_rfl]; simp)) (fun hm => absurd (hno 13 hm (by kernel_rfl)) (by rw [show bit ((masks (opsAt (sub (bodyOf Try.f6) [1, 1, 1, 0])) []).getD 13 0) 4 = true by kernel_rfl]; simp)) (fun hm => absurd (hno 15 hm (by kernel_rfl)) (by rw [show bit ((masks (opsAt (sub (bodyOf Try.f6) [1, 1, 1, 0])) []).getD 15 0) 4 = true by kernel_rfl]; simp)) (fun hm => absurd (hno 17 hm (by kernel_rfl)) (by rw [show bit ((masks (opsAt (sub (bodyOf Try.f6) [1, 1, 1, 0])) []).getD 17 0) 4 = true by kernel_rfl]; simp))
      have hh := hx
      rw [O_law07_ClockMore_1_4 ⟨hr.base 5 rfl rfl (by kernel_rfl), trivial⟩]
      exact hh
    · exact absurd hlo (by rw [show isLoad (opN (opsAt (sub (bodyOf Try.f6) [1, 1, 1, 0])) 5) = false by kernel_rfl]; simp)
    · exact absurd hlo (by rw [show isLoad (opN (opsAt (sub (bodyOf Try.f6) [1, 1, 1, 0])) 6) = false by kernel_rfl]; simp)
    · exact absurd hlo (by rw [show isLoad (opN (opsAt (sub (bodyOf Try.f6) [1, 1, 1, 0])) 7) = false by kernel_rfl]; simp)
    · exact absurd hlo (by rw [show isLoad (opN (opsAt (sub (bodyOf Try.f6) [1, 1, 1, 0])) 8) = false by kernel_rfl]; simp)
    · have hx := l9 L ρ s hΦ hq (hc 9 hq 8 (by rw [show preds (opN (opsAt (sub (bodyOf Try.f6) [1, 1, 1, 0])) 9) = [8] by kernel_rfl]; simp)) (fun hm => absurd (hno 10 hm (by kernel_rfl)) (by rw [show bit ((masks (opsAt (sub (bodyOf Try.f6) [1, 1, 1, 0])) []).getD 10 0) 9 = true by kernel_rfl]; simp)) (fun hm => absurd (hno 13 hm (by kernel_rfl)) (by rw [show bit ((masks (opsAt (sub (bodyOf Try.f6) [1, 1, 1, 0])) []).getD 13 0) 9 = true by kernel_rfl]; simp)) (fun hm => absurd (hno 15 hm (by kernel_rfl)) (by rw [show bit ((masks (opsAt (sub (bodyOf Try.f6) [1, 1, 1, 0])) []).getD 15 0) 9 = true by kernel_rfl]; simp)) (fun hm => absurd (hno 17 hm (by kernel_rfl)) (by rw [show bit ((masks (opsAt (sub (bodyOf Try.f6) [1, 1, 1, 0])) []).getD 17 0) 9 = true by kernel_rfl]; simp))
      obtain ⟨a161, e0, hh⟩ := hx
      rw [O_law07_ClockMore_1_9 ⟨hr.at (hc 9 hq 8 (by rw [show preds (opN (opsAt (sub (bodyOf Try.f6) [1, 1, 1, 0])) 9) = [8] by kernel_rfl]; simp)) (by kernel_rfl) e0, trivial⟩]
      exact hh
    · exact absurd hlo (by rw [show isLoad (opN (opsAt (sub (bodyOf Try.f6) [1, 1, 1, 0])) 10) = false by kernel_rfl]; simp)
    · have hx := l11 L ρ s hΦ hq (fun hm => absurd (hno 12 hm (by kernel_rfl)) (by rw [show bit ((masks (opsAt (sub (bodyOf Try.f6) [1, 1, 1, 0])) []).getD 12 0) 11 = true by kernel_rfl]; simp)) (fun hm => absurd (hno 13 hm (by kernel_rfl)) (by rw [show bit ((masks (opsAt (sub (bodyOf Try.f6) [1, 1, 1, 0])) []).getD 13 0) 11 = true by kernel_rfl]; simp)) (fun hm => absurd (hno 15 hm (by kernel_rfl)) (by rw [show bit ((masks (opsAt (sub (bodyOf Try.f6) [1, 1, 1, 0])) []).getD 15 0) 11 = true by kernel_rfl]; simp)) (fun hm => absurd (hno 17 hm (by kernel_rfl)) (by rw [show bit ((masks (opsAt (sub (bodyOf Try.f6) [1, 1, 1, 0])) []).getD 17 0) 11 = true by kernel_rfl]; simp))
      have hh := hx
      rw [O_law07_ClockMore_1_11 ⟨hr.base 6 rfl rfl (by kernel_rfl), trivial⟩]
      exact hh
    · exact absurd hlo (by rw [show isLoad (opN (opsAt (sub (bodyOf Try.f6) [1, 1, 1, 0])) 12) = false by kernel_rfl]; simp)
    · exact absurd hlo (by rw [show isLoad (opN (opsAt (sub (bodyOf Try.f6) [1, 1, 1, 0])) 13) = false by kernel_rfl]; simp)
    · exact absurd hlo (by rw [show isLoad (opN (opsAt (sub (bodyOf Try.f6) [1, 1, 1, 0])) 14) = false by kernel_rfl]; simp)
    · exact absurd hlo (by rw [show isLoad (opN (opsAt (sub (bodyOf Try.f6) [1, 1, 1, 0])) 15) = false by kernel_rfl]; simp)
    · exact absurd hlo (by rw [show isLoad (opN (opsAt (sub (bodyOf Try.f6) [1, 1, 1, 0])) 16) = false by kernel_rfl]; simp)
    · exact absurd hlo (by rw [show isLoad (opN (opsAt (sub (bodyOf Try.f6) [1, 1, 1, 0])) 17) = false by kernel_rfl]; simp)
  · intro L t ρ s hr hΦ hall
    have hx := hf L ρ s hΦ hall
    have hh := hx
    rw [A_law07_ClockMore_1_eq W R zn0 zn1 zn2 zn3 za4 za5 za6 za7 za8 za9 ⟨hr.base 0 rfl rfl (by kernel_rfl), hr.base 1 rfl rfl (by kernel_rfl), hr.base 2 rfl rfl (by kernel_rfl), hr.base 3 rfl rfl (by kernel_rfl), hr.base 4 rfl rfl (by kernel_rfl), hr.base 7 rfl rfl (by kernel_rfl), hr.base 8 rfl rfl (by kernel_rfl), hr.base 9 rfl rfl (by kernel_rfl), hr.base 10 rfl rfl (by kernel_rfl), hr.base 11 rfl rfl (by kernel_rfl), trivial⟩]
    exact hh
def T_law07_ClockMore (W : World) (x1 : Option Addr) (l2 : Nat) (c3 : Nat) (n4 : Int) (x5 : Option Addr) (l6 : Nat) (c7 : Nat) (x8 : Option Addr) (l9 : Nat) (c10 : Nat) (n11 : Int) (n12 : Int) (n13 : Int) (n14 : Int) (n15 : Int) (n16 : Int) (n17 : Int) (n18 : Int) (n19 : Int) (n20 : Int) (n21 : Int) (R : Ending → Hp → Prop) : Hp → Prop :=
 NEW 26 [(.slice x1 l2 c3), (.int .i64 n4), (.slice x5 l6 c7), (.slice x8 l9 c10)] fun B22 =>
 NEW 61 [(.int .i64 n11), (.int .i64 n12), (.int .i64 n13)] fun B23 =>
 NEW 63 [(.int .i64 n14), (.int .i64 n15), (.int .i64 n16), (.int .i64 n17)] fun B24 =>
 RDL (Addr.add ⟨B22, 0, none⟩ 0) fun x25 l26 c27 =>
 RDI .i64 (Addr.add ⟨B22, 0, none⟩ 1) fun n28 =>
 RDL (Addr.add ⟨B22, 0, none⟩ 2) fun x29 l30 c31 =>
 RDL (Addr.add ⟨B22, 0, none⟩ 3) fun x32 l33 c34 =>
 CALL Pg W F_law07_heavy [(.agg #[(.slice x25 l26 c27), (.int .i64 n28), (.slice x29 l30 c31), (.slice x32 l33 c34)]), (.int .i64 60), (.int .i64 5)]
 (fun v35 => TYB v35 fun b37 =>
 BR b37
 (J_law07_ClockMore_0 W R true B22 n18 n19 n20 n21 B23 B24)
 (RDL (Addr.add ⟨B22, 0, none⟩ 0) fun x48 l49 c50 =>
 RDI .i64 (Addr.add ⟨B22, 0, none⟩ 1) fun n51 =>
 RDL (Addr.add ⟨B22, 0, none⟩ 2) fun x52 l53 c54 =>
 RDL (Addr.add ⟨B22, 0, none⟩ 3) fun x55 l56 c57 =>
 CALL Pg W F_ref07_Clock [(.agg #[(.slice x48 l49 c50), (.int .i64 n51), (.slice x52 l53 c54), (.slice x55 l56 c57)])]
 (fun v58 => TYB v58 fun b60 =>
 J_law07_ClockMore_0 W R (!b60) B22 n18 n19 n20 n21 B23 B24)
 (fun e59 => R (.panicked e59))))
 (fun e36 => R (.panicked e36))
theorem T_law07_ClockMore_eq (W : World) (x1 : Option Addr) (l2 : Nat) (c3 : Nat) (n4 : Int) (x5 : Option Addr) (l6 : Nat) (c7 : Nat) (x8 : Option Addr) (l9 : Nat) (c10 : Nat) (n11 : Int) (n12 : Int) (n13 : Int) (n14 : Int) (n15 : Int) (n16 : Int) (n17 : Int) (n18 : Int) (n19 : Int) (n20 : Int) (n21 : Int) (R : Ending → Hp → Prop) : vfun Pg W an_6 Try.f6 [(.agg #[(.slice x1 l2 c3), (.int .i64 n4), (.slice x5 l6 c7), (.slice x8 l9 c10)]), (.agg #[(.int .i64 n11), (.int .i64 n12), (.int .i64 n13)]), (.agg #[(.int .i64 n14), (.int .i64 n15), (.int .i64 n16), (.int .i64 n17)]), (.int .i64 n18), (.int .i64 n19), (.int .i64 n20), (.int .u8 n21)] R = T_law07_ClockMore W x1 l2 c3 n4 x5 l6 c7 x8 l9 c10 n11 n12 n13 n14 n15 n16 n17 n18 n19 n20 n21 R := by kernel_rfl
theorem does_law07_ClockMore (W : World) (x1 : Option Addr) (l2 : Nat) (c3 : Nat) (n4 : Int) (x5 : Option Addr) (l6 : Nat) (c7 : Nat) (x8 : Option Addr) (l9 : Nat) (c10 : Nat) (n11 : Int) (n12 : Int) (n13 : Int) (n14 : Int) (n15 : Int) (n16 : Int) (n17 : Int) (n18 : Int) (n19 : Int) (n20 : Int) (n21 : Int) (R : Ending → Hp → Prop) (s : Hp) (h : T_law07_ClockMore W x1 l2 c3 n4 x5 l6 c7 x8 l9 c10 n11 n12 n13 n14 n15 n16 n17 n18 n19 n20 n21 R s) : Does Pg W F_law07_ClockMore #[(.agg #[(.slice x1 l2 c3), (.int .i64 n4), (.slice x5 l6 c7), (.slice x8 l9 c10)]), (.agg #[(.int .i64 n11), (.int .i64 n12), (.int .i64 n13)]), (.agg #[(.int .i64 n14), (.int .i64 n15), (.int .i64 n16), (.int .i64 n17)]), (.int .i64 n18), (.int .i64 n19), (.int .i64 n20), (.int .u8 n21)] s R :=
  does_of_vfun Pg W an_6 Try.func6 rfl (by kernel_rfl) (by rw [T_law07_ClockMore_eq]; exact h)
def an_30 : Nat → Ann := fun b => match b with
 | _ => {}
abbrev rv_30 : List ResultVar := [.tmp 4]
abbrev rs_30 : List Nat := [17, 4]
def T_law07_ClockMore_c1 (W : World) (n1 : Int) (n2 : Int) (n3 : Int) (n4 : Int) (R : Ending → Hp → Prop) : Hp → Prop :=
 NEW 34 [(.int .i64 n1), (.int .i64 n2)] fun B5 =>
 NEW 34 [(.int .i64 n3), (.int .i64 n4)] fun B6 =>
 RDI .i64 (Addr.add ⟨B5, 0, none⟩ 0) fun n7 =>
 RDI .i64 (Addr.add ⟨B6, 0, none⟩ 0) fun n8 =>
 BR (decide (n7 ≥ n8))
 (RDI .i64 (Addr.add ⟨B5, 0, none⟩ 1) fun n9 =>
 RDI .i64 (Addr.add ⟨B6, 0, none⟩ 1) fun n10 =>
 R (.returned (.bool (decide (n9 ≤ n10)))))
 (R (.returned (.bool false)))
theorem T_law07_ClockMore_c1_eq (W : World) (n1 : Int) (n2 : Int) (n3 : Int) (n4 : Int) (R : Ending → Hp → Prop) : vfun Pg W an_30 Try.f30 [(.agg #[(.int .i64 n1), (.int .i64 n2)]), (.agg #[(.int .i64 n3), (.int .i64 n4)])] R = T_law07_ClockMore_c1 W n1 n2 n3 n4 R := by kernel_rfl
theorem does_law07_ClockMore_c1 (W : World) (n1 : Int) (n2 : Int) (n3 : Int) (n4 : Int) (R : Ending → Hp → Prop) (s : Hp) (h : T_law07_ClockMore_c1 W n1 n2 n3 n4 R s) : Does Pg W F_law07_ClockMore_c1 #[(.agg #[(.int .i64 n1), (.int .i64 n2)]), (.agg #[(.int .i64 n3), (.int .i64 n4)])] s R :=
  does_of_vfun Pg W an_30 Try.func30 rfl (by kernel_rfl) (by rw [T_law07_ClockMore_c1_eq]; exact h)
end Go.Proofs.Ytknpmijgdfeliaa.G

/- Clock: ClockMore: three copies of a clock. -/
set_option linter.unusedSimpArgs false
set_option linter.unusedVariables false
set_option maxRecDepth 20000
namespace Go.Proofs.Ytknpmijgdfeliaa.G
open Go.V
section
variable {W : World} {K : VK} {E : List PanicEntry → Hp → Prop} {s : Hp}
/-- What stands from the begin on: the clock, the reading, and the link. -/
structure TM (s : Hp) (c : Clk) (x y z : Option Addr) (c1 c2 c3 : Nat) (r : Rd) (l : Lk) (cb : Nat) (t : Hp) : Prop where
  ext : Ext s t
  lt : s.size ≤ cb ∧ cb + 2 < t.size
  o0 : Own t ⟨cb, 0, none⟩ (.slice x c.ws.length c1)
  o1 : Own t ⟨cb, 1, none⟩ (.int .i64 c.n)
  o2 : Own t ⟨cb, 2, none⟩ (.slice y c.rs.length c2)
  o3 : Own t ⟨cb, 3, none⟩ (.slice z c.ls.length c3)
  r0 : Own t ⟨cb + 1, 0, none⟩ (.int .i64 r.ev)
  r1 : Own t ⟨cb + 1, 1, none⟩ (.int .i64 r.wa)
  r2 : Own t ⟨cb + 1, 2, none⟩ (.int .i64 r.sh)
  l0 : Own t ⟨cb + 2, 0, none⟩ (.int .i64 l.a)
  l1 : Own t ⟨cb + 2, 1, none⟩ (.int .i64 l.b)
  l2 : Own t ⟨cb + 2, 2, none⟩ (.int .i64 l.lo)
  l3 : Own t ⟨cb + 2, 3, none⟩ (.int .i64 l.hi)
variable {c : Clk} {x y z : Option Addr} {c1 c2 c3 cb : Nat} {r : Rd} {l : Lk} {a0 b0 w0 : Int} {by' : Int}
theorem TM.keep {D : Nat → Prop} {t t' : Hp} (h : TM s c x y z c1 c2 c3 r l cb t) (k : Kp D t t') (hd : ∀ d, D d → cb + 2 < d) : TM s c x y z c1 c2 c3 r l cb t' := by
  obtain ⟨l1, l2⟩ := h.lt
  have hn : ∀ b, b ≤ cb + 2 → ¬ D b := fun b hb hD => by have := hd b hD; omega
  have n0 : ¬ D cb := hn cb (by omega)
  have n1 : ¬ D (cb + 1) := hn _ (by omega)
  have n2 : ¬ D (cb + 2) := hn _ (by omega)
  exact ⟨kp_nil h.ext (fun b hb => by have := hd b hb; omega) k, ⟨l1, Nat.lt_of_lt_of_le l2 k.1⟩, k.own n0 h.o0, k.own n0 h.o1, k.own n0 h.o2, k.own n0 h.o3, k.own n1 h.r0, k.own n1 h.r1, k.own n1 h.r2, k.own n2 h.l0, k.own n2 h.l1, k.own n2 h.l2, k.own n2 h.l3⟩
theorem TM.extk {t t' : Hp} (h : TM s c x y z c1 c2 c3 r l cb t) (e : Ext t t') : TM s c x y z c1 c2 c3 r l cb t' := h.keep (D := fun _ => False) e.kp fun _ h => h.elim
/-- Four cells, and what they hold. -/
def C4 (t : Hp) (b : Nat) (v0 v1 v2 v3 : Value) : Prop := Own t ⟨b, 0, none⟩ v0 ∧ Own t ⟨b, 1, none⟩ v1 ∧ Own t ⟨b, 2, none⟩ v2 ∧ Own t ⟨b, 3, none⟩ v3
theorem C4.kp {D : Nat → Prop} {t t' : Hp} {b : Nat} {v0 v1 v2 v3 : Value} (h : C4 t b v0 v1 v2 v3) (k : Kp D t t') (hd : ¬ D b) : C4 t' b v0 v1 v2 v3 := ⟨k.own hd h.1, k.own hd h.2.1, k.own hd h.2.2.1, k.own hd h.2.2.2⟩
theorem C4.ext {t t' : Hp} {b : Nat} {v0 v1 v2 v3 : Value} (h : C4 t b v0 v1 v2 v3) (e : Ext t t') : C4 t' b v0 v1 v2 v3 := h.kp (D := fun _ => False) e.kp fun h => h
theorem wr4 {t : Hp} {b : Nat} {u0 u1 u2 u3 v0 v1 v2 v3 : Value} {K : Hp → Prop} (h : C4 t b u0 u1 u2 u3) (h0 : oneCell v0 = true) (h1 : oneCell v1 = true) (h2 : oneCell v2 = true) (h3 : oneCell v3 = true) (hk : ∀ t', Kp (· = b) t t' → t'.size = t.size → C4 t' b v0 v1 v2 v3 → K t') :
    (WR (Addr.add ⟨b, 0, none⟩ 0) v0 <| WR (Addr.add ⟨b, 0, none⟩ 1) v1 <| WR (Addr.add ⟨b, 0, none⟩ 2) v2 <| WR (Addr.add ⟨b, 0, none⟩ 3) v3 <| K) t := by
  show wrN [_, _, _, _] ⟨b, 0, none⟩ 0 _ t
  refine wrN_rule _ _ 0 _ t (fun i hi => ?_) ?_ ?_
  · match i, hi with
    | 0, _ => exact ⟨_, h.1⟩
    | 1, _ => exact ⟨_, h.2.1⟩
    | 2, _ => exact ⟨_, h.2.2.1⟩
    | 3, _ => exact ⟨_, h.2.2.2⟩
  · intro w hw
    simp at hw
    rcases hw with rfl | rfl | rfl | rfl <;> assumption
  · intro u k zu ho _
    exact hk u k zu ⟨ho 0 (by simp), ho 1 (by simp), ho 2 (by simp), ho 3 (by simp)⟩
theorem mem_of' {k j : Nat} {L : List Nat} (h : j ∈ k :: L) (hne : j ≠ k) : j ∈ L := (List.mem_cons.1 h).resolve_left hne
abbrev CV4 (t : Hp) (b : Nat) (c : Clk) (x y z : Option Addr) (c1 c2 c3 : Nat) : Prop := C4 t b (.slice x c.ws.length c1) (.int .i64 c.n) (.slice y c.rs.length c2) (.slice z c.ls.length c3)
structure PT (s1 : Hp) (c : Clk) (x y z : Option Addr) (c1 c2 c3 : Nat) (L : List Nat) (ρ : Nat → Value) (t : Hp) : Prop where
  ext : Ext s1 t
  ld : ∀ k ∈ L, k < 3 → ρ k = clkV c x y z c1 c2 c3
  al : ∀ k ∈ L, 3 ≤ k → k < 6 → ∃ b, ρ k = .pointer (some ⟨b, 0, none⟩) ∧ s1.size ≤ b ∧ b < t.size ∧ ∃ u0 u1 u2 u3, C4 t b u0 u1 u2 u3
  st : ∀ k ∈ L, 6 ≤ k → k < 9 → k - 3 ∈ L ∧ ∃ b, ρ (k - 3) = .pointer (some ⟨b, 0, none⟩) ∧ CV4 t b c x y z c1 c2 c3
  dj : ∀ i ∈ L, ∀ j ∈ L, 3 ≤ i → i < 6 → 3 ≤ j → j < 6 → i ≠ j → ∀ b b', ρ i = .pointer (some ⟨b, 0, none⟩) → ρ j = .pointer (some ⟨b', 0, none⟩) → b ≠ b'
theorem PT.load {s1 t : Hp} {L : List Nat} {ρ : Nat → Value} (h : PT s1 c x y z c1 c2 c3 L ρ t) {k : Nat} (hk : k ∉ L) (h3 : k < 3) : PT s1 c x y z c1 c2 c3 (k :: L) (ru ρ k (clkV c x y z c1 c2 c3)) t := by
  have ne : ∀ j ∈ L, j ≠ k := fun j hj e => hk (e ▸ hj)
  refine ⟨h.ext, fun j hj hl => ?_, fun j hj g1 g2 => ?_, fun j hj g1 g2 => ?_, fun i hi j hj a1 a2 a3 a4 a5 b b' q1 q2 => ?_⟩
  · rcases List.mem_cons.1 hj with rfl | hj
    · exact ru_eq
    · rw [ru_ne (ne j hj)]; exact h.ld j hj hl
  · rw [ru_ne (by omega)]; exact h.al j (mem_of' hj (by omega)) g1 g2
  · obtain ⟨q0, q1⟩ := h.st j (mem_of' hj (by omega)) g1 g2
    rw [ru_ne (by omega)]; exact ⟨List.mem_cons_of_mem _ q0, q1⟩
  · rw [ru_ne (by omega)] at q1 q2
    exact h.dj i (mem_of' hi (by omega)) j (mem_of' hj (by omega)) a1 a2 a3 a4 a5 b b' q1 q2
theorem PT.alloc {s1 t : Hp} {L : List Nat} {ρ : Nat → Value} (h : PT s1 c x y z c1 c2 c3 L ρ t) {k : Nat} (hk : k ∉ L) (h3 : 3 ≤ k) (h6 : k < 6) : NEWZ Pg 26 (fun B => PT s1 c x y z c1 c2 c3 (k :: L) (ru ρ k (.pointer (some ⟨B, 0, none⟩)))) t := by
  refine nz4 zc_26 fun t' e sz o0 o1 o2 o3 => ?_
  have ne : ∀ j ∈ L, j ≠ k := fun j hj e => hk (e ▸ hj)
  have hs := h.ext.1
  refine ⟨h.ext.trans e, fun j hj hl => ?_, fun j hj g1 g2 => ?_, fun j hj g1 g2 => ?_, fun i hi j hj a1 a2 a3 a4 a5 b b' q1 q2 => ?_⟩
  · rw [ru_ne (by omega)]; exact h.ld j (mem_of' hj (by omega)) hl
  · rcases List.mem_cons.1 hj with rfl | hj
    · exact ⟨t.size, ru_eq, by omega, by omega, _, _, _, _, o0, o1, o2, o3⟩
    · obtain ⟨b, q1, q2, q3, u0, u1, u2, u3, q4⟩ := h.al j hj g1 g2
      rw [ru_ne (ne j hj)]
      exact ⟨b, q1, q2, by omega, u0, u1, u2, u3, q4.ext e⟩
  · have hj' := mem_of' hj (by omega)
    obtain ⟨q0, b, q1, q2⟩ := h.st j hj' g1 g2
    rw [ru_ne (fun e => hk (by rw [← e]; exact q0))]
    exact ⟨List.mem_cons_of_mem _ q0, b, q1, q2.ext e⟩
  · have key : ∀ j, j ∈ L → 3 ≤ j → j < 6 → ∀ b', ru ρ k (.pointer (some ⟨t.size, 0, none⟩)) j = .pointer (some ⟨b', 0, none⟩) → b' < t.size := fun j hj g1 g2 b' hb' => by
      rw [ru_ne (ne j hj)] at hb'
      obtain ⟨b2, q1, _, q3, _⟩ := h.al j hj g1 g2
      rw [hb'] at q1; cases q1; exact q3
    rcases List.mem_cons.1 hi with rfl | hi2
    · rw [ru_eq] at q1
      cases q1
      have := key j (mem_of' hj (Ne.symm a5)) a3 a4 b' q2
      omega
    · rcases List.mem_cons.1 hj with rfl | hj2
      · rw [ru_eq] at q2
        cases q2
        have := key i hi2 a1 a2 b q1
        omega
      · rw [ru_ne (ne i hi2)] at q1
        rw [ru_ne (ne j hj2)] at q2
        exact h.dj i hi2 j hj2 a1 a2 a3 a4 a5 b b' q1 q2
theorem PT.store {s1 t : Hp} {L : List Nat} {ρ : Nat → Value} {v : Value} (h : PT s1 c x y z c1 c2 c3 L ρ t) {k : Nat} (hk : k ∉ L) (h6 : 6 ≤ k) (h9 : k < 9) (hp : k - 3 ∈ L) : ∃ b, ρ (k - 3) = .pointer (some ⟨b, 0, none⟩) ∧
    (WR (Addr.add ⟨b, 0, none⟩ 0) (.slice x c.ws.length c1) <| WR (Addr.add ⟨b, 0, none⟩ 1) (.int .i64 c.n) <| WR (Addr.add ⟨b, 0, none⟩ 2) (.slice y c.rs.length c2) <| WR (Addr.add ⟨b, 0, none⟩ 3) (.slice z c.ls.length c3) <| PT s1 c x y z c1 c2 c3 (k :: L) (ru ρ k v)) t := by
  obtain ⟨b, q1, q2, q3, u0, u1, u2, u3, q4⟩ := h.al (k - 3) hp (by omega) (by omega)
  refine ⟨b, q1, wr4 q4 rfl rfl rfl rfl fun t' kt sz o => ?_⟩
  have ne : ∀ j ∈ L, j ≠ k := fun j hj e => hk (e ▸ hj)
  have djb : ∀ j ∈ L, 3 ≤ j → j < 6 → j ≠ k - 3 → ∀ b', ρ j = .pointer (some ⟨b', 0, none⟩) → ¬ b' = b := fun j hj g1 g2 g3 b' hb' e => h.dj j hj (k - 3) hp g1 g2 (by omega) (by omega) g3 b' b hb' q1 e
  refine ⟨kp_nil h.ext (fun d hd => by have : d = b := hd; omega) kt, fun j hj hl => ?_, fun j hj g1 g2 => ?_, fun j hj g1 g2 => ?_, fun i hi j hj a1 a2 a3 a4 a5 b1 b2 p1 p2 => ?_⟩
  · rw [ru_ne (by omega)]; exact h.ld j (mem_of' hj (by omega)) hl
  · have hj' := mem_of' hj (by omega)
    rw [ru_ne (by omega)]
    by_cases e : j = k - 3
    · subst e
      exact ⟨b, q1, q2, by omega, _, _, _, _, o⟩
    · obtain ⟨b', p1, p2, p3, w0, w1, w2, w3, p4⟩ := h.al j hj' g1 g2
      exact ⟨b', p1, p2, by omega, w0, w1, w2, w3, p4.kp kt (djb j hj' g1 g2 e b' p1)⟩
  · rcases List.mem_cons.1 hj with rfl | hj
    · rw [ru_ne (by omega)]
      exact ⟨List.mem_cons_of_mem _ hp, b, q1, o⟩
    · obtain ⟨p0, b', p1, p2⟩ := h.st j hj g1 g2
      rw [ru_ne (by omega)]
      by_cases e : j - 3 = k - 3
      · exact absurd (show j = k by omega) (ne j hj)
      · exact ⟨List.mem_cons_of_mem _ p0, b', p1, p2.kp kt (djb (j - 3) p0 (by omega) (by omega) e b' p1)⟩
  · rw [ru_ne (by omega)] at p1 p2
    exact h.dj i (mem_of' hi (by omega)) j (mem_of' hj (by omega)) a1 a2 a3 a4 a5 b1 b2 p1 p2
theorem more_copies {s1 : Hp} (h : TM s c x y z c1 c2 c3 r l cb s1)
    (hk : ∀ t b1 b2 b3, Ext s1 t → (s1.size ≤ b1 ∧ b1 < t.size) → (s1.size ≤ b2 ∧ b2 < t.size) → (s1.size ≤ b3 ∧ b3 < t.size) → b1 ≠ b2 → b1 ≠ b3 → b2 ≠ b3 → CV4 t b1 c x y z c1 c2 c3 → CV4 t b2 c x y z c1 c2 c3 → CV4 t b3 c x y z c1 c2 c3 → D_law07_ClockMore_1 W (endK K E) a0 b0 w0 by' ⟨cb, 0, none⟩ ⟨cb + 1, 0, none⟩ ⟨cb + 2, 0, none⟩ ⟨b1, 0, none⟩ ⟨b2, 0, none⟩ ⟨b3, 0, none⟩ t) :
    D_law07_ClockMore_0 W (endK K E) a0 b0 w0 by' ⟨cb, 0, none⟩ ⟨cb + 1, 0, none⟩ ⟨cb + 2, 0, none⟩ s1 := by
  have hX : ∀ t, Ext s1 t → TM s c x y z c1 c2 c3 r l cb t := fun t e => h.extk e
  have hld : ∀ {L ρ t} {K : Hp → Prop}, PT s1 c x y z c1 c2 c3 L ρ t → K t → (RDL (Addr.add ⟨cb, 0, none⟩ 0) fun x1 l1 d1 => RDI .i64 (Addr.add ⟨cb, 0, none⟩ 1) fun n => RDL (Addr.add ⟨cb, 0, none⟩ 2) fun x2 l2 d2 => RDL (Addr.add ⟨cb, 0, none⟩ 3) fun x3 l3 d3 => fun u => (.agg #[.slice x1 l1 d1, .int .i64 n, .slice x2 l2 d2, .slice x3 l3 d3] : Value) = clkV c x y z c1 c2 c3 ∧ K u) t := fun hp hk => by
    have hx := hX _ hp.ext
    exact ⟨_, _, _, hx.o0.cell, ⟨_, hx.o1.cell, ⟨_, _, _, hx.o2.cell, ⟨_, _, _, hx.o3.cell, rfl, hk⟩⟩⟩⟩
  refine D_law07_ClockMore_0_rule W _ a0 b0 w0 by' _ _ _ (PT s1 c x y z c1 c2 c3) (fun ρ => ⟨Ext.refl _, (fun k hk => by cases hk), (fun k hk => by cases hk), (fun k hk => by cases hk), (fun k hk => by cases hk)⟩) ?_ ?_ ?_ ?_ ?_ ?_ ?_ ?_ ?_ ?_ ?_ ?_ ?_
  · intro L ρ t hp h0
    have hx := hX t hp.ext
    exact ⟨_, _, _, hx.o0.cell, ⟨_, hx.o1.cell, ⟨_, _, _, hx.o2.cell, ⟨_, _, _, hx.o3.cell, hp.load h0 (by omega)⟩⟩⟩⟩
  · intro L ρ t hp h0
    have hx := hX t hp.ext
    exact ⟨_, _, _, hx.o0.cell, ⟨_, hx.o1.cell, ⟨_, _, _, hx.o2.cell, ⟨_, _, _, hx.o3.cell, hp.load h0 (by omega)⟩⟩⟩⟩
  · intro L ρ t hp h0
    have hx := hX t hp.ext
    exact ⟨_, _, _, hx.o0.cell, ⟨_, hx.o1.cell, ⟨_, _, _, hx.o2.cell, ⟨_, _, _, hx.o3.cell, hp.load h0 (by omega)⟩⟩⟩⟩
  · intro L ρ t hp h0; exact hp.alloc h0 (by omega) (by omega)
  · intro L ρ t hp h0; exact hp.alloc h0 (by omega) (by omega)
  · intro L ρ t hp h0; exact hp.alloc h0 (by omega) (by omega)
  · intro L ρ t hp h0 h1 h3 _ _
    obtain ⟨b, q1, q2⟩ := hp.store (v := .tuple #[]) h0 (by omega) (by omega) h3
    exact ⟨_, _, _, _, _, _, _, _, _, _, _, q1, hp.ld 0 h1 (by omega), q2⟩
  · intro L ρ t hp h0 _ h1 _ h4 _ _
    obtain ⟨b, q1, q2⟩ := hp.store (v := .tuple #[]) h0 (by omega) (by omega) h4
    exact ⟨_, _, _, _, _, _, _, _, _, _, _, q1, hp.ld 1 h1 (by omega), q2⟩
  · intro L ρ t hp h0 _ _ h2 _ _ h5 _ _
    obtain ⟨b, q1, q2⟩ := hp.store (v := .tuple #[]) h0 (by omega) (by omega) h5
    exact ⟨_, _, _, _, _, _, _, _, _, _, _, q1, hp.ld 2 h2 (by omega), q2⟩
  · intro L ρ t hp h0
    intros
    have hx := hX t hp.ext
    rw [hp.ld 0 h0 (by omega)]
    exact ⟨_, _, _, hx.o0.cell, ⟨_, hx.o1.cell, ⟨_, _, _, hx.o2.cell, ⟨_, _, _, hx.o3.cell, rfl⟩⟩⟩⟩
  · intro L ρ t hp h0
    intros
    have hx := hX t hp.ext
    rw [hp.ld 1 h0 (by omega)]
    exact ⟨_, _, _, hx.o0.cell, ⟨_, hx.o1.cell, ⟨_, _, _, hx.o2.cell, ⟨_, _, _, hx.o3.cell, rfl⟩⟩⟩⟩
  · intro L ρ t hp h0
    intros
    have hx := hX t hp.ext
    rw [hp.ld 2 h0 (by omega)]
    exact ⟨_, _, _, hx.o0.cell, ⟨_, hx.o1.cell, ⟨_, _, _, hx.o2.cell, ⟨_, _, _, hx.o3.cell, rfl⟩⟩⟩⟩
  · intro L ρ t hp hall
    obtain ⟨_, b1, p1, o1⟩ := hp.st 6 (hall 6 (by omega)) (by omega) (by omega)
    obtain ⟨_, b2, p2, o2⟩ := hp.st 7 (hall 7 (by omega)) (by omega) (by omega)
    obtain ⟨_, b3, p3, o3⟩ := hp.st 8 (hall 8 (by omega)) (by omega) (by omega)
    have g : ∀ k b, (hk0 : k < 9) → 3 ≤ k → k < 6 → ρ k = .pointer (some ⟨b, 0, none⟩) → s1.size ≤ b ∧ b < t.size := fun k b hk0 g1 g2 hb => by
      obtain ⟨b', q1, q2, q3, _⟩ := hp.al k (hall k hk0) g1 g2
      rw [hb] at q1; cases q1; exact ⟨q2, q3⟩
    refine ⟨_, _, _, p1, p2, p3, ?_⟩
    exact hk t b1 b2 b3 hp.ext (g 3 b1 (by omega) (by omega) (by omega) p1) (g 4 b2 (by omega) (by omega) (by omega) p2) (g 5 b3 (by omega) (by omega) (by omega) p3)
      (hp.dj 3 (hall 3 (by omega)) 4 (hall 4 (by omega)) (by omega) (by omega) (by omega) (by omega) (by omega) b1 b2 p1 p2) (hp.dj 3 (hall 3 (by omega)) 5 (hall 5 (by omega)) (by omega) (by omega) (by omega) (by omega) (by omega) b1 b3 p1 p3) (hp.dj 4 (hall 4 (by omega)) 5 (hall 5 (by omega)) (by omega) (by omega) (by omega) (by omega) (by omega) b2 b3 p2 p3) o1 o2 o3
end
end Go.Proofs.Ytknpmijgdfeliaa.G

/- Clock: ClockMore: a reading more, a link more. -/
set_option linter.unusedSimpArgs false
set_option linter.unusedVariables false
set_option maxRecDepth 20000
namespace Go.Proofs.Ytknpmijgdfeliaa.G
open Go.V
/-- A block of elements of a type. -/
def SH (t : Hp) (b : Nat) (ty : TypeId) : Prop := ∃ n, shapeAt t b = some (ty, n)
theorem SH.lt {t : Hp} {b : Nat} {ty : TypeId} (h : SH t b ty) : b < t.size := by
  obtain ⟨n, hn⟩ := h
  unfold shapeAt at hn
  cases hb : t[b]? with
  | none => simp [hb] at hn
  | some o => exact (Array.getElem?_eq_some_iff.1 hb).1
theorem shape_of_block {t t' : Hp} {b : Nat} (h : t'[b]? = t[b]?) : shapeAt t' b = shapeAt t b := by unfold shapeAt; rw [h]
theorem SH.ext {t t' : Hp} {b : Nat} {ty : TypeId} (h : SH t b ty) (e : Ext t t') : SH t' b ty := by
  obtain ⟨n, hn⟩ := h
  exact ⟨n, by rw [shape_of_block (e.2 b (SH.lt ⟨n, hn⟩))]; exact hn⟩
theorem SH.ne {t : Hp} {b b' : Nat} {ty ty' : TypeId} (h : SH t b ty) (h' : SH t b' ty') (hne : ty ≠ ty') : b ≠ b' := fun e => by
  subst e
  obtain ⟨n, hn⟩ := h
  obtain ⟨n', hn'⟩ := h'
  rw [hn] at hn'
  cases hn'
  exact hne rfl
theorem shape_setC {s : Hp} {a : Addr} {v : Value} (r : Nat) : shapeAt (setC s a v) r = shapeAt s r := by
  by_cases e : r = a.block
  · subst e
    unfold shapeAt Go.V.setC
    rw [Array.getElem?_modify, if_pos rfl]
    cases hb : s[a.block]? with
    | none => rfl
    | some o =>
      cases o <;> try rfl
      simp only [Option.map_some]
      split <;> simp
  · exact shape_of_block (setC_get _ _ _ e)
theorem wrN_sh : ∀ (vs : List Value) (a : Addr) (j : Nat) (K : Hp → Prop) (s : Hp), wrN vs a j (fun s' => (∀ r, shapeAt s' r = shapeAt s r) → K s') s → wrN vs a j K s
  | [], a, j, K, s, h => h fun _ => rfl
  | v :: vs, a, j, K, s, h => by
    obtain ⟨h1, h2⟩ := h
    refine ⟨h1, wrN_sh vs a (j + 1) K _ ?_⟩
    refine wrN_mono vs a (j + 1) _ _ (fun s' hs' hr => hs' fun r => ?_) _ h2
    rw [hr r, shape_setC]
/-- An append tells what blocks are. -/
theorem APP_shape {P : Program} {t : TypeId} {es l c m : Nat} {x y : Option Addr} {s : Hp} {K : Option Addr → Nat → Nat → Hp → Prop}
    (h : APP P t es x l c y m (fun x' l' c' s' => ((∀ r, r < s.size → shapeAt s' r = shapeAt s r) ∧ (x' = x ∨ (x' = some ⟨s.size, 0, none⟩ ∧ SH s' s.size t))) → K x' l' c' s') s) : APP P t es x l c y m K s := by
  obtain ⟨h1, vs, h2, h3⟩ := h
  refine ⟨h1, vs, h2, ?_⟩
  split at h3
  · rename_i hc
    rw [if_pos hc]
    cases x with
    | none => exact h3 ⟨fun r _ => rfl, .inl rfl⟩
    | some a => exact wrN_sh _ _ _ _ _ (wrN_mono _ _ _ _ _ (fun s' hs' hr => hs' ⟨fun r _ => hr r, .inl rfl⟩) _ h3)
  · rename_i hc
    rw [if_neg hc]
    obtain ⟨ws, h4, h5⟩ := h3
    refine ⟨ws, h4, fun c' g1 g2 => h5 c' g1 g2 ⟨fun r hr => shape_of_block (by rw [Array.getElem?_push, if_neg (by omega)]), .inr ⟨rfl, ?_⟩⟩⟩
    refine ⟨(ws ++ vs ++ repL (c' - (l + m)) (zc P t)).toArray.size, ?_⟩
    unfold shapeAt
    rw [Array.getElem?_push, if_pos rfl]
section
variable {s : Hp} {c : Clk} {x y z : Option Addr} {c1 c2 c3 cb : Nat} {r : Rd} {l : Lk}
/-- What is so of pure results. -/
def FD (c : Clk) (y z : Option Addr) (c2 c3 : Nat) (r : Rd) (l : Lk) (cb b1 b2 : Nat) (k : Nat) (v : Value) : Prop :=
  match k with
  | 1 => v = .pointer (some (Addr.add ⟨cb, 0, none⟩ 2))
  | 8 => v = .pointer (some (Addr.add ⟨cb, 0, none⟩ 3))
  | 2 => v = .slice y c.rs.length c2
  | 9 => v = .slice z c.ls.length c3
  | 4 => v = .agg #[.int .i64 r.ev, .int .i64 r.wa, .int .i64 r.sh]
  | 11 => v = .agg #[.int .i64 l.a, .int .i64 l.b, .int .i64 l.lo, .int .i64 l.hi]
  | 14 => v = .pointer (some (Addr.add ⟨b1, 0, none⟩ 2))
  | 16 => v = .pointer (some (Addr.add ⟨b2, 0, none⟩ 3))
  | _ => True
/-- A list of one's own, of a type. -/
structure HL (lo : Nat) (t : Hp) (ty es n : Nat) (vs : List Value) (v : Value) : Prop where
  ex : ∃ a cc, v = .slice (some a) n cc ∧ Fr lo t (some a) n cc es vs ∧ SH t a.block ty
theorem HL.ext {lo : Nat} {t t' : Hp} {ty es n : Nat} {vs : List Value} {v : Value} (h : HL lo t ty es n vs v) (e : Ext t t') : HL lo t' ty es n vs v := by
  obtain ⟨a, cc, h1, h2, h3⟩ := h.ex
  exact ⟨a, cc, h1, h2.ext e, h3.ext e⟩
/-- Another list is written. -/
theorem HL.other {lo b : Nat} {t t' : Hp} {ty ty' es n : Nat} {vs : List Value} {v : Value} (h : HL lo t ty es n vs v) (k : Kp (· = b) t t') (hs : ∀ r, r < t.size → shapeAt t' r = shapeAt t r) (hb : SH t b ty') (hne : ty ≠ ty') : HL lo t' ty es n vs v := by
  obtain ⟨a, cc, h1, h2, h3⟩ := h.ex
  have hd := SH.ne h3 hb hne
  refine ⟨a, cc, h1, h2.kp k fun a' ha' hb' => ?_, ?_⟩
  · cases ha'; exact hd hb'
  · obtain ⟨m, hm⟩ := h3
    exact ⟨m, by rw [hs _ (SH.lt ⟨m, hm⟩)]; exact hm⟩
/-- An empty list of one's own. -/
def H0 (lo : Nat) (t : Hp) (ty : TypeId) (v : Value) : Prop := ∃ a, v = .slice (some a) 0 0 ∧ lo ≤ a.block ∧ SH t a.block ty
def kill (k : Nat) : Nat := match k with | 0 => 3 | 3 => 6 | 5 => 6 | 7 => 10 | 10 => 13 | 12 => 13 | _ => 100
def deps (k : Nat) : List Nat := match k with | 6 => [3, 5] | 10 => [6] | 13 => [10, 12] | 15 => [6, 13] | 17 => [15, 13] | _ => []
/-- What lists are told of, by the type of their elements. -/
def HLk (lo : Nat) (c : Clk) (r : Rd) (l : Lk) (k : Nat) (v : Value) (t : Hp) : Prop := match k with
  | 0 => H0 lo t 61 v
  | 3 => HL lo t 61 3 c.rs.length (rdV c.rs) v
  | 5 => HL lo t 61 3 1 (rd3 r) v
  | 6 => HL lo t 61 3 (c.rs.length + 1) (rdV (c.rs ++ [r])) v
  | 7 => H0 lo t 63 v
  | 10 => HL lo t 63 4 c.ls.length (lkV c.ls) v
  | 12 => HL lo t 63 4 1 (lk4 l) v
  | 13 => HL lo t 63 4 (c.ls.length + 1) (lkV (c.ls ++ [l])) v
  | _ => True
theorem HLk.ext {lo k : Nat} {v : Value} {t t' : Hp} (h : HLk lo c r l k v t) (e : Ext t t') : HLk lo c r l k v t' := by
  unfold HLk at *
  split at h <;> first | exact h.ext e | (obtain ⟨a, h1, h2, h3⟩ := h; exact ⟨a, h1, h2, h3.ext e⟩) | trivial
/-- Four cells, one of which is anything. -/
def Q3 (t : Hp) (b i : Nat) (x y z : Option Addr) (c : Clk) (c1 c2 c3 : Nat) : Prop := (i ≠ 2 → Own t ⟨b, 2, none⟩ (.slice y c.rs.length c2)) ∧ (i ≠ 3 → Own t ⟨b, 3, none⟩ (.slice z c.ls.length c3)) ∧ Own t ⟨b, 0, none⟩ (.slice x c.ws.length c1) ∧ Own t ⟨b, 1, none⟩ (.int .i64 c.n) ∧ ∃ v, Own t ⟨b, i, none⟩ v
theorem Q3.kp {D : Nat → Prop} {t t' : Hp} {b i : Nat} (h : Q3 t b i x y z c c1 c2 c3) (k : Kp D t t') (hd : ¬ D b) : Q3 t' b i x y z c c1 c2 c3 :=
  ⟨fun e => k.own hd (h.1 e), fun e => k.own hd (h.2.1 e), k.own hd h.2.2.1, k.own hd h.2.2.2.1, by obtain ⟨v, hv⟩ := h.2.2.2.2; exact ⟨v, k.own hd hv⟩⟩
theorem Q3.ext {t t' : Hp} {b i : Nat} (h : Q3 t b i x y z c c1 c2 c3) (e : Ext t t') : Q3 t' b i x y z c c1 c2 c3 := h.kp (D := fun _ => False) e.kp fun h => h
structure PD (s1 : Hp) (c : Clk) (x y z : Option Addr) (c1 c2 c3 : Nat) (r : Rd) (l : Lk) (cb b1 b2 : Nat) (L : List Nat) (ρ : Nat → Value) (t : Hp) : Prop where
  kp : Kp (fun d => d = b1 ∨ d = b2) s1 t
  pu : ∀ k ∈ L, FD c y z c2 c3 r l cb b1 b2 k (ρ k)
  hl : ∀ k ∈ L, (kill k < 18 → kill k ∉ L) → HLk s1.size c r l k (ρ k) t
  cl : ∀ k ∈ L, ∀ d ∈ deps k, d ∈ L
  h15 : 15 ∈ L → Own t ⟨b1, 2, none⟩ (ρ 6)
  h17 : 17 ∈ L → Own t ⟨b2, 3, none⟩ (ρ 13)
  q1 : Q3 t b1 2 x y z c c1 c2 c3
  q2 : Q3 t b2 3 x y z c c1 c2 c3
theorem PD.step {s1 t t' : Hp} {b1 b2 : Nat} {L : List Nat} {ρ : Nat → Value} {k : Nat} {v : Value} (h : PD s1 c x y z c1 c2 c3 r l cb b1 b2 L ρ t) (hk : k ∉ L) (h18 : k < 18) (kp' : Kp (fun d => d = b1 ∨ d = b2) s1 t') (hf : FD c y z c2 c3 r l cb b1 b2 k v) (hh : HLk s1.size c r l k v t')
    (hp : ∀ j ∈ L, (kill j < 18 → kill j ∉ L) → kill j ≠ k → HLk s1.size c r l j (ρ j) t → HLk s1.size c r l j (ρ j) t') (hcl : ∀ d ∈ deps k, d ∈ L)
    (h15' : 15 ∈ k :: L → Own t' ⟨b1, 2, none⟩ (ρ 6)) (h17' : 17 ∈ k :: L → Own t' ⟨b2, 3, none⟩ (ρ 13)) (g1 : Q3 t' b1 2 x y z c c1 c2 c3) (g2 : Q3 t' b2 3 x y z c c1 c2 c3) : PD s1 c x y z c1 c2 c3 r l cb b1 b2 (k :: L) (ru ρ k v) t' := by
  have ne : ∀ j ∈ L, j ≠ k := fun j hj e => hk (by rw [← e]; exact hj)
  have hcl2 : ∀ j ∈ k :: L, ∀ d ∈ deps j, d ∈ L := fun j hj d hd => by
    rcases List.mem_cons.1 hj with rfl | hj
    · exact hcl d hd
    · exact h.cl j hj d hd
  refine ⟨kp', fun j hj => ?_, fun j hj hn => ?_, fun j hj d hd => List.mem_cons_of_mem _ (hcl2 j hj d hd), fun hm => ?_, fun hm => ?_, g1, g2⟩
  · rcases List.mem_cons.1 hj with rfl | hj
    · rw [ru_eq]; exact hf
    · rw [ru_ne (ne j hj)]; exact h.pu j hj
  · rcases List.mem_cons.1 hj with rfl | hj
    · rw [ru_eq]; exact hh
    · rw [ru_ne (ne j hj)]
      have hn1 : kill j < 18 → kill j ∉ L := fun h8 hm => hn h8 (List.mem_cons_of_mem _ hm)
      exact hp j hj hn1 (fun e => hn (by omega) (by rw [e]; exact List.mem_cons_self)) (h.hl j hj hn1)
  · have h6 : 6 ∈ L := hcl2 15 hm 6 (by simp [deps])
    rw [ru_ne (ne 6 h6)]
    exact h15' hm
  · have h13 : 13 ∈ L := hcl2 17 hm 13 (by simp [deps])
    rw [ru_ne (ne 13 h13)]
    exact h17' hm
/-- A step that writes nothing that lay. -/
theorem PD.ext {s1 t t' : Hp} {b1 b2 : Nat} {L : List Nat} {ρ : Nat → Value} {k : Nat} {v : Value} (h : PD s1 c x y z c1 c2 c3 r l cb b1 b2 L ρ t) (hk : k ∉ L) (e : Ext t t') (hf : FD c y z c2 c3 r l cb b1 b2 k v) (hh : HLk s1.size c r l k v t') (hcl : ∀ d ∈ deps k, d ∈ L) (h18 : k < 18) (n15 : k ≠ 15) (n17 : k ≠ 17) : PD s1 c x y z c1 c2 c3 r l cb b1 b2 (k :: L) (ru ρ k v) t' :=
  h.step hk h18 (h.kp.ext e) hf hh (fun j hj _ _ hx => hx.ext e) hcl (fun hm => e.own (h.h15 (mem_of' hm (Ne.symm n15)))) (fun hm => e.own (h.h17 (mem_of' hm (Ne.symm n17)))) (h.q1.ext e) (h.q2.ext e)
theorem HL.new {lo : Nat} {t : Hp} {ty es n : Nat} {vs : List Value} {K : Nat → Hp → Prop} (hlo : lo ≤ t.size) (hl : vs.length = n * es) (hn : n ≤ 1000) (h : ∀ t', Ext t t' → HL lo t' ty es n vs (.slice (some ⟨t.size, 0, none⟩) n n) → K t.size t') : NEW ty vs K t := by
  refine NEW_rule fun t' e z nn hs => ?_
  refine h t' e ⟨⟨t.size, 0, none⟩, n, rfl, ⟨⟨by omega, fun i hi => ⟨_, rfl, ?_⟩⟩, hl, fun a ha => (by cases ha; exact hlo), by omega⟩, ⟨_, hs⟩⟩
  have hi' : i < vs.length := by omega
  refine ⟨vs[i], ?_, fun _ => rfl⟩
  rw [add_nil, Nat.zero_add]
  exact nn i vs[i] (List.getElem?_eq_getElem hi')
theorem H0.new {lo : Nat} {t : Hp} {ty : TypeId} {K : Nat → Hp → Prop} (hlo : lo ≤ t.size) (h : ∀ t', Ext t t' → H0 lo t' ty (.slice (some ⟨t.size, 0, none⟩) 0 0) → K t.size t') : NEW ty [] K t :=
  NEW_rule fun t' e z nn hs => h t' e ⟨_, rfl, hlo, ⟨_, hs⟩⟩
/-- A list is copied. -/
theorem H0.app {lo : Nat} {t : Hp} {ty es m : Nat} {ws zs : List Value} {a : Addr} {y : Option Addr} {K : Option Addr → Nat → Nat → Hp → Prop} (ha : lo ≤ a.block) (hs : SH t a.block ty) (hlo : lo ≤ t.size) (hy : RowAt t y ws) (hm : ws.length = m * es) (hz : zc Pg ty = zs) (hzl : zs.length = es) (hes : 0 < es) (hlen : m ≤ 1000000)
    (h : ∀ t' x' c', Ext t t' → HL lo t' ty es m ws (.slice x' m c') → K x' m c' t') : APP Pg ty es (some a) 0 0 y m K t := by
  have hyc := hy.cells
  rw [hm] at hyc
  refine ⟨⟨by omega, by omega⟩, ws, hyc, ?_⟩
  rw [Nat.zero_add]
  split
  · rename_i hle
    have hm0 : m = 0 := by omega
    subst hm0
    have hws : ws = [] := List.eq_nil_of_length_eq_zero (by rw [hm]; simp)
    subst hws
    exact h t (some a) 0 (Ext.refl _) ⟨a, 0, rfl, ⟨⟨by simp, fun i hi => by simp at hi⟩, by simp, fun b hb => (by cases hb; exact ha), by omega⟩, hs⟩
  · refine ⟨[], by rw [Nat.zero_mul]; rfl, fun c' g1 g2 => ?_⟩
    rw [hz]
    have hlen' : ([] ++ ws ++ repL (c' - m) zs).length = c' * es := by
      rw [List.length_append, List.length_append, repL_lenN, hzl, hm, List.length_nil, Nat.zero_add, ← Nat.add_mul]
      congr 1; omega
    have hbuf : Buf (t.push (.cells ([] ++ ws ++ repL (c' - m) zs).toArray ty (0, 0))) (some ⟨t.size, 0, none⟩) ([] ++ ws ++ repL (c' - m) zs).length ws := buf_new (by simp) (fun i hi => by rw [List.nil_append, List.getElem?_append_left hi, List.getElem?_eq_getElem hi])
    rw [hlen'] at hbuf
    refine h _ _ c' (Ext.push (Ext.refl t)) ⟨_, c', rfl, ⟨hbuf, hm, fun b hb => (by cases hb; exact hlo), by omega⟩, ?_⟩
    refine ⟨([] ++ ws ++ repL (c' - m) zs).toArray.size, ?_⟩
    unfold shapeAt
    rw [Array.getElem?_push, if_pos rfl]
/-- One list is put behind another one. -/
theorem HL.app {lo : Nat} {t : Hp} {ty es n m : Nat} {vs ws zs : List Value} {v : Value} {a : Addr} {cc : Nat} {y : Option Addr} {K : Option Addr → Nat → Nat → Hp → Prop} (hv : v = .slice (some a) n cc) (hf : Fr lo t (some a) n cc es vs) (hs : SH t a.block ty) (hlo : lo ≤ t.size) (hy : RowAt t y ws) (hm : ws.length = m * es) (hz : zc Pg ty = zs) (hzl : zs.length = es) (hes : 0 < es) (hws : ∀ v ∈ ws, oneCell v = true) (hlen : n + m ≤ 1000000)
    (h : ∀ t' x' c', Kp (· = a.block) t t' → (∀ r, r < t.size → shapeAt t' r = shapeAt t r) → HL lo t' ty es (n + m) (vs ++ ws) (.slice x' (n + m) c') → K x' (n + m) c' t') : APP Pg ty es (some a) n cc y m K t := by
  refine APP_shape ?_
  refine APP_fr (lo := lo) hf hlo hy hm hz hzl hes hws hlen fun t' x' c' k hx' fr hsh => ?_
  obtain ⟨s1, s2⟩ := hsh
  refine h t' x' c' (k.mono fun q hq => by obtain ⟨a', ha', rfl⟩ := hq; cases ha'; rfl) s1 ?_
  rcases s2 with rfl | ⟨rfl, s3⟩
  · obtain ⟨nn, hn⟩ := hs
    exact ⟨a, c', rfl, fr, ⟨nn, by rw [s1 _ (SH.lt ⟨nn, hn⟩)]; exact hn⟩⟩
  · exact ⟨_, c', rfl, fr, s3⟩
end
end Go.Proofs.Ytknpmijgdfeliaa.G
