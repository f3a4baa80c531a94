import Derived.Test.YtknpmijgdfeliaaC1
import Derived.Test.YtknpmijgdfeliaaProg
/- Lemmas: contracts over the visible heap, and that they are sound; no condition. -/
/- The functions' shallow texts, by gen.py, and that the text of conditions comes to them. -/
set_option linter.unusedVariables false
set_option maxRecDepth 100000
namespace Go.Proofs.Ytknpmijgdfeliaa.G
open Go.V
noncomputable abbrev Pg : Program := Try.prog
abbrev F_law07_ClockDrop : FuncId := 3
abbrev F_law07_ClockNames : FuncId := 4
abbrev F_law07_ClockTrue : FuncId := 5
abbrev F_law07_ClockMore : FuncId := 6
abbrev F_law07_ClockTurned : FuncId := 7
abbrev F_law07_ClockAlone : FuncId := 8
abbrev F_law07_heavy : FuncId := 9
abbrev F_law07_alive : FuncId := 10
abbrev F_clock_Drop : FuncId := 11
abbrev F_clock_Wrong : FuncId := 12
abbrev F_ref07_Clock : FuncId := 13
abbrev F_law07_ClockDrop_c1 : FuncId := 14
abbrev F_clock_When : FuncId := 15
abbrev F_law07_part : FuncId := 16
abbrev F_ref07_Every : FuncId := 17
abbrev F_ref07_Without : FuncId := 18
abbrev F_ref07_Size : FuncId := 19
abbrev F_law07_sample : FuncId := 20
abbrev F_clock_Lasted : FuncId := 21
abbrev F_clock_First : FuncId := 22
abbrev F_clock_Shows : FuncId := 23
abbrev F_law07_span : FuncId := 24
abbrev F_law07_made : FuncId := 25
abbrev F_law07_draws : FuncId := 26
abbrev F_law07_inside : FuncId := 27
abbrev F_ref07_Show : FuncId := 28
abbrev F_clock_Goes : FuncId := 29
abbrev F_law07_ClockMore_c1 : FuncId := 30
abbrev F_ref07_Event : FuncId := 31
abbrev F_law07_ClockTurned_c1 : FuncId := 32
abbrev F_law07_ClockTurned_c2 : FuncId := 33
abbrev F_clock_Drop_c1 : FuncId := 34
abbrev F_clock_caught : FuncId := 35
abbrev F_clock_open : FuncId := 36
abbrev F_clock_need : FuncId := 37
abbrev F_clock_clock_can : FuncId := 38
abbrev F_clock_clock_every : FuncId := 39
abbrev F_math_bits_OnesCount : FuncId := 40
abbrev F_clock_Wrong_c1 : FuncId := 41
abbrev F_ref07_in : FuncId := 42
abbrev F_ref07_span : FuncId := 43
abbrev F_ref07_Watch : FuncId := 44
abbrev F_clock_When_c1 : FuncId := 45
abbrev F_clock_When_c2 : FuncId := 46
abbrev F_clock_bounds_later : FuncId := 47
abbrev F_clock_isEvent : FuncId := 48
abbrev F_clock_clock_ask : FuncId := 49
abbrev F_ref07_power : FuncId := 50
abbrev F_clock_Lasted_c1 : FuncId := 51
abbrev F_clock_Lasted_c2 : FuncId := 52
abbrev F_clock_Shows_c1 : FuncId := 53
abbrev F_clock_Shows_c2 : FuncId := 54
abbrev F_clock_going_shows : FuncId := 55
abbrev F_clock_isWatch : FuncId := 56
abbrev F_law07_draws_c1 : FuncId := 57
abbrev F_clock_Goes_c1 : FuncId := 58
abbrev F_clock_Goes_c2 : FuncId := 59
abbrev F_clock_Goes_c3 : FuncId := 60
abbrev F_clock_Goes_c4 : FuncId := 61
abbrev F_clock_isClock : FuncId := 62
abbrev F_clock_clock_truths : FuncId := 63
abbrev F_math_bits_OnesCount32 : FuncId := 64
abbrev F_math_bits_OnesCount64 : FuncId := 65
abbrev F_clock_within : FuncId := 66
abbrev F_clock_ends_int_keep : FuncId := 67
abbrev F_clock_isClock_c1 : FuncId := 68
abbrev F_clock_isSpan : FuncId := 69
abbrev F_clock_isClock_c2 : FuncId := 70
abbrev F_clock_isClock_c3 : FuncId := 71
abbrev F_slices_ContainsFunc_api_ClockWatch_api_ClockWatch : FuncId := 72
abbrev F_slices_ContainsFunc_api_ClockReading_api_ClockReading : FuncId := 73
abbrev F_slices_ContainsFunc_api_ClockLink_api_ClockLink : FuncId := 74
abbrev F_clock_clock_truths_c1 : FuncId := 75
abbrev F_clock_clock_tellers : FuncId := 76
abbrev F_clock_clock_choices : FuncId := 77
abbrev F_clock_bounds_tight : FuncId := 78
abbrev F_slices_IndexFunc_api_ClockWatch_api_ClockWatch : FuncId := 79
abbrev F_slices_IndexFunc_api_ClockReading_api_ClockReading : FuncId := 80
abbrev F_slices_IndexFunc_api_ClockLink_api_ClockLink : FuncId := 81
abbrev F_clock_clock_choices_c1 : FuncId := 82
abbrev F_clock_clock_choices_c1_c1 : FuncId := 83
abbrev F_clock_bounds_put : FuncId := 84
abbrev F_clock_day_tell : FuncId := 100
abbrev F_clock_bounds_tie : FuncId := 101
abbrev F_clock_reading_tell : FuncId := 102
abbrev F_clock_going_minutes : FuncId := 103
abbrev F_clock_going_minutes_c1 : FuncId := 104
abbrev F_clock_link_tell : FuncId := 105
def an_11 : Nat → Ann := fun b => match b with
 | 0 => { ms := [2, 20], ks := [.i .i64, .i .i64], us := [3, 4, 19, 48], rt := false, ex := [] }
 | 2 => { ms := [2, 26], ks := [.i .i64, .i .u64], us := [3, 4, 5, 19, 20, 25, 48], rt := false, ex := [] }
 | _ => {}
abbrev rv_11 : List ResultVar := [.tmp 2, .cell 3 29]
abbrev rs_11 : List Nat := [48, 2, 3]
def L_clock_Drop_0 (W : World) (R : Ending → Hp → Prop) (za0 : Addr) (zp1 : Option Addr) (zn2 : Int) (n39 : Int) (n40 : Int) : Hp → Prop :=
 LOOPN [.i .i64, .i .i64] (fun ys next s => ∀ j : Tm, vc Pg W 48 rs_11 an_11 false (sub (bodyOf Try.f11) [1, 1, 1, 1, 0, 1, 0, 0]) 0 (KLoop [2, 20] [3, 4, 19, 48] [(.pointer (some za0)), (.pointer zp1), (.int .i64 zn2), (.tuple #[(.func (.func 34) #[] #[(.pointer (some za0))]), (.tuple #[])])] next (KBlk 0 (KS Pg W 48 rs_11 an_11 false (sub (bodyOf Try.f11) [1, 1, 1, 1, 1]) 0 (fin Pg W 48 rv_11 R)))) (known [2, 20] ys (known [3, 4, 19, 48] [(.pointer (some za0)), (.pointer zp1), (.int .i64 zn2), (.tuple #[(.func (.func 34) #[] #[(.pointer (some za0))]), (.tuple #[])])] j)) s) [(.int .i64 n39), (.int .i64 n40)]
def L_clock_Drop_1 (W : World) (R : Ending → Hp → Prop) (nx0 : List Value → Hp → Prop) (za0 : Addr) (zp1 : Option Addr) (zn2 : Int) (zn3 : Int) (zn4 : Int) (n50 : Int) (n51 : Int) : Hp → Prop :=
 LOOPN [.i .i64, .i .u64] (fun ys next s => ∀ j : Tm, vc Pg W 48 rs_11 an_11 false (sub (bodyOf Try.f11) [1, 1, 1, 1, 0, 1, 0, 0, 1, 1, 0, 0, 1, 1, 0, 0]) 2 (KLoop [2, 26] [3, 4, 5, 19, 20, 25, 48] [(.pointer (some za0)), (.pointer zp1), (.int .i64 zn2), (.int .i64 zn3), (.int .i64 zn2), (.int .u64 zn4), (.tuple #[(.func (.func 34) #[] #[(.pointer (some za0))]), (.tuple #[])])] next (KBlk 2 (KBlk 1 (KS Pg W 48 rs_11 an_11 false (sub (bodyOf Try.f11) [1, 1, 1, 1, 0, 1, 0, 0, 1, 1, 1]) 0 (KLoop [2, 20] [3, 4, 19, 48] [(.pointer (some za0)), (.pointer zp1), (.int .i64 zn3), (.tuple #[(.func (.func 34) #[] #[(.pointer (some za0))]), (.tuple #[])])] nx0 (KBlk 0 (KS Pg W 48 rs_11 an_11 false (sub (bodyOf Try.f11) [1, 1, 1, 1, 1]) 0 (fin Pg W 48 rv_11 R)))))))) (known [2, 26] ys (known [3, 4, 5, 19, 20, 25, 48] [(.pointer (some za0)), (.pointer zp1), (.int .i64 zn2), (.int .i64 zn3), (.int .i64 zn2), (.int .u64 zn4), (.tuple #[(.func (.func 34) #[] #[(.pointer (some za0))]), (.tuple #[])])] j)) s) [(.int .i64 n50), (.int .u64 n51)]
def J_clock_Drop_0 (W : World) (R : Ending → Hp → Prop) (b61 : Bool) (za0 : Addr) (n51 : Int) (zp1 : Option Addr) (zn2 : Int) (zn3 : Int) (zn4 : Int) (nx1 : List Value → Hp → Prop) (n50 : Int) : Hp → Prop :=
 BR b61
 (WR (Addr.add za0 0) (.int .i64 0) <|
 DEF Pg W (.tuple #[(.func (.func 34) #[] #[(.pointer (some za0))]), (.tuple #[])]) none
 (RDI .i64 za0 fun n62 =>
 R (.returned (.tuple #[(.int .i64 (IntKind.wrap .i64 n51)), (.int .i64 n62)]))))
 (NX [(.pointer (some za0)), (.pointer zp1), (.int .i64 zn2), (.int .i64 zn3), (.int .i64 zn2), (.int .u64 zn4), (.tuple #[(.func (.func 34) #[] #[(.pointer (some za0))]), (.tuple #[])])] [(.pointer (some za0)), (.pointer zp1), (.int .i64 zn2), (.int .i64 zn3), (.int .i64 zn2), (.int .u64 zn4), (.tuple #[(.func (.func 34) #[] #[(.pointer (some za0))]), (.tuple #[])])] (nx1 [(.int .i64 n50), (.int .u64 (IntKind.wrap .u64 (n51 + 1)))]))
def B_clock_Drop_0 (W : World) (R : Ending → Hp → Prop) (za0 : Addr) (zp1 : Option Addr) (zn2 : Int) (n39 : Int) (n40 : Int) (nx0 : List Value → Hp → Prop) : Hp → Prop :=
 BR (decide (n40 < zn2))
 (CALL Pg W F_clock_clock_every [(.pointer zp1)]
 (fun v41 => TYI .u64 v41 fun n43 =>
 L_clock_Drop_1 W R nx0 za0 zp1 n40 zn2 (IntKind.wrap .u64 (n43 + 1)) n39 0)
 (fun e42 => DEF Pg W (.tuple #[(.func (.func 34) #[] #[(.pointer (some za0))]), (.tuple #[])]) (some e42) (RDI .i64 za0 fun n44 =>
 R (.returned (.tuple #[(.int .i64 n39), (.int .i64 n44)])))))
 (CALL Pg W F_clock_clock_every [(.pointer zp1)]
 (fun v45 => TYI .u64 v45 fun n47 =>
 WR (Addr.add za0 0) (.int .i64 0) <|
 DEF Pg W (.tuple #[(.func (.func 34) #[] #[(.pointer (some za0))]), (.tuple #[])]) none
 (RDI .i64 za0 fun n48 =>
 R (.returned (.tuple #[(.int .i64 (IntKind.wrap .i64 n47)), (.int .i64 n48)]))))
 (fun e46 => DEF Pg W (.tuple #[(.func (.func 34) #[] #[(.pointer (some za0))]), (.tuple #[])]) (some e46) (RDI .i64 za0 fun n49 =>
 R (.returned (.tuple #[(.int .i64 n39), (.int .i64 n49)])))))
theorem B_clock_Drop_0_eq (W : World) (R : Ending → Hp → Prop) (za0 : Addr) (zp1 : Option Addr) (zn2 : Int) (n39 : Int) (n40 : Int) (nx0 : List Value → Hp → Prop) (j : Tm) : vc Pg W 48 rs_11 an_11 false (sub (bodyOf Try.f11) [1, 1, 1, 1, 0, 1, 0, 0]) 0 (KLoop [2, 20] [3, 4, 19, 48] [(.pointer (some za0)), (.pointer zp1), (.int .i64 zn2), (.tuple #[(.func (.func 34) #[] #[(.pointer (some za0))]), (.tuple #[])])] nx0 (KBlk 0 (KS Pg W 48 rs_11 an_11 false (sub (bodyOf Try.f11) [1, 1, 1, 1, 1]) 0 (fin Pg W 48 rv_11 R)))) (known [2, 20] [(.int .i64 n39), (.int .i64 n40)] (known [3, 4, 19, 48] [(.pointer (some za0)), (.pointer zp1), (.int .i64 zn2), (.tuple #[(.func (.func 34) #[] #[(.pointer (some za0))]), (.tuple #[])])] j)) = B_clock_Drop_0 W R za0 zp1 zn2 n39 n40 nx0 := by kernel_rfl
def N_clock_Drop_0 (I : Int → Int → Hp → Prop) (μ : Int → Int → Hp → Nat) (n390 : Int) (n400 : Int) (s : Hp) (vs : List Value) : Hp → Prop := fun s' => ∃ n39 n40, vs = [(.int .i64 n39), (.int .i64 n40)] ∧ I n39 n40 s' ∧ μ n39 n40 s' < μ n390 n400 s
theorem L_clock_Drop_0_rule (W : World) (R : Ending → Hp → Prop) (za0 : Addr) (zp1 : Option Addr) (zn2 : Int) (I : Int → Int → Hp → Prop) (μ : Int → Int → Hp → Nat) (n390 : Int) (n400 : Int) (s : Hp) (h0 : I n390 n400 s)
    (hr : ∀ (n39 : Int) (n40 : Int) (s : Hp), I n39 n40 s → B_clock_Drop_0 W R za0 zp1 zn2 n39 n40 (fun vs => N_clock_Drop_0 I μ n39 n40 s vs) s) : L_clock_Drop_0 W R za0 zp1 zn2 n390 n400 s := by
  refine ⟨fun vs s => ∃ n39 n40, vs = [(.int .i64 n39), (.int .i64 n40)] ∧ I n39 n40 s, fun vs s => (match vs with | [.int _ n39, .int _ n40] => μ n39 n40 s | _ => 0), ⟨⟨⟨_, rfl⟩, ⟨⟨_, rfl⟩, trivial⟩⟩, ⟨_, _, rfl, h0⟩⟩, ?_⟩
  intro n39 n40 s hI j
  obtain ⟨n39', n40', hy, hI⟩ := hI
  have hI' : I n39 n40 s := by cases hy; exact hI
  have hh := hr n39 n40 s hI'
  rw [← B_clock_Drop_0_eq W R za0 zp1 zn2 n39 n40 _ j] at hh
  refine vc_mono ?_ _ _ hh
  exact KLoop_mono (fun vs s' h => by obtain ⟨n391, n401, rfl, h1, h2⟩ := h; exact ⟨⟨⟨_, rfl⟩, ⟨⟨_, rfl⟩, trivial⟩⟩, ⟨_, _, rfl, h1⟩, h2⟩)
def B_clock_Drop_1 (W : World) (R : Ending → Hp → Prop) (nx0 : List Value → Hp → Prop) (za0 : Addr) (zp1 : Option Addr) (zn2 : Int) (zn3 : Int) (zn4 : Int) (n50 : Int) (n51 : Int) (nx1 : List Value → Hp → Prop) : Hp → Prop :=
 BR (decide (n51 < zn4))
 (CALL Pg W F_math_bits_OnesCount [(.int .u64 n51)]
 (fun v52 => TYI .i64 v52 fun n54 =>
 BR (n54 == zn2)
 (CALL Pg W F_clock_clock_every [(.pointer zp1)]
 (fun v55 => TYI .u64 v55 fun n57 =>
 CALL Pg W F_clock_clock_can [(.pointer zp1), (.int .u64 (andnv .u64 n57 n51))]
 (fun v58 => TYB v58 fun b60 =>
 J_clock_Drop_0 W R b60 za0 n51 zp1 zn2 zn3 zn4 nx1 n50)
 (fun e59 => DEF Pg W (.tuple #[(.func (.func 34) #[] #[(.pointer (some za0))]), (.tuple #[])]) (some e59) (RDI .i64 za0 fun n63 =>
 R (.returned (.tuple #[(.int .i64 n50), (.int .i64 n63)])))))
 (fun e56 => DEF Pg W (.tuple #[(.func (.func 34) #[] #[(.pointer (some za0))]), (.tuple #[])]) (some e56) (RDI .i64 za0 fun n64 =>
 R (.returned (.tuple #[(.int .i64 n50), (.int .i64 n64)])))))
 (J_clock_Drop_0 W R false za0 n51 zp1 zn2 zn3 zn4 nx1 n50))
 (fun e53 => DEF Pg W (.tuple #[(.func (.func 34) #[] #[(.pointer (some za0))]), (.tuple #[])]) (some e53) (RDI .i64 za0 fun n65 =>
 R (.returned (.tuple #[(.int .i64 n50), (.int .i64 n65)])))))
 (NX [(.pointer (some za0)), (.pointer zp1), (.int .i64 zn3), (.tuple #[(.func (.func 34) #[] #[(.pointer (some za0))]), (.tuple #[])])] [(.pointer (some za0)), (.pointer zp1), (.int .i64 zn3), (.tuple #[(.func (.func 34) #[] #[(.pointer (some za0))]), (.tuple #[])])] (nx0 [(.int .i64 n50), (.int .i64 (IntKind.wrap .i64 (zn2 + 1)))]))
theorem B_clock_Drop_1_eq (W : World) (R : Ending → Hp → Prop) (nx0 : List Value → Hp → Prop) (za0 : Addr) (zp1 : Option Addr) (zn2 : Int) (zn3 : Int) (zn4 : Int) (n50 : Int) (n51 : Int) (nx1 : List Value → Hp → Prop) (j : Tm) : vc Pg W 48 rs_11 an_11 false (sub (bodyOf Try.f11) [1, 1, 1, 1, 0, 1, 0, 0, 1, 1, 0, 0, 1, 1, 0, 0]) 2 (KLoop [2, 26] [3, 4, 5, 19, 20, 25, 48] [(.pointer (some za0)), (.pointer zp1), (.int .i64 zn2), (.int .i64 zn3), (.int .i64 zn2), (.int .u64 zn4), (.tuple #[(.func (.func 34) #[] #[(.pointer (some za0))]), (.tuple #[])])] nx1 (KBlk 2 (KBlk 1 (KS Pg W 48 rs_11 an_11 false (sub (bodyOf Try.f11) [1, 1, 1, 1, 0, 1, 0, 0, 1, 1, 1]) 0 (KLoop [2, 20] [3, 4, 19, 48] [(.pointer (some za0)), (.pointer zp1), (.int .i64 zn3), (.tuple #[(.func (.func 34) #[] #[(.pointer (some za0))]), (.tuple #[])])] nx0 (KBlk 0 (KS Pg W 48 rs_11 an_11 false (sub (bodyOf Try.f11) [1, 1, 1, 1, 1]) 0 (fin Pg W 48 rv_11 R)))))))) (known [2, 26] [(.int .i64 n50), (.int .u64 n51)] (known [3, 4, 5, 19, 20, 25, 48] [(.pointer (some za0)), (.pointer zp1), (.int .i64 zn2), (.int .i64 zn3), (.int .i64 zn2), (.int .u64 zn4), (.tuple #[(.func (.func 34) #[] #[(.pointer (some za0))]), (.tuple #[])])] j)) = B_clock_Drop_1 W R nx0 za0 zp1 zn2 zn3 zn4 n50 n51 nx1 := by kernel_rfl
def N_clock_Drop_1 (I : Int → Int → Hp → Prop) (μ : Int → Int → Hp → Nat) (n500 : Int) (n510 : Int) (s : Hp) (vs : List Value) : Hp → Prop := fun s' => ∃ n50 n51, vs = [(.int .i64 n50), (.int .u64 n51)] ∧ I n50 n51 s' ∧ μ n50 n51 s' < μ n500 n510 s
theorem L_clock_Drop_1_rule (W : World) (R : Ending → Hp → Prop) (nx0 : List Value → Hp → Prop) (za0 : Addr) (zp1 : Option Addr) (zn2 : Int) (zn3 : Int) (zn4 : Int) (I : Int → Int → Hp → Prop) (μ : Int → Int → Hp → Nat) (n500 : Int) (n510 : Int) (s : Hp) (h0 : I n500 n510 s)
    (hr : ∀ (n50 : Int) (n51 : Int) (s : Hp), I n50 n51 s → B_clock_Drop_1 W R nx0 za0 zp1 zn2 zn3 zn4 n50 n51 (fun vs => N_clock_Drop_1 I μ n50 n51 s vs) s) : L_clock_Drop_1 W R nx0 za0 zp1 zn2 zn3 zn4 n500 n510 s := by
  refine ⟨fun vs s => ∃ n50 n51, vs = [(.int .i64 n50), (.int .u64 n51)] ∧ I n50 n51 s, fun vs s => (match vs with | [.int _ n50, .int _ n51] => μ n50 n51 s | _ => 0), ⟨⟨⟨_, rfl⟩, ⟨⟨_, rfl⟩, trivial⟩⟩, ⟨_, _, rfl, h0⟩⟩, ?_⟩
  intro n50 n51 s hI j
  obtain ⟨n50', n51', hy, hI⟩ := hI
  have hI' : I n50 n51 s := by cases hy; exact hI
  have hh := hr n50 n51 s hI'
  rw [← B_clock_Drop_1_eq W R nx0 za0 zp1 zn2 zn3 zn4 n50 n51 _ j] at hh
  refine vc_mono ?_ _ _ hh
  exact KLoop_mono (fun vs s' h => by obtain ⟨n501, n511, rfl, h1, h2⟩ := h; exact ⟨⟨⟨_, rfl⟩, ⟨⟨_, rfl⟩, trivial⟩⟩, ⟨_, _, rfl, h1⟩, h2⟩)
def T_clock_Drop (W : World) (x1 : Option Addr) (l2 : Nat) (c3 : Nat) (n4 : Int) (x5 : Option Addr) (l6 : Nat) (c7 : Nat) (x8 : Option Addr) (l9 : Nat) (c10 : Nat) (R : Ending → Hp → Prop) : Hp → Prop :=
 NEW 26 [(.slice x1 l2 c3), (.int .i64 n4), (.slice x5 l6 c7), (.slice x8 l9 c10)] fun B11 =>
 NEWZ Pg 29 fun B12 =>
 RDL (Addr.add ⟨B11, 0, none⟩ 0) fun x13 l14 c15 =>
 RDI .i64 (Addr.add ⟨B11, 0, none⟩ 1) fun n16 =>
 RDL (Addr.add ⟨B11, 0, none⟩ 2) fun x17 l18 c19 =>
 RDL (Addr.add ⟨B11, 0, none⟩ 3) fun x20 l21 c22 =>
 CALL Pg W F_clock_open [(.agg #[(.slice x13 l14 c15), (.int .i64 n16), (.slice x17 l18 c19), (.slice x20 l21 c22)]), (.bool true)]
 (fun v23 => TYP v23 fun p25 =>
 CALL Pg W F_clock_clock_can [(.pointer p25), (.int .u64 0)]
 (fun v26 => TYB v26 fun b28 =>
 CALL Pg W F_clock_need [(.bool b28), (.int .i64 10)]
 (fun v29 => TUP v29 fun q31 => NL q31 <|
 SO p25 fun a32 =>
 RDL (Addr.add (Addr.add a32 0) 2) fun x33 l34 c35 =>
 L_clock_Drop_0 W R ⟨B12, 0, none⟩ p25 (IntKind.wrap .i64 ((↑l34 : Int) + 1)) 0 0)
 (fun e30 => DEF Pg W (.tuple #[(.func (.func 34) #[] #[(.pointer (some ⟨B12, 0, none⟩))]), (.tuple #[])]) (some e30) (RDI .i64 ⟨B12, 0, none⟩ fun n36 =>
 R (.returned (.tuple #[(.int .i64 0), (.int .i64 n36)])))))
 (fun e27 => DEF Pg W (.tuple #[(.func (.func 34) #[] #[(.pointer (some ⟨B12, 0, none⟩))]), (.tuple #[])]) (some e27) (RDI .i64 ⟨B12, 0, none⟩ fun n37 =>
 R (.returned (.tuple #[(.int .i64 0), (.int .i64 n37)])))))
 (fun e24 => DEF Pg W (.tuple #[(.func (.func 34) #[] #[(.pointer (some ⟨B12, 0, none⟩))]), (.tuple #[])]) (some e24) (RDI .i64 ⟨B12, 0, none⟩ fun n38 =>
 R (.returned (.tuple #[(.int .i64 0), (.int .i64 n38)]))))
theorem T_clock_Drop_eq (W : World) (x1 : Option Addr) (l2 : Nat) (c3 : Nat) (n4 : Int) (x5 : Option Addr) (l6 : Nat) (c7 : Nat) (x8 : Option Addr) (l9 : Nat) (c10 : Nat) (R : Ending → Hp → Prop) : vfun Pg W an_11 Try.f11 [(.agg #[(.slice x1 l2 c3), (.int .i64 n4), (.slice x5 l6 c7), (.slice x8 l9 c10)])] R = T_clock_Drop W x1 l2 c3 n4 x5 l6 c7 x8 l9 c10 R := by kernel_rfl
theorem does_clock_Drop (W : World) (x1 : Option Addr) (l2 : Nat) (c3 : Nat) (n4 : Int) (x5 : Option Addr) (l6 : Nat) (c7 : Nat) (x8 : Option Addr) (l9 : Nat) (c10 : Nat) (R : Ending → Hp → Prop) (s : Hp) (h : T_clock_Drop W x1 l2 c3 n4 x5 l6 c7 x8 l9 c10 R s) : Does Pg W F_clock_Drop #[(.agg #[(.slice x1 l2 c3), (.int .i64 n4), (.slice x5 l6 c7), (.slice x8 l9 c10)])] s R :=
  does_of_vfun Pg W an_11 Try.func11 rfl (by kernel_rfl) (by rw [T_clock_Drop_eq]; exact h)
def an_12 : Nat → Ann := fun b => match b with
 | 0 => { ms := [2, 24], ks := [.i .i64, .i .i64], us := [3, 4, 23, 58], rt := false, ex := [] }
 | 2 => { ms := [6, 35], ks := [.i .u64, .i .i64], us := [2, 3, 4, 5, 23, 24, 33, 34, 58], rt := false, ex := [] }
 | _ => {}
abbrev rv_12 : List ResultVar := [.tmp 2, .cell 3 29]
abbrev rs_12 : List Nat := [58, 2, 3]
def L_clock_Wrong_0 (W : World) (R : Ending → Hp → Prop) (za0 : Addr) (zp1 : Option Addr) (zn2 : Int) (n43 : Int) (n44 : Int) : Hp → Prop :=
 LOOPN [.i .i64, .i .i64] (fun ys next s => ∀ j : Tm, vc Pg W 58 rs_12 an_12 false (sub (bodyOf Try.f12) [1, 1, 1, 1, 0, 1, 0, 0]) 0 (KLoop [2, 24] [3, 4, 23, 58] [(.pointer (some za0)), (.pointer zp1), (.int .i64 zn2), (.tuple #[(.func (.func 41) #[] #[(.pointer (some za0))]), (.tuple #[])])] next (KBlk 0 (KS Pg W 58 rs_12 an_12 false (sub (bodyOf Try.f12) [1, 1, 1, 1, 1]) 0 (fin Pg W 58 rv_12 R)))) (known [2, 24] ys (known [3, 4, 23, 58] [(.pointer (some za0)), (.pointer zp1), (.int .i64 zn2), (.tuple #[(.func (.func 41) #[] #[(.pointer (some za0))]), (.tuple #[])])] j)) s) [(.int .i64 n43), (.int .i64 n44)]
def L_clock_Wrong_1 (W : World) (R : Ending → Hp → Prop) (nx0 : List Value → Hp → Prop) (zn0 : Int) (za1 : Addr) (zp2 : Option Addr) (zn3 : Int) (zn4 : Int) (zp5 : Option Addr) (zl6 : Nat) (zl7 : Nat) (zn8 : Int) (n54 : Int) (n55 : Int) : Hp → Prop :=
 LOOPN [.i .u64, .i .i64] (fun ys next s => ∀ j : Tm, vc Pg W 58 rs_12 an_12 false (sub (bodyOf Try.f12) [1, 1, 1, 1, 0, 1, 0, 0, 1, 1, 0, 0, 1, 1, 0, 1, 0, 0]) 2 (KLoop [6, 35] [2, 3, 4, 5, 23, 24, 33, 34, 58] [(.int .i64 zn0), (.pointer (some za1)), (.pointer zp2), (.int .i64 zn3), (.int .i64 zn4), (.int .i64 zn3), (.slice zp5 zl6 zl7), (.int .i64 zn8), (.tuple #[(.func (.func 41) #[] #[(.pointer (some za1))]), (.tuple #[])])] next (KBlk 2 (KS Pg W 58 rs_12 an_12 false (sub (bodyOf Try.f12) [1, 1, 1, 1, 0, 1, 0, 0, 1, 1, 0, 0, 1, 1, 1]) 1 (KBlk 1 (KS Pg W 58 rs_12 an_12 false (sub (bodyOf Try.f12) [1, 1, 1, 1, 0, 1, 0, 0, 1, 1, 1]) 0 (KLoop [2, 24] [3, 4, 23, 58] [(.pointer (some za1)), (.pointer zp2), (.int .i64 zn4), (.tuple #[(.func (.func 41) #[] #[(.pointer (some za1))]), (.tuple #[])])] nx0 (KBlk 0 (KS Pg W 58 rs_12 an_12 false (sub (bodyOf Try.f12) [1, 1, 1, 1, 1]) 0 (fin Pg W 58 rv_12 R))))))))) (known [6, 35] ys (known [2, 3, 4, 5, 23, 24, 33, 34, 58] [(.int .i64 zn0), (.pointer (some za1)), (.pointer zp2), (.int .i64 zn3), (.int .i64 zn4), (.int .i64 zn3), (.slice zp5 zl6 zl7), (.int .i64 zn8), (.tuple #[(.func (.func 41) #[] #[(.pointer (some za1))]), (.tuple #[])])] j)) s) [(.int .u64 n54), (.int .i64 n55)]
def J_clock_Wrong_0 (W : World) (R : Ending → Hp → Prop) (zn0 : Int) (za1 : Addr) (zp2 : Option Addr) (zn3 : Int) (zn4 : Int) (zp5 : Option Addr) (zl6 : Nat) (zl7 : Nat) (zn8 : Int) (nx1 : List Value → Hp → Prop) (n62 : Int) (n55 : Int) : Hp → Prop :=
 NX [(.int .i64 zn0), (.pointer (some za1)), (.pointer zp2), (.int .i64 zn3), (.int .i64 zn4), (.int .i64 zn3), (.slice zp5 zl6 zl7), (.int .i64 zn8), (.tuple #[(.func (.func 41) #[] #[(.pointer (some za1))]), (.tuple #[])])] [(.int .i64 zn0), (.pointer (some za1)), (.pointer zp2), (.int .i64 zn3), (.int .i64 zn4), (.int .i64 zn3), (.slice zp5 zl6 zl7), (.int .i64 zn8), (.tuple #[(.func (.func 41) #[] #[(.pointer (some za1))]), (.tuple #[])])] (nx1 [(.int .u64 n62), (.int .i64 (IntKind.wrap .i64 (n55 + 1)))])
def B_clock_Wrong_0 (W : World) (R : Ending → Hp → Prop) (za0 : Addr) (zp1 : Option Addr) (zn2 : Int) (n43 : Int) (n44 : Int) (nx0 : List Value → Hp → Prop) : Hp → Prop :=
 BR (decide (n44 < zn2))
 (CALL Pg W F_clock_clock_every [(.pointer zp1)]
 (fun v45 => TYI .u64 v45 fun n47 =>
 SO zp1 fun a48 =>
 RDL (Addr.add (Addr.add a48 0) 2) fun x49 l50 c51 =>
 L_clock_Wrong_1 W R nx0 n43 za0 zp1 n44 zn2 x49 l50 c51 (↑l50 : Int) n47 0)
 (fun e46 => DEF Pg W (.tuple #[(.func (.func 41) #[] #[(.pointer (some za0))]), (.tuple #[])]) (some e46) (RDI .i64 za0 fun n52 =>
 R (.returned (.tuple #[(.int .i64 n43), (.int .i64 n52)])))))
 (WR (Addr.add za0 0) (.int .i64 0) <|
 DEF Pg W (.tuple #[(.func (.func 41) #[] #[(.pointer (some za0))]), (.tuple #[])]) none
 (RDI .i64 za0 fun n53 =>
 R (.returned (.tuple #[(.int .i64 n43), (.int .i64 n53)]))))
theorem B_clock_Wrong_0_eq (W : World) (R : Ending → Hp → Prop) (za0 : Addr) (zp1 : Option Addr) (zn2 : Int) (n43 : Int) (n44 : Int) (nx0 : List Value → Hp → Prop) (j : Tm) : vc Pg W 58 rs_12 an_12 false (sub (bodyOf Try.f12) [1, 1, 1, 1, 0, 1, 0, 0]) 0 (KLoop [2, 24] [3, 4, 23, 58] [(.pointer (some za0)), (.pointer zp1), (.int .i64 zn2), (.tuple #[(.func (.func 41) #[] #[(.pointer (some za0))]), (.tuple #[])])] nx0 (KBlk 0 (KS Pg W 58 rs_12 an_12 false (sub (bodyOf Try.f12) [1, 1, 1, 1, 1]) 0 (fin Pg W 58 rv_12 R)))) (known [2, 24] [(.int .i64 n43), (.int .i64 n44)] (known [3, 4, 23, 58] [(.pointer (some za0)), (.pointer zp1), (.int .i64 zn2), (.tuple #[(.func (.func 41) #[] #[(.pointer (some za0))]), (.tuple #[])])] j)) = B_clock_Wrong_0 W R za0 zp1 zn2 n43 n44 nx0 := by kernel_rfl
def N_clock_Wrong_0 (I : Int → Int → Hp → Prop) (μ : Int → Int → Hp → Nat) (n430 : Int) (n440 : Int) (s : Hp) (vs : List Value) : Hp → Prop := fun s' => ∃ n43 n44, vs = [(.int .i64 n43), (.int .i64 n44)] ∧ I n43 n44 s' ∧ μ n43 n44 s' < μ n430 n440 s
theorem L_clock_Wrong_0_rule (W : World) (R : Ending → Hp → Prop) (za0 : Addr) (zp1 : Option Addr) (zn2 : Int) (I : Int → Int → Hp → Prop) (μ : Int → Int → Hp → Nat) (n430 : Int) (n440 : Int) (s : Hp) (h0 : I n430 n440 s)
    (hr : ∀ (n43 : Int) (n44 : Int) (s : Hp), I n43 n44 s → B_clock_Wrong_0 W R za0 zp1 zn2 n43 n44 (fun vs => N_clock_Wrong_0 I μ n43 n44 s vs) s) : L_clock_Wrong_0 W R za0 zp1 zn2 n430 n440 s := by
  refine ⟨fun vs s => ∃ n43 n44, vs = [(.int .i64 n43), (.int .i64 n44)] ∧ I n43 n44 s, fun vs s => (match vs with | [.int _ n43, .int _ n44] => μ n43 n44 s | _ => 0), ⟨⟨⟨_, rfl⟩, ⟨⟨_, rfl⟩, trivial⟩⟩, ⟨_, _, rfl, h0⟩⟩, ?_⟩
  intro n43 n44 s hI j
  obtain ⟨n43', n44', hy, hI⟩ := hI
  have hI' : I n43 n44 s := by cases hy; exact hI
  have hh := hr n43 n44 s hI'
  rw [← B_clock_Wrong_0_eq W R za0 zp1 zn2 n43 n44 _ j] at hh
  refine vc_mono ?_ _ _ hh
  exact KLoop_mono (fun vs s' h => by obtain ⟨n431, n441, rfl, h1, h2⟩ := h; exact ⟨⟨⟨_, rfl⟩, ⟨⟨_, rfl⟩, trivial⟩⟩, ⟨_, _, rfl, h1⟩, h2⟩)
def B_clock_Wrong_1 (W : World) (R : Ending → Hp → Prop) (nx0 : List Value → Hp → Prop) (zn0 : Int) (za1 : Addr) (zp2 : Option Addr) (zn3 : Int) (zn4 : Int) (zp5 : Option Addr) (zl6 : Nat) (zl7 : Nat) (zn8 : Int) (n54 : Int) (n55 : Int) (nx1 : List Value → Hp → Prop) : Hp → Prop :=
 BR (decide (n55 < zn8))
 (IXS zp5 zl6 n55 3 fun a56 =>
 RDI .i64 (Addr.add a56 0) fun n57 =>
 RDI .i64 (Addr.add a56 1) fun n58 =>
 RDI .i64 (Addr.add a56 2) fun n59 =>
 NEWZ Pg 61 fun B60 =>
 WR (Addr.add ⟨B60, 0, none⟩ 0) (.int .i64 n57) <|
 WR (Addr.add ⟨B60, 0, none⟩ 1) (.int .i64 n58) <|
 WR (Addr.add ⟨B60, 0, none⟩ 2) (.int .i64 n59) <|
 RDI .i64 (Addr.add ⟨B60, 0, none⟩ 1) fun n61 =>
 BR (n61 == zn3)
 (NNI n55 <|
 J_clock_Wrong_0 W R zn0 za1 zp2 zn3 zn4 zp5 zl6 zl7 zn8 nx1 (andnv .u64 n54 (shlv .u64 1 n55)) n55)
 (J_clock_Wrong_0 W R zn0 za1 zp2 zn3 zn4 zp5 zl6 zl7 zn8 nx1 n54 n55))
 (CALL Pg W F_clock_clock_can [(.pointer zp2), (.int .u64 n54)]
 (fun v63 => TYB v63 fun b65 =>
 BR b65
 (NNI zn3 <|
 NX [(.pointer (some za1)), (.pointer zp2), (.int .i64 zn4), (.tuple #[(.func (.func 41) #[] #[(.pointer (some za1))]), (.tuple #[])])] [(.pointer (some za1)), (.pointer zp2), (.int .i64 zn4), (.tuple #[(.func (.func 41) #[] #[(.pointer (some za1))]), (.tuple #[])])] (nx0 [(.int .i64 (orv .i64 zn0 (shlv .i64 1 zn3))), (.int .i64 (IntKind.wrap .i64 (zn3 + 1)))]))
 (NX [(.pointer (some za1)), (.pointer zp2), (.int .i64 zn4), (.tuple #[(.func (.func 41) #[] #[(.pointer (some za1))]), (.tuple #[])])] [(.pointer (some za1)), (.pointer zp2), (.int .i64 zn4), (.tuple #[(.func (.func 41) #[] #[(.pointer (some za1))]), (.tuple #[])])] (nx0 [(.int .i64 zn0), (.int .i64 (IntKind.wrap .i64 (zn3 + 1)))])))
 (fun e64 => DEF Pg W (.tuple #[(.func (.func 41) #[] #[(.pointer (some za1))]), (.tuple #[])]) (some e64) (RDI .i64 za1 fun n66 =>
 R (.returned (.tuple #[(.int .i64 zn0), (.int .i64 n66)])))))
theorem B_clock_Wrong_1_eq (W : World) (R : Ending → Hp → Prop) (nx0 : List Value → Hp → Prop) (zn0 : Int) (za1 : Addr) (zp2 : Option Addr) (zn3 : Int) (zn4 : Int) (zp5 : Option Addr) (zl6 : Nat) (zl7 : Nat) (zn8 : Int) (n54 : Int) (n55 : Int) (nx1 : List Value → Hp → Prop) (j : Tm) : vc Pg W 58 rs_12 an_12 false (sub (bodyOf Try.f12) [1, 1, 1, 1, 0, 1, 0, 0, 1, 1, 0, 0, 1, 1, 0, 1, 0, 0]) 2 (KLoop [6, 35] [2, 3, 4, 5, 23, 24, 33, 34, 58] [(.int .i64 zn0), (.pointer (some za1)), (.pointer zp2), (.int .i64 zn3), (.int .i64 zn4), (.int .i64 zn3), (.slice zp5 zl6 zl7), (.int .i64 zn8), (.tuple #[(.func (.func 41) #[] #[(.pointer (some za1))]), (.tuple #[])])] nx1 (KBlk 2 (KS Pg W 58 rs_12 an_12 false (sub (bodyOf Try.f12) [1, 1, 1, 1, 0, 1, 0, 0, 1, 1, 0, 0, 1, 1, 1]) 1 (KBlk 1 (KS Pg W 58 rs_12 an_12 false (sub (bodyOf Try.f12) [1, 1, 1, 1, 0, 1, 0, 0, 1, 1, 1]) 0 (KLoop [2, 24] [3, 4, 23, 58] [(.pointer (some za1)), (.pointer zp2), (.int .i64 zn4), (.tuple #[(.func (.func 41) #[] #[(.pointer (some za1))]), (.tuple #[])])] nx0 (KBlk 0 (KS Pg W 58 rs_12 an_12 false (sub (bodyOf Try.f12) [1, 1, 1, 1, 1]) 0 (fin Pg W 58 rv_12 R))))))))) (known [6, 35] [(.int .u64 n54), (.int .i64 n55)] (known [2, 3, 4, 5, 23, 24, 33, 34, 58] [(.int .i64 zn0), (.pointer (some za1)), (.pointer zp2), (.int .i64 zn3), (.int .i64 zn4), (.int .i64 zn3), (.slice zp5 zl6 zl7), (.int .i64 zn8), (.tuple #[(.func (.func 41) #[] #[(.pointer (some za1))]), (.tuple #[])])] j)) = B_clock_Wrong_1 W R nx0 zn0 za1 zp2 zn3 zn4 zp5 zl6 zl7 zn8 n54 n55 nx1 := by kernel_rfl
def N_clock_Wrong_1 (I : Int → Int → Hp → Prop) (μ : Int → Int → Hp → Nat) (n540 : Int) (n550 : Int) (s : Hp) (vs : List Value) : Hp → Prop := fun s' => ∃ n54 n55, vs = [(.int .u64 n54), (.int .i64 n55)] ∧ I n54 n55 s' ∧ μ n54 n55 s' < μ n540 n550 s
theorem L_clock_Wrong_1_rule (W : World) (R : Ending → Hp → Prop) (nx0 : List Value → Hp → Prop) (zn0 : Int) (za1 : Addr) (zp2 : Option Addr) (zn3 : Int) (zn4 : Int) (zp5 : Option Addr) (zl6 : Nat) (zl7 : Nat) (zn8 : Int) (I : Int → Int → Hp → Prop) (μ : Int → Int → Hp → Nat) (n540 : Int) (n550 : Int) (s : Hp) (h0 : I n540 n550 s)
    (hr : ∀ (n54 : Int) (n55 : Int) (s : Hp), I n54 n55 s → B_clock_Wrong_1 W R nx0 zn0 za1 zp2 zn3 zn4 zp5 zl6 zl7 zn8 n54 n55 (fun vs => N_clock_Wrong_1 I μ n54 n55 s vs) s) : L_clock_Wrong_1 W R nx0 zn0 za1 zp2 zn3 zn4 zp5 zl6 zl7 zn8 n540 n550 s := by
  refine ⟨fun vs s => ∃ n54 n55, vs = [(.int .u64 n54), (.int .i64 n55)] ∧ I n54 n55 s, fun vs s => (match vs with | [.int _ n54, .int _ n55] => μ n54 n55 s | _ => 0), ⟨⟨⟨_, rfl⟩, ⟨⟨_, rfl⟩, trivial⟩⟩, ⟨_, _, rfl, h0⟩⟩, ?_⟩
  intro n54 n55 s hI j
  obtain ⟨n54', n55', hy, hI⟩ := hI
  have hI' : I n54 n55 s := by cases hy; exact hI
  have hh := hr n54 n55 s hI'
  rw [← B_clock_Wrong_1_eq W R nx0 zn0 za1 zp2 zn3 zn4 zp5 zl6 zl7 zn8 n54 n55 _ j] at hh
  refine vc_mono ?_ _ _ hh
  exact KLoop_mono (fun vs s' h => by obtain ⟨n541, n551, rfl, h1, h2⟩ := h; exact ⟨⟨⟨_, rfl⟩, ⟨⟨_, rfl⟩, trivial⟩⟩, ⟨_, _, rfl, h1⟩, h2⟩)
def T_clock_Wrong (W : World) (x1 : Option Addr) (l2 : Nat) (c3 : Nat) (n4 : Int) (x5 : Option Addr) (l6 : Nat) (c7 : Nat) (x8 : Option Addr) (l9 : Nat) (c10 : Nat) (R : Ending → Hp → Prop) : Hp → Prop :=
 NEW 26 [(.slice x1 l2 c3), (.int .i64 n4), (.slice x5 l6 c7), (.slice x8 l9 c10)] fun B11 =>
 NEWZ Pg 29 fun B12 =>
 RDL (Addr.add ⟨B11, 0, none⟩ 0) fun x13 l14 c15 =>
 RDI .i64 (Addr.add ⟨B11, 0, none⟩ 1) fun n16 =>
 RDL (Addr.add ⟨B11, 0, none⟩ 2) fun x17 l18 c19 =>
 RDL (Addr.add ⟨B11, 0, none⟩ 3) fun x20 l21 c22 =>
 CALL Pg W F_clock_open [(.agg #[(.slice x13 l14 c15), (.int .i64 n16), (.slice x17 l18 c19), (.slice x20 l21 c22)]), (.bool true)]
 (fun v23 => TYP v23 fun p25 =>
 CALL Pg W F_clock_clock_every [(.pointer p25)]
 (fun v26 => TYI .u64 v26 fun n28 =>
 CALL Pg W F_clock_clock_can [(.pointer p25), (.int .u64 n28)]
 (fun v29 => TYB v29 fun b31 =>
 CALL Pg W F_clock_need [(.bool (!b31)), (.int .i64 4)]
 (fun v32 => TUP v32 fun q34 => NL q34 <|
 SO p25 fun a35 =>
 RDL (Addr.add (Addr.add a35 0) 0) fun x36 l37 c38 =>
 L_clock_Wrong_0 W R ⟨B12, 0, none⟩ p25 (↑l37 : Int) 0 0)
 (fun e33 => DEF Pg W (.tuple #[(.func (.func 41) #[] #[(.pointer (some ⟨B12, 0, none⟩))]), (.tuple #[])]) (some e33) (RDI .i64 ⟨B12, 0, none⟩ fun n39 =>
 R (.returned (.tuple #[(.int .i64 0), (.int .i64 n39)])))))
 (fun e30 => DEF Pg W (.tuple #[(.func (.func 41) #[] #[(.pointer (some ⟨B12, 0, none⟩))]), (.tuple #[])]) (some e30) (RDI .i64 ⟨B12, 0, none⟩ fun n40 =>
 R (.returned (.tuple #[(.int .i64 0), (.int .i64 n40)])))))
 (fun e27 => DEF Pg W (.tuple #[(.func (.func 41) #[] #[(.pointer (some ⟨B12, 0, none⟩))]), (.tuple #[])]) (some e27) (RDI .i64 ⟨B12, 0, none⟩ fun n41 =>
 R (.returned (.tuple #[(.int .i64 0), (.int .i64 n41)])))))
 (fun e24 => DEF Pg W (.tuple #[(.func (.func 41) #[] #[(.pointer (some ⟨B12, 0, none⟩))]), (.tuple #[])]) (some e24) (RDI .i64 ⟨B12, 0, none⟩ fun n42 =>
 R (.returned (.tuple #[(.int .i64 0), (.int .i64 n42)]))))
theorem T_clock_Wrong_eq (W : World) (x1 : Option Addr) (l2 : Nat) (c3 : Nat) (n4 : Int) (x5 : Option Addr) (l6 : Nat) (c7 : Nat) (x8 : Option Addr) (l9 : Nat) (c10 : Nat) (R : Ending → Hp → Prop) : vfun Pg W an_12 Try.f12 [(.agg #[(.slice x1 l2 c3), (.int .i64 n4), (.slice x5 l6 c7), (.slice x8 l9 c10)])] R = T_clock_Wrong W x1 l2 c3 n4 x5 l6 c7 x8 l9 c10 R := by kernel_rfl
theorem does_clock_Wrong (W : World) (x1 : Option Addr) (l2 : Nat) (c3 : Nat) (n4 : Int) (x5 : Option Addr) (l6 : Nat) (c7 : Nat) (x8 : Option Addr) (l9 : Nat) (c10 : Nat) (R : Ending → Hp → Prop) (s : Hp) (h : T_clock_Wrong W x1 l2 c3 n4 x5 l6 c7 x8 l9 c10 R s) : Does Pg W F_clock_Wrong #[(.agg #[(.slice x1 l2 c3), (.int .i64 n4), (.slice x5 l6 c7), (.slice x8 l9 c10)])] s R :=
  does_of_vfun Pg W an_12 Try.func12 rfl (by kernel_rfl) (by rw [T_clock_Wrong_eq]; exact h)
def an_15 : Nat → Ann := fun b => match b with
 | _ => {}
abbrev rv_15 : List ResultVar := [.cell 4 34, .cell 5 29]
abbrev rs_15 : List Nat := [17, 4, 5]
def T_clock_When (W : World) (x1 : Option Addr) (l2 : Nat) (c3 : Nat) (n4 : Int) (x5 : Option Addr) (l6 : Nat) (c7 : Nat) (x8 : Option Addr) (l9 : Nat) (c10 : Nat) (n11 : Int) (R : Ending → Hp → Prop) : Hp → Prop :=
 NEW 26 [(.slice x1 l2 c3), (.int .i64 n4), (.slice x5 l6 c7), (.slice x8 l9 c10)] fun B12 =>
 NEW 3 [(.int .i64 n11)] fun B13 =>
 NEWZ Pg 34 fun B14 =>
 NEWZ Pg 29 fun B15 =>
 NEWZ Pg 96 fun B16 =>
 WR (Addr.add ⟨B16, 0, none⟩ 0) (.func (.func 46) #[] #[(.pointer (some ⟨B13, 0, none⟩))]) <|
 RDL (Addr.add ⟨B12, 0, none⟩ 0) fun x17 l18 c19 =>
 RDI .i64 (Addr.add ⟨B12, 0, none⟩ 1) fun n20 =>
 RDL (Addr.add ⟨B12, 0, none⟩ 2) fun x21 l22 c23 =>
 RDL (Addr.add ⟨B12, 0, none⟩ 3) fun x24 l25 c26 =>
 RDL (Addr.add ⟨B12, 0, none⟩ 0) fun x27 l28 c29 =>
 RDI .i64 (Addr.add ⟨B12, 0, none⟩ 1) fun n30 =>
 RDL (Addr.add ⟨B12, 0, none⟩ 2) fun x31 l32 c33 =>
 RDL (Addr.add ⟨B12, 0, none⟩ 3) fun x34 l35 c36 =>
 RDI .i64 ⟨B13, 0, none⟩ fun n37 =>
 RDV (Addr.add ⟨B16, 0, none⟩ 0) fun v38 =>
 CALL Pg W F_clock_isEvent [(.agg #[(.slice x27 l28 c29), (.int .i64 n30), (.slice x31 l32 c33), (.slice x34 l35 c36)]), (.int .i64 n37)]
 (fun v39 => TYB v39 fun b41 =>
 ANDS (RDV (Addr.add ⟨B16, 0, none⟩ 0) fun v42 =>
 fun _ => ((.agg #[v42]) : Value) = (.agg #[v38])) <|
 ANDS (RDL (Addr.add ⟨B12, 0, none⟩ 0) fun x43 l44 c45 =>
 RDI .i64 (Addr.add ⟨B12, 0, none⟩ 1) fun n46 =>
 RDL (Addr.add ⟨B12, 0, none⟩ 2) fun x47 l48 c49 =>
 RDL (Addr.add ⟨B12, 0, none⟩ 3) fun x50 l51 c52 =>
 fun _ => ((.agg #[(.slice x43 l44 c45), (.int .i64 n46), (.slice x47 l48 c49), (.slice x50 l51 c52)]) : Value) = (.agg #[(.slice x17 l18 c19), (.int .i64 n20), (.slice x21 l22 c23), (.slice x24 l25 c26)])) <|
 CALL Pg W F_clock_open [(.agg #[(.slice x17 l18 c19), (.int .i64 n20), (.slice x21 l22 c23), (.slice x24 l25 c26)]), (.bool b41)]
 (fun v53 => TYP v53 fun p55 =>
 ANDS (RDV (Addr.add ⟨B16, 0, none⟩ 0) fun v56 =>
 fun _ => ((.agg #[v56]) : Value) = (.agg #[v38])) <|
 CALL Pg W F_clock_clock_ask [(.pointer p55), (.agg #[v38])]
 (fun v57 => AGG v57 fun q59 => HD q59 fun v60 r61 => TYI .i64 v60 fun n62 =>
 HD r61 fun v63 r64 => TYI .i64 v63 fun n65 =>
 NL r64 <|
 WR (Addr.add ⟨B14, 0, none⟩ 0) (.int .i64 n62) <|
 WR (Addr.add ⟨B14, 0, none⟩ 1) (.int .i64 n65) <|
 WR (Addr.add ⟨B15, 0, none⟩ 0) (.int .i64 0) <|
 DEF Pg W (.tuple #[(.func (.func 45) #[] #[(.pointer (some ⟨B15, 0, none⟩))]), (.tuple #[])]) none
 (RDI .i64 (Addr.add ⟨B14, 0, none⟩ 0) fun n66 =>
 RDI .i64 (Addr.add ⟨B14, 0, none⟩ 1) fun n67 =>
 RDI .i64 ⟨B15, 0, none⟩ fun n68 =>
 R (.returned (.tuple #[(.agg #[(.int .i64 n66), (.int .i64 n67)]), (.int .i64 n68)]))))
 (fun e58 => DEF Pg W (.tuple #[(.func (.func 45) #[] #[(.pointer (some ⟨B15, 0, none⟩))]), (.tuple #[])]) (some e58) (RDI .i64 (Addr.add ⟨B14, 0, none⟩ 0) fun n69 =>
 RDI .i64 (Addr.add ⟨B14, 0, none⟩ 1) fun n70 =>
 RDI .i64 ⟨B15, 0, none⟩ fun n71 =>
 R (.returned (.tuple #[(.agg #[(.int .i64 n69), (.int .i64 n70)]), (.int .i64 n71)])))))
 (fun e54 => DEF Pg W (.tuple #[(.func (.func 45) #[] #[(.pointer (some ⟨B15, 0, none⟩))]), (.tuple #[])]) (some e54) (RDI .i64 (Addr.add ⟨B14, 0, none⟩ 0) fun n72 =>
 RDI .i64 (Addr.add ⟨B14, 0, none⟩ 1) fun n73 =>
 RDI .i64 ⟨B15, 0, none⟩ fun n74 =>
 R (.returned (.tuple #[(.agg #[(.int .i64 n72), (.int .i64 n73)]), (.int .i64 n74)])))))
 (fun e40 => DEF Pg W (.tuple #[(.func (.func 45) #[] #[(.pointer (some ⟨B15, 0, none⟩))]), (.tuple #[])]) (some e40) (RDI .i64 (Addr.add ⟨B14, 0, none⟩ 0) fun n75 =>
 RDI .i64 (Addr.add ⟨B14, 0, none⟩ 1) fun n76 =>
 RDI .i64 ⟨B15, 0, none⟩ fun n77 =>
 R (.returned (.tuple #[(.agg #[(.int .i64 n75), (.int .i64 n76)]), (.int .i64 n77)]))))
theorem T_clock_When_eq (W : World) (x1 : Option Addr) (l2 : Nat) (c3 : Nat) (n4 : Int) (x5 : Option Addr) (l6 : Nat) (c7 : Nat) (x8 : Option Addr) (l9 : Nat) (c10 : Nat) (n11 : Int) (R : Ending → Hp → Prop) : vfun Pg W an_15 Try.f15 [(.agg #[(.slice x1 l2 c3), (.int .i64 n4), (.slice x5 l6 c7), (.slice x8 l9 c10)]), (.int .i64 n11)] R = T_clock_When W x1 l2 c3 n4 x5 l6 c7 x8 l9 c10 n11 R := by kernel_rfl
theorem does_clock_When (W : World) (x1 : Option Addr) (l2 : Nat) (c3 : Nat) (n4 : Int) (x5 : Option Addr) (l6 : Nat) (c7 : Nat) (x8 : Option Addr) (l9 : Nat) (c10 : Nat) (n11 : Int) (R : Ending → Hp → Prop) (s : Hp) (h : T_clock_When W x1 l2 c3 n4 x5 l6 c7 x8 l9 c10 n11 R s) : Does Pg W F_clock_When #[(.agg #[(.slice x1 l2 c3), (.int .i64 n4), (.slice x5 l6 c7), (.slice x8 l9 c10)]), (.int .i64 n11)] s R :=
  does_of_vfun Pg W an_15 Try.func15 rfl (by kernel_rfl) (by rw [T_clock_When_eq]; exact h)
def an_21 : Nat → Ann := fun b => match b with
 | _ => {}
abbrev rv_21 : List ResultVar := [.cell 6 34, .cell 7 29]
abbrev rs_21 : List Nat := [24, 6, 7]
def J_clock_Lasted_0 (W : World) (R : Ending → Hp → Prop) (x80 : Option Addr) (l81 : Nat) (c82 : Nat) (n83 : Int) (x84 : Option Addr) (l85 : Nat) (c86 : Nat) (x87 : Option Addr) (l88 : Nat) (c89 : Nat) (b113 : Bool) (B18 : Nat) (v114 : Value) (B16 : Nat) (B17 : Nat) : Hp → Prop :=
 CALL Pg W F_clock_open [(.agg #[(.slice x80 l81 c82), (.int .i64 n83), (.slice x84 l85 c86), (.slice x87 l88 c89)]), (.bool b113)]
 (fun v115 => TYP v115 fun p117 =>
 ANDS (RDV (Addr.add ⟨B18, 0, none⟩ 0) fun v118 =>
 fun _ => ((.agg #[v118]) : Value) = (.agg #[v114])) <|
 CALL Pg W F_clock_clock_ask [(.pointer p117), (.agg #[v114])]
 (fun v119 => AGG v119 fun q121 => HD q121 fun v122 r123 => TYI .i64 v122 fun n124 =>
 HD r123 fun v125 r126 => TYI .i64 v125 fun n127 =>
 NL r126 <|
 WR (Addr.add ⟨B16, 0, none⟩ 0) (.int .i64 n124) <|
 WR (Addr.add ⟨B16, 0, none⟩ 1) (.int .i64 n127) <|
 WR (Addr.add ⟨B17, 0, none⟩ 0) (.int .i64 0) <|
 DEF Pg W (.tuple #[(.func (.func 51) #[] #[(.pointer (some ⟨B17, 0, none⟩))]), (.tuple #[])]) none
 (RDI .i64 (Addr.add ⟨B16, 0, none⟩ 0) fun n128 =>
 RDI .i64 (Addr.add ⟨B16, 0, none⟩ 1) fun n129 =>
 RDI .i64 ⟨B17, 0, none⟩ fun n130 =>
 R (.returned (.tuple #[(.agg #[(.int .i64 n128), (.int .i64 n129)]), (.int .i64 n130)]))))
 (fun e120 => DEF Pg W (.tuple #[(.func (.func 51) #[] #[(.pointer (some ⟨B17, 0, none⟩))]), (.tuple #[])]) (some e120) (RDI .i64 (Addr.add ⟨B16, 0, none⟩ 0) fun n131 =>
 RDI .i64 (Addr.add ⟨B16, 0, none⟩ 1) fun n132 =>
 RDI .i64 ⟨B17, 0, none⟩ fun n133 =>
 R (.returned (.tuple #[(.agg #[(.int .i64 n131), (.int .i64 n132)]), (.int .i64 n133)])))))
 (fun e116 => DEF Pg W (.tuple #[(.func (.func 51) #[] #[(.pointer (some ⟨B17, 0, none⟩))]), (.tuple #[])]) (some e116) (RDI .i64 (Addr.add ⟨B16, 0, none⟩ 0) fun n134 =>
 RDI .i64 (Addr.add ⟨B16, 0, none⟩ 1) fun n135 =>
 RDI .i64 ⟨B17, 0, none⟩ fun n136 =>
 R (.returned (.tuple #[(.agg #[(.int .i64 n134), (.int .i64 n135)]), (.int .i64 n136)]))))
def T_clock_Lasted (W : World) (x1 : Option Addr) (l2 : Nat) (c3 : Nat) (n4 : Int) (x5 : Option Addr) (l6 : Nat) (c7 : Nat) (x8 : Option Addr) (l9 : Nat) (c10 : Nat) (n11 : Int) (n12 : Int) (R : Ending → Hp → Prop) : Hp → Prop :=
 NEW 26 [(.slice x1 l2 c3), (.int .i64 n4), (.slice x5 l6 c7), (.slice x8 l9 c10)] fun B13 =>
 NEW 3 [(.int .i64 n11)] fun B14 =>
 NEW 3 [(.int .i64 n12)] fun B15 =>
 NEWZ Pg 34 fun B16 =>
 NEWZ Pg 29 fun B17 =>
 NEWZ Pg 96 fun B18 =>
 WR (Addr.add ⟨B18, 0, none⟩ 0) (.func (.func 52) #[] #[(.pointer (some ⟨B14, 0, none⟩)), (.pointer (some ⟨B15, 0, none⟩))]) <|
 RDL (Addr.add ⟨B13, 0, none⟩ 0) fun x19 l20 c21 =>
 RDI .i64 (Addr.add ⟨B13, 0, none⟩ 1) fun n22 =>
 RDL (Addr.add ⟨B13, 0, none⟩ 2) fun x23 l24 c25 =>
 RDL (Addr.add ⟨B13, 0, none⟩ 3) fun x26 l27 c28 =>
 RDL (Addr.add ⟨B13, 0, none⟩ 0) fun x29 l30 c31 =>
 RDI .i64 (Addr.add ⟨B13, 0, none⟩ 1) fun n32 =>
 RDL (Addr.add ⟨B13, 0, none⟩ 2) fun x33 l34 c35 =>
 RDL (Addr.add ⟨B13, 0, none⟩ 3) fun x36 l37 c38 =>
 RDI .i64 ⟨B14, 0, none⟩ fun n39 =>
 RDV (Addr.add ⟨B18, 0, none⟩ 0) fun v40 =>
 CALL Pg W F_clock_isEvent [(.agg #[(.slice x29 l30 c31), (.int .i64 n32), (.slice x33 l34 c35), (.slice x36 l37 c38)]), (.int .i64 n39)]
 (fun v41 => TYB v41 fun b43 =>
 ANDS (RDV (Addr.add ⟨B18, 0, none⟩ 0) fun v44 =>
 fun _ => ((.agg #[v44]) : Value) = (.agg #[v40])) <|
 ANDS (RDL (Addr.add ⟨B13, 0, none⟩ 0) fun x45 l46 c47 =>
 RDI .i64 (Addr.add ⟨B13, 0, none⟩ 1) fun n48 =>
 RDL (Addr.add ⟨B13, 0, none⟩ 2) fun x49 l50 c51 =>
 RDL (Addr.add ⟨B13, 0, none⟩ 3) fun x52 l53 c54 =>
 fun _ => ((.agg #[(.slice x45 l46 c47), (.int .i64 n48), (.slice x49 l50 c51), (.slice x52 l53 c54)]) : Value) = (.agg #[(.slice x19 l20 c21), (.int .i64 n22), (.slice x23 l24 c25), (.slice x26 l27 c28)])) <|
 BR b43
 (RDL (Addr.add ⟨B13, 0, none⟩ 0) fun x55 l56 c57 =>
 RDI .i64 (Addr.add ⟨B13, 0, none⟩ 1) fun n58 =>
 RDL (Addr.add ⟨B13, 0, none⟩ 2) fun x59 l60 c61 =>
 RDL (Addr.add ⟨B13, 0, none⟩ 3) fun x62 l63 c64 =>
 RDI .i64 ⟨B15, 0, none⟩ fun n65 =>
 CALL Pg W F_clock_isEvent [(.agg #[(.slice x55 l56 c57), (.int .i64 n58), (.slice x59 l60 c61), (.slice x62 l63 c64)]), (.int .i64 n65)]
 (fun v66 => TYB v66 fun b68 =>
 ANDS (RDV (Addr.add ⟨B18, 0, none⟩ 0) fun v69 =>
 fun _ => ((.agg #[v69]) : Value) = (.agg #[v40])) <|
 ANDS (RDL (Addr.add ⟨B13, 0, none⟩ 0) fun x70 l71 c72 =>
 RDI .i64 (Addr.add ⟨B13, 0, none⟩ 1) fun n73 =>
 RDL (Addr.add ⟨B13, 0, none⟩ 2) fun x74 l75 c76 =>
 RDL (Addr.add ⟨B13, 0, none⟩ 3) fun x77 l78 c79 =>
 fun _ => ((.agg #[(.slice x70 l71 c72), (.int .i64 n73), (.slice x74 l75 c76), (.slice x77 l78 c79)]) : Value) = (.agg #[(.slice x19 l20 c21), (.int .i64 n22), (.slice x23 l24 c25), (.slice x26 l27 c28)])) <|
 J_clock_Lasted_0 W R x19 l20 c21 n22 x23 l24 c25 x26 l27 c28 b68 B18 v40 B16 B17)
 (fun e67 => DEF Pg W (.tuple #[(.func (.func 51) #[] #[(.pointer (some ⟨B17, 0, none⟩))]), (.tuple #[])]) (some e67) (RDI .i64 (Addr.add ⟨B16, 0, none⟩ 0) fun n137 =>
 RDI .i64 (Addr.add ⟨B16, 0, none⟩ 1) fun n138 =>
 RDI .i64 ⟨B17, 0, none⟩ fun n139 =>
 R (.returned (.tuple #[(.agg #[(.int .i64 n137), (.int .i64 n138)]), (.int .i64 n139)])))))
 (J_clock_Lasted_0 W R x19 l20 c21 n22 x23 l24 c25 x26 l27 c28 false B18 v40 B16 B17))
 (fun e42 => DEF Pg W (.tuple #[(.func (.func 51) #[] #[(.pointer (some ⟨B17, 0, none⟩))]), (.tuple #[])]) (some e42) (RDI .i64 (Addr.add ⟨B16, 0, none⟩ 0) fun n140 =>
 RDI .i64 (Addr.add ⟨B16, 0, none⟩ 1) fun n141 =>
 RDI .i64 ⟨B17, 0, none⟩ fun n142 =>
 R (.returned (.tuple #[(.agg #[(.int .i64 n140), (.int .i64 n141)]), (.int .i64 n142)]))))
theorem T_clock_Lasted_eq (W : World) (x1 : Option Addr) (l2 : Nat) (c3 : Nat) (n4 : Int) (x5 : Option Addr) (l6 : Nat) (c7 : Nat) (x8 : Option Addr) (l9 : Nat) (c10 : Nat) (n11 : Int) (n12 : Int) (R : Ending → Hp → Prop) : vfun Pg W an_21 Try.f21 [(.agg #[(.slice x1 l2 c3), (.int .i64 n4), (.slice x5 l6 c7), (.slice x8 l9 c10)]), (.int .i64 n11), (.int .i64 n12)] R = T_clock_Lasted W x1 l2 c3 n4 x5 l6 c7 x8 l9 c10 n11 n12 R := by kernel_rfl
theorem does_clock_Lasted (W : World) (x1 : Option Addr) (l2 : Nat) (c3 : Nat) (n4 : Int) (x5 : Option Addr) (l6 : Nat) (c7 : Nat) (x8 : Option Addr) (l9 : Nat) (c10 : Nat) (n11 : Int) (n12 : Int) (R : Ending → Hp → Prop) (s : Hp) (h : T_clock_Lasted W x1 l2 c3 n4 x5 l6 c7 x8 l9 c10 n11 n12 R s) : Does Pg W F_clock_Lasted #[(.agg #[(.slice x1 l2 c3), (.int .i64 n4), (.slice x5 l6 c7), (.slice x8 l9 c10)]), (.int .i64 n11), (.int .i64 n12)] s R :=
  does_of_vfun Pg W an_21 Try.func21 rfl (by kernel_rfl) (by rw [T_clock_Lasted_eq]; exact h)
def an_22 : Nat → Ann := fun b => match b with
 | _ => {}
abbrev rv_22 : List ResultVar := [.tmp 6, .tmp 7]
abbrev rs_22 : List Nat := [29, 6, 7]
def J_clock_First_0 (W : World) (R : Ending → Hp → Prop) (b40 : Bool) (n38 : Int) (B39 : Nat) : Hp → Prop :=
 BR b40
 (R (.returned (.tuple #[(.int .i64 0), (.int .i64 n38)])))
 (RDI .i64 (Addr.add ⟨B39, 0, none⟩ 0) fun n41 =>
 BR (decide (n41 > 0))
 (R (.returned (.tuple #[(.int .i64 2), (.int .i64 0)])))
 (R (.returned (.tuple #[(.int .i64 1), (.int .i64 0)]))))
def T_clock_First (W : World) (x1 : Option Addr) (l2 : Nat) (c3 : Nat) (n4 : Int) (x5 : Option Addr) (l6 : Nat) (c7 : Nat) (x8 : Option Addr) (l9 : Nat) (c10 : Nat) (n11 : Int) (n12 : Int) (R : Ending → Hp → Prop) : Hp → Prop :=
 NEW 26 [(.slice x1 l2 c3), (.int .i64 n4), (.slice x5 l6 c7), (.slice x8 l9 c10)] fun B13 =>
 RDL (Addr.add ⟨B13, 0, none⟩ 0) fun x14 l15 c16 =>
 RDI .i64 (Addr.add ⟨B13, 0, none⟩ 1) fun n17 =>
 RDL (Addr.add ⟨B13, 0, none⟩ 2) fun x18 l19 c20 =>
 RDL (Addr.add ⟨B13, 0, none⟩ 3) fun x21 l22 c23 =>
 CALL Pg W F_clock_Lasted [(.agg #[(.slice x14 l15 c16), (.int .i64 n17), (.slice x18 l19 c20), (.slice x21 l22 c23)]), (.int .i64 n11), (.int .i64 n12)]
 (fun v24 => TUP v24 fun q26 => HD q26 fun v27 r28 => AGG v27 fun q29 => HD q29 fun v30 r31 => TYI .i64 v30 fun n32 =>
 HD r31 fun v33 r34 => TYI .i64 v33 fun n35 =>
 NL r34 <|
 HD r28 fun v36 r37 => TYI .i64 v36 fun n38 =>
 NL r37 <|
 NEWZ Pg 34 fun B39 =>
 WR (Addr.add ⟨B39, 0, none⟩ 0) (.int .i64 n32) <|
 WR (Addr.add ⟨B39, 0, none⟩ 1) (.int .i64 n35) <|
 BR (n38 != 0)
 (J_clock_First_0 W R true n38 B39)
 (RDI .i64 (Addr.add ⟨B39, 0, none⟩ 1) fun n42 =>
 J_clock_First_0 W R (decide (n42 ≤ 0)) n38 B39))
 (fun e25 => R (.panicked e25))
theorem T_clock_First_eq (W : World) (x1 : Option Addr) (l2 : Nat) (c3 : Nat) (n4 : Int) (x5 : Option Addr) (l6 : Nat) (c7 : Nat) (x8 : Option Addr) (l9 : Nat) (c10 : Nat) (n11 : Int) (n12 : Int) (R : Ending → Hp → Prop) : vfun Pg W an_22 Try.f22 [(.agg #[(.slice x1 l2 c3), (.int .i64 n4), (.slice x5 l6 c7), (.slice x8 l9 c10)]), (.int .i64 n11), (.int .i64 n12)] R = T_clock_First W x1 l2 c3 n4 x5 l6 c7 x8 l9 c10 n11 n12 R := by kernel_rfl
theorem does_clock_First (W : World) (x1 : Option Addr) (l2 : Nat) (c3 : Nat) (n4 : Int) (x5 : Option Addr) (l6 : Nat) (c7 : Nat) (x8 : Option Addr) (l9 : Nat) (c10 : Nat) (n11 : Int) (n12 : Int) (R : Ending → Hp → Prop) (s : Hp) (h : T_clock_First W x1 l2 c3 n4 x5 l6 c7 x8 l9 c10 n11 n12 R s) : Does Pg W F_clock_First #[(.agg #[(.slice x1 l2 c3), (.int .i64 n4), (.slice x5 l6 c7), (.slice x8 l9 c10)]), (.int .i64 n11), (.int .i64 n12)] s R :=
  does_of_vfun Pg W an_22 Try.func22 rfl (by kernel_rfl) (by rw [T_clock_First_eq]; exact h)
def an_23 : Nat → Ann := fun b => match b with
 | _ => {}
abbrev rv_23 : List ResultVar := [.cell 6 34, .cell 7 29]
abbrev rs_23 : List Nat := [24, 6, 7]
def J_clock_Shows_0 (W : World) (R : Ending → Hp → Prop) (x80 : Option Addr) (l81 : Nat) (c82 : Nat) (n83 : Int) (x84 : Option Addr) (l85 : Nat) (c86 : Nat) (x87 : Option Addr) (l88 : Nat) (c89 : Nat) (b113 : Bool) (B18 : Nat) (v114 : Value) (B16 : Nat) (B17 : Nat) : Hp → Prop :=
 CALL Pg W F_clock_open [(.agg #[(.slice x80 l81 c82), (.int .i64 n83), (.slice x84 l85 c86), (.slice x87 l88 c89)]), (.bool b113)]
 (fun v115 => TYP v115 fun p117 =>
 ANDS (RDV (Addr.add ⟨B18, 0, none⟩ 0) fun v118 =>
 fun _ => ((.agg #[v118]) : Value) = (.agg #[v114])) <|
 CALL Pg W F_clock_clock_ask [(.pointer p117), (.agg #[v114])]
 (fun v119 => AGG v119 fun q121 => HD q121 fun v122 r123 => TYI .i64 v122 fun n124 =>
 HD r123 fun v125 r126 => TYI .i64 v125 fun n127 =>
 NL r126 <|
 WR (Addr.add ⟨B16, 0, none⟩ 0) (.int .i64 n124) <|
 WR (Addr.add ⟨B16, 0, none⟩ 1) (.int .i64 n127) <|
 WR (Addr.add ⟨B17, 0, none⟩ 0) (.int .i64 0) <|
 DEF Pg W (.tuple #[(.func (.func 53) #[] #[(.pointer (some ⟨B17, 0, none⟩))]), (.tuple #[])]) none
 (RDI .i64 (Addr.add ⟨B16, 0, none⟩ 0) fun n128 =>
 RDI .i64 (Addr.add ⟨B16, 0, none⟩ 1) fun n129 =>
 RDI .i64 ⟨B17, 0, none⟩ fun n130 =>
 R (.returned (.tuple #[(.agg #[(.int .i64 n128), (.int .i64 n129)]), (.int .i64 n130)]))))
 (fun e120 => DEF Pg W (.tuple #[(.func (.func 53) #[] #[(.pointer (some ⟨B17, 0, none⟩))]), (.tuple #[])]) (some e120) (RDI .i64 (Addr.add ⟨B16, 0, none⟩ 0) fun n131 =>
 RDI .i64 (Addr.add ⟨B16, 0, none⟩ 1) fun n132 =>
 RDI .i64 ⟨B17, 0, none⟩ fun n133 =>
 R (.returned (.tuple #[(.agg #[(.int .i64 n131), (.int .i64 n132)]), (.int .i64 n133)])))))
 (fun e116 => DEF Pg W (.tuple #[(.func (.func 53) #[] #[(.pointer (some ⟨B17, 0, none⟩))]), (.tuple #[])]) (some e116) (RDI .i64 (Addr.add ⟨B16, 0, none⟩ 0) fun n134 =>
 RDI .i64 (Addr.add ⟨B16, 0, none⟩ 1) fun n135 =>
 RDI .i64 ⟨B17, 0, none⟩ fun n136 =>
 R (.returned (.tuple #[(.agg #[(.int .i64 n134), (.int .i64 n135)]), (.int .i64 n136)]))))
def T_clock_Shows (W : World) (x1 : Option Addr) (l2 : Nat) (c3 : Nat) (n4 : Int) (x5 : Option Addr) (l6 : Nat) (c7 : Nat) (x8 : Option Addr) (l9 : Nat) (c10 : Nat) (n11 : Int) (n12 : Int) (R : Ending → Hp → Prop) : Hp → Prop :=
 NEW 26 [(.slice x1 l2 c3), (.int .i64 n4), (.slice x5 l6 c7), (.slice x8 l9 c10)] fun B13 =>
 NEW 3 [(.int .i64 n11)] fun B14 =>
 NEW 3 [(.int .i64 n12)] fun B15 =>
 NEWZ Pg 34 fun B16 =>
 NEWZ Pg 29 fun B17 =>
 NEWZ Pg 96 fun B18 =>
 WR (Addr.add ⟨B18, 0, none⟩ 0) (.func (.func 54) #[] #[(.pointer (some ⟨B15, 0, none⟩)), (.pointer (some ⟨B14, 0, none⟩))]) <|
 RDL (Addr.add ⟨B13, 0, none⟩ 0) fun x19 l20 c21 =>
 RDI .i64 (Addr.add ⟨B13, 0, none⟩ 1) fun n22 =>
 RDL (Addr.add ⟨B13, 0, none⟩ 2) fun x23 l24 c25 =>
 RDL (Addr.add ⟨B13, 0, none⟩ 3) fun x26 l27 c28 =>
 RDL (Addr.add ⟨B13, 0, none⟩ 0) fun x29 l30 c31 =>
 RDI .i64 (Addr.add ⟨B13, 0, none⟩ 1) fun n32 =>
 RDL (Addr.add ⟨B13, 0, none⟩ 2) fun x33 l34 c35 =>
 RDL (Addr.add ⟨B13, 0, none⟩ 3) fun x36 l37 c38 =>
 RDI .i64 ⟨B14, 0, none⟩ fun n39 =>
 RDV (Addr.add ⟨B18, 0, none⟩ 0) fun v40 =>
 CALL Pg W F_clock_isWatch [(.agg #[(.slice x29 l30 c31), (.int .i64 n32), (.slice x33 l34 c35), (.slice x36 l37 c38)]), (.int .i64 n39)]
 (fun v41 => TYB v41 fun b43 =>
 ANDS (RDV (Addr.add ⟨B18, 0, none⟩ 0) fun v44 =>
 fun _ => ((.agg #[v44]) : Value) = (.agg #[v40])) <|
 ANDS (RDL (Addr.add ⟨B13, 0, none⟩ 0) fun x45 l46 c47 =>
 RDI .i64 (Addr.add ⟨B13, 0, none⟩ 1) fun n48 =>
 RDL (Addr.add ⟨B13, 0, none⟩ 2) fun x49 l50 c51 =>
 RDL (Addr.add ⟨B13, 0, none⟩ 3) fun x52 l53 c54 =>
 fun _ => ((.agg #[(.slice x45 l46 c47), (.int .i64 n48), (.slice x49 l50 c51), (.slice x52 l53 c54)]) : Value) = (.agg #[(.slice x19 l20 c21), (.int .i64 n22), (.slice x23 l24 c25), (.slice x26 l27 c28)])) <|
 BR b43
 (RDL (Addr.add ⟨B13, 0, none⟩ 0) fun x55 l56 c57 =>
 RDI .i64 (Addr.add ⟨B13, 0, none⟩ 1) fun n58 =>
 RDL (Addr.add ⟨B13, 0, none⟩ 2) fun x59 l60 c61 =>
 RDL (Addr.add ⟨B13, 0, none⟩ 3) fun x62 l63 c64 =>
 RDI .i64 ⟨B15, 0, none⟩ fun n65 =>
 CALL Pg W F_clock_isEvent [(.agg #[(.slice x55 l56 c57), (.int .i64 n58), (.slice x59 l60 c61), (.slice x62 l63 c64)]), (.int .i64 n65)]
 (fun v66 => TYB v66 fun b68 =>
 ANDS (RDV (Addr.add ⟨B18, 0, none⟩ 0) fun v69 =>
 fun _ => ((.agg #[v69]) : Value) = (.agg #[v40])) <|
 ANDS (RDL (Addr.add ⟨B13, 0, none⟩ 0) fun x70 l71 c72 =>
 RDI .i64 (Addr.add ⟨B13, 0, none⟩ 1) fun n73 =>
 RDL (Addr.add ⟨B13, 0, none⟩ 2) fun x74 l75 c76 =>
 RDL (Addr.add ⟨B13, 0, none⟩ 3) fun x77 l78 c79 =>
 fun _ => ((.agg #[(.slice x70 l71 c72), (.int .i64 n73), (.slice x74 l75 c76), (.slice x77 l78 c79)]) : Value) = (.agg #[(.slice x19 l20 c21), (.int .i64 n22), (.slice x23 l24 c25), (.slice x26 l27 c28)])) <|
 J_clock_Shows_0 W R x19 l20 c21 n22 x23 l24 c25 x26 l27 c28 b68 B18 v40 B16 B17)
 (fun e67 => DEF Pg W (.tuple #[(.func (.func 53) #[] #[(.pointer (some ⟨B17, 0, none⟩))]), (.tuple #[])]) (some e67) (RDI .i64 (Addr.add ⟨B16, 0, none⟩ 0) fun n137 =>
 RDI .i64 (Addr.add ⟨B16, 0, none⟩ 1) fun n138 =>
 RDI .i64 ⟨B17, 0, none⟩ fun n139 =>
 R (.returned (.tuple #[(.agg #[(.int .i64 n137), (.int .i64 n138)]), (.int .i64 n139)])))))
 (J_clock_Shows_0 W R x19 l20 c21 n22 x23 l24 c25 x26 l27 c28 false B18 v40 B16 B17))
 (fun e42 => DEF Pg W (.tuple #[(.func (.func 53) #[] #[(.pointer (some ⟨B17, 0, none⟩))]), (.tuple #[])]) (some e42) (RDI .i64 (Addr.add ⟨B16, 0, none⟩ 0) fun n140 =>
 RDI .i64 (Addr.add ⟨B16, 0, none⟩ 1) fun n141 =>
 RDI .i64 ⟨B17, 0, none⟩ fun n142 =>
 R (.returned (.tuple #[(.agg #[(.int .i64 n140), (.int .i64 n141)]), (.int .i64 n142)]))))
theorem T_clock_Shows_eq (W : World) (x1 : Option Addr) (l2 : Nat) (c3 : Nat) (n4 : Int) (x5 : Option Addr) (l6 : Nat) (c7 : Nat) (x8 : Option Addr) (l9 : Nat) (c10 : Nat) (n11 : Int) (n12 : Int) (R : Ending → Hp → Prop) : vfun Pg W an_23 Try.f23 [(.agg #[(.slice x1 l2 c3), (.int .i64 n4), (.slice x5 l6 c7), (.slice x8 l9 c10)]), (.int .i64 n11), (.int .i64 n12)] R = T_clock_Shows W x1 l2 c3 n4 x5 l6 c7 x8 l9 c10 n11 n12 R := by kernel_rfl
theorem does_clock_Shows (W : World) (x1 : Option Addr) (l2 : Nat) (c3 : Nat) (n4 : Int) (x5 : Option Addr) (l6 : Nat) (c7 : Nat) (x8 : Option Addr) (l9 : Nat) (c10 : Nat) (n11 : Int) (n12 : Int) (R : Ending → Hp → Prop) (s : Hp) (h : T_clock_Shows W x1 l2 c3 n4 x5 l6 c7 x8 l9 c10 n11 n12 R s) : Does Pg W F_clock_Shows #[(.agg #[(.slice x1 l2 c3), (.int .i64 n4), (.slice x5 l6 c7), (.slice x8 l9 c10)]), (.int .i64 n11), (.int .i64 n12)] s R :=
  does_of_vfun Pg W an_23 Try.func23 rfl (by kernel_rfl) (by rw [T_clock_Shows_eq]; exact h)
def an_29 : Nat → Ann := fun b => match b with
 | _ => {}
abbrev rv_29 : List ResultVar := [.cell 4 34, .cell 5 34, .cell 6 29]
abbrev rs_29 : List Nat := [27, 4, 5, 6]
def T_clock_Goes (W : World) (x1 : Option Addr) (l2 : Nat) (c3 : Nat) (n4 : Int) (x5 : Option Addr) (l6 : Nat) (c7 : Nat) (x8 : Option Addr) (l9 : Nat) (c10 : Nat) (n11 : Int) (R : Ending → Hp → Prop) : Hp → Prop :=
 NEW 26 [(.slice x1 l2 c3), (.int .i64 n4), (.slice x5 l6 c7), (.slice x8 l9 c10)] fun B12 =>
 NEW 3 [(.int .i64 n11)] fun B13 =>
 NEWZ Pg 34 fun B14 =>
 NEWZ Pg 34 fun B15 =>
 NEWZ Pg 29 fun B16 =>
 RDL (Addr.add ⟨B12, 0, none⟩ 0) fun x17 l18 c19 =>
 RDI .i64 (Addr.add ⟨B12, 0, none⟩ 1) fun n20 =>
 RDL (Addr.add ⟨B12, 0, none⟩ 2) fun x21 l22 c23 =>
 RDL (Addr.add ⟨B12, 0, none⟩ 3) fun x24 l25 c26 =>
 RDL (Addr.add ⟨B12, 0, none⟩ 0) fun x27 l28 c29 =>
 RDI .i64 (Addr.add ⟨B12, 0, none⟩ 1) fun n30 =>
 RDL (Addr.add ⟨B12, 0, none⟩ 2) fun x31 l32 c33 =>
 RDL (Addr.add ⟨B12, 0, none⟩ 3) fun x34 l35 c36 =>
 RDI .i64 ⟨B13, 0, none⟩ fun n37 =>
 CALL Pg W F_clock_isWatch [(.agg #[(.slice x27 l28 c29), (.int .i64 n30), (.slice x31 l32 c33), (.slice x34 l35 c36)]), (.int .i64 n37)]
 (fun v38 => TYB v38 fun b40 =>
 ANDS (RDL (Addr.add ⟨B12, 0, none⟩ 0) fun x41 l42 c43 =>
 RDI .i64 (Addr.add ⟨B12, 0, none⟩ 1) fun n44 =>
 RDL (Addr.add ⟨B12, 0, none⟩ 2) fun x45 l46 c47 =>
 RDL (Addr.add ⟨B12, 0, none⟩ 3) fun x48 l49 c50 =>
 fun _ => ((.agg #[(.slice x41 l42 c43), (.int .i64 n44), (.slice x45 l46 c47), (.slice x48 l49 c50)]) : Value) = (.agg #[(.slice x17 l18 c19), (.int .i64 n20), (.slice x21 l22 c23), (.slice x24 l25 c26)])) <|
 CALL Pg W F_clock_open [(.agg #[(.slice x17 l18 c19), (.int .i64 n20), (.slice x21 l22 c23), (.slice x24 l25 c26)]), (.bool b40)]
 (fun v51 => TYP v51 fun p53 =>
 NEWZ Pg 99 fun B54 =>
 WR (Addr.add ⟨B54, 0, none⟩ 0) (.func (.func 59) #[] #[]) <|
 CALL Pg W F_clock_clock_ask [(.pointer p53), (.agg #[(.func (.func 60) #[] #[(.pointer (some ⟨B54, 0, none⟩)), (.pointer (some ⟨B13, 0, none⟩))])])]
 (fun v55 => AGG v55 fun q57 => HD q57 fun v58 r59 => TYI .i64 v58 fun n60 =>
 HD r59 fun v61 r62 => TYI .i64 v61 fun n63 =>
 NL r62 <|
 NEWZ Pg 34 fun B64 =>
 WR (Addr.add ⟨B64, 0, none⟩ 0) (.int .i64 n60) <|
 WR (Addr.add ⟨B64, 0, none⟩ 1) (.int .i64 n63) <|
 CALL Pg W F_clock_clock_ask [(.pointer p53), (.agg #[(.func (.func 61) #[] #[(.pointer (some ⟨B54, 0, none⟩)), (.pointer (some ⟨B13, 0, none⟩))])])]
 (fun v65 => AGG v65 fun q67 => HD q67 fun v68 r69 => TYI .i64 v68 fun n70 =>
 HD r69 fun v71 r72 => TYI .i64 v71 fun n73 =>
 NL r72 <|
 NEWZ Pg 34 fun B74 =>
 WR (Addr.add ⟨B74, 0, none⟩ 0) (.int .i64 n70) <|
 WR (Addr.add ⟨B74, 0, none⟩ 1) (.int .i64 n73) <|
 RDI .i64 (Addr.add ⟨B64, 0, none⟩ 0) fun n75 =>
 RDI .i64 (Addr.add ⟨B64, 0, none⟩ 1) fun n76 =>
 RDI .i64 (Addr.add ⟨B74, 0, none⟩ 0) fun n77 =>
 RDI .i64 (Addr.add ⟨B74, 0, none⟩ 1) fun n78 =>
 WR (Addr.add ⟨B14, 0, none⟩ 0) (.int .i64 n75) <|
 WR (Addr.add ⟨B14, 0, none⟩ 1) (.int .i64 n76) <|
 ANDS (RDI .i64 (Addr.add ⟨B74, 0, none⟩ 0) fun n79 =>
 RDI .i64 (Addr.add ⟨B74, 0, none⟩ 1) fun n80 =>
 fun _ => ((.agg #[(.int .i64 n79), (.int .i64 n80)]) : Value) = (.agg #[(.int .i64 n77), (.int .i64 n78)])) <|
 WR (Addr.add ⟨B15, 0, none⟩ 0) (.int .i64 n77) <|
 WR (Addr.add ⟨B15, 0, none⟩ 1) (.int .i64 n78) <|
 WR (Addr.add ⟨B16, 0, none⟩ 0) (.int .i64 0) <|
 DEF Pg W (.tuple #[(.func (.func 58) #[] #[(.pointer (some ⟨B16, 0, none⟩))]), (.tuple #[])]) none
 (RDI .i64 (Addr.add ⟨B14, 0, none⟩ 0) fun n81 =>
 RDI .i64 (Addr.add ⟨B14, 0, none⟩ 1) fun n82 =>
 RDI .i64 (Addr.add ⟨B15, 0, none⟩ 0) fun n83 =>
 RDI .i64 (Addr.add ⟨B15, 0, none⟩ 1) fun n84 =>
 RDI .i64 ⟨B16, 0, none⟩ fun n85 =>
 R (.returned (.tuple #[(.agg #[(.int .i64 n81), (.int .i64 n82)]), (.agg #[(.int .i64 n83), (.int .i64 n84)]), (.int .i64 n85)]))))
 (fun e66 => DEF Pg W (.tuple #[(.func (.func 58) #[] #[(.pointer (some ⟨B16, 0, none⟩))]), (.tuple #[])]) (some e66) (RDI .i64 (Addr.add ⟨B14, 0, none⟩ 0) fun n86 =>
 RDI .i64 (Addr.add ⟨B14, 0, none⟩ 1) fun n87 =>
 RDI .i64 (Addr.add ⟨B15, 0, none⟩ 0) fun n88 =>
 RDI .i64 (Addr.add ⟨B15, 0, none⟩ 1) fun n89 =>
 RDI .i64 ⟨B16, 0, none⟩ fun n90 =>
 R (.returned (.tuple #[(.agg #[(.int .i64 n86), (.int .i64 n87)]), (.agg #[(.int .i64 n88), (.int .i64 n89)]), (.int .i64 n90)])))))
 (fun e56 => DEF Pg W (.tuple #[(.func (.func 58) #[] #[(.pointer (some ⟨B16, 0, none⟩))]), (.tuple #[])]) (some e56) (RDI .i64 (Addr.add ⟨B14, 0, none⟩ 0) fun n91 =>
 RDI .i64 (Addr.add ⟨B14, 0, none⟩ 1) fun n92 =>
 RDI .i64 (Addr.add ⟨B15, 0, none⟩ 0) fun n93 =>
 RDI .i64 (Addr.add ⟨B15, 0, none⟩ 1) fun n94 =>
 RDI .i64 ⟨B16, 0, none⟩ fun n95 =>
 R (.returned (.tuple #[(.agg #[(.int .i64 n91), (.int .i64 n92)]), (.agg #[(.int .i64 n93), (.int .i64 n94)]), (.int .i64 n95)])))))
 (fun e52 => DEF Pg W (.tuple #[(.func (.func 58) #[] #[(.pointer (some ⟨B16, 0, none⟩))]), (.tuple #[])]) (some e52) (RDI .i64 (Addr.add ⟨B14, 0, none⟩ 0) fun n96 =>
 RDI .i64 (Addr.add ⟨B14, 0, none⟩ 1) fun n97 =>
 RDI .i64 (Addr.add ⟨B15, 0, none⟩ 0) fun n98 =>
 RDI .i64 (Addr.add ⟨B15, 0, none⟩ 1) fun n99 =>
 RDI .i64 ⟨B16, 0, none⟩ fun n100 =>
 R (.returned (.tuple #[(.agg #[(.int .i64 n96), (.int .i64 n97)]), (.agg #[(.int .i64 n98), (.int .i64 n99)]), (.int .i64 n100)])))))
 (fun e39 => DEF Pg W (.tuple #[(.func (.func 58) #[] #[(.pointer (some ⟨B16, 0, none⟩))]), (.tuple #[])]) (some e39) (RDI .i64 (Addr.add ⟨B14, 0, none⟩ 0) fun n101 =>
 RDI .i64 (Addr.add ⟨B14, 0, none⟩ 1) fun n102 =>
 RDI .i64 (Addr.add ⟨B15, 0, none⟩ 0) fun n103 =>
 RDI .i64 (Addr.add ⟨B15, 0, none⟩ 1) fun n104 =>
 RDI .i64 ⟨B16, 0, none⟩ fun n105 =>
 R (.returned (.tuple #[(.agg #[(.int .i64 n101), (.int .i64 n102)]), (.agg #[(.int .i64 n103), (.int .i64 n104)]), (.int .i64 n105)]))))
theorem T_clock_Goes_eq (W : World) (x1 : Option Addr) (l2 : Nat) (c3 : Nat) (n4 : Int) (x5 : Option Addr) (l6 : Nat) (c7 : Nat) (x8 : Option Addr) (l9 : Nat) (c10 : Nat) (n11 : Int) (R : Ending → Hp → Prop) : vfun Pg W an_29 Try.f29 [(.agg #[(.slice x1 l2 c3), (.int .i64 n4), (.slice x5 l6 c7), (.slice x8 l9 c10)]), (.int .i64 n11)] R = T_clock_Goes W x1 l2 c3 n4 x5 l6 c7 x8 l9 c10 n11 R := by kernel_rfl
theorem does_clock_Goes (W : World) (x1 : Option Addr) (l2 : Nat) (c3 : Nat) (n4 : Int) (x5 : Option Addr) (l6 : Nat) (c7 : Nat) (x8 : Option Addr) (l9 : Nat) (c10 : Nat) (n11 : Int) (R : Ending → Hp → Prop) (s : Hp) (h : T_clock_Goes W x1 l2 c3 n4 x5 l6 c7 x8 l9 c10 n11 R s) : Does Pg W F_clock_Goes #[(.agg #[(.slice x1 l2 c3), (.int .i64 n4), (.slice x5 l6 c7), (.slice x8 l9 c10)]), (.int .i64 n11)] s R :=
  does_of_vfun Pg W an_29 Try.func29 rfl (by kernel_rfl) (by rw [T_clock_Goes_eq]; exact h)
def an_36 : Nat → Ann := fun b => match b with
 | _ => {}
abbrev rv_36 : List ResultVar := [.tmp 4]
abbrev rs_36 : List Nat := [13, 4]
def T_clock_open (W : World) (x1 : Option Addr) (l2 : Nat) (c3 : Nat) (n4 : Int) (x5 : Option Addr) (l6 : Nat) (c7 : Nat) (x8 : Option Addr) (l9 : Nat) (c10 : Nat) (b11 : Bool) (R : Ending → Hp → Prop) : Hp → Prop :=
 NEW 26 [(.slice x1 l2 c3), (.int .i64 n4), (.slice x5 l6 c7), (.slice x8 l9 c10)] fun B12 =>
 RDL (Addr.add ⟨B12, 0, none⟩ 0) fun x13 l14 c15 =>
 RDI .i64 (Addr.add ⟨B12, 0, none⟩ 1) fun n16 =>
 RDL (Addr.add ⟨B12, 0, none⟩ 2) fun x17 l18 c19 =>
 RDL (Addr.add ⟨B12, 0, none⟩ 3) fun x20 l21 c22 =>
 CALL Pg W F_clock_isClock [(.agg #[(.slice x13 l14 c15), (.int .i64 n16), (.slice x17 l18 c19), (.slice x20 l21 c22)])]
 (fun v23 => TYB v23 fun b25 =>
 CALL Pg W F_clock_need [(.bool b25), (.int .i64 1)]
 (fun v26 => TUP v26 fun q28 => NL q28 <|
 CALL Pg W F_clock_need [(.bool b11), (.int .i64 2)]
 (fun v29 => TUP v29 fun q31 => NL q31 <|
 RDL (Addr.add ⟨B12, 0, none⟩ 0) fun x32 l33 c34 =>
 RDI .i64 (Addr.add ⟨B12, 0, none⟩ 1) fun n35 =>
 RDL (Addr.add ⟨B12, 0, none⟩ 2) fun x36 l37 c38 =>
 RDL (Addr.add ⟨B12, 0, none⟩ 3) fun x39 l40 c41 =>
 NEW 83 [(.slice x32 l33 c34), (.int .i64 n35), (.slice x36 l37 c38), (.slice x39 l40 c41)] fun B42 =>
 R (.returned (.pointer (some ⟨B42, 0, none⟩))))
 (fun e30 => R (.panicked e30)))
 (fun e27 => R (.panicked e27)))
 (fun e24 => R (.panicked e24))
theorem T_clock_open_eq (W : World) (x1 : Option Addr) (l2 : Nat) (c3 : Nat) (n4 : Int) (x5 : Option Addr) (l6 : Nat) (c7 : Nat) (x8 : Option Addr) (l9 : Nat) (c10 : Nat) (b11 : Bool) (R : Ending → Hp → Prop) : vfun Pg W an_36 Try.f36 [(.agg #[(.slice x1 l2 c3), (.int .i64 n4), (.slice x5 l6 c7), (.slice x8 l9 c10)]), (.bool b11)] R = T_clock_open W x1 l2 c3 n4 x5 l6 c7 x8 l9 c10 b11 R := by kernel_rfl
theorem does_clock_open (W : World) (x1 : Option Addr) (l2 : Nat) (c3 : Nat) (n4 : Int) (x5 : Option Addr) (l6 : Nat) (c7 : Nat) (x8 : Option Addr) (l9 : Nat) (c10 : Nat) (b11 : Bool) (R : Ending → Hp → Prop) (s : Hp) (h : T_clock_open W x1 l2 c3 n4 x5 l6 c7 x8 l9 c10 b11 R s) : Does Pg W F_clock_open #[(.agg #[(.slice x1 l2 c3), (.int .i64 n4), (.slice x5 l6 c7), (.slice x8 l9 c10)]), (.bool b11)] s R :=
  does_of_vfun Pg W an_36 Try.func36 rfl (by kernel_rfl) (by rw [T_clock_open_eq]; exact h)
def an_37 : Nat → Ann := fun b => match b with
 | _ => {}
abbrev rv_37 : List ResultVar := []
abbrev rs_37 : List Nat := [9]
def T_clock_need (W : World) (b1 : Bool) (n2 : Int) (R : Ending → Hp → Prop) : Hp → Prop :=
 BR (!b1)
 (R (.panicked [{ v := (.iface 101 (.agg #[(.int .i64 n2)])), recovered := false }]))
 (R (.returned (.tuple #[])))
theorem T_clock_need_eq (W : World) (b1 : Bool) (n2 : Int) (R : Ending → Hp → Prop) : vfun Pg W an_37 Try.f37 [(.bool b1), (.int .i64 n2)] R = T_clock_need W b1 n2 R := by kernel_rfl
theorem does_clock_need (W : World) (b1 : Bool) (n2 : Int) (R : Ending → Hp → Prop) (s : Hp) (h : T_clock_need W b1 n2 R s) : Does Pg W F_clock_need #[(.bool b1), (.int .i64 n2)] s R :=
  does_of_vfun Pg W an_37 Try.func37 rfl (by kernel_rfl) (by rw [T_clock_need_eq]; exact h)
def an_38 : Nat → Ann := fun b => match b with
 | 0 => { ms := [], ks := [.v, .v], us := [], rt := true, ex := [] }
 | _ => {}
abbrev rv_38 : List ResultVar := [.cell 4 4]
abbrev rs_38 : List Nat := [10, 4]
def T_clock_clock_can (W : World) (p1 : Option Addr) (n2 : Int) (R : Ending → Hp → Prop) : Hp → Prop :=
 NEWZ Pg 4 fun B3 =>
 CALL Pg W F_clock_clock_truths [(.pointer p1), (.int .u64 n2)]
 (fun v4 => RNGN Pg W v4 2
 (fun y6 fin7 => HD y6 fun v8 r9 => HD r9 fun v10 r11 => NL r11 <|
 WR (Addr.add ⟨B3, 0, none⟩ 0) (.bool true) <|
 fin7 (some .ret))
 (AFT
 (WR (Addr.add ⟨B3, 0, none⟩ 0) (.bool false) <|
 RDB ⟨B3, 0, none⟩ fun b12 =>
 R (.returned (.bool b12))) (RDB ⟨B3, 0, none⟩ fun b13 =>
 R (.returned (.bool b13))) (EXL [] fun _ => FF)))
 (fun e5 => R (.panicked e5))
theorem T_clock_clock_can_eq (W : World) (p1 : Option Addr) (n2 : Int) (R : Ending → Hp → Prop) : vfun Pg W an_38 Try.f38 [(.pointer p1), (.int .u64 n2)] R = T_clock_clock_can W p1 n2 R := by kernel_rfl
theorem does_clock_clock_can (W : World) (p1 : Option Addr) (n2 : Int) (R : Ending → Hp → Prop) (s : Hp) (h : T_clock_clock_can W p1 n2 R s) : Does Pg W F_clock_clock_can #[(.pointer p1), (.int .u64 n2)] s R :=
  does_of_vfun Pg W an_38 Try.func38 rfl (by kernel_rfl) (by rw [T_clock_clock_can_eq]; exact h)
def an_39 : Nat → Ann := fun b => match b with
 | _ => {}
abbrev rv_39 : List ResultVar := [.tmp 2]
abbrev rs_39 : List Nat := [11, 2]
def T_clock_clock_every (W : World) (p1 : Option Addr) (R : Ending → Hp → Prop) : Hp → Prop :=
 SO p1 fun a2 =>
 RDL (Addr.add (Addr.add a2 0) 2) fun x3 l4 c5 =>
 NNI (↑l4 : Int) <|
 R (.returned (.int .u64 (IntKind.wrap .u64 ((shlv .u64 1 (↑l4 : Int)) - 1))))
theorem T_clock_clock_every_eq (W : World) (p1 : Option Addr) (R : Ending → Hp → Prop) : vfun Pg W an_39 Try.f39 [(.pointer p1)] R = T_clock_clock_every W p1 R := by kernel_rfl
theorem does_clock_clock_every (W : World) (p1 : Option Addr) (R : Ending → Hp → Prop) (s : Hp) (h : T_clock_clock_every W p1 R s) : Does Pg W F_clock_clock_every #[(.pointer p1)] s R :=
  does_of_vfun Pg W an_39 Try.func39 rfl (by kernel_rfl) (by rw [T_clock_clock_every_eq]; exact h)
def an_46 : Nat → Ann := fun b => match b with
 | _ => {}
abbrev rv_46 : List ResultVar := [.cell 5 34]
abbrev rs_46 : List Nat := [9, 5]
def T_clock_When_c2 (W : World) (n1 : Int) (n2 : Int) (n3 : Int) (n4 : Int) (m5 : Option Nat) (a6 : Addr) (R : Ending → Hp → Prop) : Hp → Prop :=
 NEW 91 [(.int .i64 n1), (.int .i64 n2), (.int .i64 n3), (.int .i64 n4)] fun B7 =>
 NEWZ Pg 34 fun B8 =>
 RDI .i64 a6 fun n9 =>
 CALL Pg W F_clock_bounds_later [(.map m5), (.int .i64 (-1)), (.int .i64 n9)]
 (fun v10 => AGG v10 fun q12 => HD q12 fun v13 r14 => TYI .i64 v13 fun n15 =>
 HD r14 fun v16 r17 => TYI .i64 v16 fun n18 =>
 NL r17 <|
 WR (Addr.add ⟨B8, 0, none⟩ 0) (.int .i64 n15) <|
 WR (Addr.add ⟨B8, 0, none⟩ 1) (.int .i64 n18) <|
 RDI .i64 (Addr.add ⟨B8, 0, none⟩ 0) fun n19 =>
 RDI .i64 (Addr.add ⟨B8, 0, none⟩ 1) fun n20 =>
 R (.returned (.agg #[(.int .i64 n19), (.int .i64 n20)])))
 (fun e11 => R (.panicked e11))
theorem T_clock_When_c2_eq (W : World) (n1 : Int) (n2 : Int) (n3 : Int) (n4 : Int) (m5 : Option Nat) (a6 : Addr) (R : Ending → Hp → Prop) : vfun Pg W an_46 Try.f46 [(.agg #[(.int .i64 n1), (.int .i64 n2), (.int .i64 n3), (.int .i64 n4)]), (.map m5), (.pointer (some a6))] R = T_clock_When_c2 W n1 n2 n3 n4 m5 a6 R := by kernel_rfl
theorem does_clock_When_c2 (W : World) (n1 : Int) (n2 : Int) (n3 : Int) (n4 : Int) (m5 : Option Nat) (a6 : Addr) (R : Ending → Hp → Prop) (s : Hp) (h : T_clock_When_c2 W n1 n2 n3 n4 m5 a6 R s) : Does Pg W F_clock_When_c2 #[(.agg #[(.int .i64 n1), (.int .i64 n2), (.int .i64 n3), (.int .i64 n4)]), (.map m5), (.pointer (some a6))] s R :=
  does_of_vfun Pg W an_46 Try.func46 rfl (by kernel_rfl) (by rw [T_clock_When_c2_eq]; exact h)
def an_47 : Nat → Ann := fun b => match b with
 | _ => {}
abbrev rv_47 : List ResultVar := [.cell 6 34]
abbrev rs_47 : List Nat := [23, 6]
def T_clock_bounds_later (W : World) (m1 : Option Nat) (n2 : Int) (n3 : Int) (R : Ending → Hp → Prop) : Hp → Prop :=
 NEWZ Pg 34 fun B4 =>
 BR (n2 == n3)
 (WR (Addr.add ⟨B4, 0, none⟩ 0) (.int .i64 0) <|
 WR (Addr.add ⟨B4, 0, none⟩ 1) (.int .i64 0) <|
 RDI .i64 (Addr.add ⟨B4, 0, none⟩ 0) fun n5 =>
 RDI .i64 (Addr.add ⟨B4, 0, none⟩ 1) fun n6 =>
 R (.returned (.agg #[(.int .i64 n5), (.int .i64 n6)])))
 (CONJ [
 LKP Pg 93 (.map m1) (.agg #[(.int .i64 n3), (.int .i64 n2)]) false fun v7 =>
 TYI .i64 v7 fun n8 =>
 LKP Pg 93 (.map m1) (.agg #[(.int .i64 n2), (.int .i64 n3)]) false fun v9 =>
 TYI .i64 v9 fun n10 =>
 WR (Addr.add ⟨B4, 0, none⟩ 0) (.int .i64 (IntKind.wrap .i64 (0 - n8))) <|
 WR (Addr.add ⟨B4, 0, none⟩ 1) (.int .i64 n10) <|
 RDI .i64 (Addr.add ⟨B4, 0, none⟩ 0) fun n11 =>
 RDI .i64 (Addr.add ⟨B4, 0, none⟩ 1) fun n12 =>
 R (.returned (.agg #[(.int .i64 n11), (.int .i64 n12)])),
 LKP Pg 93 (.map m1) (.agg #[(.int .i64 n2), (.int .i64 n3)]) false fun v13 =>
 TYI .i64 v13 fun n14 =>
 LKP Pg 93 (.map m1) (.agg #[(.int .i64 n3), (.int .i64 n2)]) false fun v15 =>
 TYI .i64 v15 fun n16 =>
 WR (Addr.add ⟨B4, 0, none⟩ 0) (.int .i64 (IntKind.wrap .i64 (0 - n16))) <|
 WR (Addr.add ⟨B4, 0, none⟩ 1) (.int .i64 n14) <|
 RDI .i64 (Addr.add ⟨B4, 0, none⟩ 0) fun n17 =>
 RDI .i64 (Addr.add ⟨B4, 0, none⟩ 1) fun n18 =>
 R (.returned (.agg #[(.int .i64 n17), (.int .i64 n18)]))])
theorem T_clock_bounds_later_eq (W : World) (m1 : Option Nat) (n2 : Int) (n3 : Int) (R : Ending → Hp → Prop) : vfun Pg W an_47 Try.f47 [(.map m1), (.int .i64 n2), (.int .i64 n3)] R = T_clock_bounds_later W m1 n2 n3 R := by kernel_rfl
theorem does_clock_bounds_later (W : World) (m1 : Option Nat) (n2 : Int) (n3 : Int) (R : Ending → Hp → Prop) (s : Hp) (h : T_clock_bounds_later W m1 n2 n3 R s) : Does Pg W F_clock_bounds_later #[(.map m1), (.int .i64 n2), (.int .i64 n3)] s R :=
  does_of_vfun Pg W an_47 Try.func47 rfl (by kernel_rfl) (by rw [T_clock_bounds_later_eq]; exact h)
def an_48 : Nat → Ann := fun b => match b with
 | _ => {}
abbrev rv_48 : List ResultVar := [.tmp 4]
abbrev rs_48 : List Nat := [10, 4]
def T_clock_isEvent (W : World) (x1 : Option Addr) (l2 : Nat) (c3 : Nat) (n4 : Int) (x5 : Option Addr) (l6 : Nat) (c7 : Nat) (x8 : Option Addr) (l9 : Nat) (c10 : Nat) (n11 : Int) (R : Ending → Hp → Prop) : Hp → Prop :=
 NEW 26 [(.slice x1 l2 c3), (.int .i64 n4), (.slice x5 l6 c7), (.slice x8 l9 c10)] fun B12 =>
 RDI .i64 (Addr.add ⟨B12, 0, none⟩ 1) fun n13 =>
 CALL Pg W F_clock_within [(.int .i64 n11), (.int .i64 0), (.int .i64 (IntKind.wrap .i64 (n13 - 1)))]
 (fun v14 => TYB v14 fun b16 =>
 R (.returned (.bool b16)))
 (fun e15 => R (.panicked e15))
theorem T_clock_isEvent_eq (W : World) (x1 : Option Addr) (l2 : Nat) (c3 : Nat) (n4 : Int) (x5 : Option Addr) (l6 : Nat) (c7 : Nat) (x8 : Option Addr) (l9 : Nat) (c10 : Nat) (n11 : Int) (R : Ending → Hp → Prop) : vfun Pg W an_48 Try.f48 [(.agg #[(.slice x1 l2 c3), (.int .i64 n4), (.slice x5 l6 c7), (.slice x8 l9 c10)]), (.int .i64 n11)] R = T_clock_isEvent W x1 l2 c3 n4 x5 l6 c7 x8 l9 c10 n11 R := by kernel_rfl
theorem does_clock_isEvent (W : World) (x1 : Option Addr) (l2 : Nat) (c3 : Nat) (n4 : Int) (x5 : Option Addr) (l6 : Nat) (c7 : Nat) (x8 : Option Addr) (l9 : Nat) (c10 : Nat) (n11 : Int) (R : Ending → Hp → Prop) (s : Hp) (h : T_clock_isEvent W x1 l2 c3 n4 x5 l6 c7 x8 l9 c10 n11 R s) : Does Pg W F_clock_isEvent #[(.agg #[(.slice x1 l2 c3), (.int .i64 n4), (.slice x5 l6 c7), (.slice x8 l9 c10)]), (.int .i64 n11)] s R :=
  does_of_vfun Pg W an_48 Try.func48 rfl (by kernel_rfl) (by rw [T_clock_isEvent_eq]; exact h)
def an_49 : Nat → Ann := fun b => match b with
 | 0 => { ms := [], ks := [.v, .m], us := [], rt := false, ex := [], pt := [91, 93] }
 | _ => {}
abbrev rv_49 : List ResultVar := [.cell 4 34]
abbrev rs_49 : List Nat := [37, 4]
def T_clock_clock_ask (W : World) (p1 : Option Addr) (v2 : Value) (R : Ending → Hp → Prop) : Hp → Prop :=
 NEW 96 [v2] fun B3 =>
 NEWZ Pg 34 fun B4 =>
 NEWZ Pg 113 fun B5 =>
 NEWZ Pg 114 fun B6 =>
 WR (Addr.add ⟨B6, 0, none⟩ 0) (.func (.func 67) #[(.pointer (some ⟨B5, 0, none⟩))] #[]) <|
 CALL Pg W F_clock_clock_every [(.pointer p1)]
 (fun v7 => TYI .u64 v7 fun n9 =>
 CALL Pg W F_clock_clock_truths [(.pointer p1), (.int .u64 n9)]
 (fun v10 => RNGN Pg W v10 2
 (fun y12 fin13 => HD y12 fun v14 r15 => AGG v14 fun q16 => HD q16 fun v17 r18 => TYI .i64 v17 fun n19 =>
 HD r18 fun v20 r21 => TYI .i64 v20 fun n22 =>
 HD r21 fun v23 r24 => TYI .i64 v23 fun n25 =>
 HD r24 fun v26 r27 => TYI .i64 v26 fun n28 =>
 NL r27 <|
 HD r15 fun v29 r30 => TYM v29 fun m31 =>
 NL r30 <|
 NEWZ Pg 91 fun B32 =>
 WR (Addr.add ⟨B32, 0, none⟩ 0) (.int .i64 n19) <|
 WR (Addr.add ⟨B32, 0, none⟩ 1) (.int .i64 n22) <|
 WR (Addr.add ⟨B32, 0, none⟩ 2) (.int .i64 n25) <|
 WR (Addr.add ⟨B32, 0, none⟩ 3) (.int .i64 n28) <|
 RDV (Addr.add ⟨B3, 0, none⟩ 0) fun v33 =>
 RDI .i64 (Addr.add ⟨B32, 0, none⟩ 0) fun n34 =>
 RDI .i64 (Addr.add ⟨B32, 0, none⟩ 1) fun n35 =>
 RDI .i64 (Addr.add ⟨B32, 0, none⟩ 2) fun n36 =>
 RDI .i64 (Addr.add ⟨B32, 0, none⟩ 3) fun n37 =>
 CALLV Pg W v33 [(.agg #[(.int .i64 n34), (.int .i64 n35), (.int .i64 n36), (.int .i64 n37)]), (.map m31)]
 (fun v38 => AGG v38 fun q40 => HD q40 fun v41 r42 => TYI .i64 v41 fun n43 =>
 HD r42 fun v44 r45 => TYI .i64 v44 fun n46 =>
 NL r45 <|
 NEWZ Pg 34 fun B47 =>
 WR (Addr.add ⟨B47, 0, none⟩ 0) (.int .i64 n43) <|
 WR (Addr.add ⟨B47, 0, none⟩ 1) (.int .i64 n46) <|
 RDV ⟨B6, 0, none⟩ fun v48 =>
 RDI .i64 (Addr.add ⟨B47, 0, none⟩ 0) fun n49 =>
 RDI .i64 (Addr.add ⟨B47, 0, none⟩ 1) fun n50 =>
 NEW 3 [(.int .i64 n49), (.int .i64 n50)] fun B51 =>
 CALLV Pg W v48 [(.slice (some ⟨B51, 0, none⟩) 2 2)]
 (fun v52 => TUP v52 fun q54 => NL q54 <|
 fin13 none)
 (fun e53 => FF))
 (fun e39 => FF))
 (AFT
 (RDB (Addr.add ⟨B5, 0, none⟩ 2) fun b55 =>
 CALL Pg W F_clock_need [(.bool b55), (.int .i64 10)]
 (fun v56 => TUP v56 fun q58 => NL q58 <|
 RDI .i64 (Addr.add ⟨B5, 0, none⟩ 0) fun n59 =>
 RDI .i64 (Addr.add ⟨B5, 0, none⟩ 1) fun n60 =>
 WR (Addr.add ⟨B4, 0, none⟩ 0) (.int .i64 n59) <|
 WR (Addr.add ⟨B4, 0, none⟩ 1) (.int .i64 n60) <|
 RDI .i64 (Addr.add ⟨B4, 0, none⟩ 0) fun n61 =>
 RDI .i64 (Addr.add ⟨B4, 0, none⟩ 1) fun n62 =>
 R (.returned (.agg #[(.int .i64 n61), (.int .i64 n62)])))
 (fun e57 => R (.panicked e57))) (FF) (EXL [] fun _ => FF)))
 (fun e11 => R (.panicked e11)))
 (fun e8 => R (.panicked e8))
theorem T_clock_clock_ask_eq (W : World) (p1 : Option Addr) (v2 : Value) (R : Ending → Hp → Prop) : vfun Pg W an_49 Try.f49 [(.pointer p1), (.agg #[v2])] R = T_clock_clock_ask W p1 v2 R := by kernel_rfl
theorem does_clock_clock_ask (W : World) (p1 : Option Addr) (v2 : Value) (R : Ending → Hp → Prop) (s : Hp) (h : T_clock_clock_ask W p1 v2 R s) : Does Pg W F_clock_clock_ask #[(.pointer p1), (.agg #[v2])] s R :=
  does_of_vfun Pg W an_49 Try.func49 rfl (by kernel_rfl) (by rw [T_clock_clock_ask_eq]; exact h)
def an_52 : Nat → Ann := fun b => match b with
 | _ => {}
abbrev rv_52 : List ResultVar := [.cell 6 34]
abbrev rs_52 : List Nat := [11, 6]
def T_clock_Lasted_c2 (W : World) (n1 : Int) (n2 : Int) (n3 : Int) (n4 : Int) (m5 : Option Nat) (a6 : Addr) (a7 : Addr) (R : Ending → Hp → Prop) : Hp → Prop :=
 NEW 91 [(.int .i64 n1), (.int .i64 n2), (.int .i64 n3), (.int .i64 n4)] fun B8 =>
 NEWZ Pg 34 fun B9 =>
 RDI .i64 a6 fun n10 =>
 RDI .i64 a7 fun n11 =>
 CALL Pg W F_clock_bounds_later [(.map m5), (.int .i64 n10), (.int .i64 n11)]
 (fun v12 => AGG v12 fun q14 => HD q14 fun v15 r16 => TYI .i64 v15 fun n17 =>
 HD r16 fun v18 r19 => TYI .i64 v18 fun n20 =>
 NL r19 <|
 WR (Addr.add ⟨B9, 0, none⟩ 0) (.int .i64 n17) <|
 WR (Addr.add ⟨B9, 0, none⟩ 1) (.int .i64 n20) <|
 RDI .i64 (Addr.add ⟨B9, 0, none⟩ 0) fun n21 =>
 RDI .i64 (Addr.add ⟨B9, 0, none⟩ 1) fun n22 =>
 R (.returned (.agg #[(.int .i64 n21), (.int .i64 n22)])))
 (fun e13 => R (.panicked e13))
theorem T_clock_Lasted_c2_eq (W : World) (n1 : Int) (n2 : Int) (n3 : Int) (n4 : Int) (m5 : Option Nat) (a6 : Addr) (a7 : Addr) (R : Ending → Hp → Prop) : vfun Pg W an_52 Try.f52 [(.agg #[(.int .i64 n1), (.int .i64 n2), (.int .i64 n3), (.int .i64 n4)]), (.map m5), (.pointer (some a6)), (.pointer (some a7))] R = T_clock_Lasted_c2 W n1 n2 n3 n4 m5 a6 a7 R := by kernel_rfl
theorem does_clock_Lasted_c2 (W : World) (n1 : Int) (n2 : Int) (n3 : Int) (n4 : Int) (m5 : Option Nat) (a6 : Addr) (a7 : Addr) (R : Ending → Hp → Prop) (s : Hp) (h : T_clock_Lasted_c2 W n1 n2 n3 n4 m5 a6 a7 R s) : Does Pg W F_clock_Lasted_c2 #[(.agg #[(.int .i64 n1), (.int .i64 n2), (.int .i64 n3), (.int .i64 n4)]), (.map m5), (.pointer (some a6)), (.pointer (some a7))] s R :=
  does_of_vfun Pg W an_52 Try.func52 rfl (by kernel_rfl) (by rw [T_clock_Lasted_c2_eq]; exact h)
def an_54 : Nat → Ann := fun b => match b with
 | _ => {}
abbrev rv_54 : List ResultVar := [.cell 6 34]
abbrev rs_54 : List Nat := [24, 6]
def T_clock_Shows_c2 (W : World) (n1 : Int) (n2 : Int) (n3 : Int) (n4 : Int) (m5 : Option Nat) (a6 : Addr) (a7 : Addr) (R : Ending → Hp → Prop) : Hp → Prop :=
 NEW 91 [(.int .i64 n1), (.int .i64 n2), (.int .i64 n3), (.int .i64 n4)] fun B8 =>
 NEWZ Pg 34 fun B9 =>
 RDI .i64 a6 fun n10 =>
 CALL Pg W F_clock_bounds_later [(.map m5), (.int .i64 (-1)), (.int .i64 n10)]
 (fun v11 => AGG v11 fun q13 => HD q13 fun v14 r15 => TYI .i64 v14 fun n16 =>
 HD r15 fun v17 r18 => TYI .i64 v17 fun n19 =>
 NL r18 <|
 NEWZ Pg 34 fun B20 =>
 WR (Addr.add ⟨B20, 0, none⟩ 0) (.int .i64 n16) <|
 WR (Addr.add ⟨B20, 0, none⟩ 1) (.int .i64 n19) <|
 RDI .i64 a7 fun n21 =>
 IXA ⟨B8, 0, none⟩ 2 n21 2 fun a22 =>
 RDI .i64 (Addr.add a22 0) fun n23 =>
 RDI .i64 (Addr.add a22 1) fun n24 =>
 RDI .i64 (Addr.add ⟨B20, 0, none⟩ 0) fun n25 =>
 RDI .i64 a7 fun n26 =>
 IXA ⟨B8, 0, none⟩ 2 n26 2 fun a27 =>
 RDI .i64 (Addr.add a27 0) fun n28 =>
 RDI .i64 (Addr.add a27 1) fun n29 =>
 RDI .i64 (Addr.add ⟨B20, 0, none⟩ 1) fun n30 =>
 CALL Pg W F_clock_going_shows [(.agg #[(.int .i64 n23), (.int .i64 n24)]), (.int .i64 n25)]
 (fun v31 => TYI .i64 v31 fun n33 =>
 ANDS (RDI .i64 (Addr.add ⟨B20, 0, none⟩ 1) fun n34 =>
 fun _ => ((.int .i64 n34) : Value) = (.int .i64 n30)) <|
 ANDS (RDI .i64 (Addr.add a27 0) fun n35 =>
 RDI .i64 (Addr.add a27 1) fun n36 =>
 fun _ => ((.agg #[(.int .i64 n35), (.int .i64 n36)]) : Value) = (.agg #[(.int .i64 n28), (.int .i64 n29)])) <|
 ANDS (RDI .i64 a7 fun n37 =>
 fun _ => ((.int .i64 n37) : Value) = (.int .i64 n26)) <|
 CALL Pg W F_clock_going_shows [(.agg #[(.int .i64 n28), (.int .i64 n29)]), (.int .i64 n30)]
 (fun v38 => TYI .i64 v38 fun n40 =>
 WR (Addr.add ⟨B9, 0, none⟩ 0) (.int .i64 n33) <|
 WR (Addr.add ⟨B9, 0, none⟩ 1) (.int .i64 n40) <|
 RDI .i64 (Addr.add ⟨B9, 0, none⟩ 0) fun n41 =>
 RDI .i64 (Addr.add ⟨B9, 0, none⟩ 1) fun n42 =>
 R (.returned (.agg #[(.int .i64 n41), (.int .i64 n42)])))
 (fun e39 => R (.panicked e39)))
 (fun e32 => R (.panicked e32)))
 (fun e12 => R (.panicked e12))
theorem T_clock_Shows_c2_eq (W : World) (n1 : Int) (n2 : Int) (n3 : Int) (n4 : Int) (m5 : Option Nat) (a6 : Addr) (a7 : Addr) (R : Ending → Hp → Prop) : vfun Pg W an_54 Try.f54 [(.agg #[(.int .i64 n1), (.int .i64 n2), (.int .i64 n3), (.int .i64 n4)]), (.map m5), (.pointer (some a6)), (.pointer (some a7))] R = T_clock_Shows_c2 W n1 n2 n3 n4 m5 a6 a7 R := by kernel_rfl
theorem does_clock_Shows_c2 (W : World) (n1 : Int) (n2 : Int) (n3 : Int) (n4 : Int) (m5 : Option Nat) (a6 : Addr) (a7 : Addr) (R : Ending → Hp → Prop) (s : Hp) (h : T_clock_Shows_c2 W n1 n2 n3 n4 m5 a6 a7 R s) : Does Pg W F_clock_Shows_c2 #[(.agg #[(.int .i64 n1), (.int .i64 n2), (.int .i64 n3), (.int .i64 n4)]), (.map m5), (.pointer (some a6)), (.pointer (some a7))] s R :=
  does_of_vfun Pg W an_54 Try.func54 rfl (by kernel_rfl) (by rw [T_clock_Shows_c2_eq]; exact h)
def an_55 : Nat → Ann := fun b => match b with
 | _ => {}
abbrev rv_55 : List ResultVar := [.tmp 4]
abbrev rs_55 : List Nat := [13, 4]
def T_clock_going_shows (W : World) (n1 : Int) (n2 : Int) (n3 : Int) (R : Ending → Hp → Prop) : Hp → Prop :=
 NEW 89 [(.int .i64 n1), (.int .i64 n2)] fun B4 =>
 RDI .i64 (Addr.add ⟨B4, 0, none⟩ 0) fun n5 =>
 RDI .i64 (Addr.add ⟨B4, 0, none⟩ 1) fun n6 =>
 R (.returned (.int .i64 (IntKind.wrap .i64 (n5 + (IntKind.wrap .i64 (Int.tdiv (IntKind.wrap .i64 (n3 * n6)) 1000))))))
theorem T_clock_going_shows_eq (W : World) (n1 : Int) (n2 : Int) (n3 : Int) (R : Ending → Hp → Prop) : vfun Pg W an_55 Try.f55 [(.agg #[(.int .i64 n1), (.int .i64 n2)]), (.int .i64 n3)] R = T_clock_going_shows W n1 n2 n3 R := by kernel_rfl
theorem does_clock_going_shows (W : World) (n1 : Int) (n2 : Int) (n3 : Int) (R : Ending → Hp → Prop) (s : Hp) (h : T_clock_going_shows W n1 n2 n3 R s) : Does Pg W F_clock_going_shows #[(.agg #[(.int .i64 n1), (.int .i64 n2)]), (.int .i64 n3)] s R :=
  does_of_vfun Pg W an_55 Try.func55 rfl (by kernel_rfl) (by rw [T_clock_going_shows_eq]; exact h)
def an_56 : Nat → Ann := fun b => match b with
 | _ => {}
abbrev rv_56 : List ResultVar := [.tmp 4]
abbrev rs_56 : List Nat := [11, 4]
def T_clock_isWatch (W : World) (x1 : Option Addr) (l2 : Nat) (c3 : Nat) (n4 : Int) (x5 : Option Addr) (l6 : Nat) (c7 : Nat) (x8 : Option Addr) (l9 : Nat) (c10 : Nat) (n11 : Int) (R : Ending → Hp → Prop) : Hp → Prop :=
 NEW 26 [(.slice x1 l2 c3), (.int .i64 n4), (.slice x5 l6 c7), (.slice x8 l9 c10)] fun B12 =>
 RDL (Addr.add ⟨B12, 0, none⟩ 0) fun x13 l14 c15 =>
 CALL Pg W F_clock_within [(.int .i64 n11), (.int .i64 0), (.int .i64 (IntKind.wrap .i64 ((↑l14 : Int) - 1)))]
 (fun v16 => TYB v16 fun b18 =>
 R (.returned (.bool b18)))
 (fun e17 => R (.panicked e17))
theorem T_clock_isWatch_eq (W : World) (x1 : Option Addr) (l2 : Nat) (c3 : Nat) (n4 : Int) (x5 : Option Addr) (l6 : Nat) (c7 : Nat) (x8 : Option Addr) (l9 : Nat) (c10 : Nat) (n11 : Int) (R : Ending → Hp → Prop) : vfun Pg W an_56 Try.f56 [(.agg #[(.slice x1 l2 c3), (.int .i64 n4), (.slice x5 l6 c7), (.slice x8 l9 c10)]), (.int .i64 n11)] R = T_clock_isWatch W x1 l2 c3 n4 x5 l6 c7 x8 l9 c10 n11 R := by kernel_rfl
theorem does_clock_isWatch (W : World) (x1 : Option Addr) (l2 : Nat) (c3 : Nat) (n4 : Int) (x5 : Option Addr) (l6 : Nat) (c7 : Nat) (x8 : Option Addr) (l9 : Nat) (c10 : Nat) (n11 : Int) (R : Ending → Hp → Prop) (s : Hp) (h : T_clock_isWatch W x1 l2 c3 n4 x5 l6 c7 x8 l9 c10 n11 R s) : Does Pg W F_clock_isWatch #[(.agg #[(.slice x1 l2 c3), (.int .i64 n4), (.slice x5 l6 c7), (.slice x8 l9 c10)]), (.int .i64 n11)] s R :=
  does_of_vfun Pg W an_56 Try.func56 rfl (by kernel_rfl) (by rw [T_clock_isWatch_eq]; exact h)
def an_59 : Nat → Ann := fun b => match b with
 | _ => {}
abbrev rv_59 : List ResultVar := [.cell 2 34]
abbrev rs_59 : List Nat := [6, 2]
def T_clock_Goes_c2 (W : World) (n1 : Int) (R : Ending → Hp → Prop) : Hp → Prop :=
 NEWZ Pg 34 fun B2 =>
 WR (Addr.add ⟨B2, 0, none⟩ 0) (.int .i64 n1) <|
 WR (Addr.add ⟨B2, 0, none⟩ 1) (.int .i64 n1) <|
 RDI .i64 (Addr.add ⟨B2, 0, none⟩ 0) fun n3 =>
 RDI .i64 (Addr.add ⟨B2, 0, none⟩ 1) fun n4 =>
 R (.returned (.agg #[(.int .i64 n3), (.int .i64 n4)]))
theorem T_clock_Goes_c2_eq (W : World) (n1 : Int) (R : Ending → Hp → Prop) : vfun Pg W an_59 Try.f59 [(.int .i64 n1)] R = T_clock_Goes_c2 W n1 R := by kernel_rfl
theorem does_clock_Goes_c2 (W : World) (n1 : Int) (R : Ending → Hp → Prop) (s : Hp) (h : T_clock_Goes_c2 W n1 R s) : Does Pg W F_clock_Goes_c2 #[(.int .i64 n1)] s R :=
  does_of_vfun Pg W an_59 Try.func59 rfl (by kernel_rfl) (by rw [T_clock_Goes_c2_eq]; exact h)
def an_60 : Nat → Ann := fun b => match b with
 | _ => {}
abbrev rv_60 : List ResultVar := [.cell 6 34]
abbrev rs_60 : List Nat := [13, 6]
def T_clock_Goes_c3 (W : World) (n1 : Int) (n2 : Int) (n3 : Int) (n4 : Int) (m5 : Option Nat) (a6 : Addr) (a7 : Addr) (R : Ending → Hp → Prop) : Hp → Prop :=
 NEW 91 [(.int .i64 n1), (.int .i64 n2), (.int .i64 n3), (.int .i64 n4)] fun B8 =>
 NEWZ Pg 34 fun B9 =>
 RDV a6 fun v10 =>
 RDI .i64 a7 fun n11 =>
 IXA ⟨B8, 0, none⟩ 2 n11 2 fun a12 =>
 RDI .i64 (Addr.add a12 0) fun n13 =>
 CALLV Pg W v10 [(.int .i64 n13)]
 (fun v14 => AGG v14 fun q16 => HD q16 fun v17 r18 => TYI .i64 v17 fun n19 =>
 HD r18 fun v20 r21 => TYI .i64 v20 fun n22 =>
 NL r21 <|
 WR (Addr.add ⟨B9, 0, none⟩ 0) (.int .i64 n19) <|
 WR (Addr.add ⟨B9, 0, none⟩ 1) (.int .i64 n22) <|
 RDI .i64 (Addr.add ⟨B9, 0, none⟩ 0) fun n23 =>
 RDI .i64 (Addr.add ⟨B9, 0, none⟩ 1) fun n24 =>
 R (.returned (.agg #[(.int .i64 n23), (.int .i64 n24)])))
 (fun e15 => R (.panicked e15))
theorem T_clock_Goes_c3_eq (W : World) (n1 : Int) (n2 : Int) (n3 : Int) (n4 : Int) (m5 : Option Nat) (a6 : Addr) (a7 : Addr) (R : Ending → Hp → Prop) : vfun Pg W an_60 Try.f60 [(.agg #[(.int .i64 n1), (.int .i64 n2), (.int .i64 n3), (.int .i64 n4)]), (.map m5), (.pointer (some a6)), (.pointer (some a7))] R = T_clock_Goes_c3 W n1 n2 n3 n4 m5 a6 a7 R := by kernel_rfl
theorem does_clock_Goes_c3 (W : World) (n1 : Int) (n2 : Int) (n3 : Int) (n4 : Int) (m5 : Option Nat) (a6 : Addr) (a7 : Addr) (R : Ending → Hp → Prop) (s : Hp) (h : T_clock_Goes_c3 W n1 n2 n3 n4 m5 a6 a7 R s) : Does Pg W F_clock_Goes_c3 #[(.agg #[(.int .i64 n1), (.int .i64 n2), (.int .i64 n3), (.int .i64 n4)]), (.map m5), (.pointer (some a6)), (.pointer (some a7))] s R :=
  does_of_vfun Pg W an_60 Try.func60 rfl (by kernel_rfl) (by rw [T_clock_Goes_c3_eq]; exact h)
def an_61 : Nat → Ann := fun b => match b with
 | _ => {}
abbrev rv_61 : List ResultVar := [.cell 6 34]
abbrev rs_61 : List Nat := [13, 6]
def T_clock_Goes_c4 (W : World) (n1 : Int) (n2 : Int) (n3 : Int) (n4 : Int) (m5 : Option Nat) (a6 : Addr) (a7 : Addr) (R : Ending → Hp → Prop) : Hp → Prop :=
 NEW 91 [(.int .i64 n1), (.int .i64 n2), (.int .i64 n3), (.int .i64 n4)] fun B8 =>
 NEWZ Pg 34 fun B9 =>
 RDV a6 fun v10 =>
 RDI .i64 a7 fun n11 =>
 IXA ⟨B8, 0, none⟩ 2 n11 2 fun a12 =>
 RDI .i64 (Addr.add a12 1) fun n13 =>
 CALLV Pg W v10 [(.int .i64 n13)]
 (fun v14 => AGG v14 fun q16 => HD q16 fun v17 r18 => TYI .i64 v17 fun n19 =>
 HD r18 fun v20 r21 => TYI .i64 v20 fun n22 =>
 NL r21 <|
 WR (Addr.add ⟨B9, 0, none⟩ 0) (.int .i64 n19) <|
 WR (Addr.add ⟨B9, 0, none⟩ 1) (.int .i64 n22) <|
 RDI .i64 (Addr.add ⟨B9, 0, none⟩ 0) fun n23 =>
 RDI .i64 (Addr.add ⟨B9, 0, none⟩ 1) fun n24 =>
 R (.returned (.agg #[(.int .i64 n23), (.int .i64 n24)])))
 (fun e15 => R (.panicked e15))
theorem T_clock_Goes_c4_eq (W : World) (n1 : Int) (n2 : Int) (n3 : Int) (n4 : Int) (m5 : Option Nat) (a6 : Addr) (a7 : Addr) (R : Ending → Hp → Prop) : vfun Pg W an_61 Try.f61 [(.agg #[(.int .i64 n1), (.int .i64 n2), (.int .i64 n3), (.int .i64 n4)]), (.map m5), (.pointer (some a6)), (.pointer (some a7))] R = T_clock_Goes_c4 W n1 n2 n3 n4 m5 a6 a7 R := by kernel_rfl
theorem does_clock_Goes_c4 (W : World) (n1 : Int) (n2 : Int) (n3 : Int) (n4 : Int) (m5 : Option Nat) (a6 : Addr) (a7 : Addr) (R : Ending → Hp → Prop) (s : Hp) (h : T_clock_Goes_c4 W n1 n2 n3 n4 m5 a6 a7 R s) : Does Pg W F_clock_Goes_c4 #[(.agg #[(.int .i64 n1), (.int .i64 n2), (.int .i64 n3), (.int .i64 n4)]), (.map m5), (.pointer (some a6)), (.pointer (some a7))] s R :=
  does_of_vfun Pg W an_61 Try.func61 rfl (by kernel_rfl) (by rw [T_clock_Goes_c4_eq]; exact h)
def an_62 : Nat → Ann := fun b => match b with
 | _ => {}
abbrev rv_62 : List ResultVar := [.tmp 2]
abbrev rs_62 : List Nat := [52, 2]
def J_clock_isClock_0 (W : World) (R : Ending → Hp → Prop) (b41 : Bool) (B11 : Nat) : Hp → Prop :=
 BR b41
 (RDL (Addr.add ⟨B11, 0, none⟩ 3) fun x42 l43 c44 =>
 CALL Pg W F_slices_ContainsFunc_api_ClockLink_api_ClockLink [(.slice x42 l43 c44), (.func (.func 71) #[] #[(.pointer (some ⟨B11, 0, none⟩))])]
 (fun v45 => TYB v45 fun b47 =>
 R (.returned (.bool (!b47))))
 (fun e46 => R (.panicked e46)))
 (R (.returned (.bool false)))
def J_clock_isClock_1 (W : World) (R : Ending → Hp → Prop) (b34 : Bool) (B11 : Nat) : Hp → Prop :=
 BR b34
 (RDL (Addr.add ⟨B11, 0, none⟩ 2) fun x35 l36 c37 =>
 CALL Pg W F_slices_ContainsFunc_api_ClockReading_api_ClockReading [(.slice x35 l36 c37), (.func (.func 70) #[] #[(.pointer (some ⟨B11, 0, none⟩))])]
 (fun v38 => TYB v38 fun b40 =>
 J_clock_isClock_0 W R (!b40) B11)
 (fun e39 => R (.panicked e39)))
 (J_clock_isClock_0 W R false B11)
def J_clock_isClock_2 (W : World) (R : Ending → Hp → Prop) (b27 : Bool) (B11 : Nat) : Hp → Prop :=
 BR b27
 (RDL (Addr.add ⟨B11, 0, none⟩ 0) fun x28 l29 c30 =>
 CALL Pg W F_slices_ContainsFunc_api_ClockWatch_api_ClockWatch [(.slice x28 l29 c30), (.func (.func 68) #[] #[])]
 (fun v31 => TYB v31 fun b33 =>
 J_clock_isClock_1 W R (!b33) B11)
 (fun e32 => R (.panicked e32)))
 (J_clock_isClock_1 W R false B11)
def J_clock_isClock_3 (W : World) (R : Ending → Hp → Prop) (b23 : Bool) (B11 : Nat) : Hp → Prop :=
 BR b23
 (RDL (Addr.add ⟨B11, 0, none⟩ 3) fun x24 l25 c26 =>
 J_clock_isClock_2 W R (decide ((↑l25 : Int) ≤ 5)) B11)
 (J_clock_isClock_2 W R false B11)
def J_clock_isClock_4 (W : World) (R : Ending → Hp → Prop) (b19 : Bool) (B11 : Nat) : Hp → Prop :=
 BR b19
 (RDL (Addr.add ⟨B11, 0, none⟩ 2) fun x20 l21 c22 =>
 J_clock_isClock_3 W R (decide ((↑l21 : Int) ≤ 8)) B11)
 (J_clock_isClock_3 W R false B11)
def T_clock_isClock (W : World) (x1 : Option Addr) (l2 : Nat) (c3 : Nat) (n4 : Int) (x5 : Option Addr) (l6 : Nat) (c7 : Nat) (x8 : Option Addr) (l9 : Nat) (c10 : Nat) (R : Ending → Hp → Prop) : Hp → Prop :=
 NEW 26 [(.slice x1 l2 c3), (.int .i64 n4), (.slice x5 l6 c7), (.slice x8 l9 c10)] fun B11 =>
 RDL (Addr.add ⟨B11, 0, none⟩ 0) fun x12 l13 c14 =>
 BR (decide ((↑l13 : Int) ≤ 2))
 (RDI .i64 (Addr.add ⟨B11, 0, none⟩ 1) fun n15 =>
 CALL Pg W F_clock_within [(.int .i64 n15), (.int .i64 0), (.int .i64 5)]
 (fun v16 => TYB v16 fun b18 =>
 J_clock_isClock_4 W R b18 B11)
 (fun e17 => R (.panicked e17)))
 (J_clock_isClock_4 W R false B11)
theorem T_clock_isClock_eq (W : World) (x1 : Option Addr) (l2 : Nat) (c3 : Nat) (n4 : Int) (x5 : Option Addr) (l6 : Nat) (c7 : Nat) (x8 : Option Addr) (l9 : Nat) (c10 : Nat) (R : Ending → Hp → Prop) : vfun Pg W an_62 Try.f62 [(.agg #[(.slice x1 l2 c3), (.int .i64 n4), (.slice x5 l6 c7), (.slice x8 l9 c10)])] R = T_clock_isClock W x1 l2 c3 n4 x5 l6 c7 x8 l9 c10 R := by kernel_rfl
theorem does_clock_isClock (W : World) (x1 : Option Addr) (l2 : Nat) (c3 : Nat) (n4 : Int) (x5 : Option Addr) (l6 : Nat) (c7 : Nat) (x8 : Option Addr) (l9 : Nat) (c10 : Nat) (R : Ending → Hp → Prop) (s : Hp) (h : T_clock_isClock W x1 l2 c3 n4 x5 l6 c7 x8 l9 c10 R s) : Does Pg W F_clock_isClock #[(.agg #[(.slice x1 l2 c3), (.int .i64 n4), (.slice x5 l6 c7), (.slice x8 l9 c10)])] s R :=
  does_of_vfun Pg W an_62 Try.func62 rfl (by kernel_rfl) (by rw [T_clock_isClock_eq]; exact h)
def an_63 : Nat → Ann := fun b => match b with
 | _ => {}
abbrev rv_63 : List ResultVar := [.tmp 4]
abbrev rs_63 : List Nat := [6, 4]
def T_clock_clock_truths (W : World) (p1 : Option Addr) (n2 : Int) (R : Ending → Hp → Prop) : Hp → Prop :=
 NEW 76 [(.pointer p1)] fun B3 =>
 NEW 81 [(.int .u64 n2)] fun B4 =>
 R (.returned (.func (.func 75) #[] #[(.pointer (some ⟨B3, 0, none⟩)), (.pointer (some ⟨B4, 0, none⟩))]))
theorem T_clock_clock_truths_eq (W : World) (p1 : Option Addr) (n2 : Int) (R : Ending → Hp → Prop) : vfun Pg W an_63 Try.f63 [(.pointer p1), (.int .u64 n2)] R = T_clock_clock_truths W p1 n2 R := by kernel_rfl
theorem does_clock_clock_truths (W : World) (p1 : Option Addr) (n2 : Int) (R : Ending → Hp → Prop) (s : Hp) (h : T_clock_clock_truths W p1 n2 R s) : Does Pg W F_clock_clock_truths #[(.pointer p1), (.int .u64 n2)] s R :=
  does_of_vfun Pg W an_63 Try.func63 rfl (by kernel_rfl) (by rw [T_clock_clock_truths_eq]; exact h)
def an_66 : Nat → Ann := fun b => match b with
 | _ => {}
abbrev rv_66 : List ResultVar := [.tmp 6]
abbrev rs_66 : List Nat := [15, 6]
def T_clock_within (W : World) (n1 : Int) (n2 : Int) (n3 : Int) (R : Ending → Hp → Prop) : Hp → Prop :=
 BR (decide (n2 ≤ n1))
 (R (.returned (.bool (decide (n1 ≤ n3)))))
 (R (.returned (.bool false)))
theorem T_clock_within_eq (W : World) (n1 : Int) (n2 : Int) (n3 : Int) (R : Ending → Hp → Prop) : vfun Pg W an_66 Try.f66 [(.int .i64 n1), (.int .i64 n2), (.int .i64 n3)] R = T_clock_within W n1 n2 n3 R := by kernel_rfl
theorem does_clock_within (W : World) (n1 : Int) (n2 : Int) (n3 : Int) (R : Ending → Hp → Prop) (s : Hp) (h : T_clock_within W n1 n2 n3 R s) : Does Pg W F_clock_within #[(.int .i64 n1), (.int .i64 n2), (.int .i64 n3)] s R :=
  does_of_vfun Pg W an_66 Try.func66 rfl (by kernel_rfl) (by rw [T_clock_within_eq]; exact h)
def an_67 : Nat → Ann := fun b => match b with
 | 0 => { ms := [8], ks := [.i .i64], us := [0, 6, 7, 47], rt := false, ex := [] }
 | 1000000 => { acc := true }
 | _ => {}
abbrev rv_67 : List ResultVar := []
abbrev rs_67 : List Nat := [47]
def L_clock_ends_int_keep_0 (W : World) (R : Ending → Hp → Prop) (zp0 : Option Addr) (zp1 : Option Addr) (zl2 : Nat) (zl3 : Nat) (zn4 : Int) (n5 : Int) : Hp → Prop :=
 LOOPN [.i .i64] (fun ys next s => ∀ j : Tm, vc Pg W 47 rs_67 an_67 false (sub (bodyOf Try.f67) [1, 0, 0]) 0 (KLoop [8] [0, 6, 7, 47] [(.pointer zp0), (.slice zp1 zl2 zl3), (.int .i64 zn4), (.tuple #[])] next (KBlk 0 (fin Pg W 47 rv_67 R))) (known [8] ys (known [0, 6, 7, 47] [(.pointer zp0), (.slice zp1 zl2 zl3), (.int .i64 zn4), (.tuple #[])] j)) s) [(.int .i64 n5)]
def J_clock_ends_int_keep_0 (W : World) (R : Ending → Hp → Prop) (zp0 : Option Addr) (n7 : Int) (zp1 : Option Addr) (zl2 : Nat) (zl3 : Nat) (zn4 : Int) (nx0 : List Value → Hp → Prop) (n5 : Int) : Hp → Prop :=
 SO zp0 fun a13 =>
 RDI .i64 (Addr.add a13 0) fun n14 =>
 SO zp0 fun a15 =>
 RDI .i64 (Addr.add a15 1) fun n16 =>
 CONJ [
 ANDS (RDI .i64 (Addr.add a15 1) fun n17 =>
 fun _ => ((.int .i64 n17) : Value) = (.int .i64 n16)) <|
 SO zp0 fun a18 =>
 CONJ [
 WR (Addr.add (Addr.add a18 0) 0) (.int .i64 (if n7 < n14 then n7 else n14)) <|
 SO zp0 fun a19 =>
 WR (Addr.add (Addr.add a19 1) 0) (.int .i64 (if n7 > n16 then n7 else n16)) <|
 NX [(.pointer zp0), (.slice zp1 zl2 zl3), (.int .i64 zn4), (.tuple #[])] [(.pointer zp0), (.slice zp1 zl2 zl3), (.int .i64 zn4), (.tuple #[])] (nx0 [(.int .i64 (IntKind.wrap .i64 (n5 + 1)))]),
 WR (Addr.add (Addr.add a18 0) 0) (.int .i64 (if n7 < n14 then n7 else n14)) <|
 SO zp0 fun a20 =>
 WR (Addr.add (Addr.add a20 1) 0) (.int .i64 (if n7 > n16 then n7 else n16)) <|
 NX [(.pointer zp0), (.slice zp1 zl2 zl3), (.int .i64 zn4), (.tuple #[])] [(.pointer zp0), (.slice zp1 zl2 zl3), (.int .i64 zn4), (.tuple #[])] (nx0 [(.int .i64 (IntKind.wrap .i64 (n5 + 1)))])],
 ANDS (RDI .i64 (Addr.add a13 0) fun n21 =>
 fun _ => ((.int .i64 n21) : Value) = (.int .i64 n14)) <|
 SO zp0 fun a22 =>
 WR (Addr.add (Addr.add a22 0) 0) (.int .i64 (if n7 < n14 then n7 else n14)) <|
 SO zp0 fun a23 =>
 WR (Addr.add (Addr.add a23 1) 0) (.int .i64 (if n7 > n16 then n7 else n16)) <|
 NX [(.pointer zp0), (.slice zp1 zl2 zl3), (.int .i64 zn4), (.tuple #[])] [(.pointer zp0), (.slice zp1 zl2 zl3), (.int .i64 zn4), (.tuple #[])] (nx0 [(.int .i64 (IntKind.wrap .i64 (n5 + 1)))])]
def B_clock_ends_int_keep_0 (W : World) (R : Ending → Hp → Prop) (zp0 : Option Addr) (zp1 : Option Addr) (zl2 : Nat) (zl3 : Nat) (zn4 : Int) (n5 : Int) (nx0 : List Value → Hp → Prop) : Hp → Prop :=
 BR (decide (n5 < zn4))
 (IXS zp1 zl2 n5 1 fun a6 =>
 RDI .i64 a6 fun n7 =>
 SO zp0 fun a8 =>
 RDB (Addr.add a8 2) fun b9 =>
 BR (!b9)
 (SO zp0 fun a10 =>
 WR (Addr.add (Addr.add a10 0) 0) (.int .i64 n7) <|
 SO zp0 fun a11 =>
 WR (Addr.add (Addr.add a11 1) 0) (.int .i64 n7) <|
 SO zp0 fun a12 =>
 WR (Addr.add (Addr.add a12 2) 0) (.bool true) <|
 J_clock_ends_int_keep_0 W R zp0 n7 zp1 zl2 zl3 zn4 nx0 n5)
 (J_clock_ends_int_keep_0 W R zp0 n7 zp1 zl2 zl3 zn4 nx0 n5))
 (R (.returned (.tuple #[])))
theorem B_clock_ends_int_keep_0_eq (W : World) (R : Ending → Hp → Prop) (zp0 : Option Addr) (zp1 : Option Addr) (zl2 : Nat) (zl3 : Nat) (zn4 : Int) (n5 : Int) (nx0 : List Value → Hp → Prop) (j : Tm) : vc Pg W 47 rs_67 an_67 false (sub (bodyOf Try.f67) [1, 0, 0]) 0 (KLoop [8] [0, 6, 7, 47] [(.pointer zp0), (.slice zp1 zl2 zl3), (.int .i64 zn4), (.tuple #[])] nx0 (KBlk 0 (fin Pg W 47 rv_67 R))) (known [8] [(.int .i64 n5)] (known [0, 6, 7, 47] [(.pointer zp0), (.slice zp1 zl2 zl3), (.int .i64 zn4), (.tuple #[])] j)) = B_clock_ends_int_keep_0 W R zp0 zp1 zl2 zl3 zn4 n5 nx0 := by kernel_rfl
def N_clock_ends_int_keep_0 (I : Int → Hp → Prop) (μ : Int → Hp → Nat) (n50 : Int) (s : Hp) (vs : List Value) : Hp → Prop := fun s' => ∃ n5, vs = [(.int .i64 n5)] ∧ I n5 s' ∧ μ n5 s' < μ n50 s
theorem L_clock_ends_int_keep_0_rule (W : World) (R : Ending → Hp → Prop) (zp0 : Option Addr) (zp1 : Option Addr) (zl2 : Nat) (zl3 : Nat) (zn4 : Int) (I : Int → Hp → Prop) (μ : Int → Hp → Nat) (n50 : Int) (s : Hp) (h0 : I n50 s)
    (hr : ∀ (n5 : Int) (s : Hp), I n5 s → B_clock_ends_int_keep_0 W R zp0 zp1 zl2 zl3 zn4 n5 (fun vs => N_clock_ends_int_keep_0 I μ n5 s vs) s) : L_clock_ends_int_keep_0 W R zp0 zp1 zl2 zl3 zn4 n50 s := by
  refine ⟨fun vs s => ∃ n5, vs = [(.int .i64 n5)] ∧ I n5 s, fun vs s => (match vs with | [.int _ n5] => μ n5 s | _ => 0), ⟨⟨⟨_, rfl⟩, trivial⟩, ⟨_, rfl, h0⟩⟩, ?_⟩
  intro n5 s hI j
  obtain ⟨n5', hy, hI⟩ := hI
  have hI' : I n5 s := by cases hy; exact hI
  have hh := hr n5 s hI'
  rw [← B_clock_ends_int_keep_0_eq W R zp0 zp1 zl2 zl3 zn4 n5 _ j] at hh
  refine vc_mono ?_ _ _ hh
  exact KLoop_mono (fun vs s' h => by obtain ⟨n51, rfl, h1, h2⟩ := h; exact ⟨⟨⟨_, rfl⟩, trivial⟩, ⟨_, rfl, h1⟩, h2⟩)
def T_clock_ends_int_keep (W : World) (p1 : Option Addr) (x2 : Option Addr) (l3 : Nat) (c4 : Nat) (R : Ending → Hp → Prop) : Hp → Prop :=
 L_clock_ends_int_keep_0 W R p1 x2 l3 c4 (↑l3 : Int) 0
theorem T_clock_ends_int_keep_eq (W : World) (p1 : Option Addr) (x2 : Option Addr) (l3 : Nat) (c4 : Nat) (R : Ending → Hp → Prop) : vfun Pg W an_67 Try.f67 [(.pointer p1), (.slice x2 l3 c4)] R = T_clock_ends_int_keep W p1 x2 l3 c4 R := by kernel_rfl
theorem does_clock_ends_int_keep (W : World) (p1 : Option Addr) (x2 : Option Addr) (l3 : Nat) (c4 : Nat) (R : Ending → Hp → Prop) (s : Hp) (h : T_clock_ends_int_keep W p1 x2 l3 c4 R s) : Does Pg W F_clock_ends_int_keep #[(.pointer p1), (.slice x2 l3 c4)] s R :=
  does_of_vfun Pg W an_67 Try.func67 rfl (by kernel_rfl) (by rw [T_clock_ends_int_keep_eq]; exact h)
def an_68 : Nat → Ann := fun b => match b with
 | _ => {}
abbrev rv_68 : List ResultVar := [.tmp 2]
abbrev rs_68 : List Nat := [35, 2]
def J_clock_isClock_c1_0 (W : World) (R : Ending → Hp → Prop) (b13 : Bool) (B5 : Nat) : Hp → Prop :=
 BR (!b13)
 (R (.returned (.bool true)))
 (RDI .i64 (Addr.add (Addr.add ⟨B5, 0, none⟩ 2) 0) fun n14 =>
 RDI .i64 (Addr.add (Addr.add ⟨B5, 0, none⟩ 2) 1) fun n15 =>
 CALL Pg W F_clock_isSpan [(.agg #[(.int .i64 n14), (.int .i64 n15)]), (.int .i64 900), (.int .i64 1100)]
 (fun v16 => TYB v16 fun b18 =>
 BR (!b18)
 (R (.returned (.bool true)))
 (RDI .i64 (Addr.add (Addr.add ⟨B5, 0, none⟩ 2) 1) fun n19 =>
 RDI .i64 (Addr.add (Addr.add ⟨B5, 0, none⟩ 2) 0) fun n20 =>
 R (.returned (.bool (decide ((IntKind.wrap .i64 (n19 - n20)) > 4))))))
 (fun e17 => R (.panicked e17)))
def T_clock_isClock_c1 (W : World) (n1 : Int) (n2 : Int) (n3 : Int) (n4 : Int) (R : Ending → Hp → Prop) : Hp → Prop :=
 NEW 66 [(.int .i64 n1), (.int .i64 n2), (.int .i64 n3), (.int .i64 n4)] fun B5 =>
 RDI .i64 (Addr.add (Addr.add ⟨B5, 0, none⟩ 0) 0) fun n6 =>
 RDI .i64 (Addr.add (Addr.add ⟨B5, 0, none⟩ 0) 1) fun n7 =>
 CALL Pg W F_clock_isSpan [(.agg #[(.int .i64 n6), (.int .i64 n7)]), (.int .i64 0), (.int .i64 1000)]
 (fun v8 => TYB v8 fun b10 =>
 BR b10
 (RDI .i64 (Addr.add (Addr.add ⟨B5, 0, none⟩ 0) 1) fun n11 =>
 RDI .i64 (Addr.add (Addr.add ⟨B5, 0, none⟩ 0) 0) fun n12 =>
 J_clock_isClock_c1_0 W R (decide ((IntKind.wrap .i64 (n11 - n12)) ≤ 6)) B5)
 (J_clock_isClock_c1_0 W R false B5))
 (fun e9 => R (.panicked e9))
theorem T_clock_isClock_c1_eq (W : World) (n1 : Int) (n2 : Int) (n3 : Int) (n4 : Int) (R : Ending → Hp → Prop) : vfun Pg W an_68 Try.f68 [(.agg #[(.int .i64 n1), (.int .i64 n2), (.int .i64 n3), (.int .i64 n4)])] R = T_clock_isClock_c1 W n1 n2 n3 n4 R := by kernel_rfl
theorem does_clock_isClock_c1 (W : World) (n1 : Int) (n2 : Int) (n3 : Int) (n4 : Int) (R : Ending → Hp → Prop) (s : Hp) (h : T_clock_isClock_c1 W n1 n2 n3 n4 R s) : Does Pg W F_clock_isClock_c1 #[(.agg #[(.int .i64 n1), (.int .i64 n2), (.int .i64 n3), (.int .i64 n4)])] s R :=
  does_of_vfun Pg W an_68 Try.func68 rfl (by kernel_rfl) (by rw [T_clock_isClock_c1_eq]; exact h)
def an_69 : Nat → Ann := fun b => match b with
 | _ => {}
abbrev rv_69 : List ResultVar := [.tmp 6]
abbrev rs_69 : List Nat := [24, 6]
def T_clock_isSpan (W : World) (n1 : Int) (n2 : Int) (n3 : Int) (n4 : Int) (R : Ending → Hp → Prop) : Hp → Prop :=
 NEW 34 [(.int .i64 n1), (.int .i64 n2)] fun B5 =>
 RDI .i64 (Addr.add ⟨B5, 0, none⟩ 0) fun n6 =>
 BR (decide (n3 ≤ n6))
 (RDI .i64 (Addr.add ⟨B5, 0, none⟩ 0) fun n7 =>
 RDI .i64 (Addr.add ⟨B5, 0, none⟩ 1) fun n8 =>
 BR (decide (n7 ≤ n8))
 (RDI .i64 (Addr.add ⟨B5, 0, none⟩ 1) fun n9 =>
 R (.returned (.bool (decide (n9 ≤ n4)))))
 (R (.returned (.bool false))))
 (R (.returned (.bool false)))
theorem T_clock_isSpan_eq (W : World) (n1 : Int) (n2 : Int) (n3 : Int) (n4 : Int) (R : Ending → Hp → Prop) : vfun Pg W an_69 Try.f69 [(.agg #[(.int .i64 n1), (.int .i64 n2)]), (.int .i64 n3), (.int .i64 n4)] R = T_clock_isSpan W n1 n2 n3 n4 R := by kernel_rfl
theorem does_clock_isSpan (W : World) (n1 : Int) (n2 : Int) (n3 : Int) (n4 : Int) (R : Ending → Hp → Prop) (s : Hp) (h : T_clock_isSpan W n1 n2 n3 n4 R s) : Does Pg W F_clock_isSpan #[(.agg #[(.int .i64 n1), (.int .i64 n2)]), (.int .i64 n3), (.int .i64 n4)] s R :=
  does_of_vfun Pg W an_69 Try.func69 rfl (by kernel_rfl) (by rw [T_clock_isSpan_eq]; exact h)
def an_70 : Nat → Ann := fun b => match b with
 | _ => {}
abbrev rv_70 : List ResultVar := [.tmp 3]
abbrev rs_70 : List Nat := [22, 3]
def J_clock_isClock_c2_0 (W : World) (R : Ending → Hp → Prop) (b20 : Bool) (B5 : Nat) : Hp → Prop :=
 BR b20
 (R (.returned (.bool true)))
 (RDI .i64 (Addr.add ⟨B5, 0, none⟩ 2) fun n21 =>
 CALL Pg W F_clock_within [(.int .i64 n21), (.int .i64 0), (.int .i64 2000)]
 (fun v22 => TYB v22 fun b24 =>
 R (.returned (.bool (!b24))))
 (fun e23 => R (.panicked e23)))
def T_clock_isClock_c2 (W : World) (n1 : Int) (n2 : Int) (n3 : Int) (a4 : Addr) (R : Ending → Hp → Prop) : Hp → Prop :=
 NEW 61 [(.int .i64 n1), (.int .i64 n2), (.int .i64 n3)] fun B5 =>
 RDL (Addr.add a4 0) fun x6 l7 c8 =>
 RDI .i64 (Addr.add a4 1) fun n9 =>
 RDL (Addr.add a4 2) fun x10 l11 c12 =>
 RDL (Addr.add a4 3) fun x13 l14 c15 =>
 RDI .i64 (Addr.add ⟨B5, 0, none⟩ 0) fun n16 =>
 CALL Pg W F_clock_isEvent [(.agg #[(.slice x6 l7 c8), (.int .i64 n9), (.slice x10 l11 c12), (.slice x13 l14 c15)]), (.int .i64 n16)]
 (fun v17 => TYB v17 fun b19 =>
 BR (!b19)
 (J_clock_isClock_c2_0 W R true B5)
 (RDL (Addr.add a4 0) fun x25 l26 c27 =>
 RDI .i64 (Addr.add a4 1) fun n28 =>
 RDL (Addr.add a4 2) fun x29 l30 c31 =>
 RDL (Addr.add a4 3) fun x32 l33 c34 =>
 RDI .i64 (Addr.add ⟨B5, 0, none⟩ 1) fun n35 =>
 CALL Pg W F_clock_isWatch [(.agg #[(.slice x25 l26 c27), (.int .i64 n28), (.slice x29 l30 c31), (.slice x32 l33 c34)]), (.int .i64 n35)]
 (fun v36 => TYB v36 fun b38 =>
 J_clock_isClock_c2_0 W R (!b38) B5)
 (fun e37 => R (.panicked e37))))
 (fun e18 => R (.panicked e18))
theorem T_clock_isClock_c2_eq (W : World) (n1 : Int) (n2 : Int) (n3 : Int) (a4 : Addr) (R : Ending → Hp → Prop) : vfun Pg W an_70 Try.f70 [(.agg #[(.int .i64 n1), (.int .i64 n2), (.int .i64 n3)]), (.pointer (some a4))] R = T_clock_isClock_c2 W n1 n2 n3 a4 R := by kernel_rfl
theorem does_clock_isClock_c2 (W : World) (n1 : Int) (n2 : Int) (n3 : Int) (a4 : Addr) (R : Ending → Hp → Prop) (s : Hp) (h : T_clock_isClock_c2 W n1 n2 n3 a4 R s) : Does Pg W F_clock_isClock_c2 #[(.agg #[(.int .i64 n1), (.int .i64 n2), (.int .i64 n3)]), (.pointer (some a4))] s R :=
  does_of_vfun Pg W an_70 Try.func70 rfl (by kernel_rfl) (by rw [T_clock_isClock_c2_eq]; exact h)
def an_71 : Nat → Ann := fun b => match b with
 | _ => {}
abbrev rv_71 : List ResultVar := [.tmp 3]
abbrev rs_71 : List Nat := [29, 3]
def J_clock_isClock_c3_0 (W : World) (R : Ending → Hp → Prop) (b22 : Bool) (B6 : Nat) : Hp → Prop :=
 BR b22
 (R (.returned (.bool true)))
 (RDI .i64 (Addr.add (Addr.add ⟨B6, 0, none⟩ 2) 0) fun n23 =>
 RDI .i64 (Addr.add (Addr.add ⟨B6, 0, none⟩ 2) 1) fun n24 =>
 CALL Pg W F_clock_isSpan [(.agg #[(.int .i64 n23), (.int .i64 n24)]), (.int .i64 (-600)), (.int .i64 600)]
 (fun v25 => TYB v25 fun b27 =>
 R (.returned (.bool (!b27))))
 (fun e26 => R (.panicked e26)))
def J_clock_isClock_c3_1 (W : World) (R : Ending → Hp → Prop) (b21 : Bool) (B6 : Nat) : Hp → Prop :=
 BR b21
 (J_clock_isClock_c3_0 W R true B6)
 (RDI .i64 (Addr.add ⟨B6, 0, none⟩ 0) fun n28 =>
 RDI .i64 (Addr.add ⟨B6, 0, none⟩ 1) fun n29 =>
 J_clock_isClock_c3_0 W R (n28 == n29) B6)
def T_clock_isClock_c3 (W : World) (n1 : Int) (n2 : Int) (n3 : Int) (n4 : Int) (a5 : Addr) (R : Ending → Hp → Prop) : Hp → Prop :=
 NEW 63 [(.int .i64 n1), (.int .i64 n2), (.int .i64 n3), (.int .i64 n4)] fun B6 =>
 RDL (Addr.add a5 0) fun x7 l8 c9 =>
 RDI .i64 (Addr.add a5 1) fun n10 =>
 RDL (Addr.add a5 2) fun x11 l12 c13 =>
 RDL (Addr.add a5 3) fun x14 l15 c16 =>
 RDI .i64 (Addr.add ⟨B6, 0, none⟩ 0) fun n17 =>
 CALL Pg W F_clock_isEvent [(.agg #[(.slice x7 l8 c9), (.int .i64 n10), (.slice x11 l12 c13), (.slice x14 l15 c16)]), (.int .i64 n17)]
 (fun v18 => TYB v18 fun b20 =>
 BR (!b20)
 (J_clock_isClock_c3_1 W R true B6)
 (RDL (Addr.add a5 0) fun x30 l31 c32 =>
 RDI .i64 (Addr.add a5 1) fun n33 =>
 RDL (Addr.add a5 2) fun x34 l35 c36 =>
 RDL (Addr.add a5 3) fun x37 l38 c39 =>
 RDI .i64 (Addr.add ⟨B6, 0, none⟩ 1) fun n40 =>
 CALL Pg W F_clock_isEvent [(.agg #[(.slice x30 l31 c32), (.int .i64 n33), (.slice x34 l35 c36), (.slice x37 l38 c39)]), (.int .i64 n40)]
 (fun v41 => TYB v41 fun b43 =>
 J_clock_isClock_c3_1 W R (!b43) B6)
 (fun e42 => R (.panicked e42))))
 (fun e19 => R (.panicked e19))
theorem T_clock_isClock_c3_eq (W : World) (n1 : Int) (n2 : Int) (n3 : Int) (n4 : Int) (a5 : Addr) (R : Ending → Hp → Prop) : vfun Pg W an_71 Try.f71 [(.agg #[(.int .i64 n1), (.int .i64 n2), (.int .i64 n3), (.int .i64 n4)]), (.pointer (some a5))] R = T_clock_isClock_c3 W n1 n2 n3 n4 a5 R := by kernel_rfl
theorem does_clock_isClock_c3 (W : World) (n1 : Int) (n2 : Int) (n3 : Int) (n4 : Int) (a5 : Addr) (R : Ending → Hp → Prop) (s : Hp) (h : T_clock_isClock_c3 W n1 n2 n3 n4 a5 R s) : Does Pg W F_clock_isClock_c3 #[(.agg #[(.int .i64 n1), (.int .i64 n2), (.int .i64 n3), (.int .i64 n4)]), (.pointer (some a5))] s R :=
  does_of_vfun Pg W an_71 Try.func71 rfl (by kernel_rfl) (by rw [T_clock_isClock_c3_eq]; exact h)
def an_75 : Nat → Ann := fun b => match b with
 | 0 => { ms := [], ks := [.v], us := [], rt := true, ex := [], pt := [91] }
 | 2 => { ms := [18], ks := [.i .i64], us := [1, 3, 5, 6, 16, 17, 41], rt := false, ex := [] }
 | _ => {}
abbrev rv_75 : List ResultVar := []
abbrev rs_75 : List Nat := [41]
def L_clock_clock_truths_c1_0 (W : World) (R : Ending → Hp → Prop) (fin17 : Option Code → Hp → Prop) (za0 : Addr) (za1 : Addr) (za2 : Addr) (zm3 : Option Nat) (zp4 : Option Addr) (zl5 : Nat) (zl6 : Nat) (zn7 : Int) (n38 : Int) : Hp → Prop :=
 LOOPN [.i .i64] (fun ys next s => ∀ j : Tm, vc Pg W 41 rs_75 an_75 true (sub (bodyOf Try.f75) [1, 0, 1, 1, 1, 0, 1, 0, 1, 0, 1, 0, 0]) 2 (KLoop [18] [1, 3, 5, 6, 16, 17, 41] [(.pointer (some za0)), (.pointer (some za1)), (.pointer (some za2)), (.map zm3), (.slice zp4 zl5 zl6), (.int .i64 zn7), (.tuple #[])] next (KBlk 2 (KS Pg W 41 rs_75 an_75 true (sub (bodyOf Try.f75) [1, 0, 1, 1, 1, 0, 1, 0, 1, 1]) 1 (KBlk 1 (KRnd fin17))))) (known [18] ys (known [1, 3, 5, 6, 16, 17, 41] [(.pointer (some za0)), (.pointer (some za1)), (.pointer (some za2)), (.map zm3), (.slice zp4 zl5 zl6), (.int .i64 zn7), (.tuple #[])] j)) s) [(.int .i64 n38)]
def B_clock_clock_truths_c1_0 (W : World) (R : Ending → Hp → Prop) (fin17 : Option Code → Hp → Prop) (za0 : Addr) (za1 : Addr) (za2 : Addr) (zm3 : Option Nat) (zp4 : Option Addr) (zl5 : Nat) (zl6 : Nat) (zn7 : Int) (n38 : Int) (nx0 : List Value → Hp → Prop) : Hp → Prop :=
 BR (decide (n38 < zn7))
 (IXS zp4 zl5 n38 1 fun a39 =>
 RDV a39 fun v40 =>
 RDI .i64 (Addr.add za2 0) fun n41 =>
 RDI .i64 (Addr.add za2 1) fun n42 =>
 RDI .i64 (Addr.add za2 2) fun n43 =>
 RDI .i64 (Addr.add za2 3) fun n44 =>
 INV Pg W v40 "furrowworks/clock.tell" [(.map zm3), (.agg #[(.int .i64 n41), (.int .i64 n42), (.int .i64 n43), (.int .i64 n44)])]
 (fun v45 => TYB v45 fun b47 =>
 BR (!b47)
 (fin17 none)
 (NX [(.pointer (some za0)), (.pointer (some za1)), (.pointer (some za2)), (.map zm3), (.slice zp4 zl5 zl6), (.int .i64 zn7), (.tuple #[])] [(.pointer (some za0)), (.pointer (some za1)), (.pointer (some za2)), (.map zm3), (.slice zp4 zl5 zl6), (.int .i64 zn7), (.tuple #[])] (nx0 [(.int .i64 (IntKind.wrap .i64 (n38 + 1)))])))
 (fun e46 => FF))
 (RDP za0 fun p48 =>
 SO p48 fun a49 =>
 RDI .i64 (Addr.add (Addr.add a49 0) 1) fun n50 =>
 CALL Pg W F_clock_bounds_tight [(.map zm3), (.int .i64 n50)]
 (fun v51 => TYB v51 fun b53 =>
 BR (!b53)
 (fin17 none)
 (RDV za1 fun v54 =>
 RDI .i64 (Addr.add za2 0) fun n55 =>
 RDI .i64 (Addr.add za2 1) fun n56 =>
 RDI .i64 (Addr.add za2 2) fun n57 =>
 RDI .i64 (Addr.add za2 3) fun n58 =>
 CALLV Pg W v54 [(.agg #[(.int .i64 n55), (.int .i64 n56), (.int .i64 n57), (.int .i64 n58)]), (.map zm3)]
 (fun v59 => TYB v59 fun b61 =>
 BR (!b61)
 (fin17 (some .ret))
 (fin17 none))
 (fun e60 => FF)))
 (fun e52 => FF))
theorem B_clock_clock_truths_c1_0_eq (W : World) (R : Ending → Hp → Prop) (fin17 : Option Code → Hp → Prop) (za0 : Addr) (za1 : Addr) (za2 : Addr) (zm3 : Option Nat) (zp4 : Option Addr) (zl5 : Nat) (zl6 : Nat) (zn7 : Int) (n38 : Int) (nx0 : List Value → Hp → Prop) (j : Tm) : vc Pg W 41 rs_75 an_75 true (sub (bodyOf Try.f75) [1, 0, 1, 1, 1, 0, 1, 0, 1, 0, 1, 0, 0]) 2 (KLoop [18] [1, 3, 5, 6, 16, 17, 41] [(.pointer (some za0)), (.pointer (some za1)), (.pointer (some za2)), (.map zm3), (.slice zp4 zl5 zl6), (.int .i64 zn7), (.tuple #[])] nx0 (KBlk 2 (KS Pg W 41 rs_75 an_75 true (sub (bodyOf Try.f75) [1, 0, 1, 1, 1, 0, 1, 0, 1, 1]) 1 (KBlk 1 (KRnd fin17))))) (known [18] [(.int .i64 n38)] (known [1, 3, 5, 6, 16, 17, 41] [(.pointer (some za0)), (.pointer (some za1)), (.pointer (some za2)), (.map zm3), (.slice zp4 zl5 zl6), (.int .i64 zn7), (.tuple #[])] j)) = B_clock_clock_truths_c1_0 W R fin17 za0 za1 za2 zm3 zp4 zl5 zl6 zn7 n38 nx0 := by kernel_rfl
def N_clock_clock_truths_c1_0 (I : Int → Hp → Prop) (μ : Int → Hp → Nat) (n380 : Int) (s : Hp) (vs : List Value) : Hp → Prop := fun s' => ∃ n38, vs = [(.int .i64 n38)] ∧ I n38 s' ∧ μ n38 s' < μ n380 s
theorem L_clock_clock_truths_c1_0_rule (W : World) (R : Ending → Hp → Prop) (fin17 : Option Code → Hp → Prop) (za0 : Addr) (za1 : Addr) (za2 : Addr) (zm3 : Option Nat) (zp4 : Option Addr) (zl5 : Nat) (zl6 : Nat) (zn7 : Int) (I : Int → Hp → Prop) (μ : Int → Hp → Nat) (n380 : Int) (s : Hp) (h0 : I n380 s)
    (hr : ∀ (n38 : Int) (s : Hp), I n38 s → B_clock_clock_truths_c1_0 W R fin17 za0 za1 za2 zm3 zp4 zl5 zl6 zn7 n38 (fun vs => N_clock_clock_truths_c1_0 I μ n38 s vs) s) : L_clock_clock_truths_c1_0 W R fin17 za0 za1 za2 zm3 zp4 zl5 zl6 zn7 n380 s := by
  refine ⟨fun vs s => ∃ n38, vs = [(.int .i64 n38)] ∧ I n38 s, fun vs s => (match vs with | [.int _ n38] => μ n38 s | _ => 0), ⟨⟨⟨_, rfl⟩, trivial⟩, ⟨_, rfl, h0⟩⟩, ?_⟩
  intro n38 s hI j
  obtain ⟨n38', hy, hI⟩ := hI
  have hI' : I n38 s := by cases hy; exact hI
  have hh := hr n38 s hI'
  rw [← B_clock_clock_truths_c1_0_eq W R fin17 za0 za1 za2 zm3 zp4 zl5 zl6 zn7 n38 _ j] at hh
  refine vc_mono ?_ _ _ hh
  exact KLoop_mono (fun vs s' h => by obtain ⟨n381, rfl, h1, h2⟩ := h; exact ⟨⟨⟨_, rfl⟩, trivial⟩, ⟨_, rfl, h1⟩, h2⟩)
def T_clock_clock_truths_c1 (W : World) (v1 : Value) (a2 : Addr) (a3 : Addr) (R : Ending → Hp → Prop) : Hp → Prop :=
 ONE v1 <|
 NEW 121 [v1] fun B4 =>
 RDP a2 fun p5 =>
 RDI .u64 a3 fun n6 =>
 CALL Pg W F_clock_clock_tellers [(.pointer p5), (.int .u64 n6)]
 (fun v7 => TYL v7 fun x9 l10 c11 =>
 NEWZ Pg 122 fun B12 =>
 WR (Addr.add ⟨B12, 0, none⟩ 0) (.slice x9 l10 c11) <|
 RDP a2 fun p13 =>
 CALL Pg W F_clock_clock_choices [(.pointer p13)]
 (fun v14 => RNGN Pg W v14 1
 (fun y16 fin17 => HD y16 fun v18 r19 => AGG v18 fun q20 => HD q20 fun v21 r22 => TYI .i64 v21 fun n23 =>
 HD r22 fun v24 r25 => TYI .i64 v24 fun n26 =>
 HD r25 fun v27 r28 => TYI .i64 v27 fun n29 =>
 HD r28 fun v30 r31 => TYI .i64 v30 fun n32 =>
 NL r31 <|
 NL r19 <|
 NEWZ Pg 91 fun B33 =>
 WR (Addr.add ⟨B33, 0, none⟩ 0) (.int .i64 n23) <|
 WR (Addr.add ⟨B33, 0, none⟩ 1) (.int .i64 n26) <|
 WR (Addr.add ⟨B33, 0, none⟩ 2) (.int .i64 n29) <|
 WR (Addr.add ⟨B33, 0, none⟩ 3) (.int .i64 n32) <|
 MKM fun B34 =>
 RDL ⟨B12, 0, none⟩ fun x35 l36 c37 =>
 L_clock_clock_truths_c1_0 W R fin17 a2 ⟨B4, 0, none⟩ ⟨B33, 0, none⟩ (some B34) x35 l36 c37 (↑l36 : Int) 0)
 (AFT
 (R (.returned (.tuple #[]))) (R (.returned (.tuple #[]))) (EXL [] fun _ => FF)))
 (fun e15 => R (.panicked e15)))
 (fun e8 => R (.panicked e8))
theorem T_clock_clock_truths_c1_eq (W : World) (v1 : Value) (a2 : Addr) (a3 : Addr) (R : Ending → Hp → Prop) : vfun Pg W an_75 Try.f75 [v1, (.pointer (some a2)), (.pointer (some a3))] R = T_clock_clock_truths_c1 W v1 a2 a3 R := by kernel_rfl
theorem does_clock_clock_truths_c1 (W : World) (v1 : Value) (a2 : Addr) (a3 : Addr) (R : Ending → Hp → Prop) (s : Hp) (h : T_clock_clock_truths_c1 W v1 a2 a3 R s) : Does Pg W F_clock_clock_truths_c1 #[v1, (.pointer (some a2)), (.pointer (some a3))] s R :=
  does_of_vfun Pg W an_75 Try.func75 rfl (by kernel_rfl) (by rw [T_clock_clock_truths_c1_eq]; exact h)
def an_76 : Nat → Ann := fun b => match b with
 | 0 => { ms := [4, 15], ks := [.l, .i .i64], us := [0, 1, 14, 71], rt := false, ex := [] }
 | 2 => { ms := [4, 31], ks := [.l, .i .i64], us := [0, 1, 29, 30, 71], rt := false, ex := [] }
 | 4 => { ms := [4, 60], ks := [.l, .i .i64], us := [58, 59, 71], rt := false, ex := [] }
 | _ => {}
abbrev rv_76 : List ResultVar := [.tmp 4]
abbrev rs_76 : List Nat := [71, 4]
def L_clock_clock_tellers_0 (W : World) (R : Ending → Hp → Prop) (zp0 : Option Addr) (zn1 : Int) (zn2 : Int) (x5 : Option Addr) (l6 : Nat) (c7 : Nat) (n8 : Int) : Hp → Prop :=
 LOOPN [.l, .i .i64] (fun ys next s => ∀ j : Tm, vc Pg W 71 rs_76 an_76 false (sub (bodyOf Try.f76) [1, 0, 1, 0, 0]) 0 (KLoop [4, 15] [0, 1, 14, 71] [(.pointer zp0), (.int .u64 zn1), (.int .i64 zn2), (.tuple #[])] next (KBlk 0 (KS Pg W 71 rs_76 an_76 false (sub (bodyOf Try.f76) [1, 1]) 0 (fin Pg W 71 rv_76 R)))) (known [4, 15] ys (known [0, 1, 14, 71] [(.pointer zp0), (.int .u64 zn1), (.int .i64 zn2), (.tuple #[])] j)) s) [(.slice x5 l6 c7), (.int .i64 n8)]
def L_clock_clock_tellers_1 (W : World) (R : Ending → Hp → Prop) (zp0 : Option Addr) (zn1 : Int) (zp2 : Option Addr) (zl3 : Nat) (zl4 : Nat) (zn5 : Int) (x17 : Option Addr) (l18 : Nat) (c19 : Nat) (n20 : Int) : Hp → Prop :=
 LOOPN [.l, .i .i64] (fun ys next s => ∀ j : Tm, vc Pg W 71 rs_76 an_76 false (sub (bodyOf Try.f76) [1, 1, 0, 1, 0, 0]) 2 (KLoop [4, 31] [0, 1, 29, 30, 71] [(.pointer zp0), (.int .u64 zn1), (.slice zp2 zl3 zl4), (.int .i64 zn5), (.tuple #[])] next (KBlk 2 (KS Pg W 71 rs_76 an_76 false (sub (bodyOf Try.f76) [1, 1, 1]) 0 (fin Pg W 71 rv_76 R)))) (known [4, 31] ys (known [0, 1, 29, 30, 71] [(.pointer zp0), (.int .u64 zn1), (.slice zp2 zl3 zl4), (.int .i64 zn5), (.tuple #[])] j)) s) [(.slice x17 l18 c19), (.int .i64 n20)]
def L_clock_clock_tellers_2 (W : World) (R : Ending → Hp → Prop) (zp0 : Option Addr) (zl1 : Nat) (zl2 : Nat) (zn3 : Int) (x37 : Option Addr) (l38 : Nat) (c39 : Nat) (n40 : Int) : Hp → Prop :=
 LOOPN [.l, .i .i64] (fun ys next s => ∀ j : Tm, vc Pg W 71 rs_76 an_76 false (sub (bodyOf Try.f76) [1, 1, 1, 0, 1, 0, 0]) 4 (KLoop [4, 60] [58, 59, 71] [(.slice zp0 zl1 zl2), (.int .i64 zn3), (.tuple #[])] next (KBlk 4 (KS Pg W 71 rs_76 an_76 false (sub (bodyOf Try.f76) [1, 1, 1, 1]) 0 (fin Pg W 71 rv_76 R)))) (known [4, 60] ys (known [58, 59, 71] [(.slice zp0 zl1 zl2), (.int .i64 zn3), (.tuple #[])] j)) s) [(.slice x37 l38 c39), (.int .i64 n40)]
def B_clock_clock_tellers_0 (W : World) (R : Ending → Hp → Prop) (zp0 : Option Addr) (zn1 : Int) (zn2 : Int) (x5 : Option Addr) (l6 : Nat) (c7 : Nat) (n8 : Int) (nx0 : List Value → Hp → Prop) : Hp → Prop :=
 BR (decide (n8 < zn2))
 (NEW 128 [(.iface 135 (.agg #[(.int .i64 n8)]))] fun B9 =>
 APP Pg 128 1 x5 l6 c7 (some ⟨B9, 0, none⟩) 1 fun x10 l11 c12 =>
 NX [(.pointer zp0), (.int .u64 zn1), (.int .i64 zn2), (.tuple #[])] [(.pointer zp0), (.int .u64 zn1), (.int .i64 zn2), (.tuple #[])] (nx0 [(.slice x10 l11 c12), (.int .i64 (IntKind.wrap .i64 (n8 + 1)))]))
 (SO zp0 fun a13 =>
 RDL (Addr.add (Addr.add a13 0) 2) fun x14 l15 c16 =>
 L_clock_clock_tellers_1 W R zp0 zn1 x14 l15 c16 (↑l15 : Int) x5 l6 c7 0)
theorem B_clock_clock_tellers_0_eq (W : World) (R : Ending → Hp → Prop) (zp0 : Option Addr) (zn1 : Int) (zn2 : Int) (x5 : Option Addr) (l6 : Nat) (c7 : Nat) (n8 : Int) (nx0 : List Value → Hp → Prop) (j : Tm) : vc Pg W 71 rs_76 an_76 false (sub (bodyOf Try.f76) [1, 0, 1, 0, 0]) 0 (KLoop [4, 15] [0, 1, 14, 71] [(.pointer zp0), (.int .u64 zn1), (.int .i64 zn2), (.tuple #[])] nx0 (KBlk 0 (KS Pg W 71 rs_76 an_76 false (sub (bodyOf Try.f76) [1, 1]) 0 (fin Pg W 71 rv_76 R)))) (known [4, 15] [(.slice x5 l6 c7), (.int .i64 n8)] (known [0, 1, 14, 71] [(.pointer zp0), (.int .u64 zn1), (.int .i64 zn2), (.tuple #[])] j)) = B_clock_clock_tellers_0 W R zp0 zn1 zn2 x5 l6 c7 n8 nx0 := by kernel_rfl
def N_clock_clock_tellers_0 (I : Option Addr → Nat → Nat → Int → Hp → Prop) (μ : Option Addr → Nat → Nat → Int → Hp → Nat) (x50 : Option Addr) (l60 : Nat) (c70 : Nat) (n80 : Int) (s : Hp) (vs : List Value) : Hp → Prop := fun s' => ∃ x5 l6 c7 n8, vs = [(.slice x5 l6 c7), (.int .i64 n8)] ∧ I x5 l6 c7 n8 s' ∧ μ x5 l6 c7 n8 s' < μ x50 l60 c70 n80 s
theorem L_clock_clock_tellers_0_rule (W : World) (R : Ending → Hp → Prop) (zp0 : Option Addr) (zn1 : Int) (zn2 : Int) (I : Option Addr → Nat → Nat → Int → Hp → Prop) (μ : Option Addr → Nat → Nat → Int → Hp → Nat) (x50 : Option Addr) (l60 : Nat) (c70 : Nat) (n80 : Int) (s : Hp) (h0 : I x50 l60 c70 n80 s)
    (hr : ∀ (x5 : Option Addr) (l6 : Nat) (c7 : Nat) (n8 : Int) (s : Hp), I x5 l6 c7 n8 s → B_clock_clock_tellers_0 W R zp0 zn1 zn2 x5 l6 c7 n8 (fun vs => N_clock_clock_tellers_0 I μ x5 l6 c7 n8 s vs) s) : L_clock_clock_tellers_0 W R zp0 zn1 zn2 x50 l60 c70 n80 s := by
  refine ⟨fun vs s => ∃ x5 l6 c7 n8, vs = [(.slice x5 l6 c7), (.int .i64 n8)] ∧ I x5 l6 c7 n8 s, fun vs s => (match vs with | [.slice x5 l6 c7, .int _ n8] => μ x5 l6 c7 n8 s | _ => 0), ⟨⟨⟨_, _, _, rfl⟩, ⟨⟨_, rfl⟩, trivial⟩⟩, ⟨_, _, _, _, rfl, h0⟩⟩, ?_⟩
  intro x5 l6 c7 n8 s hI j
  obtain ⟨x5', l6', c7', n8', hy, hI⟩ := hI
  have hI' : I x5 l6 c7 n8 s := by cases hy; exact hI
  have hh := hr x5 l6 c7 n8 s hI'
  rw [← B_clock_clock_tellers_0_eq W R zp0 zn1 zn2 x5 l6 c7 n8 _ j] at hh
  refine vc_mono ?_ _ _ hh
  exact KLoop_mono (fun vs s' h => by obtain ⟨x51, l61, c71, n81, rfl, h1, h2⟩ := h; exact ⟨⟨⟨_, _, _, rfl⟩, ⟨⟨_, rfl⟩, trivial⟩⟩, ⟨_, _, _, _, rfl, h1⟩, h2⟩)
def B_clock_clock_tellers_1 (W : World) (R : Ending → Hp → Prop) (zp0 : Option Addr) (zn1 : Int) (zp2 : Option Addr) (zl3 : Nat) (zl4 : Nat) (zn5 : Int) (x17 : Option Addr) (l18 : Nat) (c19 : Nat) (n20 : Int) (nx1 : List Value → Hp → Prop) : Hp → Prop :=
 BR (decide (n20 < zn5))
 (IXS zp2 zl3 n20 3 fun a21 =>
 RDI .i64 (Addr.add a21 0) fun n22 =>
 RDI .i64 (Addr.add a21 1) fun n23 =>
 RDI .i64 (Addr.add a21 2) fun n24 =>
 NEWZ Pg 61 fun B25 =>
 WR (Addr.add ⟨B25, 0, none⟩ 0) (.int .i64 n22) <|
 WR (Addr.add ⟨B25, 0, none⟩ 1) (.int .i64 n23) <|
 WR (Addr.add ⟨B25, 0, none⟩ 2) (.int .i64 n24) <|
 NNI n20 <|
 BR ((andv .u64 (shrv .u64 zn1 n20) 1) == 1)
 (RDI .i64 (Addr.add ⟨B25, 0, none⟩ 0) fun n26 =>
 RDI .i64 (Addr.add ⟨B25, 0, none⟩ 1) fun n27 =>
 RDI .i64 (Addr.add ⟨B25, 0, none⟩ 2) fun n28 =>
 NEW 128 [(.iface 137 (.agg #[(.int .i64 n26), (.int .i64 n27), (.int .i64 n28)]))] fun B29 =>
 APP Pg 128 1 x17 l18 c19 (some ⟨B29, 0, none⟩) 1 fun x30 l31 c32 =>
 NX [(.pointer zp0), (.int .u64 zn1), (.slice zp2 zl3 zl4), (.int .i64 zn5), (.tuple #[])] [(.pointer zp0), (.int .u64 zn1), (.slice zp2 zl3 zl4), (.int .i64 zn5), (.tuple #[])] (nx1 [(.slice x30 l31 c32), (.int .i64 (IntKind.wrap .i64 (n20 + 1)))]))
 (NX [(.pointer zp0), (.int .u64 zn1), (.slice zp2 zl3 zl4), (.int .i64 zn5), (.tuple #[])] [(.pointer zp0), (.int .u64 zn1), (.slice zp2 zl3 zl4), (.int .i64 zn5), (.tuple #[])] (nx1 [(.slice x17 l18 c19), (.int .i64 (IntKind.wrap .i64 (n20 + 1)))])))
 (SO zp0 fun a33 =>
 RDL (Addr.add (Addr.add a33 0) 3) fun x34 l35 c36 =>
 L_clock_clock_tellers_2 W R x34 l35 c36 (↑l35 : Int) x17 l18 c19 0)
theorem B_clock_clock_tellers_1_eq (W : World) (R : Ending → Hp → Prop) (zp0 : Option Addr) (zn1 : Int) (zp2 : Option Addr) (zl3 : Nat) (zl4 : Nat) (zn5 : Int) (x17 : Option Addr) (l18 : Nat) (c19 : Nat) (n20 : Int) (nx1 : List Value → Hp → Prop) (j : Tm) : vc Pg W 71 rs_76 an_76 false (sub (bodyOf Try.f76) [1, 1, 0, 1, 0, 0]) 2 (KLoop [4, 31] [0, 1, 29, 30, 71] [(.pointer zp0), (.int .u64 zn1), (.slice zp2 zl3 zl4), (.int .i64 zn5), (.tuple #[])] nx1 (KBlk 2 (KS Pg W 71 rs_76 an_76 false (sub (bodyOf Try.f76) [1, 1, 1]) 0 (fin Pg W 71 rv_76 R)))) (known [4, 31] [(.slice x17 l18 c19), (.int .i64 n20)] (known [0, 1, 29, 30, 71] [(.pointer zp0), (.int .u64 zn1), (.slice zp2 zl3 zl4), (.int .i64 zn5), (.tuple #[])] j)) = B_clock_clock_tellers_1 W R zp0 zn1 zp2 zl3 zl4 zn5 x17 l18 c19 n20 nx1 := by kernel_rfl
def N_clock_clock_tellers_1 (I : Option Addr → Nat → Nat → Int → Hp → Prop) (μ : Option Addr → Nat → Nat → Int → Hp → Nat) (x170 : Option Addr) (l180 : Nat) (c190 : Nat) (n200 : Int) (s : Hp) (vs : List Value) : Hp → Prop := fun s' => ∃ x17 l18 c19 n20, vs = [(.slice x17 l18 c19), (.int .i64 n20)] ∧ I x17 l18 c19 n20 s' ∧ μ x17 l18 c19 n20 s' < μ x170 l180 c190 n200 s
theorem L_clock_clock_tellers_1_rule (W : World) (R : Ending → Hp → Prop) (zp0 : Option Addr) (zn1 : Int) (zp2 : Option Addr) (zl3 : Nat) (zl4 : Nat) (zn5 : Int) (I : Option Addr → Nat → Nat → Int → Hp → Prop) (μ : Option Addr → Nat → Nat → Int → Hp → Nat) (x170 : Option Addr) (l180 : Nat) (c190 : Nat) (n200 : Int) (s : Hp) (h0 : I x170 l180 c190 n200 s)
    (hr : ∀ (x17 : Option Addr) (l18 : Nat) (c19 : Nat) (n20 : Int) (s : Hp), I x17 l18 c19 n20 s → B_clock_clock_tellers_1 W R zp0 zn1 zp2 zl3 zl4 zn5 x17 l18 c19 n20 (fun vs => N_clock_clock_tellers_1 I μ x17 l18 c19 n20 s vs) s) : L_clock_clock_tellers_1 W R zp0 zn1 zp2 zl3 zl4 zn5 x170 l180 c190 n200 s := by
  refine ⟨fun vs s => ∃ x17 l18 c19 n20, vs = [(.slice x17 l18 c19), (.int .i64 n20)] ∧ I x17 l18 c19 n20 s, fun vs s => (match vs with | [.slice x17 l18 c19, .int _ n20] => μ x17 l18 c19 n20 s | _ => 0), ⟨⟨⟨_, _, _, rfl⟩, ⟨⟨_, rfl⟩, trivial⟩⟩, ⟨_, _, _, _, rfl, h0⟩⟩, ?_⟩
  intro x17 l18 c19 n20 s hI j
  obtain ⟨x17', l18', c19', n20', hy, hI⟩ := hI
  have hI' : I x17 l18 c19 n20 s := by cases hy; exact hI
  have hh := hr x17 l18 c19 n20 s hI'
  rw [← B_clock_clock_tellers_1_eq W R zp0 zn1 zp2 zl3 zl4 zn5 x17 l18 c19 n20 _ j] at hh
  refine vc_mono ?_ _ _ hh
  exact KLoop_mono (fun vs s' h => by obtain ⟨x171, l181, c191, n201, rfl, h1, h2⟩ := h; exact ⟨⟨⟨_, _, _, rfl⟩, ⟨⟨_, rfl⟩, trivial⟩⟩, ⟨_, _, _, _, rfl, h1⟩, h2⟩)
def B_clock_clock_tellers_2 (W : World) (R : Ending → Hp → Prop) (zp0 : Option Addr) (zl1 : Nat) (zl2 : Nat) (zn3 : Int) (x37 : Option Addr) (l38 : Nat) (c39 : Nat) (n40 : Int) (nx2 : List Value → Hp → Prop) : Hp → Prop :=
 BR (decide (n40 < zn3))
 (IXS zp0 zl1 n40 4 fun a41 =>
 RDI .i64 (Addr.add a41 0) fun n42 =>
 RDI .i64 (Addr.add a41 1) fun n43 =>
 RDI .i64 (Addr.add a41 2) fun n44 =>
 RDI .i64 (Addr.add a41 3) fun n45 =>
 NEWZ Pg 63 fun B46 =>
 WR (Addr.add ⟨B46, 0, none⟩ 0) (.int .i64 n42) <|
 WR (Addr.add ⟨B46, 0, none⟩ 1) (.int .i64 n43) <|
 WR (Addr.add ⟨B46, 0, none⟩ 2) (.int .i64 n44) <|
 WR (Addr.add ⟨B46, 0, none⟩ 3) (.int .i64 n45) <|
 RDI .i64 (Addr.add ⟨B46, 0, none⟩ 0) fun n47 =>
 RDI .i64 (Addr.add ⟨B46, 0, none⟩ 1) fun n48 =>
 RDI .i64 (Addr.add ⟨B46, 0, none⟩ 2) fun n49 =>
 RDI .i64 (Addr.add ⟨B46, 0, none⟩ 3) fun n50 =>
 NEW 128 [(.iface 138 (.agg #[(.int .i64 n47), (.int .i64 n48), (.int .i64 n49), (.int .i64 n50)]))] fun B51 =>
 APP Pg 128 1 x37 l38 c39 (some ⟨B51, 0, none⟩) 1 fun x52 l53 c54 =>
 NX [(.slice zp0 zl1 zl2), (.int .i64 zn3), (.tuple #[])] [(.slice zp0 zl1 zl2), (.int .i64 zn3), (.tuple #[])] (nx2 [(.slice x52 l53 c54), (.int .i64 (IntKind.wrap .i64 (n40 + 1)))]))
 (R (.returned (.slice x37 l38 c39)))
theorem B_clock_clock_tellers_2_eq (W : World) (R : Ending → Hp → Prop) (zp0 : Option Addr) (zl1 : Nat) (zl2 : Nat) (zn3 : Int) (x37 : Option Addr) (l38 : Nat) (c39 : Nat) (n40 : Int) (nx2 : List Value → Hp → Prop) (j : Tm) : vc Pg W 71 rs_76 an_76 false (sub (bodyOf Try.f76) [1, 1, 1, 0, 1, 0, 0]) 4 (KLoop [4, 60] [58, 59, 71] [(.slice zp0 zl1 zl2), (.int .i64 zn3), (.tuple #[])] nx2 (KBlk 4 (KS Pg W 71 rs_76 an_76 false (sub (bodyOf Try.f76) [1, 1, 1, 1]) 0 (fin Pg W 71 rv_76 R)))) (known [4, 60] [(.slice x37 l38 c39), (.int .i64 n40)] (known [58, 59, 71] [(.slice zp0 zl1 zl2), (.int .i64 zn3), (.tuple #[])] j)) = B_clock_clock_tellers_2 W R zp0 zl1 zl2 zn3 x37 l38 c39 n40 nx2 := by kernel_rfl
def N_clock_clock_tellers_2 (I : Option Addr → Nat → Nat → Int → Hp → Prop) (μ : Option Addr → Nat → Nat → Int → Hp → Nat) (x370 : Option Addr) (l380 : Nat) (c390 : Nat) (n400 : Int) (s : Hp) (vs : List Value) : Hp → Prop := fun s' => ∃ x37 l38 c39 n40, vs = [(.slice x37 l38 c39), (.int .i64 n40)] ∧ I x37 l38 c39 n40 s' ∧ μ x37 l38 c39 n40 s' < μ x370 l380 c390 n400 s
theorem L_clock_clock_tellers_2_rule (W : World) (R : Ending → Hp → Prop) (zp0 : Option Addr) (zl1 : Nat) (zl2 : Nat) (zn3 : Int) (I : Option Addr → Nat → Nat → Int → Hp → Prop) (μ : Option Addr → Nat → Nat → Int → Hp → Nat) (x370 : Option Addr) (l380 : Nat) (c390 : Nat) (n400 : Int) (s : Hp) (h0 : I x370 l380 c390 n400 s)
    (hr : ∀ (x37 : Option Addr) (l38 : Nat) (c39 : Nat) (n40 : Int) (s : Hp), I x37 l38 c39 n40 s → B_clock_clock_tellers_2 W R zp0 zl1 zl2 zn3 x37 l38 c39 n40 (fun vs => N_clock_clock_tellers_2 I μ x37 l38 c39 n40 s vs) s) : L_clock_clock_tellers_2 W R zp0 zl1 zl2 zn3 x370 l380 c390 n400 s := by
  refine ⟨fun vs s => ∃ x37 l38 c39 n40, vs = [(.slice x37 l38 c39), (.int .i64 n40)] ∧ I x37 l38 c39 n40 s, fun vs s => (match vs with | [.slice x37 l38 c39, .int _ n40] => μ x37 l38 c39 n40 s | _ => 0), ⟨⟨⟨_, _, _, rfl⟩, ⟨⟨_, rfl⟩, trivial⟩⟩, ⟨_, _, _, _, rfl, h0⟩⟩, ?_⟩
  intro x37 l38 c39 n40 s hI j
  obtain ⟨x37', l38', c39', n40', hy, hI⟩ := hI
  have hI' : I x37 l38 c39 n40 s := by cases hy; exact hI
  have hh := hr x37 l38 c39 n40 s hI'
  rw [← B_clock_clock_tellers_2_eq W R zp0 zl1 zl2 zn3 x37 l38 c39 n40 _ j] at hh
  refine vc_mono ?_ _ _ hh
  exact KLoop_mono (fun vs s' h => by obtain ⟨x371, l381, c391, n401, rfl, h1, h2⟩ := h; exact ⟨⟨⟨_, _, _, rfl⟩, ⟨⟨_, rfl⟩, trivial⟩⟩, ⟨_, _, _, _, rfl, h1⟩, h2⟩)
def T_clock_clock_tellers (W : World) (p1 : Option Addr) (n2 : Int) (R : Ending → Hp → Prop) : Hp → Prop :=
 SO p1 fun a3 =>
 RDI .i64 (Addr.add (Addr.add a3 0) 1) fun n4 =>
 L_clock_clock_tellers_0 W R p1 n2 n4 none 0 0 0
theorem T_clock_clock_tellers_eq (W : World) (p1 : Option Addr) (n2 : Int) (R : Ending → Hp → Prop) : vfun Pg W an_76 Try.f76 [(.pointer p1), (.int .u64 n2)] R = T_clock_clock_tellers W p1 n2 R := by kernel_rfl
theorem does_clock_clock_tellers (W : World) (p1 : Option Addr) (n2 : Int) (R : Ending → Hp → Prop) (s : Hp) (h : T_clock_clock_tellers W p1 n2 R s) : Does Pg W F_clock_clock_tellers #[(.pointer p1), (.int .u64 n2)] s R :=
  does_of_vfun Pg W an_76 Try.func76 rfl (by kernel_rfl) (by rw [T_clock_clock_tellers_eq]; exact h)
def an_77 : Nat → Ann := fun b => match b with
 | _ => {}
abbrev rv_77 : List ResultVar := [.tmp 2]
abbrev rs_77 : List Nat := [4, 2]
def T_clock_clock_choices (W : World) (p1 : Option Addr) (R : Ending → Hp → Prop) : Hp → Prop :=
 NEW 76 [(.pointer p1)] fun B2 =>
 R (.returned (.func (.func 82) #[] #[(.pointer (some ⟨B2, 0, none⟩))]))
theorem T_clock_clock_choices_eq (W : World) (p1 : Option Addr) (R : Ending → Hp → Prop) : vfun Pg W an_77 Try.f77 [(.pointer p1)] R = T_clock_clock_choices W p1 R := by kernel_rfl
theorem does_clock_clock_choices (W : World) (p1 : Option Addr) (R : Ending → Hp → Prop) (s : Hp) (h : T_clock_clock_choices W p1 R s) : Does Pg W F_clock_clock_choices #[(.pointer p1)] s R :=
  does_of_vfun Pg W an_77 Try.func77 rfl (by kernel_rfl) (by rw [T_clock_clock_choices_eq]; exact h)
def an_78 : Nat → Ann := fun b => match b with
 | 0 => { ms := [4, 5], ks := [.b, .b], us := [0, 1, 86], rt := false, ex := [] }
 | 2 => { ms := [5, 6], ks := [.b, .i .i64], us := [0, 1, 4, 86], rt := false, ex := [] }
 | 4 => { ms := [5], ks := [.b], us := [0, 1, 4, 6, 22, 86], rt := false, ex := [] }
 | 6 => { ms := [4], ks := [.b], us := [0, 1, 5, 63, 86], rt := false, ex := [] }
 | _ => {}
abbrev rv_78 : List ResultVar := [.tmp 4]
abbrev rs_78 : List Nat := [86, 4]
def L_clock_bounds_tight_0 (W : World) (R : Ending → Hp → Prop) (zm0 : Option Nat) (zn1 : Int) (b3 : Bool) (b4 : Bool) : Hp → Prop :=
 LOOPN [.b, .b] (fun ys next s => ∀ j : Tm, vc Pg W 86 rs_78 an_78 false (sub (bodyOf Try.f78) [1, 0, 1, 0, 0]) 0 (KLoop [4, 5] [0, 1, 86] [(.map zm0), (.int .i64 zn1), (.tuple #[])] next (KBlk 0 (KS Pg W 86 rs_78 an_78 false (sub (bodyOf Try.f78) [1, 1]) 0 (fin Pg W 86 rv_78 R)))) (known [4, 5] ys (known [0, 1, 86] [(.map zm0), (.int .i64 zn1), (.tuple #[])] j)) s) [(.bool b3), (.bool b4)]
def L_clock_bounds_tight_1 (W : World) (R : Ending → Hp → Prop) (nx0 : List Value → Hp → Prop) (zm0 : Option Nat) (zn1 : Int) (zb2 : Bool) (b5 : Bool) (n6 : Int) : Hp → Prop :=
 LOOPN [.b, .i .i64] (fun ys next s => ∀ j : Tm, vc Pg W 86 rs_78 an_78 false (sub (bodyOf Try.f78) [1, 0, 1, 0, 0, 1, 0, 1, 0, 1, 0, 0]) 2 (KLoop [5, 6] [0, 1, 4, 86] [(.map zm0), (.int .i64 zn1), (.bool zb2), (.tuple #[])] next (KBlk 2 (KS Pg W 86 rs_78 an_78 false (sub (bodyOf Try.f78) [1, 0, 1, 0, 0, 1, 0, 1, 1]) 1 (KBlk 1 (KLoop [4, 5] [0, 1, 86] [(.map zm0), (.int .i64 zn1), (.tuple #[])] nx0 (KBlk 0 (KS Pg W 86 rs_78 an_78 false (sub (bodyOf Try.f78) [1, 1]) 0 (fin Pg W 86 rv_78 R)))))))) (known [5, 6] ys (known [0, 1, 4, 86] [(.map zm0), (.int .i64 zn1), (.bool zb2), (.tuple #[])] j)) s) [(.bool b5), (.int .i64 n6)]
def L_clock_bounds_tight_2 (W : World) (R : Ending → Hp → Prop) (nx0 : List Value → Hp → Prop) (nx1 : List Value → Hp → Prop) (zm0 : Option Nat) (zn1 : Int) (zb2 : Bool) (zn3 : Int) (za4 : Addr) (b9 : Bool) : Hp → Prop :=
 LOOPN [.b] (fun ys next s => ∀ j : Tm, vc Pg W 86 rs_78 an_78 false (sub (bodyOf Try.f78) [1, 0, 1, 0, 0, 1, 0, 1, 0, 1, 0, 0, 1, 0, 0, 1, 0, 0]) 4 (KLoop [5] [0, 1, 4, 6, 22, 86] [(.map zm0), (.int .i64 zn1), (.bool zb2), (.int .i64 zn3), (.pointer (some za4)), (.tuple #[])] next (KBlk 4 (KBlk 3 (KS Pg W 86 rs_78 an_78 false (sub (bodyOf Try.f78) [1, 0, 1, 0, 0, 1, 0, 1, 0, 1, 0, 0, 1, 1]) 2 (KLoop [5, 6] [0, 1, 4, 86] [(.map zm0), (.int .i64 zn1), (.bool zb2), (.tuple #[])] nx1 (KBlk 2 (KS Pg W 86 rs_78 an_78 false (sub (bodyOf Try.f78) [1, 0, 1, 0, 0, 1, 0, 1, 1]) 1 (KBlk 1 (KLoop [4, 5] [0, 1, 86] [(.map zm0), (.int .i64 zn1), (.tuple #[])] nx0 (KBlk 0 (KS Pg W 86 rs_78 an_78 false (sub (bodyOf Try.f78) [1, 1]) 0 (fin Pg W 86 rv_78 R)))))))))))) (known [5] ys (known [0, 1, 4, 6, 22, 86] [(.map zm0), (.int .i64 zn1), (.bool zb2), (.int .i64 zn3), (.pointer (some za4)), (.tuple #[])] j)) s) [(.bool b9)]
def L_clock_bounds_tight_3 (W : World) (R : Ending → Hp → Prop) (nx0 : List Value → Hp → Prop) (zm0 : Option Nat) (zn1 : Int) (zb2 : Bool) (za3 : Addr) (b44 : Bool) : Hp → Prop :=
 LOOPN [.b] (fun ys next s => ∀ j : Tm, vc Pg W 86 rs_78 an_78 false (sub (bodyOf Try.f78) [1, 0, 1, 0, 0, 1, 0, 1, 1, 1, 0, 0]) 6 (KLoop [4] [0, 1, 5, 63, 86] [(.map zm0), (.int .i64 zn1), (.bool zb2), (.pointer (some za3)), (.tuple #[])] next (KBlk 6 (KBlk 1 (KLoop [4, 5] [0, 1, 86] [(.map zm0), (.int .i64 zn1), (.tuple #[])] nx0 (KBlk 0 (KS Pg W 86 rs_78 an_78 false (sub (bodyOf Try.f78) [1, 1]) 0 (fin Pg W 86 rv_78 R))))))) (known [4] ys (known [0, 1, 5, 63, 86] [(.map zm0), (.int .i64 zn1), (.bool zb2), (.pointer (some za3)), (.tuple #[])] j)) s) [(.bool b44)]
def J_clock_bounds_tight_0 (W : World) (R : Ending → Hp → Prop) (b39 : Bool) (B26 : Nat) (zm0 : Option Nat) (zn3 : Int) (n25 : Int) (n32 : Int) (zn1 : Int) (zb2 : Bool) (za4 : Addr) (nx2 : List Value → Hp → Prop) (b9 : Bool) : Hp → Prop :=
 BR b39
 (RDI .i64 (Addr.add ⟨B26, 0, none⟩ 0) fun n40 =>
 CALL Pg W F_clock_bounds_put [(.map zm0), (.agg #[(.int .i64 n40), (.int .i64 zn3)]), (.int .i64 (IntKind.wrap .i64 (n25 + n32)))]
 (fun v41 => TYB v41 fun b43 =>
 BR b43
 (NX [(.map zm0), (.int .i64 zn1), (.bool zb2), (.int .i64 zn3), (.pointer (some za4)), (.tuple #[])] [(.map zm0), (.int .i64 zn1), (.bool zb2), (.int .i64 zn3), (.pointer (some za4)), (.tuple #[])] (nx2 [(.bool true)]))
 (NX [(.map zm0), (.int .i64 zn1), (.bool zb2), (.int .i64 zn3), (.pointer (some za4)), (.tuple #[])] [(.map zm0), (.int .i64 zn1), (.bool zb2), (.int .i64 zn3), (.pointer (some za4)), (.tuple #[])] (nx2 [(.bool b9)])))
 (fun e42 => R (.panicked e42)))
 (NX [(.map zm0), (.int .i64 zn1), (.bool zb2), (.int .i64 zn3), (.pointer (some za4)), (.tuple #[])] [(.map zm0), (.int .i64 zn1), (.bool zb2), (.int .i64 zn3), (.pointer (some za4)), (.tuple #[])] (nx2 [(.bool b9)]))
def J_clock_bounds_tight_1 (W : World) (R : Ending → Hp → Prop) (b37 : Bool) (B26 : Nat) (zn3 : Int) (zm0 : Option Nat) (n25 : Int) (n32 : Int) (zn1 : Int) (zb2 : Bool) (za4 : Addr) (nx2 : List Value → Hp → Prop) (b9 : Bool) : Hp → Prop :=
 BR b37
 (RDI .i64 (Addr.add ⟨B26, 0, none⟩ 1) fun n38 =>
 J_clock_bounds_tight_0 W R (n38 != zn3) B26 zm0 zn3 n25 n32 zn1 zb2 za4 nx2 b9)
 (J_clock_bounds_tight_0 W R false B26 zm0 zn3 n25 n32 zn1 zb2 za4 nx2 b9)
def B_clock_bounds_tight_0 (W : World) (R : Ending → Hp → Prop) (zm0 : Option Nat) (zn1 : Int) (b3 : Bool) (b4 : Bool) (nx0 : List Value → Hp → Prop) : Hp → Prop :=
 BR b4
 (L_clock_bounds_tight_1 W R nx0 zm0 zn1 b3 false (-1))
 (R (.returned (.bool true)))
theorem B_clock_bounds_tight_0_eq (W : World) (R : Ending → Hp → Prop) (zm0 : Option Nat) (zn1 : Int) (b3 : Bool) (b4 : Bool) (nx0 : List Value → Hp → Prop) (j : Tm) : vc Pg W 86 rs_78 an_78 false (sub (bodyOf Try.f78) [1, 0, 1, 0, 0]) 0 (KLoop [4, 5] [0, 1, 86] [(.map zm0), (.int .i64 zn1), (.tuple #[])] nx0 (KBlk 0 (KS Pg W 86 rs_78 an_78 false (sub (bodyOf Try.f78) [1, 1]) 0 (fin Pg W 86 rv_78 R)))) (known [4, 5] [(.bool b3), (.bool b4)] (known [0, 1, 86] [(.map zm0), (.int .i64 zn1), (.tuple #[])] j)) = B_clock_bounds_tight_0 W R zm0 zn1 b3 b4 nx0 := by kernel_rfl
def N_clock_bounds_tight_0 (I : Bool → Bool → Hp → Prop) (μ : Bool → Bool → Hp → Nat) (b30 : Bool) (b40 : Bool) (s : Hp) (vs : List Value) : Hp → Prop := fun s' => ∃ b3 b4, vs = [(.bool b3), (.bool b4)] ∧ I b3 b4 s' ∧ μ b3 b4 s' < μ b30 b40 s
theorem L_clock_bounds_tight_0_rule (W : World) (R : Ending → Hp → Prop) (zm0 : Option Nat) (zn1 : Int) (I : Bool → Bool → Hp → Prop) (μ : Bool → Bool → Hp → Nat) (b30 : Bool) (b40 : Bool) (s : Hp) (h0 : I b30 b40 s)
    (hr : ∀ (b3 : Bool) (b4 : Bool) (s : Hp), I b3 b4 s → B_clock_bounds_tight_0 W R zm0 zn1 b3 b4 (fun vs => N_clock_bounds_tight_0 I μ b3 b4 s vs) s) : L_clock_bounds_tight_0 W R zm0 zn1 b30 b40 s := by
  refine ⟨fun vs s => ∃ b3 b4, vs = [(.bool b3), (.bool b4)] ∧ I b3 b4 s, fun vs s => (match vs with | [.bool b3, .bool b4] => μ b3 b4 s | _ => 0), ⟨⟨⟨_, rfl⟩, ⟨⟨_, rfl⟩, trivial⟩⟩, ⟨_, _, rfl, h0⟩⟩, ?_⟩
  intro b3 b4 s hI j
  obtain ⟨b3', b4', hy, hI⟩ := hI
  have hI' : I b3 b4 s := by cases hy; exact hI
  have hh := hr b3 b4 s hI'
  rw [← B_clock_bounds_tight_0_eq W R zm0 zn1 b3 b4 _ j] at hh
  refine vc_mono ?_ _ _ hh
  exact KLoop_mono (fun vs s' h => by obtain ⟨b31, b41, rfl, h1, h2⟩ := h; exact ⟨⟨⟨_, rfl⟩, ⟨⟨_, rfl⟩, trivial⟩⟩, ⟨_, _, rfl, h1⟩, h2⟩)
def B_clock_bounds_tight_1 (W : World) (R : Ending → Hp → Prop) (nx0 : List Value → Hp → Prop) (zm0 : Option Nat) (zn1 : Int) (zb2 : Bool) (b5 : Bool) (n6 : Int) (nx1 : List Value → Hp → Prop) : Hp → Prop :=
 BR (decide (n6 < zn1))
 (RNM Pg 93 (.map zm0) fun B7 =>
 L_clock_bounds_tight_2 W R nx0 nx1 zm0 zn1 zb2 n6 ⟨B7, 0, none⟩ b5)
 (RNM Pg 93 (.map zm0) fun B8 =>
 L_clock_bounds_tight_3 W R nx0 zm0 zn1 b5 ⟨B8, 0, none⟩ zb2)
theorem B_clock_bounds_tight_1_eq (W : World) (R : Ending → Hp → Prop) (nx0 : List Value → Hp → Prop) (zm0 : Option Nat) (zn1 : Int) (zb2 : Bool) (b5 : Bool) (n6 : Int) (nx1 : List Value → Hp → Prop) (j : Tm) : vc Pg W 86 rs_78 an_78 false (sub (bodyOf Try.f78) [1, 0, 1, 0, 0, 1, 0, 1, 0, 1, 0, 0]) 2 (KLoop [5, 6] [0, 1, 4, 86] [(.map zm0), (.int .i64 zn1), (.bool zb2), (.tuple #[])] nx1 (KBlk 2 (KS Pg W 86 rs_78 an_78 false (sub (bodyOf Try.f78) [1, 0, 1, 0, 0, 1, 0, 1, 1]) 1 (KBlk 1 (KLoop [4, 5] [0, 1, 86] [(.map zm0), (.int .i64 zn1), (.tuple #[])] nx0 (KBlk 0 (KS Pg W 86 rs_78 an_78 false (sub (bodyOf Try.f78) [1, 1]) 0 (fin Pg W 86 rv_78 R)))))))) (known [5, 6] [(.bool b5), (.int .i64 n6)] (known [0, 1, 4, 86] [(.map zm0), (.int .i64 zn1), (.bool zb2), (.tuple #[])] j)) = B_clock_bounds_tight_1 W R nx0 zm0 zn1 zb2 b5 n6 nx1 := by kernel_rfl
def N_clock_bounds_tight_1 (I : Bool → Int → Hp → Prop) (μ : Bool → Int → Hp → Nat) (b50 : Bool) (n60 : Int) (s : Hp) (vs : List Value) : Hp → Prop := fun s' => ∃ b5 n6, vs = [(.bool b5), (.int .i64 n6)] ∧ I b5 n6 s' ∧ μ b5 n6 s' < μ b50 n60 s
theorem L_clock_bounds_tight_1_rule (W : World) (R : Ending → Hp → Prop) (nx0 : List Value → Hp → Prop) (zm0 : Option Nat) (zn1 : Int) (zb2 : Bool) (I : Bool → Int → Hp → Prop) (μ : Bool → Int → Hp → Nat) (b50 : Bool) (n60 : Int) (s : Hp) (h0 : I b50 n60 s)
    (hr : ∀ (b5 : Bool) (n6 : Int) (s : Hp), I b5 n6 s → B_clock_bounds_tight_1 W R nx0 zm0 zn1 zb2 b5 n6 (fun vs => N_clock_bounds_tight_1 I μ b5 n6 s vs) s) : L_clock_bounds_tight_1 W R nx0 zm0 zn1 zb2 b50 n60 s := by
  refine ⟨fun vs s => ∃ b5 n6, vs = [(.bool b5), (.int .i64 n6)] ∧ I b5 n6 s, fun vs s => (match vs with | [.bool b5, .int _ n6] => μ b5 n6 s | _ => 0), ⟨⟨⟨_, rfl⟩, ⟨⟨_, rfl⟩, trivial⟩⟩, ⟨_, _, rfl, h0⟩⟩, ?_⟩
  intro b5 n6 s hI j
  obtain ⟨b5', n6', hy, hI⟩ := hI
  have hI' : I b5 n6 s := by cases hy; exact hI
  have hh := hr b5 n6 s hI'
  rw [← B_clock_bounds_tight_1_eq W R nx0 zm0 zn1 zb2 b5 n6 _ j] at hh
  refine vc_mono ?_ _ _ hh
  exact KLoop_mono (fun vs s' h => by obtain ⟨b51, n61, rfl, h1, h2⟩ := h; exact ⟨⟨⟨_, rfl⟩, ⟨⟨_, rfl⟩, trivial⟩⟩, ⟨_, _, rfl, h1⟩, h2⟩)
def B_clock_bounds_tight_2 (W : World) (R : Ending → Hp → Prop) (nx0 : List Value → Hp → Prop) (nx1 : List Value → Hp → Prop) (zm0 : Option Nat) (zn1 : Int) (zb2 : Bool) (zn3 : Int) (za4 : Addr) (b9 : Bool) (nx2 : List Value → Hp → Prop) : Hp → Prop :=
 NXM Pg (.pointer (some za4))
 (NX [(.map zm0), (.int .i64 zn1), (.bool zb2), (.tuple #[])] [(.map zm0), (.int .i64 zn1), (.bool zb2), (.tuple #[])] (nx1 [(.bool b9), (.int .i64 (IntKind.wrap .i64 (zn3 + 1)))])) fun v10 v11 =>
 ENT Pg (.pointer (some za4)) fun v12 v13 =>
 HD [v12, v13] fun v14 r15 => AGG v14 fun q16 => HD q16 fun v17 r18 => TYI .i64 v17 fun n19 =>
 HD r18 fun v20 r21 => TYI .i64 v20 fun n22 =>
 NL r21 <|
 HD r15 fun v23 r24 => TYI .i64 v23 fun n25 =>
 NL r24 <|
 NEWZ Pg 111 fun B26 =>
 WR (Addr.add ⟨B26, 0, none⟩ 0) (.int .i64 n19) <|
 WR (Addr.add ⟨B26, 0, none⟩ 1) (.int .i64 n22) <|
 RDI .i64 (Addr.add ⟨B26, 0, none⟩ 1) fun n27 =>
 LKP Pg 93 (.map zm0) (.agg #[(.int .i64 n27), (.int .i64 zn3)]) true fun v28 =>
 TUP v28 fun q29 => HD q29 fun v30 r31 => TYI .i64 v30 fun n32 =>
 HD r31 fun v33 r34 => TYB v33 fun b35 =>
 NL r34 <|
 BR b35
 (RDI .i64 (Addr.add ⟨B26, 0, none⟩ 0) fun n36 =>
 J_clock_bounds_tight_1 W R (n36 != zn3) B26 zn3 zm0 n25 n32 zn1 zb2 za4 nx2 b9)
 (J_clock_bounds_tight_1 W R false B26 zn3 zm0 n25 n32 zn1 zb2 za4 nx2 b9)
theorem B_clock_bounds_tight_2_eq (W : World) (R : Ending → Hp → Prop) (nx0 : List Value → Hp → Prop) (nx1 : List Value → Hp → Prop) (zm0 : Option Nat) (zn1 : Int) (zb2 : Bool) (zn3 : Int) (za4 : Addr) (b9 : Bool) (nx2 : List Value → Hp → Prop) (j : Tm) : vc Pg W 86 rs_78 an_78 false (sub (bodyOf Try.f78) [1, 0, 1, 0, 0, 1, 0, 1, 0, 1, 0, 0, 1, 0, 0, 1, 0, 0]) 4 (KLoop [5] [0, 1, 4, 6, 22, 86] [(.map zm0), (.int .i64 zn1), (.bool zb2), (.int .i64 zn3), (.pointer (some za4)), (.tuple #[])] nx2 (KBlk 4 (KBlk 3 (KS Pg W 86 rs_78 an_78 false (sub (bodyOf Try.f78) [1, 0, 1, 0, 0, 1, 0, 1, 0, 1, 0, 0, 1, 1]) 2 (KLoop [5, 6] [0, 1, 4, 86] [(.map zm0), (.int .i64 zn1), (.bool zb2), (.tuple #[])] nx1 (KBlk 2 (KS Pg W 86 rs_78 an_78 false (sub (bodyOf Try.f78) [1, 0, 1, 0, 0, 1, 0, 1, 1]) 1 (KBlk 1 (KLoop [4, 5] [0, 1, 86] [(.map zm0), (.int .i64 zn1), (.tuple #[])] nx0 (KBlk 0 (KS Pg W 86 rs_78 an_78 false (sub (bodyOf Try.f78) [1, 1]) 0 (fin Pg W 86 rv_78 R)))))))))))) (known [5] [(.bool b9)] (known [0, 1, 4, 6, 22, 86] [(.map zm0), (.int .i64 zn1), (.bool zb2), (.int .i64 zn3), (.pointer (some za4)), (.tuple #[])] j)) = B_clock_bounds_tight_2 W R nx0 nx1 zm0 zn1 zb2 zn3 za4 b9 nx2 := by kernel_rfl
def N_clock_bounds_tight_2 (I : Bool → Hp → Prop) (μ : Bool → Hp → Nat) (b90 : Bool) (s : Hp) (vs : List Value) : Hp → Prop := fun s' => ∃ b9, vs = [(.bool b9)] ∧ I b9 s' ∧ μ b9 s' < μ b90 s
theorem L_clock_bounds_tight_2_rule (W : World) (R : Ending → Hp → Prop) (nx0 : List Value → Hp → Prop) (nx1 : List Value → Hp → Prop) (zm0 : Option Nat) (zn1 : Int) (zb2 : Bool) (zn3 : Int) (za4 : Addr) (I : Bool → Hp → Prop) (μ : Bool → Hp → Nat) (b90 : Bool) (s : Hp) (h0 : I b90 s)
    (hr : ∀ (b9 : Bool) (s : Hp), I b9 s → B_clock_bounds_tight_2 W R nx0 nx1 zm0 zn1 zb2 zn3 za4 b9 (fun vs => N_clock_bounds_tight_2 I μ b9 s vs) s) : L_clock_bounds_tight_2 W R nx0 nx1 zm0 zn1 zb2 zn3 za4 b90 s := by
  refine ⟨fun vs s => ∃ b9, vs = [(.bool b9)] ∧ I b9 s, fun vs s => (match vs with | [.bool b9] => μ b9 s | _ => 0), ⟨⟨⟨_, rfl⟩, trivial⟩, ⟨_, rfl, h0⟩⟩, ?_⟩
  intro b9 s hI j
  obtain ⟨b9', hy, hI⟩ := hI
  have hI' : I b9 s := by cases hy; exact hI
  have hh := hr b9 s hI'
  rw [← B_clock_bounds_tight_2_eq W R nx0 nx1 zm0 zn1 zb2 zn3 za4 b9 _ j] at hh
  refine vc_mono ?_ _ _ hh
  exact KLoop_mono (fun vs s' h => by obtain ⟨b91, rfl, h1, h2⟩ := h; exact ⟨⟨⟨_, rfl⟩, trivial⟩, ⟨_, rfl, h1⟩, h2⟩)
def B_clock_bounds_tight_3 (W : World) (R : Ending → Hp → Prop) (nx0 : List Value → Hp → Prop) (zm0 : Option Nat) (zn1 : Int) (zb2 : Bool) (za3 : Addr) (b44 : Bool) (nx3 : List Value → Hp → Prop) : Hp → Prop :=
 NXM Pg (.pointer (some za3))
 (NX [(.map zm0), (.int .i64 zn1), (.tuple #[])] [(.map zm0), (.int .i64 zn1), (.tuple #[])] (nx0 [(.bool b44), (.bool zb2)])) fun v45 v46 =>
 ENT Pg (.pointer (some za3)) fun v47 v48 =>
 HD [v47, v48] fun v49 r50 => AGG v49 fun q51 => HD q51 fun v52 r53 => TYI .i64 v52 fun n54 =>
 HD r53 fun v55 r56 => TYI .i64 v55 fun n57 =>
 NL r56 <|
 HD r50 fun v58 r59 => TYI .i64 v58 fun n60 =>
 NL r59 <|
 NEWZ Pg 111 fun B61 =>
 WR (Addr.add ⟨B61, 0, none⟩ 0) (.int .i64 n54) <|
 WR (Addr.add ⟨B61, 0, none⟩ 1) (.int .i64 n57) <|
 RDI .i64 (Addr.add ⟨B61, 0, none⟩ 1) fun n62 =>
 RDI .i64 (Addr.add ⟨B61, 0, none⟩ 0) fun n63 =>
 LKP Pg 93 (.map zm0) (.agg #[(.int .i64 n62), (.int .i64 n63)]) true fun v64 =>
 TUP v64 fun q65 => HD q65 fun v66 r67 => TYI .i64 v66 fun n68 =>
 HD r67 fun v69 r70 => TYB v69 fun b71 =>
 NL r70 <|
 BR b71
 (BR (decide ((IntKind.wrap .i64 (n60 + n68)) < 0))
 (R (.returned (.bool false)))
 (NX [(.map zm0), (.int .i64 zn1), (.bool zb2), (.pointer (some za3)), (.tuple #[])] [(.map zm0), (.int .i64 zn1), (.bool zb2), (.pointer (some za3)), (.tuple #[])] (nx3 [(.bool b44)])))
 (NX [(.map zm0), (.int .i64 zn1), (.bool zb2), (.pointer (some za3)), (.tuple #[])] [(.map zm0), (.int .i64 zn1), (.bool zb2), (.pointer (some za3)), (.tuple #[])] (nx3 [(.bool b44)]))
theorem B_clock_bounds_tight_3_eq (W : World) (R : Ending → Hp → Prop) (nx0 : List Value → Hp → Prop) (zm0 : Option Nat) (zn1 : Int) (zb2 : Bool) (za3 : Addr) (b44 : Bool) (nx3 : List Value → Hp → Prop) (j : Tm) : vc Pg W 86 rs_78 an_78 false (sub (bodyOf Try.f78) [1, 0, 1, 0, 0, 1, 0, 1, 1, 1, 0, 0]) 6 (KLoop [4] [0, 1, 5, 63, 86] [(.map zm0), (.int .i64 zn1), (.bool zb2), (.pointer (some za3)), (.tuple #[])] nx3 (KBlk 6 (KBlk 1 (KLoop [4, 5] [0, 1, 86] [(.map zm0), (.int .i64 zn1), (.tuple #[])] nx0 (KBlk 0 (KS Pg W 86 rs_78 an_78 false (sub (bodyOf Try.f78) [1, 1]) 0 (fin Pg W 86 rv_78 R))))))) (known [4] [(.bool b44)] (known [0, 1, 5, 63, 86] [(.map zm0), (.int .i64 zn1), (.bool zb2), (.pointer (some za3)), (.tuple #[])] j)) = B_clock_bounds_tight_3 W R nx0 zm0 zn1 zb2 za3 b44 nx3 := by kernel_rfl
def N_clock_bounds_tight_3 (I : Bool → Hp → Prop) (μ : Bool → Hp → Nat) (b440 : Bool) (s : Hp) (vs : List Value) : Hp → Prop := fun s' => ∃ b44, vs = [(.bool b44)] ∧ I b44 s' ∧ μ b44 s' < μ b440 s
theorem L_clock_bounds_tight_3_rule (W : World) (R : Ending → Hp → Prop) (nx0 : List Value → Hp → Prop) (zm0 : Option Nat) (zn1 : Int) (zb2 : Bool) (za3 : Addr) (I : Bool → Hp → Prop) (μ : Bool → Hp → Nat) (b440 : Bool) (s : Hp) (h0 : I b440 s)
    (hr : ∀ (b44 : Bool) (s : Hp), I b44 s → B_clock_bounds_tight_3 W R nx0 zm0 zn1 zb2 za3 b44 (fun vs => N_clock_bounds_tight_3 I μ b44 s vs) s) : L_clock_bounds_tight_3 W R nx0 zm0 zn1 zb2 za3 b440 s := by
  refine ⟨fun vs s => ∃ b44, vs = [(.bool b44)] ∧ I b44 s, fun vs s => (match vs with | [.bool b44] => μ b44 s | _ => 0), ⟨⟨⟨_, rfl⟩, trivial⟩, ⟨_, rfl, h0⟩⟩, ?_⟩
  intro b44 s hI j
  obtain ⟨b44', hy, hI⟩ := hI
  have hI' : I b44 s := by cases hy; exact hI
  have hh := hr b44 s hI'
  rw [← B_clock_bounds_tight_3_eq W R nx0 zm0 zn1 zb2 za3 b44 _ j] at hh
  refine vc_mono ?_ _ _ hh
  exact KLoop_mono (fun vs s' h => by obtain ⟨b441, rfl, h1, h2⟩ := h; exact ⟨⟨⟨_, rfl⟩, trivial⟩, ⟨_, rfl, h1⟩, h2⟩)
def T_clock_bounds_tight (W : World) (m1 : Option Nat) (n2 : Int) (R : Ending → Hp → Prop) : Hp → Prop :=
 L_clock_bounds_tight_0 W R m1 n2 false true
theorem T_clock_bounds_tight_eq (W : World) (m1 : Option Nat) (n2 : Int) (R : Ending → Hp → Prop) : vfun Pg W an_78 Try.f78 [(.map m1), (.int .i64 n2)] R = T_clock_bounds_tight W m1 n2 R := by kernel_rfl
theorem does_clock_bounds_tight (W : World) (m1 : Option Nat) (n2 : Int) (R : Ending → Hp → Prop) (s : Hp) (h : T_clock_bounds_tight W m1 n2 R s) : Does Pg W F_clock_bounds_tight #[(.map m1), (.int .i64 n2)] s R :=
  does_of_vfun Pg W an_78 Try.func78 rfl (by kernel_rfl) (by rw [T_clock_bounds_tight_eq]; exact h)
def an_82 : Nat → Ann := fun b => match b with
 | _ => {}
abbrev rv_82 : List ResultVar := []
abbrev rs_82 : List Nat := [8]
def T_clock_clock_choices_c1 (W : World) (v1 : Value) (a2 : Addr) (R : Ending → Hp → Prop) : Hp → Prop :=
 ONE v1 <|
 NEW 139 [v1] fun B3 =>
 NEWZ Pg 140 fun B4 =>
 WR (Addr.add ⟨B4, 0, none⟩ 0) (.func (.func 83) #[] #[(.pointer (some a2)), (.pointer (some ⟨B3, 0, none⟩)), (.pointer (some ⟨B4, 0, none⟩))]) <|
 RDV ⟨B4, 0, none⟩ fun v5 =>
 CALLV Pg W v5 [(.agg #[(.int .i64 0), (.int .i64 0), (.int .i64 0), (.int .i64 0)]), (.int .i64 0)]
 (fun v6 => TYB v6 fun b8 =>
 R (.returned (.tuple #[])))
 (fun e7 => R (.panicked e7))
theorem T_clock_clock_choices_c1_eq (W : World) (v1 : Value) (a2 : Addr) (R : Ending → Hp → Prop) : vfun Pg W an_82 Try.f82 [v1, (.pointer (some a2))] R = T_clock_clock_choices_c1 W v1 a2 R := by kernel_rfl
theorem does_clock_clock_choices_c1 (W : World) (v1 : Value) (a2 : Addr) (R : Ending → Hp → Prop) (s : Hp) (h : T_clock_clock_choices_c1 W v1 a2 R s) : Does Pg W F_clock_clock_choices_c1 #[v1, (.pointer (some a2))] s R :=
  does_of_vfun Pg W an_82 Try.func82 rfl (by kernel_rfl) (by rw [T_clock_clock_choices_c1_eq]; exact h)
def an_83 : Nat → Ann := fun b => match b with
 | 0 => { ms := [7, 9], ks := [.b, .i .i64], us := [1, 4, 5, 8, 61], rt := false, ex := [] }
 | 2 => { ms := [7, 10], ks := [.b, .i .i64], us := [1, 4, 5, 8, 9, 61], rt := false, ex := [] }
 | _ => {}
abbrev rv_83 : List ResultVar := [.tmp 7]
abbrev rs_83 : List Nat := [61, 7]
def L_clock_clock_choices_c1_c1_0 (W : World) (R : Ending → Hp → Prop) (zn0 : Int) (za1 : Addr) (za2 : Addr) (za3 : Addr) (b35 : Bool) (n36 : Int) : Hp → Prop :=
 LOOPN [.b, .i .i64] (fun ys next s => ∀ j : Tm, vc Pg W 61 rs_83 an_83 false (sub (bodyOf Try.f83) [1, 1, 1, 0, 1, 0, 0]) 0 (KLoop [7, 9] [1, 4, 5, 8, 61] [(.int .i64 zn0), (.pointer (some za1)), (.pointer (some za2)), (.pointer (some za3)), (.tuple #[])] next (KBlk 0 (KS Pg W 61 rs_83 an_83 false (sub (bodyOf Try.f83) [1, 1, 1, 1]) 0 (fin Pg W 61 rv_83 R)))) (known [7, 9] ys (known [1, 4, 5, 8, 61] [(.int .i64 zn0), (.pointer (some za1)), (.pointer (some za2)), (.pointer (some za3)), (.tuple #[])] j)) s) [(.bool b35), (.int .i64 n36)]
def L_clock_clock_choices_c1_c1_1 (W : World) (R : Ending → Hp → Prop) (nx0 : List Value → Hp → Prop) (zn0 : Int) (za1 : Addr) (za2 : Addr) (za3 : Addr) (zn4 : Int) (b39 : Bool) (n40 : Int) : Hp → Prop :=
 LOOPN [.b, .i .i64] (fun ys next s => ∀ j : Tm, vc Pg W 61 rs_83 an_83 false (sub (bodyOf Try.f83) [1, 1, 1, 0, 1, 0, 0, 1, 0, 0, 1, 0, 0]) 2 (KLoop [7, 10] [1, 4, 5, 8, 9, 61] [(.int .i64 zn0), (.pointer (some za1)), (.pointer (some za2)), (.pointer (some za3)), (.int .i64 zn4), (.tuple #[])] next (KBlk 2 (KBlk 1 (KS Pg W 61 rs_83 an_83 false (sub (bodyOf Try.f83) [1, 1, 1, 0, 1, 0, 0, 1, 1]) 0 (KLoop [7, 9] [1, 4, 5, 8, 61] [(.int .i64 zn0), (.pointer (some za1)), (.pointer (some za2)), (.pointer (some za3)), (.tuple #[])] nx0 (KBlk 0 (KS Pg W 61 rs_83 an_83 false (sub (bodyOf Try.f83) [1, 1, 1, 1]) 0 (fin Pg W 61 rv_83 R)))))))) (known [7, 10] ys (known [1, 4, 5, 8, 9, 61] [(.int .i64 zn0), (.pointer (some za1)), (.pointer (some za2)), (.pointer (some za3)), (.int .i64 zn4), (.tuple #[])] j)) s) [(.bool b39), (.int .i64 n40)]
def B_clock_clock_choices_c1_c1_0 (W : World) (R : Ending → Hp → Prop) (zn0 : Int) (za1 : Addr) (za2 : Addr) (za3 : Addr) (b35 : Bool) (n36 : Int) (nx0 : List Value → Hp → Prop) : Hp → Prop :=
 RDI .i64 (Addr.add (Addr.add za3 0) 1) fun n37 =>
 BR (decide (n36 ≤ n37))
 (RDI .i64 (Addr.add (Addr.add za3 2) 0) fun n38 =>
 L_clock_clock_choices_c1_c1_1 W R nx0 zn0 za1 za2 za3 n36 b35 n38)
 (R (.returned (.bool true)))
theorem B_clock_clock_choices_c1_c1_0_eq (W : World) (R : Ending → Hp → Prop) (zn0 : Int) (za1 : Addr) (za2 : Addr) (za3 : Addr) (b35 : Bool) (n36 : Int) (nx0 : List Value → Hp → Prop) (j : Tm) : vc Pg W 61 rs_83 an_83 false (sub (bodyOf Try.f83) [1, 1, 1, 0, 1, 0, 0]) 0 (KLoop [7, 9] [1, 4, 5, 8, 61] [(.int .i64 zn0), (.pointer (some za1)), (.pointer (some za2)), (.pointer (some za3)), (.tuple #[])] nx0 (KBlk 0 (KS Pg W 61 rs_83 an_83 false (sub (bodyOf Try.f83) [1, 1, 1, 1]) 0 (fin Pg W 61 rv_83 R)))) (known [7, 9] [(.bool b35), (.int .i64 n36)] (known [1, 4, 5, 8, 61] [(.int .i64 zn0), (.pointer (some za1)), (.pointer (some za2)), (.pointer (some za3)), (.tuple #[])] j)) = B_clock_clock_choices_c1_c1_0 W R zn0 za1 za2 za3 b35 n36 nx0 := by kernel_rfl
def N_clock_clock_choices_c1_c1_0 (I : Bool → Int → Hp → Prop) (μ : Bool → Int → Hp → Nat) (b350 : Bool) (n360 : Int) (s : Hp) (vs : List Value) : Hp → Prop := fun s' => ∃ b35 n36, vs = [(.bool b35), (.int .i64 n36)] ∧ I b35 n36 s' ∧ μ b35 n36 s' < μ b350 n360 s
theorem L_clock_clock_choices_c1_c1_0_rule (W : World) (R : Ending → Hp → Prop) (zn0 : Int) (za1 : Addr) (za2 : Addr) (za3 : Addr) (I : Bool → Int → Hp → Prop) (μ : Bool → Int → Hp → Nat) (b350 : Bool) (n360 : Int) (s : Hp) (h0 : I b350 n360 s)
    (hr : ∀ (b35 : Bool) (n36 : Int) (s : Hp), I b35 n36 s → B_clock_clock_choices_c1_c1_0 W R zn0 za1 za2 za3 b35 n36 (fun vs => N_clock_clock_choices_c1_c1_0 I μ b35 n36 s vs) s) : L_clock_clock_choices_c1_c1_0 W R zn0 za1 za2 za3 b350 n360 s := by
  refine ⟨fun vs s => ∃ b35 n36, vs = [(.bool b35), (.int .i64 n36)] ∧ I b35 n36 s, fun vs s => (match vs with | [.bool b35, .int _ n36] => μ b35 n36 s | _ => 0), ⟨⟨⟨_, rfl⟩, ⟨⟨_, rfl⟩, trivial⟩⟩, ⟨_, _, rfl, h0⟩⟩, ?_⟩
  intro b35 n36 s hI j
  obtain ⟨b35', n36', hy, hI⟩ := hI
  have hI' : I b35 n36 s := by cases hy; exact hI
  have hh := hr b35 n36 s hI'
  rw [← B_clock_clock_choices_c1_c1_0_eq W R zn0 za1 za2 za3 b35 n36 _ j] at hh
  refine vc_mono ?_ _ _ hh
  exact KLoop_mono (fun vs s' h => by obtain ⟨b351, n361, rfl, h1, h2⟩ := h; exact ⟨⟨⟨_, rfl⟩, ⟨⟨_, rfl⟩, trivial⟩⟩, ⟨_, _, rfl, h1⟩, h2⟩)
def B_clock_clock_choices_c1_c1_1 (W : World) (R : Ending → Hp → Prop) (nx0 : List Value → Hp → Prop) (zn0 : Int) (za1 : Addr) (za2 : Addr) (za3 : Addr) (zn4 : Int) (b39 : Bool) (n40 : Int) (nx1 : List Value → Hp → Prop) : Hp → Prop :=
 RDI .i64 (Addr.add (Addr.add za3 2) 1) fun n41 =>
 BR (decide (n40 ≤ n41))
 (IXA za2 2 zn0 2 fun a42 =>
 WR (Addr.add a42 0) (.int .i64 zn4) <|
 WR (Addr.add a42 1) (.int .i64 n40) <|
 RDV za1 fun v43 =>
 RDI .i64 (Addr.add za2 0) fun n44 =>
 RDI .i64 (Addr.add za2 1) fun n45 =>
 RDI .i64 (Addr.add za2 2) fun n46 =>
 RDI .i64 (Addr.add za2 3) fun n47 =>
 CALLV Pg W v43 [(.agg #[(.int .i64 n44), (.int .i64 n45), (.int .i64 n46), (.int .i64 n47)]), (.int .i64 (IntKind.wrap .i64 (zn0 + 1)))]
 (fun v48 => TYB v48 fun b50 =>
 BR (!b50)
 (R (.returned (.bool false)))
 (NX [(.int .i64 zn0), (.pointer (some za1)), (.pointer (some za2)), (.pointer (some za3)), (.int .i64 zn4), (.tuple #[])] [(.int .i64 zn0), (.pointer (some za1)), (.pointer (some za2)), (.pointer (some za3)), (.int .i64 zn4), (.tuple #[])] (nx1 [(.bool b39), (.int .i64 (IntKind.wrap .i64 (n40 + 1)))])))
 (fun e49 => R (.panicked e49)))
 (NX [(.int .i64 zn0), (.pointer (some za1)), (.pointer (some za2)), (.pointer (some za3)), (.tuple #[])] [(.int .i64 zn0), (.pointer (some za1)), (.pointer (some za2)), (.pointer (some za3)), (.tuple #[])] (nx0 [(.bool b39), (.int .i64 (IntKind.wrap .i64 (zn4 + 1)))]))
theorem B_clock_clock_choices_c1_c1_1_eq (W : World) (R : Ending → Hp → Prop) (nx0 : List Value → Hp → Prop) (zn0 : Int) (za1 : Addr) (za2 : Addr) (za3 : Addr) (zn4 : Int) (b39 : Bool) (n40 : Int) (nx1 : List Value → Hp → Prop) (j : Tm) : vc Pg W 61 rs_83 an_83 false (sub (bodyOf Try.f83) [1, 1, 1, 0, 1, 0, 0, 1, 0, 0, 1, 0, 0]) 2 (KLoop [7, 10] [1, 4, 5, 8, 9, 61] [(.int .i64 zn0), (.pointer (some za1)), (.pointer (some za2)), (.pointer (some za3)), (.int .i64 zn4), (.tuple #[])] nx1 (KBlk 2 (KBlk 1 (KS Pg W 61 rs_83 an_83 false (sub (bodyOf Try.f83) [1, 1, 1, 0, 1, 0, 0, 1, 1]) 0 (KLoop [7, 9] [1, 4, 5, 8, 61] [(.int .i64 zn0), (.pointer (some za1)), (.pointer (some za2)), (.pointer (some za3)), (.tuple #[])] nx0 (KBlk 0 (KS Pg W 61 rs_83 an_83 false (sub (bodyOf Try.f83) [1, 1, 1, 1]) 0 (fin Pg W 61 rv_83 R)))))))) (known [7, 10] [(.bool b39), (.int .i64 n40)] (known [1, 4, 5, 8, 9, 61] [(.int .i64 zn0), (.pointer (some za1)), (.pointer (some za2)), (.pointer (some za3)), (.int .i64 zn4), (.tuple #[])] j)) = B_clock_clock_choices_c1_c1_1 W R nx0 zn0 za1 za2 za3 zn4 b39 n40 nx1 := by kernel_rfl
def N_clock_clock_choices_c1_c1_1 (I : Bool → Int → Hp → Prop) (μ : Bool → Int → Hp → Nat) (b390 : Bool) (n400 : Int) (s : Hp) (vs : List Value) : Hp → Prop := fun s' => ∃ b39 n40, vs = [(.bool b39), (.int .i64 n40)] ∧ I b39 n40 s' ∧ μ b39 n40 s' < μ b390 n400 s
theorem L_clock_clock_choices_c1_c1_1_rule (W : World) (R : Ending → Hp → Prop) (nx0 : List Value → Hp → Prop) (zn0 : Int) (za1 : Addr) (za2 : Addr) (za3 : Addr) (zn4 : Int) (I : Bool → Int → Hp → Prop) (μ : Bool → Int → Hp → Nat) (b390 : Bool) (n400 : Int) (s : Hp) (h0 : I b390 n400 s)
    (hr : ∀ (b39 : Bool) (n40 : Int) (s : Hp), I b39 n40 s → B_clock_clock_choices_c1_c1_1 W R nx0 zn0 za1 za2 za3 zn4 b39 n40 (fun vs => N_clock_clock_choices_c1_c1_1 I μ b39 n40 s vs) s) : L_clock_clock_choices_c1_c1_1 W R nx0 zn0 za1 za2 za3 zn4 b390 n400 s := by
  refine ⟨fun vs s => ∃ b39 n40, vs = [(.bool b39), (.int .i64 n40)] ∧ I b39 n40 s, fun vs s => (match vs with | [.bool b39, .int _ n40] => μ b39 n40 s | _ => 0), ⟨⟨⟨_, rfl⟩, ⟨⟨_, rfl⟩, trivial⟩⟩, ⟨_, _, rfl, h0⟩⟩, ?_⟩
  intro b39 n40 s hI j
  obtain ⟨b39', n40', hy, hI⟩ := hI
  have hI' : I b39 n40 s := by cases hy; exact hI
  have hh := hr b39 n40 s hI'
  rw [← B_clock_clock_choices_c1_c1_1_eq W R nx0 zn0 za1 za2 za3 zn4 b39 n40 _ j] at hh
  refine vc_mono ?_ _ _ hh
  exact KLoop_mono (fun vs s' h => by obtain ⟨b391, n401, rfl, h1, h2⟩ := h; exact ⟨⟨⟨_, rfl⟩, ⟨⟨_, rfl⟩, trivial⟩⟩, ⟨_, _, rfl, h1⟩, h2⟩)
def T_clock_clock_choices_c1_c1 (W : World) (n1 : Int) (n2 : Int) (n3 : Int) (n4 : Int) (n5 : Int) (a6 : Addr) (a7 : Addr) (a8 : Addr) (R : Ending → Hp → Prop) : Hp → Prop :=
 NEW 91 [(.int .i64 n1), (.int .i64 n2), (.int .i64 n3), (.int .i64 n4)] fun B9 =>
 RDP a6 fun p10 =>
 SO p10 fun a11 =>
 RDL (Addr.add (Addr.add a11 0) 0) fun x12 l13 c14 =>
 BR (n5 == (↑l13 : Int))
 (RDV a7 fun v15 =>
 RDI .i64 (Addr.add ⟨B9, 0, none⟩ 0) fun n16 =>
 RDI .i64 (Addr.add ⟨B9, 0, none⟩ 1) fun n17 =>
 RDI .i64 (Addr.add ⟨B9, 0, none⟩ 2) fun n18 =>
 RDI .i64 (Addr.add ⟨B9, 0, none⟩ 3) fun n19 =>
 CALLV Pg W v15 [(.agg #[(.int .i64 n16), (.int .i64 n17), (.int .i64 n18), (.int .i64 n19)])]
 (fun v20 => TYB v20 fun b22 =>
 R (.returned (.bool b22)))
 (fun e21 => R (.panicked e21)))
 (RDP a6 fun p23 =>
 SO p23 fun a24 =>
 RDL (Addr.add (Addr.add a24 0) 0) fun x25 l26 c27 =>
 IXS x25 l26 n5 4 fun a28 =>
 RDI .i64 (Addr.add a28 0) fun n29 =>
 RDI .i64 (Addr.add a28 1) fun n30 =>
 RDI .i64 (Addr.add a28 2) fun n31 =>
 RDI .i64 (Addr.add a28 3) fun n32 =>
 NEWZ Pg 66 fun B33 =>
 WR (Addr.add ⟨B33, 0, none⟩ 0) (.int .i64 n29) <|
 WR (Addr.add ⟨B33, 0, none⟩ 1) (.int .i64 n30) <|
 WR (Addr.add ⟨B33, 0, none⟩ 2) (.int .i64 n31) <|
 WR (Addr.add ⟨B33, 0, none⟩ 3) (.int .i64 n32) <|
 RDI .i64 (Addr.add (Addr.add ⟨B33, 0, none⟩ 0) 0) fun n34 =>
 L_clock_clock_choices_c1_c1_0 W R n5 a8 ⟨B9, 0, none⟩ ⟨B33, 0, none⟩ false n34)
theorem T_clock_clock_choices_c1_c1_eq (W : World) (n1 : Int) (n2 : Int) (n3 : Int) (n4 : Int) (n5 : Int) (a6 : Addr) (a7 : Addr) (a8 : Addr) (R : Ending → Hp → Prop) : vfun Pg W an_83 Try.f83 [(.agg #[(.int .i64 n1), (.int .i64 n2), (.int .i64 n3), (.int .i64 n4)]), (.int .i64 n5), (.pointer (some a6)), (.pointer (some a7)), (.pointer (some a8))] R = T_clock_clock_choices_c1_c1 W n1 n2 n3 n4 n5 a6 a7 a8 R := by kernel_rfl
theorem does_clock_clock_choices_c1_c1 (W : World) (n1 : Int) (n2 : Int) (n3 : Int) (n4 : Int) (n5 : Int) (a6 : Addr) (a7 : Addr) (a8 : Addr) (R : Ending → Hp → Prop) (s : Hp) (h : T_clock_clock_choices_c1_c1 W n1 n2 n3 n4 n5 a6 a7 a8 R s) : Does Pg W F_clock_clock_choices_c1_c1 #[(.agg #[(.int .i64 n1), (.int .i64 n2), (.int .i64 n3), (.int .i64 n4)]), (.int .i64 n5), (.pointer (some a6)), (.pointer (some a7)), (.pointer (some a8))] s R :=
  does_of_vfun Pg W an_83 Try.func83 rfl (by kernel_rfl) (by rw [T_clock_clock_choices_c1_c1_eq]; exact h)
def an_84 : Nat → Ann := fun b => match b with
 | _ => {}
abbrev rv_84 : List ResultVar := [.tmp 6]
abbrev rs_84 : List Nat := [24, 6]
def T_clock_bounds_put (W : World) (m1 : Option Nat) (n2 : Int) (n3 : Int) (n4 : Int) (R : Ending → Hp → Prop) : Hp → Prop :=
 NEW 111 [(.int .i64 n2), (.int .i64 n3)] fun B5 =>
 RDI .i64 (Addr.add ⟨B5, 0, none⟩ 0) fun n6 =>
 RDI .i64 (Addr.add ⟨B5, 0, none⟩ 1) fun n7 =>
 LKP Pg 93 (.map m1) (.agg #[(.int .i64 n6), (.int .i64 n7)]) true fun v8 =>
 TUP v8 fun q9 => HD q9 fun v10 r11 => TYI .i64 v10 fun n12 =>
 HD r11 fun v13 r14 => TYB v13 fun b15 =>
 NL r14 <|
 BR b15
 (BR (decide (n12 ≤ n4))
 (R (.returned (.bool false)))
 (RDI .i64 (Addr.add ⟨B5, 0, none⟩ 0) fun n16 =>
 RDI .i64 (Addr.add ⟨B5, 0, none⟩ 1) fun n17 =>
 MUP Pg 93 (.map m1) (.agg #[(.int .i64 n16), (.int .i64 n17)]) (.int .i64 n4) <|
 R (.returned (.bool true))))
 (RDI .i64 (Addr.add ⟨B5, 0, none⟩ 0) fun n18 =>
 RDI .i64 (Addr.add ⟨B5, 0, none⟩ 1) fun n19 =>
 MUP Pg 93 (.map m1) (.agg #[(.int .i64 n18), (.int .i64 n19)]) (.int .i64 n4) <|
 R (.returned (.bool true)))
theorem T_clock_bounds_put_eq (W : World) (m1 : Option Nat) (n2 : Int) (n3 : Int) (n4 : Int) (R : Ending → Hp → Prop) : vfun Pg W an_84 Try.f84 [(.map m1), (.agg #[(.int .i64 n2), (.int .i64 n3)]), (.int .i64 n4)] R = T_clock_bounds_put W m1 n2 n3 n4 R := by kernel_rfl
theorem does_clock_bounds_put (W : World) (m1 : Option Nat) (n2 : Int) (n3 : Int) (n4 : Int) (R : Ending → Hp → Prop) (s : Hp) (h : T_clock_bounds_put W m1 n2 n3 n4 R s) : Does Pg W F_clock_bounds_put #[(.map m1), (.agg #[(.int .i64 n2), (.int .i64 n3)]), (.int .i64 n4)] s R :=
  does_of_vfun Pg W an_84 Try.func84 rfl (by kernel_rfl) (by rw [T_clock_bounds_put_eq]; exact h)
def an_100 : Nat → Ann := fun b => match b with
 | _ => {}
abbrev rv_100 : List ResultVar := [.tmp 6]
abbrev rs_100 : List Nat := [12, 6]
def T_clock_day_tell (W : World) (n1 : Int) (m2 : Option Nat) (n3 : Int) (n4 : Int) (n5 : Int) (n6 : Int) (R : Ending → Hp → Prop) : Hp → Prop :=
 NEW 135 [(.int .i64 n1)] fun B7 =>
 NEW 91 [(.int .i64 n3), (.int .i64 n4), (.int .i64 n5), (.int .i64 n6)] fun B8 =>
 RDI .i64 (Addr.add ⟨B7, 0, none⟩ 0) fun n9 =>
 CALL Pg W F_clock_bounds_tie [(.map m2), (.int .i64 (-1)), (.int .i64 n9), (.agg #[(.int .i64 0), (.int .i64 600)])]
 (fun v10 => TUP v10 fun q12 => NL q12 <|
 R (.returned (.bool true)))
 (fun e11 => R (.panicked e11))
theorem T_clock_day_tell_eq (W : World) (n1 : Int) (m2 : Option Nat) (n3 : Int) (n4 : Int) (n5 : Int) (n6 : Int) (R : Ending → Hp → Prop) : vfun Pg W an_100 Try.f100 [(.agg #[(.int .i64 n1)]), (.map m2), (.agg #[(.int .i64 n3), (.int .i64 n4), (.int .i64 n5), (.int .i64 n6)])] R = T_clock_day_tell W n1 m2 n3 n4 n5 n6 R := by kernel_rfl
theorem does_clock_day_tell (W : World) (n1 : Int) (m2 : Option Nat) (n3 : Int) (n4 : Int) (n5 : Int) (n6 : Int) (R : Ending → Hp → Prop) (s : Hp) (h : T_clock_day_tell W n1 m2 n3 n4 n5 n6 R s) : Does Pg W F_clock_day_tell #[(.agg #[(.int .i64 n1)]), (.map m2), (.agg #[(.int .i64 n3), (.int .i64 n4), (.int .i64 n5), (.int .i64 n6)])] s R :=
  does_of_vfun Pg W an_100 Try.func100 rfl (by kernel_rfl) (by rw [T_clock_day_tell_eq]; exact h)
def an_101 : Nat → Ann := fun b => match b with
 | _ => {}
abbrev rv_101 : List ResultVar := []
abbrev rs_101 : List Nat := [23]
def T_clock_bounds_tie (W : World) (m1 : Option Nat) (n2 : Int) (n3 : Int) (n4 : Int) (n5 : Int) (R : Ending → Hp → Prop) : Hp → Prop :=
 NEW 34 [(.int .i64 n4), (.int .i64 n5)] fun B6 =>
 RDI .i64 (Addr.add ⟨B6, 0, none⟩ 1) fun n7 =>
 CALL Pg W F_clock_bounds_put [(.map m1), (.agg #[(.int .i64 n2), (.int .i64 n3)]), (.int .i64 n7)]
 (fun v8 => TYB v8 fun b10 =>
 RDI .i64 (Addr.add ⟨B6, 0, none⟩ 0) fun n11 =>
 CALL Pg W F_clock_bounds_put [(.map m1), (.agg #[(.int .i64 n3), (.int .i64 n2)]), (.int .i64 (IntKind.wrap .i64 (0 - n11)))]
 (fun v12 => TYB v12 fun b14 =>
 R (.returned (.tuple #[])))
 (fun e13 => R (.panicked e13)))
 (fun e9 => R (.panicked e9))
theorem T_clock_bounds_tie_eq (W : World) (m1 : Option Nat) (n2 : Int) (n3 : Int) (n4 : Int) (n5 : Int) (R : Ending → Hp → Prop) : vfun Pg W an_101 Try.f101 [(.map m1), (.int .i64 n2), (.int .i64 n3), (.agg #[(.int .i64 n4), (.int .i64 n5)])] R = T_clock_bounds_tie W m1 n2 n3 n4 n5 R := by kernel_rfl
theorem does_clock_bounds_tie (W : World) (m1 : Option Nat) (n2 : Int) (n3 : Int) (n4 : Int) (n5 : Int) (R : Ending → Hp → Prop) (s : Hp) (h : T_clock_bounds_tie W m1 n2 n3 n4 n5 R s) : Does Pg W F_clock_bounds_tie #[(.map m1), (.int .i64 n2), (.int .i64 n3), (.agg #[(.int .i64 n4), (.int .i64 n5)])] s R :=
  does_of_vfun Pg W an_101 Try.func101 rfl (by kernel_rfl) (by rw [T_clock_bounds_tie_eq]; exact h)
def an_102 : Nat → Ann := fun b => match b with
 | _ => {}
abbrev rv_102 : List ResultVar := [.tmp 6]
abbrev rs_102 : List Nat := [31, 6]
def J_clock_reading_tell_0 (W : World) (R : Ending → Hp → Prop) (p30 : Option Addr) (B9 : Nat) (m4 : Option Nat) (B10 : Nat) : Hp → Prop :=
 SO p30 fun a31 =>
 RDI .i64 (Addr.add a31 0) fun n32 =>
 SO p30 fun a33 =>
 RDI .i64 (Addr.add a33 1) fun n34 =>
 BR (decide (n32 > n34))
 (R (.returned (.bool false)))
 (RDI .i64 (Addr.add (Addr.add ⟨B9, 0, none⟩ 0) 0) fun n35 =>
 SO p30 fun a36 =>
 RDI .i64 (Addr.add a36 0) fun n37 =>
 RDI .i64 (Addr.add a36 1) fun n38 =>
 CALL Pg W F_clock_bounds_tie [(.map m4), (.int .i64 (-1)), (.int .i64 n35), (.agg #[(.int .i64 n37), (.int .i64 n38)])]
 (fun v39 => TUP v39 fun q41 => NL q41 <|
 RDI .i64 (Addr.add (Addr.add ⟨B9, 0, none⟩ 0) 0) fun n42 =>
 RDI .i64 (Addr.add ⟨B10, 0, none⟩ 0) fun n43 =>
 RDI .i64 (Addr.add ⟨B10, 0, none⟩ 1) fun n44 =>
 RDI .i64 (Addr.add ⟨B10, 0, none⟩ 2) fun n45 =>
 RDI .i64 (Addr.add ⟨B10, 0, none⟩ 3) fun n46 =>
 CALL Pg W F_clock_day_tell [(.agg #[(.int .i64 n42)]), (.map m4), (.agg #[(.int .i64 n43), (.int .i64 n44), (.int .i64 n45), (.int .i64 n46)])]
 (fun v47 => TYB v47 fun b49 =>
 R (.returned (.bool b49)))
 (fun e48 => R (.panicked e48)))
 (fun e40 => R (.panicked e40)))
def T_clock_reading_tell (W : World) (n1 : Int) (n2 : Int) (n3 : Int) (m4 : Option Nat) (n5 : Int) (n6 : Int) (n7 : Int) (n8 : Int) (R : Ending → Hp → Prop) : Hp → Prop :=
 NEW 137 [(.int .i64 n1), (.int .i64 n2), (.int .i64 n3)] fun B9 =>
 NEW 91 [(.int .i64 n5), (.int .i64 n6), (.int .i64 n7), (.int .i64 n8)] fun B10 =>
 RDI .i64 (Addr.add ⟨B9, 0, none⟩ 1) fun n11 =>
 IXA ⟨B10, 0, none⟩ 2 n11 2 fun a12 =>
 RDI .i64 (Addr.add a12 0) fun n13 =>
 RDI .i64 (Addr.add a12 1) fun n14 =>
 RDI .i64 (Addr.add ⟨B9, 0, none⟩ 2) fun n15 =>
 CONJ [
 CALL Pg W F_clock_going_minutes [(.agg #[(.int .i64 n13), (.int .i64 n14)]), (.int .i64 n15)]
 (fun v16 => AGG v16 fun q18 => HD q18 fun v19 r20 => TYI .i64 v19 fun n21 =>
 HD r20 fun v22 r23 => TYI .i64 v22 fun n24 =>
 NL r23 <|
 NEWZ Pg 34 fun B25 =>
 ANDS (RDI .i64 (Addr.add ⟨B9, 0, none⟩ 2) fun n26 =>
 fun _ => ((.int .i64 n26) : Value) = (.int .i64 n15)) <|
 ANDS (RDI .i64 (Addr.add a12 0) fun n27 =>
 RDI .i64 (Addr.add a12 1) fun n28 =>
 fun _ => ((.agg #[(.int .i64 n27), (.int .i64 n28)]) : Value) = (.agg #[(.int .i64 n13), (.int .i64 n14)])) <|
 ANDS (RDI .i64 (Addr.add ⟨B9, 0, none⟩ 1) fun n29 =>
 fun _ => ((.int .i64 n29) : Value) = (.int .i64 n11)) <|
 WR (Addr.add ⟨B25, 0, none⟩ 0) (.int .i64 n21) <|
 WR (Addr.add ⟨B25, 0, none⟩ 1) (.int .i64 n24) <|
 J_clock_reading_tell_0 W R (some ⟨B25, 0, none⟩) B9 m4 B10)
 (fun e17 => R (.panicked e17)),
 NEWZ Pg 34 fun B50 =>
 ANDS (RDI .i64 (Addr.add ⟨B9, 0, none⟩ 2) fun n51 =>
 fun _ => ((.int .i64 n51) : Value) = (.int .i64 n15)) <|
 ANDS (RDI .i64 (Addr.add a12 0) fun n52 =>
 RDI .i64 (Addr.add a12 1) fun n53 =>
 fun _ => ((.agg #[(.int .i64 n52), (.int .i64 n53)]) : Value) = (.agg #[(.int .i64 n13), (.int .i64 n14)])) <|
 ANDS (RDI .i64 (Addr.add ⟨B9, 0, none⟩ 1) fun n54 =>
 fun _ => ((.int .i64 n54) : Value) = (.int .i64 n11)) <|
 CALL Pg W F_clock_going_minutes [(.agg #[(.int .i64 n13), (.int .i64 n14)]), (.int .i64 n15)]
 (fun v55 => AGG v55 fun q57 => HD q57 fun v58 r59 => TYI .i64 v58 fun n60 =>
 HD r59 fun v61 r62 => TYI .i64 v61 fun n63 =>
 NL r62 <|
 WR (Addr.add ⟨B50, 0, none⟩ 0) (.int .i64 n60) <|
 WR (Addr.add ⟨B50, 0, none⟩ 1) (.int .i64 n63) <|
 J_clock_reading_tell_0 W R (some ⟨B50, 0, none⟩) B9 m4 B10)
 (fun e56 => R (.panicked e56))]
theorem T_clock_reading_tell_eq (W : World) (n1 : Int) (n2 : Int) (n3 : Int) (m4 : Option Nat) (n5 : Int) (n6 : Int) (n7 : Int) (n8 : Int) (R : Ending → Hp → Prop) : vfun Pg W an_102 Try.f102 [(.agg #[(.int .i64 n1), (.int .i64 n2), (.int .i64 n3)]), (.map m4), (.agg #[(.int .i64 n5), (.int .i64 n6), (.int .i64 n7), (.int .i64 n8)])] R = T_clock_reading_tell W n1 n2 n3 m4 n5 n6 n7 n8 R := by kernel_rfl
theorem does_clock_reading_tell (W : World) (n1 : Int) (n2 : Int) (n3 : Int) (m4 : Option Nat) (n5 : Int) (n6 : Int) (n7 : Int) (n8 : Int) (R : Ending → Hp → Prop) (s : Hp) (h : T_clock_reading_tell W n1 n2 n3 m4 n5 n6 n7 n8 R s) : Does Pg W F_clock_reading_tell #[(.agg #[(.int .i64 n1), (.int .i64 n2), (.int .i64 n3)]), (.map m4), (.agg #[(.int .i64 n5), (.int .i64 n6), (.int .i64 n7), (.int .i64 n8)])] s R :=
  does_of_vfun Pg W an_102 Try.func102 rfl (by kernel_rfl) (by rw [T_clock_reading_tell_eq]; exact h)
def an_103 : Nat → Ann := fun b => match b with
 | _ => {}
abbrev rv_103 : List ResultVar := [.cell 4 34]
abbrev rs_103 : List Nat := [24, 4]
def T_clock_going_minutes (W : World) (n1 : Int) (n2 : Int) (n3 : Int) (R : Ending → Hp → Prop) : Hp → Prop :=
 NEW 89 [(.int .i64 n1), (.int .i64 n2)] fun B4 =>
 NEWZ Pg 34 fun B5 =>
 RDI .i64 (Addr.add ⟨B4, 0, none⟩ 0) fun n6 =>
 BR (decide ((IntKind.wrap .i64 (n3 - n6)) < 0))
 (WR (Addr.add ⟨B5, 0, none⟩ 0) (.int .i64 1) <|
 WR (Addr.add ⟨B5, 0, none⟩ 1) (.int .i64 0) <|
 RDI .i64 (Addr.add ⟨B5, 0, none⟩ 0) fun n7 =>
 RDI .i64 (Addr.add ⟨B5, 0, none⟩ 1) fun n8 =>
 R (.returned (.agg #[(.int .i64 n7), (.int .i64 n8)])))
 (CALLV Pg W (.func (.func 104) #[] #[(.pointer (some ⟨B4, 0, none⟩))]) [(.int .i64 (IntKind.wrap .i64 (n3 - n6)))]
 (fun v9 => TYI .i64 v9 fun n11 =>
 CALLV Pg W (.func (.func 104) #[] #[(.pointer (some ⟨B4, 0, none⟩))]) [(.int .i64 (IntKind.wrap .i64 ((IntKind.wrap .i64 (n3 - n6)) + 1)))]
 (fun v12 => TYI .i64 v12 fun n14 =>
 WR (Addr.add ⟨B5, 0, none⟩ 0) (.int .i64 n11) <|
 WR (Addr.add ⟨B5, 0, none⟩ 1) (.int .i64 (IntKind.wrap .i64 (n14 - 1))) <|
 RDI .i64 (Addr.add ⟨B5, 0, none⟩ 0) fun n15 =>
 RDI .i64 (Addr.add ⟨B5, 0, none⟩ 1) fun n16 =>
 R (.returned (.agg #[(.int .i64 n15), (.int .i64 n16)])))
 (fun e13 => R (.panicked e13)))
 (fun e10 => R (.panicked e10)))
theorem T_clock_going_minutes_eq (W : World) (n1 : Int) (n2 : Int) (n3 : Int) (R : Ending → Hp → Prop) : vfun Pg W an_103 Try.f103 [(.agg #[(.int .i64 n1), (.int .i64 n2)]), (.int .i64 n3)] R = T_clock_going_minutes W n1 n2 n3 R := by kernel_rfl
theorem does_clock_going_minutes (W : World) (n1 : Int) (n2 : Int) (n3 : Int) (R : Ending → Hp → Prop) (s : Hp) (h : T_clock_going_minutes W n1 n2 n3 R s) : Does Pg W F_clock_going_minutes #[(.agg #[(.int .i64 n1), (.int .i64 n2)]), (.int .i64 n3)] s R :=
  does_of_vfun Pg W an_103 Try.func103 rfl (by kernel_rfl) (by rw [T_clock_going_minutes_eq]; exact h)
def an_104 : Nat → Ann := fun b => match b with
 | _ => {}
abbrev rv_104 : List ResultVar := [.tmp 3]
abbrev rs_104 : List Nat := [13, 3]
def T_clock_going_minutes_c1 (W : World) (n1 : Int) (a2 : Addr) (R : Ending → Hp → Prop) : Hp → Prop :=
 RDI .i64 (Addr.add a2 1) fun n3 =>
 RDI .i64 (Addr.add a2 1) fun n4 =>
 NZI n4 <|
 R (.returned (.int .i64 (IntKind.wrap .i64 (Int.tdiv (IntKind.wrap .i64 ((IntKind.wrap .i64 ((IntKind.wrap .i64 (n1 * 1000)) + n3)) - 1)) n4))))
theorem T_clock_going_minutes_c1_eq (W : World) (n1 : Int) (a2 : Addr) (R : Ending → Hp → Prop) : vfun Pg W an_104 Try.f104 [(.int .i64 n1), (.pointer (some a2))] R = T_clock_going_minutes_c1 W n1 a2 R := by kernel_rfl
theorem does_clock_going_minutes_c1 (W : World) (n1 : Int) (a2 : Addr) (R : Ending → Hp → Prop) (s : Hp) (h : T_clock_going_minutes_c1 W n1 a2 R s) : Does Pg W F_clock_going_minutes_c1 #[(.int .i64 n1), (.pointer (some a2))] s R :=
  does_of_vfun Pg W an_104 Try.func104 rfl (by kernel_rfl) (by rw [T_clock_going_minutes_c1_eq]; exact h)
def an_105 : Nat → Ann := fun b => match b with
 | _ => {}
abbrev rv_105 : List ResultVar := [.tmp 6]
abbrev rs_105 : List Nat := [15, 6]
def T_clock_link_tell (W : World) (n1 : Int) (n2 : Int) (n3 : Int) (n4 : Int) (m5 : Option Nat) (n6 : Int) (n7 : Int) (n8 : Int) (n9 : Int) (R : Ending → Hp → Prop) : Hp → Prop :=
 NEW 138 [(.int .i64 n1), (.int .i64 n2), (.int .i64 n3), (.int .i64 n4)] fun B10 =>
 NEW 91 [(.int .i64 n6), (.int .i64 n7), (.int .i64 n8), (.int .i64 n9)] fun B11 =>
 RDI .i64 (Addr.add ⟨B10, 0, none⟩ 0) fun n12 =>
 RDI .i64 (Addr.add ⟨B10, 0, none⟩ 1) fun n13 =>
 RDI .i64 (Addr.add (Addr.add ⟨B10, 0, none⟩ 2) 0) fun n14 =>
 RDI .i64 (Addr.add (Addr.add ⟨B10, 0, none⟩ 2) 1) fun n15 =>
 CALL Pg W F_clock_bounds_tie [(.map m5), (.int .i64 n12), (.int .i64 n13), (.agg #[(.int .i64 n14), (.int .i64 n15)])]
 (fun v16 => TUP v16 fun q18 => NL q18 <|
 R (.returned (.bool true)))
 (fun e17 => R (.panicked e17))
theorem T_clock_link_tell_eq (W : World) (n1 : Int) (n2 : Int) (n3 : Int) (n4 : Int) (m5 : Option Nat) (n6 : Int) (n7 : Int) (n8 : Int) (n9 : Int) (R : Ending → Hp → Prop) : vfun Pg W an_105 Try.f105 [(.agg #[(.int .i64 n1), (.int .i64 n2), (.int .i64 n3), (.int .i64 n4)]), (.map m5), (.agg #[(.int .i64 n6), (.int .i64 n7), (.int .i64 n8), (.int .i64 n9)])] R = T_clock_link_tell W n1 n2 n3 n4 m5 n6 n7 n8 n9 R := by kernel_rfl
theorem does_clock_link_tell (W : World) (n1 : Int) (n2 : Int) (n3 : Int) (n4 : Int) (m5 : Option Nat) (n6 : Int) (n7 : Int) (n8 : Int) (n9 : Int) (R : Ending → Hp → Prop) (s : Hp) (h : T_clock_link_tell W n1 n2 n3 n4 m5 n6 n7 n8 n9 R s) : Does Pg W F_clock_link_tell #[(.agg #[(.int .i64 n1), (.int .i64 n2), (.int .i64 n3), (.int .i64 n4)]), (.map m5), (.agg #[(.int .i64 n6), (.int .i64 n7), (.int .i64 n8), (.int .i64 n9)])] s R :=
  does_of_vfun Pg W an_105 Try.func105 rfl (by kernel_rfl) (by rw [T_clock_link_tell_eq]; exact h)
end Go.Proofs.Ytknpmijgdfeliaa.G

/- Shorter ways through texts over the visible heap: known conditions, counting, variables that are made and written. -/
set_option linter.unusedSimpArgs false
set_option linter.unusedVariables false
set_option maxRecDepth 20000
namespace Go.V
theorem BR_t (x y : Hp → Prop) : BR true x y = x := rfl
theorem BR_f (x y : Hp → Prop) : BR false x y = y := rfl
theorem wrap_succ {k : Nat} (h : k < 1000000000) : IntKind.i64.wrap ((k : Int) + 1) = ((k + 1 : Nat) : Int) := by rw [wrap_i64 (by omega) (by omega)]; rfl
theorem ms_succ {k n : Nat} (h : k < n) (h2 : n ≤ 1000000000) : ((n : Int) - IntKind.i64.wrap ((k : Int) + 1)).toNat < ((n : Int) - (k : Int)).toNat := by rw [wrap_succ (by omega)]; omega
theorem toNat_nat (k : Nat) : ((k : Nat) : Int).toNat = k := Int.toNat_natCast k
theorem NNI_of {b : Int} {K : Hp → Prop} {s : Hp} (hb : 0 ≤ b) (h : K s) : NNI b K s := by
  obtain ⟨n, rfl⟩ := Int.eq_ofNat_of_zero_le hb
  exact h
section
variable {s s0 s' : Hp} {K : Hp → Prop}
/-- A write into a block that was made behind 's0'. -/
theorem ext_kp {b : Nat} (e : Ext s0 s) (h : s0.size ≤ b) (k : Kp (· = b) s s') : Ext s0 s' := ⟨Nat.le_trans e.1 k.1, fun q hq => by
  rw [k.2 q (Nat.lt_of_lt_of_le hq e.1) (fun hh => by have h2 : q = b := hh; omega)]; exact e.2 q hq⟩
theorem kp_nil {C : Nat → Prop} (e : Ext s0 s) (h : ∀ b, C b → s0.size ≤ b) (k : Kp C s s') : Ext s0 s' := ⟨Nat.le_trans e.1 k.1, fun q hq => by
  rw [k.2 q (Nat.lt_of_lt_of_le hq e.1) (fun hh => by have := h q hh; omega)]; exact e.2 q hq⟩
theorem wr1 {a : Addr} {v y : Value} (ha : Own s a y) (h0 : oneCell v = true) (h : ∀ s', Kp (· = a.block) s s' → s'.size = s.size → Own s' a v → K s') : WR a v K s :=
  WR_own ha h0 (h _ (Kp.setC (Kp.refl s) (.inl rfl)) (setC_size _ _ _) (own_set ha))
end
section
variable {P : Program} {s : Hp} {t : TypeId}
/-- A new variable of one cell that is written. -/
theorem nw1 {z0 v0 : Value} {K : Nat → Hp → Prop} (hz : zc P t = [z0]) (h0 : oneCell v0 = true) (h : ∀ s', Ext s s' → s'.size = s.size + 1 → Own s' ⟨s.size, 0, none⟩ v0 → K s.size s') :
    NEWZ P t (fun B => WR (Addr.add ⟨B, 0, none⟩ 0) v0 (K B)) s := by
  refine NEWZ_rule hz fun s1 e1 z1 n1 => ?_
  refine wr1 (a := ⟨s.size, 0, none⟩) (n1 0 _ rfl) h0 fun s2 k2 z2 o2 => ?_
  exact h s2 (ext_kp e1 (Nat.le_refl _) k2) (by omega) o2
/-- .. of more cells. -/
theorem nwN {cs vs : List Value} {K : Nat → Hp → Prop} (hz : zc P t = cs) (hl : vs.length = cs.length) (hv : ∀ v ∈ vs, oneCell v = true) (h : ∀ s', Ext s s' → s'.size = s.size + 1 → (∀ i (h : i < vs.length), Own s' ⟨s.size, i, none⟩ vs[i]) → K s.size s') :
    NEWZ P t (fun B => wrN vs ⟨B, 0, none⟩ 0 (K B)) s := by
  refine NEWZ_rule hz fun s1 e1 z1 n1 => ?_
  refine wrN_rule vs _ 0 _ s1 (fun i hi => ⟨cs[i]'(by omega), ?_⟩) hv fun s2 k2 z2 o2 _ => ?_
  · have := n1 i cs[i] (List.getElem?_eq_getElem (by omega))
    rw [add_nil, Nat.zero_add, Nat.zero_add]; exact this
  · refine h s2 (ext_kp e1 (Nat.le_refl _) k2) (by omega) fun i hi => ?_
    have := o2 i hi
    rw [add_nil, Nat.zero_add, Nat.zero_add] at this; exact this
theorem nw2 {z0 z1 v0 v1 : Value} {K : Nat → Hp → Prop} (hz : zc P t = [z0, z1]) (h0 : oneCell v0 = true) (h1 : oneCell v1 = true) (h : ∀ s', Ext s s' → s'.size = s.size + 1 → Own s' ⟨s.size, 0, none⟩ v0 → Own s' ⟨s.size, 1, none⟩ v1 → K s.size s') :
    NEWZ P t (fun B => WR (Addr.add ⟨B, 0, none⟩ 0) v0 (WR (Addr.add ⟨B, 0, none⟩ 1) v1 (K B))) s :=
  nwN (vs := [v0, v1]) hz rfl (by simp [h0, h1]) fun s' e z o => h s' e z (o 0 (by simp)) (o 1 (by simp))
theorem nw3 {z0 z1 z2 v0 v1 v2 : Value} {K : Nat → Hp → Prop} (hz : zc P t = [z0, z1, z2]) (h0 : oneCell v0 = true) (h1 : oneCell v1 = true) (h2 : oneCell v2 = true) (h : ∀ s', Ext s s' → s'.size = s.size + 1 → Own s' ⟨s.size, 0, none⟩ v0 → Own s' ⟨s.size, 1, none⟩ v1 → Own s' ⟨s.size, 2, none⟩ v2 → K s.size s') :
    NEWZ P t (fun B => WR (Addr.add ⟨B, 0, none⟩ 0) v0 (WR (Addr.add ⟨B, 0, none⟩ 1) v1 (WR (Addr.add ⟨B, 0, none⟩ 2) v2 (K B)))) s :=
  nwN (vs := [v0, v1, v2]) hz rfl (by simp [h0, h1, h2]) fun s' e z o => h s' e z (o 0 (by simp)) (o 1 (by simp)) (o 2 (by simp))
theorem nw4 {z0 z1 z2 z3 v0 v1 v2 v3 : Value} {K : Nat → Hp → Prop} (hz : zc P t = [z0, z1, z2, z3]) (h0 : oneCell v0 = true) (h1 : oneCell v1 = true) (h2 : oneCell v2 = true) (h3 : oneCell v3 = true) (h : ∀ s', Ext s s' → s'.size = s.size + 1 → Own s' ⟨s.size, 0, none⟩ v0 → Own s' ⟨s.size, 1, none⟩ v1 → Own s' ⟨s.size, 2, none⟩ v2 → Own s' ⟨s.size, 3, none⟩ v3 → K s.size s') :
    NEWZ P t (fun B => WR (Addr.add ⟨B, 0, none⟩ 0) v0 (WR (Addr.add ⟨B, 0, none⟩ 1) v1 (WR (Addr.add ⟨B, 0, none⟩ 2) v2 (WR (Addr.add ⟨B, 0, none⟩ 3) v3 (K B))))) s :=
  nwN (vs := [v0, v1, v2, v3]) hz rfl (by simp [h0, h1, h2, h3]) fun s' e z o => h s' e z (o 0 (by simp)) (o 1 (by simp)) (o 2 (by simp)) (o 3 (by simp))
/-- A new variable as it is. -/
theorem nz1 {v0 : Value} {K : Nat → Hp → Prop} (hz : zc P t = [v0]) (h : ∀ s', Ext s s' → s'.size = s.size + 1 → Own s' ⟨s.size, 0, none⟩ v0 → K s.size s') : NEWZ P t K s :=
  NEWZ_rule hz fun s1 e1 z1 n1 => h s1 e1 z1 (n1 0 _ rfl)
theorem nz2 {v0 v1 : Value} {K : Nat → Hp → Prop} (hz : zc P t = [v0, v1]) (h : ∀ s', Ext s s' → s'.size = s.size + 1 → Own s' ⟨s.size, 0, none⟩ v0 → Own s' ⟨s.size, 1, none⟩ v1 → K s.size s') : NEWZ P t K s :=
  NEWZ_rule hz fun s1 e1 z1 n1 => h s1 e1 z1 (n1 0 _ rfl) (n1 1 _ rfl)
theorem nz4 {v0 v1 v2 v3 : Value} {K : Nat → Hp → Prop} (hz : zc P t = [v0, v1, v2, v3]) (h : ∀ s', Ext s s' → s'.size = s.size + 1 → Own s' ⟨s.size, 0, none⟩ v0 → Own s' ⟨s.size, 1, none⟩ v1 → Own s' ⟨s.size, 2, none⟩ v2 → Own s' ⟨s.size, 3, none⟩ v3 → K s.size s') : NEWZ P t K s :=
  NEWZ_rule hz fun s1 e1 z1 n1 => h s1 e1 z1 (n1 0 _ rfl) (n1 1 _ rfl) (n1 2 _ rfl) (n1 3 _ rfl)
theorem ne1 {v0 : Value} {K : Nat → Hp → Prop} (h : ∀ s', Ext s s' → s'.size = s.size + 1 → Own s' ⟨s.size, 0, none⟩ v0 → K s.size s') : NEW t [v0] K s :=
  NEW_rule fun s1 e1 z1 n1 _ => h s1 e1 z1 (n1 0 _ rfl)
theorem ne2 {v0 v1 : Value} {K : Nat → Hp → Prop} (h : ∀ s', Ext s s' → s'.size = s.size + 1 → Own s' ⟨s.size, 0, none⟩ v0 → Own s' ⟨s.size, 1, none⟩ v1 → K s.size s') : NEW t [v0, v1] K s :=
  NEW_rule fun s1 e1 z1 n1 _ => h s1 e1 z1 (n1 0 _ rfl) (n1 1 _ rfl)
theorem ne4 {v0 v1 v2 v3 : Value} {K : Nat → Hp → Prop} (h : ∀ s', Ext s s' → s'.size = s.size + 1 → Own s' ⟨s.size, 0, none⟩ v0 → Own s' ⟨s.size, 1, none⟩ v1 → Own s' ⟨s.size, 2, none⟩ v2 → Own s' ⟨s.size, 3, none⟩ v3 → K s.size s') : NEW t [v0, v1, v2, v3] K s :=
  NEW_rule fun s1 e1 z1 n1 _ => h s1 e1 z1 (n1 0 _ rfl) (n1 1 _ rfl) (n1 2 _ rfl) (n1 3 _ rfl)
end
end Go.V
namespace Go.V
theorem MKS_rule {P : Program} {t : TypeId} {n : Nat} {z : Value} {K : Nat → Hp → Prop} {s : Hp} (hz : zc P t = [z]) (hn : n ≤ 100000) (h : ∀ s', Ext s s' → s'.size = s.size + 1 → (∀ i, i < n → Own s' ⟨s.size, i, none⟩ z) → K s.size s') : MKS P t (n : Int) (n : Int) K s := by
  refine ⟨⟨by omega, by omega, by omega⟩, ?_⟩
  rw [hz, Int.toNat_natCast]
  exact h _ (Ext.push (Ext.refl _)) (by simp) fun i hi => own_new (repL_getD z n i hi)
theorem IXS_nat {a : Addr} {l i es : Nat} {K : Addr → Hp → Prop} {s : Hp} (h : i < l) (hk : K (a.add (i * es)) s) : IXS (some a) l (i : Int) es K s := ⟨a, rfl, ⟨by omega, by omega⟩, hk⟩
end Go.V
namespace Go.V
theorem BR_ff {c : Bool} {x y : Hp → Prop} {s : Hp} (h : c = false) (hk : y s) : BR c x y s := by rw [h]; exact hk
theorem BR_tt {c : Bool} {x y : Hp → Prop} {s : Hp} (h : c = true) (hk : x s) : BR c x y s := by rw [h]; exact hk
end Go.V
namespace Go.V
theorem ANDS_i {x K : Hp → Prop} {s : Hp} (h : x s) (k : K s) : ANDS x K s := ⟨h, k⟩
theorem CONJ_one {a : Hp → Prop} {s : Hp} (h : a s) : CONJ [a] s := h
theorem CONJ_more {s : Hp} {a b : Hp → Prop} {l : List (Hp → Prop)} (h1 : a s) (h2 : CONJ (b :: l) s) : CONJ (a :: b :: l) s := ⟨h1, h2⟩
end Go.V

/- Clock: the map of bounds: what is found, what is put. -/
set_option linter.unusedSimpArgs false
set_option linter.unusedVariables false
set_option maxRecDepth 20000
namespace Go.Proofs.Ytknpmijgdfeliaa.G
open Go.V
abbrev Ky := Int × Int
abbrev Pr := Ky × Int
theorem und_93 : Pg.underlying 93 = some (.map 111 3) := by kernel_rfl
theorem und_3 : Pg.underlying 3 = some (.int .i64) := by kernel_rfl
theorem zc_111 : zc Pg 111 = [.int .i64 0, .int .i64 0] := by kernel_rfl
def keyV (k : Ky) : Value := .agg #[.int .i64 k.1, .int .i64 k.2]
abbrev intV (n : Int) : Value := .int .i64 n
theorem check_key (b : Bool) (k : Ky) (K : Unit → Hp → Prop) (E : Value → Hp → Prop) (s : Hp) : sp Pg (Instr.checkKey b 10000 111 (keyV k)) K E s = K () s := by kernel_rfl
theorem flat_111 : flatN Pg 24 111 = some [.i .i64, .i .i64] := by kernel_rfl
theorem ag_111 : agO Pg 111 = some true := by kernel_rfl
theorem zero_3 (K : Value → Hp → Prop) (E : Value → Hp → Prop) (s : Hp) : sp Pg (zeroValue 3) K E s = K (.int .i64 0) s := by kernel_rfl
theorem eq_key {k k' : Ky} {K : Bool → Hp → Prop} {E : Value → Hp → Prop} {s : Hp} (h : K (decide (k = k')) s) : sp Pg (Op.equal 111 (keyV k) (keyV k')) K E s := by
  refine sp_of_spq Pg _ _ _ _ ?_
  have hr : eqL [.i .i64, .i .i64] [.int .i64 k.1, .int .i64 k.2] [.int .i64 k'.1, .int .i64 k'.2] = some (k.1 == k'.1 && k.2 == k'.2) := by simp [eqL, eq1]
  have hd : decide (k = k') = (k.1 == k'.1 && k.2 == k'.2) := by
    obtain ⟨a, b⟩ := k
    obtain ⟨c, d⟩ := k'
    by_cases h1 : a = c <;> by_cases h2 : b = d <;> simp [h1, h2]
  refine (flat_eq 24).1 111 _ 10000 _ _ [.int .i64 k.1, .int .i64 k.2] [.int .i64 k'.1, .int .i64 k'.2] _ _ (by omega) flat_111 (.inl ⟨ag_111, rfl⟩) (.inl ⟨ag_111, rfl⟩) (eqL_eqK _ _ _ _ hr) ?_
  rw [hd] at h; exact h
theorem und_111 : ∃ d, Pg.underlying 111 = some d := Option.isSome_iff_exists.1 (show (Pg.underlying 111).isSome = true by kernel_rfl)
/-- What a map holds. -/
structure Holds (es : Array MapEntry) (cl : Nat) (l : List Pr) : Prop where
  all : es.toList.map (fun e => (e.key, e.val)) = l.map fun x => (keyV x.1, intV x.2)
  born : ∀ e ∈ es.toList, e.born < cl
  nod : (es.toList.map (·.born)).Nodup
  keys : (l.map (·.1)).Nodup
def findA (k : Ky) : List Pr → Nat → Option (Nat × Int)
  | [], _ => none
  | x :: r, i => if k = x.1 then some (i, x.2) else findA k r (i + 1)
theorem find_ask {k : Ky} {K : Option (Nat × Value) → Hp → Prop} {E : Value → Hp → Prop} {s : Hp} : ∀ (l : List Pr) (es : List MapEntry) (i : Nat), es.map (fun e => (e.key, e.val)) = l.map (fun x => (keyV x.1, intV x.2)) → K ((findA k l i).map fun x => (x.1, intV x.2)) s → sp Pg (Instr.findAsking 111 (keyV k) es i) K E s
  | [], [], i, _, h => h
  | [], e :: es, i, h, _ => by simp at h
  | x :: l, [], i, h, _ => by simp at h
  | x :: l, e :: es, i, h, hk => by
    simp only [List.map_cons, List.cons.injEq, Prod.mk.injEq] at h
    obtain ⟨⟨h1, h2⟩, h3⟩ := h
    unfold Instr.findAsking
    rw [sp_bind, h1]
    refine eq_key ?_
    unfold findA at hk
    by_cases he : k = x.1
    · rw [if_pos he] at hk
      rw [decide_eq_true he]
      simp only [if_true]
      rw [h2]; exact hk
    · rw [if_neg he] at hk
      rw [decide_eq_false he]
      simp only [Bool.false_eq_true, if_false]
      exact find_ask l es (i + 1) h3 hk
theorem find_key {k : Ky} {K : Option (Nat × Value) → Hp → Prop} {E : Value → Hp → Prop} {s : Hp} {cl : Nat} {l : List Pr} {es : Array MapEntry} (h : Holds es cl l) (hk : K ((findA k l 0).map fun x => (x.1, intV x.2)) s) : sp Pg (Instr.findKey 111 (keyV k) es.toList) K E s := by
  obtain ⟨d, hd⟩ := und_111
  unfold Instr.findKey
  rw [sp_bind, sp_und hd]
  cases he : es.toList with
  | nil =>
    have hl : l = [] := by have := h.all; rw [he] at this; simpa using this.symm
    subst hl
    exact hk
  | cons e r =>
    have hn : Instr.findNow d (keyV k) (e :: r) 0 = none := by
      unfold Instr.findNow
      have : Instr.sameNow d (keyV k) e.key = none := by cases d <;> rfl
      rw [this]
    rw [hn]
    refine find_ask l (e :: r) 0 ?_ hk
    rw [← he]; exact h.all
theorem findA_some {k : Ky} : ∀ (l : List Pr) (i j : Nat) (v : Int), findA k l i = some (j, v) → ∃ n, ∃ h : n < l.length, j = i + n ∧ l[n] = (k, v)
  | [], _, _, _, h => by cases h
  | x :: r, i, j, v, h => by
    unfold findA at h
    by_cases he : k = x.1
    · rw [if_pos he] at h
      cases h
      exact ⟨0, by simp, rfl, by rw [he]; rfl⟩
    · rw [if_neg he] at h
      obtain ⟨n, hn, h1, h2⟩ := findA_some r (i + 1) j v h
      exact ⟨n + 1, by simp; omega, by omega, by simpa using h2⟩
theorem findA_none {k : Ky} : ∀ (l : List Pr) (i : Nat), findA k l i = none ↔ ∀ x ∈ l, x.1 ≠ k
  | [], _ => by simp [findA]
  | x :: r, i => by
    unfold findA
    by_cases he : k = x.1
    · rw [if_pos he]
      simp [he]
    · rw [if_neg he, findA_none r (i + 1)]
      simp only [List.mem_cons, forall_eq_or_imp]
      exact ⟨fun h => ⟨fun e => he e.symm, h⟩, fun h => h.2⟩
/-- What a key has. -/
def get (l : List Pr) (k : Ky) : Option Int := (findA k l 0).map (·.2)
/-- A bound more, or another one. -/
def put (l : List Pr) (k : Ky) (v : Int) : List Pr := match findA k l 0 with | some (i, _) => l.set i (k, v) | none => l ++ [(k, v)]
theorem nodup_ne {α : Type} {l : List α} (h : l.Nodup) : ∀ i j, i < j → j < l.length → l[i]? ≠ l[j]? := fun i j h1 h2 e => by
  have := List.pairwise_iff_getElem.1 h i j (by omega) h2 h1
  rw [List.getElem?_eq_getElem (by omega), List.getElem?_eq_getElem h2] at e
  exact this (Option.some.inj e)
theorem get_mem {l : List Pr} {k : Ky} {v : Int} (hn : (l.map (·.1)).Nodup) : get l k = some v ↔ (k, v) ∈ l := by
  unfold get
  constructor
  · intro h
    cases hf : findA k l 0 with
    | none => rw [hf] at h; cases h
    | some x =>
      obtain ⟨j, w⟩ := x
      rw [hf] at h
      cases h
      obtain ⟨n, hn, _, h2⟩ := findA_some l 0 j _ hf
      exact h2 ▸ List.getElem_mem hn
  · intro h
    cases hf : findA k l 0 with
    | none => exact absurd rfl ((findA_none l 0).1 hf _ h)
    | some x =>
      obtain ⟨j, w⟩ := x
      obtain ⟨n, hl, _, h2⟩ := findA_some l 0 j _ hf
      obtain ⟨n', hl', h3⟩ := List.getElem_of_mem h
      have e : n = n' := by
        have := nodup_ne hn
        rcases Nat.lt_trichotomy n n' with hlt | he | hlt
        · exact absurd (by rw [List.getElem?_map, List.getElem?_map, List.getElem?_eq_getElem hl, List.getElem?_eq_getElem hl', h2, h3]; rfl) (this n n' hlt (by simpa using hl'))
        · exact he
        · exact absurd (by rw [List.getElem?_map, List.getElem?_map, List.getElem?_eq_getElem hl, List.getElem?_eq_getElem hl', h2, h3]; rfl) (this n' n hlt (by simpa using hl))
      subst e
      rw [h2] at h3
      cases h3
      rfl
theorem findA_key {k : Ky} {i j : Nat} {w : Int} {l : List Pr} (h : findA k l 0 = some (j, w)) : ∃ hj : j < l.length, l[j] = (k, w) := by
  obtain ⟨n, hn, h1, h2⟩ := findA_some l 0 j w h
  have : j = n := by omega
  subst this
  exact ⟨hn, h2⟩
theorem put_keys {l : List Pr} {k : Ky} {v : Int} (hn : (l.map (·.1)).Nodup) : ((put l k v).map (·.1)).Nodup := by
  unfold put
  cases hf : findA k l 0 with
  | none =>
    simp only [List.map_append, List.map_cons, List.map_nil]
    rw [List.nodup_append]
    refine ⟨hn, by simp, fun x hx y hy => ?_⟩
    obtain ⟨e, he, rfl⟩ := List.mem_map.1 hx
    simp at hy
    subst hy
    exact (findA_none l 0).1 hf e he
  | some x =>
    obtain ⟨j, w⟩ := x
    obtain ⟨hj, h2⟩ := findA_key (i := 0) hf
    have : (l.set j (k, v)).map (·.1) = l.map (·.1) := by
      apply List.ext_getElem?
      intro i
      rw [List.getElem?_map, List.getElem?_map, List.getElem?_set]
      by_cases e : j = i
      · subst e; rw [if_pos rfl, if_pos hj, List.getElem?_eq_getElem hj, h2]; rfl
      · rw [if_neg e]
    simp only [this]
    exact hn
theorem mem_put {l : List Pr} {k q : Ky} {v w : Int} (hn : (l.map (·.1)).Nodup) : (q, w) ∈ put l k v ↔ (q = k ∧ w = v) ∨ (q ≠ k ∧ (q, w) ∈ l) := by
  unfold put
  cases hf : findA k l 0 with
  | none =>
    have hno := (findA_none l 0).1 hf
    simp only [List.mem_append, List.mem_singleton, Prod.mk.injEq]
    constructor
    · rintro (h | h)
      · exact .inr ⟨hno _ h, h⟩
      · exact .inl h
    · rintro (h | h)
      · exact .inr h
      · exact .inl h.2
  | some x =>
    obtain ⟨j, u⟩ := x
    obtain ⟨hj, h2⟩ := findA_key (i := 0) hf
    simp only
    have hne := nodup_ne hn
    constructor
    · intro h
      rw [List.mem_iff_getElem?] at h
      obtain ⟨i, hi⟩ := h
      rw [List.getElem?_set] at hi
      by_cases e : j = i
      · subst e; rw [if_pos rfl, if_pos hj] at hi; cases hi; exact .inl ⟨rfl, rfl⟩
      · rw [if_neg e] at hi
        refine .inr ⟨fun hq => ?_, List.mem_of_getElem? hi⟩
        subst hq
        have hil := (List.getElem?_eq_some_iff.1 hi).1
        rcases Nat.lt_or_gt_of_ne e with hlt | hlt
        · exact hne j i hlt (by simpa using hil) (by rw [List.getElem?_map, List.getElem?_map, hi, List.getElem?_eq_getElem hj, h2]; rfl)
        · exact hne i j hlt (by simpa using hj) (by rw [List.getElem?_map, List.getElem?_map, hi, List.getElem?_eq_getElem hj, h2]; rfl)
    · rintro (⟨rfl, rfl⟩ | ⟨hq, h⟩)
      · rw [List.mem_iff_getElem?]
        exact ⟨j, by rw [List.getElem?_set, if_pos rfl, if_pos hj]⟩
      · rw [List.mem_iff_getElem?] at h ⊢
        obtain ⟨i, hi⟩ := h
        refine ⟨i, ?_⟩
        rw [List.getElem?_set]
        by_cases e : j = i
        · subst e
          rw [List.getElem?_eq_getElem hj, h2] at hi
          cases hi
          exact absurd rfl hq
        · rw [if_neg e]; exact hi
theorem get_put {l : List Pr} {k q : Ky} {v : Int} (hn : (l.map (·.1)).Nodup) : get (put l k v) q = if q = k then some v else get l q := by
  have hp := put_keys (k := k) (v := v) hn
  by_cases h : q = k
  · rw [if_pos h, get_mem hp, mem_put hn]; exact .inl ⟨h, rfl⟩
  · rw [if_neg h]
    cases hg : get l q with
    | some w => rw [get_mem hp, mem_put hn]; exact .inr ⟨h, (get_mem hn).1 hg⟩
    | none =>
      cases hg' : get (put l k v) q with
      | none => rfl
      | some w =>
        rw [get_mem hp, mem_put hn] at hg'
        rcases hg' with hg' | hg'
        · exact absurd hg'.1 h
        · rw [(get_mem hn).2 hg'.2] at hg; cases hg
theorem same_key {k : Ky} : Instr.sameBits 10000 (keyV k) (keyV k) = true := by
  obtain ⟨a, b⟩ := k
  simp [keyV, Instr.sameBits]
theorem setO_get {s : Hp} {r : Nat} {o o' : Obj} (h : s[r]? = some o') : (s.setIfInBounds r o)[r]? = some o := by
  have := (Array.getElem?_eq_some_iff.1 h).1
  rw [Array.getElem?_setIfInBounds]
  simp [this]
theorem setO_kp {s : Hp} {r : Nat} {o : Obj} : Kp (· = r) s (s.setIfInBounds r o) := ⟨by simp, fun b _ hb => Array.getElem?_setIfInBounds_ne (fun e => hb e.symm)⟩
section
variable {s : Hp} {r cl : Nat} {es : Array MapEntry} {l : List Pr}
theorem LKP_ok {k : Ky} {K : VK} (hs : s[r]? = some (.map es cl)) (h : Holds es cl l) (hk : K (.tuple #[intV ((get l k).getD 0), .bool (get l k).isSome]) s) : LKP Pg 93 (.map (some r)) (keyV k) true K s := by
  unfold LKP Instr.lookup
  rw [sp_bind, sp_und und_93]
  simp only [sp_bind]
  refine ⟨_, hs, rfl, rfl, ?_⟩
  show sp Pg (Sem.pure (Obj.map es cl)) _ _ s
  simp only [sp, sp_bind, sp_pure]
  rw [check_key]
  refine find_key h ?_
  unfold get at hk
  cases hf : findA k l 0 with
  | some x => rw [hf] at hk; exact hk
  | none =>
    rw [hf] at hk
    simp only [Option.map_none, sp_bind]
    rw [zero_3]
    exact hk
theorem LKP_no {k : Ky} {K : VK} (hs : s[r]? = some (.map es cl)) (h : Holds es cl l) (hk : K (intV ((get l k).getD 0)) s) : LKP Pg 93 (.map (some r)) (keyV k) false K s := by
  unfold LKP Instr.lookup
  rw [sp_bind, sp_und und_93]
  simp only [sp_bind]
  refine ⟨_, hs, rfl, rfl, ?_⟩
  show sp Pg (Sem.pure (Obj.map es cl)) _ _ s
  simp only [sp, sp_bind, sp_pure]
  rw [check_key]
  refine find_key h ?_
  unfold get at hk
  cases hf : findA k l 0 with
  | some x => rw [hf] at hk; exact hk
  | none =>
    rw [hf] at hk
    simp only [Option.map_none, sp_bind]
    rw [zero_3]
    exact hk
/-- What a put leaves of the entries: the old ones keep their places, and when they came. -/
structure PutE (es es' : Array MapEntry) (cl cl' : Nat) (k : Ky) : Prop where
  le : cl ≤ cl'
  old : ∀ e ∈ es.toList, ∃ e' ∈ es'.toList, e'.born = e.born ∧ e'.key = e.key
  new : ∀ e' ∈ es'.toList, (∃ e ∈ es.toList, e'.born = e.born ∧ e'.key = e.key) ∨ cl ≤ e'.born
theorem MUP_put {k : Ky} {v : Int} {K : Hp → Prop} (hs : s[r]? = some (.map es cl)) (h : Holds es cl l)
    (hk : ∀ s' es' cl', Kp (· = r) s s' → s'.size = s.size → s'[r]? = some (.map es' cl') → Holds es' cl' (put l k v) → PutE es es' cl cl' k → K s') : MUP Pg 93 (.map (some r)) (keyV k) (intV v) K s := by
  unfold MUP Instr.mapUpdate
  rw [sp_bind, sp_und und_93]
  simp only [sp_bind]
  refine ⟨_, hs, rfl, rfl, ?_⟩
  show sp Pg (Sem.pure (Obj.map es cl)) _ _ s
  simp only [sp, sp_bind]
  rw [check_key]
  refine find_key h ?_
  have hlen : es.size = l.length := by have := congrArg List.length h.all; simpa using this
  have hpk := put_keys (k := k) (v := v) h.keys
  cases hf : findA k l 0 with
  | none =>
    simp only [Option.map_none]
    refine ⟨⟨_, hs, rfl, rfl⟩, ?_⟩
    refine hk _ _ _ setO_kp (by simp) (setO_get hs) ⟨?_, ?_, ?_, hpk⟩ ⟨Nat.le_succ _, ?_, ?_⟩
    · unfold put
      rw [hf]
      rw [Array.toList_push, List.map_append, List.map_append, h.all]
      rfl
    · intro e he
      rw [Array.toList_push] at he
      rcases List.mem_append.1 he with he | he
      · have := h.born e he; omega
      · simp at he; subst he; show cl < cl + 1; omega
    · rw [Array.toList_push, List.map_append, List.nodup_append]
      refine ⟨h.nod, by simp, fun x hx y hy => ?_⟩
      obtain ⟨e, he, rfl⟩ := List.mem_map.1 hx
      simp at hy
      subst hy
      have := h.born e he
      omega
    · intro e he
      exact ⟨e, by rw [Array.toList_push]; exact List.mem_append_left _ he, rfl, rfl⟩
    · intro e he
      rw [Array.toList_push] at he
      rcases List.mem_append.1 he with he | he
      · exact .inl ⟨e, he, rfl, rfl⟩
      · simp at he; subst he; exact .inr (Nat.le_refl _)
  | some x =>
    obtain ⟨j, v0⟩ := x
    obtain ⟨hn, hx⟩ := findA_key (i := 0) hf
    simp only [Option.map_some, sp_bind]
    have hje : j < es.size := by omega
    have hkey : es[j].key = keyV k ∧ es[j].val = intV v0 := by
      have h1 := h.all
      have h2 : (es.toList.map (fun e => (e.key, e.val)))[j]? = (l.map fun x => (keyV x.1, intV x.2))[j]? := by rw [h1]
      rw [List.getElem?_map, List.getElem?_map, List.getElem?_eq_getElem hn, hx] at h2
      rw [List.getElem?_eq_getElem (by simpa using hje)] at h2
      simp at h2
      exact h2
    have hold : (Option.map (fun x => x.key) es[j]?).getD (keyV k) = keyV k := by
      rw [Array.getElem?_eq_getElem hje]
      exact hkey.1
    rw [hold]
    unfold Instr.keyThatStays
    rw [if_pos same_key]
    simp only [sp_pure]
    refine ⟨⟨_, hs, rfl, rfl⟩, ?_⟩
    have hmod : ∀ i, (es.modify j fun e => { e with key := keyV k, val := intV v })[i]? = if j = i then some { es[j] with key := keyV k, val := intV v } else es[i]? := by
      intro i
      rw [Array.getElem?_modify]
      by_cases e : j = i
      · subst e; rw [if_pos rfl, if_pos rfl, Array.getElem?_eq_getElem hje]; rfl
      · rw [if_neg e, if_neg e]
    have hback : ∀ e' ∈ (es.modify j fun e => { e with key := keyV k, val := intV v }).toList, ∃ e ∈ es.toList, e'.born = e.born ∧ e'.key = e.key := by
      intro e' he'
      rw [List.mem_iff_getElem?] at he'
      obtain ⟨i, hi⟩ := he'
      rw [Array.getElem?_toList, hmod] at hi
      by_cases e : j = i
      · rw [if_pos e] at hi; cases hi
        exact ⟨es[j], by simp, rfl, hkey.1.symm⟩
      · rw [if_neg e] at hi
        exact ⟨e', by rw [Array.mem_toList_iff]; exact Array.mem_of_getElem? hi, rfl, rfl⟩
    have hborn : (es.modify j fun e => { e with key := keyV k, val := intV v }).toList.map (·.born) = es.toList.map (·.born) := by
      apply List.ext_getElem?
      intro i
      rw [List.getElem?_map, List.getElem?_map, Array.getElem?_toList, Array.getElem?_toList, hmod]
      by_cases e : j = i
      · subst e; rw [if_pos rfl, Array.getElem?_eq_getElem hje]; rfl
      · rw [if_neg e]
    refine hk _ _ _ setO_kp (by simp) (setO_get hs) ⟨?_, ?_, ?_, hpk⟩ ⟨Nat.le_refl _, ?_, fun e' he' => .inl (hback e' he')⟩
    · unfold put
      rw [hf]
      have h1 := h.all
      apply List.ext_getElem?
      intro i
      rw [List.getElem?_map, List.getElem?_map, Array.getElem?_toList, Array.getElem?_modify, List.getElem?_set]
      have h2 : (es.toList.map (fun e => (e.key, e.val)))[i]? = (l.map fun x => (keyV x.1, intV x.2))[i]? := by rw [h1]
      rw [List.getElem?_map, List.getElem?_map, Array.getElem?_toList] at h2
      by_cases e : j = i
      · subst e
        rw [if_pos rfl, if_pos rfl, if_pos hn, Array.getElem?_eq_getElem hje]
        rfl
      · rw [if_neg e, if_neg e]
        exact h2
    · intro e' he'
      obtain ⟨e, he, h1, _⟩ := hback e' he'
      rw [h1]; exact h.born e he
    · show (List.map (·.born) (es.modify j fun e => { e with key := keyV k, val := intV v }).toList).Nodup
      rw [hborn]; exact h.nod
    · intro e he
      rw [List.mem_iff_getElem?] at he
      obtain ⟨i, hi⟩ := he
      rw [Array.getElem?_toList] at hi
      by_cases e0 : j = i
      · subst e0
        rw [Array.getElem?_eq_getElem hje] at hi
        cases hi
        exact ⟨{ es[j] with key := keyV k, val := intV v }, by rw [Array.mem_toList_iff]; exact Array.mem_of_getElem? (i := j) (by rw [hmod, if_pos rfl]), rfl, hkey.1.symm⟩
      · exact ⟨e, by rw [Array.mem_toList_iff]; exact Array.mem_of_getElem? (i := i) (by rw [hmod, if_neg e0]; exact hi), rfl, rfl⟩
end
theorem Holds.mem {es : Array MapEntry} {cl : Nat} {l : List Pr} (h : Holds es cl l) {e : MapEntry} (he : e ∈ es.toList) : ∃ k v, e.key = keyV k ∧ e.val = intV v ∧ get l k = some v := by
  have h1 : (e.key, e.val) ∈ es.toList.map (fun e => (e.key, e.val)) := List.mem_map.2 ⟨e, he, rfl⟩
  rw [h.all] at h1
  obtain ⟨x, hx, h2⟩ := List.mem_map.1 h1
  cases x with
  | mk k v =>
  simp only [Prod.mk.injEq] at h2
  exact ⟨k, v, h2.1.symm, h2.2.symm, (get_mem h.keys).2 hx⟩
theorem Holds.has {es : Array MapEntry} {cl : Nat} {l : List Pr} (h : Holds es cl l) {k : Ky} {v : Int} (hg : get l k = some v) : ∃ e ∈ es.toList, e.key = keyV k ∧ e.val = intV v := by
  have hm := (get_mem h.keys).1 hg
  have h1 : (keyV k, intV v) ∈ l.map (fun x => (keyV x.1, intV x.2)) := List.mem_map.2 ⟨_, hm, rfl⟩
  rw [← h.all] at h1
  obtain ⟨e, he, h2⟩ := List.mem_map.1 h1
  simp only [Prod.mk.injEq] at h2
  exact ⟨e, he, h2.1, h2.2⟩
theorem keyV_inj {k q : Ky} (h : keyV k = keyV q) : k = q := by
  obtain ⟨a, b⟩ := k
  obtain ⟨c, d⟩ := q
  simp [keyV] at h
  rw [h.1, h.2]
end Go.Proofs.Ytknpmijgdfeliaa.G

/- Clock: ranges over the map of bounds, while it is put into. -/
set_option linter.unusedSimpArgs false
set_option linter.unusedVariables false
set_option maxRecDepth 20000
namespace Go.Proofs.Ytknpmijgdfeliaa.G
open Go.V
theorem sp_mapNext {n : Nat} {K : Nat → Hp → Prop} {E : Value → Hp → Prop} {s : Hp} (hn : 0 < n) (h : ∀ a, a < n → K a s) : sp Pg (choose (.mapNext n)) K E s := by
  show (if (Question.mapNext n).forced then K 0 s else ∀ a, K ((Question.mapNext n).cut a) s)
  split
  · exact h 0 hn
  · exact fun a => h _ (Nat.mod_lt _ hn)
structure ItD (s : Hp) (r it : Nat) (K0 : List Ky) (l : List Pr) (V : List Ky) (es : Array MapEntry) (cl since : Nat) (seen : Array Nat) (last : Nat) : Prop where
  m : s[r]? = some (.map es cl)
  i : s[it]? = some (.mapIter (some r) since seen last)
  h : Holds es cl l
  sn : ∀ e ∈ es.toList, ∀ k, e.key = keyV k → (e.born ∈ seen.toList ↔ k ∈ V)
  sl : ∀ b ∈ seen.toList, ∃ e ∈ es.toList, e.born = b
  lt : ∀ b ∈ seen.toList, b < last
  le : last ≤ cl
  st : ∀ k ∈ K0, ∃ e ∈ es.toList, e.key = keyV k ∧ e.born < since
  vk : V.Nodup ∧ ∀ k ∈ V, (get l k).isSome = true
  ln : seen.size = V.length
/-- A range over a map: what it began with, what is there now, what was seen. -/
def ItM (s : Hp) (r it : Nat) (K0 : List Ky) (l : List Pr) (V : List Ky) : Prop := ∃ es cl since seen last, ItD s r it K0 l V es cl since seen last
/-- It has just come to an entry. -/
def ItE (s : Hp) (r it : Nat) (K0 : List Ky) (l : List Pr) (V : List Ky) (k : Ky) (v : Int) : Prop := ∃ es cl since seen e, ItD s r it K0 l V es cl since seen cl ∧ e ∈ es.toList ∧ e.key = keyV k ∧ e.val = intV v ∧ seen.back? = some e.born
theorem ItE.it {s : Hp} {r it : Nat} {K0 : List Ky} {l : List Pr} {V : List Ky} {k : Ky} {v : Int} (h : ItE s r it K0 l V k v) : ItM s r it K0 l V := by
  obtain ⟨es, cl, since, seen, e, h, _⟩ := h
  exact ⟨es, cl, since, seen, cl, h⟩
theorem ItM.ext {s s' : Hp} {r it : Nat} {K0 : List Ky} {l : List Pr} {V : List Ky} (e : Ext s s') (h : ItM s r it K0 l V) : ItM s' r it K0 l V := by
  obtain ⟨es, cl, since, seen, last, d⟩ := h
  have f : ∀ {b o}, s[b]? = some o → s'[b]? = some o := fun {b o} hb => (e.2 b (Array.getElem?_eq_some_iff.1 hb).1).trans hb
  exact ⟨es, cl, since, seen, last, f d.m, f d.i, d.h, d.sn, d.sl, d.lt, d.le, d.st, d.vk, d.ln⟩
theorem ItM.kp {s s' : Hp} {D : Nat → Prop} {r it : Nat} {K0 : List Ky} {l : List Pr} {V : List Ky} (e : Kp D s s') (hr : ¬ D r) (hi : ¬ D it) (h : ItM s r it K0 l V) : ItM s' r it K0 l V := by
  obtain ⟨es, cl, since, seen, last, d⟩ := h
  have f : ∀ {b o}, ¬ D b → s[b]? = some o → s'[b]? = some o := fun {b o} hd hb => (e.2 b (Array.getElem?_eq_some_iff.1 hb).1 hd).trans hb
  exact ⟨es, cl, since, seen, last, f hr d.m, f hi d.i, d.h, d.sn, d.sl, d.lt, d.le, d.st, d.vk, d.ln⟩
/-- How many entries a range has come to. -/
def seenN (s : Hp) (it : Nat) : Nat := match s[it]? with | some (.mapIter _ _ seen _) => seen.size | _ => 0
theorem ItM.seen {s : Hp} {r it : Nat} {K0 : List Ky} {l : List Pr} {V : List Ky} (h : ItM s r it K0 l V) : seenN s it = V.length := by
  obtain ⟨es, cl, since, seen, last, d⟩ := h
  unfold seenN
  rw [d.i]
  exact d.ln
/-- A map's content. -/
def MapL (s : Hp) (r : Nat) (l : List Pr) : Prop := ∃ es cl, s[r]? = some (.map es cl) ∧ Holds es cl l
theorem MapL.ext {s s' : Hp} {r : Nat} {l : List Pr} (e : Ext s s') (h : MapL s r l) : MapL s' r l := by
  obtain ⟨es, cl, h1, h2⟩ := h
  exact ⟨es, cl, (e.2 r (Array.getElem?_eq_some_iff.1 h1).1).trans h1, h2⟩
theorem MapL.kp {s s' : Hp} {D : Nat → Prop} {r : Nat} {l : List Pr} (e : Kp D s s') (hd : ¬ D r) (h : MapL s r l) : MapL s' r l := by
  obtain ⟨es, cl, h1, h2⟩ := h
  exact ⟨es, cl, (e.2 r (Array.getElem?_eq_some_iff.1 h1).1 hd).trans h1, h2⟩
theorem MapL.lt {s : Hp} {r : Nat} {l : List Pr} (h : MapL s r l) : r < s.size := by
  obtain ⟨es, cl, h1, h2⟩ := h
  exact (Array.getElem?_eq_some_iff.1 h1).1
theorem MapL.keys {s : Hp} {r : Nat} {l : List Pr} (h : MapL s r l) : (l.map (·.1)).Nodup := by
  obtain ⟨es, cl, h1, h2⟩ := h
  exact h2.keys
theorem MapL.eq {s : Hp} {r : Nat} {l l' : List Pr} (h : MapL s r l) (h' : MapL s r l') : l = l' := by
  obtain ⟨es, cl, h1, h2⟩ := h
  obtain ⟨es', cl', h3, h4⟩ := h'
  rw [h1] at h3
  cases h3
  have h5 := h2.all.symm.trans h4.all
  apply List.ext_getElem?
  intro i
  have := congrArg (fun x => x[i]?) h5
  simp only [List.getElem?_map] at this
  cases ha : l[i]? with
  | none => rw [ha] at this; cases hb : l'[i]? with
    | none => rfl
    | some y => rw [hb] at this; cases this
  | some x => rw [ha] at this; cases hb : l'[i]? with
    | none => rw [hb] at this; cases this
    | some y =>
      rw [hb] at this
      simp only [Option.map_some, Option.some.injEq, Prod.mk.injEq] at this
      have e1 := keyV_inj this.1
      have e2 : x.2 = y.2 := by have := this.2; unfold intV at this; simpa using this
      rw [show x = y from Prod.ext e1 e2]
/-- The map that lies there. -/
noncomputable def mapOf (s : Hp) (r : Nat) : List Pr := by classical exact if h : ∃ l, MapL s r l then Classical.choose h else []
theorem MapL.of {s : Hp} {r : Nat} {l : List Pr} (h : MapL s r l) : mapOf s r = l := by
  unfold mapOf
  rw [dif_pos ⟨l, h⟩]
  exact (Classical.choose_spec (⟨l, h⟩ : ∃ l, MapL s r l)).eq h
theorem ItM.map {s : Hp} {r it : Nat} {K0 : List Ky} {l : List Pr} {V : List Ky} (h : ItM s r it K0 l V) : MapL s r l := by
  obtain ⟨es, cl, since, seen, last, d⟩ := h
  exact ⟨es, cl, d.m, d.h⟩
theorem ItM.nod {s : Hp} {r it : Nat} {K0 : List Ky} {l : List Pr} {V : List Ky} (h : ItM s r it K0 l V) : V.Nodup ∧ ∀ k ∈ V, (get l k).isSome = true := by
  obtain ⟨es, cl, since, seen, last, d⟩ := h
  exact d.vk
section
variable {s : Hp} {r it : Nat} {K0 : List Ky} {l : List Pr} {V : List Ky}
theorem MKM_map {K : Nat → Hp → Prop} (h : ∀ s', Ext s s' → s'.size = s.size + 1 → MapL s' s.size [] → K s.size s') : MKM K s := by
  unfold MKM
  refine h _ (Ext.push (Ext.refl s)) (by simp) ⟨#[], 0, by simp, ⟨rfl, (fun e he => by simp at he), by simp, by simp⟩⟩
theorem lkp_ok {k : Ky} {K : VK} (h : MapL s r l) (hk : K (.tuple #[intV ((get l k).getD 0), .bool (get l k).isSome]) s) : LKP Pg 93 (.map (some r)) (keyV k) true K s := by
  obtain ⟨es, cl, h1, h2⟩ := h
  exact LKP_ok h1 h2 hk
theorem lkp_no {k : Ky} {K : VK} (h : MapL s r l) (hk : K (intV ((get l k).getD 0)) s) : LKP Pg 93 (.map (some r)) (keyV k) false K s := by
  obtain ⟨es, cl, h1, h2⟩ := h
  exact LKP_no h1 h2 hk
theorem mup_put {k : Ky} {v : Int} {K : Hp → Prop} (h : MapL s r l) (hk : ∀ s', Kp (· = r) s s' → s'.size = s.size → MapL s' r (put l k v) → (∀ it K0 V, it ≠ r → ItM s r it K0 l V → ItM s' r it K0 (put l k v) V) → K s') : MUP Pg 93 (.map (some r)) (keyV k) (intV v) K s := by
  obtain ⟨es, cl, h1, h2⟩ := h
  refine MUP_put h1 h2 fun s' es' cl' k1 z1 m1 hh pe => hk s' k1 z1 ⟨es', cl', m1, hh⟩ ?_
  rintro it K0 V hne ⟨es0, cl0, since, seen, last, d⟩
  have e0 := d.m
  rw [h1] at e0
  cases e0
  have hi' : s'[it]? = some (.mapIter (some r) since seen last) := (k1.2 it (Array.getElem?_eq_some_iff.1 d.i).1 hne).trans d.i
  refine ⟨es', cl', since, seen, last, m1, hi', hh, ?_, ?_, d.lt, Nat.le_trans d.le pe.le, ?_, ⟨d.vk.1, ?_⟩, d.ln⟩
  · intro e he q hq
    rcases pe.new e he with ⟨e0, he0, hb, hkk⟩ | hlt
    · rw [hb]; exact d.sn e0 he0 q (hkk ▸ hq)
    · have hns : e.born ∉ seen.toList := fun hm => by have := d.lt _ hm; have := d.le; omega
      refine ⟨fun hm => absurd hm hns, fun hv => ?_⟩
      have h3 := d.vk.2 q hv
      cases hg : get l q with
      | none => rw [hg] at h3; cases h3
      | some w =>
        obtain ⟨e1, he1, hk1, _⟩ := h2.has hg
        obtain ⟨e2, he2, hb2, hk2⟩ := pe.old e1 he1
        -- both entries have the key
        have : e = e2 := by
          obtain ⟨i, hi, hie⟩ := List.getElem_of_mem he
          obtain ⟨j, hj, hje⟩ := List.getElem_of_mem he2
          have hal := hh.all
          have hlen : es'.toList.length = (put l k v).length := by have := congrArg List.length hal; simpa using this
          have hki : ((put l k v).map (·.1))[i]? = some q := by
            have := congrArg (fun x => x[i]?) hal
            simp only [List.getElem?_map, List.getElem?_eq_getElem hi, List.getElem?_eq_getElem (hlen ▸ hi), Option.map_some, Option.some.injEq, Prod.mk.injEq] at this
            rw [List.getElem?_map, List.getElem?_eq_getElem (hlen ▸ hi)]
            rw [hie, hq] at this
            exact congrArg some (keyV_inj this.1).symm
          have hkj : ((put l k v).map (·.1))[j]? = some q := by
            have := congrArg (fun x => x[j]?) hal
            simp only [List.getElem?_map, List.getElem?_eq_getElem hj, List.getElem?_eq_getElem (hlen ▸ hj), Option.map_some, Option.some.injEq, Prod.mk.injEq] at this
            rw [List.getElem?_map, List.getElem?_eq_getElem (hlen ▸ hj)]
            rw [hje, hk2, hk1] at this
            exact congrArg some (keyV_inj this.1).symm
          have hne := nodup_ne hh.keys
          rcases Nat.lt_trichotomy i j with hlt2 | he3 | hlt2
          · exact absurd (hki.trans hkj.symm) (hne i j hlt2 (by simpa using hlen ▸ hj))
          · subst he3; rw [← hie, ← hje]
          · exact absurd (hkj.trans hki.symm) (hne j i hlt2 (by simpa using hlen ▸ hi))
        subst this
        have := (d.sn e1 he1 q hk1).2 hv
        rw [hb2]; exact this
  · intro b hb
    obtain ⟨e, he, h3⟩ := d.sl b hb
    obtain ⟨e', he', h4, _⟩ := pe.old e he
    exact ⟨e', he', h4.trans h3⟩
  · intro q hq
    obtain ⟨e, he, h3, h4⟩ := d.st q hq
    obtain ⟨e', he', h5, h6⟩ := pe.old e he
    exact ⟨e', he', h6.trans h3, by omega⟩
  · intro q hq
    rw [get_put h2.keys]
    split
    · rfl
    · exact d.vk.2 q hq
theorem rnm_map {K : Nat → Hp → Prop} (h : MapL s r l) (hk : ∀ s', Ext s s' → s'.size = s.size + 1 → ItM s' r s.size (l.map (·.1)) l [] → K s.size s') : RNM Pg 93 (.map (some r)) K s := by
  obtain ⟨es, cl, h1, h2⟩ := h
  unfold RNM
  rw [und_93]
  refine ⟨es, cl, h1, hk _ (Ext.push (Ext.refl s)) (by simp) ⟨es, cl, cl, #[], cl, ?_, by simp, h2, ?_, ?_, ?_, Nat.le_refl _, ?_, ⟨by simp, ?_⟩, rfl⟩⟩
  · have := (Array.getElem?_eq_some_iff.1 h1).1
    rw [Array.getElem?_push, if_neg (by omega)]; exact h1
  · intro e he k hk; simp
  · intro b hb; simp at hb
  · intro b hb; simp at hb
  · intro k hk
    obtain ⟨x, hx, rfl⟩ := List.mem_map.1 hk
    obtain ⟨e, he, h3, _⟩ := h2.has ((get_mem h2.keys).2 (show (x.1, x.2) ∈ l from hx))
    exact ⟨e, he, h3, h2.born e he⟩
  · intro k hk; cases hk
theorem nxm_map {Ke : Hp → Prop} {Kg : Value → Value → Hp → Prop} (hi : ItM s r it K0 l V) (hne : it ≠ r) (he : (∀ k ∈ K0, k ∈ V) → Ke s)
    (hg : ∀ k v s', k ∉ V → get l k = some v → Kp (· = it) s s' → s'.size = s.size → ItE s' r it K0 l (k :: V) k v → Kg (keyV k) (intV v) s') : NXM Pg (.pointer (some ⟨it, 0, none⟩)) Ke Kg s := by
  obtain ⟨es, cl, since, seen, last, d⟩ := hi
  unfold NXM Instr.next
  simp only [sp_bind]
  refine ⟨_, d.i, rfl, rfl, ?_⟩
  show sp Pg (Sem.pure (Obj.mapIter (some r) since seen last)) _ _ s
  simp only [sp, sp_bind]
  refine ⟨_, d.m, rfl, rfl, ?_⟩
  show sp Pg (Sem.pure (Obj.map es cl)) _ _ s
  simp only [sp, sp_bind]
  have hall : (!seen.isEmpty && !es.isEmpty && es.all fun x => decide (x.born ≥ last)) = false := by
    cases hs : seen.isEmpty with
    | true => simp
    | false =>
      have hpos : 0 < seen.size := by
        have : seen.size ≠ 0 := fun h0 => by rw [Array.isEmpty_iff_size_eq_zero.2 h0] at hs; cases hs
        omega
      obtain ⟨e, hem, heb⟩ := d.sl seen[0] (by simp)
      have hlt := d.lt seen[0] (by simp)
      have : (es.all fun x => decide (x.born ≥ last)) = false := by
        cases ha : es.all fun x => decide (x.born ≥ last) with
        | false => rfl
        | true =>
          rw [Array.all_eq_true_iff_forall_mem] at ha
          have := of_decide_eq_true (ha e (by simpa using hem))
          omega
      rw [this]; simp
  rw [hall]
  simp only [Bool.false_eq_true, if_false, sp_pure]
  generalize hold : Array.filter (fun x => decide (x.born < since)) (Array.filter (fun e => !seen.contains e.born) es) = old
  generalize hnew : Array.filter (fun x => decide (x.born ≥ since)) (Array.filter (fun e => !seen.contains e.born) es) = new
  have hunseen : ∀ e : MapEntry, ((!seen.contains e.born) = true) ↔ e.born ∉ seen.toList := by
    intro e
    cases hc : seen.contains e.born with
    | true => simp [Array.contains_iff_mem.1 hc]
    | false =>
      simp
      intro hm
      rw [Array.contains_iff_mem.2 (by simpa using hm)] at hc
      cases hc
  have hold' : ∀ e, e ∈ old ↔ e ∈ es ∧ e.born ∉ seen.toList ∧ e.born < since := by
    intro e
    rw [← hold]
    rw [Array.mem_filter, Array.mem_filter, hunseen, decide_eq_true_eq]
    exact ⟨fun h => ⟨h.1.1, h.1.2, h.2⟩, fun h => ⟨⟨h.1, h.2.1⟩, h.2.2⟩⟩
  have hnew' : ∀ e, e ∈ new → e ∈ es ∧ e.born ∉ seen.toList := by
    intro e
    rw [← hnew]
    rw [Array.mem_filter, Array.mem_filter, hunseen]
    exact fun h => h.1
  rw [sp_bind]
  refine sp_mapNext ?_ fun a ha => ?_
  · cases hemp : old.isEmpty with
    | true => simp; omega
    | false =>
      have : old.size ≠ 0 := fun h0 => by rw [Array.isEmpty_iff_size_eq_zero.2 h0] at hemp; cases hemp
      simp; omega
  · rw [Array.getElem?_eq_getElem ha]
    have hmem := Array.getElem_mem ha
    generalize ((if old.isEmpty = true then #[none] else #[]) ++ Array.map some (old ++ new))[a]'ha = x at hmem
    cases x with
    | none =>
      have hemp : old.isEmpty = true := by
        cases hemp : old.isEmpty with
        | true => rfl
        | false => rw [hemp] at hmem; simp at hmem
      refine .inl ⟨rfl, he fun k hk => ?_⟩
      obtain ⟨e, hem, hke, hlt⟩ := d.st k hk
      refine Classical.byContradiction fun hc => ?_
      have hns : e.born ∉ seen.toList := fun hm => hc ((d.sn e hem k hke).1 hm)
      have := (hold' e).2 ⟨by simpa using hem, hns, hlt⟩
      rw [Array.isEmpty_iff_size_eq_zero] at hemp
      have h0 := Array.eq_empty_of_size_eq_zero hemp
      rw [h0] at this
      simp at this
    | some e =>
      have h1 : e ∈ old ∨ e ∈ new := by
        cases hemp : old.isEmpty with
        | true => rw [hemp] at hmem; simpa using hmem
        | false => rw [hemp] at hmem; simpa using hmem
      have h2 : e ∈ es ∧ e.born ∉ seen.toList := by
        rcases h1 with h1 | h1
        · exact ⟨((hold' e).1 h1).1, ((hold' e).1 h1).2.1⟩
        · exact hnew' e h1
      have hem : e ∈ es.toList := by simpa using h2.1
      refine ⟨⟨_, d.i, rfl, rfl⟩, ?_⟩
      obtain ⟨k, v, hk, hv, hget⟩ := d.h.mem hem
      have hkV : k ∉ V := fun hm => h2.2 ((d.sn e hem k hk).2 hm)
      refine .inr ⟨e.key, e.val, rfl, ?_⟩
      rw [hk, hv]
      refine hg k v _ hkV hget setO_kp (by simp) ⟨es, cl, since, seen.push e.born, e, ⟨?_, setO_get d.i, d.h, ?_, ?_, ?_, Nat.le_refl _, d.st, ⟨?_, ?_⟩, by simp [d.ln]⟩, hem, hk, hv, by simp⟩
      · rw [Array.getElem?_setIfInBounds_ne hne]; exact d.m
      · intro e2 he2 q hq
        rw [Array.toList_push, List.mem_append, List.mem_singleton, d.sn e2 he2 q hq, List.mem_cons]
        constructor
        · rintro (h | h)
          · exact .inr h
          · left
            have : e2 = e := by
              obtain ⟨i, hi, hie⟩ := List.getElem_of_mem hem
              obtain ⟨j, hj, hje⟩ := List.getElem_of_mem he2
              have hnn := nodup_ne d.h.nod
              have e1 : (es.toList.map (·.born))[i]? = some e.born := by rw [List.getElem?_map, List.getElem?_eq_getElem hi, hie]; rfl
              have e2' : (es.toList.map (·.born))[j]? = some e.born := by rw [List.getElem?_map, List.getElem?_eq_getElem hj, hje, ← h]; rfl
              rcases Nat.lt_trichotomy i j with hlt2 | he3 | hlt2
              · exact absurd (e1.trans e2'.symm) (hnn i j hlt2 (by simpa using hj))
              · subst he3; rw [← hie, ← hje]
              · exact absurd (e2'.trans e1.symm) (hnn j i hlt2 (by simpa using hi))
            rw [this, hk] at hq
            exact (keyV_inj hq).symm
        · rintro (h | h)
          · subst h
            right
            obtain ⟨k', v', hk', hv', hg'⟩ := d.h.mem he2
            obtain ⟨i, hi, hie⟩ := List.getElem_of_mem hem
            obtain ⟨j, hj, hje⟩ := List.getElem_of_mem he2
            have hal := d.h.all
            have hlen : es.toList.length = l.length := by have := congrArg List.length hal; simpa using this
            have kk : ∀ (i : Nat) (hi : i < es.toList.length), (es.toList[i]).key = keyV q → (l.map (·.1))[i]? = some q := by
              intro i hi hq
              have := congrArg (fun x => x[i]?) hal
              simp only [List.getElem?_map, List.getElem?_eq_getElem hi, List.getElem?_eq_getElem (hlen ▸ hi), Option.map_some, Option.some.injEq, Prod.mk.injEq] at this
              rw [List.getElem?_map, List.getElem?_eq_getElem (hlen ▸ hi)]
              rw [hq] at this
              exact congrArg some (keyV_inj this.1).symm
            have e1 := kk i hi (by rw [hie]; exact hk)
            have e2' := kk j hj (by rw [hje]; exact hq)
            have hnn := nodup_ne d.h.keys
            rcases Nat.lt_trichotomy i j with hlt2 | he3 | hlt2
            · exact absurd (e1.trans e2'.symm) (hnn i j hlt2 (by simpa using hlen ▸ hj))
            · subst he3; rw [← hie, ← hje]
            · exact absurd (e2'.trans e1.symm) (hnn j i hlt2 (by simpa using hlen ▸ hi))
          · exact .inl h
      · intro b hb
        rw [Array.toList_push, List.mem_append, List.mem_singleton] at hb
        rcases hb with hb | rfl
        · exact d.sl b hb
        · exact ⟨e, hem, rfl⟩
      · intro b hb
        rw [Array.toList_push, List.mem_append, List.mem_singleton] at hb
        rcases hb with hb | rfl
        · have := d.lt b hb; have := d.le; omega
        · exact d.h.born e hem
      · rw [List.nodup_cons]; exact ⟨hkV, d.vk.1⟩
      · intro q hq
        rcases List.mem_cons.1 hq with rfl | hq
        · rw [hget]; rfl
        · exact d.vk.2 q hq
theorem ent_map {k : Ky} {v : Int} {K : Value → Value → Hp → Prop} (hi : ItE s r it K0 l V k v) (hk : K (keyV k) (intV v) s) : ENT Pg (.pointer (some ⟨it, 0, none⟩)) K s := by
  obtain ⟨es, cl, since, seen, e, d, hem, hkey, hval, hb⟩ := hi
  unfold ENT Instr.entry
  simp only [sp_bind]
  refine ⟨_, d.i, rfl, rfl, ?_⟩
  show sp Pg (Sem.pure (Obj.mapIter (some r) since seen cl)) _ _ s
  simp only [sp, hb, sp_bind]
  refine ⟨_, d.m, rfl, rfl, ?_⟩
  show sp Pg (Sem.pure (Obj.map es cl)) _ _ s
  simp only [sp, sp_bind]
  have hf : es.find? (fun x => x.born == e.born) = some e := by
    rw [← Array.find?_toList]
    have key : ∀ l : List MapEntry, e ∈ l → (l.map (·.born)).Nodup → l.find? (fun x => x.born == e.born) = some e := by
      intro l
      induction l with
      | nil => intro h; cases h
      | cons x l ih =>
        intro h hnd
        rw [List.map_cons, List.nodup_cons] at hnd
        rw [List.find?_cons]
        rcases List.mem_cons.1 h with rfl | h
        · simp
        · have : ¬ x.born = e.born := fun hx => hnd.1 (by rw [hx]; exact List.mem_map.2 ⟨e, h, rfl⟩)
          have hb : (x.born == e.born) = false := by simpa using this
          rw [hb]
          exact ih h hnd.2
    exact key _ hem d.h.nod
  have hcl : (cl != cl) = false := by simp
  rw [hcl]
  simp only [Bool.false_eq_true, if_false, sp_pure, hf]
  exact ⟨_, _, rfl, by rw [hkey, hval]; exact hk⟩
end
end Go.Proofs.Ytknpmijgdfeliaa.G

/- Clock: plain: bounds that are narrowed. -/
set_option linter.unusedSimpArgs false
set_option linter.unusedVariables false
set_option maxRecDepth 20000
namespace Go.Proofs.Ytknpmijgdfeliaa.G
open Go.V
abbrev BF := Ky → Option Int
def Sat (D : BF) (m : Int → Int) : Prop := ∀ i j v, D (i, j) = some v → m j - m i ≤ v
def Le (D D' : BF) : Prop := ∀ k v, D k = some v → ∃ v', D' k = some v' ∧ v' ≤ v
structure Core (n : Int) (D0 D : BF) : Prop where
  snd : ∀ m, Sat D0 m → Sat D m
  le : Le D0 D
  key : ∀ i j v, D (i, j) = some v → (-1 ≤ i ∧ i < n) ∧ (-1 ≤ j ∧ j < n) ∧ i ≠ j
def Bnd (A : Int) (D : BF) : Prop := ∀ k v, D k = some v → -A ≤ v ∧ v ≤ A
def updF (D : BF) (k : Ky) (v : Int) : BF := fun q => if q = k then some v else D q
theorem Le.refl (D : BF) : Le D D := fun k v h => ⟨v, h, Int.le_refl _⟩
theorem Le.trans {D D' D'' : BF} (h : Le D D') (h' : Le D' D'') : Le D D'' := fun k v hk => by
  obtain ⟨v', h1, h2⟩ := h k v hk
  obtain ⟨v'', h3, h4⟩ := h' k v' h1
  exact ⟨v'', h3, Int.le_trans h4 h2⟩
theorem Le.upd {D : BF} {k : Ky} {v : Int} (h : ∀ w, D k = some w → v ≤ w) : Le D (updF D k v) := fun q w hq => by
  unfold updF
  by_cases e : q = k
  · subst e; exact ⟨v, by rw [if_pos rfl], h w hq⟩
  · exact ⟨w, by rw [if_neg e]; exact hq, Int.le_refl _⟩
theorem get_updF {l : List Pr} {k : Ky} {v : Int} (hn : (l.map (·.1)).Nodup) : get (put l k v) = updF (get l) k v := by
  funext q
  rw [get_put hn]
  rfl
/-! ### How much is left to be narrowed -/
def allK (n : Int) : List Ky := (List.range (n + 1).toNat).flatMap fun (i : Nat) => (List.range (n + 1).toNat).map fun (j : Nat) => (((i : Nat) : Int) - 1, ((j : Nat) : Int) - 1)
theorem mem_allK {n : Int} {k : Ky} (h1 : -1 ≤ k.1 ∧ k.1 < n) (h2 : -1 ≤ k.2 ∧ k.2 < n) : k ∈ allK n := by
  unfold allK
  rw [List.mem_flatMap]
  refine ⟨(k.1 + 1).toNat, by rw [List.mem_range]; omega, ?_⟩
  rw [List.mem_map]
  refine ⟨(k.2 + 1).toNat, by rw [List.mem_range]; omega, ?_⟩
  apply Prod.ext
  · show ((k.1 + 1).toNat : Int) - 1 = k.1; omega
  · show ((k.2 + 1).toNat : Int) - 1 = k.2; omega
theorem sub_len {α : Type} [BEq α] [LawfulBEq α] : ∀ (a b : List α), a.Nodup → (∀ x ∈ a, x ∈ b) → a.length ≤ b.length
  | [], b, _, _ => Nat.zero_le _
  | x :: a, b, hn, h => by
    rw [List.nodup_cons] at hn
    have hx := h x (by simp)
    have ih := sub_len a (b.erase x) hn.2 (fun y hy => by
      have hne : y ≠ x := fun e => hn.1 (e ▸ hy)
      exact (List.mem_erase_of_ne hne).2 (h y (by simp [hy])))
    rw [List.length_erase_of_mem hx] at ih
    have : 0 < b.length := List.length_pos_of_mem hx
    simp
    omega
theorem sum_const {α : Type} (c : Nat) : ∀ l : List α, (l.map fun _ => c).sum = l.length * c
  | [] => by simp
  | x :: l => by
    rw [List.map_cons, List.sum_cons, sum_const c l, List.length_cons, Nat.add_mul]
    omega
theorem allK_len {n : Int} (h : n ≤ 5) : (allK n).length ≤ 36 := by
  unfold allK
  rw [List.length_flatMap]
  simp only [List.length_map, List.length_range]
  rw [sum_const]
  rw [List.length_range]
  have : (n + 1).toNat ≤ 6 := by omega
  exact Nat.mul_le_mul this this
theorem keys_len {n : Int} (h : n ≤ 5) {V : List Ky} (hn : V.Nodup) (hk : ∀ k ∈ V, (-1 ≤ k.1 ∧ k.1 < n) ∧ (-1 ≤ k.2 ∧ k.2 < n)) : V.length ≤ 36 :=
  Nat.le_trans (sub_len V (allK n) hn fun x hx => mem_allK (hk x hx).1 (hk x hx).2) (allK_len h)
/-- Far beyond all numbers that come up. -/
def big : Int := 100000000000000
def wt (D : BF) (k : Ky) : Nat := match D k with | some v => (v + big).toNat | none => (2 * big + 1).toNat
def mu (n : Int) (D : BF) : Nat := ((allK n).map (wt D)).sum
theorem sum_le {α : Type} {f g : α → Nat} : ∀ (l : List α), (∀ x ∈ l, f x ≤ g x) → (l.map f).sum ≤ (l.map g).sum
  | [], _ => Nat.le_refl _
  | x :: l, h => by
    rw [List.map_cons, List.map_cons, List.sum_cons, List.sum_cons]
    have := sum_le l (fun y hy => h y (by simp [hy]))
    have := h x (by simp)
    omega
theorem sum_lt {α : Type} {f g : α → Nat} : ∀ (l : List α), (∀ x ∈ l, f x ≤ g x) → (∃ x ∈ l, f x < g x) → (l.map f).sum < (l.map g).sum
  | [], _, ⟨x, hx, _⟩ => by cases hx
  | x :: l, h, ⟨y, hy, hlt⟩ => by
    rw [List.map_cons, List.map_cons, List.sum_cons, List.sum_cons]
    have h1 := sum_le l (fun y hy => h y (by simp [hy]))
    have h2 := h x (by simp)
    rcases List.mem_cons.1 hy with rfl | hy
    · omega
    · have := sum_lt l (fun y hy => h y (by simp [hy])) ⟨y, hy, hlt⟩
      omega
theorem mu_upd {n : Int} {D : BF} {k : Ky} {v : Int} (hk : (-1 ≤ k.1 ∧ k.1 < n) ∧ (-1 ≤ k.2 ∧ k.2 < n)) (hv : -big < v ∧ v ≤ big) (h : ∀ w, D k = some w → v < w) : mu n (updF D k v) < mu n D := by
  unfold mu
  have hw : wt (updF D k v) k < wt D k := by
    unfold wt updF
    rw [if_pos rfl]
    cases hd : D k with
    | none => simp only; unfold big at *; omega
    | some w => simp only; have := h w hd; unfold big at *; omega
  refine sum_lt _ (fun q _ => ?_) ⟨k, mem_allK hk.1 hk.2, hw⟩
  by_cases e : q = k
  · subst e; omega
  · have : wt (updF D k v) q = wt D q := by unfold wt updF; rw [if_neg e]
    omega
/-! ### Narrowing -/
theorem core_step {n : Int} {D0 D : BF} {i j x v w : Int} (h : Core n D0 D) (hi : D (i, j) = some v) (hj : D (j, x) = some w) (hne : i ≠ x) (hu : ∀ u, D (i, x) = some u → v + w ≤ u) : Core n D0 (updF D (i, x) (v + w)) where
  snd := fun m hm a b u hu => by
    have hs := h.snd m hm
    unfold updF at hu
    by_cases e : (a, b) = (i, x)
    · rw [if_pos e] at hu
      cases e; cases hu
      have h1 := hs i j v hi
      have h2 := hs j x w hj
      omega
    · rw [if_neg e] at hu; exact hs a b u hu
  le := h.le.trans (Le.upd hu)
  key := fun a b u hu => by
    unfold updF at hu
    by_cases e : (a, b) = (i, x)
    · cases e
      exact ⟨(h.key i j v hi).1, (h.key j x w hj).2.1, hne⟩
    · rw [if_neg e] at hu; exact h.key a b u hu
/-- Within a phase: 'D2' is what it began with, 'V' the keys that were looked at. -/
structure PhI (n A x : Int) (D0 D2 D : BF) (V : List Ky) (more0 more : Bool) : Prop where
  core : Core n D0 D
  le : Le D2 D
  col : ∀ i j, j ≠ x → D (i, j) = D2 (i, j)
  bnd : ∀ i v, D (i, x) = some v → -(A * (1 + V.length)) ≤ v ∧ v ≤ A * (1 + V.length)
  bnd2 : Bnd A D2
  up : more0 = true → more = true
  same : more = false → D = D2 ∧ ∀ i j v w, (i, j) ∈ V → i ≠ x → j ≠ x → D (i, j) = some v → D (j, x) = some w → ∃ u, D (i, x) = some u ∧ u ≤ v + w
  reach : x ≠ -1 → ∀ i, (i, -1) ∈ V → i ≠ x → ∃ v, D (i, x) = some v ∧ v ≤ 600
  mle : mu n D ≤ mu n D2
  mlt : more = true → more0 = true ∨ mu n D < mu n D2
theorem PhI.start {n A x : Int} {D0 D : BF} {more : Bool} (hc : Core n D0 D) (hA : 0 ≤ A) (hb : Bnd A D) : PhI n A x D0 D D [] more more where
  core := hc
  le := Le.refl D
  col := fun _ _ _ => rfl
  bnd := fun i v h => by have := hb _ _ h; simpa using this
  bnd2 := hb
  up := fun h => h
  same := fun _ => ⟨rfl, fun i j v w h => by cases h⟩
  reach := fun _ i h => by cases h
  mle := Nat.le_refl _
  mlt := fun h => .inl h
theorem mul_step {A : Int} (hA : 0 ≤ A) (m : Nat) : A * (1 + m) ≤ A * (1 + (m + 1 : Nat)) ∧ A * (1 + (m + 1 : Nat)) = A * (1 + m) + A ∧ A ≤ A * (1 + m) := by
  have e : A * (1 + ((m + 1 : Nat) : Int)) = A * (1 + m) + A := by rw [show (1 + ((m + 1 : Nat) : Int)) = (1 + m) + 1 by omega, Int.mul_add, Int.mul_one]
  have e2 : A * (1 + (m : Int)) = A + A * m := by rw [Int.mul_add, Int.mul_one]
  have e3 : 0 ≤ A * (m : Int) := Int.mul_nonneg hA (by omega)
  exact ⟨by rw [e]; omega, e, by rw [e2]; omega⟩
/-- Nothing to be narrowed at a key. -/
theorem PhI.skip {n A x : Int} {D0 D2 D : BF} {V : List Ky} {more0 more : Bool} {k : Ky} (h : PhI n A x D0 D2 D V more0 more) (hA : 0 ≤ A) (hno : ∀ v w, k.1 ≠ x → k.2 ≠ x → D k = some v → D (k.2, x) = some w → ∃ u, D (k.1, x) = some u ∧ u ≤ v + w) (hr : x ≠ -1 → k.2 = -1 → k.1 ≠ x → ∃ v, D (k.1, x) = some v ∧ v ≤ 600) : PhI n A x D0 D2 D (k :: V) more0 more where
  core := h.core
  le := h.le
  col := h.col
  bnd := fun i v hv => by
    have := h.bnd i v hv
    obtain ⟨h1, _, _⟩ := mul_step hA V.length
    rw [List.length_cons]; omega
  bnd2 := h.bnd2
  up := h.up
  same := fun hm => ⟨(h.same hm).1, fun i j v w hij => by
    rcases List.mem_cons.1 hij with rfl | hij
    · exact hno v w
    · exact (h.same hm).2 i j v w hij⟩
  reach := fun hx i hi hne => by
    rcases List.mem_cons.1 hi with rfl | hi
    · exact hr hx rfl hne
    · exact h.reach hx i hi hne
  mle := h.mle
  mlt := h.mlt
/-- A bound is narrowed. -/
theorem PhI.put {n A x : Int} {D0 D2 D : BF} {V : List Ky} {more0 more : Bool} {i j v w : Int} (h : PhI n A x D0 D2 D V more0 more) (hA : 0 ≤ A) (hlen : V.length ≤ 36) (hbig : A * 40 < big) (hv : D (i, j) = some v) (hw : D (j, x) = some w) (hi : i ≠ x) (hj : j ≠ x) (hlt : ∀ u, D (i, x) = some u → v + w < u)
    (hr : x ≠ -1 → j = -1 → v + w ≤ 600) : PhI n A x D0 D2 (updF D (i, x) (v + w)) ((i, j) :: V) more0 true := by
  have hv2 : -A ≤ v ∧ v ≤ A := h.bnd2 (i, j) v (by rw [← h.col i j hj]; exact hv)
  have hw2 := h.bnd j w hw
  obtain ⟨m1, m2, m3⟩ := mul_step hA V.length
  have hsum : -(A * (1 + (V.length + 1 : Nat))) ≤ v + w ∧ v + w ≤ A * (1 + (V.length + 1 : Nat)) := by rw [m2]; omega
  have hcap : A * (1 + (V.length + 1 : Nat)) ≤ A * 40 := Int.mul_le_mul_of_nonneg_left (by omega) hA
  have hle : Le D (updF D (i, x) (v + w)) := Le.upd fun u hu => Int.le_of_lt (hlt u hu)
  have hk := h.core.key i j v hv
  have hk2 := h.core.key j x w hw
  have hmu : mu n (updF D (i, x) (v + w)) < mu n D := mu_upd ⟨hk.1, hk2.2.1⟩ ⟨by omega, by omega⟩ hlt
  refine ⟨core_step h.core hv hw hi (fun u hu => Int.le_of_lt (hlt u hu)), h.le.trans hle, ?_, ?_, h.bnd2, fun _ => rfl, (fun h => by cases h), ?_, ?_, ?_⟩
  · intro a b hb
    unfold updF
    rw [if_neg (fun e => hb (by cases e; rfl))]
    exact h.col a b hb
  · intro a u hu
    rw [List.length_cons]
    unfold updF at hu
    by_cases e : (a, x) = (i, x)
    · rw [if_pos e] at hu; cases hu; exact hsum
    · rw [if_neg e] at hu
      have := h.bnd a u hu
      omega
  · intro hx a ha hne
    unfold updF
    by_cases e : (a, x) = (i, x)
    · rw [if_pos e]
      refine ⟨v + w, rfl, ?_⟩
      rcases List.mem_cons.1 ha with e1 | ha
      · exact hr hx (by cases e1; rfl)
      · obtain ⟨u, hu, h6⟩ := h.reach hx a ha hne
        have : a = i := by cases e; rfl
        subst this
        have := hlt u hu
        omega
    · rw [if_neg e]
      rcases List.mem_cons.1 ha with e1 | ha
      · exact absurd (by cases e1; rfl) e
      · exact h.reach hx a ha hne
  · have := h.mle; omega
  · refine fun _ => .inr ?_
    have := h.mle
    omega
def Full (n : Int) (D : BF) : Prop := ∀ i j, -1 ≤ i → i < n → -1 ≤ j → j < n → i ≠ j → ∃ v, D (i, j) = some v
def Tri (D : BF) (x : Int) : Prop := ∀ i j v w, i ≠ x → j ≠ x → D (i, j) = some v → D (j, x) = some w → ∃ u, D (i, x) = some u ∧ u ≤ v + w
def Cyc (D : BF) : Prop := ∀ i j v w, D (i, j) = some v → D (j, i) = some w → 0 ≤ v + w
/-- Each event is on the day. -/
def Base (n : Int) (D : BF) : Prop := ∀ i, 0 ≤ i → i < n → (∃ v, D (-1, i) = some v ∧ v ≤ 600) ∧ (∃ v, D (i, -1) = some v ∧ v ≤ 0)
def Reach (n x : Int) (D : BF) : Prop := ∀ i, -1 ≤ i → i < n → i ≠ x → ∃ v, D (i, x) = some v ∧ v ≤ 600
theorem Base.le {n : Int} {D D' : BF} (h : Base n D) (hl : Le D D') : Base n D' := fun i h0 h1 => by
  obtain ⟨⟨v, a, b⟩, ⟨w, c, d⟩⟩ := h i h0 h1
  obtain ⟨v', a', b'⟩ := hl _ _ a
  obtain ⟨w', c', d'⟩ := hl _ _ c
  exact ⟨⟨v', a', by omega⟩, ⟨w', c', by omega⟩⟩
theorem Reach.le {n x : Int} {D D' : BF} (h : Reach n x D) (hl : Le D D') : Reach n x D' := fun i h0 h1 h2 => by
  obtain ⟨v, a, b⟩ := h i h0 h1 h2
  obtain ⟨v', a', b'⟩ := hl _ _ a
  exact ⟨v', a', by omega⟩
/-- Between phases of a pass: 'D1' is what it began with. -/
structure PaI (n x : Int) (D0 D1 D : BF) (more : Bool) : Prop where
  core : Core n D0 D
  le : Le D1 D
  bnd : Bnd (3000 * 37 ^ (x + 1).toNat) D
  same : more = false → D = D1 ∧ ∀ y, -1 ≤ y → y < x → Tri D y
  reach : ∀ y, -1 ≤ y → y < x → Reach n y D
  mle : mu n D ≤ mu n D1
  mlt : more = true → mu n D < mu n D1
theorem PaI.phase {n x : Int} {D0 D1 D2 D : BF} {V : List Ky} {more0 more : Bool} (h : PaI n x D0 D1 D2 more0) (hb : Base n D0) (hx0 : -1 ≤ x) (hx : x < n) (hn : n ≤ 5) (hi : PhI n (3000 * 37 ^ (x + 1).toNat) x D0 D2 D V more0 more) (hV : ∀ k, (D2 k).isSome = true → k ∈ V) (hlen : V.length ≤ 36) : PaI n (x + 1) D0 D1 D more where
  core := hi.core
  le := h.le.trans hi.le
  bnd := fun k v hk => by
    have hp : (3000 : Int) * 37 ^ (x + 1 + 1).toNat = (3000 * 37 ^ (x + 1).toNat) * 37 := by
      rw [show (x + 1 + 1).toNat = (x + 1).toNat + 1 by omega, Int.pow_succ, Int.mul_assoc]
    have hpos : (0 : Int) ≤ 3000 * 37 ^ (x + 1).toNat := Int.mul_nonneg (by omega) (Int.pow_nonneg (by omega))
    rw [hp]
    generalize (3000 : Int) * 37 ^ (x + 1).toNat = A at *
    obtain ⟨i, j⟩ := k
    by_cases e : j = x
    · subst e
      have := hi.bnd i v hk
      have hcap : A * (1 + V.length) ≤ A * 37 := Int.mul_le_mul_of_nonneg_left (by omega) hpos
      omega
    · rw [hi.col i j e] at hk
      have := hi.bnd2 _ _ hk
      omega
  same := fun hm => by
    obtain ⟨e1, e2⟩ := hi.same hm
    have hm0 : more0 = false := by cases h0 : more0 with
      | false => rfl
      | true => have := hi.up h0; rw [hm] at this; cases this
    obtain ⟨e3, e4⟩ := h.same hm0
    refine ⟨e1.trans e3, fun y h0 h1 => ?_⟩
    by_cases e : y = x
    · subst e
      intro i j v w hi' hj hv hw
      exact e2 i j v w (hV _ (by rw [← e1, hv]; rfl)) hi' hj hv hw
    · rw [e1]; exact e4 y h0 (by omega)
  reach := fun y h0 h1 => by
    by_cases e : y = x
    · subst e
      intro i g0 g1 g2
      have hbD := hb.le hi.core.le
      have hb2 := hb.le h.core.le
      by_cases hy : y = -1
      · obtain ⟨_, v, a, b⟩ := hbD i (by omega) g1
        subst hy
        exact ⟨v, a, by omega⟩
      · by_cases hi1 : i = -1
        · subst hi1
          obtain ⟨⟨v, a, b⟩, _⟩ := hbD y (by omega) hx
          exact ⟨v, a, b⟩
        · obtain ⟨_, v, a, b⟩ := hb2 i (by omega) g1
          exact hi.reach hy i (hV _ (by rw [a]; rfl)) g2
    · exact (h.reach y h0 (by omega)).le hi.le
  mle := Nat.le_trans hi.mle h.mle
  mlt := fun hm => by
    rcases hi.mlt hm with h1 | h1
    · have := h.mlt h1; have := hi.mle; omega
    · have := h.mle; omega
theorem PaI.start {n : Int} {D0 D : BF} (hc : Core n D0 D) (hb : Bnd 3000 D) : PaI n (-1) D0 D D false where
  core := hc
  le := Le.refl D
  bnd := by simpa using hb
  same := fun _ => ⟨rfl, fun y h0 h1 => by omega⟩
  reach := fun y h0 h1 => by omega
  mle := Nat.le_refl _
  mlt := fun h => by cases h
/-- What is so ahead of each pass. -/
structure HdI (n : Int) (D0 D : BF) (more : Bool) : Prop where
  core : Core n D0 D
  bnd : Bnd 3000 D
  done : more = false → (∀ x, -1 ≤ x → x < n → Tri D x ∧ Reach n x D) ∧ Cyc D
theorem PaI.head {n : Int} {D0 D1 D : BF} {more : Bool} (hn : 0 ≤ n) (h : PaI n n D0 D1 D more) (hc : Cyc D) : HdI n D0 D more where
  core := h.core
  bnd := fun k v hk => by
    obtain ⟨i, j⟩ := k
    obtain ⟨h1, h2, h3⟩ := h.core.key i j v hk
    obtain ⟨u, hu, h4⟩ := h.reach j h2.1 h2.2 i h1.1 h1.2 h3
    obtain ⟨w, hw, h5⟩ := h.reach i h1.1 h1.2 j h2.1 h2.2 (Ne.symm h3)
    have := hc i j v w hk hw
    rw [hk] at hu
    cases hu
    omega
  done := fun hm => ⟨fun x h0 h1 => ⟨(h.same hm).2 x h0 h1, h.reach x h0 h1⟩, hc⟩
/-- What narrow bounds are. -/
structure Tight (n : Int) (D0 D : BF) : Prop where
  sat : ∀ m, Sat D0 m ↔ Sat D m
  key : ∀ i j v, D (i, j) = some v → (-1 ≤ i ∧ i < n) ∧ (-1 ≤ j ∧ j < n) ∧ i ≠ j
  has : ∀ i j, -1 ≤ i → i < n → -1 ≤ j → j < n → i ≠ j → ∃ v, D (i, j) = some v ∧ -3000 ≤ v ∧ v ≤ 3000
  tri : ∀ i j x v w u, i ≠ x → j ≠ x → D (i, j) = some v → D (j, x) = some w → D (i, x) = some u → u ≤ v + w
  cyc : Cyc D
theorem HdI.tight {n : Int} {D0 D : BF} (h : HdI n D0 D false) : Tight n D0 D where
  sat := fun m => ⟨h.core.snd m, fun hm i j v hv => by
    obtain ⟨v', h1, h2⟩ := h.core.le _ _ hv
    have := hm i j v' h1
    omega⟩
  key := h.core.key
  has := fun i j a b c d e => by
    obtain ⟨v, h1, h2⟩ := ((h.done rfl).1 j c d).2 i a b e
    exact ⟨v, h1, h.bnd _ _ h1⟩
  tri := fun i j x v w u hi hj hv hw hu => by
    have hk := h.core.key _ _ _ hw
    obtain ⟨u', h1, h2⟩ := ((h.done rfl).1 x hk.2.1.1 hk.2.1.2).1 i j v w hi hj hv hw
    rw [hu] at h1; cases h1; exact h2
  cyc := (h.done rfl).2
theorem Cyc.no {n : Int} {D0 D : BF} (h : Core n D0 D) {i j v w : Int} (hv : D (i, j) = some v) (hw : D (j, i) = some w) (hlt : v + w < 0) : ¬ ∃ m, Sat D0 m := fun ⟨m, hm⟩ => by
  have h1 := h.snd m hm i j v hv
  have h2 := h.snd m hm j i w hw
  omega
/-- Each bound is reached. -/
theorem Tight.at {n : Int} {D0 D : BF} (h : Tight n D0 D) {a b v : Int} (hv : D (a, b) = some v) : ∃ m, Sat D0 m ∧ m (-1) = 0 ∧ m b - m a = v := by
  have hk := h.key a b v hv
  let d : Int → Int := fun j => if j = a then 0 else (D (a, j)).getD 0
  have hd : ∀ j, j ≠ a → -1 ≤ j → j < n → D (a, j) = some (d j) := fun j h0 h1 h2 => by
    obtain ⟨u, hu, _⟩ := h.has a j hk.1.1 hk.1.2 h1 h2 (Ne.symm h0)
    show D (a, j) = some (if j = a then 0 else (D (a, j)).getD 0)
    rw [if_neg h0, hu]; rfl
  have hda : d a = 0 := if_pos rfl
  have hsat : ∀ c, Sat D (fun j => d j - c) := fun c i j u hu => by
    show d j - c - (d i - c) ≤ u
    have kk := h.key i j u hu
    by_cases e1 : i = a
    · subst e1
      rw [hda]
      have := hd j (Ne.symm kk.2.2) kk.2.1.1 kk.2.1.2
      rw [hu] at this
      cases this
      omega
    · have h1 := hd i e1 kk.1.1 kk.1.2
      by_cases e2 : j = a
      · subst e2
        rw [hda]
        have := h.cyc _ _ _ _ hu h1
        omega
      · have h2 := hd j e2 kk.2.1.1 kk.2.1.2
        have := h.tri a i j _ _ _ (Ne.symm e2) kk.2.2 h1 hu h2
        omega
  refine ⟨fun j => d j - d (-1), (h.sat _).2 (hsat _), by show d (-1) - d (-1) = 0; omega, ?_⟩
  show d b - d (-1) - (d a - d (-1)) = v
  rw [hda]
  have := hd b (Ne.symm hk.2.2) hk.2.1.1 hk.2.1.2
  rw [hv] at this
  cases this
  omega
theorem Tight.some {n : Int} {D0 D : BF} (h : Tight n D0 D) (hn : 0 ≤ n) : ∃ m, Sat D0 m ∧ m (-1) = 0 := by
  by_cases e : n = 0
  · subst e
    refine ⟨fun _ => 0, (h.sat _).2 fun i j v hv => ?_, rfl⟩
    have := h.key i j v hv
    omega
  · obtain ⟨v, hv, _⟩ := h.has (-1) 0 (by omega) (by omega) (by omega) (by omega) (by omega)
    obtain ⟨m, h1, h2, _⟩ := h.at hv
    exact ⟨m, h1, h2⟩
end Go.Proofs.Ytknpmijgdfeliaa.G

/- Clock: what is told; what is asked of numbers; what is put. -/
set_option linter.unusedSimpArgs false
set_option linter.unusedVariables false
set_option maxRecDepth 20000
namespace Go.Proofs.Ytknpmijgdfeliaa.G
open Go.V
/-- A panic that tells an error. -/
def pn (e : Int) : List PanicEntry := [{ v := .iface 101 (.agg #[.int .i64 e]), recovered := false }]
theorem zc_101 : zc Pg 101 = [.int .i64 0] := by kernel_rfl
theorem zc_34 : zc Pg 34 = [.int .i64 0, .int .i64 0] := by kernel_rfl
theorem zc_4 : zc Pg 4 = [.bool false] := by kernel_rfl
theorem zc_29 : zc Pg 29 = [.int .i64 0] := by kernel_rfl
theorem vf_caught_none (W : World) (a : Addr) (R : Ending → Hp → Prop) : vfun Pg W (fun _ => {}) Try.f35 [.nilIface, .pointer (some a)] R = R (.returned (.tuple #[])) := by kernel_rfl
theorem vf_caught_some (W : World) (a : Addr) (e : Int) (R : Ending → Hp → Prop) : vfun Pg W (fun _ => {}) Try.f35 [.iface 101 (.agg #[.int .i64 e]), .pointer (some a)] R =
    NEWZ Pg 101 fun B => WR (Addr.add ⟨B, 0, none⟩ 0) (.int .i64 e) <| RDI .i64 (Addr.add ⟨B, 0, none⟩ 0) fun n => WR (Addr.add a 0) (.int .i64 n) <| R (.returned (.tuple #[])) := by kernel_rfl
theorem ext_35 : isExt Pg 35 = false := by kernel_rfl
theorem ty_0 (K : Hp → Prop) : tyR Pg 0 (.tuple #[]) (fun _ => K) = K := by kernel_rfl
section
variable {W : World} {K : Hp → Prop} {s : Hp}
theorem caught_none {a : Addr} {K : VK} {E : List PanicEntry → Hp → Prop} (h : K (.tuple #[]) s) : CALL Pg W 35 [.nilIface, .pointer (some a)] K E s := by
  refine does_of_vfun Pg W (fun _ => {}) Try.func35 rfl (by kernel_rfl) ?_
  rw [vf_caught_none]
  exact h
theorem caught_some {a : Addr} {e : Int} {x : Value} {K : VK} {E : List PanicEntry → Hp → Prop} (ho : Own s a x) (h : ∀ s', Kp (· = a.block) s s' → Own s' a (.int .i64 e) → K (.tuple #[]) s') : CALL Pg W 35 [.iface 101 (.agg #[.int .i64 e]), .pointer (some a)] K E s := by
  refine does_of_vfun Pg W (fun _ => {}) Try.func35 rfl (by kernel_rfl) ?_
  rw [vf_caught_some]
  unfold NEWZ
  rw [zc_101]
  refine WR_own (own_new (i := 0) rfl) rfl ⟨_, own_cell (own_set (own_new (i := 0) rfl)), ?_⟩
  generalize hs1 : s.push (.cells [Value.int .i64 0].toArray 101 (0, 0)) = s1
  have e1 : Ext s s1 := by rw [← hs1]; exact Ext.push (Ext.refl _)
  have hlt := ho.lt
  have o2 : Own (setC s1 (Addr.add ⟨s.size, 0, none⟩ 0) (.int .i64 e)) a x := own_set_ne (.inl (by show a.block ≠ s.size; omega)) (e1.own ho)
  refine WR_own o2 rfl (h _ ?_ (own_set o2))
  exact Kp.setC (Kp.setC e1.kp (.inr (Nat.le_refl _))) (.inl rfl)
/-- The functions that tell what was caught. -/
def isTold (f : FuncId) : Prop := f = 34 ∨ f = 41 ∨ f = 45 ∨ f = 51 ∨ f = 53 ∨ f = 58
theorem told_any {f : FuncId} {a1 : Value} {rec : Option (List PanicEntry)} {v : Value} (hf : isTold f) (hrec : (rec = none ∧ v = .nilIface) ∨ (rec = some [{ v := v, recovered := false }]))
    (h : CALL Pg W 35 [v, a1] (fun v => tyR Pg 0 v fun _ => K) (fun _ => FF) s) : DoesD Pg W f [a1] rec s K := by
  rcases hf with rfl | rfl | rfl | rfl | rfl | rfl
  · exact told2_ok (id := 0) (d := 1) (d2 := 2) (ty := 20) (ty2 := 0) (pos := "clock.go:356") (pos2 := "clock.go:356") (ats := #[20, 75]) (aft := #[{ on := 0, ground := Go.Ground.data }, { on := 0, ground := Go.Ground.chain }]) Try.func34 (by kernel_rfl) (by kernel_rfl) (by kernel_rfl) (show 1 < 3 by decide) (show 0 < 3 by decide) (by decide) ext_35 hrec h
  · exact told2_ok (id := 0) (d := 1) (d2 := 2) (ty := 20) (ty2 := 0) (pos := "clock.go:337") (pos2 := "clock.go:337") (ats := #[20, 75]) (aft := #[{ on := 0, ground := Go.Ground.data }, { on := 0, ground := Go.Ground.chain }]) Try.func41 (by kernel_rfl) (by kernel_rfl) (by kernel_rfl) (show 1 < 3 by decide) (show 0 < 3 by decide) (by decide) ext_35 hrec h
  · exact told2_ok (id := 0) (d := 1) (d2 := 2) (ty := 20) (ty2 := 0) (pos := "clock.go:291") (pos2 := "clock.go:291") (ats := #[20, 75]) (aft := #[{ on := 0, ground := Go.Ground.data }, { on := 0, ground := Go.Ground.chain }]) Try.func45 (by kernel_rfl) (by kernel_rfl) (by kernel_rfl) (show 1 < 3 by decide) (show 0 < 3 by decide) (by decide) ext_35 hrec h
  · exact told2_ok (id := 0) (d := 1) (d2 := 2) (ty := 20) (ty2 := 0) (pos := "clock.go:298") (pos2 := "clock.go:298") (ats := #[20, 75]) (aft := #[{ on := 0, ground := Go.Ground.data }, { on := 0, ground := Go.Ground.chain }]) Try.func51 (by kernel_rfl) (by kernel_rfl) (by kernel_rfl) (show 1 < 3 by decide) (show 0 < 3 by decide) (by decide) ext_35 hrec h
  · exact told2_ok (id := 0) (d := 1) (d2 := 2) (ty := 20) (ty2 := 0) (pos := "clock.go:327") (pos2 := "clock.go:327") (ats := #[20, 75]) (aft := #[{ on := 0, ground := Go.Ground.data }, { on := 0, ground := Go.Ground.chain }]) Try.func53 (by kernel_rfl) (by kernel_rfl) (by kernel_rfl) (show 1 < 3 by decide) (show 0 < 3 by decide) (by decide) ext_35 hrec h
  · exact told2_ok (id := 0) (d := 1) (d2 := 2) (ty := 20) (ty2 := 0) (pos := "clock.go:317") (pos2 := "clock.go:317") (ats := #[20, 75]) (aft := #[{ on := 0, ground := Go.Ground.data }, { on := 0, ground := Go.Ground.chain }]) Try.func58 (by kernel_rfl) (by kernel_rfl) (by kernel_rfl) (show 1 < 3 by decide) (show 0 < 3 by decide) (by decide) ext_35 hrec h
theorem def_none {f : FuncId} {a : Addr} (hf : isTold f) (h : K s) : DEF Pg W (.tuple #[.func (.func f) #[] #[.pointer (some a)], .tuple #[]]) none K s := by
  show DoesD Pg W f [.pointer (some a)] none s K
  refine told_any hf (.inl ⟨rfl, rfl⟩) (caught_none ?_)
  rw [ty_0]; exact h
theorem def_some {f : FuncId} {a : Addr} {e : Int} {x : Value} (hf : isTold f) (ho : Own s a x) (h : ∀ s', Kp (· = a.block) s s' → Own s' a (.int .i64 e) → K s') : DEF Pg W (.tuple #[.func (.func f) #[] #[.pointer (some a)], .tuple #[]]) (some (pn e)) K s := by
  show DoesD Pg W f [.pointer (some a)] (some (pn e)) s K
  refine told_any (v := .iface 101 (.agg #[.int .i64 e])) hf (.inr rfl) (caught_some ho fun s' k o => ?_)
  rw [ty_0]; exact h s' k o
end
section
variable {W : World} {K : VK} {E : List PanicEntry → Hp → Prop} {s : Hp}
theorem c_within {a b c : Int} (h : K (.bool (decide (b ≤ a ∧ a ≤ c))) s) : CALL Pg W F_clock_within [.int .i64 a, .int .i64 b, .int .i64 c] K E s := by
  refine does_clock_within W a b c _ s ?_
  unfold T_clock_within
  refine BR_dec (fun h1 => ?_) (fun h1 => ?_)
  · have : decide (b ≤ a ∧ a ≤ c) = decide (a ≤ c) := by simp [h1]
    rw [← this]; exact h
  · have : decide (b ≤ a ∧ a ≤ c) = false := by simp [h1]
    rw [← this]; exact h
theorem c_need {b : Bool} {e : Int} (h1 : b = true → K (.tuple #[]) s) (h2 : b = false → E (pn e) s) : CALL Pg W F_clock_need [.bool b, .int .i64 e] K E s := by
  refine does_clock_need W b e _ s ?_
  unfold T_clock_need
  exact BR_not (fun h => h2 h) (fun h => h1 h)
variable {r : Nat} {l : List Pr}
theorem c_put {k : Ky} {v : Int} (hm : MapL s r l) (h1 : ∀ s' old, get l k = some old → old ≤ v → Ext s s' → K (.bool false) s')
    (h2 : ∀ s', (∀ old, get l k = some old → v < old) → Kp (· = r) s s' → MapL s' r (put l k v) → (∀ it K0 V, it ≠ r → ItM s r it K0 l V → ItM s' r it K0 (put l k v) V) → K (.bool true) s') : CALL Pg W F_clock_bounds_put [.map (some r), .agg #[.int .i64 k.1, .int .i64 k.2], .int .i64 v] K E s := by
  refine does_clock_bounds_put W (some r) k.1 k.2 v _ s ?_
  unfold T_clock_bounds_put
  refine ne2 fun s1 e1 z1 o1 o2 => ?_
  refine ⟨_, o1.cell, ⟨_, o2.cell, ?_⟩⟩
  refine lkp_ok (k := k) (hm.ext e1) ?_
  try simp only [TUP_mk, AGG_mk, HD_mk, NL_mk, TYI_mk, TYB_mk, TYP_mk, TYL_mk, TYS_mk, TYM_mk, SO_mk, NX_mk, endK_mk, endK_mk', add_0]
  have hput : (∀ old, get l k = some old → v < old) → RDI .i64 (Addr.add ⟨s.size, 0, none⟩ 0) (fun n16 => RDI .i64 (Addr.add ⟨s.size, 0, none⟩ 1) fun n17 => MUP Pg 93 (.map (some r)) (.agg #[(.int .i64 n16), (.int .i64 n17)]) (.int .i64 v) <| K (.bool true)) s1 := by
    intro hn
    refine ⟨_, o1.cell, ⟨_, o2.cell, ?_⟩⟩
    refine mup_put (k := k) (hm.ext e1) fun s2 k2 z2 m2 i2 => h2 s2 hn (e1.kp.trans k2) m2 fun it K0 V hne hi => i2 it K0 V hne (hi.ext e1)
  cases hg : get l k with
  | none =>
    refine BR_ff rfl ?_
    exact hput (fun old h => by rw [hg] at h; cases h)
  | some old =>
    refine BR_tt rfl ?_
    refine BR_dec (fun hle => h1 s1 old hg hle e1) (fun hle => hput fun o ho => by rw [hg] at ho; cases ho; exact Int.not_le.1 hle)
end
end Go.Proofs.Ytknpmijgdfeliaa.G

/- Clock: bounds are narrowed. -/
set_option linter.unusedSimpArgs false
set_option linter.unusedVariables false
set_option maxRecDepth 20000
namespace Go.Proofs.Ytknpmijgdfeliaa.G
open Go.V
theorem pow_37 {k : Nat} (h : k ≤ 6) : (1 : Int) ≤ 37 ^ k ∧ (37 : Int) ^ k ≤ 2565726409 := by
  have : k = 0 ∨ k = 1 ∨ k = 2 ∨ k = 3 ∨ k = 4 ∨ k = 5 ∨ k = 6 := by omega
  rcases this with rfl | rfl | rfl | rfl | rfl | rfl | rfl <;> decide
theorem kp_or {r it : Nat} {s t u : Hp} (k : Kp (· = r) s t) (h : s.size ≤ it) (k' : Kp (fun b => b = r ∨ b = it) t u) : Kp (· = r) s u := ⟨Nat.le_trans k.1 k'.1, fun b hb hc => by
  rw [k'.2 b (Nat.lt_of_lt_of_le hb k.1) (by omega), k.2 b hb hc]⟩
theorem keys_get {l : List Pr} (hn : (l.map (·.1)).Nodup) {k : Ky} : k ∈ l.map (·.1) ↔ (get l k).isSome = true := by
  constructor
  · intro h
    obtain ⟨x, hx, rfl⟩ := List.mem_map.1 h
    rw [(get_mem hn).2 (show (x.1, x.2) ∈ l from hx)]; rfl
  · intro h
    cases hg : get l k with
    | none => rw [hg] at h; cases h
    | some v => exact List.mem_map.2 ⟨_, (get_mem hn).1 hg, rfl⟩
section
variable {W : World} {K : VK} {E : List PanicEntry → Hp → Prop} {s : Hp} {r : Nat} {l0 : List Pr}
theorem c_tight {n : Int} (hm : MapL s r l0) (hn0 : 0 ≤ n) (hn5 : n ≤ 5) (hkey : ∀ i j v, get l0 (i, j) = some v → (-1 ≤ i ∧ i < n) ∧ (-1 ≤ j ∧ j < n) ∧ i ≠ j) (hb : Base n (get l0)) (hbnd : Bnd 3000 (get l0))
    (h0 : ∀ s', Kp (· = r) s s' → (¬ ∃ m, Sat (get l0) m) → K (.bool false) s')
    (h1 : ∀ s' l, Kp (· = r) s s' → MapL s' r l → Tight n (get l0) (get l) → K (.bool true) s') : CALL Pg W F_clock_bounds_tight [.map (some r), .int .i64 n] K E s := by
  refine does_clock_bounds_tight W (some r) n _ s ?_
  unfold T_clock_bounds_tight
  refine L_clock_bounds_tight_0_rule W _ (some r) n (fun b3 b4 t => ∃ l, Kp (· = r) s t ∧ MapL t r l ∧ HdI n (get l0) (get l) b4) (fun b3 b4 t => 2 * mu n (get (mapOf t r)) + b4.toNat) false true s
    ⟨l0, Kp.refl _, hm, ⟨⟨fun m h => h, Le.refl _, hkey⟩, hbnd, (fun h => by cases h)⟩⟩ ?_
  rintro b3 b4 t ⟨l1, k1, m1, hd⟩
  unfold B_clock_bounds_tight_0
  refine BR_bool (fun hb4 => ?_) (fun hb4 => ?_)
  rotate_left
  · subst hb4
    exact h1 t l1 k1 m1 hd.tight
  subst hb4
  generalize hnx0 : (fun vs => N_clock_bounds_tight_0 _ _ b3 true t vs) = nx0
  refine L_clock_bounds_tight_1_rule W _ nx0 (some r) n b3 (fun b5 x u => -1 ≤ x ∧ x ≤ n ∧ ∃ l, Kp (· = r) t u ∧ MapL u r l ∧ PaI n x (get l0) (get l1) (get l) b5) (fun b5 x u => (n - x).toNat) false (-1) t
    ⟨by omega, by omega, l1, Kp.refl _, m1, PaI.start hd.core hd.bnd⟩ ?_
  rintro b5 x u ⟨hx0, hxn, l2, k2, m2, pa⟩
  unfold B_clock_bounds_tight_1
  have hkeys2 := m2.keys
  refine BR_dec (fun hlt => ?_) (fun hge => ?_)
  · generalize hnx1 : (fun vs => N_clock_bounds_tight_1 _ _ b5 x u vs) = nx1
    refine rnm_map m2 fun u1 e1 z1 it1 => ?_
    have hru : r < u.size := m2.lt
    have hpw := pow_37 (k := (x + 1).toNat) (by omega)
    have hA : (0 : Int) ≤ 3000 * 37 ^ (x + 1).toNat ∧ (3000 : Int) * 37 ^ (x + 1).toNat * 40 < big := by
      have hp5 := pow_37 (k := 5) (by omega)
      have : (37 : Int) ^ (x + 1).toNat ≤ 37 ^ 5 := by
        have : (x + 1).toNat = 0 ∨ (x + 1).toNat = 1 ∨ (x + 1).toNat = 2 ∨ (x + 1).toNat = 3 ∨ (x + 1).toNat = 4 ∨ (x + 1).toNat = 5 := by omega
        rcases this with e | e | e | e | e | e <;> rw [e] <;> decide
      unfold big
      omega
    have hpa := pa.bnd
    have hphase : ∀ {D : BF} {V : List Ky} {more : Bool}, PhI n (3000 * 37 ^ (x + 1).toNat) x (get l0) (get l2) D V b5 more → (∀ k, (get l2 k).isSome = true → k ∈ V) → V.length ≤ 36 → PaI n (x + 1) (get l0) (get l1) D more := fun hi hV hlen => pa.phase hb hx0 hlt hn5 hi hV hlen
    have hst := PhI.start (more := b5) (x := x) pa.core hA.1 hpa
    generalize (3000 : Int) * 37 ^ (x + 1).toNat = A at hA hpa hphase hst
    refine L_clock_bounds_tight_2_rule W _ nx0 nx1 (some r) n b3 x ⟨u.size, 0, none⟩ (fun b9 w => ∃ l V, Kp (fun b => b = r ∨ b = u.size) u1 w ∧ ItM w r u.size (l2.map (·.1)) l V ∧ PhI n A x (get l0) (get l2) (get l) V b5 b9) (fun b9 w => 37 - seenN w u.size) b5 u1
      ⟨l2, [], Kp.refl _, it1, hst⟩ ?_
    rintro b9 w ⟨l, V, k3, it3, ph⟩
    unfold B_clock_bounds_tight_2
    have hkl := it3.map.keys
    have hVk : V.length ≤ 36 := keys_len hn5 it3.nod.1 fun k hk => by
      have := it3.nod.2 k hk
      cases hg : get l k with
      | none => rw [hg] at this; cases this
      | some v => have := ph.core.key k.1 k.2 v hg; exact ⟨this.1, this.2.1⟩
    refine nxm_map it3 (by omega) (fun hall => ?_) fun k v w1 hkV hg k4 z4 it4 => ?_
    · try simp only [TUP_mk, AGG_mk, HD_mk, NL_mk, TYI_mk, TYB_mk, TYP_mk, TYL_mk, TYS_mk, TYM_mk, SO_mk, NX_mk, endK_mk, endK_mk', add_0]
      subst hnx1
      refine ⟨_, _, rfl, ⟨?_, ?_, l, ?_, it3.map, ?_⟩, ?_⟩
      · rw [wrap_i64 (by omega) (by omega)]; omega
      · rw [wrap_i64 (by omega) (by omega)]; omega
      · exact kp_or (k2.ext e1) (k2.1) k3
      · rw [wrap_i64 (by omega) (by omega)]
        exact hphase ph (fun q hq => hall q ((keys_get hkeys2).2 hq)) hVk
      · rw [wrap_i64 (by omega) (by omega)]
        show (n - (x + 1)).toNat < (n - x).toNat
        omega
    · refine ent_map it4 ?_
      unfold keyV
      try simp only [TUP_mk, AGG_mk, HD_mk, NL_mk, TYI_mk, TYB_mk, TYP_mk, TYL_mk, TYS_mk, TYM_mk, SO_mk, NX_mk, endK_mk, endK_mk', add_0]
      have hlen' : (k :: V).length = V.length + 1 := rfl
      refine nw2 zc_111 rfl rfl fun w2 e2 z2 o1 o2 => ?_
      refine ⟨_, o2.cell, ?_⟩
      have it5 := it4.it.ext e2
      have k5 : Kp (fun b => b = r ∨ b = u.size) u1 w2 := (k3.trans (k4.mono fun b hb => .inr hb)).ext e2
      have hsn : seenN w2 u.size = V.length + 1 := it5.seen
      have hsn0 : seenN w u.size = V.length := it3.seen
      have hcore := ph.core.key k.1 k.2 v hg
      have hbD := hb.le ph.core.le
      have skip : (∀ v' w', k.1 ≠ x → k.2 ≠ x → get l k = some v' → get l (k.2, x) = some w' → ∃ u', get l (k.1, x) = some u' ∧ u' ≤ v' + w') → (x ≠ -1 → k.2 = -1 → k.1 ≠ x → ∃ v', get l (k.1, x) = some v' ∧ v' ≤ 600) → ∀ w3, Ext w2 w3 →
          N_clock_bounds_tight_2 (fun b9 w => ∃ l V, Kp (fun b => b = r ∨ b = u.size) u1 w ∧ ItM w r u.size (l2.map (·.1)) l V ∧ PhI n A x (get l0) (get l2) (get l) V b5 b9) (fun b9 w => 37 - seenN w u.size) b9 w [Value.bool b9] w3 := fun hno hr w3 e3 => by
        have it6 := it5.ext e3
        refine ⟨_, rfl, ⟨l, k :: V, k5.ext e3, it6, ph.skip hA.1 hno hr⟩, ?_⟩
        have := it6.seen
        show 37 - seenN w3 u.size < 37 - seenN w u.size
        omega
      have hr1 : x ≠ -1 → (get l (-1, x)).isSome = true := fun h => by
        obtain ⟨⟨v', h1, _⟩, _⟩ := hbD x (by omega) hlt
        rw [h1]; rfl
      refine lkp_ok (k := (k.2, x)) it5.map ?_
      try simp only [TUP_mk, AGG_mk, HD_mk, NL_mk, TYI_mk, TYB_mk, TYP_mk, TYL_mk, TYS_mk, TYM_mk, SO_mk, NX_mk, endK_mk, endK_mk', add_0]
      cases hw : get l (k.2, x) with
      | none =>
        refine BR_ff rfl ?_
        unfold J_clock_bounds_tight_1
        rw [BR_f]
        unfold J_clock_bounds_tight_0
        rw [BR_f]
        try simp only [TUP_mk, AGG_mk, HD_mk, NL_mk, TYI_mk, TYB_mk, TYP_mk, TYL_mk, TYS_mk, TYM_mk, SO_mk, NX_mk, endK_mk, endK_mk', add_0]
        exact skip (fun v' w' _ _ _ hw' => by rw [hw] at hw'; cases hw') (fun hx hk2 _ => by have := hr1 hx; rw [hk2] at hw; rw [hw] at this; cases this) w2 (Ext.refl _)
      | some nw =>
        refine BR_tt rfl ⟨_, o1.cell, ?_⟩
        unfold J_clock_bounds_tight_1
        refine BR_ne (fun hk1 => ?_) (fun hk1 => ?_)
        rotate_left
        · unfold J_clock_bounds_tight_0
          rw [BR_f]
          try simp only [TUP_mk, AGG_mk, HD_mk, NL_mk, TYI_mk, TYB_mk, TYP_mk, TYL_mk, TYS_mk, TYM_mk, SO_mk, NX_mk, endK_mk, endK_mk', add_0]
          exact skip (fun v' w' h _ _ _ => absurd hk1 h) (fun _ _ h => absurd hk1 h) w2 (Ext.refl _)
        refine ⟨_, o2.cell, ?_⟩
        unfold J_clock_bounds_tight_0
        refine BR_ne (fun hk2 => ?_) (fun hk2 => ?_)
        rotate_left
        · try simp only [TUP_mk, AGG_mk, HD_mk, NL_mk, TYI_mk, TYB_mk, TYP_mk, TYL_mk, TYS_mk, TYM_mk, SO_mk, NX_mk, endK_mk, endK_mk', add_0]
          exact skip (fun v' w' _ h _ _ => absurd hk2 h) (fun hx hk _ => by omega) w2 (Ext.refl _)
        refine ⟨_, o1.cell, ?_⟩
        have hv2 : -A ≤ v ∧ v ≤ A := by
          have := ph.bnd2 (k.1, k.2) v (by rw [← ph.col k.1 k.2 hk2]; exact hg)
          exact this
        have hw2 := ph.bnd k.2 nw hw
        have hcap : A * (1 + V.length) ≤ A * 40 := Int.mul_le_mul_of_nonneg_left (by omega) hA.1
        have hwr : IntKind.i64.wrap (v + (some nw).getD 0) = v + nw := by
          show IntKind.i64.wrap (v + nw) = _
          have := hA.2
          unfold big at this
          exact wrap_i64 (by omega) (by omega)
        rw [hwr]
        have h600 : x ≠ -1 → k.2 = -1 → v + nw ≤ 600 := fun hx hk => by
          obtain ⟨⟨v', a1, a2⟩, _⟩ := hbD x (by omega) hlt
          obtain ⟨_, v'', a3, a4⟩ := hbD k.1 (by omega) hcore.1.2
          have e1 : get l (k.1, -1) = some v := by rw [← hk]; exact hg
          rw [hk] at hw
          rw [hw] at a1; cases a1
          rw [e1] at a3; cases a3
          omega
        refine c_put (k := (k.1, x)) it5.map (fun w3 old ho hle e3 => ?_) (fun w3 ho k6 m6 i6 => ?_)
        · try simp only [TUP_mk, AGG_mk, HD_mk, NL_mk, TYI_mk, TYB_mk, TYP_mk, TYL_mk, TYS_mk, TYM_mk, SO_mk, NX_mk, endK_mk, endK_mk', add_0]
          refine BR_ff rfl ?_
          try simp only [TUP_mk, AGG_mk, HD_mk, NL_mk, TYI_mk, TYB_mk, TYP_mk, TYL_mk, TYS_mk, TYM_mk, SO_mk, NX_mk, endK_mk, endK_mk', add_0]
          exact skip (fun v' w' _ _ hv' hw' => ⟨old, ho, by rw [hw] at hw'; cases hw'; rw [hg] at hv'; cases hv'; exact hle⟩) (fun hx hk _ => ⟨old, ho, by have := h600 hx hk; omega⟩) w3 e3
        · try simp only [TUP_mk, AGG_mk, HD_mk, NL_mk, TYI_mk, TYB_mk, TYP_mk, TYL_mk, TYS_mk, TYM_mk, SO_mk, NX_mk, endK_mk, endK_mk', add_0]
          refine BR_tt rfl ?_
          try simp only [TUP_mk, AGG_mk, HD_mk, NL_mk, TYI_mk, TYB_mk, TYP_mk, TYL_mk, TYS_mk, TYM_mk, SO_mk, NX_mk, endK_mk, endK_mk', add_0]
          have it6 := i6 u.size _ _ (by omega) it5
          refine ⟨_, rfl, ⟨put l (k.1, x) (v + nw), k :: V, k5.trans (k6.mono fun b hb => .inl hb), it6, ?_⟩, ?_⟩
          · rw [get_updF hkl]
            exact ph.put hA.1 hVk hA.2 hg hw hk1 hk2 ho h600
          · have := it6.seen
            show 37 - seenN w3 u.size < 37 - seenN w u.size
            omega
  · have hxe : x = n := by omega
    subst hxe
    refine rnm_map m2 fun u1 e1 z1 it1 => ?_
    have hru : r < u.size := m2.lt
    have hpw := pow_37 (k := (x + 1).toNat) (by omega)
    have hbn : ∀ k v, get l2 k = some v → -10000000000000 ≤ v ∧ v ≤ 10000000000000 := fun k v hk => by
      have := pa.bnd k v hk
      generalize (37 : Int) ^ (x + 1).toNat = q at *
      omega
    refine L_clock_bounds_tight_3_rule W _ nx0 (some r) x b5 ⟨u.size, 0, none⟩ (fun b w => ∃ V, Kp (fun b => b = r ∨ b = u.size) u1 w ∧ ItM w r u.size (l2.map (·.1)) l2 V ∧ ∀ i j v w, (i, j) ∈ V → get l2 (i, j) = some v → get l2 (j, i) = some w → 0 ≤ v + w) (fun _ w => 37 - seenN w u.size) b3 u1
      ⟨[], Kp.refl _, it1, fun i j v w h => by cases h⟩ ?_
    rintro b44 w ⟨V, k3, it3, hcy⟩
    unfold B_clock_bounds_tight_3
    have hVk : V.length ≤ 36 := keys_len hn5 it3.nod.1 fun k hk => by
      have := it3.nod.2 k hk
      cases hg : get l2 k with
      | none => rw [hg] at this; cases this
      | some v => have := pa.core.key k.1 k.2 v hg; exact ⟨this.1, this.2.1⟩
    refine nxm_map it3 (by omega) (fun hall => ?_) fun k v w1 hkV hg k4 z4 it4 => ?_
    · try simp only [TUP_mk, AGG_mk, HD_mk, NL_mk, TYI_mk, TYB_mk, TYP_mk, TYL_mk, TYS_mk, TYM_mk, SO_mk, NX_mk, endK_mk, endK_mk', add_0]
      subst hnx0
      have hcyc : Cyc (get l2) := fun i j v w hv hw => hcy i j v w (hall _ ((keys_get hkeys2).2 (by rw [hv]; rfl))) hv hw
      refine ⟨_, _, rfl, ⟨l2, kp_or ((k1.trans k2).ext e1) (k1.trans k2).1 k3, it3.map, pa.head hn0 hcyc⟩, ?_⟩
      show 2 * mu x (get (mapOf w r)) + b5.toNat < 2 * mu x (get (mapOf t r)) + 1
      rw [it3.map.of, m1.of]
      have hmle := pa.mle
      cases b5 with
      | false => show 2 * _ + 0 < 2 * _ + 1; omega
      | true => have := pa.mlt rfl; show 2 * _ + 1 < 2 * _ + 1; omega
    · refine ent_map it4 ?_
      unfold keyV
      try simp only [TUP_mk, AGG_mk, HD_mk, NL_mk, TYI_mk, TYB_mk, TYP_mk, TYL_mk, TYS_mk, TYM_mk, SO_mk, NX_mk, endK_mk, endK_mk', add_0]
      refine nw2 zc_111 rfl rfl fun w2 e2 z2 o1 o2 => ?_
      refine ⟨_, o2.cell, ⟨_, o1.cell, ?_⟩⟩
      have it5 := it4.it.ext e2
      have k5 : Kp (fun b => b = r ∨ b = u.size) u1 w2 := (k3.trans (k4.mono fun b hb => .inr hb)).ext e2
      have hsn : seenN w2 u.size = V.length + 1 := it5.seen
      have hsn0 : seenN w u.size = V.length := it3.seen
      have hgo : (∀ w', get l2 (k.2, k.1) = some w' → 0 ≤ v + w') → N_clock_bounds_tight_3 (fun b w => ∃ V, Kp (fun b => b = r ∨ b = u.size) u1 w ∧ ItM w r u.size (l2.map (·.1)) l2 V ∧ ∀ i j v w, (i, j) ∈ V → get l2 (i, j) = some v → get l2 (j, i) = some w → 0 ≤ v + w) (fun _ w => 37 - seenN w u.size) b44 w [Value.bool b44] w2 := fun h => by
        refine ⟨_, rfl, ⟨k :: V, k5, it5, fun i j v' w' hij hv hw => ?_⟩, ?_⟩
        · rcases List.mem_cons.1 hij with e | hij
          · subst e
            rw [hg] at hv; cases hv
            exact h w' hw
          · exact hcy i j v' w' hij hv hw
        · show 37 - seenN w2 u.size < 37 - seenN w u.size
          omega
      refine lkp_ok (k := (k.2, k.1)) it5.map ?_
      try simp only [TUP_mk, AGG_mk, HD_mk, NL_mk, TYI_mk, TYB_mk, TYP_mk, TYL_mk, TYS_mk, TYM_mk, SO_mk, NX_mk, endK_mk, endK_mk', add_0]
      cases hw : get l2 (k.2, k.1) with
      | none =>
        refine BR_ff rfl ?_
        try simp only [TUP_mk, AGG_mk, HD_mk, NL_mk, TYI_mk, TYB_mk, TYP_mk, TYL_mk, TYS_mk, TYM_mk, SO_mk, NX_mk, endK_mk, endK_mk', add_0]
        exact hgo (fun w' h => by rw [hw] at h; cases h)
      | some nw =>
        refine BR_tt rfl ?_
        have b1 := hbn _ _ hg
        have b2 := hbn _ _ hw
        have hwr : IntKind.i64.wrap (v + (some nw).getD 0) = v + nw := wrap_i64 (by show _ ≤ v + nw; omega) (by show v + nw ≤ _; omega)
        rw [hwr]
        refine BR_dec (fun hlt => ?_) (fun hle => ?_)
        · exact h0 w2 (kp_or ((k1.trans k2).ext e1) (k1.trans k2).1 k5) (Cyc.no pa.core (i := k.1) (j := k.2) hg hw hlt)
        · try simp only [TUP_mk, AGG_mk, HD_mk, NL_mk, TYI_mk, TYB_mk, TYP_mk, TYL_mk, TYS_mk, TYM_mk, SO_mk, NX_mk, endK_mk, endK_mk', add_0]
          exact hgo (fun w' h => by rw [hw] at h; cases h; omega)
end
end Go.Proofs.Ytknpmijgdfeliaa.G

/- Clock: plain: clocks, and what is true. -/
set_option linter.unusedSimpArgs false
set_option linter.unusedVariables false
set_option maxRecDepth 20000
namespace Go.Proofs.Ytknpmijgdfeliaa.G
open Go.V
structure Wt where
  zlo : Int
  zhi : Int
  rlo : Int
  rhi : Int
deriving DecidableEq
structure Rd where
  ev : Int
  wa : Int
  sh : Int
deriving DecidableEq
structure Lk where
  a : Int
  b : Int
  lo : Int
  hi : Int
deriving DecidableEq
structure Clk where
  ws : List Wt
  n : Int
  rs : List Rd
  ls : List Lk
deriving DecidableEq
def badW (w : Wt) : Bool := !(decide (0 ≤ w.zlo ∧ w.zlo ≤ w.zhi ∧ w.zhi ≤ 1000 ∧ w.zhi - w.zlo ≤ 6)) || !(decide (900 ≤ w.rlo ∧ w.rlo ≤ w.rhi ∧ w.rhi ≤ 1100)) || decide (4 < w.rhi - w.rlo)
def badR (c : Clk) (r : Rd) : Bool := !(decide (0 ≤ r.ev ∧ r.ev < c.n)) || !(decide (0 ≤ r.wa ∧ r.wa < c.ws.length)) || !(decide (0 ≤ r.sh ∧ r.sh ≤ 2000))
def badL (c : Clk) (l : Lk) : Bool := !(decide (0 ≤ l.a ∧ l.a < c.n)) || !(decide (0 ≤ l.b ∧ l.b < c.n)) || decide (l.a = l.b) || !(decide (-600 ≤ l.lo ∧ l.lo ≤ l.hi ∧ l.hi ≤ 600))
def sizesC (c : Clk) : Bool := decide (c.ws.length ≤ 2 ∧ 0 ≤ c.n ∧ c.n ≤ 5 ∧ c.rs.length ≤ 8 ∧ c.ls.length ≤ 5)
/-- A clock is valid. -/
def okC (c : Clk) : Bool := sizesC c && !(c.ws.any badW) && !(c.rs.any (badR c)) && !(c.ls.any (badL c))
structure VdC (c : Clk) : Prop where
  w2 : c.ws.length ≤ 2
  n0 : 0 ≤ c.n
  n5 : c.n ≤ 5
  r8 : c.rs.length ≤ 8
  l5 : c.ls.length ≤ 5
  wt : ∀ w ∈ c.ws, 0 ≤ w.zlo ∧ w.zlo ≤ w.zhi ∧ w.zhi ≤ 1000 ∧ w.zhi - w.zlo ≤ 6 ∧ 900 ≤ w.rlo ∧ w.rlo ≤ w.rhi ∧ w.rhi ≤ 1100 ∧ w.rhi - w.rlo ≤ 4
  rd : ∀ r ∈ c.rs, 0 ≤ r.ev ∧ r.ev < c.n ∧ 0 ≤ r.wa ∧ r.wa < c.ws.length ∧ 0 ≤ r.sh ∧ r.sh ≤ 2000
  lk : ∀ l ∈ c.ls, 0 ≤ l.a ∧ l.a < c.n ∧ 0 ≤ l.b ∧ l.b < c.n ∧ l.a ≠ l.b ∧ -600 ≤ l.lo ∧ l.lo ≤ l.hi ∧ l.hi ≤ 600
theorem okC_iff {c : Clk} : okC c = true ↔ VdC c := by
  unfold okC sizesC
  simp only [Bool.and_eq_true, decide_eq_true_eq, Bool.not_eq_true', List.any_eq_false, badW, badR, badL, Bool.or_eq_true, decide_eq_false_iff_not, not_or, Classical.not_not, Int.not_lt]
  constructor
  · rintro ⟨⟨⟨⟨h1, h2, h3, h4, h5⟩, hw⟩, hr⟩, hl⟩
    exact ⟨h1, h2, h3, h4, h5, fun w hm => by have := hw w hm; omega, fun r hm => by have := hr r hm; omega, fun l hm => by have := hl l hm; omega⟩
  · intro h
    exact ⟨⟨⟨⟨h.w2, h.n0, h.n5, h.r8, h.l5⟩, fun w hm => by have := h.wt w hm; omega⟩, fun r hm => by have := h.rd r hm; omega⟩, fun l hm => by have := h.lk l hm; omega⟩
abbrev Go' := Int × Int
/-- What a watch shows in a minute. -/
def showP (g : Go') (m : Int) : Int := g.1 + m * g.2 / 1000
/-- The minutes in which a watch shows a number. -/
def upP (g : Go') (k : Int) : Int := (k * 1000 + g.2 - 1) / g.2
def minP (g : Go') (sh : Int) : Int × Int := if sh - g.1 < 0 then (1, 0) else (upP g (sh - g.1), upP g (sh - g.1 + 1) - 1)
theorem up_le {g : Go'} {k m : Int} (hr : 0 < g.2) : upP g k ≤ m ↔ k * 1000 ≤ m * g.2 := by
  unfold upP
  rw [← Int.lt_add_one_iff, Int.ediv_lt_iff_lt_mul hr, Int.add_mul, Int.one_mul]
  generalize m * g.2 = q
  omega
theorem min_iff {g : Go'} {sh m : Int} (hr : 0 < g.2) (hm : 0 ≤ m) : showP g m = sh ↔ (minP g sh).1 ≤ m ∧ m ≤ (minP g sh).2 := by
  unfold minP showP
  have hq : 0 ≤ m * g.2 := Int.mul_nonneg hm (by omega)
  by_cases h : sh - g.1 < 0
  · rw [if_pos h]
    have : 0 ≤ m * g.2 / 1000 := Int.ediv_nonneg hq (by omega)
    constructor
    · intro e; omega
    · rintro ⟨h1, h2⟩; simp only at h1 h2; omega
  · rw [if_neg h]
    simp only
    have h1 := up_le (g := g) (k := sh - g.1) (m := m) hr
    have h2 := up_le (g := g) (k := sh - g.1 + 1) (m := m) hr
    generalize m * g.2 = q at *
    rw [h1]
    constructor
    · intro e
      refine ⟨by omega, ?_⟩
      have : ¬ upP g (sh - g.1 + 1) ≤ m := fun hh => by have := h2.1 hh; omega
      omega
    · rintro ⟨h3, h4⟩
      have : ¬ (sh - g.1 + 1) * 1000 ≤ q := fun hh => by have := h2.2 hh; omega
      omega
theorem min_bnd {g : Go'} {sh : Int} (hz : 0 ≤ g.1) (hr : 900 ≤ g.2 ∧ g.2 ≤ 1100) (hs : sh ≤ 2000) (h : (minP g sh).1 ≤ (minP g sh).2) : 0 ≤ (minP g sh).1 ∧ (minP g sh).2 ≤ 2300 := by
  unfold minP at h ⊢
  by_cases h0 : sh - g.1 < 0
  · rw [if_pos h0] at h; simp only at h; omega
  · rw [if_neg h0] at h ⊢
    simp only at h ⊢
    have h2 : upP g (sh - g.1 + 1) ≤ 2301 := (up_le (by omega)).2 (by omega)
    refine ⟨?_, by omega⟩
    unfold upP
    exact Int.ediv_nonneg (by omega) (by omega)
/-- What tells minutes. -/
inductive Tel
  | day (e : Int)
  | rd (e wa sh : Int)
  | lk (a b lo hi : Int)
def Tel.says (g : List Go') (m : Int → Int) : Tel → Prop
  | .day e => 0 ≤ m e ∧ m e ≤ 600
  | .rd e wa sh => (0 ≤ m e ∧ m e ≤ 600) ∧ showP (g.getD wa.toNat (0, 0)) (m e) = sh
  | .lk a b lo hi => lo ≤ m b - m a ∧ m b - m a ≤ hi
/-- The readings of a set. -/
def rdsL : Nat → List Rd → Nat → List Tel
  | _, [], _ => []
  | S, r :: rs, i => if S.testBit i then .rd r.ev r.wa r.sh :: rdsL S rs (i + 1) else rdsL S rs (i + 1)
def daysL (n : Nat) : List Tel := (List.range n).map fun (k : Nat) => Tel.day (k : Int)
def lksL (ls : List Lk) : List Tel := ls.map fun l => Tel.lk l.a l.b l.lo l.hi
def telsL (c : Clk) (S : Nat) : List Tel := daysL c.n.toNat ++ rdsL S c.rs 0 ++ lksL c.ls
/-- All ways in which watches can go. -/
def zs (lo hi : Int) : List Int := (List.range (hi + 1 - lo).toNat).map fun (k : Nat) => lo + (k : Int)
def chL : List Wt → List (List Go')
  | [] => [[]]
  | w :: ws => (zs w.zlo w.zhi).flatMap fun z => (zs w.rlo w.rhi).flatMap fun r => (chL ws).map fun g => (z, r) :: g
theorem mem_zs {lo hi x : Int} : x ∈ zs lo hi ↔ lo ≤ x ∧ x ≤ hi := by
  unfold zs
  rw [List.mem_map]
  constructor
  · rintro ⟨k, hk, rfl⟩; rw [List.mem_range] at hk; omega
  · rintro ⟨h1, h2⟩; exact ⟨(x - lo).toNat, by rw [List.mem_range]; omega, by omega⟩
def GoOk (w : Wt) (g : Go') : Prop := w.zlo ≤ g.1 ∧ g.1 ≤ w.zhi ∧ w.rlo ≤ g.2 ∧ g.2 ≤ w.rhi
inductive GoesOk : List Wt → List Go' → Prop
  | nil : GoesOk [] []
  | cons {w : Wt} {g : Go'} {ws : List Wt} {gs : List Go'} (h : GoOk w g) (t : GoesOk ws gs) : GoesOk (w :: ws) (g :: gs)
theorem mem_chL : ∀ (ws : List Wt) (g : List Go'), g ∈ chL ws ↔ GoesOk ws g
  | [], g => by
    unfold chL
    rw [List.mem_singleton]
    constructor
    · rintro rfl; exact .nil
    · intro h; cases h; rfl
  | w :: ws, g => by
    unfold chL
    simp only [List.mem_flatMap, List.mem_map]
    constructor
    · rintro ⟨z, hz, r, hr, gs, hg, rfl⟩
      rw [mem_zs] at hz hr
      exact .cons ⟨hz.1, hz.2, hr.1, hr.2⟩ ((mem_chL ws gs).1 hg)
    · intro h
      cases h with
      | cons h t =>
        rename_i g gs
        exact ⟨g.1, mem_zs.2 ⟨h.1, h.2.1⟩, g.2, mem_zs.2 ⟨h.2.2.1, h.2.2.2⟩, gs, (mem_chL ws gs).2 t, rfl⟩
theorem GoesOk.len : ∀ {ws : List Wt} {g : List Go'}, GoesOk ws g → g.length = ws.length
  | _, _, .nil => rfl
  | _, _, .cons _ t => by simp [GoesOk.len t]
theorem GoesOk.get : ∀ {ws : List Wt} {g : List Go'}, GoesOk ws g → ∀ i (h : i < ws.length), GoOk ws[i] (g.getD i (0, 0))
  | _, _, .nil, i, h => by simp at h
  | _, _, .cons h t, 0, _ => h
  | _, _, .cons h t, i + 1, hi => by
    have := GoesOk.get t i (by simpa using hi)
    simpa using this
/-- A truth: how watches go, and when things happened. -/
structure Truth (c : Clk) (S : Nat) (g : List Go') (m : Int → Int) : Prop where
  goes : GoesOk c.ws g
  days : ∀ e, 0 ≤ e → e < c.n → 0 ≤ m e ∧ m e ≤ 600
  shows : ∀ i (h : i < c.rs.length), S.testBit i = true → showP (g.getD c.rs[i].wa.toNat (0, 0)) (m c.rs[i].ev) = c.rs[i].sh
  links : ∀ l ∈ c.ls, l.lo ≤ m l.b - m l.a ∧ m l.b - m l.a ≤ l.hi
theorem says_rds {g : List Go'} {m : Int → Int} {S : Nat} : ∀ (rs : List Rd) (j : Nat), (∀ t ∈ rdsL S rs j, t.says g m) ↔ ∀ i (h : i < rs.length), S.testBit (j + i) = true → (0 ≤ m rs[i].ev ∧ m rs[i].ev ≤ 600) ∧ showP (g.getD rs[i].wa.toNat (0, 0)) (m rs[i].ev) = rs[i].sh
  | [], j => by simp [rdsL]
  | r :: rs, j => by
    have ih := says_rds (g := g) (m := m) (S := S) rs (j + 1)
    have hs : (∀ i (h : i < rs.length), S.testBit (j + 1 + i) = true → (0 ≤ m rs[i].ev ∧ m rs[i].ev ≤ 600) ∧ showP (g.getD rs[i].wa.toNat (0, 0)) (m rs[i].ev) = rs[i].sh) ↔
        ∀ i (h : i + 1 < (r :: rs).length), S.testBit (j + (i + 1)) = true → (0 ≤ m (r :: rs)[i + 1].ev ∧ m (r :: rs)[i + 1].ev ≤ 600) ∧ showP (g.getD (r :: rs)[i + 1].wa.toNat (0, 0)) (m (r :: rs)[i + 1].ev) = (r :: rs)[i + 1].sh := by
      constructor
      · intro h i hi hb; exact h i (by simpa using hi) (by rw [show j + 1 + i = j + (i + 1) by omega]; exact hb)
      · intro h i hi hb; exact h i (by simpa using hi) (by rw [show j + (i + 1) = j + 1 + i by omega]; exact hb)
    unfold rdsL
    constructor
    · intro h i hi hb
      cases i with
      | zero =>
        have hb' : S.testBit j = true := hb
        rw [if_pos hb'] at h
        exact h (.rd r.ev r.wa r.sh) (by simp)
      | succ i =>
        refine hs.1 (ih.1 fun t ht => h t ?_) i hi hb
        split
        · exact List.mem_cons_of_mem _ ht
        · exact ht
    · intro h t ht
      have h2 := ih.2 (hs.2 fun i hi hb => h (i + 1) hi hb)
      split at ht
      · rename_i hb
        rcases List.mem_cons.1 ht with rfl | ht
        · exact h 0 (by simp) hb
        · exact h2 t ht
      · exact h2 t ht
theorem truth_iff {c : Clk} {S : Nat} {g : List Go'} {m : Int → Int} (hv : VdC c) : Truth c S g m ↔ GoesOk c.ws g ∧ ∀ t ∈ telsL c S, t.says g m := by
  have hr := says_rds (g := g) (m := m) (S := S) c.rs 0
  simp only [Nat.zero_add] at hr
  unfold telsL
  constructor
  · intro h
    refine ⟨h.goes, fun t ht => ?_⟩
    rcases List.mem_append.1 ht with ht | ht
    · rcases List.mem_append.1 ht with ht | ht
      · unfold daysL at ht
        obtain ⟨k, hk, rfl⟩ := List.mem_map.1 ht
        rw [List.mem_range] at hk
        exact h.days k (by omega) (by omega)
      · exact hr.2 (fun i hi hb => ⟨h.days _ (hv.rd _ (List.getElem_mem hi)).1 (hv.rd _ (List.getElem_mem hi)).2.1, h.shows i hi hb⟩) t ht
    · unfold lksL at ht
      obtain ⟨l, hl, rfl⟩ := List.mem_map.1 ht
      exact h.links l hl
  · rintro ⟨hg, h⟩
    refine ⟨hg, fun e h0 h1 => ?_, fun i hi hb => ?_, fun l hl => ?_⟩
    · refine h (.day e) (List.mem_append_left _ (List.mem_append_left _ ?_))
      exact List.mem_map.2 ⟨e.toNat, by rw [List.mem_range]; omega, by rw [Int.toNat_of_nonneg h0]⟩
    · exact (hr.1 (fun t ht => h t (List.mem_append_left _ (List.mem_append_right _ ht))) i hi hb).2
    · exact h (.lk l.a l.b l.lo l.hi) (List.mem_append_right _ (List.mem_map.2 ⟨l, hl, rfl⟩))
end Go.Proofs.Ytknpmijgdfeliaa.G
