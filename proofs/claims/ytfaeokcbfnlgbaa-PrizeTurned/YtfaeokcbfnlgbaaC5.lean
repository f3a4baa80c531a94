import Derived.Test.YtfaeokcbfnlgbaaC4
/- If ploughmen are numbered otherwise only their numbers change: who is due which prize, who gains, for which place one would get a prize, and which club is best, but for what numbers decide; and no argument is changed, and what is returned is new. -/
/- More of the functions' shallow texts, by gen.py. -/
set_option linter.unusedVariables false
set_option maxRecDepth 100000
namespace Go.Proofs.Ytfaeokcbfnlgbaa.G
open Go.V
def an_8 : Nat → Ann := fun b => match b with
  | 0 => { ms := [4, 113], ks := [.b, .i .i64], us := [5, 6, 111, 112, 153], rt := false, ex := [] }
  | 2 => { ms := [4, 124], ks := [.b, .i .i64], us := [5, 6, 14, 15, 111, 112, 113, 123, 153], rt := false, ex := [] }
  | _ => {}
abbrev rv_8 : List ResultVar := [.tmp 4]
abbrev rs_8 : List Nat := [153, 4]
def L_law13_PrizeMost_0 (W : World) (R : Ending → Hp → Prop) (zn0 : Int) (zp1 : Option Addr) (zl2 : Nat) (zl3 : Nat) (za4 : Addr) (b130 : Bool) (n131 : Int) : Hp → Prop :=
  LOOPN [.b, .i .i64] (fun ys next s => ∀ j : Tm, vc Pg W 153 rs_8 an_8 false (sub (bodyOf Try.f8) [1, 1, 1, 1, 1, 1, 1, 0, 1, 0, 0]) 0 (KLoop [4, 113] [5, 6, 111, 112, 153] [(.int .i64 zn0), (.slice zp1 zl2 zl3), (.slice (some za4) 2 2), (.int .i64 2), (.tuple #[])] next (KBlk 0 (KS Pg W 153 rs_8 an_8 false (sub (bodyOf Try.f8) [1, 1, 1, 1, 1, 1, 1, 1]) 0 (fin Pg W 153 rv_8 R)))) (known [4, 113] ys (known [5, 6, 111, 112, 153] [(.int .i64 zn0), (.slice zp1 zl2 zl3), (.slice (some za4) 2 2), (.int .i64 2), (.tuple #[])] j)) s) [(.bool b130), (.int .i64 n131)]
def L_law13_PrizeMost_1 (W : World) (R : Ending → Hp → Prop) (nx0 : List Value → Hp → Prop) (zn0 : Int) (zp1 : Option Addr) (zl2 : Nat) (zl3 : Nat) (zp4 : Option Addr) (zl5 : Nat) (zl6 : Nat) (zn7 : Int) (za8 : Addr) (zn9 : Int) (zn10 : Int) (b142 : Bool) (n143 : Int) : Hp → Prop :=
  LOOPN [.b, .i .i64] (fun ys next s => ∀ j : Tm, vc Pg W 153 rs_8 an_8 false (sub (bodyOf Try.f8) [1, 1, 1, 1, 1, 1, 1, 0, 1, 0, 0, 1, 1, 0, 0, 1, 1, 1, 1, 0, 0]) 2 (KLoop [4, 124] [5, 6, 14, 15, 111, 112, 113, 123, 153] [(.int .i64 zn0), (.slice zp1 zl2 zl3), (.slice zp4 zl5 zl6), (.int .i64 zn7), (.slice (some za8) 2 2), (.int .i64 2), (.int .i64 zn9), (.int .i64 zn10), (.tuple #[])] next (KBlk 2 (KBlk 1 (KS Pg W 153 rs_8 an_8 false (sub (bodyOf Try.f8) [1, 1, 1, 1, 1, 1, 1, 0, 1, 0, 0, 1, 1, 1]) 0 (KLoop [4, 113] [5, 6, 111, 112, 153] [(.int .i64 zn0), (.slice zp1 zl2 zl3), (.slice (some za8) 2 2), (.int .i64 2), (.tuple #[])] nx0 (KBlk 0 (KS Pg W 153 rs_8 an_8 false (sub (bodyOf Try.f8) [1, 1, 1, 1, 1, 1, 1, 1]) 0 (fin Pg W 153 rv_8 R)))))))) (known [4, 124] ys (known [5, 6, 14, 15, 111, 112, 113, 123, 153] [(.int .i64 zn0), (.slice zp1 zl2 zl3), (.slice zp4 zl5 zl6), (.int .i64 zn7), (.slice (some za8) 2 2), (.int .i64 2), (.int .i64 zn9), (.int .i64 zn10), (.tuple #[])] j)) s) [(.bool b142), (.int .i64 n143)]
def J_law13_PrizeMost_0 (W : World) (R : Ending → Hp → Prop) (b99 : Bool) (B10 : Nat) (x7 : Option Addr) (l8 : Nat) (c9 : Nat) (x86 : Option Addr) (l87 : Nat) (c88 : Nat) (n34 : Int) (x37 : Option Addr) (l38 : Nat) (c39 : Nat) : Hp → Prop :=
  BR b99
    (R (.returned (.bool false)))
    (RDL (Addr.add ⟨B10, 0, none⟩ 0) fun x100 l101 c102 =>
      RDL (Addr.add ⟨B10, 0, none⟩ 1) fun x103 l104 c105 =>
        CALL Pg W F_law13_made [(.agg #[(.slice x100 l101 c102), (.slice x103 l104 c105)]), (.slice x7 l8 c9), (.bool true)]
          (fun v106 => TYL v106 fun x108 l109 c110 =>
            NEW 26 [(.slice x108 l109 c110), (.slice x86 l87 c88)] fun B111 =>
              L_law13_PrizeMost_0 W R n34 x37 l38 c39 ⟨B111, 0, none⟩ false 0)
            (fun e107 => R (.panicked e107)))
def J_law13_PrizeMost_1 (W : World) (R : Ending → Hp → Prop) (b98 : Bool) (B10 : Nat) (x7 : Option Addr) (l8 : Nat) (c9 : Nat) (x86 : Option Addr) (l87 : Nat) (c88 : Nat) (n34 : Int) (x37 : Option Addr) (l38 : Nat) (c39 : Nat) : Hp → Prop :=
  BR b98
    (J_law13_PrizeMost_0 W R true B10 x7 l8 c9 x86 l87 c88 n34 x37 l38 c39)
    (RDL (Addr.add ⟨B10, 0, none⟩ 1) fun x112 l113 c114 =>
      J_law13_PrizeMost_0 W R (decide (n34 > (↑l113 : Int))) B10 x7 l8 c9 x86 l87 c88 n34 x37 l38 c39)
def J_law13_PrizeMost_2 (W : World) (R : Ending → Hp → Prop) (b97 : Bool) (B10 : Nat) (x7 : Option Addr) (l8 : Nat) (c9 : Nat) (x86 : Option Addr) (l87 : Nat) (c88 : Nat) (n34 : Int) (x37 : Option Addr) (l38 : Nat) (c39 : Nat) : Hp → Prop :=
  BR b97
    (J_law13_PrizeMost_1 W R true B10 x7 l8 c9 x86 l87 c88 n34 x37 l38 c39)
    (RDL (Addr.add ⟨B10, 0, none⟩ 0) fun x115 l116 c117 =>
      J_law13_PrizeMost_1 W R (decide (n34 > (↑l116 : Int))) B10 x7 l8 c9 x86 l87 c88 n34 x37 l38 c39)
def J_law13_PrizeMost_3 (W : World) (R : Ending → Hp → Prop) (b96 : Bool) (B10 : Nat) (x7 : Option Addr) (l8 : Nat) (c9 : Nat) (x86 : Option Addr) (l87 : Nat) (c88 : Nat) (n34 : Int) (x37 : Option Addr) (l38 : Nat) (c39 : Nat) : Hp → Prop :=
  BR b96
    (J_law13_PrizeMost_2 W R true B10 x7 l8 c9 x86 l87 c88 n34 x37 l38 c39)
    (CALL Pg W F_ref13_Many [(.slice x86 l87 c88)]
      (fun v118 => TYI .i64 v118 fun n120 =>
        J_law13_PrizeMost_2 W R (decide (n120 > n34)) B10 x7 l8 c9 x86 l87 c88 n34 x37 l38 c39)
        (fun e119 => R (.panicked e119)))
def J_law13_PrizeMost_4 (W : World) (R : Ending → Hp → Prop) (b95 : Bool) (B10 : Nat) (x7 : Option Addr) (l8 : Nat) (c9 : Nat) (x86 : Option Addr) (l87 : Nat) (c88 : Nat) (n34 : Int) (x37 : Option Addr) (l38 : Nat) (c39 : Nat) : Hp → Prop :=
  BR b95
    (J_law13_PrizeMost_3 W R true B10 x7 l8 c9 x86 l87 c88 n34 x37 l38 c39)
    (CALL Pg W F_ref13_Many [(.slice x37 l38 c39)]
      (fun v121 => TYI .i64 v121 fun n123 =>
        J_law13_PrizeMost_3 W R (n123 != n34) B10 x7 l8 c9 x86 l87 c88 n34 x37 l38 c39)
        (fun e122 => R (.panicked e122)))
def J_law13_PrizeMost_5 (W : World) (R : Ending → Hp → Prop) (b94 : Bool) (B10 : Nat) (x7 : Option Addr) (l8 : Nat) (c9 : Nat) (x86 : Option Addr) (l87 : Nat) (c88 : Nat) (n34 : Int) (x37 : Option Addr) (l38 : Nat) (c39 : Nat) : Hp → Prop :=
  BR b94
    (J_law13_PrizeMost_4 W R true B10 x7 l8 c9 x86 l87 c88 n34 x37 l38 c39)
    (RDL (Addr.add ⟨B10, 0, none⟩ 1) fun x124 l125 c126 =>
      J_law13_PrizeMost_4 W R ((↑l87 : Int) != (↑l125 : Int)) B10 x7 l8 c9 x86 l87 c88 n34 x37 l38 c39)
def J_law13_PrizeMost_6 (W : World) (R : Ending → Hp → Prop) (b93 : Bool) (B10 : Nat) (x7 : Option Addr) (l8 : Nat) (c9 : Nat) (x86 : Option Addr) (l87 : Nat) (c88 : Nat) (n34 : Int) (x37 : Option Addr) (l38 : Nat) (c39 : Nat) : Hp → Prop :=
  BR b93
    (J_law13_PrizeMost_5 W R true B10 x7 l8 c9 x86 l87 c88 n34 x37 l38 c39)
    (RDL (Addr.add ⟨B10, 0, none⟩ 1) fun x127 l128 c129 =>
      J_law13_PrizeMost_5 W R ((↑l38 : Int) != (↑l128 : Int)) B10 x7 l8 c9 x86 l87 c88 n34 x37 l38 c39)
def J_law13_PrizeMost_7 (W : World) (R : Ending → Hp → Prop) (b92 : Bool) (B10 : Nat) (x7 : Option Addr) (l8 : Nat) (c9 : Nat) (x86 : Option Addr) (l87 : Nat) (c88 : Nat) (n34 : Int) (x37 : Option Addr) (l38 : Nat) (c39 : Nat) (n91 : Int) : Hp → Prop :=
  BR b92
    (J_law13_PrizeMost_6 W R true B10 x7 l8 c9 x86 l87 c88 n34 x37 l38 c39)
    (J_law13_PrizeMost_6 W R (n91 != 0) B10 x7 l8 c9 x86 l87 c88 n34 x37 l38 c39)
def J_law13_PrizeMost_8 (W : World) (R : Ending → Hp → Prop) (b152 : Bool) (zn0 : Int) (zp1 : Option Addr) (zl2 : Nat) (zl3 : Nat) (za8 : Addr) (nx0 : List Value → Hp → Prop) (b142 : Bool) (zn9 : Int) : Hp → Prop :=
  BR b152
    (R (.returned (.bool false)))
    (NX [(.int .i64 zn0), (.slice zp1 zl2 zl3), (.slice (some za8) 2 2), (.int .i64 2), (.tuple #[])] [(.int .i64 zn0), (.slice zp1 zl2 zl3), (.slice (some za8) 2 2), (.int .i64 2), (.tuple #[])] (nx0 [(.bool b142), (.int .i64 (IntKind.wrap .i64 (zn9 + 1)))]))
def B_law13_PrizeMost_0 (W : World) (R : Ending → Hp → Prop) (zn0 : Int) (zp1 : Option Addr) (zl2 : Nat) (zl3 : Nat) (za4 : Addr) (b130 : Bool) (n131 : Int) (nx0 : List Value → Hp → Prop) : Hp → Prop :=
  BR (decide (n131 < 2))
    (IXS (some za4) 2 n131 1 fun a132 =>
      RDL a132 fun x133 l134 c135 =>
        CALL Pg W F_ref13_Many [(.slice x133 l134 c135)]
          (fun v136 => TYI .i64 v136 fun n138 =>
            BR (decide (n138 > zn0))
              (R (.returned (.bool false)))
              (L_law13_PrizeMost_1 W R nx0 zn0 zp1 zl2 zl3 x133 l134 c135 n138 za4 n131 (↑l134 : Int) b130 0))
            (fun e137 => R (.panicked e137)))
    (CALL Pg W F_law13_awake []
      (fun v139 => TYB v139 fun b141 =>
        R (.returned (.bool b141)))
        (fun e140 => R (.panicked e140)))
theorem B_law13_PrizeMost_0_eq (W : World) (R : Ending → Hp → Prop) (zn0 : Int) (zp1 : Option Addr) (zl2 : Nat) (zl3 : Nat) (za4 : Addr) (b130 : Bool) (n131 : Int) (nx0 : List Value → Hp → Prop) (j : Tm) : vc Pg W 153 rs_8 an_8 false (sub (bodyOf Try.f8) [1, 1, 1, 1, 1, 1, 1, 0, 1, 0, 0]) 0 (KLoop [4, 113] [5, 6, 111, 112, 153] [(.int .i64 zn0), (.slice zp1 zl2 zl3), (.slice (some za4) 2 2), (.int .i64 2), (.tuple #[])] nx0 (KBlk 0 (KS Pg W 153 rs_8 an_8 false (sub (bodyOf Try.f8) [1, 1, 1, 1, 1, 1, 1, 1]) 0 (fin Pg W 153 rv_8 R)))) (known [4, 113] [(.bool b130), (.int .i64 n131)] (known [5, 6, 111, 112, 153] [(.int .i64 zn0), (.slice zp1 zl2 zl3), (.slice (some za4) 2 2), (.int .i64 2), (.tuple #[])] j)) = B_law13_PrizeMost_0 W R zn0 zp1 zl2 zl3 za4 b130 n131 nx0 := by kernel_rfl
def N_law13_PrizeMost_0 (I : Bool → Int → Hp → Prop) (μ : Bool → Int → Hp → Nat) (b1300 : Bool) (n1310 : Int) (s : Hp) (vs : List Value) : Hp → Prop := fun s' => ∃ b130 n131, vs = [(.bool b130), (.int .i64 n131)] ∧ I b130 n131 s' ∧ μ b130 n131 s' < μ b1300 n1310 s
theorem L_law13_PrizeMost_0_rule (W : World) (R : Ending → Hp → Prop) (zn0 : Int) (zp1 : Option Addr) (zl2 : Nat) (zl3 : Nat) (za4 : Addr) (I : Bool → Int → Hp → Prop) (μ : Bool → Int → Hp → Nat) (b1300 : Bool) (n1310 : Int) (s : Hp) (h0 : I b1300 n1310 s)
    (hr : ∀ (b130 : Bool) (n131 : Int) (s : Hp), I b130 n131 s → B_law13_PrizeMost_0 W R zn0 zp1 zl2 zl3 za4 b130 n131 (fun vs => N_law13_PrizeMost_0 I μ b130 n131 s vs) s) : L_law13_PrizeMost_0 W R zn0 zp1 zl2 zl3 za4 b1300 n1310 s := by
  refine ⟨fun vs s => ∃ b130 n131, vs = [(.bool b130), (.int .i64 n131)] ∧ I b130 n131 s, fun vs s => (match vs with | [.bool b130, .int _ n131] => μ b130 n131 s | _ => 0), ⟨⟨⟨_, rfl⟩, ⟨⟨_, rfl⟩, trivial⟩⟩, ⟨_, _, rfl, h0⟩⟩, ?_⟩
  intro b130 n131 s hI j
  obtain ⟨b130', n131', hy, hI⟩ := hI
  have hI' : I b130 n131 s := by cases hy; exact hI
  have hh := hr b130 n131 s hI'
  rw [← B_law13_PrizeMost_0_eq W R zn0 zp1 zl2 zl3 za4 b130 n131 _ j] at hh
  refine vc_mono ?_ _ _ hh
  exact KLoop_mono (fun vs s' h => by obtain ⟨b1301, n1311, rfl, h1, h2⟩ := h; exact ⟨⟨⟨_, rfl⟩, ⟨⟨_, rfl⟩, trivial⟩⟩, ⟨_, _, rfl, h1⟩, h2⟩)
def B_law13_PrizeMost_1 (W : World) (R : Ending → Hp → Prop) (nx0 : List Value → Hp → Prop) (zn0 : Int) (zp1 : Option Addr) (zl2 : Nat) (zl3 : Nat) (zp4 : Option Addr) (zl5 : Nat) (zl6 : Nat) (zn7 : Int) (za8 : Addr) (zn9 : Int) (zn10 : Int) (b142 : Bool) (n143 : Int) (nx1 : List Value → Hp → Prop) : Hp → Prop :=
  BR (decide (n143 < zn10))
    (IXS zp4 zl5 n143 1 fun a144 =>
      RDI .i64 a144 fun n145 =>
        IXS zp1 zl2 n143 1 fun a146 =>
          RDI .i64 a146 fun n147 =>
            BR (n145 != n147)
              (BR (zn7 == zn0)
                (IXS zp4 zl5 n143 1 fun a148 =>
                  RDI .i64 a148 fun n149 =>
                    IXS zp1 zl2 n143 1 fun a150 =>
                      RDI .i64 a150 fun n151 =>
                        J_law13_PrizeMost_8 W R (decide (n149 < n151)) zn0 zp1 zl2 zl3 za8 nx0 b142 zn9)
                (J_law13_PrizeMost_8 W R false zn0 zp1 zl2 zl3 za8 nx0 b142 zn9))
              (NX [(.int .i64 zn0), (.slice zp1 zl2 zl3), (.slice zp4 zl5 zl6), (.int .i64 zn7), (.slice (some za8) 2 2), (.int .i64 2), (.int .i64 zn9), (.int .i64 zn10), (.tuple #[])] [(.int .i64 zn0), (.slice zp1 zl2 zl3), (.slice zp4 zl5 zl6), (.int .i64 zn7), (.slice (some za8) 2 2), (.int .i64 2), (.int .i64 zn9), (.int .i64 zn10), (.tuple #[])] (nx1 [(.bool b142), (.int .i64 (IntKind.wrap .i64 (n143 + 1)))])))
    (NX [(.int .i64 zn0), (.slice zp1 zl2 zl3), (.slice (some za8) 2 2), (.int .i64 2), (.tuple #[])] [(.int .i64 zn0), (.slice zp1 zl2 zl3), (.slice (some za8) 2 2), (.int .i64 2), (.tuple #[])] (nx0 [(.bool b142), (.int .i64 (IntKind.wrap .i64 (zn9 + 1)))]))
theorem B_law13_PrizeMost_1_eq (W : World) (R : Ending → Hp → Prop) (nx0 : List Value → Hp → Prop) (zn0 : Int) (zp1 : Option Addr) (zl2 : Nat) (zl3 : Nat) (zp4 : Option Addr) (zl5 : Nat) (zl6 : Nat) (zn7 : Int) (za8 : Addr) (zn9 : Int) (zn10 : Int) (b142 : Bool) (n143 : Int) (nx1 : List Value → Hp → Prop) (j : Tm) : vc Pg W 153 rs_8 an_8 false (sub (bodyOf Try.f8) [1, 1, 1, 1, 1, 1, 1, 0, 1, 0, 0, 1, 1, 0, 0, 1, 1, 1, 1, 0, 0]) 2 (KLoop [4, 124] [5, 6, 14, 15, 111, 112, 113, 123, 153] [(.int .i64 zn0), (.slice zp1 zl2 zl3), (.slice zp4 zl5 zl6), (.int .i64 zn7), (.slice (some za8) 2 2), (.int .i64 2), (.int .i64 zn9), (.int .i64 zn10), (.tuple #[])] nx1 (KBlk 2 (KBlk 1 (KS Pg W 153 rs_8 an_8 false (sub (bodyOf Try.f8) [1, 1, 1, 1, 1, 1, 1, 0, 1, 0, 0, 1, 1, 1]) 0 (KLoop [4, 113] [5, 6, 111, 112, 153] [(.int .i64 zn0), (.slice zp1 zl2 zl3), (.slice (some za8) 2 2), (.int .i64 2), (.tuple #[])] nx0 (KBlk 0 (KS Pg W 153 rs_8 an_8 false (sub (bodyOf Try.f8) [1, 1, 1, 1, 1, 1, 1, 1]) 0 (fin Pg W 153 rv_8 R)))))))) (known [4, 124] [(.bool b142), (.int .i64 n143)] (known [5, 6, 14, 15, 111, 112, 113, 123, 153] [(.int .i64 zn0), (.slice zp1 zl2 zl3), (.slice zp4 zl5 zl6), (.int .i64 zn7), (.slice (some za8) 2 2), (.int .i64 2), (.int .i64 zn9), (.int .i64 zn10), (.tuple #[])] j)) = B_law13_PrizeMost_1 W R nx0 zn0 zp1 zl2 zl3 zp4 zl5 zl6 zn7 za8 zn9 zn10 b142 n143 nx1 := by kernel_rfl
def N_law13_PrizeMost_1 (I : Bool → Int → Hp → Prop) (μ : Bool → Int → Hp → Nat) (b1420 : Bool) (n1430 : Int) (s : Hp) (vs : List Value) : Hp → Prop := fun s' => ∃ b142 n143, vs = [(.bool b142), (.int .i64 n143)] ∧ I b142 n143 s' ∧ μ b142 n143 s' < μ b1420 n1430 s
theorem L_law13_PrizeMost_1_rule (W : World) (R : Ending → Hp → Prop) (nx0 : List Value → Hp → Prop) (zn0 : Int) (zp1 : Option Addr) (zl2 : Nat) (zl3 : Nat) (zp4 : Option Addr) (zl5 : Nat) (zl6 : Nat) (zn7 : Int) (za8 : Addr) (zn9 : Int) (zn10 : Int) (I : Bool → Int → Hp → Prop) (μ : Bool → Int → Hp → Nat) (b1420 : Bool) (n1430 : Int) (s : Hp) (h0 : I b1420 n1430 s)
    (hr : ∀ (b142 : Bool) (n143 : Int) (s : Hp), I b142 n143 s → B_law13_PrizeMost_1 W R nx0 zn0 zp1 zl2 zl3 zp4 zl5 zl6 zn7 za8 zn9 zn10 b142 n143 (fun vs => N_law13_PrizeMost_1 I μ b142 n143 s vs) s) : L_law13_PrizeMost_1 W R nx0 zn0 zp1 zl2 zl3 zp4 zl5 zl6 zn7 za8 zn9 zn10 b1420 n1430 s := by
  refine ⟨fun vs s => ∃ b142 n143, vs = [(.bool b142), (.int .i64 n143)] ∧ I b142 n143 s, fun vs s => (match vs with | [.bool b142, .int _ n143] => μ b142 n143 s | _ => 0), ⟨⟨⟨_, rfl⟩, ⟨⟨_, rfl⟩, trivial⟩⟩, ⟨_, _, rfl, h0⟩⟩, ?_⟩
  intro b142 n143 s hI j
  obtain ⟨b142', n143', hy, hI⟩ := hI
  have hI' : I b142 n143 s := by cases hy; exact hI
  have hh := hr b142 n143 s hI'
  rw [← B_law13_PrizeMost_1_eq W R nx0 zn0 zp1 zl2 zl3 zp4 zl5 zl6 zn7 za8 zn9 zn10 b142 n143 _ j] at hh
  refine vc_mono ?_ _ _ hh
  exact KLoop_mono (fun vs s' h => by obtain ⟨b1421, n1431, rfl, h1, h2⟩ := h; exact ⟨⟨⟨_, rfl⟩, ⟨⟨_, rfl⟩, trivial⟩⟩, ⟨_, _, rfl, h1⟩, h2⟩)
def T_law13_PrizeMost (W : World) (x1 : Option Addr) (l2 : Nat) (c3 : Nat) (x4 : Option Addr) (l5 : Nat) (c6 : Nat) (x7 : Option Addr) (l8 : Nat) (c9 : Nat) (R : Ending → Hp → Prop) : Hp → Prop :=
  NEW 25 [(.slice x1 l2 c3), (.slice x4 l5 c6)] fun B10 =>
    RDL (Addr.add ⟨B10, 0, none⟩ 0) fun x11 l12 c13 =>
      RDL (Addr.add ⟨B10, 0, none⟩ 1) fun x14 l15 c16 =>
        CALL Pg W F_law13_far [(.agg #[(.slice x11 l12 c13), (.slice x14 l15 c16)]), (.slice none 0 0)]
          (fun v17 => TYB v17 fun b19 =>
            BR b19
              (CALL Pg W F_law13_awake []
                (fun v20 => TYB v20 fun b22 =>
                  R (.returned (.bool b22)))
                  (fun e21 => R (.panicked e21)))
              (RDL (Addr.add ⟨B10, 0, none⟩ 0) fun x23 l24 c25 =>
                RDL (Addr.add ⟨B10, 0, none⟩ 1) fun x26 l27 c28 =>
                  CALL Pg W F_prize_Most [(.agg #[(.slice x23 l24 c25), (.slice x26 l27 c28)])]
                    (fun v29 => TUP v29 fun q31 => HD q31 fun v32 r33 => TYI .i64 v32 fun n34 =>
                      HD r33 fun v35 r36 => TYL v35 fun x37 l38 c39 =>
                        HD r36 fun v40 r41 => TYI .i64 v40 fun n42 =>
                          NL r41 <|
                            RDL (Addr.add ⟨B10, 0, none⟩ 0) fun x43 l44 c45 =>
                              RDL (Addr.add ⟨B10, 0, none⟩ 1) fun x46 l47 c48 =>
                                CALL Pg W F_ref13_Prizes [(.agg #[(.slice x43 l44 c45), (.slice x46 l47 c48)])]
                                  (fun v49 => TYB v49 fun b51 =>
                                    BR (!b51)
                                      (BR (n42 == 1)
                                        (BR (n34 == 0)
                                          (BR ((↑l38 : Int) == 0)
                                            (CALL Pg W F_law13_awake []
                                              (fun v52 => TYB v52 fun b54 =>
                                                R (.returned (.bool b54)))
                                                (fun e53 => R (.panicked e53)))
                                            (R (.returned (.bool false))))
                                          (R (.returned (.bool false))))
                                        (R (.returned (.bool false))))
                                      (RDL (Addr.add ⟨B10, 0, none⟩ 0) fun x55 l56 c57 =>
                                        RDL (Addr.add ⟨B10, 0, none⟩ 1) fun x58 l59 c60 =>
                                          CALL Pg W F_prize_Worth [(.agg #[(.slice x55 l56 c57), (.slice x58 l59 c60)]), (.slice x37 l38 c39)]
                                            (fun v61 => TUP v61 fun q63 => HD q63 fun v64 r65 => TYL v64 fun x66 l67 c68 =>
                                              HD r65 fun v69 r70 => TYI .i64 v69 fun n71 =>
                                                HD r70 fun v72 r73 => TYI .i64 v72 fun n74 =>
                                                  NL r73 <|
                                                    RDL (Addr.add ⟨B10, 0, none⟩ 0) fun x75 l76 c77 =>
                                                      RDL (Addr.add ⟨B10, 0, none⟩ 1) fun x78 l79 c80 =>
                                                        CALL Pg W F_prize_Due [(.agg #[(.slice x75 l76 c77), (.slice x78 l79 c80)])]
                                                          (fun v81 => TUP v81 fun q83 => HD q83 fun v84 r85 => TYL v84 fun x86 l87 c88 =>
                                                            HD r85 fun v89 r90 => TYI .i64 v89 fun n91 =>
                                                              NL r90 <|
                                                                BR (n42 != 0)
                                                                  (J_law13_PrizeMost_7 W R true B10 x7 l8 c9 x86 l87 c88 n34 x37 l38 c39 n91)
                                                                  (J_law13_PrizeMost_7 W R (n74 != 0) B10 x7 l8 c9 x86 l87 c88 n34 x37 l38 c39 n91))
                                                            (fun e82 => R (.panicked e82)))
                                              (fun e62 => R (.panicked e62))))
                                    (fun e50 => R (.panicked e50)))
                      (fun e30 => R (.panicked e30))))
            (fun e18 => R (.panicked e18))
theorem T_law13_PrizeMost_eq (W : World) (x1 : Option Addr) (l2 : Nat) (c3 : Nat) (x4 : Option Addr) (l5 : Nat) (c6 : Nat) (x7 : Option Addr) (l8 : Nat) (c9 : Nat) (R : Ending → Hp → Prop) : vfun Pg W an_8 Try.f8 [(.agg #[(.slice x1 l2 c3), (.slice x4 l5 c6)]), (.slice x7 l8 c9)] R = T_law13_PrizeMost W x1 l2 c3 x4 l5 c6 x7 l8 c9 R := by kernel_rfl
theorem does_law13_PrizeMost (W : World) (x1 : Option Addr) (l2 : Nat) (c3 : Nat) (x4 : Option Addr) (l5 : Nat) (c6 : Nat) (x7 : Option Addr) (l8 : Nat) (c9 : Nat) (R : Ending → Hp → Prop) (s : Hp) (h : T_law13_PrizeMost W x1 l2 c3 x4 l5 c6 x7 l8 c9 R s) : Does Pg W F_law13_PrizeMost #[(.agg #[(.slice x1 l2 c3), (.slice x4 l5 c6)]), (.slice x7 l8 c9)] s R :=
  does_of_vfun Pg W an_8 Try.func8 rfl (by kernel_rfl) (by rw [T_law13_PrizeMost_eq]; exact h)
end Go.Proofs.Ytfaeokcbfnlgbaa.G

/- The statement PrizeMost. -/
set_option linter.unusedSimpArgs false
set_option linter.unusedVariables false
set_option maxRecDepth 20000
namespace Go.Proofs.Ytfaeokcbfnlgbaa.G
open Go.V
def bestL (T : PT) : List (Option Nat) := bestG T T.z 0 allF
section
variable {W : World} {K : VK} {E : List PanicEntry → Hp → Prop} {s : Hp} {T : PT}
theorem c_MostV {x y : Option Addr} {c c' : Nat} (hok : okP T = true) (hx : MnAt s x T.men) (hy : PzAt s y T.list) (h : ∀ s' q cq, Ext s s' → Fr s.size s' q T.z cq 1 (ints (manL (bestL T))) → K (.tuple #[.int .i64 (many (bestL T) : Nat), .slice q T.z cq, .int .i64 0]) s') :
    CALL Pg W F_prize_Most [.agg #[.slice x T.n c, .slice y T.z c']] K E s := by
  refine c_Most hx hy fun s' q cq e f => ?_
  have hl : (manL (bestL T)).length = T.z := by unfold manL bestL; rw [List.length_map, bestG_len]
  have hD : mostR T = (((many (bestL T) : Nat) : Int), manL (bestL T), 0) := by
    unfold mostR
    rw [if_pos hok]
    unfold bestL
    rw [bestG_many]
  rw [hD] at f ⊢
  simp only [hl] at f ⊢
  exact h s' q cq e f
theorem c_MostN {x y : Option Addr} {c c' : Nat} (hok : okP T = false) (hx : MnAt s x T.men) (hy : PzAt s y T.list) (h : ∀ s' q cq, Ext s s' → K (.tuple #[.int .i64 0, .slice q 0 cq, .int .i64 1]) s') :
    CALL Pg W F_prize_Most [.agg #[.slice x T.n c, .slice y T.z c']] K E s := by
  refine c_Most hx hy fun s' q cq e f => ?_
  have hD : mostR T = (0, [], 1) := by unfold mostR; rw [hok]; rfl
  rw [hD]
  exact h s' q cq e
theorem w_PrizeMost {x y q : Option Addr} {c c' cq : Nat} {bs : List Nat} (hx : MnAt s x T.men) (hy : PzAt s y T.list) (hq : RowAt s q (bytes bs)) (h256 : ∀ b ∈ bs, b < 256) (h : ∀ s', Ext s s' → K (.bool true) s') :
    CALL Pg W F_law13_PrizeMost [.agg #[.slice x T.n c, .slice y T.z c'], .slice q bs.length cq] K E s := by
  refine does_law13_PrizeMost W x T.n c y T.z c' q bs.length cq _ s ?_
  unfold T_law13_PrizeMost
  refine ne2 fun s1 e1 z1 o1 o2 => ?_
  have c0 := o1.cell
  have c1 := o2.cell
  refine ⟨_, _, _, c0, _, _, _, c1, ?_⟩
  refine c_far fun s2 b e2 hb => ?_
  try simp only [TUP_mk, AGG_mk, HD_mk, NL_mk, TYI_mk, TYB_mk, TYP_mk, TYL_mk, TYS_mk, TYM_mk, SO_mk, NX_mk, endK_mk, endK_mk', add_0]
  refine BR_bool (fun _ => c_awake' e2 fun t et => h t (e1.trans et)) (fun hf => ?_)
  have rx : ∀ {t : Hp}, Ext s1 t → MnAt t x T.men := fun e => hx.ext (e1.trans e)
  have ry : ∀ {t : Hp}, Ext s1 t → PzAt t y T.list := fun e => hy.ext (e1.trans e)
  refine ⟨_, _, _, e2.cell c0, _, _, _, e2.cell c1, ?_⟩
  cases hok : okP T with
  | false =>
    refine c_MostN hok (rx e2) (ry e2) fun s3 w cw e3 => ?_
    try simp only [TUP_mk, AGG_mk, HD_mk, NL_mk, TYI_mk, TYB_mk, TYP_mk, TYL_mk, TYS_mk, TYM_mk, SO_mk, NX_mk, endK_mk, endK_mk', add_0]
    have g3 := e2.trans e3
    refine ⟨_, _, _, g3.cell c0, _, _, _, g3.cell c1, ?_⟩
    refine f_Prizes (rx g3) (ry g3) fun s4 e4 => ?_
    try simp only [TUP_mk, AGG_mk, HD_mk, NL_mk, TYI_mk, TYB_mk, TYP_mk, TYL_mk, TYS_mk, TYM_mk, SO_mk, NX_mk, endK_mk, endK_mk', add_0]
    rw [hok]
    refine BR_tt rfl ?_
    refine BR_tt rfl ?_
    refine BR_tt rfl ?_
    refine BR_tt rfl ?_
    exact c_awake' (g3.trans e4) fun t et => h t (e1.trans et)
  | true =>
    have hv := okP_vd hok
    have h8 := hv.n8
    have h6 := hv.z6
    obtain ⟨kb, cb⟩ := legit_okG (bestG_legit T T.z 0 allF)
    have lb : (bestL T).length = T.z := bestG_len T _ _ _
    have ld : (dueP T).length = T.z := dueL_len T T.z
    have lmb : (manL (bestL T)).length = T.z := by unfold manL; rw [List.length_map]; exact lb
    have kd := due_okG hv T.z
    have cd := due_canG hv
    have most : ∀ g, OkG T g → CanG T g → g.length = T.z → many g ≤ many (bestL T) := fun g h1 h2 h3 => by
      have := legit_le (okG_legit h1 h2)
      rw [h3] at this
      unfold bestL
      rw [bestG_many]; exact this
    refine c_MostV hok (rx e2) (ry e2) fun s3 w cw e3 f3 => ?_
    try simp only [TUP_mk, AGG_mk, HD_mk, NL_mk, TYI_mk, TYB_mk, TYP_mk, TYL_mk, TYS_mk, TYM_mk, SO_mk, NX_mk, endK_mk, endK_mk', add_0]
    have g3 := e2.trans e3
    refine ⟨_, _, _, g3.cell c0, _, _, _, g3.cell c1, ?_⟩
    refine f_Prizes (rx g3) (ry g3) fun s4 e4 => ?_
    try simp only [TUP_mk, AGG_mk, HD_mk, NL_mk, TYI_mk, TYB_mk, TYP_mk, TYL_mk, TYS_mk, TYM_mk, SO_mk, NX_mk, endK_mk, endK_mk', add_0]
    rw [hok]
    have g4 := g3.trans e4
    refine BR_ff rfl ?_
    refine ⟨_, _, _, g4.cell c0, _, _, _, g4.cell c1, ?_⟩
    refine c_WorthL lmb.symm (rx g4) (ry g4) (f3.row.ext e4) fun s5 v cv e5 f5 => ?_
    rw [worth_ok (g := bestL T) hok kb cb lb] at f5 ⊢
    try simp only [TUP_mk, AGG_mk, HD_mk, NL_mk, TYI_mk, TYB_mk, TYP_mk, TYL_mk, TYS_mk, TYM_mk, SO_mk, NX_mk, endK_mk, endK_mk', add_0]
    have g5 := g4.trans e5
    refine ⟨_, _, _, g5.cell c0, _, _, _, g5.cell c1, ?_⟩
    refine c_DueV hok (rx g5) (ry g5) fun s6 d cd' e6 f6 => ?_
    try simp only [TUP_mk, AGG_mk, HD_mk, NL_mk, TYI_mk, TYB_mk, TYP_mk, TYL_mk, TYS_mk, TYM_mk, SO_mk, NX_mk, endK_mk, endK_mk', add_0]
    have g6 := g5.trans e6
    have rl : ∀ {t : Hp}, Ext s6 t → RowAt t w (ints (manL (bestL T))) := fun e => f3.row.ext (e4.trans (e5.trans (e6.trans e)))
    have rd : ∀ {t : Hp}, Ext s6 t → RowAt t d (ints (manL (dueP T))) := fun e => f6.row.ext e
    refine BR_ff rfl ?_
    unfold J_law13_PrizeMost_7
    refine BR_ff rfl ?_
    unfold J_law13_PrizeMost_6
    refine BR_ff rfl ?_
    refine ⟨_, _, _, g6.cell c1, ?_⟩
    unfold J_law13_PrizeMost_5
    refine BR_ff (by simp) ?_
    refine ⟨_, _, _, g6.cell c1, ?_⟩
    unfold J_law13_PrizeMost_4
    refine BR_ff (by simp) ?_
    refine f_Many (rl (Ext.refl _)) lmb.symm (by omega) ?_
    try simp only [TUP_mk, AGG_mk, HD_mk, NL_mk, TYI_mk, TYB_mk, TYP_mk, TYL_mk, TYS_mk, TYM_mk, SO_mk, NX_mk, endK_mk, endK_mk', add_0]
    rw [cntG_man]
    unfold J_law13_PrizeMost_3
    refine BR_ff (by simp) ?_
    refine f_Many (rd (Ext.refl _)) (due_len T).symm (by rw [due_len]; omega) ?_
    try simp only [TUP_mk, AGG_mk, HD_mk, NL_mk, TYI_mk, TYB_mk, TYP_mk, TYL_mk, TYS_mk, TYM_mk, SO_mk, NX_mk, endK_mk, endK_mk', add_0]
    rw [cntG_man]
    unfold J_law13_PrizeMost_2
    have hmd := most (dueP T) kd cd ld
    refine BR_ff (decide_eq_false (by omega)) ?_
    refine ⟨_, _, _, g6.cell c0, ?_⟩
    have hnn := many_le_n kb
    have hnz : many (bestL T) ≤ T.z := by unfold bestL; rw [bestG_many]; exact opt_le T _ _ _
    unfold J_law13_PrizeMost_1
    refine BR_ff (decide_eq_false (by show ¬ ((many (bestL T) : Nat) : Int) > T.n; have : many (bestL T) ≤ T.n := hnn; omega)) ?_
    refine ⟨_, _, _, g6.cell c1, ?_⟩
    unfold J_law13_PrizeMost_0
    refine BR_ff (decide_eq_false (by omega)) ?_
    refine ⟨_, _, _, g6.cell c0, _, _, _, g6.cell c1, ?_⟩
    refine w_made hok (rx g6) (ry g6) (hq.ext (e1.trans g6)) h256 fun s7 u cu e7 f7 => ?_
    try simp only [TUP_mk, AGG_mk, HD_mk, NL_mk, TYI_mk, TYB_mk, TYP_mk, TYL_mk, TYS_mk, TYM_mk, SO_mk, NX_mk, endK_mk, endK_mk', add_0]
    refine ne2 fun s8 e8 z8 p1 p2 => ?_
    have e68 := e7.trans e8
    have g8 := g6.trans e68
    have km := made_okG T bs true T.z
    have cm : CanG T (madeL T bs true T.z) := made_can T bs T.z
    have lm := madeL_len T bs true T.z
    have get : ∀ i, i < 2 → ∀ t, Ext s8 t → ∃ g v cv, cellAt t ((⟨s7.size, 0, none⟩ : Addr).add (i * 1)) = some (.slice v T.z cv) ∧ RowAt t v (ints (manL g)) ∧ OkG T g ∧ CanG T g ∧ g.length = T.z := by
      intro i hi t et
      match i, hi with
      | 0, _ => exact ⟨_, u, cu, et.cell p1.cell, f7.row.ext (e8.trans et), km, cm, lm⟩
      | 1, _ => exact ⟨_, d, cd', et.cell p2.cell, rd (e68.trans et), kd, cd, ld⟩
    refine L_law13_PrizeMost_0_rule W _ (many (bestL T) : Nat) w T.z cw ⟨s7.size, 0, none⟩ (fun _ n131 t => Ext s8 t ∧ ∃ i : Nat, i ≤ 2 ∧ n131 = i) (fun _ n131 _ => ((2 : Int) - n131).toNat) false 0 s8 ⟨Ext.refl _, 0, by omega, rfl⟩ ?_
    rintro b130 n131 t ⟨et, i, hi, rfl⟩
    unfold B_law13_PrizeMost_0
    refine BR_dec (fun hlt => ?_) (fun hlt => ?_)
    · have hi2 : i < 2 := by omega
      obtain ⟨g, v, cv, hc, hr, hk, hcan, hlen⟩ := get i hi2 t et
      have lmg : (manL g).length = T.z := by unfold manL; rw [List.length_map]; exact hlen
      refine IXS_nat hi2 ?_
      refine ⟨_, _, _, hc, ?_⟩
      refine f_Many hr lmg.symm (by omega) ?_
      try simp only [TUP_mk, AGG_mk, HD_mk, NL_mk, TYI_mk, TYB_mk, TYP_mk, TYL_mk, TYS_mk, TYM_mk, SO_mk, NX_mk, endK_mk, endK_mk', add_0]
      rw [cntG_man]
      have hmg := most g hk hcan hlen
      refine BR_ff (decide_eq_false (by omega)) ?_
      generalize hnx : (fun vs => N_law13_PrizeMost_0 _ _ _ _ t vs) = nx
      have done : ∀ (b : Bool) (t' : Hp), Ext t t' → nx [.bool b, .int .i64 (IntKind.i64.wrap ((i : Int) + 1))] t' := fun b t' et' => by
        rw [← hnx]
        exact ⟨_, _, rfl, ⟨et.trans et', i + 1, by omega, wrap_succ (by omega)⟩, by rw [wrap_succ (by omega)]; show ((2 : Int) - ((i + 1 : Nat) : Int)).toNat < ((2 : Int) - (i : Int)).toNat; omega⟩
      refine L_law13_PrizeMost_1_rule W _ nx (many (bestL T) : Nat) w T.z cw v T.z cv (many g : Nat) ⟨s7.size, 0, none⟩ i T.z (fun _ n143 t' => t' = t ∧ ∃ k : Nat, k ≤ T.z ∧ n143 = k ∧ ∀ j, j < k → g.getD j none = (bestL T).getD j none) (fun _ n143 _ => ((T.z : Int) - n143).toNat) b130 0 t ⟨rfl, 0, by omega, rfl, fun j hj => by omega⟩ ?_
      rintro b142 n143 t' ⟨rfl, k, hk', rfl, hag⟩
      unfold B_law13_PrizeMost_1
      refine BR_dec (fun hlt2 => ?_) (fun hlt2 => ?_)
      · have hkz : k < T.z := by omega
        obtain ⟨a1, ha1, ca1⟩ := row_int hr (by omega : k < (manL g).length)
        obtain ⟨a2, ha2, ca2⟩ := row_int (rl (e68.trans et)) (by omega : k < (manL (bestL T)).length)
        rw [man_getD (by omega)] at ca1 ca2
        refine IXS_at ha1 hkz ?_
        refine ⟨_, ca1, ?_⟩
        refine IXS_at ha2 hkz ?_
        refine ⟨_, ca2, ?_⟩
        have J8 : J_law13_PrizeMost_8 W (endK K E) false (many (bestL T) : Nat) w T.z cw ⟨s7.size, 0, none⟩ nx b142 i t' := by
          unfold J_law13_PrizeMost_8
          refine BR_ff rfl ?_
          exact ⟨rfl, done _ _ (Ext.refl _)⟩
        refine BR_ne (fun hne => ?_) (fun heq => ?_)
        · refine BR_eq (fun hmm => ?_) (fun _ => J8)
          have hlex := bestG_lex T.z 0 allF g (by have := okG_legit hk hcan; rw [hlen] at this; exact this) (by rw [← bestG_many]; show many g = many (bestL T); omega) k hag
          refine IXS_at ha1 hkz ?_
          refine ⟨_, ca1, ?_⟩
          refine IXS_at ha2 hkz ?_
          refine ⟨_, ca2, ?_⟩
          have hd : decide (manI (g.getD k none) < manI ((bestL T).getD k none)) = false := decide_eq_false (by
            have : manI ((bestL T).getD k none) ≤ manI (g.getD k none) := hlex
            omega)
          show J_law13_PrizeMost_8 W (endK K E) (decide (manI (g.getD k none) < manI ((bestL T).getD k none))) _ _ _ _ _ _ _ _ t'
          rw [hd]
          exact J8
        · refine ⟨rfl, _, _, rfl, ⟨rfl, k + 1, hkz, wrap_succ (by omega), fun j hj => ?_⟩, ms_succ hkz (by omega)⟩
          by_cases e : j = k
          · subst e
            cases h1 : g.getD j none with
            | none =>
              rw [h1] at heq
              cases h2 : (bestL T).getD j none with
              | none => rfl
              | some m => rw [h2] at heq; have heq : (-1 : Int) = (m : Nat) := heq; omega
            | some m' =>
              rw [h1] at heq
              cases h2 : (bestL T).getD j none with
              | none => rw [h2] at heq; have heq : ((m' : Nat) : Int) = -1 := heq; omega
              | some m => rw [h2] at heq; have heq : ((m' : Nat) : Int) = (m : Nat) := heq; congr 1; omega
          · exact hag j (by omega)
      · exact ⟨rfl, done _ _ (Ext.refl _)⟩
    · exact c_awake' (g8.trans et) fun v ev => h v (e1.trans ev)
end
end Go.Proofs.Ytfaeokcbfnlgbaa.G

/- More of the functions' shallow texts, by gen.py. -/
set_option linter.unusedVariables false
set_option maxRecDepth 100000
namespace Go.Proofs.Ytfaeokcbfnlgbaa.G
open Go.V
def an_12 : Nat → Ann := fun b => match b with
  | 0 => { ms := [66], ks := [.i .i64], us := [2, 3, 6, 7, 8, 9, 64, 65, 300], rt := false, ex := [] }
  | 2 => { ms := [6, 109], ks := [.b, .i .i64], us := [2, 3, 7, 8, 9, 12, 13, 14, 16, 107, 108, 300], rt := false, ex := [] }
  | 4 => { ms := [6, 234], ks := [.b, .i .i64], us := [3, 8, 12, 13, 14, 21, 23, 233, 300], rt := false, ex := [] }
  | 6 => { ms := [6, 263], ks := [.b, .i .i64], us := [3, 13, 14, 262, 300], rt := false, ex := [] }
  | 8 => { ms := [282], ks := [.i .i64], us := [3, 6, 14, 43, 281, 300], rt := false, ex := [] }
  | _ => {}
abbrev rv_12 : List ResultVar := [.tmp 6]
abbrev rs_12 : List Nat := [300, 6]
def L_law13_PrizeTurned_0 (W : World) (R : Ending → Hp → Prop) (zn0 : Int) (za1 : Addr) (za2 : Addr) (za3 : Addr) (za4 : Addr) (zp5 : Option Addr) (zl6 : Nat) (zl7 : Nat) (zn8 : Int) (n49 : Int) : Hp → Prop :=
  LOOPN [.i .i64] (fun ys next s => ∀ j : Tm, vc Pg W 300 rs_12 an_12 false (sub (bodyOf Try.f12) [1, 1, 1, 1, 1, 1, 0, 1, 0, 0]) 0 (KLoop [66] [2, 3, 6, 7, 8, 9, 64, 65, 300] [(.int .u8 zn0), (.pointer (some za1)), (.bool false), (.pointer (some za2)), (.func (.func 40) #[] #[(.pointer (some za3)), (.pointer (some za2))]), (.pointer (some za4)), (.slice zp5 zl6 zl7), (.int .i64 zn8), (.tuple #[])] next (KBlk 0 (KS Pg W 300 rs_12 an_12 false (sub (bodyOf Try.f12) [1, 1, 1, 1, 1, 1, 1]) 0 (fin Pg W 300 rv_12 R)))) (known [66] ys (known [2, 3, 6, 7, 8, 9, 64, 65, 300] [(.int .u8 zn0), (.pointer (some za1)), (.bool false), (.pointer (some za2)), (.func (.func 40) #[] #[(.pointer (some za3)), (.pointer (some za2))]), (.pointer (some za4)), (.slice zp5 zl6 zl7), (.int .i64 zn8), (.tuple #[])] j)) s) [(.int .i64 n49)]
def L_law13_PrizeTurned_1 (W : World) (R : Ending → Hp → Prop) (zn0 : Int) (za1 : Addr) (za2 : Addr) (za3 : Addr) (za4 : Addr) (zp5 : Option Addr) (zl6 : Nat) (zl7 : Nat) (zp8 : Option Addr) (zl9 : Nat) (zl10 : Nat) (zp11 : Option Addr) (zl12 : Nat) (zl13 : Nat) (zp14 : Option Addr) (zl15 : Nat) (zl16 : Nat) (zn17 : Int) (b183 : Bool) (n184 : Int) : Hp → Prop :=
  LOOPN [.b, .i .i64] (fun ys next s => ∀ j : Tm, vc Pg W 300 rs_12 an_12 false (sub (bodyOf Try.f12) [1, 1, 1, 1, 1, 1, 1, 1, 1, 1, 1, 0, 1, 0, 0]) 2 (KLoop [6, 109] [2, 3, 7, 8, 9, 12, 13, 14, 16, 107, 108, 300] [(.int .u8 zn0), (.pointer (some za1)), (.pointer (some za2)), (.func (.func 40) #[] #[(.pointer (some za3)), (.pointer (some za2))]), (.pointer (some za4)), (.slice zp5 zl6 zl7), (.slice zp8 zl9 zl10), (.slice zp11 zl12 zl13), (.slice zp14 zl15 zl16), (.slice zp11 zl12 zl13), (.int .i64 zn17), (.tuple #[])] next (KBlk 2 (KS Pg W 300 rs_12 an_12 false (sub (bodyOf Try.f12) [1, 1, 1, 1, 1, 1, 1, 1, 1, 1, 1, 1]) 0 (fin Pg W 300 rv_12 R)))) (known [6, 109] ys (known [2, 3, 7, 8, 9, 12, 13, 14, 16, 107, 108, 300] [(.int .u8 zn0), (.pointer (some za1)), (.pointer (some za2)), (.func (.func 40) #[] #[(.pointer (some za3)), (.pointer (some za2))]), (.pointer (some za4)), (.slice zp5 zl6 zl7), (.slice zp8 zl9 zl10), (.slice zp11 zl12 zl13), (.slice zp14 zl15 zl16), (.slice zp11 zl12 zl13), (.int .i64 zn17), (.tuple #[])] j)) s) [(.bool b183), (.int .i64 n184)]
def L_law13_PrizeTurned_2 (W : World) (R : Ending → Hp → Prop) (za0 : Addr) (za1 : Addr) (za2 : Addr) (zp3 : Option Addr) (zl4 : Nat) (zl5 : Nat) (zp6 : Option Addr) (zl7 : Nat) (zl8 : Nat) (zp9 : Option Addr) (zl10 : Nat) (zl11 : Nat) (zn12 : Int) (zn13 : Int) (zn14 : Int) (b364 : Bool) (n365 : Int) : Hp → Prop :=
  LOOPN [.b, .i .i64] (fun ys next s => ∀ j : Tm, vc Pg W 300 rs_12 an_12 false (sub (bodyOf Try.f12) [1, 1, 1, 1, 1, 1, 1, 1, 1, 1, 1, 1, 1, 1, 1, 1, 1, 1, 1, 1, 1, 1, 0, 1, 0, 0]) 4 (KLoop [6, 234] [3, 8, 12, 13, 14, 21, 23, 233, 300] [(.pointer (some za0)), (.func (.func 40) #[] #[(.pointer (some za1)), (.pointer (some za2))]), (.slice zp3 zl4 zl5), (.slice zp6 zl7 zl8), (.slice zp9 zl10 zl11), (.int .i64 zn12), (.int .i64 zn13), (.int .i64 zn14), (.tuple #[])] next (KBlk 4 (KS Pg W 300 rs_12 an_12 false (sub (bodyOf Try.f12) [1, 1, 1, 1, 1, 1, 1, 1, 1, 1, 1, 1, 1, 1, 1, 1, 1, 1, 1, 1, 1, 1, 1]) 0 (fin Pg W 300 rv_12 R)))) (known [6, 234] ys (known [3, 8, 12, 13, 14, 21, 23, 233, 300] [(.pointer (some za0)), (.func (.func 40) #[] #[(.pointer (some za1)), (.pointer (some za2))]), (.slice zp3 zl4 zl5), (.slice zp6 zl7 zl8), (.slice zp9 zl10 zl11), (.int .i64 zn12), (.int .i64 zn13), (.int .i64 zn14), (.tuple #[])] j)) s) [(.bool b364), (.int .i64 n365)]
def L_law13_PrizeTurned_3 (W : World) (R : Ending → Hp → Prop) (za0 : Addr) (zp1 : Option Addr) (zl2 : Nat) (zl3 : Nat) (zp4 : Option Addr) (zl5 : Nat) (zl6 : Nat) (zn7 : Int) (b383 : Bool) (n384 : Int) : Hp → Prop :=
  LOOPN [.b, .i .i64] (fun ys next s => ∀ j : Tm, vc Pg W 300 rs_12 an_12 false (sub (bodyOf Try.f12) [1, 1, 1, 1, 1, 1, 1, 1, 1, 1, 1, 1, 1, 1, 1, 1, 1, 1, 1, 1, 1, 1, 1, 0, 1, 0, 0]) 6 (KLoop [6, 263] [3, 13, 14, 262, 300] [(.pointer (some za0)), (.slice zp1 zl2 zl3), (.slice zp4 zl5 zl6), (.int .i64 zn7), (.tuple #[])] next (KBlk 6 (KS Pg W 300 rs_12 an_12 false (sub (bodyOf Try.f12) [1, 1, 1, 1, 1, 1, 1, 1, 1, 1, 1, 1, 1, 1, 1, 1, 1, 1, 1, 1, 1, 1, 1, 1]) 0 (fin Pg W 300 rv_12 R)))) (known [6, 263] ys (known [3, 13, 14, 262, 300] [(.pointer (some za0)), (.slice zp1 zl2 zl3), (.slice zp4 zl5 zl6), (.int .i64 zn7), (.tuple #[])] j)) s) [(.bool b383), (.int .i64 n384)]
def L_law13_PrizeTurned_4 (W : World) (R : Ending → Hp → Prop) (za0 : Addr) (zb1 : Bool) (zp2 : Option Addr) (zl3 : Nat) (zl4 : Nat) (zp5 : Option Addr) (zl6 : Nat) (zl7 : Nat) (zn8 : Int) (n398 : Int) : Hp → Prop :=
  LOOPN [.i .i64] (fun ys next s => ∀ j : Tm, vc Pg W 300 rs_12 an_12 false (sub (bodyOf Try.f12) [1, 1, 1, 1, 1, 1, 1, 1, 1, 1, 1, 1, 1, 1, 1, 1, 1, 1, 1, 1, 1, 1, 1, 1, 1, 0, 1, 0, 0]) 8 (KLoop [282] [3, 6, 14, 43, 281, 300] [(.pointer (some za0)), (.bool zb1), (.slice zp2 zl3 zl4), (.slice zp5 zl6 zl7), (.int .i64 zn8), (.tuple #[])] next (KBlk 8 (KS Pg W 300 rs_12 an_12 false (sub (bodyOf Try.f12) [1, 1, 1, 1, 1, 1, 1, 1, 1, 1, 1, 1, 1, 1, 1, 1, 1, 1, 1, 1, 1, 1, 1, 1, 1, 1]) 0 (fin Pg W 300 rv_12 R)))) (known [282] ys (known [3, 6, 14, 43, 281, 300] [(.pointer (some za0)), (.bool zb1), (.slice zp2 zl3 zl4), (.slice zp5 zl6 zl7), (.int .i64 zn8), (.tuple #[])] j)) s) [(.int .i64 n398)]
def J_law13_PrizeTurned_0 (W : World) (R : Ending → Hp → Prop) (b20 : Bool) (B9 : Nat) (n8 : Int) (B10 : Nat) : Hp → Prop :=
  BR b20
    (CALL Pg W F_law13_awake []
      (fun v21 => TYB v21 fun b23 =>
        R (.returned (.bool b23)))
        (fun e22 => R (.panicked e22)))
    (RDL (Addr.add ⟨B9, 0, none⟩ 0) fun x24 l25 c26 =>
      NEWZ Pg 3 fun B27 =>
        WR (Addr.add ⟨B27, 0, none⟩ 0) (.int .i64 (↑l25 : Int)) <|
          RDL (Addr.add ⟨B9, 0, none⟩ 0) fun x28 l29 c30 =>
            RDL (Addr.add ⟨B9, 0, none⟩ 1) fun x31 l32 c33 =>
              NEWZ Pg 25 fun B34 =>
                WR (Addr.add ⟨B34, 0, none⟩ 0) (.slice x28 l29 c30) <|
                  WR (Addr.add ⟨B34, 0, none⟩ 1) (.slice x31 l32 c33) <|
                    RDI .i64 ⟨B27, 0, none⟩ fun n35 =>
                      MKS Pg 48 n35 n35 fun B36 =>
                        WR (Addr.add (Addr.add ⟨B34, 0, none⟩ 0) 0) (.slice (some ⟨B36, 0, none⟩) (Int.toNat n35) (Int.toNat n35)) <|
                          RDL (Addr.add ⟨B9, 0, none⟩ 0) fun x37 l38 c39 =>
                            L_law13_PrizeTurned_0 W R n8 ⟨B9, 0, none⟩ ⟨B27, 0, none⟩ ⟨B10, 0, none⟩ ⟨B34, 0, none⟩ x37 l38 c39 (↑l38 : Int) 0)
def J_law13_PrizeTurned_1 (W : World) (R : Ending → Hp → Prop) (b143 : Bool) (zn0 : Int) (za1 : Addr) (za2 : Addr) (za3 : Addr) (za4 : Addr) (x103 : Option Addr) (l104 : Nat) (c105 : Nat) (x106 : Option Addr) (l107 : Nat) (c108 : Nat) (x120 : Option Addr) (l121 : Nat) (c122 : Nat) (x137 : Option Addr) (l138 : Nat) (c139 : Nat) : Hp → Prop :=
  BR b143
    (R (.returned (.bool false)))
    (L_law13_PrizeTurned_1 W R zn0 za1 za2 za3 za4 x103 l104 c105 x106 l107 c108 x120 l121 c122 x137 l138 c139 (↑l121 : Int) false 0)
def J_law13_PrizeTurned_2 (W : World) (R : Ending → Hp → Prop) (za1 : Addr) (za4 : Addr) (zn0 : Int) (za2 : Addr) (za3 : Addr) (x103 : Option Addr) (l104 : Nat) (c105 : Nat) (x106 : Option Addr) (l107 : Nat) (c108 : Nat) : Hp → Prop :=
  RDL (Addr.add za1 0) fun x109 l110 c111 =>
    RDL (Addr.add za1 1) fun x112 l113 c114 =>
      CALL Pg W F_prize_Due [(.agg #[(.slice x109 l110 c111), (.slice x112 l113 c114)])]
        (fun v115 => TUP v115 fun q117 => HD q117 fun v118 r119 => TYL v118 fun x120 l121 c122 =>
          HD r119 fun v123 r124 => TYI .i64 v123 fun n125 =>
            NL r124 <|
              RDL (Addr.add za4 0) fun x126 l127 c128 =>
                RDL (Addr.add za4 1) fun x129 l130 c131 =>
                  CALL Pg W F_prize_Due [(.agg #[(.slice x126 l127 c128), (.slice x129 l130 c131)])]
                    (fun v132 => TUP v132 fun q134 => HD q134 fun v135 r136 => TYL v135 fun x137 l138 c139 =>
                      HD r136 fun v140 r141 => TYI .i64 v140 fun n142 =>
                        NL r141 <|
                          BR (n125 != n142)
                            (J_law13_PrizeTurned_1 W R true zn0 za1 za2 za3 za4 x103 l104 c105 x106 l107 c108 x120 l121 c122 x137 l138 c139)
                            (J_law13_PrizeTurned_1 W R ((↑l121 : Int) != (↑l138 : Int)) zn0 za1 za2 za3 za4 x103 l104 c105 x106 l107 c108 x120 l121 c122 x137 l138 c139))
                      (fun e133 => R (.panicked e133)))
          (fun e116 => R (.panicked e116))
def J_law13_PrizeTurned_3 (W : World) (R : Ending → Hp → Prop) (b193 : Bool) (zn0 : Int) (za1 : Addr) (za2 : Addr) (za3 : Addr) (za4 : Addr) (zp5 : Option Addr) (zl6 : Nat) (zl7 : Nat) (zp8 : Option Addr) (zl9 : Nat) (zl10 : Nat) (zp11 : Option Addr) (zl12 : Nat) (zl13 : Nat) (zp14 : Option Addr) (zl15 : Nat) (zl16 : Nat) (zn17 : Int) (nx1 : List Value → Hp → Prop) (b183 : Bool) (n184 : Int) : Hp → Prop :=
  BR b193
    (R (.returned (.bool false)))
    (NX [(.int .u8 zn0), (.pointer (some za1)), (.pointer (some za2)), (.func (.func 40) #[] #[(.pointer (some za3)), (.pointer (some za2))]), (.pointer (some za4)), (.slice zp5 zl6 zl7), (.slice zp8 zl9 zl10), (.slice zp11 zl12 zl13), (.slice zp14 zl15 zl16), (.slice zp11 zl12 zl13), (.int .i64 zn17), (.tuple #[])] [(.int .u8 zn0), (.pointer (some za1)), (.pointer (some za2)), (.func (.func 40) #[] #[(.pointer (some za3)), (.pointer (some za2))]), (.pointer (some za4)), (.slice zp5 zl6 zl7), (.slice zp8 zl9 zl10), (.slice zp11 zl12 zl13), (.slice zp14 zl15 zl16), (.slice zp11 zl12 zl13), (.int .i64 zn17), (.tuple #[])] (nx1 [(.bool b183), (.int .i64 (IntKind.wrap .i64 (n184 + 1)))]))
def J_law13_PrizeTurned_4 (W : World) (R : Ending → Hp → Prop) (b192 : Bool) (zn0 : Int) (za1 : Addr) (za2 : Addr) (za3 : Addr) (za4 : Addr) (zp5 : Option Addr) (zl6 : Nat) (zl7 : Nat) (zp8 : Option Addr) (zl9 : Nat) (zl10 : Nat) (zp11 : Option Addr) (zl12 : Nat) (zl13 : Nat) (zp14 : Option Addr) (zl15 : Nat) (zl16 : Nat) (zn17 : Int) (nx1 : List Value → Hp → Prop) (b183 : Bool) (n184 : Int) (n186 : Int) : Hp → Prop :=
  BR b192
    (J_law13_PrizeTurned_3 W R true zn0 za1 za2 za3 za4 zp5 zl6 zl7 zp8 zl9 zl10 zp11 zl12 zl13 zp14 zl15 zl16 zn17 nx1 b183 n184)
    (BR (decide (n186 ≥ 0))
      (IXS zp14 zl15 n184 1 fun a194 =>
        RDI .i64 a194 fun n195 =>
          CALLV Pg W (.func (.func 40) #[] #[(.pointer (some za3)), (.pointer (some za2))]) [(.int .i64 n186)]
            (fun v196 => TYI .i64 v196 fun n198 =>
              ANDS (RDI .i64 a194 fun n200 =>
                fun _ => ((.int .i64 n200) : Value) = (.int .i64 n195)) <|
                J_law13_PrizeTurned_3 W R (n195 != n198) zn0 za1 za2 za3 za4 zp5 zl6 zl7 zp8 zl9 zl10 zp11 zl12 zl13 zp14 zl15 zl16 zn17 nx1 b183 n184)
              (fun e197 => R (.panicked e197)))
      (J_law13_PrizeTurned_3 W R false zn0 za1 za2 za3 za4 zp5 zl6 zl7 zp8 zl9 zl10 zp11 zl12 zl13 zp14 zl15 zl16 zn17 nx1 b183 n184))
def J_law13_PrizeTurned_5 (W : World) (R : Ending → Hp → Prop) (b362 : Bool) (za2 : Addr) (za1 : Addr) (za3 : Addr) (zp5 : Option Addr) (zl6 : Nat) (zl7 : Nat) (zp8 : Option Addr) (zl9 : Nat) (zl10 : Nat) (zp11 : Option Addr) (zl12 : Nat) (zl13 : Nat) (n213 : Int) (n237 : Int) (b183 : Bool) : Hp → Prop :=
  BR b362
    (R (.returned (.bool false)))
    (RDI .i64 za2 fun n363 =>
      L_law13_PrizeTurned_2 W R za1 za3 za2 zp5 zl6 zl7 zp8 zl9 zl10 zp11 zl12 zl13 n213 n237 n363 b183 0)
def J_law13_PrizeTurned_6 (W : World) (R : Ending → Hp → Prop) (b361 : Bool) (za2 : Addr) (za1 : Addr) (za3 : Addr) (zp5 : Option Addr) (zl6 : Nat) (zl7 : Nat) (zp8 : Option Addr) (zl9 : Nat) (zl10 : Nat) (zp11 : Option Addr) (zl12 : Nat) (zl13 : Nat) (n213 : Int) (n237 : Int) (b183 : Bool) (n335 : Int) (n355 : Int) : Hp → Prop :=
  BR b361
    (J_law13_PrizeTurned_5 W R true za2 za1 za3 zp5 zl6 zl7 zp8 zl9 zl10 zp11 zl12 zl13 n213 n237 b183)
    (J_law13_PrizeTurned_5 W R (n335 != n355) za2 za1 za3 zp5 zl6 zl7 zp8 zl9 zl10 zp11 zl12 zl13 n213 n237 b183)
def J_law13_PrizeTurned_7 (W : World) (R : Ending → Hp → Prop) (b360 : Bool) (za2 : Addr) (za1 : Addr) (za3 : Addr) (zp5 : Option Addr) (zl6 : Nat) (zl7 : Nat) (zp8 : Option Addr) (zl9 : Nat) (zl10 : Nat) (zp11 : Option Addr) (zl12 : Nat) (zl13 : Nat) (n213 : Int) (n237 : Int) (b183 : Bool) (n335 : Int) (n355 : Int) (n327 : Int) (n347 : Int) : Hp → Prop :=
  BR b360
    (J_law13_PrizeTurned_6 W R true za2 za1 za3 zp5 zl6 zl7 zp8 zl9 zl10 zp11 zl12 zl13 n213 n237 b183 n335 n355)
    (J_law13_PrizeTurned_6 W R (n327 != n347) za2 za1 za3 zp5 zl6 zl7 zp8 zl9 zl10 zp11 zl12 zl13 n213 n237 b183 n335 n355)
def J_law13_PrizeTurned_8 (W : World) (R : Ending → Hp → Prop) (b359 : Bool) (za2 : Addr) (za1 : Addr) (za3 : Addr) (zp5 : Option Addr) (zl6 : Nat) (zl7 : Nat) (zp8 : Option Addr) (zl9 : Nat) (zl10 : Nat) (zp11 : Option Addr) (zl12 : Nat) (zl13 : Nat) (n213 : Int) (n237 : Int) (b183 : Bool) (n335 : Int) (n355 : Int) (n327 : Int) (n347 : Int) (n297 : Int) (n315 : Int) : Hp → Prop :=
  BR b359
    (J_law13_PrizeTurned_7 W R true za2 za1 za3 zp5 zl6 zl7 zp8 zl9 zl10 zp11 zl12 zl13 n213 n237 b183 n335 n355 n327 n347)
    (J_law13_PrizeTurned_7 W R (n297 != n315) za2 za1 za3 zp5 zl6 zl7 zp8 zl9 zl10 zp11 zl12 zl13 n213 n237 b183 n335 n355 n327 n347)
def J_law13_PrizeTurned_9 (W : World) (R : Ending → Hp → Prop) (b358 : Bool) (za2 : Addr) (za1 : Addr) (za3 : Addr) (zp5 : Option Addr) (zl6 : Nat) (zl7 : Nat) (zp8 : Option Addr) (zl9 : Nat) (zl10 : Nat) (zp11 : Option Addr) (zl12 : Nat) (zl13 : Nat) (n213 : Int) (n237 : Int) (b183 : Bool) (n335 : Int) (n355 : Int) (n327 : Int) (n347 : Int) (n297 : Int) (n315 : Int) (n294 : Int) (n312 : Int) : Hp → Prop :=
  BR b358
    (J_law13_PrizeTurned_8 W R true za2 za1 za3 zp5 zl6 zl7 zp8 zl9 zl10 zp11 zl12 zl13 n213 n237 b183 n335 n355 n327 n347 n297 n315)
    (J_law13_PrizeTurned_8 W R (n294 != n312) za2 za1 za3 zp5 zl6 zl7 zp8 zl9 zl10 zp11 zl12 zl13 n213 n237 b183 n335 n355 n327 n347 n297 n315)
def J_law13_PrizeTurned_10 (W : World) (R : Ending → Hp → Prop) (b357 : Bool) (za2 : Addr) (za1 : Addr) (za3 : Addr) (zp5 : Option Addr) (zl6 : Nat) (zl7 : Nat) (zp8 : Option Addr) (zl9 : Nat) (zl10 : Nat) (zp11 : Option Addr) (zl12 : Nat) (zl13 : Nat) (n213 : Int) (n237 : Int) (b183 : Bool) (n335 : Int) (n355 : Int) (n327 : Int) (n347 : Int) (n297 : Int) (n315 : Int) (n294 : Int) (n312 : Int) (n291 : Int) (n309 : Int) : Hp → Prop :=
  BR b357
    (J_law13_PrizeTurned_9 W R true za2 za1 za3 zp5 zl6 zl7 zp8 zl9 zl10 zp11 zl12 zl13 n213 n237 b183 n335 n355 n327 n347 n297 n315 n294 n312)
    (J_law13_PrizeTurned_9 W R (n291 != n309) za2 za1 za3 zp5 zl6 zl7 zp8 zl9 zl10 zp11 zl12 zl13 n213 n237 b183 n335 n355 n327 n347 n297 n315 n294 n312)
def J_law13_PrizeTurned_11 (W : World) (R : Ending → Hp → Prop) (b356 : Bool) (za2 : Addr) (za1 : Addr) (za3 : Addr) (zp5 : Option Addr) (zl6 : Nat) (zl7 : Nat) (zp8 : Option Addr) (zl9 : Nat) (zl10 : Nat) (zp11 : Option Addr) (zl12 : Nat) (zl13 : Nat) (n213 : Int) (n237 : Int) (b183 : Bool) (n335 : Int) (n355 : Int) (n327 : Int) (n347 : Int) (n297 : Int) (n315 : Int) (n294 : Int) (n312 : Int) (n291 : Int) (n309 : Int) (n255 : Int) (n279 : Int) : Hp → Prop :=
  BR b356
    (J_law13_PrizeTurned_10 W R true za2 za1 za3 zp5 zl6 zl7 zp8 zl9 zl10 zp11 zl12 zl13 n213 n237 b183 n335 n355 n327 n347 n297 n315 n294 n312 n291 n309)
    (J_law13_PrizeTurned_10 W R (n255 != n279) za2 za1 za3 zp5 zl6 zl7 zp8 zl9 zl10 zp11 zl12 zl13 n213 n237 b183 n335 n355 n327 n347 n297 n315 n294 n312 n291 n309)
def J_law13_PrizeTurned_12 (W : World) (R : Ending → Hp → Prop) (b369 : Bool) (za0 : Addr) (za1 : Addr) (za2 : Addr) (zp3 : Option Addr) (zl4 : Nat) (zl5 : Nat) (zp6 : Option Addr) (zl7 : Nat) (zl8 : Nat) (zp9 : Option Addr) (zl10 : Nat) (zl11 : Nat) (zn12 : Int) (zn13 : Int) (zn14 : Int) (nx2 : List Value → Hp → Prop) (b364 : Bool) (n365 : Int) : Hp → Prop :=
  BR b369
    (R (.returned (.bool false)))
    (NX [(.pointer (some za0)), (.func (.func 40) #[] #[(.pointer (some za1)), (.pointer (some za2))]), (.slice zp3 zl4 zl5), (.slice zp6 zl7 zl8), (.slice zp9 zl10 zl11), (.int .i64 zn12), (.int .i64 zn13), (.int .i64 zn14), (.tuple #[])] [(.pointer (some za0)), (.func (.func 40) #[] #[(.pointer (some za1)), (.pointer (some za2))]), (.slice zp3 zl4 zl5), (.slice zp6 zl7 zl8), (.slice zp9 zl10 zl11), (.int .i64 zn12), (.int .i64 zn13), (.int .i64 zn14), (.tuple #[])] (nx2 [(.bool b364), (.int .i64 (IntKind.wrap .i64 (n365 + 1)))]))
def B_law13_PrizeTurned_0 (W : World) (R : Ending → Hp → Prop) (zn0 : Int) (za1 : Addr) (za2 : Addr) (za3 : Addr) (za4 : Addr) (zp5 : Option Addr) (zl6 : Nat) (zl7 : Nat) (zn8 : Int) (n49 : Int) (nx0 : List Value → Hp → Prop) : Hp → Prop :=
  BR (decide (n49 < zn8))
    (IXS zp5 zl6 n49 4 fun a50 =>
      RDI .i64 (Addr.add a50 0) fun n51 =>
        RDI .i64 (Addr.add a50 1) fun n52 =>
          RDB (Addr.add a50 2) fun b53 =>
            RDB (Addr.add a50 3) fun b54 =>
              NEWZ Pg 48 fun B55 =>
                WR (Addr.add ⟨B55, 0, none⟩ 0) (.int .i64 n51) <|
                  WR (Addr.add ⟨B55, 0, none⟩ 1) (.int .i64 n52) <|
                    WR (Addr.add ⟨B55, 0, none⟩ 2) (.bool b53) <|
                      WR (Addr.add ⟨B55, 0, none⟩ 3) (.bool b54) <|
                        RDL (Addr.add za4 0) fun x56 l57 c58 =>
                          RDI .i64 (Addr.add ⟨B55, 0, none⟩ 0) fun n59 =>
                            RDI .i64 (Addr.add ⟨B55, 0, none⟩ 1) fun n60 =>
                              RDB (Addr.add ⟨B55, 0, none⟩ 2) fun b61 =>
                                RDB (Addr.add ⟨B55, 0, none⟩ 3) fun b62 =>
                                  CALLV Pg W (.func (.func 40) #[] #[(.pointer (some za3)), (.pointer (some za2))]) [(.int .i64 n49)]
                                    (fun v63 => TYI .i64 v63 fun n65 =>
                                      ANDS (RDI .i64 (Addr.add ⟨B55, 0, none⟩ 0) fun n66 =>
                                        RDI .i64 (Addr.add ⟨B55, 0, none⟩ 1) fun n67 =>
                                          RDB (Addr.add ⟨B55, 0, none⟩ 2) fun b68 =>
                                            RDB (Addr.add ⟨B55, 0, none⟩ 3) fun b69 =>
                                              fun _ => ((.agg #[(.int .i64 n66), (.int .i64 n67), (.bool b68), (.bool b69)]) : Value) = (.agg #[(.int .i64 n59), (.int .i64 n60), (.bool b61), (.bool b62)])) <|
                                        ANDS (RDL (Addr.add za4 0) fun x70 l71 c72 =>
                                          fun _ => ((.slice x70 l71 c72) : Value) = (.slice x56 l57 c58)) <|
                                          IXS x56 l57 n65 4 fun a73 =>
                                            WR (Addr.add a73 0) (.int .i64 n59) <|
                                              WR (Addr.add a73 1) (.int .i64 n60) <|
                                                WR (Addr.add a73 2) (.bool b61) <|
                                                  WR (Addr.add a73 3) (.bool b62) <|
                                                    NX [(.int .u8 zn0), (.pointer (some za1)), (.bool false), (.pointer (some za2)), (.func (.func 40) #[] #[(.pointer (some za3)), (.pointer (some za2))]), (.pointer (some za4)), (.slice zp5 zl6 zl7), (.int .i64 zn8), (.tuple #[])] [(.int .u8 zn0), (.pointer (some za1)), (.bool false), (.pointer (some za2)), (.func (.func 40) #[] #[(.pointer (some za3)), (.pointer (some za2))]), (.pointer (some za4)), (.slice zp5 zl6 zl7), (.int .i64 zn8), (.tuple #[])] (nx0 [(.int .i64 (IntKind.wrap .i64 (n49 + 1)))]))
                                      (fun e64 => R (.panicked e64)))
    (RDL (Addr.add za1 0) fun x74 l75 c76 =>
      RDL (Addr.add za1 1) fun x77 l78 c79 =>
        CONJ [
          NEW 48 [] fun B80 =>
            ANDS (RDL (Addr.add za1 1) fun x81 l82 c83 =>
              fun _ => ((.slice x81 l82 c83) : Value) = (.slice x77 l78 c79)) <|
              ANDS (RDL (Addr.add za1 0) fun x84 l85 c86 =>
                fun _ => ((.slice x84 l85 c86) : Value) = (.slice x74 l75 c76)) <|
                CONJ [
                  APP Pg 48 4 (some ⟨B80, 0, none⟩) 0 0 x74 l75 fun x87 l88 c89 =>
                    ANDS (RDL (Addr.add za1 1) fun x90 l91 c92 =>
                      fun _ => ((.slice x90 l91 c92) : Value) = (.slice x77 l78 c79)) <|
                      NEW 50 [] fun B93 =>
                        ANDS (RDL (Addr.add za1 1) fun x94 l95 c96 =>
                          fun _ => ((.slice x94 l95 c96) : Value) = (.slice x77 l78 c79)) <|
                          ANDS (RDL (Addr.add za1 0) fun x97 l98 c99 =>
                            fun _ => ((.slice x97 l98 c99) : Value) = (.slice x74 l75 c76)) <|
                            APP Pg 50 2 (some ⟨B93, 0, none⟩) 0 0 x77 l78 fun x100 l101 c102 =>
                              J_law13_PrizeTurned_2 W R za1 za4 zn0 za2 za3 x87 l88 c89 x100 l101 c102,
                  NEW 50 [] fun B144 =>
                    ANDS (RDL (Addr.add za1 1) fun x145 l146 c147 =>
                      fun _ => ((.slice x145 l146 c147) : Value) = (.slice x77 l78 c79)) <|
                      ANDS (RDL (Addr.add za1 0) fun x148 l149 c150 =>
                        fun _ => ((.slice x148 l149 c150) : Value) = (.slice x74 l75 c76)) <|
                        APP Pg 48 4 (some ⟨B80, 0, none⟩) 0 0 x74 l75 fun x151 l152 c153 =>
                          ANDS (RDL (Addr.add za1 1) fun x154 l155 c156 =>
                            fun _ => ((.slice x154 l155 c156) : Value) = (.slice x77 l78 c79)) <|
                            APP Pg 50 2 (some ⟨B144, 0, none⟩) 0 0 x77 l78 fun x157 l158 c159 =>
                              J_law13_PrizeTurned_2 W R za1 za4 zn0 za2 za3 x151 l152 c153 x157 l158 c159],
          NEW 50 [] fun B160 =>
            ANDS (RDL (Addr.add za1 1) fun x161 l162 c163 =>
              fun _ => ((.slice x161 l162 c163) : Value) = (.slice x77 l78 c79)) <|
              ANDS (RDL (Addr.add za1 0) fun x164 l165 c166 =>
                fun _ => ((.slice x164 l165 c166) : Value) = (.slice x74 l75 c76)) <|
                NEW 48 [] fun B167 =>
                  ANDS (RDL (Addr.add za1 1) fun x168 l169 c170 =>
                    fun _ => ((.slice x168 l169 c170) : Value) = (.slice x77 l78 c79)) <|
                    ANDS (RDL (Addr.add za1 0) fun x171 l172 c173 =>
                      fun _ => ((.slice x171 l172 c173) : Value) = (.slice x74 l75 c76)) <|
                      APP Pg 48 4 (some ⟨B167, 0, none⟩) 0 0 x74 l75 fun x174 l175 c176 =>
                        ANDS (RDL (Addr.add za1 1) fun x177 l178 c179 =>
                          fun _ => ((.slice x177 l178 c179) : Value) = (.slice x77 l78 c79)) <|
                          APP Pg 50 2 (some ⟨B160, 0, none⟩) 0 0 x77 l78 fun x180 l181 c182 =>
                            J_law13_PrizeTurned_2 W R za1 za4 zn0 za2 za3 x174 l175 c176 x180 l181 c182])
theorem B_law13_PrizeTurned_0_eq (W : World) (R : Ending → Hp → Prop) (zn0 : Int) (za1 : Addr) (za2 : Addr) (za3 : Addr) (za4 : Addr) (zp5 : Option Addr) (zl6 : Nat) (zl7 : Nat) (zn8 : Int) (n49 : Int) (nx0 : List Value → Hp → Prop) (j : Tm) : vc Pg W 300 rs_12 an_12 false (sub (bodyOf Try.f12) [1, 1, 1, 1, 1, 1, 0, 1, 0, 0]) 0 (KLoop [66] [2, 3, 6, 7, 8, 9, 64, 65, 300] [(.int .u8 zn0), (.pointer (some za1)), (.bool false), (.pointer (some za2)), (.func (.func 40) #[] #[(.pointer (some za3)), (.pointer (some za2))]), (.pointer (some za4)), (.slice zp5 zl6 zl7), (.int .i64 zn8), (.tuple #[])] nx0 (KBlk 0 (KS Pg W 300 rs_12 an_12 false (sub (bodyOf Try.f12) [1, 1, 1, 1, 1, 1, 1]) 0 (fin Pg W 300 rv_12 R)))) (known [66] [(.int .i64 n49)] (known [2, 3, 6, 7, 8, 9, 64, 65, 300] [(.int .u8 zn0), (.pointer (some za1)), (.bool false), (.pointer (some za2)), (.func (.func 40) #[] #[(.pointer (some za3)), (.pointer (some za2))]), (.pointer (some za4)), (.slice zp5 zl6 zl7), (.int .i64 zn8), (.tuple #[])] j)) = B_law13_PrizeTurned_0 W R zn0 za1 za2 za3 za4 zp5 zl6 zl7 zn8 n49 nx0 := by kernel_rfl
def N_law13_PrizeTurned_0 (I : Int → Hp → Prop) (μ : Int → Hp → Nat) (n490 : Int) (s : Hp) (vs : List Value) : Hp → Prop := fun s' => ∃ n49, vs = [(.int .i64 n49)] ∧ I n49 s' ∧ μ n49 s' < μ n490 s
theorem L_law13_PrizeTurned_0_rule (W : World) (R : Ending → Hp → Prop) (zn0 : Int) (za1 : Addr) (za2 : Addr) (za3 : Addr) (za4 : Addr) (zp5 : Option Addr) (zl6 : Nat) (zl7 : Nat) (zn8 : Int) (I : Int → Hp → Prop) (μ : Int → Hp → Nat) (n490 : Int) (s : Hp) (h0 : I n490 s)
    (hr : ∀ (n49 : Int) (s : Hp), I n49 s → B_law13_PrizeTurned_0 W R zn0 za1 za2 za3 za4 zp5 zl6 zl7 zn8 n49 (fun vs => N_law13_PrizeTurned_0 I μ n49 s vs) s) : L_law13_PrizeTurned_0 W R zn0 za1 za2 za3 za4 zp5 zl6 zl7 zn8 n490 s := by
  refine ⟨fun vs s => ∃ n49, vs = [(.int .i64 n49)] ∧ I n49 s, fun vs s => (match vs with | [.int _ n49] => μ n49 s | _ => 0), ⟨⟨⟨_, rfl⟩, trivial⟩, ⟨_, rfl, h0⟩⟩, ?_⟩
  intro n49 s hI j
  obtain ⟨n49', hy, hI⟩ := hI
  have hI' : I n49 s := by cases hy; exact hI
  have hh := hr n49 s hI'
  rw [← B_law13_PrizeTurned_0_eq W R zn0 za1 za2 za3 za4 zp5 zl6 zl7 zn8 n49 _ j] at hh
  refine vc_mono ?_ _ _ hh
  exact KLoop_mono (fun vs s' h => by obtain ⟨n491, rfl, h1, h2⟩ := h; exact ⟨⟨⟨_, rfl⟩, trivial⟩, ⟨_, rfl, h1⟩, h2⟩)
def B_law13_PrizeTurned_1 (W : World) (R : Ending → Hp → Prop) (zn0 : Int) (za1 : Addr) (za2 : Addr) (za3 : Addr) (za4 : Addr) (zp5 : Option Addr) (zl6 : Nat) (zl7 : Nat) (zp8 : Option Addr) (zl9 : Nat) (zl10 : Nat) (zp11 : Option Addr) (zl12 : Nat) (zl13 : Nat) (zp14 : Option Addr) (zl15 : Nat) (zl16 : Nat) (zn17 : Int) (b183 : Bool) (n184 : Int) (nx1 : List Value → Hp → Prop) : Hp → Prop :=
  BR (decide (n184 < zn17))
    (IXS zp11 zl12 n184 1 fun a185 =>
      RDI .i64 a185 fun n186 =>
        BR (decide (n186 < 0))
          (IXS zp14 zl15 n184 1 fun a187 =>
            RDI .i64 a187 fun n188 =>
              J_law13_PrizeTurned_4 W R (n188 != n186) zn0 za1 za2 za3 za4 zp5 zl6 zl7 zp8 zl9 zl10 zp11 zl12 zl13 zp14 zl15 zl16 zn17 nx1 b183 n184 n186)
          (J_law13_PrizeTurned_4 W R false zn0 za1 za2 za3 za4 zp5 zl6 zl7 zp8 zl9 zl10 zp11 zl12 zl13 zp14 zl15 zl16 zn17 nx1 b183 n184 n186))
    (RDI .i64 za2 fun n201 =>
      NZI n201 <|
        RDL (Addr.add za1 0) fun x202 l203 c204 =>
          RDL (Addr.add za1 1) fun x205 l206 c207 =>
            CALL Pg W F_prize_Stay [(.agg #[(.slice x202 l203 c204), (.slice x205 l206 c207)]), (.int .i64 (Int.tmod (IntKind.wrap .i64 zn0) n201))]
              (fun v208 => TUP v208 fun q210 => HD q210 fun v211 r212 => TYI .i64 v211 fun n213 =>
                HD r212 fun v214 r215 => TYI .i64 v214 fun n216 =>
                  NL r215 <|
                    RDL (Addr.add za4 0) fun x217 l218 c219 =>
                      RDL (Addr.add za4 1) fun x220 l221 c222 =>
                        CALLV Pg W (.func (.func 40) #[] #[(.pointer (some za3)), (.pointer (some za2))]) [(.int .i64 (Int.tmod (IntKind.wrap .i64 zn0) n201))]
                          (fun v223 => TYI .i64 v223 fun n225 =>
                            ANDS (RDL (Addr.add za4 0) fun x226 l227 c228 =>
                              RDL (Addr.add za4 1) fun x229 l230 c231 =>
                                fun _ => ((.agg #[(.slice x226 l227 c228), (.slice x229 l230 c231)]) : Value) = (.agg #[(.slice x217 l218 c219), (.slice x220 l221 c222)])) <|
                              CALL Pg W F_prize_Stay [(.agg #[(.slice x217 l218 c219), (.slice x220 l221 c222)]), (.int .i64 n225)]
                                (fun v232 => TUP v232 fun q234 => HD q234 fun v235 r236 => TYI .i64 v235 fun n237 =>
                                  HD r236 fun v238 r239 => TYI .i64 v238 fun n240 =>
                                    NL r239 <|
                                      RDL (Addr.add za1 0) fun x241 l242 c243 =>
                                        RDL (Addr.add za1 1) fun x244 l245 c246 =>
                                          CALL Pg W F_prize_For [(.agg #[(.slice x241 l242 c243), (.slice x244 l245 c246)]), (.int .i64 (Int.tmod (IntKind.wrap .i64 zn0) n201))]
                                            (fun v247 => TUP v247 fun q249 => HD q249 fun v250 r251 => TYI .i64 v250 fun n252 =>
                                              HD r251 fun v253 r254 => TYI .i64 v253 fun n255 =>
                                                NL r254 <|
                                                  RDL (Addr.add za4 0) fun x256 l257 c258 =>
                                                    RDL (Addr.add za4 1) fun x259 l260 c261 =>
                                                      CALLV Pg W (.func (.func 40) #[] #[(.pointer (some za3)), (.pointer (some za2))]) [(.int .i64 (Int.tmod (IntKind.wrap .i64 zn0) n201))]
                                                        (fun v262 => TYI .i64 v262 fun n264 =>
                                                          ANDS (RDL (Addr.add za4 0) fun x265 l266 c267 =>
                                                            RDL (Addr.add za4 1) fun x268 l269 c270 =>
                                                              fun _ => ((.agg #[(.slice x265 l266 c267), (.slice x268 l269 c270)]) : Value) = (.agg #[(.slice x256 l257 c258), (.slice x259 l260 c261)])) <|
                                                            CALL Pg W F_prize_For [(.agg #[(.slice x256 l257 c258), (.slice x259 l260 c261)]), (.int .i64 n264)]
                                                              (fun v271 => TUP v271 fun q273 => HD q273 fun v274 r275 => TYI .i64 v274 fun n276 =>
                                                                HD r275 fun v277 r278 => TYI .i64 v277 fun n279 =>
                                                                  NL r278 <|
                                                                    RDL (Addr.add za1 0) fun x280 l281 c282 =>
                                                                      RDL (Addr.add za1 1) fun x283 l284 c285 =>
                                                                        CALL Pg W F_prize_Club [(.agg #[(.slice x280 l281 c282), (.slice x283 l284 c285)])]
                                                                          (fun v286 => TUP v286 fun q288 => HD q288 fun v289 r290 => TYI .i64 v289 fun n291 =>
                                                                            HD r290 fun v292 r293 => TYI .i64 v292 fun n294 =>
                                                                              HD r293 fun v295 r296 => TYI .i64 v295 fun n297 =>
                                                                                NL r296 <|
                                                                                  RDL (Addr.add za4 0) fun x298 l299 c300 =>
                                                                                    RDL (Addr.add za4 1) fun x301 l302 c303 =>
                                                                                      CALL Pg W F_prize_Club [(.agg #[(.slice x298 l299 c300), (.slice x301 l302 c303)])]
                                                                                        (fun v304 => TUP v304 fun q306 => HD q306 fun v307 r308 => TYI .i64 v307 fun n309 =>
                                                                                          HD r308 fun v310 r311 => TYI .i64 v310 fun n312 =>
                                                                                            HD r311 fun v313 r314 => TYI .i64 v313 fun n315 =>
                                                                                              NL r314 <|
                                                                                                RDL (Addr.add za1 0) fun x316 l317 c318 =>
                                                                                                  RDL (Addr.add za1 1) fun x319 l320 c321 =>
                                                                                                    CALL Pg W F_prize_Most [(.agg #[(.slice x316 l317 c318), (.slice x319 l320 c321)])]
                                                                                                      (fun v322 => TUP v322 fun q324 => HD q324 fun v325 r326 => TYI .i64 v325 fun n327 =>
                                                                                                        HD r326 fun v328 r329 => TYL v328 fun x330 l331 c332 =>
                                                                                                          HD r329 fun v333 r334 => TYI .i64 v333 fun n335 =>
                                                                                                            NL r334 <|
                                                                                                              RDL (Addr.add za4 0) fun x336 l337 c338 =>
                                                                                                                RDL (Addr.add za4 1) fun x339 l340 c341 =>
                                                                                                                  CALL Pg W F_prize_Most [(.agg #[(.slice x336 l337 c338), (.slice x339 l340 c341)])]
                                                                                                                    (fun v342 => TUP v342 fun q344 => HD q344 fun v345 r346 => TYI .i64 v345 fun n347 =>
                                                                                                                      HD r346 fun v348 r349 => TYL v348 fun x350 l351 c352 =>
                                                                                                                        HD r349 fun v353 r354 => TYI .i64 v353 fun n355 =>
                                                                                                                          NL r354 <|
                                                                                                                            BR (n216 != n240)
                                                                                                                              (J_law13_PrizeTurned_11 W R true za2 za1 za3 zp5 zl6 zl7 zp8 zl9 zl10 zp11 zl12 zl13 n213 n237 b183 n335 n355 n327 n347 n297 n315 n294 n312 n291 n309 n255 n279)
                                                                                                                              (J_law13_PrizeTurned_11 W R (n252 != n276) za2 za1 za3 zp5 zl6 zl7 zp8 zl9 zl10 zp11 zl12 zl13 n213 n237 b183 n335 n355 n327 n347 n297 n315 n294 n312 n291 n309 n255 n279))
                                                                                                                      (fun e343 => R (.panicked e343)))
                                                                                                        (fun e323 => R (.panicked e323)))
                                                                                          (fun e305 => R (.panicked e305)))
                                                                            (fun e287 => R (.panicked e287)))
                                                                (fun e272 => R (.panicked e272)))
                                                          (fun e263 => R (.panicked e263)))
                                              (fun e248 => R (.panicked e248)))
                                  (fun e233 => R (.panicked e233)))
                            (fun e224 => R (.panicked e224)))
                (fun e209 => R (.panicked e209)))
theorem B_law13_PrizeTurned_1_eq (W : World) (R : Ending → Hp → Prop) (zn0 : Int) (za1 : Addr) (za2 : Addr) (za3 : Addr) (za4 : Addr) (zp5 : Option Addr) (zl6 : Nat) (zl7 : Nat) (zp8 : Option Addr) (zl9 : Nat) (zl10 : Nat) (zp11 : Option Addr) (zl12 : Nat) (zl13 : Nat) (zp14 : Option Addr) (zl15 : Nat) (zl16 : Nat) (zn17 : Int) (b183 : Bool) (n184 : Int) (nx1 : List Value → Hp → Prop) (j : Tm) : vc Pg W 300 rs_12 an_12 false (sub (bodyOf Try.f12) [1, 1, 1, 1, 1, 1, 1, 1, 1, 1, 1, 0, 1, 0, 0]) 2 (KLoop [6, 109] [2, 3, 7, 8, 9, 12, 13, 14, 16, 107, 108, 300] [(.int .u8 zn0), (.pointer (some za1)), (.pointer (some za2)), (.func (.func 40) #[] #[(.pointer (some za3)), (.pointer (some za2))]), (.pointer (some za4)), (.slice zp5 zl6 zl7), (.slice zp8 zl9 zl10), (.slice zp11 zl12 zl13), (.slice zp14 zl15 zl16), (.slice zp11 zl12 zl13), (.int .i64 zn17), (.tuple #[])] nx1 (KBlk 2 (KS Pg W 300 rs_12 an_12 false (sub (bodyOf Try.f12) [1, 1, 1, 1, 1, 1, 1, 1, 1, 1, 1, 1]) 0 (fin Pg W 300 rv_12 R)))) (known [6, 109] [(.bool b183), (.int .i64 n184)] (known [2, 3, 7, 8, 9, 12, 13, 14, 16, 107, 108, 300] [(.int .u8 zn0), (.pointer (some za1)), (.pointer (some za2)), (.func (.func 40) #[] #[(.pointer (some za3)), (.pointer (some za2))]), (.pointer (some za4)), (.slice zp5 zl6 zl7), (.slice zp8 zl9 zl10), (.slice zp11 zl12 zl13), (.slice zp14 zl15 zl16), (.slice zp11 zl12 zl13), (.int .i64 zn17), (.tuple #[])] j)) = B_law13_PrizeTurned_1 W R zn0 za1 za2 za3 za4 zp5 zl6 zl7 zp8 zl9 zl10 zp11 zl12 zl13 zp14 zl15 zl16 zn17 b183 n184 nx1 := by kernel_rfl
def N_law13_PrizeTurned_1 (I : Bool → Int → Hp → Prop) (μ : Bool → Int → Hp → Nat) (b1830 : Bool) (n1840 : Int) (s : Hp) (vs : List Value) : Hp → Prop := fun s' => ∃ b183 n184, vs = [(.bool b183), (.int .i64 n184)] ∧ I b183 n184 s' ∧ μ b183 n184 s' < μ b1830 n1840 s
theorem L_law13_PrizeTurned_1_rule (W : World) (R : Ending → Hp → Prop) (zn0 : Int) (za1 : Addr) (za2 : Addr) (za3 : Addr) (za4 : Addr) (zp5 : Option Addr) (zl6 : Nat) (zl7 : Nat) (zp8 : Option Addr) (zl9 : Nat) (zl10 : Nat) (zp11 : Option Addr) (zl12 : Nat) (zl13 : Nat) (zp14 : Option Addr) (zl15 : Nat) (zl16 : Nat) (zn17 : Int) (I : Bool → Int → Hp → Prop) (μ : Bool → Int → Hp → Nat) (b1830 : Bool) (n1840 : Int) (s : Hp) (h0 : I b1830 n1840 s)
    (hr : ∀ (b183 : Bool) (n184 : Int) (s : Hp), I b183 n184 s → B_law13_PrizeTurned_1 W R zn0 za1 za2 za3 za4 zp5 zl6 zl7 zp8 zl9 zl10 zp11 zl12 zl13 zp14 zl15 zl16 zn17 b183 n184 (fun vs => N_law13_PrizeTurned_1 I μ b183 n184 s vs) s) : L_law13_PrizeTurned_1 W R zn0 za1 za2 za3 za4 zp5 zl6 zl7 zp8 zl9 zl10 zp11 zl12 zl13 zp14 zl15 zl16 zn17 b1830 n1840 s := by
  refine ⟨fun vs s => ∃ b183 n184, vs = [(.bool b183), (.int .i64 n184)] ∧ I b183 n184 s, fun vs s => (match vs with | [.bool b183, .int _ n184] => μ b183 n184 s | _ => 0), ⟨⟨⟨_, rfl⟩, ⟨⟨_, rfl⟩, trivial⟩⟩, ⟨_, _, rfl, h0⟩⟩, ?_⟩
  intro b183 n184 s hI j
  obtain ⟨b183', n184', hy, hI⟩ := hI
  have hI' : I b183 n184 s := by cases hy; exact hI
  have hh := hr b183 n184 s hI'
  rw [← B_law13_PrizeTurned_1_eq W R zn0 za1 za2 za3 za4 zp5 zl6 zl7 zp8 zl9 zl10 zp11 zl12 zl13 zp14 zl15 zl16 zn17 b183 n184 _ j] at hh
  refine vc_mono ?_ _ _ hh
  exact KLoop_mono (fun vs s' h => by obtain ⟨b1831, n1841, rfl, h1, h2⟩ := h; exact ⟨⟨⟨_, rfl⟩, ⟨⟨_, rfl⟩, trivial⟩⟩, ⟨_, _, rfl, h1⟩, h2⟩)
def B_law13_PrizeTurned_2 (W : World) (R : Ending → Hp → Prop) (za0 : Addr) (za1 : Addr) (za2 : Addr) (zp3 : Option Addr) (zl4 : Nat) (zl5 : Nat) (zp6 : Option Addr) (zl7 : Nat) (zl8 : Nat) (zp9 : Option Addr) (zl10 : Nat) (zl11 : Nat) (zn12 : Int) (zn13 : Int) (zn14 : Int) (b364 : Bool) (n365 : Int) (nx2 : List Value → Hp → Prop) : Hp → Prop :=
  BR (decide (n365 < zn14))
    (NNI n365 <|
      CALLV Pg W (.func (.func 40) #[] #[(.pointer (some za1)), (.pointer (some za2))]) [(.int .i64 n365)]
        (fun v366 => TYI .i64 v366 fun n368 =>
          NNI n368 <|
            BR ((andv .i64 (shrv .i64 zn12 n365) 1) != (andv .i64 (shrv .i64 zn13 n368) 1))
              (J_law13_PrizeTurned_12 W R true za0 za1 za2 zp3 zl4 zl5 zp6 zl7 zl8 zp9 zl10 zl11 zn12 zn13 zn14 nx2 b364 n365)
              (IXS zp3 zl4 n365 4 fun a370 =>
                RDI .i64 (Addr.add a370 0) fun n371 =>
                  RDI .i64 (Addr.add a370 1) fun n372 =>
                    RDB (Addr.add a370 2) fun b373 =>
                      RDB (Addr.add a370 3) fun b374 =>
                        RDL (Addr.add za0 0) fun x375 l376 c377 =>
                          IXS x375 l376 n365 4 fun a378 =>
                            RDI .i64 (Addr.add a378 0) fun n379 =>
                              RDI .i64 (Addr.add a378 1) fun n380 =>
                                RDB (Addr.add a378 2) fun b381 =>
                                  RDB (Addr.add a378 3) fun b382 =>
                                    J_law13_PrizeTurned_12 W R (!((n371 == n379) && ((n372 == n380) && ((b373 == b381) && (b374 == b382))))) za0 za1 za2 zp3 zl4 zl5 zp6 zl7 zl8 zp9 zl10 zl11 zn12 zn13 zn14 nx2 b364 n365))
          (fun e367 => R (.panicked e367)))
    (L_law13_PrizeTurned_3 W R za0 zp6 zl7 zl8 zp9 zl10 zl11 (↑zl7 : Int) b364 0)
theorem B_law13_PrizeTurned_2_eq (W : World) (R : Ending → Hp → Prop) (za0 : Addr) (za1 : Addr) (za2 : Addr) (zp3 : Option Addr) (zl4 : Nat) (zl5 : Nat) (zp6 : Option Addr) (zl7 : Nat) (zl8 : Nat) (zp9 : Option Addr) (zl10 : Nat) (zl11 : Nat) (zn12 : Int) (zn13 : Int) (zn14 : Int) (b364 : Bool) (n365 : Int) (nx2 : List Value → Hp → Prop) (j : Tm) : vc Pg W 300 rs_12 an_12 false (sub (bodyOf Try.f12) [1, 1, 1, 1, 1, 1, 1, 1, 1, 1, 1, 1, 1, 1, 1, 1, 1, 1, 1, 1, 1, 1, 0, 1, 0, 0]) 4 (KLoop [6, 234] [3, 8, 12, 13, 14, 21, 23, 233, 300] [(.pointer (some za0)), (.func (.func 40) #[] #[(.pointer (some za1)), (.pointer (some za2))]), (.slice zp3 zl4 zl5), (.slice zp6 zl7 zl8), (.slice zp9 zl10 zl11), (.int .i64 zn12), (.int .i64 zn13), (.int .i64 zn14), (.tuple #[])] nx2 (KBlk 4 (KS Pg W 300 rs_12 an_12 false (sub (bodyOf Try.f12) [1, 1, 1, 1, 1, 1, 1, 1, 1, 1, 1, 1, 1, 1, 1, 1, 1, 1, 1, 1, 1, 1, 1]) 0 (fin Pg W 300 rv_12 R)))) (known [6, 234] [(.bool b364), (.int .i64 n365)] (known [3, 8, 12, 13, 14, 21, 23, 233, 300] [(.pointer (some za0)), (.func (.func 40) #[] #[(.pointer (some za1)), (.pointer (some za2))]), (.slice zp3 zl4 zl5), (.slice zp6 zl7 zl8), (.slice zp9 zl10 zl11), (.int .i64 zn12), (.int .i64 zn13), (.int .i64 zn14), (.tuple #[])] j)) = B_law13_PrizeTurned_2 W R za0 za1 za2 zp3 zl4 zl5 zp6 zl7 zl8 zp9 zl10 zl11 zn12 zn13 zn14 b364 n365 nx2 := by kernel_rfl
def N_law13_PrizeTurned_2 (I : Bool → Int → Hp → Prop) (μ : Bool → Int → Hp → Nat) (b3640 : Bool) (n3650 : Int) (s : Hp) (vs : List Value) : Hp → Prop := fun s' => ∃ b364 n365, vs = [(.bool b364), (.int .i64 n365)] ∧ I b364 n365 s' ∧ μ b364 n365 s' < μ b3640 n3650 s
theorem L_law13_PrizeTurned_2_rule (W : World) (R : Ending → Hp → Prop) (za0 : Addr) (za1 : Addr) (za2 : Addr) (zp3 : Option Addr) (zl4 : Nat) (zl5 : Nat) (zp6 : Option Addr) (zl7 : Nat) (zl8 : Nat) (zp9 : Option Addr) (zl10 : Nat) (zl11 : Nat) (zn12 : Int) (zn13 : Int) (zn14 : Int) (I : Bool → Int → Hp → Prop) (μ : Bool → Int → Hp → Nat) (b3640 : Bool) (n3650 : Int) (s : Hp) (h0 : I b3640 n3650 s)
    (hr : ∀ (b364 : Bool) (n365 : Int) (s : Hp), I b364 n365 s → B_law13_PrizeTurned_2 W R za0 za1 za2 zp3 zl4 zl5 zp6 zl7 zl8 zp9 zl10 zl11 zn12 zn13 zn14 b364 n365 (fun vs => N_law13_PrizeTurned_2 I μ b364 n365 s vs) s) : L_law13_PrizeTurned_2 W R za0 za1 za2 zp3 zl4 zl5 zp6 zl7 zl8 zp9 zl10 zl11 zn12 zn13 zn14 b3640 n3650 s := by
  refine ⟨fun vs s => ∃ b364 n365, vs = [(.bool b364), (.int .i64 n365)] ∧ I b364 n365 s, fun vs s => (match vs with | [.bool b364, .int _ n365] => μ b364 n365 s | _ => 0), ⟨⟨⟨_, rfl⟩, ⟨⟨_, rfl⟩, trivial⟩⟩, ⟨_, _, rfl, h0⟩⟩, ?_⟩
  intro b364 n365 s hI j
  obtain ⟨b364', n365', hy, hI⟩ := hI
  have hI' : I b364 n365 s := by cases hy; exact hI
  have hh := hr b364 n365 s hI'
  rw [← B_law13_PrizeTurned_2_eq W R za0 za1 za2 zp3 zl4 zl5 zp6 zl7 zl8 zp9 zl10 zl11 zn12 zn13 zn14 b364 n365 _ j] at hh
  refine vc_mono ?_ _ _ hh
  exact KLoop_mono (fun vs s' h => by obtain ⟨b3641, n3651, rfl, h1, h2⟩ := h; exact ⟨⟨⟨_, rfl⟩, ⟨⟨_, rfl⟩, trivial⟩⟩, ⟨_, _, rfl, h1⟩, h2⟩)
def B_law13_PrizeTurned_3 (W : World) (R : Ending → Hp → Prop) (za0 : Addr) (zp1 : Option Addr) (zl2 : Nat) (zl3 : Nat) (zp4 : Option Addr) (zl5 : Nat) (zl6 : Nat) (zn7 : Int) (b383 : Bool) (n384 : Int) (nx3 : List Value → Hp → Prop) : Hp → Prop :=
  BR (decide (n384 < zn7))
    (IXS zp1 zl2 n384 2 fun a385 =>
      RDI .i64 (Addr.add a385 0) fun n386 =>
        RDI .i64 (Addr.add a385 1) fun n387 =>
          RDL (Addr.add za0 1) fun x388 l389 c390 =>
            IXS x388 l389 n384 2 fun a391 =>
              RDI .i64 (Addr.add a391 0) fun n392 =>
                RDI .i64 (Addr.add a391 1) fun n393 =>
                  BR (!((n386 == n392) && (n387 == n393)))
                    (R (.returned (.bool false)))
                    (NX [(.pointer (some za0)), (.slice zp1 zl2 zl3), (.slice zp4 zl5 zl6), (.int .i64 zn7), (.tuple #[])] [(.pointer (some za0)), (.slice zp1 zl2 zl3), (.slice zp4 zl5 zl6), (.int .i64 zn7), (.tuple #[])] (nx3 [(.bool b383), (.int .i64 (IntKind.wrap .i64 (n384 + 1)))])))
    (NEW 3 [] fun B394 =>
      APP Pg 3 1 (some ⟨B394, 0, none⟩) 0 0 zp4 zl5 fun x395 l396 c397 =>
        L_law13_PrizeTurned_4 W R za0 b383 zp4 zl5 zl6 x395 l396 c397 (↑zl5 : Int) 0)
theorem B_law13_PrizeTurned_3_eq (W : World) (R : Ending → Hp → Prop) (za0 : Addr) (zp1 : Option Addr) (zl2 : Nat) (zl3 : Nat) (zp4 : Option Addr) (zl5 : Nat) (zl6 : Nat) (zn7 : Int) (b383 : Bool) (n384 : Int) (nx3 : List Value → Hp → Prop) (j : Tm) : vc Pg W 300 rs_12 an_12 false (sub (bodyOf Try.f12) [1, 1, 1, 1, 1, 1, 1, 1, 1, 1, 1, 1, 1, 1, 1, 1, 1, 1, 1, 1, 1, 1, 1, 0, 1, 0, 0]) 6 (KLoop [6, 263] [3, 13, 14, 262, 300] [(.pointer (some za0)), (.slice zp1 zl2 zl3), (.slice zp4 zl5 zl6), (.int .i64 zn7), (.tuple #[])] nx3 (KBlk 6 (KS Pg W 300 rs_12 an_12 false (sub (bodyOf Try.f12) [1, 1, 1, 1, 1, 1, 1, 1, 1, 1, 1, 1, 1, 1, 1, 1, 1, 1, 1, 1, 1, 1, 1, 1]) 0 (fin Pg W 300 rv_12 R)))) (known [6, 263] [(.bool b383), (.int .i64 n384)] (known [3, 13, 14, 262, 300] [(.pointer (some za0)), (.slice zp1 zl2 zl3), (.slice zp4 zl5 zl6), (.int .i64 zn7), (.tuple #[])] j)) = B_law13_PrizeTurned_3 W R za0 zp1 zl2 zl3 zp4 zl5 zl6 zn7 b383 n384 nx3 := by kernel_rfl
def N_law13_PrizeTurned_3 (I : Bool → Int → Hp → Prop) (μ : Bool → Int → Hp → Nat) (b3830 : Bool) (n3840 : Int) (s : Hp) (vs : List Value) : Hp → Prop := fun s' => ∃ b383 n384, vs = [(.bool b383), (.int .i64 n384)] ∧ I b383 n384 s' ∧ μ b383 n384 s' < μ b3830 n3840 s
theorem L_law13_PrizeTurned_3_rule (W : World) (R : Ending → Hp → Prop) (za0 : Addr) (zp1 : Option Addr) (zl2 : Nat) (zl3 : Nat) (zp4 : Option Addr) (zl5 : Nat) (zl6 : Nat) (zn7 : Int) (I : Bool → Int → Hp → Prop) (μ : Bool → Int → Hp → Nat) (b3830 : Bool) (n3840 : Int) (s : Hp) (h0 : I b3830 n3840 s)
    (hr : ∀ (b383 : Bool) (n384 : Int) (s : Hp), I b383 n384 s → B_law13_PrizeTurned_3 W R za0 zp1 zl2 zl3 zp4 zl5 zl6 zn7 b383 n384 (fun vs => N_law13_PrizeTurned_3 I μ b383 n384 s vs) s) : L_law13_PrizeTurned_3 W R za0 zp1 zl2 zl3 zp4 zl5 zl6 zn7 b3830 n3840 s := by
  refine ⟨fun vs s => ∃ b383 n384, vs = [(.bool b383), (.int .i64 n384)] ∧ I b383 n384 s, fun vs s => (match vs with | [.bool b383, .int _ n384] => μ b383 n384 s | _ => 0), ⟨⟨⟨_, rfl⟩, ⟨⟨_, rfl⟩, trivial⟩⟩, ⟨_, _, rfl, h0⟩⟩, ?_⟩
  intro b383 n384 s hI j
  obtain ⟨b383', n384', hy, hI⟩ := hI
  have hI' : I b383 n384 s := by cases hy; exact hI
  have hh := hr b383 n384 s hI'
  rw [← B_law13_PrizeTurned_3_eq W R za0 zp1 zl2 zl3 zp4 zl5 zl6 zn7 b383 n384 _ j] at hh
  refine vc_mono ?_ _ _ hh
  exact KLoop_mono (fun vs s' h => by obtain ⟨b3831, n3841, rfl, h1, h2⟩ := h; exact ⟨⟨⟨_, rfl⟩, ⟨⟨_, rfl⟩, trivial⟩⟩, ⟨_, _, rfl, h1⟩, h2⟩)
def B_law13_PrizeTurned_4 (W : World) (R : Ending → Hp → Prop) (za0 : Addr) (zb1 : Bool) (zp2 : Option Addr) (zl3 : Nat) (zl4 : Nat) (zp5 : Option Addr) (zl6 : Nat) (zl7 : Nat) (zn8 : Int) (n398 : Int) (nx4 : List Value → Hp → Prop) : Hp → Prop :=
  BR (decide (n398 < zn8))
    (IXS zp2 zl3 n398 1 fun a399 =>
      WR (Addr.add a399 0) (.int .i64 (-9)) <|
        NX [(.pointer (some za0)), (.bool zb1), (.slice zp2 zl3 zl4), (.slice zp5 zl6 zl7), (.int .i64 zn8), (.tuple #[])] [(.pointer (some za0)), (.bool zb1), (.slice zp2 zl3 zl4), (.slice zp5 zl6 zl7), (.int .i64 zn8), (.tuple #[])] (nx4 [(.int .i64 (IntKind.wrap .i64 (n398 + 1)))]))
    (RDL (Addr.add za0 0) fun x400 l401 c402 =>
      RDL (Addr.add za0 1) fun x403 l404 c405 =>
        CALL Pg W F_prize_Due [(.agg #[(.slice x400 l401 c402), (.slice x403 l404 c405)])]
          (fun v406 => TUP v406 fun q408 => HD q408 fun v409 r410 => TYL v409 fun x411 l412 c413 =>
            HD r410 fun v414 r415 => TYI .i64 v414 fun n416 =>
              NL r415 <|
                CALL Pg W F_ref13_Ints [(.slice x411 l412 c413), (.slice zp5 zl6 zl7)]
                  (fun v417 => TYB v417 fun b419 =>
                    BR b419
                      (CALL Pg W F_law13_awake []
                        (fun v420 => TYB v420 fun b422 =>
                          R (.returned (.bool b422)))
                          (fun e421 => R (.panicked e421)))
                      (R (.returned (.bool false))))
                    (fun e418 => R (.panicked e418)))
            (fun e407 => R (.panicked e407)))
theorem B_law13_PrizeTurned_4_eq (W : World) (R : Ending → Hp → Prop) (za0 : Addr) (zb1 : Bool) (zp2 : Option Addr) (zl3 : Nat) (zl4 : Nat) (zp5 : Option Addr) (zl6 : Nat) (zl7 : Nat) (zn8 : Int) (n398 : Int) (nx4 : List Value → Hp → Prop) (j : Tm) : vc Pg W 300 rs_12 an_12 false (sub (bodyOf Try.f12) [1, 1, 1, 1, 1, 1, 1, 1, 1, 1, 1, 1, 1, 1, 1, 1, 1, 1, 1, 1, 1, 1, 1, 1, 1, 0, 1, 0, 0]) 8 (KLoop [282] [3, 6, 14, 43, 281, 300] [(.pointer (some za0)), (.bool zb1), (.slice zp2 zl3 zl4), (.slice zp5 zl6 zl7), (.int .i64 zn8), (.tuple #[])] nx4 (KBlk 8 (KS Pg W 300 rs_12 an_12 false (sub (bodyOf Try.f12) [1, 1, 1, 1, 1, 1, 1, 1, 1, 1, 1, 1, 1, 1, 1, 1, 1, 1, 1, 1, 1, 1, 1, 1, 1, 1]) 0 (fin Pg W 300 rv_12 R)))) (known [282] [(.int .i64 n398)] (known [3, 6, 14, 43, 281, 300] [(.pointer (some za0)), (.bool zb1), (.slice zp2 zl3 zl4), (.slice zp5 zl6 zl7), (.int .i64 zn8), (.tuple #[])] j)) = B_law13_PrizeTurned_4 W R za0 zb1 zp2 zl3 zl4 zp5 zl6 zl7 zn8 n398 nx4 := by kernel_rfl
def N_law13_PrizeTurned_4 (I : Int → Hp → Prop) (μ : Int → Hp → Nat) (n3980 : Int) (s : Hp) (vs : List Value) : Hp → Prop := fun s' => ∃ n398, vs = [(.int .i64 n398)] ∧ I n398 s' ∧ μ n398 s' < μ n3980 s
theorem L_law13_PrizeTurned_4_rule (W : World) (R : Ending → Hp → Prop) (za0 : Addr) (zb1 : Bool) (zp2 : Option Addr) (zl3 : Nat) (zl4 : Nat) (zp5 : Option Addr) (zl6 : Nat) (zl7 : Nat) (zn8 : Int) (I : Int → Hp → Prop) (μ : Int → Hp → Nat) (n3980 : Int) (s : Hp) (h0 : I n3980 s)
    (hr : ∀ (n398 : Int) (s : Hp), I n398 s → B_law13_PrizeTurned_4 W R za0 zb1 zp2 zl3 zl4 zp5 zl6 zl7 zn8 n398 (fun vs => N_law13_PrizeTurned_4 I μ n398 s vs) s) : L_law13_PrizeTurned_4 W R za0 zb1 zp2 zl3 zl4 zp5 zl6 zl7 zn8 n3980 s := by
  refine ⟨fun vs s => ∃ n398, vs = [(.int .i64 n398)] ∧ I n398 s, fun vs s => (match vs with | [.int _ n398] => μ n398 s | _ => 0), ⟨⟨⟨_, rfl⟩, trivial⟩, ⟨_, rfl, h0⟩⟩, ?_⟩
  intro n398 s hI j
  obtain ⟨n398', hy, hI⟩ := hI
  have hI' : I n398 s := by cases hy; exact hI
  have hh := hr n398 s hI'
  rw [← B_law13_PrizeTurned_4_eq W R za0 zb1 zp2 zl3 zl4 zp5 zl6 zl7 zn8 n398 _ j] at hh
  refine vc_mono ?_ _ _ hh
  exact KLoop_mono (fun vs s' h => by obtain ⟨n3981, rfl, h1, h2⟩ := h; exact ⟨⟨⟨_, rfl⟩, trivial⟩, ⟨_, rfl, h1⟩, h2⟩)
def T_law13_PrizeTurned (W : World) (x1 : Option Addr) (l2 : Nat) (c3 : Nat) (x4 : Option Addr) (l5 : Nat) (c6 : Nat) (n7 : Int) (n8 : Int) (R : Ending → Hp → Prop) : Hp → Prop :=
  NEW 25 [(.slice x1 l2 c3), (.slice x4 l5 c6)] fun B9 =>
    NEW 5 [(.int .u8 n7)] fun B10 =>
      RDL (Addr.add ⟨B9, 0, none⟩ 0) fun x11 l12 c13 =>
        RDL (Addr.add ⟨B9, 0, none⟩ 1) fun x14 l15 c16 =>
          CALL Pg W F_law13_far [(.agg #[(.slice x11 l12 c13), (.slice x14 l15 c16)]), (.slice none 0 0)]
            (fun v17 => TYB v17 fun b19 =>
              BR b19
                (J_law13_PrizeTurned_0 W R true B9 n8 B10)
                (RDL (Addr.add ⟨B9, 0, none⟩ 0) fun x40 l41 c42 =>
                  RDL (Addr.add ⟨B9, 0, none⟩ 1) fun x43 l44 c45 =>
                    CALL Pg W F_ref13_Prizes [(.agg #[(.slice x40 l41 c42), (.slice x43 l44 c45)])]
                      (fun v46 => TYB v46 fun b48 =>
                        J_law13_PrizeTurned_0 W R (!b48) B9 n8 B10)
                        (fun e47 => R (.panicked e47))))
              (fun e18 => R (.panicked e18))
theorem T_law13_PrizeTurned_eq (W : World) (x1 : Option Addr) (l2 : Nat) (c3 : Nat) (x4 : Option Addr) (l5 : Nat) (c6 : Nat) (n7 : Int) (n8 : Int) (R : Ending → Hp → Prop) : vfun Pg W an_12 Try.f12 [(.agg #[(.slice x1 l2 c3), (.slice x4 l5 c6)]), (.int .u8 n7), (.int .u8 n8)] R = T_law13_PrizeTurned W x1 l2 c3 x4 l5 c6 n7 n8 R := by kernel_rfl
theorem does_law13_PrizeTurned (W : World) (x1 : Option Addr) (l2 : Nat) (c3 : Nat) (x4 : Option Addr) (l5 : Nat) (c6 : Nat) (n7 : Int) (n8 : Int) (R : Ending → Hp → Prop) (s : Hp) (h : T_law13_PrizeTurned W x1 l2 c3 x4 l5 c6 n7 n8 R s) : Does Pg W F_law13_PrizeTurned #[(.agg #[(.slice x1 l2 c3), (.slice x4 l5 c6)]), (.int .u8 n7), (.int .u8 n8)] s R :=
  does_of_vfun Pg W an_12 Try.func12 rfl (by kernel_rfl) (by rw [T_law13_PrizeTurned_eq]; exact h)
def an_40 : Nat → Ann := fun b => match b with
  | _ => {}
abbrev rv_40 : List ResultVar := [.tmp 4]
abbrev rs_40 : List Nat := [11, 4]
def T_law13_PrizeTurned_c1 (W : World) (n1 : Int) (a2 : Addr) (a3 : Addr) (R : Ending → Hp → Prop) : Hp → Prop :=
  RDI .u8 a2 fun n4 =>
    RDI .i64 a3 fun n5 =>
      NZI n5 <|
        R (.returned (.int .i64 (Int.tmod (IntKind.wrap .i64 (n1 + (IntKind.wrap .i64 n4))) n5)))
theorem T_law13_PrizeTurned_c1_eq (W : World) (n1 : Int) (a2 : Addr) (a3 : Addr) (R : Ending → Hp → Prop) : vfun Pg W an_40 Try.f40 [(.int .i64 n1), (.pointer (some a2)), (.pointer (some a3))] R = T_law13_PrizeTurned_c1 W n1 a2 a3 R := by kernel_rfl
theorem does_law13_PrizeTurned_c1 (W : World) (n1 : Int) (a2 : Addr) (a3 : Addr) (R : Ending → Hp → Prop) (s : Hp) (h : T_law13_PrizeTurned_c1 W n1 a2 a3 R s) : Does Pg W F_law13_PrizeTurned_c1 #[(.int .i64 n1), (.pointer (some a2)), (.pointer (some a3))] s R :=
  does_of_vfun Pg W an_40 Try.func40 rfl (by kernel_rfl) (by rw [T_law13_PrizeTurned_c1_eq]; exact h)
end Go.Proofs.Ytfaeokcbfnlgbaa.G

/- The statement PrizeTurned. -/
set_option linter.unusedSimpArgs false
set_option linter.unusedVariables false
set_option maxRecDepth 20000
namespace Go.Proofs.Ytfaeokcbfnlgbaa.G
open Go.V
theorem mnV_set4 : ∀ (ms : List Mn) (i : Nat) (w : Mn), i < ms.length → ((((mnV ms).set (i * 4) (.int .i64 w.place)).set (i * 4 + 1) (.int .i64 w.club)).set (i * 4 + 2) (.bool w.nov)).set (i * 4 + 3) (.bool w.hor) = mnV (ms.set i w)
  | [], i, w, h => by simp at h
  | x :: ms, 0, w, h => rfl
  | x :: ms, i + 1, w, h => by
    have ih := mnV_set4 ms i w (by simpa using h)
    rw [show (i + 1) * 4 = i * 4 + 4 by omega]
    show _ = mn4 x ++ mnV (ms.set i w)
    rw [← ih]
    rfl
theorem Fr.set4 {lo : Nat} {s : Hp} {a : Addr} {l c i : Nat} {ms : List Mn} {w : Mn} {K : Hp → Prop} (hf : Fr lo s (some a) l c 4 (mnV ms)) (hi : i < ms.length) (h : ∀ s', Kp (· = a.block) s s' → s'.size = s.size → Fr lo s' (some a) l c 4 (mnV (ms.set i w)) → K s') :
    (WR ((a.add (i * 4)).add 0) (.int .i64 w.place) <| WR ((a.add (i * 4)).add 1) (.int .i64 w.club) <| WR ((a.add (i * 4)).add 2) (.bool w.nov) <| WR ((a.add (i * 4)).add 3) (.bool w.hor) <| K) s := by
  have hl : i * 4 + 3 < (mnV ms).length := by rw [mnV_len]; omega
  rw [addr_add, addr_add, addr_add, addr_add, Nat.add_zero]
  have b0 := hf.buf
  refine WR_own (b0.at (i := i * 4) (by omega)) rfl ?_
  have b1 := b0.set (i := i * 4) (v := .int .i64 w.place) (by omega)
  refine WR_own (b1.at (i := i * 4 + 1) (by rw [List.length_set]; omega)) rfl ?_
  have b2 := b1.set (i := i * 4 + 1) (v := .int .i64 w.club) (by rw [List.length_set]; omega)
  refine WR_own (b2.at (i := i * 4 + 2) (by rw [List.length_set, List.length_set]; omega)) rfl ?_
  have b3 := b2.set (i := i * 4 + 2) (v := .bool w.nov) (by rw [List.length_set, List.length_set]; omega)
  refine WR_own (b3.at (i := i * 4 + 3) (by rw [List.length_set, List.length_set, List.length_set]; omega)) rfl ?_
  have b4 := b3.set (i := i * 4 + 3) (v := .bool w.hor) (by rw [List.length_set, List.length_set, List.length_set]; omega)
  rw [mnV_set4 ms i w hi] at b4
  have kp : ∀ (k : Nat) (t : Hp) (v : Value), Kp (· = a.block) s t → Kp (· = a.block) s (setC t (a.add k) v) := fun k t v hk => hk.setC (.inl (add_blk a k))
  refine h _ (kp _ _ _ (kp _ _ _ (kp _ _ _ (kp _ _ _ (Kp.refl _))))) (by rw [setC_size, setC_size, setC_size, setC_size]) ⟨b4, ?_, hf.fr, hf.cap⟩
  have h1 := hf.len
  rw [mnV_len] at h1 ⊢
  rw [List.length_set]; exact h1
theorem repL_mn : ∀ n : Nat, repL n (mn4 default) = mnV (List.replicate n default)
  | 0 => rfl
  | n + 1 => by
    show mn4 default ++ repL n (mn4 default) = mnV (default :: List.replicate n default)
    rw [repL_mn n]; rfl
theorem MKS_mn {n : Nat} {K : Nat → Hp → Prop} {s : Hp} (hn : n ≤ 100000) (h : ∀ s', Ext s s' → s'.size = s.size + 1 → Fr s.size s' (some ⟨s.size, 0, none⟩) n n 4 (mnV (List.replicate n default)) → K s.size s') : MKS Pg 48 (n : Int) (n : Int) K s := by
  refine ⟨⟨by omega, by omega, by omega⟩, ?_⟩
  have hz : zc Pg 48 = mn4 default := zc_48
  rw [hz, Int.toNat_natCast, repL_mn]
  refine h _ (Ext.push (Ext.refl _)) (by simp) ⟨?_, by rw [mnV_len, List.length_replicate], fun a ha => by cases ha; exact Nat.le_refl _, by omega⟩
  have := buf_new (s := s) (cs := mnV (List.replicate n default)) (vs := mnV (List.replicate n default)) (ty := 48) (Nat.le_refl _) (fun i hi => List.getElem?_eq_getElem hi)
  rw [mnV_len, List.length_replicate] at this
  exact this
def tuK (T : PT) (t k : Nat) : List Mn := (List.range T.n).map fun j => if tuR T.n t j < k then T.man (tuR T.n t j) else default
theorem tuK_len (T : PT) (t k : Nat) : (tuK T t k).length = T.n := by simp [tuK]
theorem tuK_get (T : PT) (t k j : Nat) (h : j < (tuK T t k).length) : (tuK T t k)[j] = if tuR T.n t j < k then T.man (tuR T.n t j) else default := by simp [tuK]
theorem tuK_zero (T : PT) (t : Nat) : tuK T t 0 = List.replicate T.n default := by
  refine List.ext_getElem (by rw [tuK_len, List.length_replicate]) fun j g1 g2 => ?_
  rw [tuK_get, if_neg (by omega), List.getElem_replicate]
theorem tuK_full (T : PT) (t : Nat) : tuK T t T.n = (turnP T t).men := by
  unfold tuK turnP
  refine List.map_congr_left fun j hj => ?_
  rw [if_pos (tuR_lt (List.mem_range.1 hj))]
theorem tuK_succ {T : PT} {t k : Nat} (hk : k < T.n) : tuK T t (k + 1) = (tuK T t k).set (tuS T.n t k) (T.man k) := by
  refine List.ext_getElem (by rw [List.length_set, tuK_len, tuK_len]) fun j g1 g2 => ?_
  have hj : j < T.n := by rw [tuK_len] at g1; exact g1
  rw [List.getElem_set]
  by_cases e : tuS T.n t k = j
  · rw [if_pos e, tuK_get, ← e, tuR_tuS hk, if_pos (by omega)]
  · rw [if_neg e, tuK_get, tuK_get]
    have hne : tuR T.n t j ≠ k := fun e' => e (by rw [← e', tuS_tuR hj])
    by_cases q : tuR T.n t j < k
    · rw [if_pos (by omega), if_pos q]
    · rw [if_neg (by omega), if_neg q]
theorem map_man {g : List (Option Nat)} {σ : Nat → Nat} {i : Nat} (h : i < g.length) : (manL (g.map (Option.map σ))).getD i 0 = manI ((g.getD i none).map σ) := by
  rw [man_getD (by rw [List.length_map]; exact h), getD_lt (by rw [List.length_map]; exact h), List.getElem_map, getD_lt h]
section
variable {W : World} {K : VK} {E : List PanicEntry → Hp → Prop} {s : Hp} {T : PT}
theorem c_number {a b : Addr} {i t n : Nat} (hi : i < n) (hn : n ≤ 1000) (ht : t < 256) (ca : cellAt s a = some (.int .u8 (t : Nat))) (cb : cellAt s b = some (.int .i64 (n : Nat))) (h : K (.int .i64 (tuS n t i : Nat)) s) :
    CALLV Pg W (.func (.func 40) #[] #[.pointer (some a), .pointer (some b)]) [.int .i64 (i : Nat)] K E s := by
  refine CALLV_func ?_
  refine does_law13_PrizeTurned_c1 W i a b _ s ?_
  unfold T_law13_PrizeTurned_c1
  refine ⟨_, ca, _, cb, ?_⟩
  refine NZI_pos (by omega) ?_
  have e : Int.tmod (IntKind.wrap .i64 ((i : Int) + IntKind.wrap .i64 (t : Int))) (n : Int) = ((tuS n t i : Nat) : Int) := by
    rw [wrap_i64 (n := (t : Int)) (by omega) (by omega), wrap_i64 (by omega) (by omega)]
    rfl
  show endK K E (.returned (.int .i64 (Int.tmod (IntKind.wrap .i64 ((i : Int) + IntKind.wrap .i64 (t : Int))) (n : Int)))) s
  rw [e]; exact h
end
end Go.Proofs.Ytfaeokcbfnlgbaa.G

/- The statement PrizeTurned: the last part. -/
set_option linter.unusedSimpArgs false
set_option linter.unusedVariables false
set_option maxRecDepth 20000
namespace Go.Proofs.Ytfaeokcbfnlgbaa.G
open Go.V
section
variable {W : World} {K : VK} {E : List PanicEntry → Hp → Prop} {s : Hp} {T : PT}
/-- What is returned is new. -/
theorem turned_new {x y d : Option Addr} {c c' cd : Nat} {b : Bool} {B0 lo : Nat} {sD : Hp} (hok : okP T = true) (hlo : lo = sD.size) (hx : MnAt sD x T.men) (hy : PzAt sD y T.list) (c0 : cellAt sD (Addr.add ⟨B0, 0, none⟩ 0) = some (.slice x T.n c)) (c1 : cellAt sD (Addr.add ⟨B0, 0, none⟩ 1) = some (.slice y T.z c')) (e : Ext sD s) (hd : Fr lo s d T.z cd 1 (ints (manL (dueP T))))
    (h : ∀ s', Ext sD s' → K (.bool true) s') :
    (NEW 3 [] fun B394 => APP Pg 3 1 (some ⟨B394, 0, none⟩) 0 0 d T.z fun x395 l396 c397 => L_law13_PrizeTurned_4 W (endK K E) ⟨B0, 0, none⟩ b d T.z cd x395 l396 c397 (T.z : Int) 0) s := by
  subst hlo
  have h6 := (okP_vd hok).z6
  have hdl := due_len T
  refine NEW_rule fun s1 e1 z1 _ _ => ?_
  refine APP_fr (lo := s.size) (vs := []) ⟨⟨Nat.le_refl _, fun i hi => by omega⟩, rfl, fun a ha => by cases ha; exact Nat.le_refl _, by omega⟩ e1.1 (ws := ints (manL (dueP T))) (hd.row.ext e1) (by rw [ints_len, hdl]; omega) zc_3 rfl (by omega) (ints_one _) (by omega) fun s2 x2 c2 k2 hx2 r2 => ?_
  rw [List.nil_append] at r2
  have f12 : Ext s s2 := kp_nil e1 (fun b hb => by obtain ⟨a, ha, rfl⟩ := hb; cases ha; exact Nat.le_refl _) k2
  have hd2 := hd.ext f12
  have e2 := e.trans f12
  have hz0 : 0 + T.z = T.z := Nat.zero_add _
  rw [hz0] at r2 ⊢
  refine L_law13_PrizeTurned_4_rule W _ ⟨B0, 0, none⟩ b d T.z cd x2 T.z c2 T.z (fun n398 t => Ext sD t ∧ RowAt t x2 (ints (manL (dueP T))) ∧ ∃ k : Nat, k ≤ T.z ∧ n398 = k ∧ ∃ ds : List Int, ds.length = T.z ∧ Fr sD.size t d T.z cd 1 (ints ds)) (fun n398 _ => ((T.z : Int) - n398).toNat) 0 s2 ⟨e2, r2.row, 0, by omega, rfl, _, hdl, hd2⟩ ?_
  rintro n398 t ⟨et, rx, k, hk, rfl, ds, hds, hfr⟩
  unfold B_law13_PrizeTurned_4
  refine BR_dec (fun hlt => ?_) (fun hlt => ?_)
  · have hkz : k < T.z := by omega
    obtain ⟨a, ha, _⟩ := hfr.row 0 (by rw [ints_len]; omega)
    subst ha
    have hki : k < (ints ds).length := by rw [ints_len]; omega
    refine IXS_nat hkz ?_
    rw [Nat.mul_one]
    refine WR_own (hfr.buf.at hki) rfl ?_
    have hset := hfr.buf.set (v := .int .i64 (-9)) hki
    have hda := hfr.fr a rfl
    have hdlt : a.block < s.size := fr_lt hd (by rw [ints_len, hdl]; omega) rfl
    refine ⟨rfl, _, rfl, ⟨Ext.setC et (by simp only [add_blk]; exact hda), ?_, k + 1, hkz, wrap_succ (by omega), ds.set k (-9), by rw [List.length_set]; exact hds, ?_⟩, ms_succ hkz (by omega)⟩
    · refine rx.keep (D := (· = a.block)) (Kp.setC (Kp.refl _) (.inl (add_blk a k))) fun a' ha' hb' => ?_
      have := r2.fr a' ha'
      have hb'' : a'.block = a.block := hb'
      omega
    · have e : ints (ds.set k (-9)) = (ints ds).set k (.int .i64 (-9)) := by unfold ints; rw [List.map_set]
      rw [e]
      exact ⟨hset, by rw [List.length_set]; exact hfr.len, hfr.fr, hfr.cap⟩
  · refine ⟨_, _, _, et.cell c0, _, _, _, et.cell c1, ?_⟩
    refine c_DueV hok (hx.ext et) (hy.ext et) fun t1 q cq f1 r1 => ?_
    try simp only [TUP_mk, AGG_mk, HD_mk, NL_mk, TYI_mk, TYB_mk, TYP_mk, TYL_mk, TYS_mk, TYM_mk, SO_mk, NX_mk, endK_mk, endK_mk', add_0]
    refine f_Ints (a := manL (dueP T)) (b := manL (dueP T)) r1.row (rx.ext f1) hdl.symm hdl.symm (by omega) ?_
    try simp only [TUP_mk, AGG_mk, HD_mk, NL_mk, TYI_mk, TYB_mk, TYP_mk, TYL_mk, TYS_mk, TYM_mk, SO_mk, NX_mk, endK_mk, endK_mk', add_0]
    refine BR_tt (by simp) ?_
    exact c_awake' f1 fun u eu => h u (et.trans eu)
end
end Go.Proofs.Ytfaeokcbfnlgbaa.G

/- The statement PrizeTurned. -/
set_option linter.unusedSimpArgs false
set_option linter.unusedVariables false
set_option maxRecDepth 20000
set_option maxHeartbeats 1000000
namespace Go.Proofs.Ytfaeokcbfnlgbaa.G
open Go.V
section
variable {W : World} {K : VK} {E : List PanicEntry → Hp → Prop} {s : Hp} {T : PT}
theorem for_val (hok : okP T = true) {m : Nat} (hm : m < T.n) : forR T (m : Nat) = forL T m T.n := by
  unfold forR
  have hM : isM T (m : Nat) = true := decide_eq_true (by omega)
  rw [if_pos hok, if_pos hM, toNat_nat]
theorem w_PrizeTurned {x y : Option Addr} {c c' u u2 : Nat} (hx : MnAt s x T.men) (hy : PzAt s y T.list) (hu : u < 256) (hu2 : u2 < 256) (h : ∀ s', Ext s s' → K (.bool true) s') :
    CALL Pg W F_law13_PrizeTurned [.agg #[.slice x T.n c, .slice y T.z c'], .int .u8 (u : Nat), .int .u8 (u2 : Nat)] K E s := by
  refine does_law13_PrizeTurned W x T.n c y T.z c' u u2 _ s ?_
  unfold T_law13_PrizeTurned
  refine ne2 fun s1 e1 z1 o1 o2 => ?_
  refine ne1 fun s2 e2 z2 ou => ?_
  have c0 := e2.cell o1.cell
  have c1 := e2.cell o2.cell
  have cu := ou.cell
  have e02 := e1.trans e2
  refine ⟨_, _, _, c0, _, _, _, c1, ?_⟩
  refine c_far fun s3 b e3 hb => ?_
  try simp only [TUP_mk, AGG_mk, HD_mk, NL_mk, TYI_mk, TYB_mk, TYP_mk, TYL_mk, TYS_mk, TYM_mk, SO_mk, NX_mk, endK_mk, endK_mk', add_0]
  have rx : ∀ {t : Hp}, Ext s2 t → MnAt t x T.men := fun e => hx.ext (e02.trans e)
  have ry : ∀ {t : Hp}, Ext s2 t → PzAt t y T.list := fun e => hy.ext (e02.trans e)
  have J0 : ∀ (b : Bool) (t : Hp), Ext s2 t → (b = false → okP T = true) → J_law13_PrizeTurned_0 W (endK K E) b s.size u2 s1.size t := by
    intro b t et hb
    unfold J_law13_PrizeTurned_0
    refine BR_bool (fun _ => c_awake' et fun u eu => h u (e02.trans eu)) (fun hf => ?_)
    have hok := hb hf
    have hv := okP_vd hok
    have h8 := hv.n8
    have h6 := hv.z6
    have hn1 := hv.n1
    refine ⟨_, _, _, et.cell c0, ?_⟩
    refine nw1 zc_3 rfl fun t1 f1 y1 on => ?_
    have g1 := et.trans f1
    refine ⟨_, _, _, g1.cell c0, _, _, _, g1.cell c1, ?_⟩
    refine nw2 zc_25 rfl rfl fun t2 f2 y2 p1 p2 => ?_
    refine ⟨_, (f2.own on).cell, ?_⟩
    refine MKS_mn (by omega) fun t3 f3 y3 r3 => ?_
    rw [toNat_nat]
    have p1' := f3.own p1
    have p2' := f3.own p2
    refine WR_own (a := ⟨t1.size, 0, none⟩) p1' rfl ?_
    have q1 := own_set (v := .slice (some ⟨t2.size, 0, none⟩) T.n T.n) p1'
    have q2 : Own (setC t3 ⟨t1.size, 0, none⟩ (.slice (some ⟨t2.size, 0, none⟩) T.n T.n)) ⟨t1.size, 1, none⟩ (.slice y T.z c') := own_set_ne (.inr (by show (1 : Nat) ≠ 0; omega)) p2'
    have e14 : Ext t1 (setC t3 ⟨t1.size, 0, none⟩ (.slice (some ⟨t2.size, 0, none⟩) T.n T.n)) := Ext.setC (f2.trans f3) (Nat.le_refl _)
    have hs12 : t1.size < t2.size := by omega
    have r4 : Fr t2.size (setC t3 ⟨t1.size, 0, none⟩ (.slice (some ⟨t2.size, 0, none⟩) T.n T.n)) (some ⟨t2.size, 0, none⟩) T.n T.n 4 (mnV (List.replicate T.n default)) := r3.kp (D := (· = t1.size)) (Kp.setC (Kp.refl _) (.inl rfl)) fun a ha hb => by cases ha; have hb' : t2.size = t1.size := hb; omega
    generalize setC t3 ⟨t1.size, 0, none⟩ (.slice (some ⟨t2.size, 0, none⟩) T.n T.n) = t4 at *
    have g4 := g1.trans e14
    refine ⟨_, _, _, g4.cell c0, ?_⟩
    -- the numbers are turned
    refine L_law13_PrizeTurned_0_rule W _ u2 ⟨s.size, 0, none⟩ ⟨t.size, 0, none⟩ ⟨s1.size, 0, none⟩ ⟨t1.size, 0, none⟩ x T.n c T.n (fun n49 v => Ext t1 v ∧ Own v ⟨t1.size, 0, none⟩ (.slice (some ⟨t2.size, 0, none⟩) T.n T.n) ∧ Own v ⟨t1.size, 1, none⟩ (.slice y T.z c') ∧ ∃ k : Nat, k ≤ T.n ∧ n49 = k ∧ Fr t2.size v (some ⟨t2.size, 0, none⟩) T.n T.n 4 (mnV (tuK T u k))) (fun n49 _ => ((T.n : Int) - n49).toNat) 0 t4
      ⟨e14, q1, q2, 0, by omega, rfl, by rw [tuK_zero]; exact r4⟩ ?_
    rintro n49 v ⟨ev, q1, q2, k, hk, rfl, hfr⟩
    unfold B_law13_PrizeTurned_0
    have gv := g1.trans ev
    refine BR_dec (fun hlt => ?_) (fun hlt => ?_)
    · have hkn : k < T.n := by omega
      obtain ⟨ax, w0, w1, w2, w3, w4⟩ := man_row (rx gv) hkn
      refine IXS_at w0 hkn ?_
      refine ⟨_, w1, _, w2, _, w3, _, w4, ?_⟩
      refine nw4 zc_48 rfl rfl rfl rfl fun v1 j1 y1' b1 b2 b3 b4 => ?_
      refine ⟨_, _, _, (j1.own q1).cell, _, b1.cell, _, b2.cell, _, b3.cell, _, b4.cell, ?_⟩
      refine c_number (n := T.n) hkn (by omega) hu ((gv.trans j1).cell cu) ((ev.trans j1).cell on.cell) ?_
      try simp only [TUP_mk, AGG_mk, HD_mk, NL_mk, TYI_mk, TYB_mk, TYP_mk, TYL_mk, TYS_mk, TYM_mk, SO_mk, NX_mk, endK_mk, endK_mk', add_0]
      refine ANDS_i ⟨_, b1.cell, _, b2.cell, _, b3.cell, _, b4.cell, rfl⟩ ?_
      refine ANDS_i ⟨_, _, _, (j1.own q1).cell, rfl⟩ ?_
      have hs := tuS_lt (t := u) hkn
      refine IXS_nat hs ?_
      have hfr1 := hfr.ext j1
      refine Fr.set4 (w := T.man k) hfr1 (by rw [tuK_len]; exact hs) fun v2 k2 z2 r2 => ?_
      have hb2 : ∀ {o : Nat} {w : Value}, Own v1 ⟨t1.size, o, none⟩ w → Own v2 ⟨t1.size, o, none⟩ w := fun ho => k2.own (fun hb => by have hb' : t1.size = t2.size := hb; omega) ho
      refine ⟨_, rfl, ⟨ext_kp (ev.trans j1) (by show t1.size ≤ t2.size; omega) k2, hb2 (j1.own q1), hb2 (j1.own q2), k + 1, hkn, wrap_succ (by omega), ?_⟩, ms_succ hkn (by omega)⟩
      rw [tuK_succ hkn]
      exact r2
    have hkn : k = T.n := by omega
    subst hkn
    rw [tuK_full] at hfr
    have ren := turn_ren T u
    have back := turn_back T u
    have hokX := ren.ok hok
    have hnX := turn_n T u
    have hzX : (turnP T u).z = T.z := rfl
    have hmX : ∀ {w : Hp}, Ext v w → MnAt w (some ⟨t2.size, 0, none⟩) (turnP T u).men := fun e => row_mn (hfr.row.ext e)
    -- with copies of both lists
    have fin : ∀ (w : Hp) (xm xl : Option Addr) (cm cl : Nat), Ext v w → RowAt w xm (mnV T.men) → RowAt w xl (pzV T.list) → J_law13_PrizeTurned_2 W (endK K E) ⟨s.size, 0, none⟩ ⟨t1.size, 0, none⟩ u2 ⟨t.size, 0, none⟩ ⟨s1.size, 0, none⟩ xm T.n cm xl T.z cl w := by
      intro w xm xl cm cl ew rm rl
      unfold J_law13_PrizeTurned_2
      have gw := gv.trans ew
      refine ⟨_, _, _, gw.cell c0, _, _, _, gw.cell c1, ?_⟩
      refine c_DueV hok (rx gw) (ry gw) fun w1 d cd j1 rd1 => ?_
      try simp only [TUP_mk, AGG_mk, HD_mk, NL_mk, TYI_mk, TYB_mk, TYP_mk, TYL_mk, TYS_mk, TYM_mk, SO_mk, NX_mk, endK_mk, endK_mk', add_0]
      have gw1 := gw.trans j1
      have ew1 := ew.trans j1
      refine ⟨_, _, _, (ew1.own q1).cell, _, _, _, (ew1.own q2).cell, ?_⟩
      have viaX : ∀ {F : FuncId} {args : List Value} {KK : VK} {EE : List PanicEntry → Hp → Prop} {z : Hp}, CALL Pg W F (.agg #[.slice (some ⟨t2.size, 0, none⟩) (turnP T u).n T.n, .slice y (turnP T u).z c'] :: args) KK EE z → CALL Pg W F (.agg #[.slice (some ⟨t2.size, 0, none⟩) T.n T.n, .slice y T.z c'] :: args) KK EE z := fun hh => by rw [hnX] at hh; exact hh
      refine viaX ?_
      refine c_DueV (T := turnP T u) hokX (hmX ew1) (ry gw1) fun w2 d2 cd2 j2 rd2 => ?_
      try simp only [TUP_mk, AGG_mk, HD_mk, NL_mk, TYI_mk, TYB_mk, TYP_mk, TYL_mk, TYS_mk, TYM_mk, SO_mk, NX_mk, endK_mk, endK_mk', add_0]
      rw [hzX] at rd2 ⊢
      have hdX := ren.due hok
      rw [hdX] at rd2
      have gw2 := gw1.trans j2
      have ew2 := ew1.trans j2
      have hlm : (manL ((dueP T).map (Option.map (tuS T.n u)))).length = T.z := by unfold manL; rw [List.length_map, List.length_map, show (dueP T).length = T.z from dueL_len T T.z]
      refine BR_ff rfl ?_
      unfold J_law13_PrizeTurned_1
      refine BR_ff (by simp) ?_
      have hok' := due_okG hv T.z
      have hdl := due_len T
      have hdl0 : (dueP T).length = T.z := dueL_len T T.z
      refine L_law13_PrizeTurned_1_rule W _ u2 ⟨s.size, 0, none⟩ ⟨t.size, 0, none⟩ ⟨s1.size, 0, none⟩ ⟨t1.size, 0, none⟩ xm T.n cm xl T.z cl d T.z cd d2 T.z cd2 T.z (fun _ n184 a => a = w2 ∧ ∃ k : Nat, k ≤ T.z ∧ n184 = k) (fun _ n184 _ => ((T.z : Int) - n184).toNat) false 0 w2 ⟨rfl, 0, by omega, rfl⟩ ?_
      rintro b183 n184 a ⟨rfl, k, hk, rfl⟩
      unfold B_law13_PrizeTurned_1
      refine BR_dec (fun hlt1 => ?_) (fun hlt1 => ?_)
      · have hkz : k < T.z := by omega
        obtain ⟨p, hp, cp⟩ := row_int (rd1.row.ext j2) (by omega : k < (manL (dueP T)).length)
        obtain ⟨p', hp', cp'⟩ := row_int rd2.row (by omega : k < (manL ((dueP T).map (Option.map (tuS T.n u)))).length)
        rw [man_getD (by omega)] at cp
        rw [map_man (by omega)] at cp'
        refine IXS_at hp hkz ?_
        refine ⟨_, cp, ?_⟩
        generalize hnx : (fun vs => N_law13_PrizeTurned_1 _ _ _ _ a vs) = nx
        have A : J_law13_PrizeTurned_3 W (endK K E) false u2 ⟨s.size, 0, none⟩ ⟨t.size, 0, none⟩ ⟨s1.size, 0, none⟩ ⟨t1.size, 0, none⟩ xm T.n cm xl T.z cl d T.z cd d2 T.z cd2 T.z nx b183 k a := by
          unfold J_law13_PrizeTurned_3
          refine BR_ff rfl ?_
          rw [← hnx]
          exact ⟨rfl, _, _, rfl, ⟨rfl, k + 1, hkz, wrap_succ (by omega)⟩, ms_succ hkz (by omega)⟩
        cases ho : (dueP T).getD k none with
        | none =>
          rw [ho] at cp'
          refine BR_tt (decide_eq_true (by show (-1 : Int) < 0; omega)) ?_
          refine IXS_at hp' hkz ?_
          refine ⟨_, cp', ?_⟩
          unfold J_law13_PrizeTurned_4
          refine BR_ff rfl ?_
          exact BR_ff (decide_eq_false (by show ¬ (-1 : Int) ≥ 0; omega)) A
        | some m =>
          rw [ho] at cp'
          have hm : m < T.n := hok'.lt m (by rw [getD_lt (by omega)] at ho; rw [← ho]; exact List.getElem_mem _)
          refine BR_ff (decide_eq_false (by show ¬ ((m : Nat) : Int) < 0; omega)) ?_
          unfold J_law13_PrizeTurned_4
          refine BR_ff rfl ?_
          refine BR_tt (decide_eq_true (by show ((m : Nat) : Int) ≥ 0; omega)) ?_
          refine IXS_at hp' hkz ?_
          refine ⟨_, cp', ?_⟩
          refine c_number (n := T.n) (i := m) hm (by omega) hu (gw2.cell cu) ((ev.trans ew2).cell on.cell) ?_
          try simp only [TUP_mk, AGG_mk, HD_mk, NL_mk, TYI_mk, TYB_mk, TYP_mk, TYL_mk, TYS_mk, TYM_mk, SO_mk, NX_mk, endK_mk, endK_mk', add_0]
          refine ANDS_i ⟨_, cp', rfl⟩ ?_
          have : (manI (Option.map (tuS T.n u) (some m)) != ((tuS T.n u m : Nat) : Int)) = false := by show (((tuS T.n u m : Nat) : Int) != ((tuS T.n u m : Nat) : Int)) = false; simp
          show J_law13_PrizeTurned_3 W (endK K E) (manI (Option.map (tuS T.n u) (some m)) != ((tuS T.n u m : Nat) : Int)) _ _ _ _ _ _ _ _ _ _ _ _ _ _ _ _ _ _ _ _ _ a
          rw [this]
          exact A
      -- all other answers
      refine ⟨_, (ev.trans ew2).cell on.cell, ?_⟩
      refine NZI_pos (by omega) ?_
      have hm : u2 % T.n < T.n := Nat.mod_lt _ (by omega)
      have tmm : Int.tmod (IntKind.wrap .i64 (u2 : Int)) (T.n : Int) = ((u2 % T.n : Nat) : Int) := tm_mod hu2
      generalize u2 % T.n = m at hm tmm
      rw [tmm]
      have hsm : tuS T.n u m < (turnP T u).n := by rw [hnX]; exact tuS_lt hm
      have num : ∀ {z : Hp} {KK : VK} {EE : List PanicEntry → Hp → Prop}, Ext a z → KK (.int .i64 (tuS T.n u m : Nat)) z → CALLV Pg W (.func (.func 40) #[] #[.pointer (some ⟨s1.size, 0, none⟩), .pointer (some ⟨t.size, 0, none⟩)]) [.int .i64 (m : Nat)] KK EE z := fun ez hk => c_number (n := T.n) hm (by omega) hu ((gw2.trans ez).cell cu) ((ev.trans (ew2.trans ez)).cell on.cell) hk
      have rdX : ∀ z, Ext a z → (RDL (Addr.add ⟨t1.size, 0, none⟩ 0) fun x226 l227 c228 => RDL (Addr.add ⟨t1.size, 0, none⟩ 1) fun x229 l230 c231 => fun _ => ((.agg #[(.slice x226 l227 c228), (.slice x229 l230 c231)]) : Value) = (.agg #[(.slice (some ⟨t2.size, 0, none⟩) T.n T.n), (.slice y T.z c')])) z := fun z ez => ⟨_, _, _, ((ew2.trans ez).own q1).cell, _, _, _, ((ew2.trans ez).own q2).cell, rfl⟩
      have hR : ∀ {z : Hp}, Ext a z → Ext s2 z := fun ez => gw2.trans ez
      refine ⟨_, _, _, gw2.cell c0, _, _, _, gw2.cell c1, ?_⟩
      refine c_Stay (rx gw2) (ry gw2) fun a1 k1 => ?_
      rw [stay_val hok hm]
      try simp only [TUP_mk, AGG_mk, HD_mk, NL_mk, TYI_mk, TYB_mk, TYP_mk, TYL_mk, TYS_mk, TYM_mk, SO_mk, NX_mk, endK_mk, endK_mk', add_0]
      have m1 := k1
      refine ⟨_, _, _, ((ew2.trans m1).own q1).cell, _, _, _, ((ew2.trans m1).own q2).cell, ?_⟩
      refine num m1 ?_
      try simp only [TUP_mk, AGG_mk, HD_mk, NL_mk, TYI_mk, TYB_mk, TYP_mk, TYL_mk, TYS_mk, TYM_mk, SO_mk, NX_mk, endK_mk, endK_mk', add_0]
      refine ANDS_i (rdX a1 m1) ?_
      refine viaX ?_
      refine c_Stay (T := turnP T u) (hmX (ew2.trans m1)) (ry (hR m1)) fun a2 k2 => ?_
      rw [stay_val hokX hsm]
      try simp only [TUP_mk, AGG_mk, HD_mk, NL_mk, TYI_mk, TYB_mk, TYP_mk, TYL_mk, TYS_mk, TYM_mk, SO_mk, NX_mk, endK_mk, endK_mk', add_0]
      have m2 := m1.trans k2
      refine ⟨_, _, _, (hR m2).cell c0, _, _, _, (hR m2).cell c1, ?_⟩
      refine c_For (rx (hR m2)) (ry (hR m2)) fun a3 k3 => ?_
      rw [for_val hok hm]
      try simp only [TUP_mk, AGG_mk, HD_mk, NL_mk, TYI_mk, TYB_mk, TYP_mk, TYL_mk, TYS_mk, TYM_mk, SO_mk, NX_mk, endK_mk, endK_mk', add_0]
      have m3 := m2.trans k3
      refine ⟨_, _, _, ((ew2.trans m3).own q1).cell, _, _, _, ((ew2.trans m3).own q2).cell, ?_⟩
      refine num m3 ?_
      try simp only [TUP_mk, AGG_mk, HD_mk, NL_mk, TYI_mk, TYB_mk, TYP_mk, TYL_mk, TYS_mk, TYM_mk, SO_mk, NX_mk, endK_mk, endK_mk', add_0]
      refine ANDS_i (rdX a3 m3) ?_
      refine viaX ?_
      refine c_For (T := turnP T u) (hmX (ew2.trans m3)) (ry (hR m3)) fun a4 k4 => ?_
      rw [for_val hokX hsm, hnX, ren.for hok hm T.n (Nat.le_refl _)]
      try simp only [TUP_mk, AGG_mk, HD_mk, NL_mk, TYI_mk, TYB_mk, TYP_mk, TYL_mk, TYS_mk, TYM_mk, SO_mk, NX_mk, endK_mk, endK_mk', add_0]
      have m4 := m3.trans k4
      refine ⟨_, _, _, (hR m4).cell c0, _, _, _, (hR m4).cell c1, ?_⟩
      refine c_ClubV hok (rx (hR m4)) (ry (hR m4)) fun a5 k5 => ?_
      try simp only [TUP_mk, AGG_mk, HD_mk, NL_mk, TYI_mk, TYB_mk, TYP_mk, TYL_mk, TYS_mk, TYM_mk, SO_mk, NX_mk, endK_mk, endK_mk', add_0]
      have m5 := m4.trans k5
      refine ⟨_, _, _, ((ew2.trans m5).own q1).cell, _, _, _, ((ew2.trans m5).own q2).cell, ?_⟩
      refine viaX ?_
      refine c_ClubV (T := turnP T u) hokX (hmX (ew2.trans m5)) (ry (hR m5)) fun a6 k6 => ?_
      rw [ren.best hok]
      try simp only [TUP_mk, AGG_mk, HD_mk, NL_mk, TYI_mk, TYB_mk, TYP_mk, TYL_mk, TYS_mk, TYM_mk, SO_mk, NX_mk, endK_mk, endK_mk', add_0]
      have m6 := m5.trans k6
      refine ⟨_, _, _, (hR m6).cell c0, _, _, _, (hR m6).cell c1, ?_⟩
      refine c_MostV hok (rx (hR m6)) (ry (hR m6)) fun a7 w7 cw7 k7 r7 => ?_
      try simp only [TUP_mk, AGG_mk, HD_mk, NL_mk, TYI_mk, TYB_mk, TYP_mk, TYL_mk, TYS_mk, TYM_mk, SO_mk, NX_mk, endK_mk, endK_mk', add_0]
      have m7 := m6.trans k7
      refine ⟨_, _, _, ((ew2.trans m7).own q1).cell, _, _, _, ((ew2.trans m7).own q2).cell, ?_⟩
      refine viaX ?_
      refine c_MostV (T := turnP T u) hokX (hmX (ew2.trans m7)) (ry (hR m7)) fun a8 w8 cw8 k8 r8 => ?_
      try simp only [TUP_mk, AGG_mk, HD_mk, NL_mk, TYI_mk, TYB_mk, TYP_mk, TYL_mk, TYS_mk, TYM_mk, SO_mk, NX_mk, endK_mk, endK_mk', add_0]
      have m8 := m7.trans k8
      have hmost : many (bestL (turnP T u)) = many (bestL T) := Nat.le_antisymm back.most ren.most
      rw [hmost]
      refine BR_ff rfl ?_
      unfold J_law13_PrizeTurned_11
      refine BR_ff (by simp) ?_
      unfold J_law13_PrizeTurned_10
      refine BR_ff (by simp) ?_
      unfold J_law13_PrizeTurned_9
      refine BR_ff (by simp) ?_
      unfold J_law13_PrizeTurned_8
      refine BR_ff (by simp) ?_
      unfold J_law13_PrizeTurned_7
      refine BR_ff (by simp) ?_
      unfold J_law13_PrizeTurned_6
      refine BR_ff (by simp) ?_
      unfold J_law13_PrizeTurned_5
      refine BR_ff rfl ?_
      refine ⟨_, (ev.trans (ew2.trans m8)).cell on.cell, ?_⟩
      have g8 := hR m8
      have e8 : Ext w a8 := (j1.trans j2).trans m8
      have rm8 : RowAt a8 xm (mnV T.men) := rm.ext e8
      have rl8 : RowAt a8 xl (pzV T.list) := rl.ext e8
      -- who gains
      refine L_law13_PrizeTurned_2_rule W _ ⟨s.size, 0, none⟩ ⟨s1.size, 0, none⟩ ⟨t.size, 0, none⟩ xm T.n cm xl T.z cl d T.z cd (setK (gainB T m) T.n : Nat) (setK (gainB (turnP T u) (tuS T.n u m)) T.n : Nat) T.n (fun _ n365 a => a = a8 ∧ ∃ k : Nat, k ≤ T.n ∧ n365 = k) (fun _ n365 _ => ((T.n : Int) - n365).toNat) b183 0 a8 ⟨rfl, 0, by omega, rfl⟩ ?_
      rintro b364 n365 a ⟨rfl, k2', hk2, rfl⟩
      unfold B_law13_PrizeTurned_2
      refine BR_dec (fun hlt2 => ?_) (fun hlt2 => ?_)
      · have hkn : k2' < T.n := by omega
        refine NNI_of (by omega) ?_
        refine c_number (n := T.n) hkn (by omega) hu (g8.cell cu) ((ev.trans (ew2.trans m8)).cell on.cell) ?_
        try simp only [TUP_mk, AGG_mk, HD_mk, NL_mk, TYI_mk, TYB_mk, TYP_mk, TYL_mk, TYS_mk, TYM_mk, SO_mk, NX_mk, endK_mk, endK_mk', add_0]
        refine NNI_of (by omega) ?_
        have hsk := tuS_lt (t := u) hkn
        have hg := ren.gain hok hm hkn
        have hbit : andv .i64 (shrv .i64 ((setK (gainB T m) T.n : Nat) : Int) (k2' : Int)) 1 = andv .i64 (shrv .i64 ((setK (gainB (turnP T u) (tuS T.n u m)) T.n : Nat) : Int) ((tuS T.n u k2' : Nat) : Int)) 1 := by
          rw [bit_tab _ (setK_256 _ h8) _ (by omega), bit_tab _ (setK_256 _ h8) _ (by omega), setK_bit _ _ _ hkn, setK_bit _ _ _ hsk, hg]
        refine BR_ff (by rw [hbit]; simp) ?_
        obtain ⟨am, v0, v1, v2, v3, v4⟩ := man_row (row_mn rm8) hkn
        obtain ⟨ap, w0, w1, w2', w3, w4⟩ := man_row (rx g8) hkn
        refine IXS_at v0 hkn ?_
        refine ⟨_, v1, _, v2, _, v3, _, v4, ?_⟩
        refine ⟨_, _, _, g8.cell c0, ?_⟩
        refine IXS_at w0 hkn ?_
        refine ⟨_, w1, _, w2', _, w3, _, w4, ?_⟩
        unfold J_law13_PrizeTurned_12
        refine BR_ff (by simp) ?_
        exact ⟨rfl, _, _, rfl, ⟨rfl, k2' + 1, hkn, wrap_succ (by omega)⟩, ms_succ hkn (by omega)⟩
      · refine L_law13_PrizeTurned_3_rule W _ ⟨s.size, 0, none⟩ xl T.z cl d T.z cd T.z (fun _ n384 a' => a' = a ∧ ∃ k : Nat, k ≤ T.z ∧ n384 = k) (fun _ n384 _ => ((T.z : Int) - n384).toNat) b364 0 a ⟨rfl, 0, by omega, rfl⟩ ?_
        rintro b383 n384 a' ⟨rfl, k3', hk3, rfl⟩
        unfold B_law13_PrizeTurned_3
        refine BR_dec (fun hlt3 => ?_) (fun hlt3 => ?_)
        · have hkz : k3' < T.z := by omega
          obtain ⟨az, v0, v1, v2⟩ := pz_row (row_pz rl8) hkz
          obtain ⟨ay, w0, w1, w2'⟩ := pz_row (ry g8) hkz
          refine IXS_at v0 hkz ?_
          refine ⟨_, v1, _, v2, ?_⟩
          refine ⟨_, _, _, g8.cell c1, ?_⟩
          refine IXS_at w0 hkz ?_
          refine ⟨_, w1, _, w2', ?_⟩
          refine BR_ff (by simp) ?_
          exact ⟨rfl, _, _, rfl, ⟨rfl, k3' + 1, hkz, wrap_succ (by omega)⟩, ms_succ hkz (by omega)⟩
        · exact turned_new hok rfl (rx gw) (ry gw) (gw.cell c0) (gw.cell c1) ((j1.trans j2).trans m8) (rd1.ext (j2.trans m8)) fun a9 k9 => h a9 (e02.trans (gw.trans k9))
    have rd0 : ∀ w, Ext v w → (RDL (Addr.add ⟨s.size, 0, none⟩ 0) fun x84 l85 c86 => fun _ => ((.slice x84 l85 c86) : Value) = (.slice x T.n c)) w := fun w ew => ⟨_, _, _, (gv.trans ew).cell c0, rfl⟩
    have rd1 : ∀ w, Ext v w → (RDL (Addr.add ⟨s.size, 0, none⟩ 1) fun x81 l82 c83 => fun _ => ((.slice x81 l82 c83) : Value) = (.slice y T.z c')) w := fun w ew => ⟨_, _, _, (gv.trans ew).cell c1, rfl⟩
    refine ⟨_, _, _, gv.cell c0, _, _, _, gv.cell c1, ?_⟩
    have fr0 : ∀ (w : Hp) (B lo es : Nat), lo ≤ B → Fr lo w (some ⟨B, 0, none⟩) 0 0 es [] := fun w B lo es hB => ⟨⟨by simp, fun i hi => by simp at hi⟩, by simp, fun a ha => by cases ha; exact hB, by omega⟩
    have rxm : ∀ w, Ext v w → RowAt w x (mnV T.men) := fun w ew => mn_row (rx (gv.trans ew))
    have rym : ∀ w, Ext v w → RowAt w y (pzV T.list) := fun w ew => pz_row' (ry (gv.trans ew))
    have lenM : (mnV T.men).length = T.n * 4 := mnV_len T.men
    have lenZ : (pzV T.list).length = T.z * 2 := pzV_len T.list
    have z0n : 0 + T.n = T.n := Nat.zero_add _
    have z0z : 0 + T.z = T.z := Nat.zero_add _
    refine CONJ_two ?_ ?_
    · refine NEW_rule fun u1 k1 _ _ _ => ?_
      refine ANDS_i (rd1 u1 k1) ?_
      refine ANDS_i (rd0 u1 k1) ?_
      refine CONJ_two ?_ ?_
      · refine APP_fr (lo := v.size) (fr0 u1 _ _ 4 (Nat.le_refl _)) k1.1 (ws := mnV T.men) (rxm u1 k1) lenM zc_48 rfl (by omega) (mnV_one _) (by omega) fun u2' x2 c2 kk2 hx2 g2' => ?_
        have k2 : Ext v u2' := kp_nil k1 (fun b hb => by obtain ⟨a, ha, rfl⟩ := hb; cases ha; exact Nat.le_refl _) kk2
        refine ANDS_i (rd1 u2' k2) ?_
        refine NEW_rule fun u3 k3 _ _ _ => ?_
        have k03 := k2.trans k3
        refine ANDS_i (rd1 u3 k03) ?_
        refine ANDS_i (rd0 u3 k03) ?_
        refine APP_fr (lo := u2'.size) (fr0 u3 _ _ 2 (Nat.le_refl _)) k3.1 (ws := pzV T.list) (rym u3 k03) lenZ zc_50 rfl (by omega) (pzV_one _) (by omega) fun u4 x4 c4 kk4 hx4 g4' => ?_
        have k24 : Ext u2' u4 := kp_nil k3 (fun b hb => by obtain ⟨a, ha, rfl⟩ := hb; cases ha; exact Nat.le_refl _) kk4
        rw [z0n, z0z]
        exact fin u4 x2 x4 c2 c4 (k2.trans k24) (g2'.row.ext k24) g4'.row
      · refine NEW_rule fun u2' k2 _ _ _ => ?_
        have k02 := k1.trans k2
        refine ANDS_i (rd1 u2' k02) ?_
        refine ANDS_i (rd0 u2' k02) ?_
        refine APP_fr (lo := v.size) (fr0 u2' _ _ 4 (Nat.le_refl _)) k02.1 (ws := mnV T.men) (rxm u2' k02) lenM zc_48 rfl (by omega) (mnV_one _) (by omega) fun u3 x3 c3 kk3 hx3 g3' => ?_
        have k3 : Ext v u3 := kp_nil k02 (fun b hb => by obtain ⟨a, ha, rfl⟩ := hb; cases ha; exact Nat.le_refl _) kk3
        refine ANDS_i (rd1 u3 k3) ?_
        have hz3 : u2'.size ≤ u3.size := kk3.1
        refine APP_fr (lo := v.size) (fr0 u3 _ _ 2 k1.1) k3.1 (ws := pzV T.list) (rym u3 k3) lenZ zc_50 rfl (by omega) (pzV_one _) (by omega) fun u4 x4 c4 kk4 hx4 g4' => ?_
        have k4 : Ext v u4 := kp_nil k3 (fun b hb => by obtain ⟨a, ha, rfl⟩ := hb; cases ha; exact k1.1) kk4
        have rm4 : RowAt u4 x3 (mnV T.men) := g3'.row.keep kk4 fun a ha hb => by
          obtain ⟨p, hp, hb⟩ := hb
          cases hp
          have hb' : u1.size = a.block := hb
          rcases hx3 a ha with ⟨a', ha', e⟩ | e
          · cases ha'
            have e' : v.size = a.block := e
            omega
          · have := k2.1; omega
        rw [z0n, z0z]
        exact fin u4 x3 x4 c3 c4 k4 rm4 g4'.row
    · refine NEW_rule fun u1 k1 _ _ _ => ?_
      refine ANDS_i (rd1 u1 k1) ?_
      refine ANDS_i (rd0 u1 k1) ?_
      refine NEW_rule fun u2' k2 _ _ _ => ?_
      have k02 := k1.trans k2
      refine ANDS_i (rd1 u2' k02) ?_
      refine ANDS_i (rd0 u2' k02) ?_
      refine APP_fr (lo := v.size) (fr0 u2' _ _ 4 k1.1) k02.1 (ws := mnV T.men) (rxm u2' k02) lenM zc_48 rfl (by omega) (mnV_one _) (by omega) fun u3 x3 c3 kk3 hx3 g3' => ?_
      have k3 : Ext v u3 := kp_nil k02 (fun b hb => by obtain ⟨a, ha, rfl⟩ := hb; cases ha; exact k1.1) kk3
      refine ANDS_i (rd1 u3 k3) ?_
      refine APP_fr (lo := v.size) (fr0 u3 _ _ 2 (Nat.le_refl _)) k3.1 (ws := pzV T.list) (rym u3 k3) lenZ zc_50 rfl (by omega) (pzV_one _) (by omega) fun u4 x4 c4 kk4 hx4 g4' => ?_
      have k4 : Ext v u4 := kp_nil k3 (fun b hb => by obtain ⟨a, ha, rfl⟩ := hb; cases ha; exact Nat.le_refl _) kk4
      have rm4 : RowAt u4 x3 (mnV T.men) := g3'.row.keep kk4 fun a ha hb => by
        obtain ⟨p, hp, hb⟩ := hb
        cases hp
        have hb' : v.size = a.block := hb
        rcases hx3 a ha with ⟨a', ha', e⟩ | e
        · cases ha'
          have e' : u1.size = a.block := e
          omega
        · have := k02.1; have := k1.1; omega
      rw [z0n, z0z]
      exact fin u4 x3 x4 c3 c4 k4 rm4 g4'.row
  refine BR_bool (fun _ => J0 true s3 e3 (fun hh => by cases hh)) (fun hf => ?_)
  refine ⟨_, _, _, e3.cell c0, _, _, _, e3.cell c1, ?_⟩
  refine f_Prizes (rx e3) (ry e3) fun s4 e4 => ?_
  try simp only [TUP_mk, AGG_mk, HD_mk, NL_mk, TYI_mk, TYB_mk, TYP_mk, TYL_mk, TYS_mk, TYM_mk, SO_mk, NX_mk, endK_mk, endK_mk', add_0]
  exact J0 _ s4 (e3.trans e4) (fun hh => by simpa using hh)
end
end Go.Proofs.Ytfaeokcbfnlgbaa.G

/- PrizeTurned, from any arguments. -/
namespace Go.Proofs.Ytfaeokcbfnlgbaa.G
open Go.V
theorem v_PrizeTurned {W : World} {s : Hp} {v0 v1 v2 : Value} (k0 : RdV Pg s 25 v0) (k1 : RdV Pg s 5 v1) (k2 : RdV Pg s 5 v2) : CALL Pg W F_law13_PrizeTurned [v0, v1, v2] (fun v s' => v = .bool true ∧ Ext s s') (fun _ _ => False) s := by
  obtain ⟨x, c, y, c', T, rfl, hx, hy⟩ := prizes_rd k0
  obtain ⟨u, rfl, hu⟩ := u8_rd k1
  obtain ⟨u2, rfl, hu2⟩ := u8_rd k2
  exact w_PrizeTurned hx hy hu hu2 fun s' e => ⟨rfl, e⟩
end Go.Proofs.Ytfaeokcbfnlgbaa.G

/- The row of the statement PrizeTurned. -/
namespace Go.Proofs.Ytfaeokcbfnlgbaa.prizeTurned
open Go.ChangeShapes Go.WideShapes Go.ChangeAt Go.RowKit Go.V
set_option linter.unusedVariables false
theorem own : ownKnob Try.prog.godebug = none := by kernel_rfl
theorem laidOut : laidOutB Try.prog = true := by kernel_rfl
set_option maxRecDepth 100000 in
theorem lifted (os : Os) (started : os.Started) (H : Type) (enc : TypeId × Value → H) :
    ReturnsInHanded {} Try.checked os 12 .any (Rows.prizeTurnedSpec.pre6 enc Try.prog Try.f12 Rows.prizeTurnedRow.domain false) (Rows.prizeTurnedSpec.post enc Try.prog Try.f12 false true false false) := by
  refine returnsInHanded_of_change_sized (C := Try.checked) own started (by kernel_rfl) Try.func12
    (ChangeSpec.witness6 (enc := enc) (C := Try.checked) false ⟨#[], #[(.agg #[(.slice none 0 0), (.slice none 0 0)]), (.int .u8 0), (.int .u8 0)], []⟩ 8 (by kernel_rfl) (by kernel_rfl) (by kernel_rfl) (by kernel_rfl)) ?_
  intro W base args ds gs before hval0 hW hcnd hsz0 _
  have hsz : (DataW.weightsEach Try.prog (Try.f12.params.toList ++ Rows.prizeTurnedSpec.plain.varTypes Try.prog) (ds ++ gs)).all (· ≤ reachBytes) = true := hsz0
  have hval : ∀ (j : Nat) t v, Try.f12.params[j]? = some t → args[j]? = some v → Value.okWide Try.prog W .any base t v := hval0
  have hW' := hW
  obtain ⟨p, q, hA0, hV, rfl, hfz, hnd⟩ := hW
  have hA : DataW.TrodAll enc Try.prog W 0 (fun _ => true) true Try.f12.params.toList args.toList ds p := hA0
  rw [Try.params12] at hA hval hsz
  obtain ⟨v0, vs0, d0, ds0, p0, q0, hargs, rfl, rfl, h0, r0⟩ := trodAll_cons hA
  obtain ⟨v1, vs1, d1, ds1, p1, q1, rfl, rfl, rfl, h1, r1⟩ := trodAll_cons r0
  obtain ⟨v2, vs2, d2, ds2, p2, q2, rfl, rfl, rfl, h2, r2⟩ := trodAll_cons r1
  obtain ⟨rfl, rfl, rfl⟩ := trodAll_nil r2
  obtain rfl : args = #[v0, v1, v2] := by cases args; simp_all
  obtain ⟨rfl, rfl⟩ := trodVars_none hV
  have k0 := trod_rdV (hval 0 25 v0 rfl rfl) h0
  have lt0 : ∀ x ∈ p0, x.block < W.heap.size := by obtain ⟨m, hm⟩ := h0; exact DataW.trod_lt m _ _ _ hm
  have k1 := trod_rdV (hval 1 5 v1 rfl rfl) h1
  have lt1 : ∀ x ∈ p1, x.block < W.heap.size := by obtain ⟨m, hm⟩ := h1; exact DataW.trod_lt m _ _ _ hm
  have k2 := trod_rdV (hval 2 5 v2 rfl rfl) h2
  have lt2 : ∀ x ∈ p2, x.block < W.heap.size := by obtain ⟨m, hm⟩ := h2; exact DataW.trod_lt m _ _ _ hm
  refine (calls_of_does (does_of_call (G.v_PrizeTurned (W := W) (s := W.heap) k0 k1 k2))).mono fun e W' ⟨he, bel⟩ => ?_
  subst he
  exact ⟨_, rfl, _, _, _, [], _, [], hW', trodAll_mk1 (shut_bool Try.underlying4 _), (trodAll_cons_mk (Below.trod laidOut (by kernel_rfl) (of_decide_eq_true (by kernel_rfl)) h0 bel lt0) (trodAll_cons_mk (Below.trod laidOut (by kernel_rfl) (of_decide_eq_true (by kernel_rfl)) h1 bel lt1) (trodAll_cons_mk (Below.trod laidOut (by kernel_rfl) (of_decide_eq_true (by kernel_rfl)) h2 bel lt2) trodAll_mk0))), rfl, bel.frame _, fun h => by cases h⟩
theorem over : Rows.prizeTurnedRow.holds Try.pinned (OpenSpec.ofChange Rows.prizeTurnedSpec) :=
  OpenClaim.holds_of_wide 12 Try.f12 rfl rfl rfl rfl rfl rfl rfl ⟨rfl, rfl, rfl, rfl, rfl⟩ rfl rfl rfl rfl rfl (by kernel_rfl) Try.func12 (by kernel_rfl)
    (of_decide_eq_true (by kernel_rfl)) (by unfold Func.isWrapper; first | (rw [if_pos (by decide +kernel)]; kernel_rfl) | (rw [if_neg (by decide +kernel)]; exact ⟨rfl, rfl⟩))
    (fun os started H enc _ => lifted os started H enc)
theorem proved : Rows.PrizeTurnedSaid := over
end Go.Proofs.Ytfaeokcbfnlgbaa.prizeTurned
namespace Go.Proofs.Ytfaeokcbfnlgbaa
/-- The row, under a short name. -/
theorem prizeTurned_holds : Rows.PrizeTurnedSaid := prizeTurned.proved
end Go.Proofs.Ytfaeokcbfnlgbaa
