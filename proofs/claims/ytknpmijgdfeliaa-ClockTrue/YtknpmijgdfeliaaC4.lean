import Derived.Test.YtknpmijgdfeliaaC3
/- Lemmas: contracts over the visible heap, and that they are sound; no condition. -/
/- More of the functions' shallow texts, by gen.py. -/
set_option linter.unusedVariables false
set_option maxRecDepth 100000
namespace Go.Proofs.Ytknpmijgdfeliaa.G
open Go.V
def an_13 : Nat → Ann := fun b => match b with
  | 0 => { ms := [2, 3], ks := [.b, .i .i64], us := [1, 142], rt := false, ex := [] }
  | 2 => { ms := [2, 6], ks := [.b, .i .i64], us := [1, 142], rt := false, ex := [] }
  | 4 => { ms := [2, 8], ks := [.b, .i .i64], us := [1, 142], rt := false, ex := [] }
  | _ => {}
abbrev rv_13 : List ResultVar := [.tmp 2]
abbrev rs_13 : List Nat := [142, 2]
def L_ref07_Clock_0 (W : World) (R : Ending → Hp → Prop) (za0 : Addr) (b28 : Bool) (n29 : Int) : Hp → Prop :=
  LOOPN [.b, .i .i64] (fun ys next s => ∀ j : Tm, vc Pg W 142 rs_13 an_13 false (sub (bodyOf Try.f13) [1, 1, 0, 1, 0, 0]) 0 (KLoop [2, 3] [1, 142] [(.pointer (some za0)), (.tuple #[])] next (KBlk 0 (KS Pg W 142 rs_13 an_13 false (sub (bodyOf Try.f13) [1, 1, 1]) 0 (fin Pg W 142 rv_13 R)))) (known [2, 3] ys (known [1, 142] [(.pointer (some za0)), (.tuple #[])] j)) s) [(.bool b28), (.int .i64 n29)]
def L_ref07_Clock_1 (W : World) (R : Ending → Hp → Prop) (za0 : Addr) (b123 : Bool) (n124 : Int) : Hp → Prop :=
  LOOPN [.b, .i .i64] (fun ys next s => ∀ j : Tm, vc Pg W 142 rs_13 an_13 false (sub (bodyOf Try.f13) [1, 1, 1, 0, 1, 0, 0]) 2 (KLoop [2, 6] [1, 142] [(.pointer (some za0)), (.tuple #[])] next (KBlk 2 (KS Pg W 142 rs_13 an_13 false (sub (bodyOf Try.f13) [1, 1, 1, 1]) 0 (fin Pg W 142 rv_13 R)))) (known [2, 6] ys (known [1, 142] [(.pointer (some za0)), (.tuple #[])] j)) s) [(.bool b123), (.int .i64 n124)]
def L_ref07_Clock_2 (W : World) (R : Ending → Hp → Prop) (za0 : Addr) (b169 : Bool) (n170 : Int) : Hp → Prop :=
  LOOPN [.b, .i .i64] (fun ys next s => ∀ j : Tm, vc Pg W 142 rs_13 an_13 false (sub (bodyOf Try.f13) [1, 1, 1, 1, 0, 1, 0, 0]) 4 (KLoop [2, 8] [1, 142] [(.pointer (some za0)), (.tuple #[])] next (KBlk 4 (KS Pg W 142 rs_13 an_13 false (sub (bodyOf Try.f13) [1, 1, 1, 1, 1]) 0 (fin Pg W 142 rv_13 R)))) (known [2, 8] ys (known [1, 142] [(.pointer (some za0)), (.tuple #[])] j)) s) [(.bool b169), (.int .i64 n170)]
def J_ref07_Clock_0 (W : World) (R : Ending → Hp → Prop) (b17 : Bool) (B11 : Nat) : Hp → Prop :=
  BR b17
    (R (.returned (.bool false)))
    (L_ref07_Clock_0 W R ⟨B11, 0, none⟩ false 0)
def J_ref07_Clock_1 (W : World) (R : Ending → Hp → Prop) (b16 : Bool) (B11 : Nat) : Hp → Prop :=
  BR b16
    (J_ref07_Clock_0 W R true B11)
    (RDL (Addr.add ⟨B11, 0, none⟩ 3) fun x18 l19 c20 =>
      J_ref07_Clock_0 W R (decide ((↑l19 : Int) > 5)) B11)
def J_ref07_Clock_2 (W : World) (R : Ending → Hp → Prop) (b15 : Bool) (B11 : Nat) : Hp → Prop :=
  BR b15
    (J_ref07_Clock_1 W R true B11)
    (RDL (Addr.add ⟨B11, 0, none⟩ 2) fun x21 l22 c23 =>
      J_ref07_Clock_1 W R (decide ((↑l22 : Int) > 8)) B11)
def J_ref07_Clock_3 (W : World) (R : Ending → Hp → Prop) (b81 : Bool) (p73 : Option Addr) (za0 : Addr) (nx0 : List Value → Hp → Prop) (b28 : Bool) (n29 : Int) : Hp → Prop :=
  BR b81
    (R (.returned (.bool false)))
    (SO p73 fun a82 =>
      RDI .i64 (Addr.add a82 1) fun n83 =>
        SO p73 fun a84 =>
          RDI .i64 (Addr.add a84 0) fun n85 =>
            BR (decide ((IntKind.wrap .i64 (n83 - n85)) > 4))
              (R (.returned (.bool false)))
              (NX [(.pointer (some za0)), (.tuple #[])] [(.pointer (some za0)), (.tuple #[])] (nx0 [(.bool b28), (.int .i64 (IntKind.wrap .i64 (n29 + 1)))])))
def J_ref07_Clock_4 (W : World) (R : Ending → Hp → Prop) (b80 : Bool) (p73 : Option Addr) (za0 : Addr) (nx0 : List Value → Hp → Prop) (b28 : Bool) (n29 : Int) : Hp → Prop :=
  BR b80
    (J_ref07_Clock_3 W R true p73 za0 nx0 b28 n29)
    (SO p73 fun a86 =>
      RDI .i64 (Addr.add a86 0) fun n87 =>
        RDI .i64 (Addr.add a86 1) fun n88 =>
          CALL Pg W F_ref07_span [(.agg #[(.int .i64 n87), (.int .i64 n88)]), (.int .i64 900), (.int .i64 1100)]
            (fun v89 => TYB v89 fun b91 =>
              J_ref07_Clock_3 W R (!b91) p73 za0 nx0 b28 n29)
              (fun e90 => R (.panicked e90)))
def J_ref07_Clock_5 (W : World) (R : Ending → Hp → Prop) (p72 : Option Addr) (p73 : Option Addr) (za0 : Addr) (nx0 : List Value → Hp → Prop) (b28 : Bool) (n29 : Int) : Hp → Prop :=
  SO p72 fun a74 =>
    RDI .i64 (Addr.add a74 0) fun n75 =>
      RDI .i64 (Addr.add a74 1) fun n76 =>
        CALL Pg W F_ref07_span [(.agg #[(.int .i64 n75), (.int .i64 n76)]), (.int .i64 0), (.int .i64 1000)]
          (fun v77 => TYB v77 fun b79 =>
            BR (!b79)
              (J_ref07_Clock_4 W R true p73 za0 nx0 b28 n29)
              (SO p72 fun a92 =>
                RDI .i64 (Addr.add a92 1) fun n93 =>
                  SO p72 fun a94 =>
                    RDI .i64 (Addr.add a94 0) fun n95 =>
                      J_ref07_Clock_4 W R (decide ((IntKind.wrap .i64 (n93 - n95)) > 6)) p73 za0 nx0 b28 n29))
            (fun e78 => R (.panicked e78))
def J_ref07_Clock_6 (W : World) (R : Ending → Hp → Prop) (b150 : Bool) (B135 : Nat) (za0 : Addr) (nx1 : List Value → Hp → Prop) (b123 : Bool) (n124 : Int) : Hp → Prop :=
  BR b150
    (R (.returned (.bool false)))
    (RDI .i64 (Addr.add ⟨B135, 0, none⟩ 2) fun n151 =>
      CALL Pg W F_ref07_in [(.int .i64 n151), (.int .i64 0), (.int .i64 2000)]
        (fun v152 => TYB v152 fun b154 =>
          BR (!b154)
            (R (.returned (.bool false)))
            (NX [(.pointer (some za0)), (.tuple #[])] [(.pointer (some za0)), (.tuple #[])] (nx1 [(.bool b123), (.int .i64 (IntKind.wrap .i64 (n124 + 1)))])))
          (fun e153 => R (.panicked e153)))
def J_ref07_Clock_7 (W : World) (R : Ending → Hp → Prop) (b198 : Bool) (B182 : Nat) (za0 : Addr) (nx2 : List Value → Hp → Prop) (b169 : Bool) (n170 : Int) : Hp → Prop :=
  BR b198
    (R (.returned (.bool false)))
    (RDI .i64 (Addr.add (Addr.add ⟨B182, 0, none⟩ 2) 0) fun n199 =>
      RDI .i64 (Addr.add (Addr.add ⟨B182, 0, none⟩ 2) 1) fun n200 =>
        CALL Pg W F_ref07_span [(.agg #[(.int .i64 n199), (.int .i64 n200)]), (.int .i64 (-600)), (.int .i64 600)]
          (fun v201 => TYB v201 fun b203 =>
            BR (!b203)
              (R (.returned (.bool false)))
              (NX [(.pointer (some za0)), (.tuple #[])] [(.pointer (some za0)), (.tuple #[])] (nx2 [(.bool b169), (.int .i64 (IntKind.wrap .i64 (n170 + 1)))])))
            (fun e202 => R (.panicked e202)))
def J_ref07_Clock_8 (W : World) (R : Ending → Hp → Prop) (b197 : Bool) (B182 : Nat) (za0 : Addr) (nx2 : List Value → Hp → Prop) (b169 : Bool) (n170 : Int) : Hp → Prop :=
  BR b197
    (J_ref07_Clock_7 W R true B182 za0 nx2 b169 n170)
    (RDI .i64 (Addr.add ⟨B182, 0, none⟩ 0) fun n204 =>
      RDI .i64 (Addr.add ⟨B182, 0, none⟩ 1) fun n205 =>
        J_ref07_Clock_7 W R (n204 == n205) B182 za0 nx2 b169 n170)
def B_ref07_Clock_0 (W : World) (R : Ending → Hp → Prop) (za0 : Addr) (b28 : Bool) (n29 : Int) (nx0 : List Value → Hp → Prop) : Hp → Prop :=
  RDL (Addr.add za0 0) fun x30 l31 c32 =>
    BR (decide (n29 < (↑l31 : Int)))
      (RDL (Addr.add za0 0) fun x33 l34 c35 =>
        IXS x33 l34 n29 4 fun a36 =>
          RDI .i64 (Addr.add (Addr.add a36 0) 0) fun n37 =>
            RDI .i64 (Addr.add (Addr.add a36 0) 1) fun n38 =>
              RDL (Addr.add za0 0) fun x39 l40 c41 =>
                IXS x39 l40 n29 4 fun a42 =>
                  RDI .i64 (Addr.add (Addr.add a42 2) 0) fun n43 =>
                    RDI .i64 (Addr.add (Addr.add a42 2) 1) fun n44 =>
                      CONJ [
                        NEWZ Pg 34 fun B45 =>
                          ANDS (RDI .i64 (Addr.add (Addr.add a42 2) 0) fun n46 =>
                            RDI .i64 (Addr.add (Addr.add a42 2) 1) fun n47 =>
                              fun _ => ((.agg #[(.int .i64 n46), (.int .i64 n47)]) : Value) = (.agg #[(.int .i64 n43), (.int .i64 n44)])) <|
                            ANDS (RDL (Addr.add za0 0) fun x48 l49 c50 =>
                              fun _ => ((.slice x48 l49 c50) : Value) = (.slice x39 l40 c41)) <|
                              ANDS (RDI .i64 (Addr.add (Addr.add a36 0) 0) fun n51 =>
                                RDI .i64 (Addr.add (Addr.add a36 0) 1) fun n52 =>
                                  fun _ => ((.agg #[(.int .i64 n51), (.int .i64 n52)]) : Value) = (.agg #[(.int .i64 n37), (.int .i64 n38)])) <|
                                ANDS (RDL (Addr.add za0 0) fun x53 l54 c55 =>
                                  fun _ => ((.slice x53 l54 c55) : Value) = (.slice x33 l34 c35)) <|
                                  NEWZ Pg 34 fun B56 =>
                                    ANDS (RDI .i64 (Addr.add (Addr.add a42 2) 0) fun n57 =>
                                      RDI .i64 (Addr.add (Addr.add a42 2) 1) fun n58 =>
                                        fun _ => ((.agg #[(.int .i64 n57), (.int .i64 n58)]) : Value) = (.agg #[(.int .i64 n43), (.int .i64 n44)])) <|
                                      ANDS (RDL (Addr.add za0 0) fun x59 l60 c61 =>
                                        fun _ => ((.slice x59 l60 c61) : Value) = (.slice x39 l40 c41)) <|
                                        ANDS (RDI .i64 (Addr.add (Addr.add a36 0) 0) fun n62 =>
                                          RDI .i64 (Addr.add (Addr.add a36 0) 1) fun n63 =>
                                            fun _ => ((.agg #[(.int .i64 n62), (.int .i64 n63)]) : Value) = (.agg #[(.int .i64 n37), (.int .i64 n38)])) <|
                                          ANDS (RDL (Addr.add za0 0) fun x64 l65 c66 =>
                                            fun _ => ((.slice x64 l65 c66) : Value) = (.slice x33 l34 c35)) <|
                                            WR (Addr.add ⟨B45, 0, none⟩ 0) (.int .i64 n37) <|
                                              WR (Addr.add ⟨B45, 0, none⟩ 1) (.int .i64 n38) <|
                                                ANDS (RDI .i64 (Addr.add (Addr.add a42 2) 0) fun n67 =>
                                                  RDI .i64 (Addr.add (Addr.add a42 2) 1) fun n68 =>
                                                    fun _ => ((.agg #[(.int .i64 n67), (.int .i64 n68)]) : Value) = (.agg #[(.int .i64 n43), (.int .i64 n44)])) <|
                                                  ANDS (RDL (Addr.add za0 0) fun x69 l70 c71 =>
                                                    fun _ => ((.slice x69 l70 c71) : Value) = (.slice x39 l40 c41)) <|
                                                    WR (Addr.add ⟨B56, 0, none⟩ 0) (.int .i64 n43) <|
                                                      WR (Addr.add ⟨B56, 0, none⟩ 1) (.int .i64 n44) <|
                                                        J_ref07_Clock_5 W R (some ⟨B45, 0, none⟩) (some ⟨B56, 0, none⟩) za0 nx0 b28 n29,
                        NEWZ Pg 34 fun B96 =>
                          ANDS (RDI .i64 (Addr.add (Addr.add a42 2) 0) fun n97 =>
                            RDI .i64 (Addr.add (Addr.add a42 2) 1) fun n98 =>
                              fun _ => ((.agg #[(.int .i64 n97), (.int .i64 n98)]) : Value) = (.agg #[(.int .i64 n43), (.int .i64 n44)])) <|
                            ANDS (RDL (Addr.add za0 0) fun x99 l100 c101 =>
                              fun _ => ((.slice x99 l100 c101) : Value) = (.slice x39 l40 c41)) <|
                              ANDS (RDI .i64 (Addr.add (Addr.add a36 0) 0) fun n102 =>
                                RDI .i64 (Addr.add (Addr.add a36 0) 1) fun n103 =>
                                  fun _ => ((.agg #[(.int .i64 n102), (.int .i64 n103)]) : Value) = (.agg #[(.int .i64 n37), (.int .i64 n38)])) <|
                                ANDS (RDL (Addr.add za0 0) fun x104 l105 c106 =>
                                  fun _ => ((.slice x104 l105 c106) : Value) = (.slice x33 l34 c35)) <|
                                  NEWZ Pg 34 fun B107 =>
                                    ANDS (RDI .i64 (Addr.add (Addr.add a42 2) 0) fun n108 =>
                                      RDI .i64 (Addr.add (Addr.add a42 2) 1) fun n109 =>
                                        fun _ => ((.agg #[(.int .i64 n108), (.int .i64 n109)]) : Value) = (.agg #[(.int .i64 n43), (.int .i64 n44)])) <|
                                      ANDS (RDL (Addr.add za0 0) fun x110 l111 c112 =>
                                        fun _ => ((.slice x110 l111 c112) : Value) = (.slice x39 l40 c41)) <|
                                        ANDS (RDI .i64 (Addr.add (Addr.add a36 0) 0) fun n113 =>
                                          RDI .i64 (Addr.add (Addr.add a36 0) 1) fun n114 =>
                                            fun _ => ((.agg #[(.int .i64 n113), (.int .i64 n114)]) : Value) = (.agg #[(.int .i64 n37), (.int .i64 n38)])) <|
                                          ANDS (RDL (Addr.add za0 0) fun x115 l116 c117 =>
                                            fun _ => ((.slice x115 l116 c117) : Value) = (.slice x33 l34 c35)) <|
                                            WR (Addr.add ⟨B107, 0, none⟩ 0) (.int .i64 n37) <|
                                              WR (Addr.add ⟨B107, 0, none⟩ 1) (.int .i64 n38) <|
                                                ANDS (RDI .i64 (Addr.add (Addr.add a42 2) 0) fun n118 =>
                                                  RDI .i64 (Addr.add (Addr.add a42 2) 1) fun n119 =>
                                                    fun _ => ((.agg #[(.int .i64 n118), (.int .i64 n119)]) : Value) = (.agg #[(.int .i64 n43), (.int .i64 n44)])) <|
                                                  ANDS (RDL (Addr.add za0 0) fun x120 l121 c122 =>
                                                    fun _ => ((.slice x120 l121 c122) : Value) = (.slice x39 l40 c41)) <|
                                                    WR (Addr.add ⟨B96, 0, none⟩ 0) (.int .i64 n43) <|
                                                      WR (Addr.add ⟨B96, 0, none⟩ 1) (.int .i64 n44) <|
                                                        J_ref07_Clock_5 W R (some ⟨B107, 0, none⟩) (some ⟨B96, 0, none⟩) za0 nx0 b28 n29])
      (L_ref07_Clock_1 W R za0 b28 0)
theorem B_ref07_Clock_0_eq (W : World) (R : Ending → Hp → Prop) (za0 : Addr) (b28 : Bool) (n29 : Int) (nx0 : List Value → Hp → Prop) (j : Tm) : vc Pg W 142 rs_13 an_13 false (sub (bodyOf Try.f13) [1, 1, 0, 1, 0, 0]) 0 (KLoop [2, 3] [1, 142] [(.pointer (some za0)), (.tuple #[])] nx0 (KBlk 0 (KS Pg W 142 rs_13 an_13 false (sub (bodyOf Try.f13) [1, 1, 1]) 0 (fin Pg W 142 rv_13 R)))) (known [2, 3] [(.bool b28), (.int .i64 n29)] (known [1, 142] [(.pointer (some za0)), (.tuple #[])] j)) = B_ref07_Clock_0 W R za0 b28 n29 nx0 := by kernel_rfl
def N_ref07_Clock_0 (I : Bool → Int → Hp → Prop) (μ : Bool → Int → Hp → Nat) (b280 : Bool) (n290 : Int) (s : Hp) (vs : List Value) : Hp → Prop := fun s' => ∃ b28 n29, vs = [(.bool b28), (.int .i64 n29)] ∧ I b28 n29 s' ∧ μ b28 n29 s' < μ b280 n290 s
theorem L_ref07_Clock_0_rule (W : World) (R : Ending → Hp → Prop) (za0 : Addr) (I : Bool → Int → Hp → Prop) (μ : Bool → Int → Hp → Nat) (b280 : Bool) (n290 : Int) (s : Hp) (h0 : I b280 n290 s)
    (hr : ∀ (b28 : Bool) (n29 : Int) (s : Hp), I b28 n29 s → B_ref07_Clock_0 W R za0 b28 n29 (fun vs => N_ref07_Clock_0 I μ b28 n29 s vs) s) : L_ref07_Clock_0 W R za0 b280 n290 s := by
  refine ⟨fun vs s => ∃ b28 n29, vs = [(.bool b28), (.int .i64 n29)] ∧ I b28 n29 s, fun vs s => (match vs with | [.bool b28, .int _ n29] => μ b28 n29 s | _ => 0), ⟨⟨⟨_, rfl⟩, ⟨⟨_, rfl⟩, trivial⟩⟩, ⟨_, _, rfl, h0⟩⟩, ?_⟩
  intro b28 n29 s hI j
  obtain ⟨b28', n29', hy, hI⟩ := hI
  have hI' : I b28 n29 s := by cases hy; exact hI
  have hh := hr b28 n29 s hI'
  rw [← B_ref07_Clock_0_eq W R za0 b28 n29 _ j] at hh
  refine vc_mono ?_ _ _ hh
  exact KLoop_mono (fun vs s' h => by obtain ⟨b281, n291, rfl, h1, h2⟩ := h; exact ⟨⟨⟨_, rfl⟩, ⟨⟨_, rfl⟩, trivial⟩⟩, ⟨_, _, rfl, h1⟩, h2⟩)
def B_ref07_Clock_1 (W : World) (R : Ending → Hp → Prop) (za0 : Addr) (b123 : Bool) (n124 : Int) (nx1 : List Value → Hp → Prop) : Hp → Prop :=
  RDL (Addr.add za0 2) fun x125 l126 c127 =>
    BR (decide (n124 < (↑l126 : Int)))
      (RDL (Addr.add za0 2) fun x128 l129 c130 =>
        IXS x128 l129 n124 3 fun a131 =>
          RDI .i64 (Addr.add a131 0) fun n132 =>
            RDI .i64 (Addr.add a131 1) fun n133 =>
              RDI .i64 (Addr.add a131 2) fun n134 =>
                NEWZ Pg 61 fun B135 =>
                  WR (Addr.add ⟨B135, 0, none⟩ 0) (.int .i64 n132) <|
                    WR (Addr.add ⟨B135, 0, none⟩ 1) (.int .i64 n133) <|
                      WR (Addr.add ⟨B135, 0, none⟩ 2) (.int .i64 n134) <|
                        RDL (Addr.add za0 0) fun x136 l137 c138 =>
                          RDI .i64 (Addr.add za0 1) fun n139 =>
                            RDL (Addr.add za0 2) fun x140 l141 c142 =>
                              RDL (Addr.add za0 3) fun x143 l144 c145 =>
                                RDI .i64 (Addr.add ⟨B135, 0, none⟩ 0) fun n146 =>
                                  CALL Pg W F_ref07_Event [(.agg #[(.slice x136 l137 c138), (.int .i64 n139), (.slice x140 l141 c142), (.slice x143 l144 c145)]), (.int .i64 n146)]
                                    (fun v147 => TYB v147 fun b149 =>
                                      BR (!b149)
                                        (J_ref07_Clock_6 W R true B135 za0 nx1 b123 n124)
                                        (RDL (Addr.add za0 0) fun x155 l156 c157 =>
                                          RDI .i64 (Addr.add za0 1) fun n158 =>
                                            RDL (Addr.add za0 2) fun x159 l160 c161 =>
                                              RDL (Addr.add za0 3) fun x162 l163 c164 =>
                                                RDI .i64 (Addr.add ⟨B135, 0, none⟩ 1) fun n165 =>
                                                  CALL Pg W F_ref07_Watch [(.agg #[(.slice x155 l156 c157), (.int .i64 n158), (.slice x159 l160 c161), (.slice x162 l163 c164)]), (.int .i64 n165)]
                                                    (fun v166 => TYB v166 fun b168 =>
                                                      J_ref07_Clock_6 W R (!b168) B135 za0 nx1 b123 n124)
                                                      (fun e167 => R (.panicked e167))))
                                      (fun e148 => R (.panicked e148)))
      (L_ref07_Clock_2 W R za0 b123 0)
theorem B_ref07_Clock_1_eq (W : World) (R : Ending → Hp → Prop) (za0 : Addr) (b123 : Bool) (n124 : Int) (nx1 : List Value → Hp → Prop) (j : Tm) : vc Pg W 142 rs_13 an_13 false (sub (bodyOf Try.f13) [1, 1, 1, 0, 1, 0, 0]) 2 (KLoop [2, 6] [1, 142] [(.pointer (some za0)), (.tuple #[])] nx1 (KBlk 2 (KS Pg W 142 rs_13 an_13 false (sub (bodyOf Try.f13) [1, 1, 1, 1]) 0 (fin Pg W 142 rv_13 R)))) (known [2, 6] [(.bool b123), (.int .i64 n124)] (known [1, 142] [(.pointer (some za0)), (.tuple #[])] j)) = B_ref07_Clock_1 W R za0 b123 n124 nx1 := by kernel_rfl
def N_ref07_Clock_1 (I : Bool → Int → Hp → Prop) (μ : Bool → Int → Hp → Nat) (b1230 : Bool) (n1240 : Int) (s : Hp) (vs : List Value) : Hp → Prop := fun s' => ∃ b123 n124, vs = [(.bool b123), (.int .i64 n124)] ∧ I b123 n124 s' ∧ μ b123 n124 s' < μ b1230 n1240 s
theorem L_ref07_Clock_1_rule (W : World) (R : Ending → Hp → Prop) (za0 : Addr) (I : Bool → Int → Hp → Prop) (μ : Bool → Int → Hp → Nat) (b1230 : Bool) (n1240 : Int) (s : Hp) (h0 : I b1230 n1240 s)
    (hr : ∀ (b123 : Bool) (n124 : Int) (s : Hp), I b123 n124 s → B_ref07_Clock_1 W R za0 b123 n124 (fun vs => N_ref07_Clock_1 I μ b123 n124 s vs) s) : L_ref07_Clock_1 W R za0 b1230 n1240 s := by
  refine ⟨fun vs s => ∃ b123 n124, vs = [(.bool b123), (.int .i64 n124)] ∧ I b123 n124 s, fun vs s => (match vs with | [.bool b123, .int _ n124] => μ b123 n124 s | _ => 0), ⟨⟨⟨_, rfl⟩, ⟨⟨_, rfl⟩, trivial⟩⟩, ⟨_, _, rfl, h0⟩⟩, ?_⟩
  intro b123 n124 s hI j
  obtain ⟨b123', n124', hy, hI⟩ := hI
  have hI' : I b123 n124 s := by cases hy; exact hI
  have hh := hr b123 n124 s hI'
  rw [← B_ref07_Clock_1_eq W R za0 b123 n124 _ j] at hh
  refine vc_mono ?_ _ _ hh
  exact KLoop_mono (fun vs s' h => by obtain ⟨b1231, n1241, rfl, h1, h2⟩ := h; exact ⟨⟨⟨_, rfl⟩, ⟨⟨_, rfl⟩, trivial⟩⟩, ⟨_, _, rfl, h1⟩, h2⟩)
def B_ref07_Clock_2 (W : World) (R : Ending → Hp → Prop) (za0 : Addr) (b169 : Bool) (n170 : Int) (nx2 : List Value → Hp → Prop) : Hp → Prop :=
  RDL (Addr.add za0 3) fun x171 l172 c173 =>
    BR (decide (n170 < (↑l172 : Int)))
      (RDL (Addr.add za0 3) fun x174 l175 c176 =>
        IXS x174 l175 n170 4 fun a177 =>
          RDI .i64 (Addr.add a177 0) fun n178 =>
            RDI .i64 (Addr.add a177 1) fun n179 =>
              RDI .i64 (Addr.add a177 2) fun n180 =>
                RDI .i64 (Addr.add a177 3) fun n181 =>
                  NEWZ Pg 63 fun B182 =>
                    WR (Addr.add ⟨B182, 0, none⟩ 0) (.int .i64 n178) <|
                      WR (Addr.add ⟨B182, 0, none⟩ 1) (.int .i64 n179) <|
                        WR (Addr.add ⟨B182, 0, none⟩ 2) (.int .i64 n180) <|
                          WR (Addr.add ⟨B182, 0, none⟩ 3) (.int .i64 n181) <|
                            RDL (Addr.add za0 0) fun x183 l184 c185 =>
                              RDI .i64 (Addr.add za0 1) fun n186 =>
                                RDL (Addr.add za0 2) fun x187 l188 c189 =>
                                  RDL (Addr.add za0 3) fun x190 l191 c192 =>
                                    RDI .i64 (Addr.add ⟨B182, 0, none⟩ 0) fun n193 =>
                                      CALL Pg W F_ref07_Event [(.agg #[(.slice x183 l184 c185), (.int .i64 n186), (.slice x187 l188 c189), (.slice x190 l191 c192)]), (.int .i64 n193)]
                                        (fun v194 => TYB v194 fun b196 =>
                                          BR (!b196)
                                            (J_ref07_Clock_8 W R true B182 za0 nx2 b169 n170)
                                            (RDL (Addr.add za0 0) fun x206 l207 c208 =>
                                              RDI .i64 (Addr.add za0 1) fun n209 =>
                                                RDL (Addr.add za0 2) fun x210 l211 c212 =>
                                                  RDL (Addr.add za0 3) fun x213 l214 c215 =>
                                                    RDI .i64 (Addr.add ⟨B182, 0, none⟩ 1) fun n216 =>
                                                      CALL Pg W F_ref07_Event [(.agg #[(.slice x206 l207 c208), (.int .i64 n209), (.slice x210 l211 c212), (.slice x213 l214 c215)]), (.int .i64 n216)]
                                                        (fun v217 => TYB v217 fun b219 =>
                                                          J_ref07_Clock_8 W R (!b219) B182 za0 nx2 b169 n170)
                                                          (fun e218 => R (.panicked e218))))
                                          (fun e195 => R (.panicked e195)))
      (R (.returned (.bool true)))
theorem B_ref07_Clock_2_eq (W : World) (R : Ending → Hp → Prop) (za0 : Addr) (b169 : Bool) (n170 : Int) (nx2 : List Value → Hp → Prop) (j : Tm) : vc Pg W 142 rs_13 an_13 false (sub (bodyOf Try.f13) [1, 1, 1, 1, 0, 1, 0, 0]) 4 (KLoop [2, 8] [1, 142] [(.pointer (some za0)), (.tuple #[])] nx2 (KBlk 4 (KS Pg W 142 rs_13 an_13 false (sub (bodyOf Try.f13) [1, 1, 1, 1, 1]) 0 (fin Pg W 142 rv_13 R)))) (known [2, 8] [(.bool b169), (.int .i64 n170)] (known [1, 142] [(.pointer (some za0)), (.tuple #[])] j)) = B_ref07_Clock_2 W R za0 b169 n170 nx2 := by kernel_rfl
def N_ref07_Clock_2 (I : Bool → Int → Hp → Prop) (μ : Bool → Int → Hp → Nat) (b1690 : Bool) (n1700 : Int) (s : Hp) (vs : List Value) : Hp → Prop := fun s' => ∃ b169 n170, vs = [(.bool b169), (.int .i64 n170)] ∧ I b169 n170 s' ∧ μ b169 n170 s' < μ b1690 n1700 s
theorem L_ref07_Clock_2_rule (W : World) (R : Ending → Hp → Prop) (za0 : Addr) (I : Bool → Int → Hp → Prop) (μ : Bool → Int → Hp → Nat) (b1690 : Bool) (n1700 : Int) (s : Hp) (h0 : I b1690 n1700 s)
    (hr : ∀ (b169 : Bool) (n170 : Int) (s : Hp), I b169 n170 s → B_ref07_Clock_2 W R za0 b169 n170 (fun vs => N_ref07_Clock_2 I μ b169 n170 s vs) s) : L_ref07_Clock_2 W R za0 b1690 n1700 s := by
  refine ⟨fun vs s => ∃ b169 n170, vs = [(.bool b169), (.int .i64 n170)] ∧ I b169 n170 s, fun vs s => (match vs with | [.bool b169, .int _ n170] => μ b169 n170 s | _ => 0), ⟨⟨⟨_, rfl⟩, ⟨⟨_, rfl⟩, trivial⟩⟩, ⟨_, _, rfl, h0⟩⟩, ?_⟩
  intro b169 n170 s hI j
  obtain ⟨b169', n170', hy, hI⟩ := hI
  have hI' : I b169 n170 s := by cases hy; exact hI
  have hh := hr b169 n170 s hI'
  rw [← B_ref07_Clock_2_eq W R za0 b169 n170 _ j] at hh
  refine vc_mono ?_ _ _ hh
  exact KLoop_mono (fun vs s' h => by obtain ⟨b1691, n1701, rfl, h1, h2⟩ := h; exact ⟨⟨⟨_, rfl⟩, ⟨⟨_, rfl⟩, trivial⟩⟩, ⟨_, _, rfl, h1⟩, h2⟩)
def T_ref07_Clock (W : World) (x1 : Option Addr) (l2 : Nat) (c3 : Nat) (n4 : Int) (x5 : Option Addr) (l6 : Nat) (c7 : Nat) (x8 : Option Addr) (l9 : Nat) (c10 : Nat) (R : Ending → Hp → Prop) : Hp → Prop :=
  NEW 26 [(.slice x1 l2 c3), (.int .i64 n4), (.slice x5 l6 c7), (.slice x8 l9 c10)] fun B11 =>
    RDL (Addr.add ⟨B11, 0, none⟩ 0) fun x12 l13 c14 =>
      BR (decide ((↑l13 : Int) > 2))
        (J_ref07_Clock_2 W R true B11)
        (RDI .i64 (Addr.add ⟨B11, 0, none⟩ 1) fun n24 =>
          CALL Pg W F_ref07_in [(.int .i64 n24), (.int .i64 0), (.int .i64 5)]
            (fun v25 => TYB v25 fun b27 =>
              J_ref07_Clock_2 W R (!b27) B11)
              (fun e26 => R (.panicked e26)))
theorem T_ref07_Clock_eq (W : World) (x1 : Option Addr) (l2 : Nat) (c3 : Nat) (n4 : Int) (x5 : Option Addr) (l6 : Nat) (c7 : Nat) (x8 : Option Addr) (l9 : Nat) (c10 : Nat) (R : Ending → Hp → Prop) : vfun Pg W an_13 Try.f13 [(.agg #[(.slice x1 l2 c3), (.int .i64 n4), (.slice x5 l6 c7), (.slice x8 l9 c10)])] R = T_ref07_Clock W x1 l2 c3 n4 x5 l6 c7 x8 l9 c10 R := by kernel_rfl
theorem does_ref07_Clock (W : World) (x1 : Option Addr) (l2 : Nat) (c3 : Nat) (n4 : Int) (x5 : Option Addr) (l6 : Nat) (c7 : Nat) (x8 : Option Addr) (l9 : Nat) (c10 : Nat) (R : Ending → Hp → Prop) (s : Hp) (h : T_ref07_Clock W x1 l2 c3 n4 x5 l6 c7 x8 l9 c10 R s) : Does Pg W F_ref07_Clock #[(.agg #[(.slice x1 l2 c3), (.int .i64 n4), (.slice x5 l6 c7), (.slice x8 l9 c10)])] s R :=
  does_of_vfun Pg W an_13 Try.func13 rfl (by kernel_rfl) (by rw [T_ref07_Clock_eq]; exact h)
def an_17 : Nat → Ann := fun b => match b with
  | _ => {}
abbrev rv_17 : List ResultVar := [.tmp 2]
abbrev rs_17 : List Nat := [8, 2]
def T_ref07_Every (W : World) (x1 : Option Addr) (l2 : Nat) (c3 : Nat) (n4 : Int) (x5 : Option Addr) (l6 : Nat) (c7 : Nat) (x8 : Option Addr) (l9 : Nat) (c10 : Nat) (R : Ending → Hp → Prop) : Hp → Prop :=
  NEW 26 [(.slice x1 l2 c3), (.int .i64 n4), (.slice x5 l6 c7), (.slice x8 l9 c10)] fun B11 =>
    RDL (Addr.add ⟨B11, 0, none⟩ 2) fun x12 l13 c14 =>
      CALL Pg W F_ref07_power [(.int .i64 (↑l13 : Int))]
        (fun v15 => TYI .i64 v15 fun n17 =>
          R (.returned (.int .i64 (IntKind.wrap .i64 (n17 - 1)))))
          (fun e16 => R (.panicked e16))
theorem T_ref07_Every_eq (W : World) (x1 : Option Addr) (l2 : Nat) (c3 : Nat) (n4 : Int) (x5 : Option Addr) (l6 : Nat) (c7 : Nat) (x8 : Option Addr) (l9 : Nat) (c10 : Nat) (R : Ending → Hp → Prop) : vfun Pg W an_17 Try.f17 [(.agg #[(.slice x1 l2 c3), (.int .i64 n4), (.slice x5 l6 c7), (.slice x8 l9 c10)])] R = T_ref07_Every W x1 l2 c3 n4 x5 l6 c7 x8 l9 c10 R := by kernel_rfl
theorem does_ref07_Every (W : World) (x1 : Option Addr) (l2 : Nat) (c3 : Nat) (n4 : Int) (x5 : Option Addr) (l6 : Nat) (c7 : Nat) (x8 : Option Addr) (l9 : Nat) (c10 : Nat) (R : Ending → Hp → Prop) (s : Hp) (h : T_ref07_Every W x1 l2 c3 n4 x5 l6 c7 x8 l9 c10 R s) : Does Pg W F_ref07_Every #[(.agg #[(.slice x1 l2 c3), (.int .i64 n4), (.slice x5 l6 c7), (.slice x8 l9 c10)])] s R :=
  does_of_vfun Pg W an_17 Try.func17 rfl (by kernel_rfl) (by rw [T_ref07_Every_eq]; exact h)
def an_18 : Nat → Ann := fun b => match b with
  | 0 => { ms := [5, 6], ks := [.i .i64, .i .i64], us := [1, 2, 4, 27], rt := false, ex := [] }
  | _ => {}
abbrev rv_18 : List ResultVar := [.tmp 4]
abbrev rs_18 : List Nat := [27, 4]
def L_ref07_Without_0 (W : World) (R : Ending → Hp → Prop) (zn0 : Int) (za1 : Addr) (n13 : Int) (n14 : Int) : Hp → Prop :=
  LOOPN [.i .i64, .i .i64] (fun ys next s => ∀ j : Tm, vc Pg W 27 rs_18 an_18 false (sub (bodyOf Try.f18) [1, 1, 0, 1, 0, 0]) 0 (KLoop [5, 6] [1, 2, 4, 27] [(.int .i64 zn0), (.pointer (some za1)), (.int .i64 0), (.tuple #[])] next (KBlk 0 (KS Pg W 27 rs_18 an_18 false (sub (bodyOf Try.f18) [1, 1, 1]) 0 (fin Pg W 27 rv_18 R)))) (known [5, 6] ys (known [1, 2, 4, 27] [(.int .i64 zn0), (.pointer (some za1)), (.int .i64 0), (.tuple #[])] j)) s) [(.int .i64 n13), (.int .i64 n14)]
def B_ref07_Without_0 (W : World) (R : Ending → Hp → Prop) (zn0 : Int) (za1 : Addr) (n13 : Int) (n14 : Int) (nx0 : List Value → Hp → Prop) : Hp → Prop :=
  RDL (Addr.add za1 2) fun x15 l16 c17 =>
    BR (decide (n14 < (↑l16 : Int)))
      (RDL (Addr.add za1 2) fun x18 l19 c20 =>
        IXS x18 l19 n14 3 fun a21 =>
          RDI .i64 (Addr.add a21 1) fun n22 =>
            BR (n22 != zn0)
              (CALL Pg W F_ref07_power [(.int .i64 n14)]
                (fun v23 => TYI .i64 v23 fun n25 =>
                  NX [(.int .i64 zn0), (.pointer (some za1)), (.int .i64 0), (.tuple #[])] [(.int .i64 zn0), (.pointer (some za1)), (.int .i64 0), (.tuple #[])] (nx0 [(.int .i64 (IntKind.wrap .i64 (n13 + n25))), (.int .i64 (IntKind.wrap .i64 (n14 + 1)))]))
                  (fun e24 => R (.panicked e24)))
              (NX [(.int .i64 zn0), (.pointer (some za1)), (.int .i64 0), (.tuple #[])] [(.int .i64 zn0), (.pointer (some za1)), (.int .i64 0), (.tuple #[])] (nx0 [(.int .i64 n13), (.int .i64 (IntKind.wrap .i64 (n14 + 1)))])))
      (R (.returned (.int .i64 n13)))
theorem B_ref07_Without_0_eq (W : World) (R : Ending → Hp → Prop) (zn0 : Int) (za1 : Addr) (n13 : Int) (n14 : Int) (nx0 : List Value → Hp → Prop) (j : Tm) : vc Pg W 27 rs_18 an_18 false (sub (bodyOf Try.f18) [1, 1, 0, 1, 0, 0]) 0 (KLoop [5, 6] [1, 2, 4, 27] [(.int .i64 zn0), (.pointer (some za1)), (.int .i64 0), (.tuple #[])] nx0 (KBlk 0 (KS Pg W 27 rs_18 an_18 false (sub (bodyOf Try.f18) [1, 1, 1]) 0 (fin Pg W 27 rv_18 R)))) (known [5, 6] [(.int .i64 n13), (.int .i64 n14)] (known [1, 2, 4, 27] [(.int .i64 zn0), (.pointer (some za1)), (.int .i64 0), (.tuple #[])] j)) = B_ref07_Without_0 W R zn0 za1 n13 n14 nx0 := by kernel_rfl
def N_ref07_Without_0 (I : Int → Int → Hp → Prop) (μ : Int → Int → Hp → Nat) (n130 : Int) (n140 : Int) (s : Hp) (vs : List Value) : Hp → Prop := fun s' => ∃ n13 n14, vs = [(.int .i64 n13), (.int .i64 n14)] ∧ I n13 n14 s' ∧ μ n13 n14 s' < μ n130 n140 s
theorem L_ref07_Without_0_rule (W : World) (R : Ending → Hp → Prop) (zn0 : Int) (za1 : Addr) (I : Int → Int → Hp → Prop) (μ : Int → Int → Hp → Nat) (n130 : Int) (n140 : Int) (s : Hp) (h0 : I n130 n140 s)
    (hr : ∀ (n13 : Int) (n14 : Int) (s : Hp), I n13 n14 s → B_ref07_Without_0 W R zn0 za1 n13 n14 (fun vs => N_ref07_Without_0 I μ n13 n14 s vs) s) : L_ref07_Without_0 W R zn0 za1 n130 n140 s := by
  refine ⟨fun vs s => ∃ n13 n14, vs = [(.int .i64 n13), (.int .i64 n14)] ∧ I n13 n14 s, fun vs s => (match vs with | [.int _ n13, .int _ n14] => μ n13 n14 s | _ => 0), ⟨⟨⟨_, rfl⟩, ⟨⟨_, rfl⟩, trivial⟩⟩, ⟨_, _, rfl, h0⟩⟩, ?_⟩
  intro n13 n14 s hI j
  obtain ⟨n13', n14', hy, hI⟩ := hI
  have hI' : I n13 n14 s := by cases hy; exact hI
  have hh := hr n13 n14 s hI'
  rw [← B_ref07_Without_0_eq W R zn0 za1 n13 n14 _ j] at hh
  refine vc_mono ?_ _ _ hh
  exact KLoop_mono (fun vs s' h => by obtain ⟨n131, n141, rfl, h1, h2⟩ := h; exact ⟨⟨⟨_, rfl⟩, ⟨⟨_, rfl⟩, trivial⟩⟩, ⟨_, _, rfl, h1⟩, h2⟩)
def T_ref07_Without (W : World) (x1 : Option Addr) (l2 : Nat) (c3 : Nat) (n4 : Int) (x5 : Option Addr) (l6 : Nat) (c7 : Nat) (x8 : Option Addr) (l9 : Nat) (c10 : Nat) (n11 : Int) (R : Ending → Hp → Prop) : Hp → Prop :=
  NEW 26 [(.slice x1 l2 c3), (.int .i64 n4), (.slice x5 l6 c7), (.slice x8 l9 c10)] fun B12 =>
    L_ref07_Without_0 W R n11 ⟨B12, 0, none⟩ 0 0
theorem T_ref07_Without_eq (W : World) (x1 : Option Addr) (l2 : Nat) (c3 : Nat) (n4 : Int) (x5 : Option Addr) (l6 : Nat) (c7 : Nat) (x8 : Option Addr) (l9 : Nat) (c10 : Nat) (n11 : Int) (R : Ending → Hp → Prop) : vfun Pg W an_18 Try.f18 [(.agg #[(.slice x1 l2 c3), (.int .i64 n4), (.slice x5 l6 c7), (.slice x8 l9 c10)]), (.int .i64 n11)] R = T_ref07_Without W x1 l2 c3 n4 x5 l6 c7 x8 l9 c10 n11 R := by kernel_rfl
theorem does_ref07_Without (W : World) (x1 : Option Addr) (l2 : Nat) (c3 : Nat) (n4 : Int) (x5 : Option Addr) (l6 : Nat) (c7 : Nat) (x8 : Option Addr) (l9 : Nat) (c10 : Nat) (n11 : Int) (R : Ending → Hp → Prop) (s : Hp) (h : T_ref07_Without W x1 l2 c3 n4 x5 l6 c7 x8 l9 c10 n11 R s) : Does Pg W F_ref07_Without #[(.agg #[(.slice x1 l2 c3), (.int .i64 n4), (.slice x5 l6 c7), (.slice x8 l9 c10)]), (.int .i64 n11)] s R :=
  does_of_vfun Pg W an_18 Try.func18 rfl (by kernel_rfl) (by rw [T_ref07_Without_eq]; exact h)
def an_19 : Nat → Ann := fun b => match b with
  | 0 => { ms := [0, 3], ks := [.i .i64, .i .i64], us := [13], rt := false, ex := [] }
  | _ => {}
abbrev rv_19 : List ResultVar := [.tmp 2]
abbrev rs_19 : List Nat := [13, 2]
def L_ref07_Size_0 (W : World) (R : Ending → Hp → Prop) (n2 : Int) (n3 : Int) : Hp → Prop :=
  LOOPN [.i .i64, .i .i64] (fun ys next s => ∀ j : Tm, vc Pg W 13 rs_19 an_19 false (sub (bodyOf Try.f19) [1, 1, 0, 0, 0]) 0 (KLoop [0, 3] [13] [(.tuple #[])] next (KBlk 0 (KS Pg W 13 rs_19 an_19 false (sub (bodyOf Try.f19) [1, 1, 1]) 0 (fin Pg W 13 rv_19 R)))) (known [0, 3] ys (known [13] [(.tuple #[])] j)) s) [(.int .i64 n2), (.int .i64 n3)]
def B_ref07_Size_0 (W : World) (R : Ending → Hp → Prop) (n2 : Int) (n3 : Int) (nx0 : List Value → Hp → Prop) : Hp → Prop :=
  BR (decide (n2 > 0))
    (NX [(.tuple #[])] [(.tuple #[])] (nx0 [(.int .i64 (IntKind.wrap .i64 (Int.tdiv n2 2))), (.int .i64 (IntKind.wrap .i64 (n3 + (Int.tmod n2 2))))]))
    (R (.returned (.int .i64 n3)))
theorem B_ref07_Size_0_eq (W : World) (R : Ending → Hp → Prop) (n2 : Int) (n3 : Int) (nx0 : List Value → Hp → Prop) (j : Tm) : vc Pg W 13 rs_19 an_19 false (sub (bodyOf Try.f19) [1, 1, 0, 0, 0]) 0 (KLoop [0, 3] [13] [(.tuple #[])] nx0 (KBlk 0 (KS Pg W 13 rs_19 an_19 false (sub (bodyOf Try.f19) [1, 1, 1]) 0 (fin Pg W 13 rv_19 R)))) (known [0, 3] [(.int .i64 n2), (.int .i64 n3)] (known [13] [(.tuple #[])] j)) = B_ref07_Size_0 W R n2 n3 nx0 := by kernel_rfl
def N_ref07_Size_0 (I : Int → Int → Hp → Prop) (μ : Int → Int → Hp → Nat) (n20 : Int) (n30 : Int) (s : Hp) (vs : List Value) : Hp → Prop := fun s' => ∃ n2 n3, vs = [(.int .i64 n2), (.int .i64 n3)] ∧ I n2 n3 s' ∧ μ n2 n3 s' < μ n20 n30 s
theorem L_ref07_Size_0_rule (W : World) (R : Ending → Hp → Prop) (I : Int → Int → Hp → Prop) (μ : Int → Int → Hp → Nat) (n20 : Int) (n30 : Int) (s : Hp) (h0 : I n20 n30 s)
    (hr : ∀ (n2 : Int) (n3 : Int) (s : Hp), I n2 n3 s → B_ref07_Size_0 W R n2 n3 (fun vs => N_ref07_Size_0 I μ n2 n3 s vs) s) : L_ref07_Size_0 W R n20 n30 s := by
  refine ⟨fun vs s => ∃ n2 n3, vs = [(.int .i64 n2), (.int .i64 n3)] ∧ I n2 n3 s, fun vs s => (match vs with | [.int _ n2, .int _ n3] => μ n2 n3 s | _ => 0), ⟨⟨⟨_, rfl⟩, ⟨⟨_, rfl⟩, trivial⟩⟩, ⟨_, _, rfl, h0⟩⟩, ?_⟩
  intro n2 n3 s hI j
  obtain ⟨n2', n3', hy, hI⟩ := hI
  have hI' : I n2 n3 s := by cases hy; exact hI
  have hh := hr n2 n3 s hI'
  rw [← B_ref07_Size_0_eq W R n2 n3 _ j] at hh
  refine vc_mono ?_ _ _ hh
  exact KLoop_mono (fun vs s' h => by obtain ⟨n21, n31, rfl, h1, h2⟩ := h; exact ⟨⟨⟨_, rfl⟩, ⟨⟨_, rfl⟩, trivial⟩⟩, ⟨_, _, rfl, h1⟩, h2⟩)
def T_ref07_Size (W : World) (n1 : Int) (R : Ending → Hp → Prop) : Hp → Prop :=
  L_ref07_Size_0 W R n1 0
theorem T_ref07_Size_eq (W : World) (n1 : Int) (R : Ending → Hp → Prop) : vfun Pg W an_19 Try.f19 [(.int .i64 n1)] R = T_ref07_Size W n1 R := by kernel_rfl
theorem does_ref07_Size (W : World) (n1 : Int) (R : Ending → Hp → Prop) (s : Hp) (h : T_ref07_Size W n1 R s) : Does Pg W F_ref07_Size #[(.int .i64 n1)] s R :=
  does_of_vfun Pg W an_19 Try.func19 rfl (by kernel_rfl) (by rw [T_ref07_Size_eq]; exact h)
def an_28 : Nat → Ann := fun b => match b with
  | _ => {}
abbrev rv_28 : List ResultVar := [.tmp 4]
abbrev rs_28 : List Nat := [13, 4]
def T_ref07_Show (W : World) (n1 : Int) (n2 : Int) (n3 : Int) (R : Ending → Hp → Prop) : Hp → Prop :=
  NEW 55 [(.int .i64 n1), (.int .i64 n2)] fun B4 =>
    RDI .i64 (Addr.add ⟨B4, 0, none⟩ 0) fun n5 =>
      RDI .i64 (Addr.add ⟨B4, 0, none⟩ 1) fun n6 =>
        R (.returned (.int .i64 (IntKind.wrap .i64 (n5 + (IntKind.wrap .i64 (Int.tdiv (IntKind.wrap .i64 (n3 * n6)) 1000))))))
theorem T_ref07_Show_eq (W : World) (n1 : Int) (n2 : Int) (n3 : Int) (R : Ending → Hp → Prop) : vfun Pg W an_28 Try.f28 [(.agg #[(.int .i64 n1), (.int .i64 n2)]), (.int .i64 n3)] R = T_ref07_Show W n1 n2 n3 R := by kernel_rfl
theorem does_ref07_Show (W : World) (n1 : Int) (n2 : Int) (n3 : Int) (R : Ending → Hp → Prop) (s : Hp) (h : T_ref07_Show W n1 n2 n3 R s) : Does Pg W F_ref07_Show #[(.agg #[(.int .i64 n1), (.int .i64 n2)]), (.int .i64 n3)] s R :=
  does_of_vfun Pg W an_28 Try.func28 rfl (by kernel_rfl) (by rw [T_ref07_Show_eq]; exact h)
def an_31 : Nat → Ann := fun b => match b with
  | _ => {}
abbrev rv_31 : List ResultVar := [.tmp 4]
abbrev rs_31 : List Nat := [10, 4]
def T_ref07_Event (W : World) (x1 : Option Addr) (l2 : Nat) (c3 : Nat) (n4 : Int) (x5 : Option Addr) (l6 : Nat) (c7 : Nat) (x8 : Option Addr) (l9 : Nat) (c10 : Nat) (n11 : Int) (R : Ending → Hp → Prop) : Hp → Prop :=
  NEW 26 [(.slice x1 l2 c3), (.int .i64 n4), (.slice x5 l6 c7), (.slice x8 l9 c10)] fun B12 =>
    RDI .i64 (Addr.add ⟨B12, 0, none⟩ 1) fun n13 =>
      CALL Pg W F_ref07_in [(.int .i64 n11), (.int .i64 0), (.int .i64 (IntKind.wrap .i64 (n13 - 1)))]
        (fun v14 => TYB v14 fun b16 =>
          R (.returned (.bool b16)))
          (fun e15 => R (.panicked e15))
theorem T_ref07_Event_eq (W : World) (x1 : Option Addr) (l2 : Nat) (c3 : Nat) (n4 : Int) (x5 : Option Addr) (l6 : Nat) (c7 : Nat) (x8 : Option Addr) (l9 : Nat) (c10 : Nat) (n11 : Int) (R : Ending → Hp → Prop) : vfun Pg W an_31 Try.f31 [(.agg #[(.slice x1 l2 c3), (.int .i64 n4), (.slice x5 l6 c7), (.slice x8 l9 c10)]), (.int .i64 n11)] R = T_ref07_Event W x1 l2 c3 n4 x5 l6 c7 x8 l9 c10 n11 R := by kernel_rfl
theorem does_ref07_Event (W : World) (x1 : Option Addr) (l2 : Nat) (c3 : Nat) (n4 : Int) (x5 : Option Addr) (l6 : Nat) (c7 : Nat) (x8 : Option Addr) (l9 : Nat) (c10 : Nat) (n11 : Int) (R : Ending → Hp → Prop) (s : Hp) (h : T_ref07_Event W x1 l2 c3 n4 x5 l6 c7 x8 l9 c10 n11 R s) : Does Pg W F_ref07_Event #[(.agg #[(.slice x1 l2 c3), (.int .i64 n4), (.slice x5 l6 c7), (.slice x8 l9 c10)]), (.int .i64 n11)] s R :=
  does_of_vfun Pg W an_31 Try.func31 rfl (by kernel_rfl) (by rw [T_ref07_Event_eq]; exact h)
def an_42 : Nat → Ann := fun b => match b with
  | _ => {}
abbrev rv_42 : List ResultVar := [.tmp 6]
abbrev rs_42 : List Nat := [15, 6]
def T_ref07_in (W : World) (n1 : Int) (n2 : Int) (n3 : Int) (R : Ending → Hp → Prop) : Hp → Prop :=
  BR (decide (n2 ≤ n1))
    (R (.returned (.bool (decide (n1 ≤ n3)))))
    (R (.returned (.bool false)))
theorem T_ref07_in_eq (W : World) (n1 : Int) (n2 : Int) (n3 : Int) (R : Ending → Hp → Prop) : vfun Pg W an_42 Try.f42 [(.int .i64 n1), (.int .i64 n2), (.int .i64 n3)] R = T_ref07_in W n1 n2 n3 R := by kernel_rfl
theorem does_ref07_in (W : World) (n1 : Int) (n2 : Int) (n3 : Int) (R : Ending → Hp → Prop) (s : Hp) (h : T_ref07_in W n1 n2 n3 R s) : Does Pg W F_ref07_in #[(.int .i64 n1), (.int .i64 n2), (.int .i64 n3)] s R :=
  does_of_vfun Pg W an_42 Try.func42 rfl (by kernel_rfl) (by rw [T_ref07_in_eq]; exact h)
def an_43 : Nat → Ann := fun b => match b with
  | _ => {}
abbrev rv_43 : List ResultVar := [.tmp 6]
abbrev rs_43 : List Nat := [24, 6]
def T_ref07_span (W : World) (n1 : Int) (n2 : Int) (n3 : Int) (n4 : Int) (R : Ending → Hp → Prop) : Hp → Prop :=
  NEW 34 [(.int .i64 n1), (.int .i64 n2)] fun B5 =>
    RDI .i64 (Addr.add ⟨B5, 0, none⟩ 0) fun n6 =>
      BR (decide (n3 ≤ n6))
        (RDI .i64 (Addr.add ⟨B5, 0, none⟩ 0) fun n7 =>
          RDI .i64 (Addr.add ⟨B5, 0, none⟩ 1) fun n8 =>
            BR (decide (n7 ≤ n8))
              (RDI .i64 (Addr.add ⟨B5, 0, none⟩ 1) fun n9 =>
                R (.returned (.bool (decide (n9 ≤ n4)))))
              (R (.returned (.bool false))))
        (R (.returned (.bool false)))
theorem T_ref07_span_eq (W : World) (n1 : Int) (n2 : Int) (n3 : Int) (n4 : Int) (R : Ending → Hp → Prop) : vfun Pg W an_43 Try.f43 [(.agg #[(.int .i64 n1), (.int .i64 n2)]), (.int .i64 n3), (.int .i64 n4)] R = T_ref07_span W n1 n2 n3 n4 R := by kernel_rfl
theorem does_ref07_span (W : World) (n1 : Int) (n2 : Int) (n3 : Int) (n4 : Int) (R : Ending → Hp → Prop) (s : Hp) (h : T_ref07_span W n1 n2 n3 n4 R s) : Does Pg W F_ref07_span #[(.agg #[(.int .i64 n1), (.int .i64 n2)]), (.int .i64 n3), (.int .i64 n4)] s R :=
  does_of_vfun Pg W an_43 Try.func43 rfl (by kernel_rfl) (by rw [T_ref07_span_eq]; exact h)
def an_44 : Nat → Ann := fun b => match b with
  | _ => {}
abbrev rv_44 : List ResultVar := [.tmp 4]
abbrev rs_44 : List Nat := [11, 4]
def T_ref07_Watch (W : World) (x1 : Option Addr) (l2 : Nat) (c3 : Nat) (n4 : Int) (x5 : Option Addr) (l6 : Nat) (c7 : Nat) (x8 : Option Addr) (l9 : Nat) (c10 : Nat) (n11 : Int) (R : Ending → Hp → Prop) : Hp → Prop :=
  NEW 26 [(.slice x1 l2 c3), (.int .i64 n4), (.slice x5 l6 c7), (.slice x8 l9 c10)] fun B12 =>
    RDL (Addr.add ⟨B12, 0, none⟩ 0) fun x13 l14 c15 =>
      CALL Pg W F_ref07_in [(.int .i64 n11), (.int .i64 0), (.int .i64 (IntKind.wrap .i64 ((↑l14 : Int) - 1)))]
        (fun v16 => TYB v16 fun b18 =>
          R (.returned (.bool b18)))
          (fun e17 => R (.panicked e17))
theorem T_ref07_Watch_eq (W : World) (x1 : Option Addr) (l2 : Nat) (c3 : Nat) (n4 : Int) (x5 : Option Addr) (l6 : Nat) (c7 : Nat) (x8 : Option Addr) (l9 : Nat) (c10 : Nat) (n11 : Int) (R : Ending → Hp → Prop) : vfun Pg W an_44 Try.f44 [(.agg #[(.slice x1 l2 c3), (.int .i64 n4), (.slice x5 l6 c7), (.slice x8 l9 c10)]), (.int .i64 n11)] R = T_ref07_Watch W x1 l2 c3 n4 x5 l6 c7 x8 l9 c10 n11 R := by kernel_rfl
theorem does_ref07_Watch (W : World) (x1 : Option Addr) (l2 : Nat) (c3 : Nat) (n4 : Int) (x5 : Option Addr) (l6 : Nat) (c7 : Nat) (x8 : Option Addr) (l9 : Nat) (c10 : Nat) (n11 : Int) (R : Ending → Hp → Prop) (s : Hp) (h : T_ref07_Watch W x1 l2 c3 n4 x5 l6 c7 x8 l9 c10 n11 R s) : Does Pg W F_ref07_Watch #[(.agg #[(.slice x1 l2 c3), (.int .i64 n4), (.slice x5 l6 c7), (.slice x8 l9 c10)]), (.int .i64 n11)] s R :=
  does_of_vfun Pg W an_44 Try.func44 rfl (by kernel_rfl) (by rw [T_ref07_Watch_eq]; exact h)
def an_50 : Nat → Ann := fun b => match b with
  | 0 => { ms := [3, 4], ks := [.i .i64, .i .i64], us := [0, 13], rt := false, ex := [] }
  | _ => {}
abbrev rv_50 : List ResultVar := [.tmp 2]
abbrev rs_50 : List Nat := [13, 2]
def L_ref07_power_0 (W : World) (R : Ending → Hp → Prop) (zn0 : Int) (n2 : Int) (n3 : Int) : Hp → Prop :=
  LOOPN [.i .i64, .i .i64] (fun ys next s => ∀ j : Tm, vc Pg W 13 rs_50 an_50 false (sub (bodyOf Try.f50) [1, 1, 0, 1, 0, 0]) 0 (KLoop [3, 4] [0, 13] [(.int .i64 zn0), (.tuple #[])] next (KBlk 0 (KS Pg W 13 rs_50 an_50 false (sub (bodyOf Try.f50) [1, 1, 1]) 0 (fin Pg W 13 rv_50 R)))) (known [3, 4] ys (known [0, 13] [(.int .i64 zn0), (.tuple #[])] j)) s) [(.int .i64 n2), (.int .i64 n3)]
def B_ref07_power_0 (W : World) (R : Ending → Hp → Prop) (zn0 : Int) (n2 : Int) (n3 : Int) (nx0 : List Value → Hp → Prop) : Hp → Prop :=
  BR (decide (n3 < zn0))
    (NX [(.int .i64 zn0), (.tuple #[])] [(.int .i64 zn0), (.tuple #[])] (nx0 [(.int .i64 (IntKind.wrap .i64 (2 * n2))), (.int .i64 (IntKind.wrap .i64 (n3 + 1)))]))
    (R (.returned (.int .i64 n2)))
theorem B_ref07_power_0_eq (W : World) (R : Ending → Hp → Prop) (zn0 : Int) (n2 : Int) (n3 : Int) (nx0 : List Value → Hp → Prop) (j : Tm) : vc Pg W 13 rs_50 an_50 false (sub (bodyOf Try.f50) [1, 1, 0, 1, 0, 0]) 0 (KLoop [3, 4] [0, 13] [(.int .i64 zn0), (.tuple #[])] nx0 (KBlk 0 (KS Pg W 13 rs_50 an_50 false (sub (bodyOf Try.f50) [1, 1, 1]) 0 (fin Pg W 13 rv_50 R)))) (known [3, 4] [(.int .i64 n2), (.int .i64 n3)] (known [0, 13] [(.int .i64 zn0), (.tuple #[])] j)) = B_ref07_power_0 W R zn0 n2 n3 nx0 := by kernel_rfl
def N_ref07_power_0 (I : Int → Int → Hp → Prop) (μ : Int → Int → Hp → Nat) (n20 : Int) (n30 : Int) (s : Hp) (vs : List Value) : Hp → Prop := fun s' => ∃ n2 n3, vs = [(.int .i64 n2), (.int .i64 n3)] ∧ I n2 n3 s' ∧ μ n2 n3 s' < μ n20 n30 s
theorem L_ref07_power_0_rule (W : World) (R : Ending → Hp → Prop) (zn0 : Int) (I : Int → Int → Hp → Prop) (μ : Int → Int → Hp → Nat) (n20 : Int) (n30 : Int) (s : Hp) (h0 : I n20 n30 s)
    (hr : ∀ (n2 : Int) (n3 : Int) (s : Hp), I n2 n3 s → B_ref07_power_0 W R zn0 n2 n3 (fun vs => N_ref07_power_0 I μ n2 n3 s vs) s) : L_ref07_power_0 W R zn0 n20 n30 s := by
  refine ⟨fun vs s => ∃ n2 n3, vs = [(.int .i64 n2), (.int .i64 n3)] ∧ I n2 n3 s, fun vs s => (match vs with | [.int _ n2, .int _ n3] => μ n2 n3 s | _ => 0), ⟨⟨⟨_, rfl⟩, ⟨⟨_, rfl⟩, trivial⟩⟩, ⟨_, _, rfl, h0⟩⟩, ?_⟩
  intro n2 n3 s hI j
  obtain ⟨n2', n3', hy, hI⟩ := hI
  have hI' : I n2 n3 s := by cases hy; exact hI
  have hh := hr n2 n3 s hI'
  rw [← B_ref07_power_0_eq W R zn0 n2 n3 _ j] at hh
  refine vc_mono ?_ _ _ hh
  exact KLoop_mono (fun vs s' h => by obtain ⟨n21, n31, rfl, h1, h2⟩ := h; exact ⟨⟨⟨_, rfl⟩, ⟨⟨_, rfl⟩, trivial⟩⟩, ⟨_, _, rfl, h1⟩, h2⟩)
def T_ref07_power (W : World) (n1 : Int) (R : Ending → Hp → Prop) : Hp → Prop :=
  L_ref07_power_0 W R n1 1 0
theorem T_ref07_power_eq (W : World) (n1 : Int) (R : Ending → Hp → Prop) : vfun Pg W an_50 Try.f50 [(.int .i64 n1)] R = T_ref07_power W n1 R := by kernel_rfl
theorem does_ref07_power (W : World) (n1 : Int) (R : Ending → Hp → Prop) (s : Hp) (h : T_ref07_power W n1 R s) : Does Pg W F_ref07_power #[(.int .i64 n1)] s R :=
  does_of_vfun Pg W an_50 Try.func50 rfl (by kernel_rfl) (by rw [T_ref07_power_eq]; exact h)
end Go.Proofs.Ytknpmijgdfeliaa.G

/- More of the functions' shallow texts, by gen.py. -/
set_option linter.unusedVariables false
set_option maxRecDepth 100000
namespace Go.Proofs.Ytknpmijgdfeliaa.G
open Go.V
def an_9 : Nat → Ann := fun b => match b with
  | 0 => { ms := [7, 27], ks := [.i .i64, .i .i64], us := [1, 2, 3, 6, 25, 26, 61], rt := false, ex := [] }
  | _ => {}
abbrev rv_9 : List ResultVar := [.tmp 6]
abbrev rs_9 : List Nat := [61, 6]
def L_law07_heavy_0 (W : World) (R : Ending → Hp → Prop) (zn0 : Int) (zn1 : Int) (za2 : Addr) (zp3 : Option Addr) (zl4 : Nat) (zl5 : Nat) (zn6 : Int) (n39 : Int) (n40 : Int) : Hp → Prop :=
  LOOPN [.i .i64, .i .i64] (fun ys next s => ∀ j : Tm, vc Pg W 61 rs_9 an_9 false (sub (bodyOf Try.f9) [1, 1, 1, 1, 0, 1, 0, 0]) 0 (KLoop [7, 27] [1, 2, 3, 6, 25, 26, 61] [(.int .i64 zn0), (.int .i64 zn1), (.pointer (some za2)), (.bool false), (.slice zp3 zl4 zl5), (.int .i64 zn6), (.tuple #[])] next (KBlk 0 (KS Pg W 61 rs_9 an_9 false (sub (bodyOf Try.f9) [1, 1, 1, 1, 1]) 0 (fin Pg W 61 rv_9 R)))) (known [7, 27] ys (known [1, 2, 3, 6, 25, 26, 61] [(.int .i64 zn0), (.int .i64 zn1), (.pointer (some za2)), (.bool false), (.slice zp3 zl4 zl5), (.int .i64 zn6), (.tuple #[])] j)) s) [(.int .i64 n39), (.int .i64 n40)]
def B_law07_heavy_0 (W : World) (R : Ending → Hp → Prop) (zn0 : Int) (zn1 : Int) (za2 : Addr) (zp3 : Option Addr) (zl4 : Nat) (zl5 : Nat) (zn6 : Int) (n39 : Int) (n40 : Int) (nx0 : List Value → Hp → Prop) : Hp → Prop :=
  BR (decide (n40 < zn6))
    (IXS zp3 zl4 n40 4 fun a41 =>
      RDI .i64 (Addr.add a41 0) fun n42 =>
        RDI .i64 (Addr.add a41 1) fun n43 =>
          RDI .i64 (Addr.add a41 2) fun n44 =>
            RDI .i64 (Addr.add a41 3) fun n45 =>
              NEWZ Pg 66 fun B46 =>
                WR (Addr.add ⟨B46, 0, none⟩ 0) (.int .i64 n42) <|
                  WR (Addr.add ⟨B46, 0, none⟩ 1) (.int .i64 n43) <|
                    WR (Addr.add ⟨B46, 0, none⟩ 2) (.int .i64 n44) <|
                      WR (Addr.add ⟨B46, 0, none⟩ 3) (.int .i64 n45) <|
                        RDI .i64 (Addr.add (Addr.add ⟨B46, 0, none⟩ 0) 1) fun n47 =>
                          RDI .i64 (Addr.add (Addr.add ⟨B46, 0, none⟩ 0) 0) fun n48 =>
                            RDI .i64 (Addr.add (Addr.add ⟨B46, 0, none⟩ 2) 1) fun n49 =>
                              RDI .i64 (Addr.add (Addr.add ⟨B46, 0, none⟩ 2) 0) fun n50 =>
                                NX [(.int .i64 zn0), (.int .i64 zn1), (.pointer (some za2)), (.bool false), (.slice zp3 zl4 zl5), (.int .i64 zn6), (.tuple #[])] [(.int .i64 zn0), (.int .i64 zn1), (.pointer (some za2)), (.bool false), (.slice zp3 zl4 zl5), (.int .i64 zn6), (.tuple #[])] (nx0 [(.int .i64 (IntKind.wrap .i64 (n39 * (IntKind.wrap .i64 ((IntKind.wrap .i64 ((IntKind.wrap .i64 (n47 - n48)) + 1)) * (IntKind.wrap .i64 ((IntKind.wrap .i64 (n49 - n50)) + 1))))))), (.int .i64 (IntKind.wrap .i64 (n40 + 1)))]))
    (BR (decide (n39 > zn0))
      (R (.returned (.bool true)))
      (RDL (Addr.add za2 2) fun x51 l52 c53 =>
        R (.returned (.bool (decide ((↑l52 : Int) > zn1))))))
theorem B_law07_heavy_0_eq (W : World) (R : Ending → Hp → Prop) (zn0 : Int) (zn1 : Int) (za2 : Addr) (zp3 : Option Addr) (zl4 : Nat) (zl5 : Nat) (zn6 : Int) (n39 : Int) (n40 : Int) (nx0 : List Value → Hp → Prop) (j : Tm) : vc Pg W 61 rs_9 an_9 false (sub (bodyOf Try.f9) [1, 1, 1, 1, 0, 1, 0, 0]) 0 (KLoop [7, 27] [1, 2, 3, 6, 25, 26, 61] [(.int .i64 zn0), (.int .i64 zn1), (.pointer (some za2)), (.bool false), (.slice zp3 zl4 zl5), (.int .i64 zn6), (.tuple #[])] nx0 (KBlk 0 (KS Pg W 61 rs_9 an_9 false (sub (bodyOf Try.f9) [1, 1, 1, 1, 1]) 0 (fin Pg W 61 rv_9 R)))) (known [7, 27] [(.int .i64 n39), (.int .i64 n40)] (known [1, 2, 3, 6, 25, 26, 61] [(.int .i64 zn0), (.int .i64 zn1), (.pointer (some za2)), (.bool false), (.slice zp3 zl4 zl5), (.int .i64 zn6), (.tuple #[])] j)) = B_law07_heavy_0 W R zn0 zn1 za2 zp3 zl4 zl5 zn6 n39 n40 nx0 := by kernel_rfl
def N_law07_heavy_0 (I : Int → Int → Hp → Prop) (μ : Int → Int → Hp → Nat) (n390 : Int) (n400 : Int) (s : Hp) (vs : List Value) : Hp → Prop := fun s' => ∃ n39 n40, vs = [(.int .i64 n39), (.int .i64 n40)] ∧ I n39 n40 s' ∧ μ n39 n40 s' < μ n390 n400 s
theorem L_law07_heavy_0_rule (W : World) (R : Ending → Hp → Prop) (zn0 : Int) (zn1 : Int) (za2 : Addr) (zp3 : Option Addr) (zl4 : Nat) (zl5 : Nat) (zn6 : Int) (I : Int → Int → Hp → Prop) (μ : Int → Int → Hp → Nat) (n390 : Int) (n400 : Int) (s : Hp) (h0 : I n390 n400 s)
    (hr : ∀ (n39 : Int) (n40 : Int) (s : Hp), I n39 n40 s → B_law07_heavy_0 W R zn0 zn1 za2 zp3 zl4 zl5 zn6 n39 n40 (fun vs => N_law07_heavy_0 I μ n39 n40 s vs) s) : L_law07_heavy_0 W R zn0 zn1 za2 zp3 zl4 zl5 zn6 n390 n400 s := by
  refine ⟨fun vs s => ∃ n39 n40, vs = [(.int .i64 n39), (.int .i64 n40)] ∧ I n39 n40 s, fun vs s => (match vs with | [.int _ n39, .int _ n40] => μ n39 n40 s | _ => 0), ⟨⟨⟨_, rfl⟩, ⟨⟨_, rfl⟩, trivial⟩⟩, ⟨_, _, rfl, h0⟩⟩, ?_⟩
  intro n39 n40 s hI j
  obtain ⟨n39', n40', hy, hI⟩ := hI
  have hI' : I n39 n40 s := by cases hy; exact hI
  have hh := hr n39 n40 s hI'
  rw [← B_law07_heavy_0_eq W R zn0 zn1 za2 zp3 zl4 zl5 zn6 n39 n40 _ j] at hh
  refine vc_mono ?_ _ _ hh
  exact KLoop_mono (fun vs s' h => by obtain ⟨n391, n401, rfl, h1, h2⟩ := h; exact ⟨⟨⟨_, rfl⟩, ⟨⟨_, rfl⟩, trivial⟩⟩, ⟨_, _, rfl, h1⟩, h2⟩)
def T_law07_heavy (W : World) (x1 : Option Addr) (l2 : Nat) (c3 : Nat) (n4 : Int) (x5 : Option Addr) (l6 : Nat) (c7 : Nat) (x8 : Option Addr) (l9 : Nat) (c10 : Nat) (n11 : Int) (n12 : Int) (R : Ending → Hp → Prop) : Hp → Prop :=
  NEW 26 [(.slice x1 l2 c3), (.int .i64 n4), (.slice x5 l6 c7), (.slice x8 l9 c10)] fun B13 =>
    RDL (Addr.add ⟨B13, 0, none⟩ 0) fun x14 l15 c16 =>
      RDL (Addr.add ⟨B13, 0, none⟩ 2) fun x17 l18 c19 =>
        RDL (Addr.add ⟨B13, 0, none⟩ 3) fun x20 l21 c22 =>
          BR (decide ((if (↑l21 : Int) > (if (↑l18 : Int) > (↑l15 : Int) then (↑l18 : Int) else (↑l15 : Int)) then (↑l21 : Int) else (if (↑l18 : Int) > (↑l15 : Int) then (↑l18 : Int) else (↑l15 : Int))) > 40))
            (R (.returned (.bool true)))
            (RDL (Addr.add ⟨B13, 0, none⟩ 0) fun x23 l24 c25 =>
              RDI .i64 (Addr.add ⟨B13, 0, none⟩ 1) fun n26 =>
                RDL (Addr.add ⟨B13, 0, none⟩ 2) fun x27 l28 c29 =>
                  RDL (Addr.add ⟨B13, 0, none⟩ 3) fun x30 l31 c32 =>
                    CALL Pg W F_ref07_Clock [(.agg #[(.slice x23 l24 c25), (.int .i64 n26), (.slice x27 l28 c29), (.slice x30 l31 c32)])]
                      (fun v33 => TYB v33 fun b35 =>
                        BR (!b35)
                          (R (.returned (.bool false)))
                          (RDL (Addr.add ⟨B13, 0, none⟩ 0) fun x36 l37 c38 =>
                            L_law07_heavy_0 W R n11 n12 ⟨B13, 0, none⟩ x36 l37 c38 (↑l37 : Int) 1 0))
                        (fun e34 => R (.panicked e34)))
theorem T_law07_heavy_eq (W : World) (x1 : Option Addr) (l2 : Nat) (c3 : Nat) (n4 : Int) (x5 : Option Addr) (l6 : Nat) (c7 : Nat) (x8 : Option Addr) (l9 : Nat) (c10 : Nat) (n11 : Int) (n12 : Int) (R : Ending → Hp → Prop) : vfun Pg W an_9 Try.f9 [(.agg #[(.slice x1 l2 c3), (.int .i64 n4), (.slice x5 l6 c7), (.slice x8 l9 c10)]), (.int .i64 n11), (.int .i64 n12)] R = T_law07_heavy W x1 l2 c3 n4 x5 l6 c7 x8 l9 c10 n11 n12 R := by kernel_rfl
theorem does_law07_heavy (W : World) (x1 : Option Addr) (l2 : Nat) (c3 : Nat) (n4 : Int) (x5 : Option Addr) (l6 : Nat) (c7 : Nat) (x8 : Option Addr) (l9 : Nat) (c10 : Nat) (n11 : Int) (n12 : Int) (R : Ending → Hp → Prop) (s : Hp) (h : T_law07_heavy W x1 l2 c3 n4 x5 l6 c7 x8 l9 c10 n11 n12 R s) : Does Pg W F_law07_heavy #[(.agg #[(.slice x1 l2 c3), (.int .i64 n4), (.slice x5 l6 c7), (.slice x8 l9 c10)]), (.int .i64 n11), (.int .i64 n12)] s R :=
  does_of_vfun Pg W an_9 Try.func9 rfl (by kernel_rfl) (by rw [T_law07_heavy_eq]; exact h)
def an_16 : Nat → Ann := fun b => match b with
  | 0 => { ms := [13], ks := [.i .i64], us := [1, 4, 5, 11, 12, 31], rt := false, ex := [] }
  | _ => {}
abbrev rv_16 : List ResultVar := [.cell 4 26]
abbrev rs_16 : List Nat := [31, 4]
def L_law07_part_0 (W : World) (R : Ending → Hp → Prop) (zn0 : Int) (za1 : Addr) (za2 : Addr) (zp3 : Option Addr) (zl4 : Nat) (zl5 : Nat) (zn6 : Int) (n28 : Int) : Hp → Prop :=
  LOOPN [.i .i64] (fun ys next s => ∀ j : Tm, vc Pg W 31 rs_16 an_16 false (sub (bodyOf Try.f16) [1, 1, 1, 0, 1, 0, 0]) 0 (KLoop [13] [1, 4, 5, 11, 12, 31] [(.int .i64 zn0), (.pointer (some za1)), (.pointer (some za2)), (.slice zp3 zl4 zl5), (.int .i64 zn6), (.tuple #[])] next (KBlk 0 (KS Pg W 31 rs_16 an_16 false (sub (bodyOf Try.f16) [1, 1, 1, 1]) 0 (fin Pg W 31 rv_16 R)))) (known [13] ys (known [1, 4, 5, 11, 12, 31] [(.int .i64 zn0), (.pointer (some za1)), (.pointer (some za2)), (.slice zp3 zl4 zl5), (.int .i64 zn6), (.tuple #[])] j)) s) [(.int .i64 n28)]
def J_law07_part_0 (W : World) (R : Ending → Hp → Prop) (zn0 : Int) (za1 : Addr) (za2 : Addr) (zp3 : Option Addr) (zl4 : Nat) (zl5 : Nat) (zn6 : Int) (nx0 : List Value → Hp → Prop) (n28 : Int) : Hp → Prop :=
  NX [(.int .i64 zn0), (.pointer (some za1)), (.pointer (some za2)), (.slice zp3 zl4 zl5), (.int .i64 zn6), (.tuple #[])] [(.int .i64 zn0), (.pointer (some za1)), (.pointer (some za2)), (.slice zp3 zl4 zl5), (.int .i64 zn6), (.tuple #[])] (nx0 [(.int .i64 (IntKind.wrap .i64 (n28 + 1)))])
def B_law07_part_0 (W : World) (R : Ending → Hp → Prop) (zn0 : Int) (za1 : Addr) (za2 : Addr) (zp3 : Option Addr) (zl4 : Nat) (zl5 : Nat) (zn6 : Int) (n28 : Int) (nx0 : List Value → Hp → Prop) : Hp → Prop :=
  BR (decide (n28 < zn6))
    (IXS zp3 zl4 n28 3 fun a29 =>
      RDI .i64 (Addr.add a29 0) fun n30 =>
        RDI .i64 (Addr.add a29 1) fun n31 =>
          RDI .i64 (Addr.add a29 2) fun n32 =>
            NEWZ Pg 61 fun B33 =>
              WR (Addr.add ⟨B33, 0, none⟩ 0) (.int .i64 n30) <|
                WR (Addr.add ⟨B33, 0, none⟩ 1) (.int .i64 n31) <|
                  WR (Addr.add ⟨B33, 0, none⟩ 2) (.int .i64 n32) <|
                    NNI n28 <|
                      BR ((andv .i64 (shrv .i64 zn0 n28) 1) == 1)
                        (RDL (Addr.add za2 2) fun x34 l35 c36 =>
                          RDI .i64 (Addr.add ⟨B33, 0, none⟩ 0) fun n37 =>
                            RDI .i64 (Addr.add ⟨B33, 0, none⟩ 1) fun n38 =>
                              RDI .i64 (Addr.add ⟨B33, 0, none⟩ 2) fun n39 =>
                                NEW 61 [(.int .i64 n37), (.int .i64 n38), (.int .i64 n39)] fun B40 =>
                                  APP Pg 61 3 x34 l35 c36 (some ⟨B40, 0, none⟩) 1 fun x41 l42 c43 =>
                                    WR (Addr.add (Addr.add za2 2) 0) (.slice x41 l42 c43) <|
                                      J_law07_part_0 W R zn0 za1 za2 zp3 zl4 zl5 zn6 nx0 n28)
                        (J_law07_part_0 W R zn0 za1 za2 zp3 zl4 zl5 zn6 nx0 n28))
    (RDL (Addr.add za2 0) fun x44 l45 c46 =>
      RDI .i64 (Addr.add za2 1) fun n47 =>
        RDL (Addr.add za2 2) fun x48 l49 c50 =>
          RDL (Addr.add za2 3) fun x51 l52 c53 =>
            WR (Addr.add za1 0) (.slice x44 l45 c46) <|
              WR (Addr.add za1 1) (.int .i64 n47) <|
                WR (Addr.add za1 2) (.slice x48 l49 c50) <|
                  WR (Addr.add za1 3) (.slice x51 l52 c53) <|
                    RDL (Addr.add za1 0) fun x54 l55 c56 =>
                      RDI .i64 (Addr.add za1 1) fun n57 =>
                        RDL (Addr.add za1 2) fun x58 l59 c60 =>
                          RDL (Addr.add za1 3) fun x61 l62 c63 =>
                            R (.returned (.agg #[(.slice x54 l55 c56), (.int .i64 n57), (.slice x58 l59 c60), (.slice x61 l62 c63)])))
theorem B_law07_part_0_eq (W : World) (R : Ending → Hp → Prop) (zn0 : Int) (za1 : Addr) (za2 : Addr) (zp3 : Option Addr) (zl4 : Nat) (zl5 : Nat) (zn6 : Int) (n28 : Int) (nx0 : List Value → Hp → Prop) (j : Tm) : vc Pg W 31 rs_16 an_16 false (sub (bodyOf Try.f16) [1, 1, 1, 0, 1, 0, 0]) 0 (KLoop [13] [1, 4, 5, 11, 12, 31] [(.int .i64 zn0), (.pointer (some za1)), (.pointer (some za2)), (.slice zp3 zl4 zl5), (.int .i64 zn6), (.tuple #[])] nx0 (KBlk 0 (KS Pg W 31 rs_16 an_16 false (sub (bodyOf Try.f16) [1, 1, 1, 1]) 0 (fin Pg W 31 rv_16 R)))) (known [13] [(.int .i64 n28)] (known [1, 4, 5, 11, 12, 31] [(.int .i64 zn0), (.pointer (some za1)), (.pointer (some za2)), (.slice zp3 zl4 zl5), (.int .i64 zn6), (.tuple #[])] j)) = B_law07_part_0 W R zn0 za1 za2 zp3 zl4 zl5 zn6 n28 nx0 := by kernel_rfl
def N_law07_part_0 (I : Int → Hp → Prop) (μ : Int → Hp → Nat) (n280 : Int) (s : Hp) (vs : List Value) : Hp → Prop := fun s' => ∃ n28, vs = [(.int .i64 n28)] ∧ I n28 s' ∧ μ n28 s' < μ n280 s
theorem L_law07_part_0_rule (W : World) (R : Ending → Hp → Prop) (zn0 : Int) (za1 : Addr) (za2 : Addr) (zp3 : Option Addr) (zl4 : Nat) (zl5 : Nat) (zn6 : Int) (I : Int → Hp → Prop) (μ : Int → Hp → Nat) (n280 : Int) (s : Hp) (h0 : I n280 s)
    (hr : ∀ (n28 : Int) (s : Hp), I n28 s → B_law07_part_0 W R zn0 za1 za2 zp3 zl4 zl5 zn6 n28 (fun vs => N_law07_part_0 I μ n28 s vs) s) : L_law07_part_0 W R zn0 za1 za2 zp3 zl4 zl5 zn6 n280 s := by
  refine ⟨fun vs s => ∃ n28, vs = [(.int .i64 n28)] ∧ I n28 s, fun vs s => (match vs with | [.int _ n28] => μ n28 s | _ => 0), ⟨⟨⟨_, rfl⟩, trivial⟩, ⟨_, rfl, h0⟩⟩, ?_⟩
  intro n28 s hI j
  obtain ⟨n28', hy, hI⟩ := hI
  have hI' : I n28 s := by cases hy; exact hI
  have hh := hr n28 s hI'
  rw [← B_law07_part_0_eq W R zn0 za1 za2 zp3 zl4 zl5 zn6 n28 _ j] at hh
  refine vc_mono ?_ _ _ hh
  exact KLoop_mono (fun vs s' h => by obtain ⟨n281, rfl, h1, h2⟩ := h; exact ⟨⟨⟨_, rfl⟩, trivial⟩, ⟨_, rfl, h1⟩, h2⟩)
def T_law07_part (W : World) (x1 : Option Addr) (l2 : Nat) (c3 : Nat) (n4 : Int) (x5 : Option Addr) (l6 : Nat) (c7 : Nat) (x8 : Option Addr) (l9 : Nat) (c10 : Nat) (n11 : Int) (R : Ending → Hp → Prop) : Hp → Prop :=
  NEW 26 [(.slice x1 l2 c3), (.int .i64 n4), (.slice x5 l6 c7), (.slice x8 l9 c10)] fun B12 =>
    NEWZ Pg 26 fun B13 =>
      RDL (Addr.add ⟨B12, 0, none⟩ 0) fun x14 l15 c16 =>
        RDI .i64 (Addr.add ⟨B12, 0, none⟩ 1) fun n17 =>
          RDL (Addr.add ⟨B12, 0, none⟩ 2) fun x18 l19 c20 =>
            RDL (Addr.add ⟨B12, 0, none⟩ 3) fun x21 l22 c23 =>
              NEWZ Pg 26 fun B24 =>
                WR (Addr.add ⟨B24, 0, none⟩ 0) (.slice x14 l15 c16) <|
                  WR (Addr.add ⟨B24, 0, none⟩ 1) (.int .i64 n17) <|
                    WR (Addr.add ⟨B24, 0, none⟩ 2) (.slice x18 l19 c20) <|
                      WR (Addr.add ⟨B24, 0, none⟩ 3) (.slice x21 l22 c23) <|
                        WR (Addr.add (Addr.add ⟨B24, 0, none⟩ 2) 0) (.slice none 0 0) <|
                          RDL (Addr.add ⟨B12, 0, none⟩ 2) fun x25 l26 c27 =>
                            L_law07_part_0 W R n11 ⟨B13, 0, none⟩ ⟨B24, 0, none⟩ x25 l26 c27 (↑l26 : Int) 0
theorem T_law07_part_eq (W : World) (x1 : Option Addr) (l2 : Nat) (c3 : Nat) (n4 : Int) (x5 : Option Addr) (l6 : Nat) (c7 : Nat) (x8 : Option Addr) (l9 : Nat) (c10 : Nat) (n11 : Int) (R : Ending → Hp → Prop) : vfun Pg W an_16 Try.f16 [(.agg #[(.slice x1 l2 c3), (.int .i64 n4), (.slice x5 l6 c7), (.slice x8 l9 c10)]), (.int .i64 n11)] R = T_law07_part W x1 l2 c3 n4 x5 l6 c7 x8 l9 c10 n11 R := by kernel_rfl
theorem does_law07_part (W : World) (x1 : Option Addr) (l2 : Nat) (c3 : Nat) (n4 : Int) (x5 : Option Addr) (l6 : Nat) (c7 : Nat) (x8 : Option Addr) (l9 : Nat) (c10 : Nat) (n11 : Int) (R : Ending → Hp → Prop) (s : Hp) (h : T_law07_part W x1 l2 c3 n4 x5 l6 c7 x8 l9 c10 n11 R s) : Does Pg W F_law07_part #[(.agg #[(.slice x1 l2 c3), (.int .i64 n4), (.slice x5 l6 c7), (.slice x8 l9 c10)]), (.int .i64 n11)] s R :=
  does_of_vfun Pg W an_16 Try.func16 rfl (by kernel_rfl) (by rw [T_law07_part_eq]; exact h)
def an_20 : Nat → Ann := fun b => match b with
  | _ => {}
abbrev rv_20 : List ResultVar := [.cell 2 26]
abbrev rs_20 : List Nat := [22, 2]
def T_law07_sample (W : World) (n1 : Int) (R : Ending → Hp → Prop) : Hp → Prop :=
  NEWZ Pg 26 fun B2 =>
    CALL Pg W F_law07_span [(.int .i64 0), (.int .i64 0)]
      (fun v3 => AGG v3 fun q5 => HD q5 fun v6 r7 => TYI .i64 v6 fun n8 =>
        HD r7 fun v9 r10 => TYI .i64 v9 fun n11 =>
          NL r10 <|
            CALL Pg W F_law07_span [(.int .i64 1000), (.int .i64 1000)]
              (fun v12 => AGG v12 fun q14 => HD q14 fun v15 r16 => TYI .i64 v15 fun n17 =>
                HD r16 fun v18 r19 => TYI .i64 v18 fun n20 =>
                  NL r19 <|
                    CALL Pg W F_law07_span [(.int .i64 5), (.int .i64 6)]
                      (fun v21 => AGG v21 fun q23 => HD q23 fun v24 r25 => TYI .i64 v24 fun n26 =>
                        HD r25 fun v27 r28 => TYI .i64 v27 fun n29 =>
                          NL r28 <|
                            CALL Pg W F_law07_span [(.int .i64 998), (.int .i64 1002)]
                              (fun v30 => AGG v30 fun q32 => HD q32 fun v33 r34 => TYI .i64 v33 fun n35 =>
                                HD r34 fun v36 r37 => TYI .i64 v36 fun n38 =>
                                  NL r37 <|
                                    NEW 66 [(.int .i64 n8), (.int .i64 n11), (.int .i64 n17), (.int .i64 n20), (.int .i64 n26), (.int .i64 n29), (.int .i64 n35), (.int .i64 n38)] fun B39 =>
                                      NEW 61 [(.int .i64 0), (.int .i64 0), (.int .i64 10), (.int .i64 1), (.int .i64 1), (.int .i64 66), (.int .i64 2), (.int .i64 0), (.int .i64 130), (.int .i64 2), (.int .i64 1), (.int .i64 n1)] fun B40 =>
                                        CALL Pg W F_law07_span [(.int .i64 40), (.int .i64 60)]
                                          (fun v41 => AGG v41 fun q43 => HD q43 fun v44 r45 => TYI .i64 v44 fun n46 =>
                                            HD r45 fun v47 r48 => TYI .i64 v47 fun n49 =>
                                              NL r48 <|
                                                CALL Pg W F_law07_span [(.int .i64 60), (.int .i64 70)]
                                                  (fun v50 => AGG v50 fun q52 => HD q52 fun v53 r54 => TYI .i64 v53 fun n55 =>
                                                    HD r54 fun v56 r57 => TYI .i64 v56 fun n58 =>
                                                      NL r57 <|
                                                        NEW 63 [(.int .i64 0), (.int .i64 1), (.int .i64 n46), (.int .i64 n49), (.int .i64 1), (.int .i64 2), (.int .i64 n55), (.int .i64 n58)] fun B59 =>
                                                          WR (Addr.add ⟨B2, 0, none⟩ 0) (.slice (some ⟨B39, 0, none⟩) 2 2) <|
                                                            WR (Addr.add ⟨B2, 0, none⟩ 1) (.int .i64 3) <|
                                                              WR (Addr.add ⟨B2, 0, none⟩ 2) (.slice (some ⟨B40, 0, none⟩) 4 4) <|
                                                                WR (Addr.add ⟨B2, 0, none⟩ 3) (.slice (some ⟨B59, 0, none⟩) 2 2) <|
                                                                  RDL (Addr.add ⟨B2, 0, none⟩ 0) fun x60 l61 c62 =>
                                                                    RDI .i64 (Addr.add ⟨B2, 0, none⟩ 1) fun n63 =>
                                                                      RDL (Addr.add ⟨B2, 0, none⟩ 2) fun x64 l65 c66 =>
                                                                        RDL (Addr.add ⟨B2, 0, none⟩ 3) fun x67 l68 c69 =>
                                                                          R (.returned (.agg #[(.slice x60 l61 c62), (.int .i64 n63), (.slice x64 l65 c66), (.slice x67 l68 c69)])))
                                                    (fun e51 => R (.panicked e51)))
                                            (fun e42 => R (.panicked e42)))
                                (fun e31 => R (.panicked e31)))
                        (fun e22 => R (.panicked e22)))
                (fun e13 => R (.panicked e13)))
        (fun e4 => R (.panicked e4))
theorem T_law07_sample_eq (W : World) (n1 : Int) (R : Ending → Hp → Prop) : vfun Pg W an_20 Try.f20 [(.int .i64 n1)] R = T_law07_sample W n1 R := by kernel_rfl
theorem does_law07_sample (W : World) (n1 : Int) (R : Ending → Hp → Prop) (s : Hp) (h : T_law07_sample W n1 R s) : Does Pg W F_law07_sample #[(.int .i64 n1)] s R :=
  does_of_vfun Pg W an_20 Try.func20 rfl (by kernel_rfl) (by rw [T_law07_sample_eq]; exact h)
def an_24 : Nat → Ann := fun b => match b with
  | _ => {}
abbrev rv_24 : List ResultVar := [.cell 4 34]
abbrev rs_24 : List Nat := [8, 4]
def T_law07_span (W : World) (n1 : Int) (n2 : Int) (R : Ending → Hp → Prop) : Hp → Prop :=
  NEWZ Pg 34 fun B3 =>
    WR (Addr.add ⟨B3, 0, none⟩ 0) (.int .i64 n1) <|
      WR (Addr.add ⟨B3, 0, none⟩ 1) (.int .i64 n2) <|
        RDI .i64 (Addr.add ⟨B3, 0, none⟩ 0) fun n4 =>
          RDI .i64 (Addr.add ⟨B3, 0, none⟩ 1) fun n5 =>
            R (.returned (.agg #[(.int .i64 n4), (.int .i64 n5)]))
theorem T_law07_span_eq (W : World) (n1 : Int) (n2 : Int) (R : Ending → Hp → Prop) : vfun Pg W an_24 Try.f24 [(.int .i64 n1), (.int .i64 n2)] R = T_law07_span W n1 n2 R := by kernel_rfl
theorem does_law07_span (W : World) (n1 : Int) (n2 : Int) (R : Ending → Hp → Prop) (s : Hp) (h : T_law07_span W n1 n2 R s) : Does Pg W F_law07_span #[(.int .i64 n1), (.int .i64 n2)] s R :=
  does_of_vfun Pg W an_24 Try.func24 rfl (by kernel_rfl) (by rw [T_law07_span_eq]; exact h)
def an_27 : Nat → Ann := fun b => match b with
  | _ => {}
abbrev rv_27 : List ResultVar := [.tmp 4]
abbrev rs_27 : List Nat := [15, 4]
def T_law07_inside (W : World) (n1 : Int) (n2 : Int) (n3 : Int) (R : Ending → Hp → Prop) : Hp → Prop :=
  NEW 34 [(.int .i64 n2), (.int .i64 n3)] fun B4 =>
    RDI .i64 (Addr.add ⟨B4, 0, none⟩ 0) fun n5 =>
      BR (decide (n5 ≤ n1))
        (RDI .i64 (Addr.add ⟨B4, 0, none⟩ 1) fun n6 =>
          R (.returned (.bool (decide (n1 ≤ n6)))))
        (R (.returned (.bool false)))
theorem T_law07_inside_eq (W : World) (n1 : Int) (n2 : Int) (n3 : Int) (R : Ending → Hp → Prop) : vfun Pg W an_27 Try.f27 [(.int .i64 n1), (.agg #[(.int .i64 n2), (.int .i64 n3)])] R = T_law07_inside W n1 n2 n3 R := by kernel_rfl
theorem does_law07_inside (W : World) (n1 : Int) (n2 : Int) (n3 : Int) (R : Ending → Hp → Prop) (s : Hp) (h : T_law07_inside W n1 n2 n3 R s) : Does Pg W F_law07_inside #[(.int .i64 n1), (.agg #[(.int .i64 n2), (.int .i64 n3)])] s R :=
  does_of_vfun Pg W an_27 Try.func27 rfl (by kernel_rfl) (by rw [T_law07_inside_eq]; exact h)
end Go.Proofs.Ytknpmijgdfeliaa.G

/- More of the functions' shallow texts, by gen.py. -/
set_option linter.unusedVariables false
set_option maxRecDepth 100000
namespace Go.Proofs.Ytknpmijgdfeliaa.G
open Go.V
def an_10 : Nat → Ann := fun b => match b with
  | _ => {}
abbrev rv_10 : List ResultVar := [.tmp 0]
abbrev rs_10 : List Nat := [99, 0]
def J_law07_alive_0 (W : World) (R : Ending → Hp → Prop) (b317 : Bool) (n149 : Int) (n178 : Int) (n181 : Int) (n208 : Int) (n211 : Int) : Hp → Prop :=
  BR b317
    (BR (n149 == 0)
      (BR (n178 == 2)
        (BR (n181 == 0)
          (BR (n208 == 8)
            (R (.returned (.bool (n211 == 0))))
            (R (.returned (.bool false))))
          (R (.returned (.bool false))))
        (R (.returned (.bool false))))
      (R (.returned (.bool false))))
    (R (.returned (.bool false)))
def J_law07_alive_1 (W : World) (R : Ending → Hp → Prop) (b290 : Bool) (B151 : Nat) (n149 : Int) (n178 : Int) (n181 : Int) (n208 : Int) (n211 : Int) : Hp → Prop :=
  BR b290
    (RDI .i64 (Addr.add ⟨B151, 0, none⟩ 0) fun n291 =>
      RDI .i64 (Addr.add ⟨B151, 0, none⟩ 1) fun n292 =>
        CALL Pg W F_law07_span [(.int .i64 1000), (.int .i64 1002)]
          (fun v293 => AGG v293 fun q295 => HD q295 fun v296 r297 => TYI .i64 v296 fun n298 =>
            HD r297 fun v299 r300 => TYI .i64 v299 fun n301 =>
              NL r300 <|
                ANDS (RDI .i64 (Addr.add ⟨B151, 0, none⟩ 0) fun n304 =>
                  RDI .i64 (Addr.add ⟨B151, 0, none⟩ 1) fun n305 =>
                    fun _ => ((.agg #[(.int .i64 n304), (.int .i64 n305)]) : Value) = (.agg #[(.int .i64 n291), (.int .i64 n292)])) <|
                  J_law07_alive_0 W R ((n291 == n298) && (n292 == n301)) n149 n178 n181 n208 n211)
            (fun e294 => R (.panicked e294)))
    (J_law07_alive_0 W R false n149 n178 n181 n208 n211)
def J_law07_alive_2 (W : World) (R : Ending → Hp → Prop) (b266 : Bool) (B150 : Nat) (B151 : Nat) (n149 : Int) (n178 : Int) (n181 : Int) (n208 : Int) (n211 : Int) : Hp → Prop :=
  BR b266
    (RDI .i64 (Addr.add ⟨B150, 0, none⟩ 0) fun n267 =>
      RDI .i64 (Addr.add ⟨B150, 0, none⟩ 1) fun n268 =>
        CALL Pg W F_law07_span [(.int .i64 6), (.int .i64 6)]
          (fun v269 => AGG v269 fun q271 => HD q271 fun v272 r273 => TYI .i64 v272 fun n274 =>
            HD r273 fun v275 r276 => TYI .i64 v275 fun n277 =>
              NL r276 <|
                ANDS (RDI .i64 (Addr.add ⟨B150, 0, none⟩ 0) fun n280 =>
                  RDI .i64 (Addr.add ⟨B150, 0, none⟩ 1) fun n281 =>
                    fun _ => ((.agg #[(.int .i64 n280), (.int .i64 n281)]) : Value) = (.agg #[(.int .i64 n267), (.int .i64 n268)])) <|
                  J_law07_alive_1 W R ((n267 == n274) && (n268 == n277)) B151 n149 n178 n181 n208 n211)
            (fun e270 => R (.panicked e270)))
    (J_law07_alive_1 W R false B151 n149 n178 n181 n208 n211)
def J_law07_alive_3 (W : World) (R : Ending → Hp → Prop) (b260 : Bool) (n104 : Int) (B150 : Nat) (B151 : Nat) (n149 : Int) (n178 : Int) (n181 : Int) (n208 : Int) (n211 : Int) : Hp → Prop :=
  BR b260
    (J_law07_alive_2 W R (n104 == 0) B150 B151 n149 n178 n181 n208 n211)
    (J_law07_alive_2 W R false B150 B151 n149 n178 n181 n208 n211)
def J_law07_alive_4 (W : World) (R : Ending → Hp → Prop) (b254 : Bool) (n101 : Int) (n104 : Int) (B150 : Nat) (B151 : Nat) (n149 : Int) (n178 : Int) (n181 : Int) (n208 : Int) (n211 : Int) : Hp → Prop :=
  BR b254
    (J_law07_alive_3 W R (n101 == 2) n104 B150 B151 n149 n178 n181 n208 n211)
    (J_law07_alive_3 W R false n104 B150 B151 n149 n178 n181 n208 n211)
def J_law07_alive_5 (W : World) (R : Ending → Hp → Prop) (b248 : Bool) (n73 : Int) (n101 : Int) (n104 : Int) (B150 : Nat) (B151 : Nat) (n149 : Int) (n178 : Int) (n181 : Int) (n208 : Int) (n211 : Int) : Hp → Prop :=
  BR b248
    (J_law07_alive_4 W R (n73 == 0) n101 n104 B150 B151 n149 n178 n181 n208 n211)
    (J_law07_alive_4 W R false n101 n104 B150 B151 n149 n178 n181 n208 n211)
def J_law07_alive_6 (W : World) (R : Ending → Hp → Prop) (b227 : Bool) (B74 : Nat) (n73 : Int) (n101 : Int) (n104 : Int) (B150 : Nat) (B151 : Nat) (n149 : Int) (n178 : Int) (n181 : Int) (n208 : Int) (n211 : Int) : Hp → Prop :=
  BR b227
    (RDI .i64 (Addr.add ⟨B74, 0, none⟩ 0) fun n228 =>
      RDI .i64 (Addr.add ⟨B74, 0, none⟩ 1) fun n229 =>
        CALL Pg W F_law07_span [(.int .i64 (-70)), (.int .i64 (-70))]
          (fun v230 => AGG v230 fun q232 => HD q232 fun v233 r234 => TYI .i64 v233 fun n235 =>
            HD r234 fun v236 r237 => TYI .i64 v236 fun n238 =>
              NL r237 <|
                ANDS (RDI .i64 (Addr.add ⟨B74, 0, none⟩ 0) fun n241 =>
                  RDI .i64 (Addr.add ⟨B74, 0, none⟩ 1) fun n242 =>
                    fun _ => ((.agg #[(.int .i64 n241), (.int .i64 n242)]) : Value) = (.agg #[(.int .i64 n228), (.int .i64 n229)])) <|
                  J_law07_alive_5 W R ((n228 == n235) && (n229 == n238)) n73 n101 n104 B150 B151 n149 n178 n181 n208 n211)
            (fun e231 => R (.panicked e231)))
    (J_law07_alive_5 W R false n73 n101 n104 B150 B151 n149 n178 n181 n208 n211)
def T_law07_alive (W : World) (R : Ending → Hp → Prop) : Hp → Prop :=
  CALL Pg W F_law07_sample [(.int .i64 136)]
    (fun v1 => AGG v1 fun q3 => HD q3 fun v4 r5 => TYL v4 fun x6 l7 c8 =>
      HD r5 fun v9 r10 => TYI .i64 v9 fun n11 =>
        HD r10 fun v12 r13 => TYL v12 fun x14 l15 c16 =>
          HD r13 fun v17 r18 => TYL v17 fun x19 l20 c21 =>
            NL r18 <|
              CALL Pg W F_clock_When [(.agg #[(.slice x6 l7 c8), (.int .i64 n11), (.slice x14 l15 c16), (.slice x19 l20 c21)]), (.int .i64 1)]
                (fun v22 => TUP v22 fun q24 => HD q24 fun v25 r26 => AGG v25 fun q27 => HD q27 fun v28 r29 => TYI .i64 v28 fun n30 =>
                  HD r29 fun v31 r32 => TYI .i64 v31 fun n33 =>
                    NL r32 <|
                      HD r26 fun v34 r35 => TYI .i64 v34 fun n36 =>
                        NL r35 <|
                          NEWZ Pg 34 fun B37 =>
                            WR (Addr.add ⟨B37, 0, none⟩ 0) (.int .i64 n30) <|
                              WR (Addr.add ⟨B37, 0, none⟩ 1) (.int .i64 n33) <|
                                CALL Pg W F_law07_sample [(.int .i64 136)]
                                  (fun v38 => AGG v38 fun q40 => HD q40 fun v41 r42 => TYL v41 fun x43 l44 c45 =>
                                    HD r42 fun v46 r47 => TYI .i64 v46 fun n48 =>
                                      HD r47 fun v49 r50 => TYL v49 fun x51 l52 c53 =>
                                        HD r50 fun v54 r55 => TYL v54 fun x56 l57 c58 =>
                                          NL r55 <|
                                            CALL Pg W F_clock_Lasted [(.agg #[(.slice x43 l44 c45), (.int .i64 n48), (.slice x51 l52 c53), (.slice x56 l57 c58)]), (.int .i64 2), (.int .i64 1)]
                                              (fun v59 => TUP v59 fun q61 => HD q61 fun v62 r63 => AGG v62 fun q64 => HD q64 fun v65 r66 => TYI .i64 v65 fun n67 =>
                                                HD r66 fun v68 r69 => TYI .i64 v68 fun n70 =>
                                                  NL r69 <|
                                                    HD r63 fun v71 r72 => TYI .i64 v71 fun n73 =>
                                                      NL r72 <|
                                                        NEWZ Pg 34 fun B74 =>
                                                          WR (Addr.add ⟨B74, 0, none⟩ 0) (.int .i64 n67) <|
                                                            WR (Addr.add ⟨B74, 0, none⟩ 1) (.int .i64 n70) <|
                                                              CALL Pg W F_law07_sample [(.int .i64 136)]
                                                                (fun v75 => AGG v75 fun q77 => HD q77 fun v78 r79 => TYL v78 fun x80 l81 c82 =>
                                                                  HD r79 fun v83 r84 => TYI .i64 v83 fun n85 =>
                                                                    HD r84 fun v86 r87 => TYL v86 fun x88 l89 c90 =>
                                                                      HD r87 fun v91 r92 => TYL v91 fun x93 l94 c95 =>
                                                                        NL r92 <|
                                                                          CALL Pg W F_clock_First [(.agg #[(.slice x80 l81 c82), (.int .i64 n85), (.slice x88 l89 c90), (.slice x93 l94 c95)]), (.int .i64 0), (.int .i64 1)]
                                                                            (fun v96 => TUP v96 fun q98 => HD q98 fun v99 r100 => TYI .i64 v99 fun n101 =>
                                                                              HD r100 fun v102 r103 => TYI .i64 v102 fun n104 =>
                                                                                NL r103 <|
                                                                                  CALL Pg W F_law07_sample [(.int .i64 136)]
                                                                                    (fun v105 => AGG v105 fun q107 => HD q107 fun v108 r109 => TYL v108 fun x110 l111 c112 =>
                                                                                      HD r109 fun v113 r114 => TYI .i64 v113 fun n115 =>
                                                                                        HD r114 fun v116 r117 => TYL v116 fun x118 l119 c120 =>
                                                                                          HD r117 fun v121 r122 => TYL v121 fun x123 l124 c125 =>
                                                                                            NL r122 <|
                                                                                              CALL Pg W F_clock_Goes [(.agg #[(.slice x110 l111 c112), (.int .i64 n115), (.slice x118 l119 c120), (.slice x123 l124 c125)]), (.int .i64 1)]
                                                                                                (fun v126 => TUP v126 fun q128 => HD q128 fun v129 r130 => AGG v129 fun q131 => HD q131 fun v132 r133 => TYI .i64 v132 fun n134 =>
                                                                                                  HD r133 fun v135 r136 => TYI .i64 v135 fun n137 =>
                                                                                                    NL r136 <|
                                                                                                      HD r130 fun v138 r139 => AGG v138 fun q140 => HD q140 fun v141 r142 => TYI .i64 v141 fun n143 =>
                                                                                                        HD r142 fun v144 r145 => TYI .i64 v144 fun n146 =>
                                                                                                          NL r145 <|
                                                                                                            HD r139 fun v147 r148 => TYI .i64 v147 fun n149 =>
                                                                                                              NL r148 <|
                                                                                                                NEWZ Pg 34 fun B150 =>
                                                                                                                  NEWZ Pg 34 fun B151 =>
                                                                                                                    WR (Addr.add ⟨B150, 0, none⟩ 0) (.int .i64 n134) <|
                                                                                                                      WR (Addr.add ⟨B150, 0, none⟩ 1) (.int .i64 n137) <|
                                                                                                                        WR (Addr.add ⟨B151, 0, none⟩ 0) (.int .i64 n143) <|
                                                                                                                          WR (Addr.add ⟨B151, 0, none⟩ 1) (.int .i64 n146) <|
                                                                                                                            CALL Pg W F_law07_sample [(.int .i64 140)]
                                                                                                                              (fun v152 => AGG v152 fun q154 => HD q154 fun v155 r156 => TYL v155 fun x157 l158 c159 =>
                                                                                                                                HD r156 fun v160 r161 => TYI .i64 v160 fun n162 =>
                                                                                                                                  HD r161 fun v163 r164 => TYL v163 fun x165 l166 c167 =>
                                                                                                                                    HD r164 fun v168 r169 => TYL v168 fun x170 l171 c172 =>
                                                                                                                                      NL r169 <|
                                                                                                                                        CALL Pg W F_clock_Wrong [(.agg #[(.slice x157 l158 c159), (.int .i64 n162), (.slice x165 l166 c167), (.slice x170 l171 c172)])]
                                                                                                                                          (fun v173 => TUP v173 fun q175 => HD q175 fun v176 r177 => TYI .i64 v176 fun n178 =>
                                                                                                                                            HD r177 fun v179 r180 => TYI .i64 v179 fun n181 =>
                                                                                                                                              NL r180 <|
                                                                                                                                                CALL Pg W F_law07_sample [(.int .i64 140)]
                                                                                                                                                  (fun v182 => AGG v182 fun q184 => HD q184 fun v185 r186 => TYL v185 fun x187 l188 c189 =>
                                                                                                                                                    HD r186 fun v190 r191 => TYI .i64 v190 fun n192 =>
                                                                                                                                                      HD r191 fun v193 r194 => TYL v193 fun x195 l196 c197 =>
                                                                                                                                                        HD r194 fun v198 r199 => TYL v198 fun x200 l201 c202 =>
                                                                                                                                                          NL r199 <|
                                                                                                                                                            CALL Pg W F_clock_Drop [(.agg #[(.slice x187 l188 c189), (.int .i64 n192), (.slice x195 l196 c197), (.slice x200 l201 c202)])]
                                                                                                                                                              (fun v203 => TUP v203 fun q205 => HD q205 fun v206 r207 => TYI .i64 v206 fun n208 =>
                                                                                                                                                                HD r207 fun v209 r210 => TYI .i64 v209 fun n211 =>
                                                                                                                                                                  NL r210 <|
                                                                                                                                                                    RDI .i64 (Addr.add ⟨B37, 0, none⟩ 0) fun n212 =>
                                                                                                                                                                      RDI .i64 (Addr.add ⟨B37, 0, none⟩ 1) fun n213 =>
                                                                                                                                                                        CALL Pg W F_law07_span [(.int .i64 60), (.int .i64 60)]
                                                                                                                                                                          (fun v214 => AGG v214 fun q216 => HD q216 fun v217 r218 => TYI .i64 v217 fun n219 =>
                                                                                                                                                                            HD r218 fun v220 r221 => TYI .i64 v220 fun n222 =>
                                                                                                                                                                              NL r221 <|
                                                                                                                                                                                ANDS (RDI .i64 (Addr.add ⟨B37, 0, none⟩ 0) fun n223 =>
                                                                                                                                                                                  RDI .i64 (Addr.add ⟨B37, 0, none⟩ 1) fun n224 =>
                                                                                                                                                                                    fun _ => ((.agg #[(.int .i64 n223), (.int .i64 n224)]) : Value) = (.agg #[(.int .i64 n212), (.int .i64 n213)])) <|
                                                                                                                                                                                  BR ((n212 == n219) && (n213 == n222))
                                                                                                                                                                                    (J_law07_alive_6 W R (n36 == 0) B74 n73 n101 n104 B150 B151 n149 n178 n181 n208 n211)
                                                                                                                                                                                    (J_law07_alive_6 W R false B74 n73 n101 n104 B150 B151 n149 n178 n181 n208 n211))
                                                                                                                                                                            (fun e215 => R (.panicked e215)))
                                                                                                                                                                (fun e204 => R (.panicked e204)))
                                                                                                                                                    (fun e183 => R (.panicked e183)))
                                                                                                                                            (fun e174 => R (.panicked e174)))
                                                                                                                                (fun e153 => R (.panicked e153)))
                                                                                                  (fun e127 => R (.panicked e127)))
                                                                                      (fun e106 => R (.panicked e106)))
                                                                              (fun e97 => R (.panicked e97)))
                                                                  (fun e76 => R (.panicked e76)))
                                                (fun e60 => R (.panicked e60)))
                                    (fun e39 => R (.panicked e39)))
                  (fun e23 => R (.panicked e23)))
      (fun e2 => R (.panicked e2))
theorem T_law07_alive_eq (W : World) (R : Ending → Hp → Prop) : vfun Pg W an_10 Try.f10 [] R = T_law07_alive W R := by kernel_rfl
theorem does_law07_alive (W : World) (R : Ending → Hp → Prop) (s : Hp) (h : T_law07_alive W R s) : Does Pg W F_law07_alive #[] s R :=
  does_of_vfun Pg W an_10 Try.func10 rfl (by kernel_rfl) (by rw [T_law07_alive_eq]; exact h)
end Go.Proofs.Ytknpmijgdfeliaa.G

/- Clock: the document's examples hold. -/
set_option linter.unusedSimpArgs false
set_option linter.unusedVariables false
set_option maxRecDepth 20000
namespace Go.Proofs.Ytknpmijgdfeliaa.G
open Go.V
section
variable {W : World} {K : VK} {E : List PanicEntry → Hp → Prop} {s : Hp}
theorem c_span {a b : Int} (h : ∀ s', Ext s s' → K (.agg #[.int .i64 a, .int .i64 b]) s') : CALL Pg W F_law07_span [.int .i64 a, .int .i64 b] K E s := by
  refine does_law07_span W a b _ s ?_
  unfold T_law07_span
  refine nw2 zc_34 rfl rfl fun s1 e1 z1 o1 o2 => ⟨_, o1.cell, ⟨_, o2.cell, ?_⟩⟩
  exact h s1 e1
theorem c_sample {l : Int} (h : ∀ s' x y z, Ext s s' → ClV s' (CL l) x y z → K (clkV (CL l) x y z 2 4 2) s') : CALL Pg W F_law07_sample [.int .i64 l] K E s := by
  refine does_law07_sample W l _ s ?_
  unfold T_law07_sample
  refine nz4 zc_26 fun s1 e1 z1 p1 p2 p3 p4 => ?_
  refine c_span fun s2 e2 => ?_
  try simp only [TUP_mk, AGG_mk, HD_mk, NL_mk, TYI_mk, TYB_mk, TYP_mk, TYL_mk, TYS_mk, TYM_mk, SO_mk, NX_mk, endK_mk, endK_mk', add_0]
  refine c_span fun s3 e3 => ?_
  try simp only [TUP_mk, AGG_mk, HD_mk, NL_mk, TYI_mk, TYB_mk, TYP_mk, TYL_mk, TYS_mk, TYM_mk, SO_mk, NX_mk, endK_mk, endK_mk', add_0]
  refine c_span fun s4 e4 => ?_
  try simp only [TUP_mk, AGG_mk, HD_mk, NL_mk, TYI_mk, TYB_mk, TYP_mk, TYL_mk, TYS_mk, TYM_mk, SO_mk, NX_mk, endK_mk, endK_mk', add_0]
  refine c_span fun s5 e5 => ?_
  try simp only [TUP_mk, AGG_mk, HD_mk, NL_mk, TYI_mk, TYB_mk, TYP_mk, TYL_mk, TYS_mk, TYM_mk, SO_mk, NX_mk, endK_mk, endK_mk', add_0]
  refine NEW_rule fun s6 e6 z6 n6 _ => ?_
  refine NEW_rule fun s7 e7 z7 n7 _ => ?_
  refine c_span fun s8 e8 => ?_
  try simp only [TUP_mk, AGG_mk, HD_mk, NL_mk, TYI_mk, TYB_mk, TYP_mk, TYL_mk, TYS_mk, TYM_mk, SO_mk, NX_mk, endK_mk, endK_mk', add_0]
  refine c_span fun s9 e9 => ?_
  try simp only [TUP_mk, AGG_mk, HD_mk, NL_mk, TYI_mk, TYB_mk, TYP_mk, TYL_mk, TYS_mk, TYM_mk, SO_mk, NX_mk, endK_mk, endK_mk', add_0]
  refine NEW_rule fun t et zt nt _ => ?_
  have e15 := ((e2.trans e3).trans e4).trans e5
  have e1t := (((e15.trans e6).trans e7).trans (e8.trans e9)).trans et
  have hlt : s.size < s1.size := by omega
  have h15 : s1.size ≤ s5.size := e15.1
  have h6 : s5.size < s6.size := by omega
  have h9 : s7.size ≤ s9.size := (e8.trans e9).1
  show wrN [_, _, _, _] ⟨s.size, 0, none⟩ 0 _ t
  refine wrN_rule _ _ 0 _ t (fun i hi => ?_) ?_ ?_
  · match i, hi with
    | 0, _ => exact ⟨_, e1t.own p1⟩
    | 1, _ => exact ⟨_, e1t.own p2⟩
    | 2, _ => exact ⟨_, e1t.own p3⟩
    | 3, _ => exact ⟨_, e1t.own p4⟩
  · intro w hw
    simp at hw
    rcases hw with rfl | rfl | rfl | rfl <;> rfl
  · intro u k zu ho _
    have q0 := ho 0 (by simp)
    have q1 := ho 1 (by simp)
    have q2 := ho 2 (by simp)
    have q3 := ho 3 (by simp)
    refine ⟨_, _, _, q0.cell, ⟨_, q1.cell, ⟨_, _, _, q2.cell, ⟨_, _, _, q3.cell, ?_⟩⟩⟩⟩
    refine h u (some ⟨s5.size, 0, none⟩) (some ⟨s6.size, 0, none⟩) (some ⟨s9.size, 0, none⟩) (ext_kp (e1.trans e1t) (Nat.le_refl _) k) ⟨?_, ?_, ?_⟩
    · intro i hi
      have hi' : i < 2 := hi
      have f := (e7.trans (e8.trans e9)).trans et
      have g : ∀ j v, _ → Own u ⟨s5.size, j, none⟩ v := fun j v hv => k.own (by show ¬ s5.size = s.size; omega) (f.own (n6 j v hv))
      refine ⟨_, rfl, ?_⟩
      match i, hi' with
      | 0, _ => exact ⟨(g 0 _ rfl).cell, (g 1 _ rfl).cell, (g 2 _ rfl).cell, (g 3 _ rfl).cell⟩
      | 1, _ => exact ⟨(g 4 _ rfl).cell, (g 5 _ rfl).cell, (g 6 _ rfl).cell, (g 7 _ rfl).cell⟩
    · intro i hi
      have hi' : i < 4 := hi
      have f := (e8.trans e9).trans et
      have g : ∀ j v, _ → Own u ⟨s6.size, j, none⟩ v := fun j v hv => k.own (by show ¬ s6.size = s.size; omega) (f.own (n7 j v hv))
      refine ⟨_, rfl, ?_⟩
      match i, hi' with
      | 0, _ => exact ⟨(g 0 _ rfl).cell, (g 1 _ rfl).cell, (g 2 _ rfl).cell⟩
      | 1, _ => exact ⟨(g 3 _ rfl).cell, (g 4 _ rfl).cell, (g 5 _ rfl).cell⟩
      | 2, _ => exact ⟨(g 6 _ rfl).cell, (g 7 _ rfl).cell, (g 8 _ rfl).cell⟩
      | 3, _ => exact ⟨(g 9 _ rfl).cell, (g 10 _ rfl).cell, (g 11 _ rfl).cell⟩
    · intro i hi
      have hi' : i < 2 := hi
      have g : ∀ j v, _ → Own u ⟨s9.size, j, none⟩ v := fun j v hv => k.own (by show ¬ s9.size = s.size; omega) (nt j v hv)
      refine ⟨_, rfl, ?_⟩
      match i, hi' with
      | 0, _ => exact ⟨(g 0 _ rfl).cell, (g 1 _ rfl).cell, (g 2 _ rfl).cell, (g 3 _ rfl).cell⟩
      | 1, _ => exact ⟨(g 4 _ rfl).cell, (g 5 _ rfl).cell, (g 6 _ rfl).cell, (g 7 _ rfl).cell⟩
theorem c_alive (h : ∀ s', Ext s s' → K (.bool true) s') : CALL Pg W F_law07_alive [] K E s := by
  refine does_law07_alive W _ s ?_
  unfold T_law07_alive
  refine c_sample fun s1 xa ya za e1 ca => ?_
  unfold clkV
  try simp only [TUP_mk, AGG_mk, HD_mk, NL_mk, TYI_mk, TYB_mk, TYP_mk, TYL_mk, TYS_mk, TYM_mk, SO_mk, NX_mk, endK_mk, endK_mk', add_0]
  refine c_When (c := CL 136) ca fun s2 lo1 hi1 er1 e2 q1 => ?_
  obtain ⟨rfl, rfl, rfl⟩ := cl_when1 q1
  try simp only [TUP_mk, AGG_mk, HD_mk, NL_mk, TYI_mk, TYB_mk, TYP_mk, TYL_mk, TYS_mk, TYM_mk, SO_mk, NX_mk, endK_mk, endK_mk', add_0]
  refine nw2 zc_34 rfl rfl fun s3 e3 z3 a1 a2 => ?_
  refine c_sample fun s4 xb yb zb e4 cb => ?_
  unfold clkV
  try simp only [TUP_mk, AGG_mk, HD_mk, NL_mk, TYI_mk, TYB_mk, TYP_mk, TYL_mk, TYS_mk, TYM_mk, SO_mk, NX_mk, endK_mk, endK_mk', add_0]
  refine c_Lasted (c := CL 136) cb fun s5 lo2 hi2 er2 e5 q2 => ?_
  obtain ⟨rfl, rfl, rfl⟩ := cl_lasted21 q2
  try simp only [TUP_mk, AGG_mk, HD_mk, NL_mk, TYI_mk, TYB_mk, TYP_mk, TYL_mk, TYS_mk, TYM_mk, SO_mk, NX_mk, endK_mk, endK_mk', add_0]
  refine nw2 zc_34 rfl rfl fun s6 e6 z6 b1 b2 => ?_
  refine c_sample fun s7 xc yc zc e7 cc => ?_
  unfold clkV
  try simp only [TUP_mk, AGG_mk, HD_mk, NL_mk, TYI_mk, TYB_mk, TYP_mk, TYL_mk, TYS_mk, TYM_mk, SO_mk, NX_mk, endK_mk, endK_mk', add_0]
  refine c_First (c := CL 136) cc fun s8 lo3 hi3 er3 e8 q3 => ?_
  obtain ⟨f3, rfl⟩ := cl_first q3
  rw [f3]
  try simp only [TUP_mk, AGG_mk, HD_mk, NL_mk, TYI_mk, TYB_mk, TYP_mk, TYL_mk, TYS_mk, TYM_mk, SO_mk, NX_mk, endK_mk, endK_mk', add_0]
  refine c_sample fun s9 xd yd zd e9 cd => ?_
  unfold clkV
  try simp only [TUP_mk, AGG_mk, HD_mk, NL_mk, TYI_mk, TYB_mk, TYP_mk, TYL_mk, TYS_mk, TYM_mk, SO_mk, NX_mk, endK_mk, endK_mk', add_0]
  refine c_Goes (c := CL 136) cd (by decide) fun s10 zl zh rl rh er4 e10 q4 q5 => ?_
  obtain ⟨rfl, rfl, rfl⟩ := cl_zero q4
  obtain ⟨rfl, rfl, _⟩ := cl_rate q5
  try simp only [TUP_mk, AGG_mk, HD_mk, NL_mk, TYI_mk, TYB_mk, TYP_mk, TYL_mk, TYS_mk, TYM_mk, SO_mk, NX_mk, endK_mk, endK_mk', add_0]
  refine nz2 zc_34 fun s11 e11 z11 d1 d2 => ?_
  refine nz2 zc_34 fun s12 e12 z12 g1 g2 => ?_
  refine wrB (e12.own d1) (e12.own d2) rfl rfl fun s13 k13 z13 d1' d2' => ?_
  have n1 : ¬ s11.size = s10.size := by omega
  refine wrB (k13.own n1 g1) (k13.own n1 g2) rfl rfl fun s14 k14 z14 g1' g2' => ?_
  have n2 : ¬ s10.size = s11.size := by omega
  have d1'' := k14.own n2 d1'
  have d2'' := k14.own n2 d2'
  have e1014 : Ext s10 s14 := kp_nil (kp_nil (e11.trans e12) (fun b hb => by have : b = s10.size := hb; omega) k13) (fun b hb => by have : b = s11.size := hb; omega) k14
  refine c_sample fun s15 xe ye ze e15 ce => ?_
  unfold clkV
  try simp only [TUP_mk, AGG_mk, HD_mk, NL_mk, TYI_mk, TYB_mk, TYP_mk, TYL_mk, TYS_mk, TYM_mk, SO_mk, NX_mk, endK_mk, endK_mk', add_0]
  refine c_Wrong (c := CL 140) ce fun s16 w er5 e16 q6 => ?_
  obtain ⟨rfl, rfl⟩ := cl_wrong q6
  try simp only [TUP_mk, AGG_mk, HD_mk, NL_mk, TYI_mk, TYB_mk, TYP_mk, TYL_mk, TYS_mk, TYM_mk, SO_mk, NX_mk, endK_mk, endK_mk', add_0]
  refine c_sample fun s17 xf yf zf e17 cf => ?_
  unfold clkV
  try simp only [TUP_mk, AGG_mk, HD_mk, NL_mk, TYI_mk, TYB_mk, TYP_mk, TYL_mk, TYS_mk, TYM_mk, SO_mk, NX_mk, endK_mk, endK_mk', add_0]
  refine c_Drop (c := CL 140) cf fun s18 d er6 e18 q7 => ?_
  obtain ⟨rfl, rfl⟩ := cl_drop q7
  try simp only [TUP_mk, AGG_mk, HD_mk, NL_mk, TYI_mk, TYB_mk, TYP_mk, TYL_mk, TYS_mk, TYM_mk, SO_mk, NX_mk, endK_mk, endK_mk', add_0]
  have e1418 := ((e15.trans e16).trans e17).trans e18
  have e610 := ((e7.trans e8).trans e9).trans e10
  have e36 := (e4.trans e5).trans e6
  have e318 := ((e36.trans e610).trans e1014).trans e1418
  have e618 := (e610.trans e1014).trans e1418
  have ea : Ext s s18 := ((e1.trans e2).trans e3).trans e318
  refine ⟨_, (e318.own a1).cell, ⟨_, (e318.own a2).cell, ?_⟩⟩
  refine c_span fun s19 e19 => ?_
  try simp only [TUP_mk, AGG_mk, HD_mk, NL_mk, TYI_mk, TYB_mk, TYP_mk, TYL_mk, TYS_mk, TYM_mk, SO_mk, NX_mk, endK_mk, endK_mk', add_0]
  refine ANDS_i ⟨_, ((e318.trans e19).own a1).cell, ⟨_, ((e318.trans e19).own a2).cell, rfl⟩⟩ ?_
  refine BR_tt rfl ?_
  unfold J_law07_alive_6
  refine BR_tt rfl ⟨_, ((e618.trans e19).own b1).cell, ⟨_, ((e618.trans e19).own b2).cell, ?_⟩⟩
  refine c_span fun s20 e20 => ?_
  try simp only [TUP_mk, AGG_mk, HD_mk, NL_mk, TYI_mk, TYB_mk, TYP_mk, TYL_mk, TYS_mk, TYM_mk, SO_mk, NX_mk, endK_mk, endK_mk', add_0]
  have e1920 := e19.trans e20
  refine ANDS_i ⟨_, ((e618.trans e1920).own b1).cell, ⟨_, ((e618.trans e1920).own b2).cell, rfl⟩⟩ ?_
  unfold J_law07_alive_5
  refine BR_tt rfl ?_
  unfold J_law07_alive_4
  refine BR_tt rfl ?_
  unfold J_law07_alive_3
  refine BR_tt rfl ?_
  unfold J_law07_alive_2
  refine BR_tt rfl ⟨_, ((e1418.trans e1920).own d1'').cell, ⟨_, ((e1418.trans e1920).own d2'').cell, ?_⟩⟩
  refine c_span fun s21 e21 => ?_
  try simp only [TUP_mk, AGG_mk, HD_mk, NL_mk, TYI_mk, TYB_mk, TYP_mk, TYL_mk, TYS_mk, TYM_mk, SO_mk, NX_mk, endK_mk, endK_mk', add_0]
  have e1921 := e1920.trans e21
  refine ANDS_i ⟨_, ((e1418.trans e1921).own d1'').cell, ⟨_, ((e1418.trans e1921).own d2'').cell, rfl⟩⟩ ?_
  unfold J_law07_alive_1
  refine BR_tt rfl ⟨_, ((e1418.trans e1921).own g1').cell, ⟨_, ((e1418.trans e1921).own g2').cell, ?_⟩⟩
  refine c_span fun s22 e22 => ?_
  try simp only [TUP_mk, AGG_mk, HD_mk, NL_mk, TYI_mk, TYB_mk, TYP_mk, TYL_mk, TYS_mk, TYM_mk, SO_mk, NX_mk, endK_mk, endK_mk', add_0]
  have e1922 := e1921.trans e22
  refine ANDS_i ⟨_, ((e1418.trans e1922).own g1').cell, ⟨_, ((e1418.trans e1922).own g2').cell, rfl⟩⟩ ?_
  unfold J_law07_alive_0
  refine BR_tt rfl (BR_tt rfl (BR_tt rfl (BR_tt rfl (BR_tt rfl ?_))))
  exact h s22 (ea.trans e1922)
end
end Go.Proofs.Ytknpmijgdfeliaa.G

/- More of the functions' shallow texts, by gen.py. -/
set_option linter.unusedVariables false
set_option maxRecDepth 100000
namespace Go.Proofs.Ytknpmijgdfeliaa.G
open Go.V
def an_25 : Nat → Ann := fun b => match b with
  | 0 => { ms := [3, 12], ks := [.l, .i .i64], us := [0, 2, 4, 11, 155], rt := false, ex := [] }
  | 2 => { ms := [4, 59], ks := [.l, .i .i64], us := [0, 2, 3, 58, 155], rt := false, ex := [] }
  | 4 => { ms := [78], ks := [.i .i64], us := [0, 2, 3, 4, 77, 155], rt := false, ex := [] }
  | 6 => { ms := [110], ks := [.i .i64], us := [0, 2, 3, 4, 109, 155], rt := false, ex := [] }
  | _ => {}
abbrev rv_25 : List ResultVar := [.cell 2 26, .tmp 3, .tmp 4]
abbrev rs_25 : List Nat := [155, 2, 3, 4]
def L_law07_made_0 (W : World) (R : Ending → Hp → Prop) (zv0 : Value) (za1 : Addr) (zn2 : Int) (x6 : Option Addr) (l7 : Nat) (c8 : Nat) (n9 : Int) : Hp → Prop :=
  LOOPN [.l, .i .i64] (fun ys next s => ∀ j : Tm, vc Pg W 155 rs_25 an_25 false (sub (bodyOf Try.f25) [1, 0, 1, 0, 0]) 0 (KLoop [3, 12] [0, 2, 4, 11, 155] [zv0, (.pointer (some za1)), (.slice none 0 0), (.int .i64 zn2), (.tuple #[])] next (KBlk 0 (KS Pg W 155 rs_25 an_25 false (sub (bodyOf Try.f25) [1, 1]) 0 (fin Pg W 155 rv_25 R)))) (known [3, 12] ys (known [0, 2, 4, 11, 155] [zv0, (.pointer (some za1)), (.slice none 0 0), (.int .i64 zn2), (.tuple #[])] j)) s) [(.slice x6 l7 c8), (.int .i64 n9)]
def L_law07_made_1 (W : World) (R : Ending → Hp → Prop) (zv0 : Value) (za1 : Addr) (zp2 : Option Addr) (zl3 : Nat) (zl4 : Nat) (zn5 : Int) (x103 : Option Addr) (l104 : Nat) (c105 : Nat) (n106 : Int) : Hp → Prop :=
  LOOPN [.l, .i .i64] (fun ys next s => ∀ j : Tm, vc Pg W 155 rs_25 an_25 false (sub (bodyOf Try.f25) [1, 1, 1, 0, 1, 0, 0]) 2 (KLoop [4, 59] [0, 2, 3, 58, 155] [zv0, (.pointer (some za1)), (.slice zp2 zl3 zl4), (.int .i64 zn5), (.tuple #[])] next (KBlk 2 (KS Pg W 155 rs_25 an_25 false (sub (bodyOf Try.f25) [1, 1, 1, 1]) 0 (fin Pg W 155 rv_25 R)))) (known [4, 59] ys (known [0, 2, 3, 58, 155] [zv0, (.pointer (some za1)), (.slice zp2 zl3 zl4), (.int .i64 zn5), (.tuple #[])] j)) s) [(.slice x103 l104 c105), (.int .i64 n106)]
def L_law07_made_2 (W : World) (R : Ending → Hp → Prop) (zv0 : Value) (za1 : Addr) (zp2 : Option Addr) (zl3 : Nat) (zl4 : Nat) (zp5 : Option Addr) (zl6 : Nat) (zl7 : Nat) (zn8 : Int) (n141 : Int) : Hp → Prop :=
  LOOPN [.i .i64] (fun ys next s => ∀ j : Tm, vc Pg W 155 rs_25 an_25 false (sub (bodyOf Try.f25) [1, 1, 1, 1, 1, 0, 1, 0, 1, 0, 0]) 4 (KLoop [78] [0, 2, 3, 4, 77, 155] [zv0, (.pointer (some za1)), (.slice zp2 zl3 zl4), (.slice zp5 zl6 zl7), (.int .i64 zn8), (.tuple #[])] next (KBlk 4 (KS Pg W 155 rs_25 an_25 false (sub (bodyOf Try.f25) [1, 1, 1, 1, 1, 1]) 0 (fin Pg W 155 rv_25 R)))) (known [78] ys (known [0, 2, 3, 4, 77, 155] [zv0, (.pointer (some za1)), (.slice zp2 zl3 zl4), (.slice zp5 zl6 zl7), (.int .i64 zn8), (.tuple #[])] j)) s) [(.int .i64 n141)]
def L_law07_made_3 (W : World) (R : Ending → Hp → Prop) (zv0 : Value) (za1 : Addr) (zp2 : Option Addr) (zl3 : Nat) (zl4 : Nat) (zp5 : Option Addr) (zl6 : Nat) (zl7 : Nat) (zn8 : Int) (n173 : Int) : Hp → Prop :=
  LOOPN [.i .i64] (fun ys next s => ∀ j : Tm, vc Pg W 155 rs_25 an_25 false (sub (bodyOf Try.f25) [1, 1, 1, 1, 1, 1, 0, 1, 0, 0]) 6 (KLoop [110] [0, 2, 3, 4, 109, 155] [zv0, (.pointer (some za1)), (.slice zp2 zl3 zl4), (.slice zp5 zl6 zl7), (.int .i64 zn8), (.tuple #[])] next (KBlk 6 (KS Pg W 155 rs_25 an_25 false (sub (bodyOf Try.f25) [1, 1, 1, 1, 1, 1, 1]) 0 (fin Pg W 155 rv_25 R)))) (known [110] ys (known [0, 2, 3, 4, 109, 155] [zv0, (.pointer (some za1)), (.slice zp2 zl3 zl4), (.slice zp5 zl6 zl7), (.int .i64 zn8), (.tuple #[])] j)) s) [(.int .i64 n173)]
def J_law07_made_0 (W : World) (R : Ending → Hp → Prop) (zv0 : Value) (za1 : Addr) (zp2 : Option Addr) (zl3 : Nat) (zl4 : Nat) (zp5 : Option Addr) (zl6 : Nat) (zl7 : Nat) (zn8 : Int) (nx3 : List Value → Hp → Prop) (n173 : Int) : Hp → Prop :=
  NX [zv0, (.pointer (some za1)), (.slice zp2 zl3 zl4), (.slice zp5 zl6 zl7), (.int .i64 zn8), (.tuple #[])] [zv0, (.pointer (some za1)), (.slice zp2 zl3 zl4), (.slice zp5 zl6 zl7), (.int .i64 zn8), (.tuple #[])] (nx3 [(.int .i64 (IntKind.wrap .i64 (n173 + 1)))])
def B_law07_made_0 (W : World) (R : Ending → Hp → Prop) (zv0 : Value) (za1 : Addr) (zn2 : Int) (x6 : Option Addr) (l7 : Nat) (c8 : Nat) (n9 : Int) (nx0 : List Value → Hp → Prop) : Hp → Prop :=
  BR (decide (n9 < zn2))
    (CALLV Pg W zv0 [(.int .i64 900)]
      (fun v10 => TYI .i64 v10 fun n12 =>
        CALLV Pg W zv0 [(.int .i64 100)]
          (fun v13 => TYI .i64 v13 fun n15 =>
            NEWZ Pg 55 fun B16 =>
              WR (Addr.add ⟨B16, 0, none⟩ 0) (.int .i64 (IntKind.wrap .i64 (20 + n12))) <|
                WR (Addr.add ⟨B16, 0, none⟩ 1) (.int .i64 (IntKind.wrap .i64 (950 + n15))) <|
                  RDI .i64 (Addr.add ⟨B16, 0, none⟩ 0) fun n17 =>
                    RDI .i64 (Addr.add ⟨B16, 0, none⟩ 1) fun n18 =>
                      NEW 55 [(.int .i64 n17), (.int .i64 n18)] fun B19 =>
                        APP Pg 55 2 x6 l7 c8 (some ⟨B19, 0, none⟩) 1 fun x20 l21 c22 =>
                          RDL (Addr.add za1 0) fun x23 l24 c25 =>
                            RDI .i64 (Addr.add ⟨B16, 0, none⟩ 0) fun n26 =>
                              RDI .i64 (Addr.add ⟨B16, 0, none⟩ 0) fun n27 =>
                                RDI .i64 (Addr.add ⟨B16, 0, none⟩ 1) fun n28 =>
                                  RDI .i64 (Addr.add ⟨B16, 0, none⟩ 1) fun n29 =>
                                    CALLV Pg W zv0 [(.int .i64 2)]
                                      (fun v30 => TYI .i64 v30 fun n32 =>
                                        ANDS (RDI .i64 (Addr.add ⟨B16, 0, none⟩ 1) fun n33 =>
                                          fun _ => ((.int .i64 n33) : Value) = (.int .i64 n29)) <|
                                          ANDS (RDI .i64 (Addr.add ⟨B16, 0, none⟩ 1) fun n34 =>
                                            fun _ => ((.int .i64 n34) : Value) = (.int .i64 n28)) <|
                                            ANDS (RDI .i64 (Addr.add ⟨B16, 0, none⟩ 0) fun n35 =>
                                              fun _ => ((.int .i64 n35) : Value) = (.int .i64 n27)) <|
                                              ANDS (RDI .i64 (Addr.add ⟨B16, 0, none⟩ 0) fun n36 =>
                                                fun _ => ((.int .i64 n36) : Value) = (.int .i64 n26)) <|
                                                ANDS (RDL (Addr.add za1 0) fun x37 l38 c39 =>
                                                  fun _ => ((.slice x37 l38 c39) : Value) = (.slice x23 l24 c25)) <|
                                                  CALLV Pg W zv0 [(.int .i64 2)]
                                                    (fun v40 => TYI .i64 v40 fun n42 =>
                                                      ANDS (RDI .i64 (Addr.add ⟨B16, 0, none⟩ 1) fun n43 =>
                                                        fun _ => ((.int .i64 n43) : Value) = (.int .i64 n29)) <|
                                                        ANDS (RDI .i64 (Addr.add ⟨B16, 0, none⟩ 1) fun n44 =>
                                                          fun _ => ((.int .i64 n44) : Value) = (.int .i64 n28)) <|
                                                          ANDS (RDI .i64 (Addr.add ⟨B16, 0, none⟩ 0) fun n45 =>
                                                            fun _ => ((.int .i64 n45) : Value) = (.int .i64 n27)) <|
                                                            ANDS (RDI .i64 (Addr.add ⟨B16, 0, none⟩ 0) fun n46 =>
                                                              fun _ => ((.int .i64 n46) : Value) = (.int .i64 n26)) <|
                                                              ANDS (RDL (Addr.add za1 0) fun x47 l48 c49 =>
                                                                fun _ => ((.slice x47 l48 c49) : Value) = (.slice x23 l24 c25)) <|
                                                                CALL Pg W F_law07_span [(.int .i64 (IntKind.wrap .i64 (n26 - n32))), (.int .i64 (IntKind.wrap .i64 (n27 + n42)))]
                                                                  (fun v50 => AGG v50 fun q52 => HD q52 fun v53 r54 => TYI .i64 v53 fun n55 =>
                                                                    HD r54 fun v56 r57 => TYI .i64 v56 fun n58 =>
                                                                      NL r57 <|
                                                                        ANDS (RDI .i64 (Addr.add ⟨B16, 0, none⟩ 1) fun n59 =>
                                                                          fun _ => ((.int .i64 n59) : Value) = (.int .i64 n29)) <|
                                                                          ANDS (RDI .i64 (Addr.add ⟨B16, 0, none⟩ 1) fun n60 =>
                                                                            fun _ => ((.int .i64 n60) : Value) = (.int .i64 n28)) <|
                                                                            ANDS (RDL (Addr.add za1 0) fun x61 l62 c63 =>
                                                                              fun _ => ((.slice x61 l62 c63) : Value) = (.slice x23 l24 c25)) <|
                                                                              CALLV Pg W zv0 [(.int .i64 2)]
                                                                                (fun v64 => TYI .i64 v64 fun n66 =>
                                                                                  ANDS (RDI .i64 (Addr.add ⟨B16, 0, none⟩ 1) fun n67 =>
                                                                                    fun _ => ((.int .i64 n67) : Value) = (.int .i64 n29)) <|
                                                                                    ANDS (RDI .i64 (Addr.add ⟨B16, 0, none⟩ 1) fun n68 =>
                                                                                      fun _ => ((.int .i64 n68) : Value) = (.int .i64 n28)) <|
                                                                                      ANDS (RDL (Addr.add za1 0) fun x69 l70 c71 =>
                                                                                        fun _ => ((.slice x69 l70 c71) : Value) = (.slice x23 l24 c25)) <|
                                                                                        CALLV Pg W zv0 [(.int .i64 2)]
                                                                                          (fun v72 => TYI .i64 v72 fun n74 =>
                                                                                            ANDS (RDI .i64 (Addr.add ⟨B16, 0, none⟩ 1) fun n75 =>
                                                                                              fun _ => ((.int .i64 n75) : Value) = (.int .i64 n29)) <|
                                                                                              ANDS (RDI .i64 (Addr.add ⟨B16, 0, none⟩ 1) fun n76 =>
                                                                                                fun _ => ((.int .i64 n76) : Value) = (.int .i64 n28)) <|
                                                                                                ANDS (RDL (Addr.add za1 0) fun x77 l78 c79 =>
                                                                                                  fun _ => ((.slice x77 l78 c79) : Value) = (.slice x23 l24 c25)) <|
                                                                                                  CALL Pg W F_law07_span [(.int .i64 (IntKind.wrap .i64 (n28 - n66))), (.int .i64 (IntKind.wrap .i64 (n29 + n74)))]
                                                                                                    (fun v80 => AGG v80 fun q82 => HD q82 fun v83 r84 => TYI .i64 v83 fun n85 =>
                                                                                                      HD r84 fun v86 r87 => TYI .i64 v86 fun n88 =>
                                                                                                        NL r87 <|
                                                                                                          ANDS (RDL (Addr.add za1 0) fun x89 l90 c91 =>
                                                                                                            fun _ => ((.slice x89 l90 c91) : Value) = (.slice x23 l24 c25)) <|
                                                                                                            NEW 66 [(.int .i64 n55), (.int .i64 n58), (.int .i64 n85), (.int .i64 n88)] fun B92 =>
                                                                                                              ANDS (RDL (Addr.add za1 0) fun x93 l94 c95 =>
                                                                                                                fun _ => ((.slice x93 l94 c95) : Value) = (.slice x23 l24 c25)) <|
                                                                                                                APP Pg 66 4 x23 l24 c25 (some ⟨B92, 0, none⟩) 1 fun x96 l97 c98 =>
                                                                                                                  WR (Addr.add (Addr.add za1 0) 0) (.slice x96 l97 c98) <|
                                                                                                                    NX [zv0, (.pointer (some za1)), (.slice none 0 0), (.int .i64 zn2), (.tuple #[])] [zv0, (.pointer (some za1)), (.slice none 0 0), (.int .i64 zn2), (.tuple #[])] (nx0 [(.slice x20 l21 c22), (.int .i64 (IntKind.wrap .i64 (n9 + 1)))]))
                                                                                                      (fun e81 => R (.panicked e81)))
                                                                                            (fun e73 => R (.panicked e73)))
                                                                                  (fun e65 => R (.panicked e65)))
                                                                    (fun e51 => R (.panicked e51)))
                                                      (fun e41 => R (.panicked e41)))
                                        (fun e31 => R (.panicked e31)))
            (fun e14 => R (.panicked e14)))
        (fun e11 => R (.panicked e11)))
    (CALLV Pg W zv0 [(.int .i64 6)]
      (fun v99 => TYI .i64 v99 fun n101 =>
        WR (Addr.add (Addr.add za1 1) 0) (.int .i64 n101) <|
          RDI .i64 (Addr.add za1 1) fun n102 =>
            L_law07_made_1 W R zv0 za1 x6 l7 c8 n102 none 0 0 0)
        (fun e100 => R (.panicked e100)))
theorem B_law07_made_0_eq (W : World) (R : Ending → Hp → Prop) (zv0 : Value) (za1 : Addr) (zn2 : Int) (x6 : Option Addr) (l7 : Nat) (c8 : Nat) (n9 : Int) (nx0 : List Value → Hp → Prop) (j : Tm) : vc Pg W 155 rs_25 an_25 false (sub (bodyOf Try.f25) [1, 0, 1, 0, 0]) 0 (KLoop [3, 12] [0, 2, 4, 11, 155] [zv0, (.pointer (some za1)), (.slice none 0 0), (.int .i64 zn2), (.tuple #[])] nx0 (KBlk 0 (KS Pg W 155 rs_25 an_25 false (sub (bodyOf Try.f25) [1, 1]) 0 (fin Pg W 155 rv_25 R)))) (known [3, 12] [(.slice x6 l7 c8), (.int .i64 n9)] (known [0, 2, 4, 11, 155] [zv0, (.pointer (some za1)), (.slice none 0 0), (.int .i64 zn2), (.tuple #[])] j)) = B_law07_made_0 W R zv0 za1 zn2 x6 l7 c8 n9 nx0 := by kernel_rfl
def N_law07_made_0 (I : Option Addr → Nat → Nat → Int → Hp → Prop) (μ : Option Addr → Nat → Nat → Int → Hp → Nat) (x60 : Option Addr) (l70 : Nat) (c80 : Nat) (n90 : Int) (s : Hp) (vs : List Value) : Hp → Prop := fun s' => ∃ x6 l7 c8 n9, vs = [(.slice x6 l7 c8), (.int .i64 n9)] ∧ I x6 l7 c8 n9 s' ∧ μ x6 l7 c8 n9 s' < μ x60 l70 c80 n90 s
theorem L_law07_made_0_rule (W : World) (R : Ending → Hp → Prop) (zv0 : Value) (za1 : Addr) (zn2 : Int) (I : Option Addr → Nat → Nat → Int → Hp → Prop) (μ : Option Addr → Nat → Nat → Int → Hp → Nat) (x60 : Option Addr) (l70 : Nat) (c80 : Nat) (n90 : Int) (s : Hp) (h0 : I x60 l70 c80 n90 s)
    (hr : ∀ (x6 : Option Addr) (l7 : Nat) (c8 : Nat) (n9 : Int) (s : Hp), I x6 l7 c8 n9 s → B_law07_made_0 W R zv0 za1 zn2 x6 l7 c8 n9 (fun vs => N_law07_made_0 I μ x6 l7 c8 n9 s vs) s) : L_law07_made_0 W R zv0 za1 zn2 x60 l70 c80 n90 s := by
  refine ⟨fun vs s => ∃ x6 l7 c8 n9, vs = [(.slice x6 l7 c8), (.int .i64 n9)] ∧ I x6 l7 c8 n9 s, fun vs s => (match vs with | [.slice x6 l7 c8, .int _ n9] => μ x6 l7 c8 n9 s | _ => 0), ⟨⟨⟨_, _, _, rfl⟩, ⟨⟨_, rfl⟩, trivial⟩⟩, ⟨_, _, _, _, rfl, h0⟩⟩, ?_⟩
  intro x6 l7 c8 n9 s hI j
  obtain ⟨x6', l7', c8', n9', hy, hI⟩ := hI
  have hI' : I x6 l7 c8 n9 s := by cases hy; exact hI
  have hh := hr x6 l7 c8 n9 s hI'
  rw [← B_law07_made_0_eq W R zv0 za1 zn2 x6 l7 c8 n9 _ j] at hh
  refine vc_mono ?_ _ _ hh
  exact KLoop_mono (fun vs s' h => by obtain ⟨x61, l71, c81, n91, rfl, h1, h2⟩ := h; exact ⟨⟨⟨_, _, _, rfl⟩, ⟨⟨_, rfl⟩, trivial⟩⟩, ⟨_, _, _, _, rfl, h1⟩, h2⟩)
def B_law07_made_1 (W : World) (R : Ending → Hp → Prop) (zv0 : Value) (za1 : Addr) (zp2 : Option Addr) (zl3 : Nat) (zl4 : Nat) (zn5 : Int) (x103 : Option Addr) (l104 : Nat) (c105 : Nat) (n106 : Int) (nx1 : List Value → Hp → Prop) : Hp → Prop :=
  BR (decide (n106 < zn5))
    (CALLV Pg W zv0 [(.int .i64 601)]
      (fun v107 => TYI .i64 v107 fun n109 =>
        NEW 3 [(.int .i64 n109)] fun B110 =>
          APP Pg 3 1 x103 l104 c105 (some ⟨B110, 0, none⟩) 1 fun x111 l112 c113 =>
            NX [zv0, (.pointer (some za1)), (.slice zp2 zl3 zl4), (.int .i64 zn5), (.tuple #[])] [zv0, (.pointer (some za1)), (.slice zp2 zl3 zl4), (.int .i64 zn5), (.tuple #[])] (nx1 [(.slice x111 l112 c113), (.int .i64 (IntKind.wrap .i64 (n106 + 1)))]))
        (fun e108 => R (.panicked e108)))
    (RDI .i64 (Addr.add za1 1) fun n114 =>
      BR (n114 == 0)
        (RDL (Addr.add za1 0) fun x115 l116 c117 =>
          RDI .i64 (Addr.add za1 1) fun n118 =>
            RDL (Addr.add za1 2) fun x119 l120 c121 =>
              RDL (Addr.add za1 3) fun x122 l123 c124 =>
                WR (Addr.add za1 0) (.slice x115 l116 c117) <|
                  WR (Addr.add za1 1) (.int .i64 n118) <|
                    WR (Addr.add za1 2) (.slice x119 l120 c121) <|
                      WR (Addr.add za1 3) (.slice x122 l123 c124) <|
                        RDL (Addr.add za1 0) fun x125 l126 c127 =>
                          RDI .i64 (Addr.add za1 1) fun n128 =>
                            RDL (Addr.add za1 2) fun x129 l130 c131 =>
                              RDL (Addr.add za1 3) fun x132 l133 c134 =>
                                R (.returned (.tuple #[(.agg #[(.slice x125 l126 c127), (.int .i64 n128), (.slice x129 l130 c131), (.slice x132 l133 c134)]), (.slice zp2 zl3 zl4), (.slice x103 l104 c105)])))
        (BR (decide ((↑zl3 : Int) > 0))
          (CALLV Pg W zv0 [(.int .i64 9)]
            (fun v135 => TYI .i64 v135 fun n137 =>
              L_law07_made_2 W R zv0 za1 zp2 zl3 zl4 x103 l104 c105 n137 0)
              (fun e136 => R (.panicked e136)))
          (CALLV Pg W zv0 [(.int .i64 6)]
            (fun v138 => TYI .i64 v138 fun n140 =>
              L_law07_made_3 W R zv0 za1 zp2 zl3 zl4 x103 l104 c105 n140 0)
              (fun e139 => R (.panicked e139)))))
theorem B_law07_made_1_eq (W : World) (R : Ending → Hp → Prop) (zv0 : Value) (za1 : Addr) (zp2 : Option Addr) (zl3 : Nat) (zl4 : Nat) (zn5 : Int) (x103 : Option Addr) (l104 : Nat) (c105 : Nat) (n106 : Int) (nx1 : List Value → Hp → Prop) (j : Tm) : vc Pg W 155 rs_25 an_25 false (sub (bodyOf Try.f25) [1, 1, 1, 0, 1, 0, 0]) 2 (KLoop [4, 59] [0, 2, 3, 58, 155] [zv0, (.pointer (some za1)), (.slice zp2 zl3 zl4), (.int .i64 zn5), (.tuple #[])] nx1 (KBlk 2 (KS Pg W 155 rs_25 an_25 false (sub (bodyOf Try.f25) [1, 1, 1, 1]) 0 (fin Pg W 155 rv_25 R)))) (known [4, 59] [(.slice x103 l104 c105), (.int .i64 n106)] (known [0, 2, 3, 58, 155] [zv0, (.pointer (some za1)), (.slice zp2 zl3 zl4), (.int .i64 zn5), (.tuple #[])] j)) = B_law07_made_1 W R zv0 za1 zp2 zl3 zl4 zn5 x103 l104 c105 n106 nx1 := by kernel_rfl
def N_law07_made_1 (I : Option Addr → Nat → Nat → Int → Hp → Prop) (μ : Option Addr → Nat → Nat → Int → Hp → Nat) (x1030 : Option Addr) (l1040 : Nat) (c1050 : Nat) (n1060 : Int) (s : Hp) (vs : List Value) : Hp → Prop := fun s' => ∃ x103 l104 c105 n106, vs = [(.slice x103 l104 c105), (.int .i64 n106)] ∧ I x103 l104 c105 n106 s' ∧ μ x103 l104 c105 n106 s' < μ x1030 l1040 c1050 n1060 s
theorem L_law07_made_1_rule (W : World) (R : Ending → Hp → Prop) (zv0 : Value) (za1 : Addr) (zp2 : Option Addr) (zl3 : Nat) (zl4 : Nat) (zn5 : Int) (I : Option Addr → Nat → Nat → Int → Hp → Prop) (μ : Option Addr → Nat → Nat → Int → Hp → Nat) (x1030 : Option Addr) (l1040 : Nat) (c1050 : Nat) (n1060 : Int) (s : Hp) (h0 : I x1030 l1040 c1050 n1060 s)
    (hr : ∀ (x103 : Option Addr) (l104 : Nat) (c105 : Nat) (n106 : Int) (s : Hp), I x103 l104 c105 n106 s → B_law07_made_1 W R zv0 za1 zp2 zl3 zl4 zn5 x103 l104 c105 n106 (fun vs => N_law07_made_1 I μ x103 l104 c105 n106 s vs) s) : L_law07_made_1 W R zv0 za1 zp2 zl3 zl4 zn5 x1030 l1040 c1050 n1060 s := by
  refine ⟨fun vs s => ∃ x103 l104 c105 n106, vs = [(.slice x103 l104 c105), (.int .i64 n106)] ∧ I x103 l104 c105 n106 s, fun vs s => (match vs with | [.slice x103 l104 c105, .int _ n106] => μ x103 l104 c105 n106 s | _ => 0), ⟨⟨⟨_, _, _, rfl⟩, ⟨⟨_, rfl⟩, trivial⟩⟩, ⟨_, _, _, _, rfl, h0⟩⟩, ?_⟩
  intro x103 l104 c105 n106 s hI j
  obtain ⟨x103', l104', c105', n106', hy, hI⟩ := hI
  have hI' : I x103 l104 c105 n106 s := by cases hy; exact hI
  have hh := hr x103 l104 c105 n106 s hI'
  rw [← B_law07_made_1_eq W R zv0 za1 zp2 zl3 zl4 zn5 x103 l104 c105 n106 _ j] at hh
  refine vc_mono ?_ _ _ hh
  exact KLoop_mono (fun vs s' h => by obtain ⟨x1031, l1041, c1051, n1061, rfl, h1, h2⟩ := h; exact ⟨⟨⟨_, _, _, rfl⟩, ⟨⟨_, rfl⟩, trivial⟩⟩, ⟨_, _, _, _, rfl, h1⟩, h2⟩)
def B_law07_made_2 (W : World) (R : Ending → Hp → Prop) (zv0 : Value) (za1 : Addr) (zp2 : Option Addr) (zl3 : Nat) (zl4 : Nat) (zp5 : Option Addr) (zl6 : Nat) (zl7 : Nat) (zn8 : Int) (n141 : Int) (nx2 : List Value → Hp → Prop) : Hp → Prop :=
  BR (decide (n141 < zn8))
    (RDI .i64 (Addr.add za1 1) fun n142 =>
      CALLV Pg W zv0 [(.int .i64 n142)]
        (fun v143 => TYI .i64 v143 fun n145 =>
          CALLV Pg W zv0 [(.int .i64 (↑zl3 : Int))]
            (fun v146 => TYI .i64 v146 fun n148 =>
              NEWZ Pg 61 fun B149 =>
                WR (Addr.add ⟨B149, 0, none⟩ 0) (.int .i64 n145) <|
                  WR (Addr.add ⟨B149, 0, none⟩ 1) (.int .i64 n148) <|
                    WR (Addr.add ⟨B149, 0, none⟩ 2) (.int .i64 0) <|
                      RDI .i64 (Addr.add ⟨B149, 0, none⟩ 1) fun n150 =>
                        IXS zp2 zl3 n150 2 fun a151 =>
                          RDI .i64 (Addr.add a151 0) fun n152 =>
                            RDI .i64 (Addr.add a151 1) fun n153 =>
                              RDI .i64 (Addr.add ⟨B149, 0, none⟩ 0) fun n154 =>
                                IXS zp5 zl6 n154 1 fun a155 =>
                                  RDI .i64 a155 fun n156 =>
                                    CALL Pg W F_ref07_Show [(.agg #[(.int .i64 n152), (.int .i64 n153)]), (.int .i64 n156)]
                                      (fun v157 => TYI .i64 v157 fun n159 =>
                                        WR (Addr.add (Addr.add ⟨B149, 0, none⟩ 2) 0) (.int .i64 n159) <|
                                          RDL (Addr.add za1 2) fun x160 l161 c162 =>
                                            RDI .i64 (Addr.add ⟨B149, 0, none⟩ 0) fun n163 =>
                                              RDI .i64 (Addr.add ⟨B149, 0, none⟩ 1) fun n164 =>
                                                RDI .i64 (Addr.add ⟨B149, 0, none⟩ 2) fun n165 =>
                                                  NEW 61 [(.int .i64 n163), (.int .i64 n164), (.int .i64 n165)] fun B166 =>
                                                    APP Pg 61 3 x160 l161 c162 (some ⟨B166, 0, none⟩) 1 fun x167 l168 c169 =>
                                                      WR (Addr.add (Addr.add za1 2) 0) (.slice x167 l168 c169) <|
                                                        NX [zv0, (.pointer (some za1)), (.slice zp2 zl3 zl4), (.slice zp5 zl6 zl7), (.int .i64 zn8), (.tuple #[])] [zv0, (.pointer (some za1)), (.slice zp2 zl3 zl4), (.slice zp5 zl6 zl7), (.int .i64 zn8), (.tuple #[])] (nx2 [(.int .i64 (IntKind.wrap .i64 (n141 + 1)))]))
                                        (fun e158 => R (.panicked e158)))
              (fun e147 => R (.panicked e147)))
          (fun e144 => R (.panicked e144)))
    (CALLV Pg W zv0 [(.int .i64 6)]
      (fun v170 => TYI .i64 v170 fun n172 =>
        L_law07_made_3 W R zv0 za1 zp2 zl3 zl4 zp5 zl6 zl7 n172 0)
        (fun e171 => R (.panicked e171)))
theorem B_law07_made_2_eq (W : World) (R : Ending → Hp → Prop) (zv0 : Value) (za1 : Addr) (zp2 : Option Addr) (zl3 : Nat) (zl4 : Nat) (zp5 : Option Addr) (zl6 : Nat) (zl7 : Nat) (zn8 : Int) (n141 : Int) (nx2 : List Value → Hp → Prop) (j : Tm) : vc Pg W 155 rs_25 an_25 false (sub (bodyOf Try.f25) [1, 1, 1, 1, 1, 0, 1, 0, 1, 0, 0]) 4 (KLoop [78] [0, 2, 3, 4, 77, 155] [zv0, (.pointer (some za1)), (.slice zp2 zl3 zl4), (.slice zp5 zl6 zl7), (.int .i64 zn8), (.tuple #[])] nx2 (KBlk 4 (KS Pg W 155 rs_25 an_25 false (sub (bodyOf Try.f25) [1, 1, 1, 1, 1, 1]) 0 (fin Pg W 155 rv_25 R)))) (known [78] [(.int .i64 n141)] (known [0, 2, 3, 4, 77, 155] [zv0, (.pointer (some za1)), (.slice zp2 zl3 zl4), (.slice zp5 zl6 zl7), (.int .i64 zn8), (.tuple #[])] j)) = B_law07_made_2 W R zv0 za1 zp2 zl3 zl4 zp5 zl6 zl7 zn8 n141 nx2 := by kernel_rfl
def N_law07_made_2 (I : Int → Hp → Prop) (μ : Int → Hp → Nat) (n1410 : Int) (s : Hp) (vs : List Value) : Hp → Prop := fun s' => ∃ n141, vs = [(.int .i64 n141)] ∧ I n141 s' ∧ μ n141 s' < μ n1410 s
theorem L_law07_made_2_rule (W : World) (R : Ending → Hp → Prop) (zv0 : Value) (za1 : Addr) (zp2 : Option Addr) (zl3 : Nat) (zl4 : Nat) (zp5 : Option Addr) (zl6 : Nat) (zl7 : Nat) (zn8 : Int) (I : Int → Hp → Prop) (μ : Int → Hp → Nat) (n1410 : Int) (s : Hp) (h0 : I n1410 s)
    (hr : ∀ (n141 : Int) (s : Hp), I n141 s → B_law07_made_2 W R zv0 za1 zp2 zl3 zl4 zp5 zl6 zl7 zn8 n141 (fun vs => N_law07_made_2 I μ n141 s vs) s) : L_law07_made_2 W R zv0 za1 zp2 zl3 zl4 zp5 zl6 zl7 zn8 n1410 s := by
  refine ⟨fun vs s => ∃ n141, vs = [(.int .i64 n141)] ∧ I n141 s, fun vs s => (match vs with | [.int _ n141] => μ n141 s | _ => 0), ⟨⟨⟨_, rfl⟩, trivial⟩, ⟨_, rfl, h0⟩⟩, ?_⟩
  intro n141 s hI j
  obtain ⟨n141', hy, hI⟩ := hI
  have hI' : I n141 s := by cases hy; exact hI
  have hh := hr n141 s hI'
  rw [← B_law07_made_2_eq W R zv0 za1 zp2 zl3 zl4 zp5 zl6 zl7 zn8 n141 _ j] at hh
  refine vc_mono ?_ _ _ hh
  exact KLoop_mono (fun vs s' h => by obtain ⟨n1411, rfl, h1, h2⟩ := h; exact ⟨⟨⟨_, rfl⟩, trivial⟩, ⟨_, rfl, h1⟩, h2⟩)
def B_law07_made_3 (W : World) (R : Ending → Hp → Prop) (zv0 : Value) (za1 : Addr) (zp2 : Option Addr) (zl3 : Nat) (zl4 : Nat) (zp5 : Option Addr) (zl6 : Nat) (zl7 : Nat) (zn8 : Int) (n173 : Int) (nx3 : List Value → Hp → Prop) : Hp → Prop :=
  BR (decide (n173 < zn8))
    (RDI .i64 (Addr.add za1 1) fun n174 =>
      RDI .i64 (Addr.add za1 1) fun n175 =>
        CALLV Pg W zv0 [(.int .i64 n174)]
          (fun v176 => TYI .i64 v176 fun n178 =>
            ANDS (RDI .i64 (Addr.add za1 1) fun n179 =>
              fun _ => ((.int .i64 n179) : Value) = (.int .i64 n175)) <|
              CALLV Pg W zv0 [(.int .i64 n175)]
                (fun v180 => TYI .i64 v180 fun n182 =>
                  BR (n178 == n182)
                    (J_law07_made_0 W R zv0 za1 zp2 zl3 zl4 zp5 zl6 zl7 zn8 nx3 n173)
                    (IXS zp5 zl6 n182 1 fun a183 =>
                      RDI .i64 a183 fun n184 =>
                        IXS zp5 zl6 n178 1 fun a185 =>
                          RDI .i64 a185 fun n186 =>
                            RDL (Addr.add za1 3) fun x187 l188 c189 =>
                              CALLV Pg W zv0 [(.int .i64 9)]
                                (fun v190 => TYI .i64 v190 fun n192 =>
                                  ANDS (RDL (Addr.add za1 3) fun x193 l194 c195 =>
                                    fun _ => ((.slice x193 l194 c195) : Value) = (.slice x187 l188 c189)) <|
                                    CONJ [
                                      ANDS (RDL (Addr.add za1 3) fun x196 l197 c198 =>
                                        fun _ => ((.slice x196 l197 c198) : Value) = (.slice x187 l188 c189)) <|
                                        CALLV Pg W zv0 [(.int .i64 9)]
                                          (fun v199 => TYI .i64 v199 fun n201 =>
                                            ANDS (RDL (Addr.add za1 3) fun x202 l203 c204 =>
                                              fun _ => ((.slice x202 l203 c204) : Value) = (.slice x187 l188 c189)) <|
                                              ANDS (RDL (Addr.add za1 3) fun x205 l206 c207 =>
                                                fun _ => ((.slice x205 l206 c207) : Value) = (.slice x187 l188 c189)) <|
                                                CALL Pg W F_law07_span [(.int .i64 (if (IntKind.wrap .i64 ((IntKind.wrap .i64 (n184 - n186)) - n192)) > (-600) then (IntKind.wrap .i64 ((IntKind.wrap .i64 (n184 - n186)) - n192)) else (-600))), (.int .i64 (if (IntKind.wrap .i64 ((IntKind.wrap .i64 (n184 - n186)) + n201)) < 600 then (IntKind.wrap .i64 ((IntKind.wrap .i64 (n184 - n186)) + n201)) else 600))]
                                                  (fun v208 => AGG v208 fun q210 => HD q210 fun v211 r212 => TYI .i64 v211 fun n213 =>
                                                    HD r212 fun v214 r215 => TYI .i64 v214 fun n216 =>
                                                      NL r215 <|
                                                        ANDS (RDL (Addr.add za1 3) fun x217 l218 c219 =>
                                                          fun _ => ((.slice x217 l218 c219) : Value) = (.slice x187 l188 c189)) <|
                                                          NEW 63 [(.int .i64 n178), (.int .i64 n182), (.int .i64 n213), (.int .i64 n216)] fun B220 =>
                                                            ANDS (RDL (Addr.add za1 3) fun x221 l222 c223 =>
                                                              fun _ => ((.slice x221 l222 c223) : Value) = (.slice x187 l188 c189)) <|
                                                              APP Pg 63 4 x187 l188 c189 (some ⟨B220, 0, none⟩) 1 fun x224 l225 c226 =>
                                                                WR (Addr.add (Addr.add za1 3) 0) (.slice x224 l225 c226) <|
                                                                  J_law07_made_0 W R zv0 za1 zp2 zl3 zl4 zp5 zl6 zl7 zn8 nx3 n173)
                                                    (fun e209 => R (.panicked e209)))
                                            (fun e200 => R (.panicked e200)),
                                      CALLV Pg W zv0 [(.int .i64 9)]
                                        (fun v227 => TYI .i64 v227 fun n229 =>
                                          ANDS (RDL (Addr.add za1 3) fun x230 l231 c232 =>
                                            fun _ => ((.slice x230 l231 c232) : Value) = (.slice x187 l188 c189)) <|
                                            CONJ [
                                              ANDS (RDL (Addr.add za1 3) fun x233 l234 c235 =>
                                                fun _ => ((.slice x233 l234 c235) : Value) = (.slice x187 l188 c189)) <|
                                                ANDS (RDL (Addr.add za1 3) fun x236 l237 c238 =>
                                                  fun _ => ((.slice x236 l237 c238) : Value) = (.slice x187 l188 c189)) <|
                                                  CALL Pg W F_law07_span [(.int .i64 (if (IntKind.wrap .i64 ((IntKind.wrap .i64 (n184 - n186)) - n192)) > (-600) then (IntKind.wrap .i64 ((IntKind.wrap .i64 (n184 - n186)) - n192)) else (-600))), (.int .i64 (if (IntKind.wrap .i64 ((IntKind.wrap .i64 (n184 - n186)) + n229)) < 600 then (IntKind.wrap .i64 ((IntKind.wrap .i64 (n184 - n186)) + n229)) else 600))]
                                                    (fun v239 => AGG v239 fun q241 => HD q241 fun v242 r243 => TYI .i64 v242 fun n244 =>
                                                      HD r243 fun v245 r246 => TYI .i64 v245 fun n247 =>
                                                        NL r246 <|
                                                          ANDS (RDL (Addr.add za1 3) fun x248 l249 c250 =>
                                                            fun _ => ((.slice x248 l249 c250) : Value) = (.slice x187 l188 c189)) <|
                                                            NEW 63 [(.int .i64 n178), (.int .i64 n182), (.int .i64 n244), (.int .i64 n247)] fun B251 =>
                                                              ANDS (RDL (Addr.add za1 3) fun x252 l253 c254 =>
                                                                fun _ => ((.slice x252 l253 c254) : Value) = (.slice x187 l188 c189)) <|
                                                                APP Pg 63 4 x187 l188 c189 (some ⟨B251, 0, none⟩) 1 fun x255 l256 c257 =>
                                                                  WR (Addr.add (Addr.add za1 3) 0) (.slice x255 l256 c257) <|
                                                                    J_law07_made_0 W R zv0 za1 zp2 zl3 zl4 zp5 zl6 zl7 zn8 nx3 n173)
                                                      (fun e240 => R (.panicked e240)),
                                              ANDS (RDL (Addr.add za1 3) fun x258 l259 c260 =>
                                                fun _ => ((.slice x258 l259 c260) : Value) = (.slice x187 l188 c189)) <|
                                                ANDS (RDL (Addr.add za1 3) fun x261 l262 c263 =>
                                                  fun _ => ((.slice x261 l262 c263) : Value) = (.slice x187 l188 c189)) <|
                                                  CALL Pg W F_law07_span [(.int .i64 (if (IntKind.wrap .i64 ((IntKind.wrap .i64 (n184 - n186)) - n192)) > (-600) then (IntKind.wrap .i64 ((IntKind.wrap .i64 (n184 - n186)) - n192)) else (-600))), (.int .i64 (if (IntKind.wrap .i64 ((IntKind.wrap .i64 (n184 - n186)) + n229)) < 600 then (IntKind.wrap .i64 ((IntKind.wrap .i64 (n184 - n186)) + n229)) else 600))]
                                                    (fun v264 => AGG v264 fun q266 => HD q266 fun v267 r268 => TYI .i64 v267 fun n269 =>
                                                      HD r268 fun v270 r271 => TYI .i64 v270 fun n272 =>
                                                        NL r271 <|
                                                          ANDS (RDL (Addr.add za1 3) fun x273 l274 c275 =>
                                                            fun _ => ((.slice x273 l274 c275) : Value) = (.slice x187 l188 c189)) <|
                                                            NEW 63 [(.int .i64 n178), (.int .i64 n182), (.int .i64 n269), (.int .i64 n272)] fun B276 =>
                                                              ANDS (RDL (Addr.add za1 3) fun x277 l278 c279 =>
                                                                fun _ => ((.slice x277 l278 c279) : Value) = (.slice x187 l188 c189)) <|
                                                                APP Pg 63 4 x187 l188 c189 (some ⟨B276, 0, none⟩) 1 fun x280 l281 c282 =>
                                                                  WR (Addr.add (Addr.add za1 3) 0) (.slice x280 l281 c282) <|
                                                                    J_law07_made_0 W R zv0 za1 zp2 zl3 zl4 zp5 zl6 zl7 zn8 nx3 n173)
                                                      (fun e265 => R (.panicked e265))])
                                          (fun e228 => R (.panicked e228))])
                                  (fun e191 => R (.panicked e191))))
                  (fun e181 => R (.panicked e181)))
            (fun e177 => R (.panicked e177)))
    (RDL (Addr.add za1 0) fun x283 l284 c285 =>
      RDI .i64 (Addr.add za1 1) fun n286 =>
        RDL (Addr.add za1 2) fun x287 l288 c289 =>
          RDL (Addr.add za1 3) fun x290 l291 c292 =>
            WR (Addr.add za1 0) (.slice x283 l284 c285) <|
              WR (Addr.add za1 1) (.int .i64 n286) <|
                WR (Addr.add za1 2) (.slice x287 l288 c289) <|
                  WR (Addr.add za1 3) (.slice x290 l291 c292) <|
                    RDL (Addr.add za1 0) fun x293 l294 c295 =>
                      RDI .i64 (Addr.add za1 1) fun n296 =>
                        RDL (Addr.add za1 2) fun x297 l298 c299 =>
                          RDL (Addr.add za1 3) fun x300 l301 c302 =>
                            R (.returned (.tuple #[(.agg #[(.slice x293 l294 c295), (.int .i64 n296), (.slice x297 l298 c299), (.slice x300 l301 c302)]), (.slice zp2 zl3 zl4), (.slice zp5 zl6 zl7)])))
theorem B_law07_made_3_eq (W : World) (R : Ending → Hp → Prop) (zv0 : Value) (za1 : Addr) (zp2 : Option Addr) (zl3 : Nat) (zl4 : Nat) (zp5 : Option Addr) (zl6 : Nat) (zl7 : Nat) (zn8 : Int) (n173 : Int) (nx3 : List Value → Hp → Prop) (j : Tm) : vc Pg W 155 rs_25 an_25 false (sub (bodyOf Try.f25) [1, 1, 1, 1, 1, 1, 0, 1, 0, 0]) 6 (KLoop [110] [0, 2, 3, 4, 109, 155] [zv0, (.pointer (some za1)), (.slice zp2 zl3 zl4), (.slice zp5 zl6 zl7), (.int .i64 zn8), (.tuple #[])] nx3 (KBlk 6 (KS Pg W 155 rs_25 an_25 false (sub (bodyOf Try.f25) [1, 1, 1, 1, 1, 1, 1]) 0 (fin Pg W 155 rv_25 R)))) (known [110] [(.int .i64 n173)] (known [0, 2, 3, 4, 109, 155] [zv0, (.pointer (some za1)), (.slice zp2 zl3 zl4), (.slice zp5 zl6 zl7), (.int .i64 zn8), (.tuple #[])] j)) = B_law07_made_3 W R zv0 za1 zp2 zl3 zl4 zp5 zl6 zl7 zn8 n173 nx3 := by kernel_rfl
def N_law07_made_3 (I : Int → Hp → Prop) (μ : Int → Hp → Nat) (n1730 : Int) (s : Hp) (vs : List Value) : Hp → Prop := fun s' => ∃ n173, vs = [(.int .i64 n173)] ∧ I n173 s' ∧ μ n173 s' < μ n1730 s
theorem L_law07_made_3_rule (W : World) (R : Ending → Hp → Prop) (zv0 : Value) (za1 : Addr) (zp2 : Option Addr) (zl3 : Nat) (zl4 : Nat) (zp5 : Option Addr) (zl6 : Nat) (zl7 : Nat) (zn8 : Int) (I : Int → Hp → Prop) (μ : Int → Hp → Nat) (n1730 : Int) (s : Hp) (h0 : I n1730 s)
    (hr : ∀ (n173 : Int) (s : Hp), I n173 s → B_law07_made_3 W R zv0 za1 zp2 zl3 zl4 zp5 zl6 zl7 zn8 n173 (fun vs => N_law07_made_3 I μ n173 s vs) s) : L_law07_made_3 W R zv0 za1 zp2 zl3 zl4 zp5 zl6 zl7 zn8 n1730 s := by
  refine ⟨fun vs s => ∃ n173, vs = [(.int .i64 n173)] ∧ I n173 s, fun vs s => (match vs with | [.int _ n173] => μ n173 s | _ => 0), ⟨⟨⟨_, rfl⟩, trivial⟩, ⟨_, rfl, h0⟩⟩, ?_⟩
  intro n173 s hI j
  obtain ⟨n173', hy, hI⟩ := hI
  have hI' : I n173 s := by cases hy; exact hI
  have hh := hr n173 s hI'
  rw [← B_law07_made_3_eq W R zv0 za1 zp2 zl3 zl4 zp5 zl6 zl7 zn8 n173 _ j] at hh
  refine vc_mono ?_ _ _ hh
  exact KLoop_mono (fun vs s' h => by obtain ⟨n1731, rfl, h1, h2⟩ := h; exact ⟨⟨⟨_, rfl⟩, trivial⟩, ⟨_, rfl, h1⟩, h2⟩)
def T_law07_made (W : World) (v1 : Value) (R : Ending → Hp → Prop) : Hp → Prop :=
  NEWZ Pg 26 fun B2 =>
    CALLV Pg W v1 [(.int .i64 3)]
      (fun v3 => TYI .i64 v3 fun n5 =>
        L_law07_made_0 W R v1 ⟨B2, 0, none⟩ n5 none 0 0 0)
        (fun e4 => R (.panicked e4))
theorem T_law07_made_eq (W : World) (v1 : Value) (R : Ending → Hp → Prop) : vfun Pg W an_25 Try.f25 [v1] R = T_law07_made W v1 R := by kernel_rfl
theorem does_law07_made (W : World) (v1 : Value) (R : Ending → Hp → Prop) (s : Hp) (h : T_law07_made W v1 R s) : Does Pg W F_law07_made #[v1] s R :=
  does_of_vfun Pg W an_25 Try.func25 rfl (by kernel_rfl) (by rw [T_law07_made_eq]; exact h)
def an_26 : Nat → Ann := fun b => match b with
  | _ => {}
abbrev rv_26 : List ResultVar := [.tmp 2]
abbrev rs_26 : List Nat := [5, 2]
def T_law07_draws (W : World) (x1 : Option Addr) (l2 : Nat) (c3 : Nat) (R : Ending → Hp → Prop) : Hp → Prop :=
  NEW 47 [(.slice x1 l2 c3)] fun B4 =>
    NEWZ Pg 3 fun B5 =>
      WR (Addr.add ⟨B5, 0, none⟩ 0) (.int .i64 0) <|
        R (.returned (.func (.func 57) #[] #[(.pointer (some ⟨B5, 0, none⟩)), (.pointer (some ⟨B4, 0, none⟩))]))
theorem T_law07_draws_eq (W : World) (x1 : Option Addr) (l2 : Nat) (c3 : Nat) (R : Ending → Hp → Prop) : vfun Pg W an_26 Try.f26 [(.slice x1 l2 c3)] R = T_law07_draws W x1 l2 c3 R := by kernel_rfl
theorem does_law07_draws (W : World) (x1 : Option Addr) (l2 : Nat) (c3 : Nat) (R : Ending → Hp → Prop) (s : Hp) (h : T_law07_draws W x1 l2 c3 R s) : Does Pg W F_law07_draws #[(.slice x1 l2 c3)] s R :=
  does_of_vfun Pg W an_26 Try.func26 rfl (by kernel_rfl) (by rw [T_law07_draws_eq]; exact h)
def an_57 : Nat → Ann := fun b => match b with
  | _ => {}
abbrev rv_57 : List ResultVar := [.tmp 4]
abbrev rs_57 : List Nat := [20, 4]
def T_law07_draws_c1 (W : World) (n1 : Int) (a2 : Addr) (a3 : Addr) (R : Ending → Hp → Prop) : Hp → Prop :=
  RDI .i64 a2 fun n4 =>
    WR (Addr.add a2 0) (.int .i64 (IntKind.wrap .i64 (n4 + 1))) <|
      RDL a3 fun x5 l6 c7 =>
        RDI .i64 a2 fun n8 =>
          RDL a3 fun x9 l10 c11 =>
            NZI (↑l10 : Int) <|
              IXS x5 l6 (Int.tmod n8 (↑l10 : Int)) 1 fun a12 =>
                RDI .u16 a12 fun n13 =>
                  RDI .i64 a2 fun n14 =>
                    NZI n1 <|
                      R (.returned (.int .i64 (Int.tmod (IntKind.wrap .i64 ((IntKind.wrap .i64 n13) + (IntKind.wrap .i64 (53 * n14)))) n1)))
theorem T_law07_draws_c1_eq (W : World) (n1 : Int) (a2 : Addr) (a3 : Addr) (R : Ending → Hp → Prop) : vfun Pg W an_57 Try.f57 [(.int .i64 n1), (.pointer (some a2)), (.pointer (some a3))] R = T_law07_draws_c1 W n1 a2 a3 R := by kernel_rfl
theorem does_law07_draws_c1 (W : World) (n1 : Int) (a2 : Addr) (a3 : Addr) (R : Ending → Hp → Prop) (s : Hp) (h : T_law07_draws_c1 W n1 a2 a3 R s) : Does Pg W F_law07_draws_c1 #[(.int .i64 n1), (.pointer (some a2)), (.pointer (some a3))] s R :=
  does_of_vfun Pg W an_57 Try.func57 rfl (by kernel_rfl) (by rw [T_law07_draws_c1_eq]; exact h)
end Go.Proofs.Ytknpmijgdfeliaa.G

/- Clock: numbers that are drawn. -/
set_option linter.unusedSimpArgs false
set_option linter.unusedVariables false
set_option maxRecDepth 20000
namespace Go.Proofs.Ytknpmijgdfeliaa.G
open Go.V
def u16s (l : List Nat) : List Value := l.map fun (b : Nat) => .int .u16 (b : Int)
/-- What draws numbers: so many were drawn; all of it lies below 'N'. -/
structure DrO (N : Nat) (s : Hp) (a b : Addr) (k : Nat) : Prop where
  le : k ≤ 1000000
  at' : Own s a (.int .i64 (k : Int))
  by' : ∃ x l c, cellAt s b = some (.slice x l c) ∧ 0 < l ∧ ∀ i, i < l → ∃ y v, x = some y ∧ y.block ≠ a.block ∧ y.block < N ∧ cellAt s (y.add (i * 1)) = some (.int .u16 ((v : Nat) : Int)) ∧ v < 65536
  ne : a.block ≠ b.block
  an : a.block < N
  bn : b.block < N
section
variable {W : World} {K : VK} {E : List PanicEntry → Hp → Prop} {s : Hp}
theorem DrO.kp {N : Nat} {D : Nat → Prop} {s s' : Hp} {a b : Addr} {k : Nat} (h : DrO N s a b k) (e : Kp D s s') (hd : ∀ q, q < N → ¬ D q) : DrO N s' a b k where
  le := h.le
  at' := e.own (hd _ h.an) h.at'
  by' := by
    obtain ⟨x, l, c, h1, h2, h3⟩ := h.by'
    refine ⟨x, l, c, e.cell (hd _ h.bn) h1, h2, fun i hi => ?_⟩
    obtain ⟨y, v, g1, g2, g5, g3, g4⟩ := h3 i hi
    exact ⟨y, v, g1, g2, g5, e.cell (by rw [add_blk]; exact hd _ g5) g3, g4⟩
  ne := h.ne
  an := h.an
  bn := h.bn
theorem DrO.ext {N : Nat} {s s' : Hp} {a b : Addr} {k : Nat} (h : DrO N s a b k) (e : Ext s s') : DrO N s' a b k := h.kp (D := fun _ => False) e.kp fun _ _ h => h
theorem c_draw {N : Nat} {a b : Addr} {k : Nat} {n : Int} (hd : DrO N s a b k) (hk : k < 1000000) (hn : 0 < n ∧ n ≤ 100000) (h : ∀ s' r, Kp (· = a.block) s s' → s'.size = s.size → 0 ≤ r → r < n → DrO N s' a b (k + 1) → K (.int .i64 r) s') : CALLV Pg W (.func (.func 57) #[] #[.pointer (some a), .pointer (some b)]) [.int .i64 n] K E s := by
  refine CALLV_func ?_
  refine does_law07_draws_c1 W n a b _ s ?_
  unfold T_law07_draws_c1
  obtain ⟨x, l, c, h1, h2, h3⟩ := hd.by'
  refine ⟨_, hd.at'.cell, ?_⟩
  dsimp only
  rw [wrap_succ (by omega)]
  refine wr1 (a := a) hd.at' rfl fun s1 k1 z1 o1 => ?_
  have hb : ¬ b.block = a.block := fun e => hd.ne e.symm
  have h1' := k1.cell hb h1
  refine ⟨_, _, _, h1', ⟨_, o1.cell, ⟨_, _, _, h1', NZI_pos (by omega) ?_⟩⟩⟩
  have hm : Int.tmod (((k + 1 : Nat) : Int)) ((l : Nat) : Int) = (((k + 1) % l : Nat) : Int) := by
    rw [Int.tmod_eq_emod_of_nonneg (by omega)]; rfl
  rw [hm]
  have hml : (k + 1) % l < l := Nat.mod_lt _ h2
  obtain ⟨y, v, g1, g2, g5, g3, g4⟩ := h3 _ hml
  rw [g1]
  refine IXS_nat hml ⟨_, k1.cell (by rw [add_blk]; exact g2) g3, ⟨_, o1.cell, NZI_pos (by omega) ?_⟩⟩
  have e : Int.tmod (IntKind.i64.wrap (IntKind.i64.wrap ((v : Nat) : Int) + IntKind.i64.wrap (53 * (((k + 1 : Nat) : Int))))) n = ((v : Int) + 53 * ((k + 1 : Nat) : Int)) % n := by
    rw [wrap_i64 (n := ((v : Nat) : Int)) (by omega) (by omega), wrap_i64 (n := 53 * (((k + 1 : Nat) : Int))) (by omega) (by omega), wrap_i64 (by omega) (by omega), Int.tmod_eq_emod_of_nonneg (by omega)]
  rw [e]
  refine h s1 _ k1 z1 (Int.emod_nonneg _ (by omega)) (Int.emod_lt_of_pos _ hn.1) ⟨by omega, o1, ⟨x, l, c, h1', h2, fun i hi => ?_⟩, hd.ne, hd.an, hd.bn⟩
  obtain ⟨y', v', q1, q2, q5, q3, q4⟩ := h3 i hi
  exact ⟨y', v', q1, q2, q5, k1.cell (by rw [add_blk]; exact q2) q3, q4⟩
end
end Go.Proofs.Ytknpmijgdfeliaa.G

/- Clock: the document's functions. -/
set_option linter.unusedSimpArgs false
set_option linter.unusedVariables false
set_option maxRecDepth 20000
namespace Go.Proofs.Ytknpmijgdfeliaa.G
open Go.V
section
variable {W : World} {K : VK} {E : List PanicEntry → Hp → Prop} {s : Hp} {c : Clk}
theorem f_in {a b d : Int} (h : K (.bool (decide (b ≤ a ∧ a ≤ d))) s) : CALL Pg W F_ref07_in [.int .i64 a, .int .i64 b, .int .i64 d] K E s := by
  refine does_ref07_in W a b d _ s ?_
  unfold T_ref07_in
  refine BR_dec (fun h1 => ?_) (fun h1 => ?_)
  · have : decide (b ≤ a ∧ a ≤ d) = decide (a ≤ d) := by simp [h1]
    rw [← this]; exact h
  · have : decide (b ≤ a ∧ a ≤ d) = false := by simp [h1]
    rw [← this]; exact h
theorem f_span {lo hi low high : Int} (h : ∀ s', Ext s s' → K (.bool (decide (low ≤ lo ∧ lo ≤ hi ∧ hi ≤ high))) s') : CALL Pg W F_ref07_span [.agg #[.int .i64 lo, .int .i64 hi], .int .i64 low, .int .i64 high] K E s := by
  refine does_ref07_span W lo hi low high _ s ?_
  unfold T_ref07_span
  refine ne2 fun s1 e1 z1 o1 o2 => ⟨_, o1.cell, ?_⟩
  have hh := h s1 e1
  refine BR_dec (fun h1 => ⟨_, o1.cell, ⟨_, o2.cell, ?_⟩⟩) (fun h1 => ?_)
  · refine BR_dec (fun h2 => ⟨_, o2.cell, ?_⟩) (fun h2 => ?_)
    · have : decide (low ≤ lo ∧ lo ≤ hi ∧ hi ≤ high) = decide (hi ≤ high) := by simp [h1, h2]
      rw [this] at hh; exact hh
    · have : decide (low ≤ lo ∧ lo ≤ hi ∧ hi ≤ high) = false := by simp [h2]
      rw [this] at hh; exact hh
  · have : decide (low ≤ lo ∧ lo ≤ hi ∧ hi ≤ high) = false := by simp [h1]
    rw [this] at hh; exact hh
theorem f_Event {x y z : Option Addr} {l1 l2 l3 c1 c2 c3 : Nat} {n e : Int} (hn : 0 ≤ n ∧ n ≤ 5) (h : ∀ s', Ext s s' → K (.bool (decide (0 ≤ e ∧ e < n))) s') : CALL Pg W F_ref07_Event [.agg #[.slice x l1 c1, .int .i64 n, .slice y l2 c2, .slice z l3 c3], .int .i64 e] K E s := by
  refine does_ref07_Event W x l1 c1 n y l2 c2 z l3 c3 e _ s ?_
  unfold T_ref07_Event
  refine ne4 fun s1 e1 z1 o1 o2 o3 o4 => ⟨_, o2.cell, ?_⟩
  dsimp only
  rw [wrap_i64 (by omega) (by omega)]
  refine f_in ?_
  try simp only [TUP_mk, AGG_mk, HD_mk, NL_mk, TYI_mk, TYB_mk, TYP_mk, TYL_mk, TYS_mk, TYM_mk, SO_mk, NX_mk, endK_mk, endK_mk', add_0]
  have : decide (0 ≤ e ∧ e ≤ n - 1) = decide (0 ≤ e ∧ e < n) := by congr 1; apply propext; omega
  rw [this]; exact h s1 e1
theorem f_Watch {x y z : Option Addr} {l1 l2 l3 c1 c2 c3 : Nat} {n e : Int} (hn : l1 ≤ 1000000000) (h : ∀ s', Ext s s' → K (.bool (decide (0 ≤ e ∧ e < l1))) s') : CALL Pg W F_ref07_Watch [.agg #[.slice x l1 c1, .int .i64 n, .slice y l2 c2, .slice z l3 c3], .int .i64 e] K E s := by
  refine does_ref07_Watch W x l1 c1 n y l2 c2 z l3 c3 e _ s ?_
  unfold T_ref07_Watch
  refine ne4 fun s1 e1 z1 o1 o2 o3 o4 => ⟨_, _, _, o1.cell, ?_⟩
  dsimp only
  rw [wrap_i64 (by omega) (by omega)]
  refine f_in ?_
  try simp only [TUP_mk, AGG_mk, HD_mk, NL_mk, TYI_mk, TYB_mk, TYP_mk, TYL_mk, TYS_mk, TYM_mk, SO_mk, NX_mk, endK_mk, endK_mk', add_0]
  have : decide (0 ≤ e ∧ e ≤ (l1 : Int) - 1) = decide (0 ≤ e ∧ e < l1) := by congr 1; apply propext; omega
  rw [this]; exact h s1 e1
theorem f_power {n : Nat} (hn : n ≤ 20) (h : K (.int .i64 ((2 ^ n : Nat) : Int)) s) : CALL Pg W F_ref07_power [.int .i64 (n : Int)] K E s := by
  refine does_ref07_power W n _ s ?_
  unfold T_ref07_power
  refine L_ref07_power_0_rule W _ n (fun v k t => t = s ∧ ∃ j : Nat, k = j ∧ j ≤ n ∧ v = ((2 ^ j : Nat) : Int)) (fun _ k _ => ((n : Int) - k).toNat) 1 0 s ⟨rfl, 0, rfl, Nat.zero_le _, rfl⟩ ?_
  rintro v k t ⟨rfl, j, rfl, hj, rfl⟩
  unfold B_ref07_power_0
  refine BR_dec (fun hlt => ?_) (fun hge => ?_)
  · try simp only [TUP_mk, AGG_mk, HD_mk, NL_mk, TYI_mk, TYB_mk, TYP_mk, TYL_mk, TYS_mk, TYM_mk, SO_mk, NX_mk, endK_mk, endK_mk', add_0]
    have hp : 2 ^ j ≤ 2 ^ 20 := Nat.pow_le_pow_right (by omega) (by omega)
    refine ⟨_, _, rfl, ⟨rfl, j + 1, wrap_succ (by omega), by omega, ?_⟩, ?_⟩
    · rw [Nat.pow_succ]
      generalize 2 ^ j = q at *
      rw [wrap_i64 (by omega) (by omega)]; omega
    · rw [wrap_succ (by omega)]
      show ((n : Int) - ((j + 1 : Nat) : Int)).toNat < ((n : Int) - (j : Int)).toNat
      omega
  · have : j = n := by omega
    subst this
    exact h
theorem f_Show {g : Go'} {m : Int} (hz : 0 ≤ g.1 ∧ g.1 ≤ 3000) (hr : 0 ≤ g.2 ∧ g.2 ≤ 1100) (hm : 0 ≤ m ∧ m ≤ 3000) (h : ∀ s', Ext s s' → K (.int .i64 (showP g m)) s') : CALL Pg W F_ref07_Show [.agg #[.int .i64 g.1, .int .i64 g.2], .int .i64 m] K E s := by
  refine does_ref07_Show W g.1 g.2 m _ s ?_
  unfold T_ref07_Show
  refine ne2 fun s1 e1 z1 o1 o2 => ⟨_, o1.cell, ⟨_, o2.cell, ?_⟩⟩
  have h0 : 0 ≤ m * g.2 := Int.mul_nonneg hm.1 (by omega)
  have h1 : m * g.2 ≤ 3000 * 1100 := Int.mul_le_mul hm.2 hr.2 (by omega) (by omega)
  have e : IntKind.i64.wrap (g.1 + IntKind.i64.wrap (Int.tdiv (IntKind.i64.wrap (m * g.2)) 1000)) = showP g m := by
    unfold showP
    generalize m * g.2 = q at *
    rw [wrap_i64 (n := q) (by omega) (by omega), Int.tdiv_eq_ediv_of_nonneg h0, wrap_i64 (n := q / 1000) (by omega) (by omega)]
    exact wrap_i64 (by omega) (by omega)
  dsimp only
  rw [e]
  exact h s1 e1
variable {x y z : Option Addr} {c1 c2 c3 : Nat}
theorem f_Every (hl : c.rs.length ≤ 8) (h : ∀ s', Ext s s' → K (.int .i64 (everyN c : Nat)) s') : CALL Pg W F_ref07_Every [clkV c x y z c1 c2 c3] K E s := by
  unfold clkV
  refine does_ref07_Every W x _ c1 c.n y _ c2 z _ c3 _ s ?_
  unfold T_ref07_Every
  refine ne4 fun s1 e1 z1 o1 o2 o3 o4 => ⟨_, _, _, o3.cell, ?_⟩
  refine f_power (by omega) ?_
  try simp only [TUP_mk, AGG_mk, HD_mk, NL_mk, TYI_mk, TYB_mk, TYP_mk, TYL_mk, TYS_mk, TYM_mk, SO_mk, NX_mk, endK_mk, endK_mk', add_0]
  have hp := Nat.two_pow_pos c.rs.length
  have hp2 := Nat.pow_le_pow_right (show 0 < 2 by omega) hl
  have : IntKind.i64.wrap (((2 ^ c.rs.length : Nat) : Int) - 1) = ((everyN c : Nat) : Int) := by
    rw [wrap_i64 (by omega) (by omega)]; unfold everyN; omega
  rw [this]
  exact h s1 e1
/-- The readings that are not a watch's. -/
def woS (k : Int) : List Rd → Nat → Nat
  | [], _ => 0
  | r :: rs, i => (if r.wa ≠ k then 2 ^ i else 0) + woS k rs (i + 1)
def woN (c : Clk) (k : Int) : Nat := woS k c.rs 0
theorem woS_app {k : Int} {r : Rd} : ∀ (l : List Rd) (i : Nat), woS k (l ++ [r]) i = woS k l i + (if r.wa ≠ k then 2 ^ (i + l.length) else 0)
  | [], i => by simp [woS]
  | q :: l, i => by
    have ih := woS_app (k := k) (r := r) l (i + 1)
    show (if q.wa ≠ k then 2 ^ i else 0) + woS k (l ++ [r]) (i + 1) = (if q.wa ≠ k then 2 ^ i else 0) + woS k l (i + 1) + _
    rw [ih, show i + 1 + l.length = i + (q :: l).length by simp; omega]
    omega
theorem woS_lt {k : Int} : ∀ (l : List Rd) (i : Nat), woS k l i + 2 ^ i ≤ 2 ^ (i + l.length)
  | [], i => by simp [woS]
  | q :: l, i => by
    have ih := woS_lt (k := k) l (i + 1)
    have e : i + 1 + l.length = i + (q :: l).length := by simp; omega
    rw [e, Nat.pow_succ] at ih
    unfold woS
    split <;> omega
theorem woS_shift {k : Int} : ∀ (l : List Rd) (i : Nat), woS k l (i + 1) = 2 * woS k l i
  | [], i => rfl
  | q :: l, i => by
    have ih := woS_shift (k := k) l (i + 1)
    unfold woS
    rw [ih, Nat.pow_succ]
    split <;> omega
theorem woN_bit {k : Int} : ∀ (l : List Rd) (j : Nat) (hj : j < l.length), (woS k l 0).testBit j = decide (l[j].wa ≠ k)
  | [], j, hj => by simp at hj
  | q :: l, 0, _ => by
    show ((if q.wa ≠ k then 2 ^ 0 else 0) + woS k l (0 + 1)).testBit 0 = decide (q.wa ≠ k)
    rw [woS_shift, Nat.testBit_zero]
    by_cases h : q.wa ≠ k
    · rw [if_pos h]; simp [h]
    · rw [if_neg h]; simp at h; simp [h]
  | q :: l, j + 1, hj => by
    have hj' : j < l.length := by simpa using hj
    show ((if q.wa ≠ k then 2 ^ 0 else 0) + woS k l (0 + 1)).testBit (j + 1) = decide (l[j].wa ≠ k)
    rw [woS_shift, Nat.testBit_succ]
    have : ((if q.wa ≠ k then 2 ^ 0 else 0) + 2 * woS k l 0) / 2 = woS k l 0 := by split <;> omega
    rw [this]
    exact woN_bit l j hj'
theorem f_Without {k : Int} (hc : ClV s c x y z) (hl : c.rs.length ≤ 8) (h : ∀ s', Ext s s' → K (.int .i64 (woN c k : Nat)) s') : CALL Pg W F_ref07_Without [clkV c x y z c1 c2 c3, .int .i64 k] K E s := by
  unfold clkV
  refine does_ref07_Without W x _ c1 c.n y _ c2 z _ c3 k _ s ?_
  unfold T_ref07_Without
  refine ne4 fun s1 e1 z1 o1 o2 o3 o4 => ?_
  have hr := hc.rs.ce (CE.ext e1)
  refine L_ref07_Without_0_rule W _ k ⟨s.size, 0, none⟩ (fun v i t => t = s1 ∧ ∃ j : Nat, i = j ∧ j ≤ c.rs.length ∧ v = ((woS k (c.rs.take j) 0 : Nat) : Int)) (fun _ i _ => ((c.rs.length : Int) - i).toNat) 0 0 s1 ⟨rfl, 0, rfl, Nat.zero_le _, rfl⟩ ?_
  rintro v i t ⟨rfl, j, rfl, hj, rfl⟩
  unfold B_ref07_Without_0
  refine ⟨_, _, _, o3.cell, ?_⟩
  refine BR_dec (fun hlt => ?_) (fun hge => ?_)
  · have hjl : j < c.rs.length := by omega
    obtain ⟨a, hx0, g1, g2, g3⟩ := hr j hjl
    subst hx0
    refine ⟨_, _, _, o3.cell, IXS_nat hjl ⟨_, g2, ?_⟩⟩
    have htk : woS k (c.rs.take (j + 1)) 0 = woS k (c.rs.take j) 0 + (if c.rs[j].wa ≠ k then 2 ^ j else 0) := by
      rw [take_succ' hjl, woS_app]
      simp [Nat.min_eq_left (Nat.le_of_lt hjl)]
    have hb := woS_lt (k := k) (c.rs.take j) 0
    have hb2 : 2 ^ (0 + (c.rs.take j).length) ≤ 2 ^ 8 := Nat.pow_le_pow_right (by omega) (by simp; omega)
    have hp8 : 2 ^ j ≤ 2 ^ 8 := Nat.pow_le_pow_right (by omega) (by omega)
    have hms : ((c.rs.length : Int) - ((j + 1 : Nat) : Int)).toNat < ((c.rs.length : Int) - (j : Int)).toNat := by omega
    refine BR_ne (fun hne => ?_) (fun he => ?_)
    · refine f_power (by omega) ?_
      try simp only [TUP_mk, AGG_mk, HD_mk, NL_mk, TYI_mk, TYB_mk, TYP_mk, TYL_mk, TYS_mk, TYM_mk, SO_mk, NX_mk, endK_mk, endK_mk', add_0]
      refine ⟨_, _, rfl, ⟨rfl, j + 1, wrap_succ (by omega), hjl, ?_⟩, by rw [wrap_succ (by omega)]; exact hms⟩
      rw [htk, if_pos hne]
      generalize 2 ^ j = q at *
      generalize woS k (c.rs.take j) 0 = v at *
      rw [wrap_i64 (by omega) (by omega)]; omega
    · try simp only [TUP_mk, AGG_mk, HD_mk, NL_mk, TYI_mk, TYB_mk, TYP_mk, TYL_mk, TYS_mk, TYM_mk, SO_mk, NX_mk, endK_mk, endK_mk', add_0]
      refine ⟨_, _, rfl, ⟨rfl, j + 1, wrap_succ (by omega), hjl, ?_⟩, by rw [wrap_succ (by omega)]; exact hms⟩
      rw [htk, if_neg (by simpa using he)]; rfl
  · have hjl : j = c.rs.length := by omega
    subst hjl
    rw [List.take_length]
    exact h t e1
theorem pop_tab : ∀ n : Nat, n < 256 → popN n = popN (n / 2) + n % 2 := by
  have h : ((List.range 256).all fun (n : Nat) => decide (popN n = popN (n / 2) + n % 2)) = true := by decide +kernel
  intro n hn
  simpa using List.all_eq_true.1 h n (by simpa using hn)
theorem f_Size {n : Nat} (hn : n < 256) (h : K (.int .i64 (popN n : Nat)) s) : CALL Pg W F_ref07_Size [.int .i64 (n : Int)] K E s := by
  refine does_ref07_Size W n _ s ?_
  unfold T_ref07_Size
  refine L_ref07_Size_0_rule W _ (fun a b t => t = s ∧ ∃ p q : Nat, a = p ∧ b = q ∧ p < 256 ∧ q ≤ 1000000 - p ∧ popN p + q = popN n) (fun a _ _ => a.toNat) n 0 s ⟨rfl, n, 0, rfl, rfl, hn, by omega, rfl⟩ ?_
  rintro a b t ⟨rfl, p, q, rfl, rfl, hp, hq, hpq⟩
  unfold B_ref07_Size_0
  refine BR_dec (fun hlt => ?_) (fun hge => ?_)
  · try simp only [TUP_mk, AGG_mk, HD_mk, NL_mk, TYI_mk, TYB_mk, TYP_mk, TYL_mk, TYS_mk, TYM_mk, SO_mk, NX_mk, endK_mk, endK_mk', add_0]
    have ht := pop_tab p hp
    have e1 : IntKind.i64.wrap (Int.tdiv (p : Int) 2) = ((p / 2 : Nat) : Int) := by
      rw [Int.tdiv_eq_ediv_of_nonneg (by omega), wrap_i64 (by omega) (by omega)]; rfl
    have e2 : IntKind.i64.wrap ((q : Int) + Int.tmod (p : Int) 2) = ((q + p % 2 : Nat) : Int) := by
      rw [Int.tmod_eq_emod_of_nonneg (by omega), wrap_i64 (by omega) (by omega)]; rfl
    refine ⟨_, _, rfl, ⟨rfl, p / 2, q + p % 2, e1, e2, by omega, by omega, by omega⟩, ?_⟩
    rw [e1]
    show ((p / 2 : Nat) : Int).toNat < ((p : Nat) : Int).toNat
    omega
  · have hp0 : p = 0 := by omega
    subst hp0
    have : popN 0 = 0 := by decide
    have e : q = popN n := by omega
    rw [e]; exact h
end
end Go.Proofs.Ytknpmijgdfeliaa.G

/- Clock: the document's view of whether a clock is valid. -/
set_option linter.unusedSimpArgs false
set_option linter.unusedVariables false
set_option maxRecDepth 20000
namespace Go.Proofs.Ytknpmijgdfeliaa.G
open Go.V
section
variable {W : World} {K : VK} {E : List PanicEntry → Hp → Prop} {s : Hp} {c : Clk} {x y z : Option Addr} {c1 c2 c3 : Nat}
theorem f_Clock (hc : ClV s c x y z) (h : ∀ s', Ext s s' → K (.bool (okC c)) s') : CALL Pg W F_ref07_Clock [clkV c x y z c1 c2 c3] K E s := by
  unfold clkV
  refine does_ref07_Clock W x _ c1 c.n y _ c2 z _ c3 _ s ?_
  unfold T_ref07_Clock
  refine ne4 fun s1 e1 z1 o1 o2 o3 o4 => ⟨_, _, _, o1.cell, ?_⟩
  have hX : ∀ t, Ext s1 t → ClV t c x y z := fun t e => hc.ext (e1.trans e)
  have no : okC c = false → ∀ t, Ext s1 t → K (.bool false) t := fun hn t e => by have := h t (e1.trans e); rw [hn] at this; exact this
  -- the links
  have h2 : ∀ t, Ext s1 t → sizesC c = true → c.ws.any badW = false → c.rs.any (badR c) = false → L_ref07_Clock_2 W (endK K E) ⟨s.size, 0, none⟩ false 0 t := by
    intro t et hs hw hr
    have hsz := of_decide_eq_true hs
    refine L_ref07_Clock_2_rule W _ ⟨s.size, 0, none⟩ (fun _ n u => Ext s1 u ∧ ∃ k : Nat, n = k ∧ k ≤ c.ls.length ∧ ∀ i (hi : i < c.ls.length), i < k → badL c c.ls[i] = false) (fun _ n _ => ((c.ls.length : Int) - n).toNat) false 0 t ⟨et, 0, rfl, Nat.zero_le _, fun i _ h => by omega⟩ ?_
    rintro b n u ⟨eu, k, rfl, hk, hno⟩
    generalize hnx : (fun vs => N_ref07_Clock_2 _ _ b (k : Int) u vs) = nx
    unfold B_ref07_Clock_2
    refine ⟨_, _, _, (eu.own o4).cell, ?_⟩
    refine BR_dec (fun hlt => ?_) (fun hge => ?_)
    rotate_left
    · have hh := h u (e1.trans eu)
      have : okC c = true := by unfold okC; rw [hs, hw, hr, any_no fun i hi => hno i hi (by omega)]; rfl
      rw [this] at hh; exact hh
    have hkl : k < c.ls.length := by omega
    have hgo : ∀ t', Ext u t' → badL c c.ls[k] = false → nx [.bool b, .int .i64 (IntKind.wrap .i64 ((k : Int) + 1))] t' := fun t' e hb => by
      rw [← hnx]
      refine ⟨_, _, rfl, ⟨eu.trans e, k + 1, wrap_succ (by omega), hkl, fun i hi hik => ?_⟩, ms_succ hkl (by omega)⟩
      by_cases e : i = k
      · subst e; exact hb
      · exact hno i hi (by omega)
    clear hnx
    have hbad : badL c c.ls[k] = true → ∀ t, Ext s1 t → K (.bool false) t := fun hb => no (by unfold okC; rw [idx_find hkl hb]; simp)
    obtain ⟨a, hx0, g1, g2, g3, g4⟩ := (hX u eu).ls k hkl
    generalize c.ls[k] = w at *
    subst hx0
    refine ⟨_, _, _, (eu.own o4).cell, IXS_nat hkl ⟨_, g1, ⟨_, g2, ⟨_, g3, ⟨_, g4, ?_⟩⟩⟩⟩⟩
    refine nw4 zc_63 rfl rfl rfl rfl fun u1 f1 y1 p1 p2 p3 p4 => ?_
    have eu1 := eu.trans f1
    refine ⟨_, _, _, (eu1.own o1).cell, ⟨_, (eu1.own o2).cell, ⟨_, _, _, (eu1.own o3).cell, ⟨_, _, _, (eu1.own o4).cell, ⟨_, p1.cell, ?_⟩⟩⟩⟩⟩
    have hJ7 : ∀ q t', Ext u1 t' → q = (!(decide (0 ≤ w.a ∧ w.a < c.n)) || !(decide (0 ≤ w.b ∧ w.b < c.n)) || decide (w.a = w.b)) → J_ref07_Clock_7 W (endK K E) q u.size ⟨s.size, 0, none⟩ nx b (k : Nat) t' := by
      intro q t' e' hq
      unfold J_ref07_Clock_7
      refine BR_bool (fun ht => ?_) (fun hf => ?_)
      · exact hbad (by unfold badL; rw [← hq, ht]; rfl) t' (eu1.trans e')
      · refine ⟨_, (e'.own p3).cell, ⟨_, (e'.own p4).cell, ?_⟩⟩
        refine f_span fun t2 e2 => ?_
        try simp only [TUP_mk, AGG_mk, HD_mk, NL_mk, TYI_mk, TYB_mk, TYP_mk, TYL_mk, TYS_mk, TYM_mk, SO_mk, NX_mk, endK_mk, endK_mk', add_0]
        have hbl : badL c w = !(decide (-600 ≤ w.lo ∧ w.lo ≤ w.hi ∧ w.hi ≤ 600)) := by unfold badL; rw [← hq, hf]; rfl
        refine BR_not (fun h0 => ?_) (fun h1 => ?_)
        · exact hbad (by rw [hbl, h0]; rfl) t2 ((eu1.trans e').trans e2)
        · try simp only [TUP_mk, AGG_mk, HD_mk, NL_mk, TYI_mk, TYB_mk, TYP_mk, TYL_mk, TYS_mk, TYM_mk, SO_mk, NX_mk, endK_mk, endK_mk', add_0]
          exact hgo t2 ((f1.trans e').trans e2) (by rw [hbl, h1]; rfl)
    have hJ8 : ∀ q t', Ext u1 t' → q = (!(decide (0 ≤ w.a ∧ w.a < c.n)) || !(decide (0 ≤ w.b ∧ w.b < c.n))) → J_ref07_Clock_8 W (endK K E) q u.size ⟨s.size, 0, none⟩ nx b (k : Nat) t' := by
      intro q t' e' hq
      unfold J_ref07_Clock_8
      refine BR_bool (fun ht => ?_) (fun hf => ?_)
      · refine hJ7 true t' e' ?_
        rw [← hq, ht]; rfl
      · refine ⟨_, (e'.own p1).cell, ⟨_, (e'.own p2).cell, ?_⟩⟩
        refine hJ7 _ t' e' ?_
        rw [← hq, hf]
        by_cases e : w.a = w.b <;> simp [e]
    refine f_Event ⟨hsz.2.1, hsz.2.2.1⟩ fun u2 f2 => ?_
    try simp only [TUP_mk, AGG_mk, HD_mk, NL_mk, TYI_mk, TYB_mk, TYP_mk, TYL_mk, TYS_mk, TYM_mk, SO_mk, NX_mk, endK_mk, endK_mk', add_0]
    have eu2 := eu1.trans f2
    refine BR_not (fun h0 => ?_) (fun h1 => ?_)
    · refine hJ8 true u2 f2 ?_
      rw [h0]; rfl
    · refine ⟨_, _, _, (eu2.own o1).cell, ⟨_, (eu2.own o2).cell, ⟨_, _, _, (eu2.own o3).cell, ⟨_, _, _, (eu2.own o4).cell, ⟨_, (f2.own p2).cell, ?_⟩⟩⟩⟩⟩
      refine f_Event ⟨hsz.2.1, hsz.2.2.1⟩ fun u3 f3 => ?_
      try simp only [TUP_mk, AGG_mk, HD_mk, NL_mk, TYI_mk, TYB_mk, TYP_mk, TYL_mk, TYS_mk, TYM_mk, SO_mk, NX_mk, endK_mk, endK_mk', add_0]
      refine hJ8 _ u3 (f2.trans f3) ?_
      rw [h1]; rfl
  -- the readings
  have hR : ∀ t, Ext s1 t → sizesC c = true → c.ws.any badW = false → L_ref07_Clock_1 W (endK K E) ⟨s.size, 0, none⟩ false 0 t := by
    intro t et hs hw
    have hsz := of_decide_eq_true hs
    refine L_ref07_Clock_1_rule W _ ⟨s.size, 0, none⟩ (fun b n u => b = false ∧ Ext s1 u ∧ ∃ k : Nat, n = k ∧ k ≤ c.rs.length ∧ ∀ i (hi : i < c.rs.length), i < k → badR c c.rs[i] = false) (fun _ n _ => ((c.rs.length : Int) - n).toNat) false 0 t ⟨rfl, et, 0, rfl, Nat.zero_le _, fun i _ h => by omega⟩ ?_
    rintro b n u ⟨rfl, eu, k, rfl, hk, hno⟩
    generalize hnx : (fun vs => N_ref07_Clock_1 _ _ false (k : Int) u vs) = nx
    unfold B_ref07_Clock_1
    refine ⟨_, _, _, (eu.own o3).cell, ?_⟩
    refine BR_dec (fun hlt => ?_) (fun hge => ?_)
    rotate_left
    · exact h2 u eu hs hw (any_no fun i hi => hno i hi (by omega))
    have hkl : k < c.rs.length := by omega
    have hgo : ∀ t', Ext u t' → badR c c.rs[k] = false → nx [.bool false, .int .i64 (IntKind.wrap .i64 ((k : Int) + 1))] t' := fun t' e hb => by
      rw [← hnx]
      refine ⟨_, _, rfl, ⟨rfl, eu.trans e, k + 1, wrap_succ (by omega), hkl, fun i hi hik => ?_⟩, ms_succ hkl (by omega)⟩
      by_cases e : i = k
      · subst e; exact hb
      · exact hno i hi (by omega)
    clear hnx
    have hbad : badR c c.rs[k] = true → ∀ t, Ext s1 t → K (.bool false) t := fun hb => no (by unfold okC; rw [idx_find hkl hb]; simp)
    obtain ⟨a, hx0, g1, g2, g3⟩ := (hX u eu).rs k hkl
    generalize c.rs[k] = w at *
    subst hx0
    refine ⟨_, _, _, (eu.own o3).cell, IXS_nat hkl ⟨_, g1, ⟨_, g2, ⟨_, g3, ?_⟩⟩⟩⟩
    refine nw3 zc_61 rfl rfl rfl fun u1 f1 y1 p1 p2 p3 => ?_
    have eu1 := eu.trans f1
    refine ⟨_, _, _, (eu1.own o1).cell, ⟨_, (eu1.own o2).cell, ⟨_, _, _, (eu1.own o3).cell, ⟨_, _, _, (eu1.own o4).cell, ⟨_, p1.cell, ?_⟩⟩⟩⟩⟩
    have hJ6 : ∀ q t', Ext u1 t' → q = (!(decide (0 ≤ w.ev ∧ w.ev < c.n)) || !(decide (0 ≤ w.wa ∧ w.wa < c.ws.length))) → J_ref07_Clock_6 W (endK K E) q u.size ⟨s.size, 0, none⟩ nx false (k : Nat) t' := by
      intro q t' e' hq
      unfold J_ref07_Clock_6
      refine BR_bool (fun ht => ?_) (fun hf => ?_)
      · exact hbad (by unfold badR; rw [← hq, ht]; rfl) t' (eu1.trans e')
      · refine ⟨_, (e'.own p3).cell, ?_⟩
        refine f_in ?_
        try simp only [TUP_mk, AGG_mk, HD_mk, NL_mk, TYI_mk, TYB_mk, TYP_mk, TYL_mk, TYS_mk, TYM_mk, SO_mk, NX_mk, endK_mk, endK_mk', add_0]
        have hbl : badR c w = !(decide (0 ≤ w.sh ∧ w.sh ≤ 2000)) := by unfold badR; rw [← hq, hf]; rfl
        refine BR_not (fun h0 => ?_) (fun h1 => ?_)
        · exact hbad (by rw [hbl, h0]; rfl) t' (eu1.trans e')
        · try simp only [TUP_mk, AGG_mk, HD_mk, NL_mk, TYI_mk, TYB_mk, TYP_mk, TYL_mk, TYS_mk, TYM_mk, SO_mk, NX_mk, endK_mk, endK_mk', add_0]
          exact hgo t' (f1.trans e') (by rw [hbl, h1]; rfl)
    refine f_Event ⟨hsz.2.1, hsz.2.2.1⟩ fun u2 f2 => ?_
    try simp only [TUP_mk, AGG_mk, HD_mk, NL_mk, TYI_mk, TYB_mk, TYP_mk, TYL_mk, TYS_mk, TYM_mk, SO_mk, NX_mk, endK_mk, endK_mk', add_0]
    have eu2 := eu1.trans f2
    refine BR_not (fun h0 => ?_) (fun h1 => ?_)
    · refine hJ6 true u2 f2 ?_
      rw [h0]; rfl
    · refine ⟨_, _, _, (eu2.own o1).cell, ⟨_, (eu2.own o2).cell, ⟨_, _, _, (eu2.own o3).cell, ⟨_, _, _, (eu2.own o4).cell, ⟨_, (f2.own p2).cell, ?_⟩⟩⟩⟩⟩
      refine f_Watch (by omega) fun u3 f3 => ?_
      try simp only [TUP_mk, AGG_mk, HD_mk, NL_mk, TYI_mk, TYB_mk, TYP_mk, TYL_mk, TYS_mk, TYM_mk, SO_mk, NX_mk, endK_mk, endK_mk', add_0]
      refine hJ6 _ u3 (f2.trans f3) ?_
      rw [h1]; rfl
  -- the watches
  have hW : ∀ t, Ext s1 t → sizesC c = true → L_ref07_Clock_0 W (endK K E) ⟨s.size, 0, none⟩ false 0 t := by
    intro t et hs
    have hsz := of_decide_eq_true hs
    refine L_ref07_Clock_0_rule W _ ⟨s.size, 0, none⟩ (fun b n u => b = false ∧ Ext s1 u ∧ ∃ k : Nat, n = k ∧ k ≤ c.ws.length ∧ ∀ i (hi : i < c.ws.length), i < k → badW c.ws[i] = false) (fun _ n _ => ((c.ws.length : Int) - n).toNat) false 0 t ⟨rfl, et, 0, rfl, Nat.zero_le _, fun i _ h => by omega⟩ ?_
    rintro b n u ⟨rfl, eu, k, rfl, hk, hno⟩
    generalize hnx : (fun vs => N_ref07_Clock_0 _ _ false (k : Int) u vs) = nx
    unfold B_ref07_Clock_0
    refine ⟨_, _, _, (eu.own o1).cell, ?_⟩
    refine BR_dec (fun hlt => ?_) (fun hge => ?_)
    rotate_left
    · exact hR u eu hs (any_no fun i hi => hno i hi (by omega))
    have hkl : k < c.ws.length := by omega
    have hgo : ∀ t', Ext u t' → badW c.ws[k] = false → nx [.bool false, .int .i64 (IntKind.wrap .i64 ((k : Int) + 1))] t' := fun t' e hb => by
      rw [← hnx]
      refine ⟨_, _, rfl, ⟨rfl, eu.trans e, k + 1, wrap_succ (by omega), hkl, fun i hi hik => ?_⟩, ms_succ hkl (by omega)⟩
      by_cases e : i = k
      · subst e; exact hb
      · exact hno i hi (by omega)
    clear hnx
    have hbad : badW c.ws[k] = true → ∀ t, Ext s1 t → K (.bool false) t := fun hb => no (by unfold okC; rw [idx_find hkl hb]; simp)
    obtain ⟨a, hx0, g1, g2, g3, g4⟩ := (hX u eu).ws k hkl
    generalize c.ws[k] = w at *
    subst hx0
    rw [← addr_add (m := 2) (n := 1)] at g4
    refine ⟨_, _, _, (eu.own o1).cell, IXS_nat hkl ⟨_, g1, ⟨_, g2, ⟨_, _, _, (eu.own o1).cell, IXS_nat hkl ⟨_, g3, ⟨_, g4, ?_⟩⟩⟩⟩⟩⟩
    have hJ3 : ∀ q b2 t' B, Ext u t' → Own t' ⟨B, 0, none⟩ (.int .i64 w.rlo) → Own t' ⟨B, 1, none⟩ (.int .i64 w.rhi) → q = (!(decide (0 ≤ w.zlo ∧ w.zlo ≤ w.zhi ∧ w.zhi ≤ 1000 ∧ w.zhi - w.zlo ≤ 6)) || b2) → b2 = !(decide (900 ≤ w.rlo ∧ w.rlo ≤ w.rhi ∧ w.rhi ≤ 1100)) → J_ref07_Clock_3 W (endK K E) q (some ⟨B, 0, none⟩) ⟨s.size, 0, none⟩ nx false (k : Nat) t' := by
      intro q b2 t' B e' q1 q2 hq hb2
      unfold J_ref07_Clock_3
      refine BR_bool (fun ht => ?_) (fun hf => ?_)
      · exact hbad (by unfold badW; rw [← hb2, ← hq, ht]; rfl) t' (eu.trans e')
      · refine ⟨_, q2.cell, ⟨_, q1.cell, ?_⟩⟩
        have hf2 : b2 = false := by rw [hf] at hq; revert hq; cases b2 <;> simp
        rw [hf2] at hb2
        have hrr : 900 ≤ w.rlo ∧ w.rlo ≤ w.rhi ∧ w.rhi ≤ 1100 := by simpa using hb2
        have hbl : badW w = decide (4 < w.rhi - w.rlo) := by unfold badW; rw [← hb2, ← hf2, ← hq, hf]; rfl
        dsimp only
        rw [wrap_i64 (by omega) (by omega)]
        refine BR_dec (fun h0 => ?_) (fun h1 => ?_)
        · exact hbad (by rw [hbl]; exact decide_eq_true h0) t' (eu.trans e')
        · try simp only [TUP_mk, AGG_mk, HD_mk, NL_mk, TYI_mk, TYB_mk, TYP_mk, TYL_mk, TYS_mk, TYM_mk, SO_mk, NX_mk, endK_mk, endK_mk', add_0]
          exact hgo t' e' (by rw [hbl]; exact decide_eq_false h1)
    have hJ4 : ∀ q t' B, Ext u t' → Own t' ⟨B, 0, none⟩ (.int .i64 w.rlo) → Own t' ⟨B, 1, none⟩ (.int .i64 w.rhi) → q = !(decide (0 ≤ w.zlo ∧ w.zlo ≤ w.zhi ∧ w.zhi ≤ 1000 ∧ w.zhi - w.zlo ≤ 6)) → J_ref07_Clock_4 W (endK K E) q (some ⟨B, 0, none⟩) ⟨s.size, 0, none⟩ nx false (k : Nat) t' := by
      intro q t' B e' q1 q2 hq
      unfold J_ref07_Clock_4
      refine BR_bool (fun ht => ?_) (fun hf => ?_)
      · refine hJ3 true _ t' B e' q1 q2 ?_ rfl
        rw [← hq, ht]; rfl
      · refine ⟨_, q1.cell, ⟨_, q2.cell, ?_⟩⟩
        refine f_span fun t2 e2 => ?_
        try simp only [TUP_mk, AGG_mk, HD_mk, NL_mk, TYI_mk, TYB_mk, TYP_mk, TYL_mk, TYS_mk, TYM_mk, SO_mk, NX_mk, endK_mk, endK_mk', add_0]
        refine hJ3 _ _ t2 B (e'.trans e2) (e2.own q1) (e2.own q2) ?_ rfl
        rw [← hq, hf]; rfl
    have hJ5 : ∀ t' A B, Ext u t' → Own t' ⟨A, 0, none⟩ (.int .i64 w.zlo) → Own t' ⟨A, 1, none⟩ (.int .i64 w.zhi) → Own t' ⟨B, 0, none⟩ (.int .i64 w.rlo) → Own t' ⟨B, 1, none⟩ (.int .i64 w.rhi) → J_ref07_Clock_5 W (endK K E) (some ⟨A, 0, none⟩) (some ⟨B, 0, none⟩) ⟨s.size, 0, none⟩ nx false (k : Nat) t' := by
      intro t' A B e' r1 r2 q1 q2
      unfold J_ref07_Clock_5
      refine ⟨_, r1.cell, ⟨_, r2.cell, ?_⟩⟩
      refine f_span fun t2 e2 => ?_
      try simp only [TUP_mk, AGG_mk, HD_mk, NL_mk, TYI_mk, TYB_mk, TYP_mk, TYL_mk, TYS_mk, TYM_mk, SO_mk, NX_mk, endK_mk, endK_mk', add_0]
      refine BR_not (fun h0 => ?_) (fun h1 => ?_)
      · have hz := of_decide_eq_false h0
        refine hJ4 true t2 B (e'.trans e2) (e2.own q1) (e2.own q2) ?_
        rw [decide_eq_false (by omega)]; rfl
      · have hz := of_decide_eq_true h1
        refine ⟨_, (e2.own r2).cell, ⟨_, (e2.own r1).cell, ?_⟩⟩
        refine hJ4 _ t2 B (e'.trans e2) (e2.own q1) (e2.own q2) ?_
        rw [wrap_i64 (by omega) (by omega)]
        by_cases h6 : w.zhi - w.zlo ≤ 6
        · rw [decide_eq_true (show 0 ≤ w.zlo ∧ w.zlo ≤ w.zhi ∧ w.zhi ≤ 1000 ∧ w.zhi - w.zlo ≤ 6 by omega)]
          exact decide_eq_false (by omega)
        · rw [decide_eq_false (show ¬ (0 ≤ w.zlo ∧ w.zlo ≤ w.zhi ∧ w.zhi ≤ 1000 ∧ w.zhi - w.zlo ≤ 6) by omega)]
          exact decide_eq_true (by omega)
    have A1 : ∀ t', Ext u t' → (RDI .i64 (Addr.add (Addr.add (a.add (k * 4)) 2) 0) fun n97 => RDI .i64 (Addr.add (Addr.add (a.add (k * 4)) 2) 1) fun n98 => fun _ => ((.agg #[(.int .i64 n97), (.int .i64 n98)]) : Value) = (.agg #[(.int .i64 w.rlo), (.int .i64 w.rhi)])) t' := fun t' e => ⟨_, e.cell g3, ⟨_, e.cell g4, rfl⟩⟩
    have A2 : ∀ t', Ext u t' → (RDL (Addr.add ⟨s.size, 0, none⟩ 0) fun x99 l100 c101 => fun _ => ((.slice x99 l100 c101) : Value) = (.slice (some a) c.ws.length c1)) t' := fun t' e => ⟨_, _, _, ((eu.trans e).own o1).cell, rfl⟩
    have A3 : ∀ t', Ext u t' → (RDI .i64 (Addr.add (Addr.add (a.add (k * 4)) 0) 0) fun n97 => RDI .i64 (Addr.add (Addr.add (a.add (k * 4)) 0) 1) fun n98 => fun _ => ((.agg #[(.int .i64 n97), (.int .i64 n98)]) : Value) = (.agg #[(.int .i64 w.zlo), (.int .i64 w.zhi)])) t' := fun t' e => ⟨_, e.cell g1, ⟨_, e.cell g2, rfl⟩⟩
    refine CONJ_two ?_ ?_
    · refine nz2 zc_34 fun u1 f1 y1 b1 b2 => ?_
      refine ANDS_i (A1 u1 f1) (ANDS_i (A2 u1 f1) (ANDS_i (A3 u1 f1) (ANDS_i (A2 u1 f1) ?_)))
      refine nz2 zc_34 fun u2 f2 y2 d1 d2 => ?_
      have f12 := f1.trans f2
      refine ANDS_i (A1 u2 f12) (ANDS_i (A2 u2 f12) (ANDS_i (A3 u2 f12) (ANDS_i (A2 u2 f12) ?_)))
      refine wrB (f2.own b1) (f2.own b2) rfl rfl fun u3 k3 y3 b1' b2' => ?_
      have f3 : Ext u u3 := ext_kp f12 (Nat.le_refl _) k3
      refine ANDS_i (A1 u3 f3) (ANDS_i (A2 u3 f3) ?_)
      have n1 : ¬ u1.size = u.size := by omega
      refine wrB (k3.own n1 d1) (k3.own n1 d2) rfl rfl fun u4 k4 y4 d1' d2' => ?_
      have n2 : ¬ u.size = u1.size := by omega
      exact hJ5 u4 _ _ (ext_kp f3 (by omega) k4) (k4.own n2 b1') (k4.own n2 b2') d1' d2'
    · refine nz2 zc_34 fun u1 f1 y1 d1 d2 => ?_
      refine ANDS_i (A1 u1 f1) (ANDS_i (A2 u1 f1) (ANDS_i (A3 u1 f1) (ANDS_i (A2 u1 f1) ?_)))
      refine nz2 zc_34 fun u2 f2 y2 b1 b2 => ?_
      have f12 := f1.trans f2
      refine ANDS_i (A1 u2 f12) (ANDS_i (A2 u2 f12) (ANDS_i (A3 u2 f12) (ANDS_i (A2 u2 f12) ?_)))
      refine wrB b1 b2 rfl rfl fun u3 k3 y3 b1' b2' => ?_
      have f3 : Ext u u3 := ext_kp f12 (by omega) k3
      refine ANDS_i (A1 u3 f3) (ANDS_i (A2 u3 f3) ?_)
      have n1 : ¬ u.size = u1.size := by omega
      refine wrB (k3.own n1 (f2.own d1)) (k3.own n1 (f2.own d2)) rfl rfl fun u4 k4 y4 d1' d2' => ?_
      have n2 : ¬ u1.size = u.size := by omega
      exact hJ5 u4 _ _ (ext_kp f3 (by omega) k4) (k4.own n2 b1') (k4.own n2 b2') d1' d2'
  have hJ0 : ∀ q t, Ext s1 t → q = !(sizesC c) → J_ref07_Clock_0 W (endK K E) q s.size t := by
    intro q t et hq
    unfold J_ref07_Clock_0
    refine BR_bool (fun ht => ?_) (fun hf => ?_)
    · have : sizesC c = false := by rw [ht] at hq; revert hq; cases sizesC c <;> simp
      exact no (by unfold okC; rw [this]; rfl) t et
    · have : sizesC c = true := by rw [hf] at hq; revert hq; cases sizesC c <;> simp
      exact hW t et this
  have hJ1 : ∀ q t, Ext s1 t → q = !(decide (c.ws.length ≤ 2 ∧ 0 ≤ c.n ∧ c.n ≤ 5 ∧ c.rs.length ≤ 8)) → J_ref07_Clock_1 W (endK K E) q s.size t := by
    intro q t et hq
    unfold J_ref07_Clock_1
    refine BR_bool (fun ht => ?_) (fun hf => ?_)
    · rw [ht] at hq
      have h4 : ¬ (c.ws.length ≤ 2 ∧ 0 ≤ c.n ∧ c.n ≤ 5 ∧ c.rs.length ≤ 8) := fun hh => by rw [decide_eq_true hh] at hq; cases hq
      refine hJ0 true t et ?_
      unfold sizesC
      rw [decide_eq_false (by omega)]; rfl
    · rw [hf] at hq
      have h4 : c.ws.length ≤ 2 ∧ 0 ≤ c.n ∧ c.n ≤ 5 ∧ c.rs.length ≤ 8 := by simpa using hq
      refine ⟨_, _, _, (et.own o4).cell, ?_⟩
      refine hJ0 _ t et ?_
      unfold sizesC
      by_cases h5 : c.ls.length ≤ 5
      · rw [decide_eq_true (show c.ws.length ≤ 2 ∧ 0 ≤ c.n ∧ c.n ≤ 5 ∧ c.rs.length ≤ 8 ∧ c.ls.length ≤ 5 by omega)]
        exact decide_eq_false (by omega)
      · rw [decide_eq_false (show ¬ (c.ws.length ≤ 2 ∧ 0 ≤ c.n ∧ c.n ≤ 5 ∧ c.rs.length ≤ 8 ∧ c.ls.length ≤ 5) by omega)]
        exact decide_eq_true (by omega)
  have hJ2 : ∀ q t, Ext s1 t → q = !(decide (c.ws.length ≤ 2 ∧ 0 ≤ c.n ∧ c.n ≤ 5)) → J_ref07_Clock_2 W (endK K E) q s.size t := by
    intro q t et hq
    unfold J_ref07_Clock_2
    refine BR_bool (fun ht => ?_) (fun hf => ?_)
    · rw [ht] at hq
      have h4 : ¬ (c.ws.length ≤ 2 ∧ 0 ≤ c.n ∧ c.n ≤ 5) := fun hh => by rw [decide_eq_true hh] at hq; cases hq
      refine hJ1 true t et ?_
      rw [decide_eq_false (by omega)]; rfl
    · rw [hf] at hq
      have h4 : c.ws.length ≤ 2 ∧ 0 ≤ c.n ∧ c.n ≤ 5 := by simpa using hq
      refine ⟨_, _, _, (et.own o3).cell, ?_⟩
      refine hJ1 _ t et ?_
      by_cases h5 : c.rs.length ≤ 8
      · rw [decide_eq_true (show c.ws.length ≤ 2 ∧ 0 ≤ c.n ∧ c.n ≤ 5 ∧ c.rs.length ≤ 8 by omega)]
        exact decide_eq_false (by omega)
      · rw [decide_eq_false (show ¬ (c.ws.length ≤ 2 ∧ 0 ≤ c.n ∧ c.n ≤ 5 ∧ c.rs.length ≤ 8) by omega)]
        exact decide_eq_true (by omega)
  refine BR_dec (fun h1 => ?_) (fun h1 => ?_)
  · refine hJ2 true s1 (Ext.refl _) ?_
    rw [decide_eq_false (by omega)]; rfl
  · refine ⟨_, o2.cell, ?_⟩
    refine f_in ?_
    try simp only [TUP_mk, AGG_mk, HD_mk, NL_mk, TYI_mk, TYB_mk, TYP_mk, TYL_mk, TYS_mk, TYM_mk, SO_mk, NX_mk, endK_mk, endK_mk', add_0]
    refine hJ2 _ s1 (Ext.refl _) ?_
    congr 1
    congr 1; apply propext; omega
end
end Go.Proofs.Ytknpmijgdfeliaa.G

/- Clock: what the statements ask with: clocks that are heavy, clocks with some readings. -/
set_option linter.unusedSimpArgs false
set_option linter.unusedVariables false
set_option maxRecDepth 20000
namespace Go.Proofs.Ytknpmijgdfeliaa.G
open Go.V
/-- The readings of a set. -/
def partL (S : Nat) : List Rd → Nat → List Rd
  | [], _ => []
  | r :: rs, i => if S.testBit i then r :: partL S rs (i + 1) else partL S rs (i + 1)
def partC (c : Clk) (S : Nat) : Clk := { c with rs := partL S c.rs 0 }
theorem part_app {S : Nat} {r : Rd} : ∀ (l : List Rd) (j : Nat), partL S (l ++ [r]) j = partL S l j ++ (if S.testBit (j + l.length) then [r] else [])
  | [], j => by
    show (if S.testBit j then _ else _) = _
    simp [partL]
  | x :: l, j => by
    have ih := part_app (S := S) (r := r) l (j + 1)
    show (if S.testBit j then x :: partL S (l ++ [r]) (j + 1) else partL S (l ++ [r]) (j + 1)) = (if S.testBit j then x :: partL S l (j + 1) else partL S l (j + 1)) ++ _
    rw [ih, show j + 1 + l.length = j + (x :: l).length by simp; omega]
    split <;> rfl
theorem part_len {S : Nat} : ∀ (l : List Rd) (j : Nat), (partL S l j).length ≤ l.length
  | [], _ => Nat.le_refl _
  | x :: l, j => by
    have := part_len (S := S) l (j + 1)
    unfold partL
    split <;> simp <;> omega
theorem part_mem {S : Nat} {r : Rd} : ∀ (l : List Rd) (j : Nat), r ∈ partL S l j ↔ ∃ i, ∃ h : i < l.length, S.testBit (j + i) = true ∧ l[i] = r
  | [], j => by simp [partL]
  | x :: l, j => by
    have ih := part_mem (S := S) (r := r) l (j + 1)
    have hs : (∃ i, ∃ h : i < l.length, S.testBit (j + 1 + i) = true ∧ l[i] = r) ↔ ∃ i, ∃ h : i + 1 < (x :: l).length, S.testBit (j + (i + 1)) = true ∧ (x :: l)[i + 1] = r := by
      constructor
      · rintro ⟨i, h, h1, h2⟩; exact ⟨i, by simpa using h, by rw [show j + (i + 1) = j + 1 + i by omega]; exact h1, h2⟩
      · rintro ⟨i, h, h1, h2⟩; exact ⟨i, by simpa using h, by rw [show j + 1 + i = j + (i + 1) by omega]; exact h1, h2⟩
    have hiff : r ∈ partL S (x :: l) j ↔ (S.testBit j = true ∧ x = r) ∨ r ∈ partL S l (j + 1) := by
      show r ∈ (if S.testBit j then x :: partL S l (j + 1) else partL S l (j + 1)) ↔ _
      by_cases hb : S.testBit j = true
      · rw [if_pos hb, List.mem_cons]
        constructor
        · rintro (rfl | h)
          · exact .inl ⟨hb, rfl⟩
          · exact .inr h
        · rintro (⟨_, rfl⟩ | h)
          · exact .inl rfl
          · exact .inr h
      · rw [if_neg hb]
        exact ⟨.inr, fun h => h.resolve_left fun h' => hb h'.1⟩
    rw [hiff, ih, hs]
    constructor
    · rintro (⟨h1, h2⟩ | ⟨i, h, h1, h2⟩)
      · exact ⟨0, by simp, h1, h2⟩
      · exact ⟨i + 1, h, h1, h2⟩
    · rintro ⟨i, h, h1, h2⟩
      cases i with
      | zero => exact .inl ⟨h1, h2⟩
      | succ i => exact .inr ⟨i, h, h1, h2⟩
theorem part_ok {c : Clk} {S : Nat} (hv : VdC c) : VdC (partC c S) where
  w2 := hv.w2
  n0 := hv.n0
  n5 := hv.n5
  r8 := Nat.le_trans (part_len _ _) hv.r8
  l5 := hv.l5
  wt := hv.wt
  rd := fun r hr => by
    obtain ⟨i, hi, _, rfl⟩ := (part_mem _ _).1 hr
    exact hv.rd _ (List.getElem_mem hi)
  lk := hv.lk
theorem part_truth {c : Clk} {S : Nat} {g : List Go'} {m : Int → Int} : Truth (partC c S) (everyN (partC c S)) g m ↔ Truth c S g m := by
  constructor
  · intro h
    refine ⟨h.goes, h.days, fun i hi hb => ?_, h.links⟩
    have hm : c.rs[i] ∈ partL S c.rs 0 := (part_mem _ _).2 ⟨i, hi, by rw [Nat.zero_add]; exact hb, rfl⟩
    obtain ⟨j, hj, he⟩ := List.getElem_of_mem hm
    have := h.shows j hj (every_bit hj)
    have e2 : (partC c S).rs[j] = c.rs[i] := he
    rw [e2] at this
    exact this
  · intro h
    refine ⟨h.goes, h.days, fun i hi hb => ?_, h.links⟩
    obtain ⟨j, hj, hb2, he⟩ := (part_mem c.rs 0).1 (List.getElem_mem (l := partL S c.rs 0) hi)
    have := h.shows j hj (by rw [Nat.zero_add] at hb2; exact hb2)
    rw [he] at this
    exact this
theorem part_can {c : Clk} {S : Nat} : CanC (partC c S) (everyN (partC c S)) ↔ CanC c S :=
  ⟨fun ⟨g, m, h⟩ => ⟨g, m, part_truth.1 h⟩, fun ⟨g, m, h⟩ => ⟨g, m, part_truth.2 h⟩⟩
def rd3 (r : Rd) : List Value := [.int .i64 r.ev, .int .i64 r.wa, .int .i64 r.sh]
def rdV (l : List Rd) : List Value := l.flatMap rd3
theorem rdV_len (l : List Rd) : (rdV l).length = l.length * 3 := by unfold rdV; exact flat_len (M := 3) (f := rd3) l fun x _ => rfl
theorem rdV_app (a b : List Rd) : rdV (a ++ b) = rdV a ++ rdV b := by unfold rdV; rw [List.flatMap_append]
theorem row_rd {s : Hp} {x : Option Addr} {l : List Rd} (h : RowAt s x (rdV l)) : RdAt s x l := fun i hi => by
  have hl := rdV_len l
  have hg : ∀ t : Nat, t < 3 → (rdV l)[i * 3 + t]? = (rd3 l[i])[t]? := fun t ht => flat_get (M := 3) (f := rd3) l (fun x _ => rfl) i hi t ht
  have hc : ∀ t (ht : t < 3) (a : Addr), x = some a → cellAt s ((a.add (i * 3)).add t) = some ((rd3 l[i])[t]'ht) := fun t ht a ha => by
    have hlt : i * 3 + t < (rdV l).length := by rw [hl]; omega
    obtain ⟨b, hb, hcell⟩ := h (i * 3 + t) hlt
    rw [ha] at hb; cases hb
    have := hg t ht
    rw [List.getElem?_eq_getElem hlt, List.getElem?_eq_getElem (show t < (rd3 l[i]).length from ht)] at this
    rw [Nat.mul_one] at hcell
    rw [addr_add, hcell]
    exact this
  obtain ⟨a, ha, _⟩ := h (i * 3) (by rw [hl]; omega)
  exact ⟨a, ha, hc 0 (by omega) a ha, hc 1 (by omega) a ha, hc 2 (by omega) a ha⟩
theorem bit_i64 : ∀ S : Nat, S < 256 → ∀ i : Nat, i < 8 → (andv .i64 (shrv .i64 (S : Int) (i : Int)) 1 == 1) = S.testBit i := by
  have h : ((List.range 256).all fun (S : Nat) => (List.range 8).all fun (i : Nat) => decide ((andv .i64 (shrv .i64 (S : Int) (i : Int)) 1 == 1) = S.testBit i)) = true := by decide +kernel
  intro x hx i hi
  have h1 := List.all_eq_true.1 h x (by simpa using hx)
  have h2 := List.all_eq_true.1 h1 i (by simpa using hi)
  exact of_decide_eq_true h2
section
variable {W : World} {K : VK} {E : List PanicEntry → Hp → Prop} {s : Hp} {c : Clk} {x y z : Option Addr} {c1 c2 c3 : Nat}
theorem c_heavy {a b : Int} (hc : ClV s c x y z) (h : ∀ s' q, Ext s s' → (q = false → okC c = true → (c.rs.length : Int) ≤ b) → K (.bool q) s') : CALL Pg W F_law07_heavy [clkV c x y z c1 c2 c3, .int .i64 a, .int .i64 b] K E s := by
  unfold clkV
  refine does_law07_heavy W x _ c1 c.n y _ c2 z _ c3 a b _ s ?_
  unfold T_law07_heavy
  refine ne4 fun s1 e1 z1 o1 o2 o3 o4 => ⟨_, _, _, o1.cell, ⟨_, _, _, o3.cell, ⟨_, _, _, o4.cell, ?_⟩⟩⟩
  refine BR_bool (fun _ => h s1 true e1 (fun h => by cases h)) (fun _ => ?_)
  refine ⟨_, _, _, o1.cell, ⟨_, o2.cell, ⟨_, _, _, o3.cell, ⟨_, _, _, o4.cell, ?_⟩⟩⟩⟩
  refine f_Clock (hc.ext e1) fun s2 e2 => ?_
  try simp only [TUP_mk, AGG_mk, HD_mk, NL_mk, TYI_mk, TYB_mk, TYP_mk, TYL_mk, TYS_mk, TYM_mk, SO_mk, NX_mk, endK_mk, endK_mk', add_0]
  refine BR_not (fun hno => h s2 false (e1.trans e2) (fun _ h => by rw [hno] at h; cases h)) (fun hok => ?_)
  have hv := okC_iff.1 hok
  have hw2 := hv.w2
  refine ⟨_, _, _, (e2.own o1).cell, ?_⟩
  refine L_law07_heavy_0_rule W _ a b ⟨s.size, 0, none⟩ x _ c1 _ (fun _ n t => Ext s2 t ∧ ∃ k : Nat, n = k ∧ k ≤ c.ws.length) (fun _ n _ => ((c.ws.length : Int) - n).toNat) 1 0 s2 ⟨Ext.refl _, 0, rfl, Nat.zero_le _⟩ ?_
  rintro v n t ⟨et, k, rfl, hk⟩
  unfold B_law07_heavy_0
  have e12 := (e1.trans e2).trans et
  refine BR_dec (fun hlt => ?_) (fun hge => ?_)
  · have hkl : k < c.ws.length := by omega
    obtain ⟨a, hx0, g1, g2, g3, g4⟩ := (hc.ext e12).ws k hkl
    subst hx0
    refine IXS_nat hkl ⟨_, g1, ⟨_, g2, ⟨_, g3, ⟨_, g4, ?_⟩⟩⟩⟩
    refine nw4 zc_66 rfl rfl rfl rfl fun u f zu p1 p2 p3 p4 => ?_
    refine ⟨_, p2.cell, ⟨_, p1.cell, ⟨_, p4.cell, ⟨_, p3.cell, ?_⟩⟩⟩⟩
    try simp only [TUP_mk, AGG_mk, HD_mk, NL_mk, TYI_mk, TYB_mk, TYP_mk, TYL_mk, TYS_mk, TYM_mk, SO_mk, NX_mk, endK_mk, endK_mk', add_0]
    exact ⟨_, _, rfl, ⟨et.trans f, k + 1, wrap_succ (by omega), hkl⟩, ms_succ hkl (by omega)⟩
  · refine BR_bool (fun _ => h t true e12 (fun h => by cases h)) (fun _ => ⟨_, _, _, ((e2.trans et).own o3).cell, h t _ e12 fun hq _ => ?_⟩)
    have := of_decide_eq_false hq
    omega
theorem c_part {S : Nat} (hc : ClV s c x y z) (hr8 : c.rs.length ≤ 8) (hS : S < 256) (h : ∀ s' y' cc, Ext s s' → ClV s' (partC c S) x y' z → (∀ q, y' = some q → s.size ≤ q.block) → K (clkV (partC c S) x y' z c1 cc c3) s') : CALL Pg W F_law07_part [clkV c x y z c1 c2 c3, .int .i64 (S : Nat)] K E s := by
  unfold clkV
  refine does_law07_part W x _ c1 c.n y _ c2 z _ c3 S _ s ?_
  unfold T_law07_part
  refine ne4 fun s1 e1 z1 o1 o2 o3 o4 => ?_
  refine nz4 zc_26 fun s2 e2 z2 r1 r2 r3 r4 => ?_
  refine ⟨_, _, _, (e2.own o1).cell, ⟨_, (e2.own o2).cell, ⟨_, _, _, (e2.own o3).cell, ⟨_, _, _, (e2.own o4).cell, ?_⟩⟩⟩⟩
  refine nw4 zc_26 rfl rfl rfl rfl fun s3 e3 z3 q1 q2 q3 q4 => ?_
  refine wrOne (i := 2) q3 rfl fun s4 k4 z4 q3' qk => ?_
  have q1' := qk 0 _ (by omega) q1
  have q2' := qk 1 _ (by omega) q2
  have q4' := qk 3 _ (by omega) q4
  have e13 := e2.trans e3
  have e03 := e1.trans e13
  have e04 : Ext s s4 := ext_kp e03 (show s.size ≤ s2.size by omega) k4
  have n1 : ¬ s.size = s2.size := by omega
  have n2 : ¬ s1.size = s2.size := by omega
  refine ⟨_, _, _, (k4.own n1 (e13.own o3)).cell, ?_⟩
  have r1' := k4.own n2 (e3.own r1)
  have r2' := k4.own n2 (e3.own r2)
  have r3' := k4.own n2 (e3.own r3)
  have r4' := k4.own n2 (e3.own r4)
  have hlt : s2.size < s4.size := by omega
  refine L_law07_part_0_rule W _ (S : Nat) ⟨s1.size, 0, none⟩ ⟨s2.size, 0, none⟩ y _ c2 _ (fun n t => ∃ (k : Nat) (x' : Option Addr) (l cc : Nat), n = k ∧ k ≤ c.rs.length ∧ Kp (· = s2.size) s4 t ∧ Own t ⟨s2.size, 0, none⟩ (.slice x c.ws.length c1) ∧ Own t ⟨s2.size, 1, none⟩ (.int .i64 c.n) ∧ Own t ⟨s2.size, 2, none⟩ (.slice x' l cc) ∧ Own t ⟨s2.size, 3, none⟩ (.slice z c.ls.length c3) ∧ Fr s4.size t x' l cc 3 (rdV (partL S (c.rs.take k) 0))) (fun n _ => ((c.rs.length : Int) - n).toNat) 0 s4
    ⟨0, none, 0, 0, rfl, Nat.zero_le _, Kp.refl _, q1', q2', q3', q4', Fr.nil _ _ _⟩ ?_
  rintro n t ⟨k, x', l, cc, rfl, hk, kt, w1, w2, w3, w4, fr⟩
  have et : Ext s t := ext_kp e04 (show s.size ≤ s2.size by omega) kt
  have hl : l = (partL S (c.rs.take k) 0).length := by have := fr.len; rw [rdV_len] at this; omega
  have hl8 : l ≤ 8 := by have := part_len (S := S) (c.rs.take k) 0; simp at this; omega
  unfold B_law07_part_0
  refine BR_dec (fun hlt2 => ?_) (fun hge => ?_)
  · have hkl : k < c.rs.length := by omega
    obtain ⟨a, hx0, g1, g2, g3⟩ := (hc.ext et).rs k hkl
    have htk : partL S (c.rs.take (k + 1)) 0 = partL S (c.rs.take k) 0 ++ (if S.testBit k then [c.rs[k]] else []) := by
      rw [take_succ' hkl, part_app]
      simp [Nat.min_eq_left (Nat.le_of_lt hkl)]
    subst hx0
    refine IXS_nat hkl ⟨_, g1, ⟨_, g2, ⟨_, g3, ?_⟩⟩⟩
    refine nw3 zc_61 rfl rfl rfl fun u1 f1 y1 p1 p2 p3 => ?_
    refine NNI_of (by omega) ?_
    rw [bit_i64 S hS k (by omega)]
    have kt1 : Kp (· = s2.size) s4 u1 := kt.ext f1
    refine BR_bool (fun hb => ?_) (fun hb => ?_)
    · refine ⟨_, _, _, (f1.own w3).cell, ⟨_, p1.cell, ⟨_, p2.cell, ⟨_, p3.cell, ?_⟩⟩⟩⟩
      refine NEW_rule fun u2 f2 y2 n2' _ => ?_
      have f12 := f1.trans f2
      have hz4 : s4.size ≤ t.size := kt.1
      refine APP_fr (lo := s4.size) (fr.ext f12) (by have := f12.1; omega) (ws := rd3 c.rs[k]) (fun i hi => ⟨⟨u1.size, 0, none⟩, rfl, ?_⟩) rfl zc_61 rfl (by omega) (by simp [rd3, oneCell]) (by omega) fun u3 x3 c3' k3 hx3 fr3 => ?_
      · have hi3 : i < 3 := hi
        match i, hi3 with
        | 0, _ => exact (n2' 0 _ rfl).cell
        | 1, _ => exact (n2' 1 _ rfl).cell
        | 2, _ => exact (n2' 2 _ rfl).cell
      · have hnD : ¬ (∃ a', x' = some a' ∧ a'.block = s2.size) := by
          rintro ⟨a', ha', hb'⟩
          have := fr.fr a' ha'
          omega
        have f2o : ∀ {j v}, Own t ⟨s2.size, j, none⟩ v → Own u3 ⟨s2.size, j, none⟩ v := fun o => k3.own hnD (f12.own o)
        refine wrOne (i := 2) (f2o w3) rfl fun u4 k5 y5 w3' wk => ?_
        unfold J_law07_part_0
        try simp only [TUP_mk, AGG_mk, HD_mk, NL_mk, TYI_mk, TYB_mk, TYP_mk, TYL_mk, TYS_mk, TYM_mk, SO_mk, NX_mk, endK_mk, endK_mk', add_0]
        have kt3 : Kp (· = s2.size) s4 u3 := ⟨by have := f12.1; have := k3.1; omega, fun b hb0 hb1 => by
          rw [k3.2 b (by have := f12.1; omega) (by
            rintro ⟨a', ha', hb'⟩
            have h6 := fr.fr a' ha'
            omega), f12.2 b (by omega)]
          exact kt.2 b hb0 hb1⟩
        refine ⟨_, rfl, ⟨k + 1, x3, l + 1, c3', wrap_succ (by omega), hkl, kt3.trans k5, wk 0 _ (by omega) (f2o w1), wk 1 _ (by omega) (f2o w2), w3', wk 3 _ (by omega) (f2o w4), ?_⟩, ms_succ hkl (by omega)⟩
        rw [htk, if_pos hb, rdV_app]
        have e1 : rdV [c.rs[k]] = rd3 c.rs[k] := by unfold rdV; simp
        rw [e1]
        exact fr3.kp k5 fun a' ha' hb' => by have := fr3.fr a' ha'; have : a'.block = s2.size := hb'; omega
    · unfold J_law07_part_0
      try simp only [TUP_mk, AGG_mk, HD_mk, NL_mk, TYI_mk, TYB_mk, TYP_mk, TYL_mk, TYS_mk, TYM_mk, SO_mk, NX_mk, endK_mk, endK_mk', add_0]
      refine ⟨_, rfl, ⟨k + 1, x', l, cc, wrap_succ (by omega), hkl, kt1, f1.own w1, f1.own w2, f1.own w3, f1.own w4, ?_⟩, ms_succ hkl (by omega)⟩
      rw [htk, if_neg (by rw [hb]; simp), List.append_nil]
      exact fr.ext f1
  · have hkl : k = c.rs.length := by omega
    subst hkl
    rw [List.take_length] at fr hl
    refine ⟨_, _, _, w1.cell, ⟨_, w2.cell, ⟨_, _, _, w3.cell, ⟨_, _, _, w4.cell, ?_⟩⟩⟩⟩
    have n3 : ¬ s1.size = s2.size := by omega
    have t1 := kt.own n3 r1'
    have t2 := kt.own n3 r2'
    have t3 := kt.own n3 r3'
    have t4 := kt.own n3 r4'
    show wrN [_, _, _, _] ⟨s1.size, 0, none⟩ 0 _ t
    refine wrN_rule _ _ 0 _ t (fun i hi => ?_) ?_ ?_
    · match i, hi with
      | 0, _ => exact ⟨_, t1⟩
      | 1, _ => exact ⟨_, t2⟩
      | 2, _ => exact ⟨_, t3⟩
      | 3, _ => exact ⟨_, t4⟩
    · intro w hw
      simp at hw
      rcases hw with rfl | rfl | rfl | rfl <;> rfl
    · intro u k zu ho _
      have q0 := ho 0 (by simp)
      have q1 := ho 1 (by simp)
      have q2 := ho 2 (by simp)
      have q3 := ho 3 (by simp)
      refine ⟨_, _, _, q0.cell, ⟨_, q1.cell, ⟨_, _, _, q2.cell, ⟨_, _, _, q3.cell, ?_⟩⟩⟩⟩
      have eu : Ext s u := ext_kp et (show s.size ≤ s1.size by omega) k
      have hcu := hc.ext eu
      have hro : RowAt u x' (rdV (partL S c.rs 0)) := fr.row.keep k fun a' ha' hb' => by have := fr.fr a' ha'; have : a'.block = s1.size := hb'; omega
      have hh := h u x' cc eu ⟨hcu.ws, row_rd hro, hcu.ls⟩ (fun q hq => by have := fr.fr q hq; omega)
      rw [hl]
      exact hh
end
end Go.Proofs.Ytknpmijgdfeliaa.G

/- Clock: plain: a watch without readings; a reading that tells nothing more. -/
set_option linter.unusedSimpArgs false
set_option linter.unusedVariables false
set_option maxRecDepth 20000
namespace Go.Proofs.Ytknpmijgdfeliaa.G
open Go.V
theorem goes_set : ∀ {ws : List Wt} {g : List Go'}, GoesOk ws g → ∀ (i : Nat) (hi : i < ws.length) (q : Go'), GoOk ws[i] q → GoesOk ws (g.set i q)
  | _, _, .nil, i, hi, _, _ => by simp at hi
  | _, _, .cons h t, 0, _, q, hq => .cons hq t
  | _, _, .cons h t, i + 1, hi, q, hq => .cons h (goes_set t i (by simpa using hi) q hq)
theorem getD_set_ne {g : List Go'} {i j : Nat} {q : Go'} (h : i ≠ j) : (g.set i q).getD j (0, 0) = g.getD j (0, 0) := by
  simp only [List.getD_eq_getElem?_getD, List.getElem?_set, if_neg h]
theorem getD_set_eq {g : List Go'} {i : Nat} {q : Go'} (h : i < g.length) : (g.set i q).getD i (0, 0) = q := by
  simp only [List.getD_eq_getElem?_getD, List.getElem?_set, if_pos h, if_true, Option.getD_some]
/-- A watch whose readings are not asked for can go in any way. -/
theorem truth_set {c : Clk} {S : Nat} {g : List Go'} {m : Int → Int} {w : Nat} {q : Go'} (hv : VdC c) (h : Truth c S g m) (hw : w < c.ws.length) (hq : GoOk c.ws[w] q) (hno : ∀ i (hi : i < c.rs.length), S.testBit i = true → c.rs[i].wa ≠ (w : Int)) : Truth c S (g.set w q) m where
  goes := goes_set h.goes w hw q hq
  days := h.days
  shows := fun i hi hb => by
    have h1 := hno i hi hb
    have h2 := hv.rd _ (List.getElem_mem hi)
    rw [getD_set_ne (by omega)]
    exact h.shows i hi hb
  links := h.links
theorem alone_span {c : Clk} {S : Nat} {w : Nat} {zl zh rl rh : Int} (hv : VdC c) (hw : w < c.ws.length) (hno : ∀ i (hi : i < c.rs.length), S.testBit i = true → c.rs[i].wa ≠ (w : Int)) (hz : SpanC c S (zeroV (w : Int)) zl zh) (hr : SpanC c S (rateV (w : Int)) rl rh) :
    zl = c.ws[w].zlo ∧ zh = c.ws[w].zhi ∧ rl = c.ws[w].rlo ∧ rh = c.ws[w].rhi := by
  obtain ⟨⟨g1, m1, t1, v1⟩, ⟨g2, m2, t2, v2⟩, hz3⟩ := hz
  obtain ⟨⟨g3, m3, t3, v3⟩, ⟨g4, m4, t4, v4⟩, hr3⟩ := hr
  have hwv := hv.wt _ (List.getElem_mem hw)
  have hb : ∀ g m, Truth c S g m → GoOk c.ws[w] (g.getD w (0, 0)) := fun g m t => t.goes.get w hw
  have hlen : ∀ g m, Truth c S g m → w < g.length := fun g m t => by rw [t.goes.len]; exact hw
  have hzv : ∀ g : List Go', ∀ m, zeroV (w : Int) g m = (g.getD w (0, 0)).1 := fun g m => by unfold zeroV; rw [Int.toNat_natCast]
  have hrv : ∀ g : List Go', ∀ m, rateV (w : Int) g m = (g.getD w (0, 0)).2 := fun g m => by unfold rateV; rw [Int.toNat_natCast]
  rw [hzv] at v1 v2
  rw [hrv] at v3 v4
  have b1 := hb g1 m1 t1
  have b2 := hb g2 m2 t2
  have b3 := hb g3 m3 t3
  have b4 := hb g4 m4 t4
  have hput : ∀ q : Go', GoOk c.ws[w] q → zl ≤ q.1 ∧ q.1 ≤ zh ∧ rl ≤ q.2 ∧ q.2 ≤ rh := fun q hq => by
    have t := truth_set hv t1 hw hq hno
    have x := hz3 _ _ t
    have y := hr3 _ _ t
    rw [hzv, getD_set_eq (hlen g1 m1 t1)] at x
    rw [hrv, getD_set_eq (hlen g1 m1 t1)] at y
    exact ⟨x.1, x.2, y.1, y.2⟩
  have p1 := hput (c.ws[w].zlo, c.ws[w].rlo) ⟨Int.le_refl _, hwv.2.1, Int.le_refl _, hwv.2.2.2.2.2.1⟩
  have p2 := hput (c.ws[w].zhi, c.ws[w].rhi) ⟨hwv.2.1, Int.le_refl _, hwv.2.2.2.2.2.1, Int.le_refl _⟩
  unfold GoOk at b1 b2 b3 b4
  simp only at p1 p2
  omega
/-- A clock with a reading more. -/
def moreR (c : Clk) (r : Rd) : Clk := { c with rs := c.rs ++ [r] }
theorem moreR_ok {c : Clk} {r : Rd} (hv : VdC c) (h7 : c.rs.length ≤ 7) (hr : 0 ≤ r.ev ∧ r.ev < c.n ∧ 0 ≤ r.wa ∧ r.wa < c.ws.length ∧ 0 ≤ r.sh ∧ r.sh ≤ 2000) : VdC (moreR c r) where
  w2 := hv.w2
  n0 := hv.n0
  n5 := hv.n5
  r8 := by show (c.rs ++ [r]).length ≤ 8; simp; omega
  l5 := hv.l5
  wt := hv.wt
  rd := fun q hq => by
    rcases List.mem_append.1 hq with hq | hq
    · exact hv.rd q hq
    · rw [List.mem_singleton] at hq; subst hq; exact hr
  lk := hv.lk
theorem truth_every {c : Clk} {g : List Go'} {m : Int → Int} : Truth c (everyN c) g m ↔ GoesOk c.ws g ∧ (∀ e, 0 ≤ e → e < c.n → 0 ≤ m e ∧ m e ≤ 600) ∧ (∀ r ∈ c.rs, showP (g.getD r.wa.toNat (0, 0)) (m r.ev) = r.sh) ∧ ∀ l ∈ c.ls, l.lo ≤ m l.b - m l.a ∧ m l.b - m l.a ≤ l.hi := by
  constructor
  · intro h
    refine ⟨h.goes, h.days, fun r hr => ?_, h.links⟩
    obtain ⟨i, hi, rfl⟩ := List.getElem_of_mem hr
    exact h.shows i hi (every_bit hi)
  · rintro ⟨h1, h2, h3, h4⟩
    exact ⟨h1, h2, fun i hi _ => h3 _ (List.getElem_mem hi), h4⟩
theorem moreR_truth {c : Clk} {r : Rd} {g : List Go'} {m : Int → Int} : Truth (moreR c r) (everyN (moreR c r)) g m ↔ Truth c (everyN c) g m ∧ showP (g.getD r.wa.toNat (0, 0)) (m r.ev) = r.sh := by
  rw [truth_every, truth_every]
  constructor
  · rintro ⟨h1, h2, h3, h4⟩
    exact ⟨⟨h1, h2, fun q hq => h3 q (List.mem_append_left _ hq), h4⟩, h3 r (List.mem_append_right _ (by simp))⟩
  · rintro ⟨⟨h1, h2, h3, h4⟩, h5⟩
    refine ⟨h1, h2, fun q hq => ?_, h4⟩
    rcases List.mem_append.1 hq with hq | hq
    · exact h3 q hq
    · rw [List.mem_singleton] at hq; subst hq; exact h5
theorem span_uniq {c c' : Clk} {S S' : Nat} {val : List Go' → (Int → Int) → Int} {lo hi lo' hi' : Int} (h : SpanC c S val lo hi) (h' : SpanC c' S' val lo' hi') (he : ∀ g m, Truth c S g m ↔ Truth c' S' g m) : lo = lo' ∧ hi = hi' := by
  obtain ⟨⟨g1, m1, t1, v1⟩, ⟨g2, m2, t2, v2⟩, h3⟩ := h
  obtain ⟨⟨g1', m1', t1', v1'⟩, ⟨g2', m2', t2', v2'⟩, h3'⟩ := h'
  have a1 := h3' _ _ ((he _ _).1 t1)
  have a2 := h3' _ _ ((he _ _).1 t2)
  have a3 := h3 _ _ ((he _ _).2 t1')
  have a4 := h3 _ _ ((he _ _).2 t2')
  omega
theorem span_sub {c c' : Clk} {S S' : Nat} {val : List Go' → (Int → Int) → Int} {lo hi lo' hi' : Int} (h : SpanC c S val lo hi) (h' : SpanC c' S' val lo' hi') (he : ∀ g m, Truth c' S' g m → Truth c S g m) : lo ≤ lo' ∧ hi' ≤ hi := by
  obtain ⟨_, _, h3⟩ := h
  obtain ⟨⟨g1', m1', t1', v1'⟩, ⟨g2', m2', t2', v2'⟩, _⟩ := h'
  have a3 := h3 _ _ (he _ _ t1')
  have a4 := h3 _ _ (he _ _ t2')
  omega
end Go.Proofs.Ytknpmijgdfeliaa.G

/- Clock: a clock of watches that truly go: plain, and rows. -/
set_option linter.unusedSimpArgs false
set_option linter.unusedVariables false
set_option maxRecDepth 20000
namespace Go.Proofs.Ytknpmijgdfeliaa.G
open Go.V
theorem kp_step {C D : Nat → Prop} {s0 s s' : Hp} (h : Kp D s0 s) (k : Kp C s s') (hc : ∀ q, C q → D q ∨ s0.size ≤ q) : Kp D s0 s' := ⟨Nat.le_trans h.1 k.1, fun q hq hd => (k.2 q (Nat.lt_of_lt_of_le hq h.1) (fun hh => (hc q hh).elim hd (fun h' => by omega))).trans (h.2 q hq hd)⟩
/-- Rows of things of several cells. -/
theorem rowF {α : Type} {f : α → List Value} {M : Nat} (hf : ∀ x, (f x).length = M) {s : Hp} {x : Option Addr} {l : List α} (h : RowAt s x (l.flatMap f)) (i : Nat) (hi : i < l.length) (hM : 0 < M) : ∃ a, x = some a ∧ ∀ t (ht : t < M), cellAt s ((a.add (i * M)).add t) = some ((f l[i])[t]'(by rw [hf]; exact ht)) := by
  have hl : (l.flatMap f).length = l.length * M := flat_len l fun x _ => hf x
  have hlt : ∀ t, t < M → i * M + t < (l.flatMap f).length := fun t ht => by
    rw [hl]
    have : (i + 1) * M ≤ l.length * M := Nat.mul_le_mul_right _ hi
    rw [Nat.add_mul] at this
    omega
  obtain ⟨a, ha, _⟩ := h (i * M) (by have := hlt 0 hM; omega)
  refine ⟨a, ha, fun t ht => ?_⟩
  obtain ⟨b, hb, hcell⟩ := h (i * M + t) (hlt t ht)
  rw [ha] at hb; cases hb
  have hg := flat_get (M := M) (f := f) l (fun x _ => hf x) i hi t ht
  rw [List.getElem?_eq_getElem (hlt t ht), List.getElem?_eq_getElem (by rw [hf]; exact ht)] at hg
  rw [Nat.mul_one] at hcell
  rw [addr_add, hcell]
  exact hg
def go2 (g : Go') : List Value := [.int .i64 g.1, .int .i64 g.2]
def wt4 (w : Wt) : List Value := [.int .i64 w.zlo, .int .i64 w.zhi, .int .i64 w.rlo, .int .i64 w.rhi]
def lk4 (l : Lk) : List Value := [.int .i64 l.a, .int .i64 l.b, .int .i64 l.lo, .int .i64 l.hi]
def mi1 (m : Int) : List Value := [.int .i64 m]
def goV (l : List Go') : List Value := l.flatMap go2
def wtV (l : List Wt) : List Value := l.flatMap wt4
def lkV (l : List Lk) : List Value := l.flatMap lk4
def miV (l : List Int) : List Value := l.flatMap mi1
theorem row_go {s : Hp} {x : Option Addr} {l : List Go'} (h : RowAt s x (goV l)) (i : Nat) (hi : i < l.length) : ∃ a, x = some a ∧ cellAt s ((a.add (i * 2)).add 0) = some (.int .i64 l[i].1) ∧ cellAt s ((a.add (i * 2)).add 1) = some (.int .i64 l[i].2) := by
  obtain ⟨a, h1, h2⟩ := rowF (f := go2) (M := 2) (fun _ => rfl) h i hi (by omega)
  exact ⟨a, h1, h2 0 (by omega), h2 1 (by omega)⟩
theorem row_mi {s : Hp} {x : Option Addr} {l : List Int} (h : RowAt s x (miV l)) (i : Nat) (hi : i < l.length) : ∃ a, x = some a ∧ cellAt s (a.add (i * 1)) = some (.int .i64 l[i]) := by
  obtain ⟨a, h1, h2⟩ := rowF (f := mi1) (M := 1) (fun _ => rfl) h i hi (by omega)
  refine ⟨a, h1, ?_⟩
  have := h2 0 (by omega)
  rw [addr_add] at this
  exact this
theorem row_wt {s : Hp} {x : Option Addr} {l : List Wt} (h : RowAt s x (wtV l)) : WtAt s x l := fun i hi => by
  obtain ⟨a, h1, h2⟩ := rowF (f := wt4) (M := 4) (fun _ => rfl) h i hi (by omega)
  exact ⟨a, h1, h2 0 (by omega), h2 1 (by omega), h2 2 (by omega), h2 3 (by omega)⟩
theorem row_lk {s : Hp} {x : Option Addr} {l : List Lk} (h : RowAt s x (lkV l)) : LkAt s x l := fun i hi => by
  obtain ⟨a, h1, h2⟩ := rowF (f := lk4) (M := 4) (fun _ => rfl) h i hi (by omega)
  exact ⟨a, h1, h2 0 (by omega), h2 1 (by omega), h2 2 (by omega), h2 3 (by omega)⟩
/-- What is truly so of watches, minutes, readings and links. -/
structure Wl (ws : List Wt) (gl : List Go') : Prop where
  len : ws.length ≤ 2
  goes : GoesOk ws gl
  gb : ∀ g ∈ gl, 20 ≤ g.1 ∧ g.1 ≤ 919 ∧ 950 ≤ g.2 ∧ g.2 ≤ 1049
  wb : ∀ w ∈ ws, 0 ≤ w.zlo ∧ w.zlo ≤ w.zhi ∧ w.zhi ≤ 1000 ∧ w.zhi - w.zlo ≤ 6 ∧ 900 ≤ w.rlo ∧ w.rlo ≤ w.rhi ∧ w.rhi ≤ 1100 ∧ w.rhi - w.rlo ≤ 4
theorem GoesOk.snoc : ∀ {ws : List Wt} {gl : List Go'} {w : Wt} {g : Go'}, GoesOk ws gl → GoOk w g → GoesOk (ws ++ [w]) (gl ++ [g])
  | _, _, _, _, .nil, h => .cons h .nil
  | _, _, _, _, .cons a t, h => .cons a (t.snoc h)
theorem Wl.snoc {ws : List Wt} {gl : List Go'} {z r a b c d : Int} (h : Wl ws gl) (hl : ws.length ≤ 1) (hz : 20 ≤ z ∧ z ≤ 919) (hr : 950 ≤ r ∧ r ≤ 1049) (ha : 0 ≤ a ∧ a ≤ 1) (hb : 0 ≤ b ∧ b ≤ 1) (hc : 0 ≤ c ∧ c ≤ 1) (hd : 0 ≤ d ∧ d ≤ 1) : Wl (ws ++ [⟨z - a, z + b, r - c, r + d⟩]) (gl ++ [(z, r)]) where
  len := by simp; omega
  goes := h.goes.snoc ⟨by show z - a ≤ z; omega, by show z ≤ z + b; omega, by show r - c ≤ r; omega, by show r ≤ r + d; omega⟩
  gb := fun g hg => by
    rcases List.mem_append.1 hg with hg | hg
    · exact h.gb g hg
    · rw [List.mem_singleton] at hg; subst hg; exact ⟨hz.1, hz.2, hr.1, hr.2⟩
  wb := fun w hw => by
    rcases List.mem_append.1 hw with hw | hw
    · exact h.wb w hw
    · rw [List.mem_singleton] at hw; subst hw
      simp only
      omega
def Ml (n : Int) (ml : List Int) : Prop := (ml.length : Int) = n ∧ n ≤ 5 ∧ ∀ m ∈ ml, 0 ≤ m ∧ m ≤ 600
def mAt (ml : List Int) : Int → Int := fun e => ml.getD e.toNat 0
def Rl (gl : List Go') (ml : List Int) (rs : List Rd) : Prop := rs.length ≤ 8 ∧ ∀ r ∈ rs, (0 ≤ r.ev ∧ r.ev < ml.length ∧ 0 ≤ r.wa ∧ r.wa < gl.length) ∧ showP (gl.getD r.wa.toNat (0, 0)) (mAt ml r.ev) = r.sh
def Ll (ml : List Int) (ls : List Lk) : Prop := ls.length ≤ 5 ∧ ∀ l ∈ ls, (0 ≤ l.a ∧ l.a < ml.length ∧ 0 ≤ l.b ∧ l.b < ml.length ∧ l.a ≠ l.b ∧ -600 ≤ l.lo ∧ l.lo ≤ l.hi ∧ l.hi ≤ 600) ∧ l.lo ≤ mAt ml l.b - mAt ml l.a ∧ mAt ml l.b - mAt ml l.a ≤ l.hi
/-- What is made: a clock, how its watches go, and when things happened. -/
structure Made (c : Clk) (gl : List Go') (ml : List Int) : Prop where
  ok : VdC c
  len : (ml.length : Int) = c.n
  gb : ∀ g ∈ gl, 20 ≤ g.1 ∧ g.1 ≤ 919 ∧ 950 ≤ g.2 ∧ g.2 ≤ 1049
  mb : ∀ m ∈ ml, 0 ≤ m ∧ m ≤ 600
  goes : GoesOk c.ws gl
  truth : Truth c (everyN c) gl (mAt ml)
theorem mAt_get {ml : List Int} {i : Nat} (hi : i < ml.length) : mAt ml (i : Int) = ml[i] := by
  unfold mAt; rw [Int.toNat_natCast]; simp [List.getD, hi]
theorem show_bnd {g : Go'} {m : Int} (hg : 20 ≤ g.1 ∧ g.1 ≤ 919 ∧ 950 ≤ g.2 ∧ g.2 ≤ 1049) (hm : 0 ≤ m ∧ m ≤ 600) : 0 ≤ showP g m ∧ showP g m ≤ 2000 := by
  unfold showP
  have h0 : 0 ≤ m * g.2 := Int.mul_nonneg hm.1 (by omega)
  have h1 : m * g.2 ≤ 600 * 1049 := Int.mul_le_mul hm.2 hg.2.2.2 (by omega) (by omega)
  generalize m * g.2 = q at *
  omega
theorem made_of {n : Int} {gl : List Go'} {ml : List Int} {ws : List Wt} {rs : List Rd} {ls : List Lk} (hw : Wl ws gl) (hm : Ml n ml) (hr : Rl gl ml rs) (hl : Ll ml ls) : Made ⟨ws, n, rs, ls⟩ gl ml := by
  have hgl : gl.length = ws.length := hw.goes.len
  have hmb : ∀ e : Int, 0 ≤ e → e < ml.length → 0 ≤ mAt ml e ∧ mAt ml e ≤ 600 := fun e h0 h1 => by
    obtain ⟨i, rfl⟩ := Int.eq_ofNat_of_zero_le h0
    have hi : i < ml.length := by omega
    rw [mAt_get hi]
    exact hm.2.2 _ (List.getElem_mem hi)
  have hv : VdC ⟨ws, n, rs, ls⟩ := by
    refine ⟨hw.len, by have := hm.1; show 0 ≤ n; omega, hm.2.1, hr.1, hl.1, hw.wb, fun r hrm => ?_, fun l hlm => ?_⟩
    · obtain ⟨⟨h1, h2, h3, h4⟩, h5⟩ := hr.2 r hrm
      have hm2 := hmb r.ev h1 h2
      obtain ⟨i, hi⟩ := Int.eq_ofNat_of_zero_le h3
      have hi' : i < gl.length := by omega
      have hg : gl.getD r.wa.toNat (0, 0) = gl[i] := by
        rw [hi, Int.toNat_natCast]; simp [List.getD, hi']
      have hb := show_bnd (hw.gb _ (List.getElem_mem hi')) hm2
      rw [← hg, h5] at hb
      have := hm.1
      refine ⟨h1, by show r.ev < n; omega, h3, by show r.wa < ws.length; omega, hb.1, hb.2⟩
    · obtain ⟨⟨h1, h2, h3, h4, h5, h6⟩, _⟩ := hl.2 l hlm
      have := hm.1
      exact ⟨h1, by show l.a < n; omega, h3, by show l.b < n; omega, h5, h6⟩
  refine ⟨hv, hm.1, hw.gb, hm.2.2, hw.goes, truth_every.2 ⟨hw.goes, fun e h0 h1 => hmb e h0 (by have := hm.1; have : e < n := h1; omega), fun r hrm => (hr.2 r hrm).2, fun l hlm => (hl.2 l hlm).2⟩⟩
end Go.Proofs.Ytknpmijgdfeliaa.G

/- Clock: a clock of watches that truly go: the walk, readings and links. -/
set_option linter.unusedSimpArgs false
set_option linter.unusedVariables false
set_option maxRecDepth 20000
namespace Go.Proofs.Ytknpmijgdfeliaa.G
open Go.V
/-- Where a made clock stands. -/
structure MB (s : Hp) (a b : Addr) (cb : Nat) (t : Hp) (c : Clk) (gl : List Go') (ml : List Int) (wx gx mx rx lx : Option Addr) (wc rc lc : Nat) : Prop where
  kp : Kp (· = a.block) s t
  ab : a.block < s.size
  sc : s.size ≤ cb
  c0 : Own t ⟨cb, 0, none⟩ (.slice wx c.ws.length wc)
  c1 : Own t ⟨cb, 1, none⟩ (.int .i64 c.n)
  c2 : Own t ⟨cb, 2, none⟩ (.slice rx c.rs.length rc)
  c3 : Own t ⟨cb, 3, none⟩ (.slice lx c.ls.length lc)
  w : RowAt t wx (wtV c.ws)
  g : RowAt t gx (goV gl)
  m : RowAt t mx (miV ml)
  r : RowAt t rx (rdV c.rs)
  l : RowAt t lx (lkV c.ls)
  wb : ∀ q, wx = some q → cb < q.block
  gb : ∀ q, gx = some q → cb < q.block
  mb : ∀ q, mx = some q → cb < q.block
  rb : ∀ q, rx = some q → cb < q.block
  lb : ∀ q, lx = some q → cb < q.block
section
variable {W : World} {K : VK} {E : List PanicEntry → Hp → Prop} {s : Hp} {a b : Addr} {cb : Nat} {c : Clk} {gl : List Go'} {ml : List Int} {wx gx mx rx lx : Option Addr} {wc rc lc gc mc : Nat}
theorem MB.lt {t : Hp} (h : MB s a b cb t c gl ml wx gx mx rx lx wc rc lc) : cb < t.size := h.c0.lt
theorem MB.keep {t t' : Hp} (h : MB s a b cb t c gl ml wx gx mx rx lx wc rc lc) (k : Kp (· = a.block) t t') : MB s a b cb t' c gl ml wx gx mx rx lx wc rc lc := by
  have hab := h.ab
  have hsc := h.sc
  have hn : ¬ cb = a.block := by omega
  have hd : ∀ {x : Option Addr}, (∀ q, x = some q → cb < q.block) → ∀ q, x = some q → ¬ q.block = a.block := fun hx q hq => by have := hx q hq; omega
  exact ⟨h.kp.trans k, h.ab, h.sc, k.own hn h.c0, k.own hn h.c1, k.own hn h.c2, k.own hn h.c3, h.w.keep k (hd h.wb), h.g.keep k (hd h.gb), h.m.keep k (hd h.mb), h.r.keep k (hd h.rb), h.l.keep k (hd h.lb), h.wb, h.gb, h.mb, h.rb, h.lb⟩
/-- What is so at the end. -/
def EndM (K : VK) (s : Hp) (a : Addr) : Prop := ∀ s' (c : Clk) (gl : List Go') (ml : List Int) wx gx mx rx lx wc rc lc gc mc, Kp (· = a.block) s s' → ClV s' c wx rx lx → RowAt s' gx (goV gl) → RowAt s' mx (miV ml) → Made c gl ml → K (.tuple #[clkV c wx rx lx wc rc lc, .slice gx gl.length gc, .slice mx ml.length mc]) s'
theorem made_end {t : Hp} (h : MB s a b cb t c gl ml wx gx mx rx lx wc rc lc) (hm : Made c gl ml) (he : EndM K s a) :
    (RDL (Addr.add ⟨cb, 0, none⟩ 0) fun x283 l284 c285 => RDI .i64 (Addr.add ⟨cb, 0, none⟩ 1) fun n286 => RDL (Addr.add ⟨cb, 0, none⟩ 2) fun x287 l288 c289 => RDL (Addr.add ⟨cb, 0, none⟩ 3) fun x290 l291 c292 =>
      WR (Addr.add ⟨cb, 0, none⟩ 0) (.slice x283 l284 c285) <| WR (Addr.add ⟨cb, 0, none⟩ 1) (.int .i64 n286) <| WR (Addr.add ⟨cb, 0, none⟩ 2) (.slice x287 l288 c289) <| WR (Addr.add ⟨cb, 0, none⟩ 3) (.slice x290 l291 c292) <|
      RDL (Addr.add ⟨cb, 0, none⟩ 0) fun x293 l294 c295 => RDI .i64 (Addr.add ⟨cb, 0, none⟩ 1) fun n296 => RDL (Addr.add ⟨cb, 0, none⟩ 2) fun x297 l298 c299 => RDL (Addr.add ⟨cb, 0, none⟩ 3) fun x300 l301 c302 =>
      K (.tuple #[(.agg #[(.slice x293 l294 c295), (.int .i64 n296), (.slice x297 l298 c299), (.slice x300 l301 c302)]), (.slice gx gl.length gc), (.slice mx ml.length mc)])) t := by
  refine ⟨_, _, _, h.c0.cell, ⟨_, h.c1.cell, ⟨_, _, _, h.c2.cell, ⟨_, _, _, h.c3.cell, ?_⟩⟩⟩⟩
  show wrN [_, _, _, _] ⟨cb, 0, none⟩ 0 _ t
  refine wrN_rule _ _ 0 _ t (fun i hi => ?_) ?_ ?_
  · match i, hi with
    | 0, _ => exact ⟨_, h.c0⟩
    | 1, _ => exact ⟨_, h.c1⟩
    | 2, _ => exact ⟨_, h.c2⟩
    | 3, _ => exact ⟨_, h.c3⟩
  · intro w hw
    simp at hw
    rcases hw with rfl | rfl | rfl | rfl <;> rfl
  · intro u k zu ho _
    have q0 := ho 0 (by simp)
    have q1 := ho 1 (by simp)
    have q2 := ho 2 (by simp)
    have q3 := ho 3 (by simp)
    refine ⟨_, _, _, q0.cell, ⟨_, q1.cell, ⟨_, _, _, q2.cell, ⟨_, _, _, q3.cell, ?_⟩⟩⟩⟩
    have hd : ∀ {x : Option Addr}, (∀ q, x = some q → cb < q.block) → ∀ q, x = some q → ¬ q.block = cb := fun hx q hq => by have := hx q hq; omega
    exact he u c gl ml wx gx mx rx lx wc rc lc gc mc (kp_step h.kp k fun q hq => .inr (by have := h.sc; have : q = cb := hq; omega))
      ⟨row_wt (h.w.keep k (hd h.wb)), row_rd (h.r.keep k (hd h.rb)), row_lk (h.l.keep k (hd h.lb))⟩ (h.g.keep k (hd h.gb)) (h.m.keep k (hd h.mb)) hm
theorem kp_ab {t0 t : Hp} {x y : Nat} (h : Kp (· = x) t0 t) : Kp (fun q => q = x ∨ q = y) t0 t := h.mono fun q hq => .inl hq
/-- A link that is made. -/
theorem made_link {t0 t : Hp} {x : Option Addr} {cc : Nat} {ls : List Lk} {n1 n2 p q : Int} {J : Hp → Prop} {E : List PanicEntry → Hp → Prop} (hcb : cb < t0.size) (hsz : t0.size ≤ t.size) (h3 : Own t ⟨cb, 3, none⟩ (.slice x ls.length cc)) (fr : Fr t0.size t x ls.length cc 4 (lkV ls)) (hl : ls.length ≤ 5)
    (h : ∀ t' x' c', Kp (fun z => z = cb ∨ t0.size ≤ z) t t' → Own t' ⟨cb, 3, none⟩ (.slice x' (ls.length + 1) c') → (∀ j w, j ≠ 3 → Own t ⟨cb, j, none⟩ w → Own t' ⟨cb, j, none⟩ w) → Fr t0.size t' x' (ls.length + 1) c' 4 (lkV (ls ++ [⟨n1, n2, p, q⟩])) → J t') :
    CALL Pg W F_law07_span [.int .i64 p, .int .i64 q] (fun v => AGG v fun q210 => HD q210 fun v211 r212 => TYI .i64 v211 fun n213 => HD r212 fun v214 r215 => TYI .i64 v214 fun n216 => NL r215 <|
      ANDS (RDL (Addr.add ⟨cb, 0, none⟩ 3) fun x217 l218 c219 => fun _ => ((.slice x217 l218 c219) : Value) = (.slice x ls.length cc)) <|
      NEW 63 [(.int .i64 n1), (.int .i64 n2), (.int .i64 n213), (.int .i64 n216)] fun B220 =>
      ANDS (RDL (Addr.add ⟨cb, 0, none⟩ 3) fun x221 l222 c223 => fun _ => ((.slice x221 l222 c223) : Value) = (.slice x ls.length cc)) <|
      APP Pg 63 4 x ls.length cc (some ⟨B220, 0, none⟩) 1 fun x224 l225 c226 => WR (Addr.add (Addr.add ⟨cb, 0, none⟩ 3) 0) (.slice x224 l225 c226) <| J) E t := by
  refine c_span fun t1 e1 => ?_
  try simp only [TUP_mk, AGG_mk, HD_mk, NL_mk, TYI_mk, TYB_mk, TYP_mk, TYL_mk, TYS_mk, TYM_mk, SO_mk, NX_mk, endK_mk, endK_mk', add_0]
  refine ANDS_i ⟨_, _, _, (e1.own h3).cell, rfl⟩ ?_
  refine NEW_rule fun t2 e2 z2 n2' _ => ?_
  have e12 := e1.trans e2
  refine ANDS_i ⟨_, _, _, (e12.own h3).cell, rfl⟩ ?_
  refine APP_fr (lo := t0.size) (fr.ext e12) (by have := e12.1; omega) (ws := lk4 ⟨n1, n2, p, q⟩) (fun i hi => ⟨⟨t1.size, 0, none⟩, rfl, ?_⟩) rfl zc_63 rfl (by omega) (by simp [lk4, oneCell]) (by omega) fun t3 x3 c3' k3 hx3 fr3 => ?_
  · have hi3 : i < 4 := hi
    match i, hi3 with
    | 0, _ => exact (n2' 0 _ rfl).cell
    | 1, _ => exact (n2' 1 _ rfl).cell
    | 2, _ => exact (n2' 2 _ rfl).cell
    | 3, _ => exact (n2' 3 _ rfl).cell
  · have hnD : ¬ (∃ a', x = some a' ∧ a'.block = cb) := by
      rintro ⟨a', ha', hb'⟩
      have := fr.fr a' ha'
      omega
    have f2o : ∀ {j v}, Own t ⟨cb, j, none⟩ v → Own t3 ⟨cb, j, none⟩ v := fun o => k3.own hnD (e12.own o)
    refine wrOne (i := 3) (f2o h3) rfl fun t4 k4 z4 w3 wk => ?_
    refine h t4 x3 c3' ?_ w3 (fun j w hj o => wk j w hj (f2o o)) ?_
    · refine Kp.trans (e12.kp.trans (k3.mono fun z hz => ?_)) (k4.mono fun z hz => .inl hz)
      obtain ⟨a', ha', rfl⟩ := hz
      exact .inr (fr.fr a' ha')
    · have e : lkV (ls ++ [⟨n1, n2, p, q⟩]) = lkV ls ++ lk4 ⟨n1, n2, p, q⟩ := by unfold lkV; rw [List.flatMap_append]; simp
      rw [e]
      exact fr3.kp k4 fun a' ha' hb' => by have := fr3.fr a' ha'; have : a'.block = cb := hb'; omega
abbrev drV (a b : Addr) : Value := .func (.func 57) #[] #[.pointer (some a), .pointer (some b)]
theorem made_l3 {t0 : Hp} {k : Nat} {N n : Int} {ws : List Wt} {rs : List Rd} (h : MB s a b cb t0 ⟨ws, n, rs, []⟩ gl ml wx gx mx rx none wc rc 0) (hd : DrO s.size t0 a b k) (hk : k ≤ 100) (hN : 0 ≤ N ∧ N ≤ 5) (hw : Wl ws gl) (hm : Ml n ml) (hn : 0 < n) (hr : Rl gl ml rs) (he : EndM K s a) :
    L_law07_made_3 W (endK K E) (drV a b) ⟨cb, 0, none⟩ gx gl.length gc mx ml.length mc N 0 t0 := by
  have hcb := h.lt
  have hab := h.ab
  have hsc := h.sc
  have hml := hm.1
  have hn5 := hm.2.1
  refine L_law07_made_3_rule W _ _ _ _ _ _ _ _ _ N (fun i t => ∃ (j : Nat) (ls : List Lk) (x : Option Addr) (cc k : Nat), i = j ∧ (j : Int) ≤ N ∧ Kp (fun q => q = a.block ∨ q = cb) t0 t ∧ DrO s.size t a b k ∧ k ≤ 100 + 4 * j ∧ Own t ⟨cb, 0, none⟩ (.slice wx ws.length wc) ∧ Own t ⟨cb, 1, none⟩ (.int .i64 n) ∧ Own t ⟨cb, 2, none⟩ (.slice rx rs.length rc) ∧ Own t ⟨cb, 3, none⟩ (.slice x ls.length cc) ∧ Fr t0.size t x ls.length cc 4 (lkV ls) ∧ ls.length ≤ j ∧ Ll ml ls) (fun i _ => (N - i).toNat) 0 t0
    ⟨0, [], none, 0, k, rfl, hN.1, Kp.refl _, hd, by omega, h.c0, h.c1, h.c2, h.c3, Fr.nil _ _ _, Nat.le_refl _, by simp, fun l hl => by cases hl⟩ ?_
  rintro i t ⟨j, ls, x, cc, k, rfl, hj, kt, hd, hk, c0, c1, c2, c3, fr, hlj, hll⟩
  generalize hnx : (fun vs => N_law07_made_3 _ _ (j : Int) t vs) = nx
  have hz0 : t0.size ≤ t.size := kt.1
  unfold B_law07_made_3
  refine BR_dec (fun hlt => ?_) (fun hge => ?_)
  · have hdd : ∀ q, q < s.size → ¬ (q = cb ∨ t0.size ≤ q) := fun q hq => by omega
    have hna : ¬ cb = a.block := by omega
    have hJ : ∀ (t' : Hp) (x' : Option Addr) (c' k' : Nat) (ls' : List Lk), Kp (fun q => q = a.block ∨ q = cb) t0 t' → DrO s.size t' a b k' → k' ≤ 100 + 4 * (j + 1) → Own t' ⟨cb, 0, none⟩ (.slice wx ws.length wc) → Own t' ⟨cb, 1, none⟩ (.int .i64 n) → Own t' ⟨cb, 2, none⟩ (.slice rx rs.length rc) → Own t' ⟨cb, 3, none⟩ (.slice x' ls'.length c') → Fr t0.size t' x' ls'.length c' 4 (lkV ls') → ls'.length ≤ j + 1 → Ll ml ls' →
        J_law07_made_0 W (endK K E) (drV a b) ⟨cb, 0, none⟩ gx gl.length gc mx ml.length mc N nx (j : Int) t' := by
      intro t' x' c' k' ls' g1 g2 g3 g4 g5 g6 g7 g8 g9 g10
      unfold J_law07_made_0
      try simp only [TUP_mk, AGG_mk, HD_mk, NL_mk, TYI_mk, TYB_mk, TYP_mk, TYL_mk, TYS_mk, TYM_mk, SO_mk, NX_mk, endK_mk, endK_mk', add_0]
      rw [← hnx]
      refine ⟨_, rfl, ⟨j + 1, ls', x', c', k', wrap_succ (by omega), by omega, g1, g2, g3, g4, g5, g6, g7, g8, g9, g10⟩, ?_⟩
      rw [wrap_succ (by omega)]
      show (N - ((j + 1 : Nat) : Int)).toNat < (N - (j : Int)).toNat
      omega
    clear hnx
    refine ⟨_, c1.cell, ⟨_, c1.cell, ?_⟩⟩
    refine c_draw hd (by omega) ⟨hn, by omega⟩ fun t1 p k1 z1 p0 p1 d1 => ?_
    try simp only [TUP_mk, AGG_mk, HD_mk, NL_mk, TYI_mk, TYB_mk, TYP_mk, TYL_mk, TYS_mk, TYM_mk, SO_mk, NX_mk, endK_mk, endK_mk', add_0]
    refine ANDS_i ⟨_, (k1.own hna c1).cell, rfl⟩ ?_
    refine c_draw d1 (by omega) ⟨hn, by omega⟩ fun t2 q k2 z2 q0 q1 d2 => ?_
    try simp only [TUP_mk, AGG_mk, HD_mk, NL_mk, TYI_mk, TYB_mk, TYP_mk, TYL_mk, TYS_mk, TYM_mk, SO_mk, NX_mk, endK_mk, endK_mk', add_0]
    have k02 := k1.trans k2
    have kt2 : Kp (fun q => q = a.block ∨ q = cb) t0 t2 := kp_step kt k02 fun z hz => .inl (.inl hz)
    have fk : ∀ {t'}, Kp (· = a.block) t t' → Fr t0.size t' x ls.length cc 4 (lkV ls) := fun k => fr.kp k fun a' ha' hb' => by have := fr.fr a' ha'; have := kt.1; have := h.kp.1; have : a'.block = a.block := hb'; omega
    refine BR_eq (fun hpq => ?_) (fun hpq => ?_)
    · exact hJ t2 x cc _ ls kt2 d2 (by omega) (k02.own hna c0) (k02.own hna c1) (k02.own hna c2) (k02.own hna c3) (fk k02) (by omega) hll
    obtain ⟨p, rfl⟩ := Int.eq_ofNat_of_zero_le p0
    obtain ⟨q, rfl⟩ := Int.eq_ofNat_of_zero_le q0
    have hpl : p < ml.length := by omega
    have hql : q < ml.length := by omega
    have hmt : RowAt t2 mx (miV ml) := h.m.keep kt2 fun y hy hh => by have := h.mb y hy; omega
    obtain ⟨am, hx0, gm1⟩ := row_mi hmt q hql
    obtain ⟨am', hx0', gm2⟩ := row_mi hmt p hpl
    rw [hx0] at hx0'; cases hx0'
    rw [hx0]
    refine IXS_nat hql ⟨_, gm1, IXS_nat hpl ⟨_, gm2, ⟨_, _, _, (k02.own hna c3).cell, ?_⟩⟩⟩
    have b1 := hm.2.2 _ (List.getElem_mem hql)
    have b2 := hm.2.2 _ (List.getElem_mem hpl)
    have m1 : mAt ml (q : Int) = ml[q] := mAt_get hql
    have m2 : mAt ml (p : Int) = ml[p] := mAt_get hpl
    generalize ml[q] = vq at *
    generalize ml[p] = vp at *
    have hfin : ∀ (t' : Hp) (u v : Int) (k' : Nat), Kp (· = a.block) t t' → DrO s.size t' a b k' → k' ≤ 100 + 4 * (j + 1) → 0 ≤ u → u < 9 → 0 ≤ v → v < 9 → ∀ (p1 q1 : Int), p1 = (if (IntKind.wrap .i64 ((IntKind.wrap .i64 (vq - vp)) - u)) > (-600) then (IntKind.wrap .i64 ((IntKind.wrap .i64 (vq - vp)) - u)) else (-600)) → q1 = (if (IntKind.wrap .i64 ((IntKind.wrap .i64 (vq - vp)) + v)) < 600 then (IntKind.wrap .i64 ((IntKind.wrap .i64 (vq - vp)) + v)) else 600) →
        ∀ (t'' : Hp) (x' : Option Addr) (c' : Nat), Kp (fun z => z = cb ∨ t0.size ≤ z) t' t'' → Own t'' ⟨cb, 3, none⟩ (.slice x' (ls.length + 1) c') → (∀ j w, j ≠ 3 → Own t' ⟨cb, j, none⟩ w → Own t'' ⟨cb, j, none⟩ w) → Fr t0.size t'' x' (ls.length + 1) c' 4 (lkV (ls ++ [⟨(p : Int), (q : Int), p1, q1⟩])) → J_law07_made_0 W (endK K E) (drV a b) ⟨cb, 0, none⟩ gx gl.length gc (some am) ml.length mc N nx (j : Int) t'' := by
      intro t' u v k' kk dd hk' u0 u1 v0 v1 p1 q1 hp1 hq1 t'' x' c' k2 w3 wk fr'
      rw [← hx0]
      rw [wrap_i64 (n := vq - vp) (by omega) (by omega), wrap_i64 (by omega) (by omega)] at hp1 hq1
      have hlen : (ls ++ [(⟨(p : Int), (q : Int), p1, q1⟩ : Lk)]).length = ls.length + 1 := by simp
      refine hJ t'' x' c' k' (ls ++ [⟨(p : Int), (q : Int), p1, q1⟩]) (kp_step (kp_step kt kk fun z hz => .inl (.inl hz)) k2 fun z hz => hz.elim (fun h => .inl (.inr h)) .inr) (dd.kp k2 hdd) hk' (wk 0 _ (by omega) (kk.own hna c0)) (wk 1 _ (by omega) (kk.own hna c1)) (wk 2 _ (by omega) (kk.own hna c2)) (by rw [hlen]; exact w3) (by rw [hlen]; exact fr') (by rw [hlen]; omega) ⟨by rw [hlen]; omega, fun l hl => ?_⟩
      rcases List.mem_append.1 hl with hl | hl
      · exact hll.2 l hl
      · rw [List.mem_singleton] at hl; subst hl
        simp only
        rw [m1, m2]
        have e1 : p1 ≤ vq - vp ∧ -600 ≤ p1 := by rw [hp1]; split <;> omega
        have e2 : vq - vp ≤ q1 ∧ q1 ≤ 600 := by rw [hq1]; split <;> omega
        have : (p : Int) ≠ (q : Int) := hpq
        omega
    refine c_draw d2 (by omega) (by omega) fun t3 u k3 z3 u0 u1 d3 => ?_
    try simp only [TUP_mk, AGG_mk, HD_mk, NL_mk, TYI_mk, TYB_mk, TYP_mk, TYL_mk, TYS_mk, TYM_mk, SO_mk, NX_mk, endK_mk, endK_mk', add_0]
    have k03 := k02.trans k3
    refine ANDS_i ⟨_, _, _, (k03.own hna c3).cell, rfl⟩ ?_
    have s3 : t0.size ≤ t3.size := by have := k03.1; omega
    refine CONJ_two ?_ ?_
    · refine ANDS_i ⟨_, _, _, (k03.own hna c3).cell, rfl⟩ ?_
      refine c_draw d3 (by omega) (by omega) fun t4 v k4 z4 v0 v1 d4 => ?_
      try simp only [TUP_mk, AGG_mk, HD_mk, NL_mk, TYI_mk, TYB_mk, TYP_mk, TYL_mk, TYS_mk, TYM_mk, SO_mk, NX_mk, endK_mk, endK_mk', add_0]
      have k04 := k03.trans k4
      refine ANDS_i ⟨_, _, _, (k04.own hna c3).cell, rfl⟩ (ANDS_i ⟨_, _, _, (k04.own hna c3).cell, rfl⟩ ?_)
      exact made_link hcb (by have := k04.1; omega) (k04.own hna c3) (fk k04) (by omega) (hfin t4 u v _ k04 d4 (by omega) u0 u1 v0 v1 _ _ rfl rfl)
    · refine c_draw d3 (by omega) (by omega) fun t4 v k4 z4 v0 v1 d4 => ?_
      try simp only [TUP_mk, AGG_mk, HD_mk, NL_mk, TYI_mk, TYB_mk, TYP_mk, TYL_mk, TYS_mk, TYM_mk, SO_mk, NX_mk, endK_mk, endK_mk', add_0]
      have k04 := k03.trans k4
      refine ANDS_i ⟨_, _, _, (k04.own hna c3).cell, rfl⟩ ?_
      refine CONJ_two ?_ ?_
      · refine ANDS_i ⟨_, _, _, (k04.own hna c3).cell, rfl⟩ (ANDS_i ⟨_, _, _, (k04.own hna c3).cell, rfl⟩ ?_)
        exact made_link hcb (by have := k04.1; omega) (k04.own hna c3) (fk k04) (by omega) (hfin t4 u v _ k04 d4 (by omega) u0 u1 v0 v1 _ _ rfl rfl)
      · refine ANDS_i ⟨_, _, _, (k04.own hna c3).cell, rfl⟩ (ANDS_i ⟨_, _, _, (k04.own hna c3).cell, rfl⟩ ?_)
        exact made_link hcb (by have := k04.1; omega) (k04.own hna c3) (fk k04) (by omega) (hfin t4 u v _ k04 d4 (by omega) u0 u1 v0 v1 _ _ rfl rfl)
  · have hh : MB s a b cb t ⟨ws, n, rs, ls⟩ gl ml wx gx mx rx x wc rc cc := by
      have hdq : ∀ {x : Option Addr}, (∀ q, x = some q → cb < q.block) → ∀ q, x = some q → ¬ (q.block = a.block ∨ q.block = cb) := fun hx q hq => by have := hx q hq; omega
      refine ⟨?_, h.ab, h.sc, c0, c1, c2, c3, h.w.keep kt (hdq h.wb), h.g.keep kt (hdq h.gb), h.m.keep kt (hdq h.mb), h.r.keep kt (hdq h.rb), fr.row, h.wb, h.gb, h.mb, h.rb, fun q hq => by have := fr.fr q hq; omega⟩
      exact kp_step h.kp kt fun q hq => hq.elim .inl fun hq => .inr (by omega)
    exact made_end hh (made_of hw hm hr hll) he
end
end Go.Proofs.Ytknpmijgdfeliaa.G

/- Clock: a clock of watches that truly go: the walk. -/
set_option linter.unusedSimpArgs false
set_option linter.unusedVariables false
set_option maxRecDepth 20000
namespace Go.Proofs.Ytknpmijgdfeliaa.G
open Go.V
theorem zc_55 : zc Pg 55 = [.int .i64 0, .int .i64 0] := by kernel_rfl
section
variable {W : World} {K : VK} {E : List PanicEntry → Hp → Prop} {s : Hp} {a b : Addr} {cb : Nat} {c : Clk} {gl : List Go'} {ml : List Int} {wx gx mx rx lx : Option Addr} {wc rc lc gc mc : Nat}
theorem made_l2 {t0 : Hp} {k : Nat} {N n : Int} {ws : List Wt} (h : MB s a b cb t0 ⟨ws, n, [], []⟩ gl ml wx gx mx none none wc 0 0) (hd : DrO s.size t0 a b k) (hk : k ≤ 60) (hN : 0 ≤ N ∧ N ≤ 8) (hw : Wl ws gl) (hm : Ml n ml) (hn : 0 < n) (hg0 : 0 < gl.length) (he : EndM K s a) :
    L_law07_made_2 W (endK K E) (drV a b) ⟨cb, 0, none⟩ gx gl.length gc mx ml.length mc N 0 t0 := by
  have hcb := h.lt
  have hab := h.ab
  have hsc := h.sc
  have hml := hm.1
  have hn5 := hm.2.1
  have hgl : gl.length = ws.length := hw.goes.len
  have hw2 := hw.len
  refine L_law07_made_2_rule W _ _ _ _ _ _ _ _ _ N (fun i t => ∃ (j : Nat) (rs : List Rd) (x : Option Addr) (cc k : Nat), i = j ∧ (j : Int) ≤ N ∧ Kp (fun q => q = a.block ∨ q = cb) t0 t ∧ DrO s.size t a b k ∧ k ≤ 60 + 2 * j ∧ Own t ⟨cb, 0, none⟩ (.slice wx ws.length wc) ∧ Own t ⟨cb, 1, none⟩ (.int .i64 n) ∧ Own t ⟨cb, 2, none⟩ (.slice x rs.length cc) ∧ Own t ⟨cb, 3, none⟩ (.slice none 0 0) ∧ Fr t0.size t x rs.length cc 3 (rdV rs) ∧ rs.length ≤ j ∧ Rl gl ml rs) (fun i _ => (N - i).toNat) 0 t0
    ⟨0, [], none, 0, k, rfl, hN.1, Kp.refl _, hd, by omega, h.c0, h.c1, h.c2, h.c3, Fr.nil _ _ _, Nat.le_refl _, by simp, fun l hl => by cases hl⟩ ?_
  rintro i t ⟨j, rs, x, cc, k, rfl, hj, kt, hd, hk, c0, c1, c2, c3, fr, hlj, hrl⟩
  generalize hnx : (fun vs => N_law07_made_2 _ _ (j : Int) t vs) = nx
  have hz0 : t0.size ≤ t.size := kt.1
  have hdq : ∀ {x : Option Addr}, (∀ q, x = some q → cb < q.block) → ∀ q, x = some q → ¬ (q.block = a.block ∨ q.block = cb) := fun hx q hq => by have := hx q hq; omega
  have hna : ¬ cb = a.block := by omega
  unfold B_law07_made_2
  refine BR_dec (fun hlt => ?_) (fun hge => ?_)
  · refine ⟨_, c1.cell, ?_⟩
    refine c_draw hd (by omega) ⟨hn, by omega⟩ fun t1 p k1 z1 p0 p1 d1 => ?_
    try simp only [TUP_mk, AGG_mk, HD_mk, NL_mk, TYI_mk, TYB_mk, TYP_mk, TYL_mk, TYS_mk, TYM_mk, SO_mk, NX_mk, endK_mk, endK_mk', add_0]
    refine c_draw d1 (by omega) (by omega) fun t2 q k2 z2 q0 q1 d2 => ?_
    try simp only [TUP_mk, AGG_mk, HD_mk, NL_mk, TYI_mk, TYB_mk, TYP_mk, TYL_mk, TYS_mk, TYM_mk, SO_mk, NX_mk, endK_mk, endK_mk', add_0]
    have k02 := k1.trans k2
    have kt2 : Kp (fun q => q = a.block ∨ q = cb) t0 t2 := kp_step kt k02 fun z hz => .inl (.inl hz)
    refine nw3 zc_61 rfl rfl rfl fun t3 e3 z3 o1 o2 o3 => ?_
    have kt3 := kt2.ext e3
    have k03 : Kp (· = a.block) t t3 := k02.ext e3
    obtain ⟨p, rfl⟩ := Int.eq_ofNat_of_zero_le p0
    obtain ⟨q, rfl⟩ := Int.eq_ofNat_of_zero_le q0
    have hpl : p < ml.length := by omega
    have hql : q < gl.length := by omega
    obtain ⟨ag, hxg, gg1, gg2⟩ := row_go (h.g.keep kt3 (hdq h.gb)) q hql
    obtain ⟨am, hxm, gm1⟩ := row_mi (h.m.keep kt3 (hdq h.mb)) p hpl
    rw [hxg, hxm]
    refine ⟨_, o2.cell, IXS_nat hql ⟨_, gg1, ⟨_, gg2, ⟨_, o1.cell, IXS_nat hpl ⟨_, gm1, ?_⟩⟩⟩⟩⟩
    have bg := hw.gb _ (List.getElem_mem hql)
    have bm := hm.2.2 _ (List.getElem_mem hpl)
    have m1 : mAt ml (p : Int) = ml[p] := mAt_get hpl
    have g1 : gl.getD ((q : Int)).toNat (0, 0) = gl[q] := by rw [Int.toNat_natCast]; simp [List.getD, hql]
    refine f_Show (by omega) (by omega) (by omega) fun t4 e4 => ?_
    try simp only [TUP_mk, AGG_mk, HD_mk, NL_mk, TYI_mk, TYB_mk, TYP_mk, TYL_mk, TYS_mk, TYM_mk, SO_mk, NX_mk, endK_mk, endK_mk', add_0]
    refine wrOne (i := 2) (e4.own o3) rfl fun t5 k5 z5 o3' ok => ?_
    have o1' := ok 0 _ (by omega) (e4.own o1)
    have o2' := ok 1 _ (by omega) (e4.own o2)
    have s35 : Ext t2 t5 := ext_kp (e3.trans e4) (Nat.le_refl _) k5
    have k05 : Kp (· = a.block) t t5 := k02.ext s35
    have hs5 := k05.1
    refine ⟨_, _, _, (k05.own hna c2).cell, ⟨_, o1'.cell, ⟨_, o2'.cell, ⟨_, o3'.cell, ?_⟩⟩⟩⟩
    refine NEW_rule fun t6 e6 z6 n6 _ => ?_
    have k06 := k05.ext e6
    have fk : Fr t0.size t6 x rs.length cc 3 (rdV rs) := fr.kp k06 fun a' ha' hb' => by have := fr.fr a' ha'; have := h.kp.1; have : a'.block = a.block := hb'; omega
    refine APP_fr (lo := t0.size) fk (by omega) (ws := rd3 ⟨(p : Int), (q : Int), showP gl[q] ml[p]⟩) (fun i hi => ⟨⟨t5.size, 0, none⟩, rfl, ?_⟩) rfl zc_61 rfl (by omega) (by simp [rd3, oneCell]) (by omega) fun t7 x7 c7 k7 hx7 fr7 => ?_
    · have hi3 : i < 3 := hi
      match i, hi3 with
      | 0, _ => exact (n6 0 _ rfl).cell
      | 1, _ => exact (n6 1 _ rfl).cell
      | 2, _ => exact (n6 2 _ rfl).cell
    · have hnD : ∀ z, z < t0.size → ¬ (∃ a', x = some a' ∧ a'.block = z) := by
        rintro z hz ⟨a', ha', hb'⟩
        have := fr.fr a' ha'
        omega
      have f2o : ∀ {j v}, Own t ⟨cb, j, none⟩ v → Own t7 ⟨cb, j, none⟩ v := fun o => k7.own (hnD _ hcb) (k06.own hna o)
      refine wrOne (i := 2) (f2o c2) rfl fun t8 k8 z8 w3 wk => ?_
      have hlen : (rs ++ [(⟨(p : Int), (q : Int), showP gl[q] ml[p]⟩ : Rd)]).length = rs.length + 1 := by simp
      have hs0 := h.kp.1
      rw [← hnx]
      refine ⟨_, rfl, ⟨j + 1, rs ++ [⟨(p : Int), (q : Int), showP gl[q] ml[p]⟩], x7, c7, k + 1 + 1, wrap_succ (by omega), by omega, ?_, ?_, by omega, wk 0 _ (by omega) (f2o c0), wk 1 _ (by omega) (f2o c1), by rw [hlen]; exact w3, wk 3 _ (by omega) (f2o c3), ?_, by rw [hlen]; omega, by rw [hlen]; omega, fun r hr => ?_⟩, ?_⟩
      · refine kp_step (kp_step (kt2.ext (s35.trans e6)) k7 fun z hz => ?_) k8 fun z hz => .inl (.inr hz)
        obtain ⟨a', ha', rfl⟩ := hz
        exact .inr (fr.fr a' ha')
      · exact (((d2.ext (s35.trans e6)).kp k7 fun z hz => hnD z (by omega)).kp k8 fun z hz hh => by have : z = cb := hh; omega)
      · rw [hlen]
        have e : rdV (rs ++ [⟨(p : Int), (q : Int), showP gl[q] ml[p]⟩]) = rdV rs ++ rd3 ⟨(p : Int), (q : Int), showP gl[q] ml[p]⟩ := by rw [rdV_app]; simp [rdV]
        rw [e]
        exact fr7.kp k8 fun a' ha' hb' => by have := fr7.fr a' ha'; have : a'.block = cb := hb'; omega
      · rcases List.mem_append.1 hr with hr | hr
        · exact hrl.2 r hr
        · rw [List.mem_singleton] at hr; subst hr
          refine ⟨⟨by show (0 : Int) ≤ (p : Int); omega, by show (p : Int) < _; omega, by show (0 : Int) ≤ (q : Int); omega, by show (q : Int) < _; omega⟩, ?_⟩
          show showP (gl.getD ((q : Int)).toNat (0, 0)) (mAt ml (p : Int)) = _
          rw [g1, m1]
      · rw [wrap_succ (by omega)]
        show (N - ((j + 1 : Nat) : Int)).toNat < (N - (j : Int)).toNat
        omega
  · refine c_draw hd (by omega) (by omega) fun t1 p k1 z1 p0 p1 d1 => ?_
    try simp only [TUP_mk, AGG_mk, HD_mk, NL_mk, TYI_mk, TYB_mk, TYP_mk, TYL_mk, TYS_mk, TYM_mk, SO_mk, NX_mk, endK_mk, endK_mk', add_0]
    have hh : MB s a b cb t ⟨ws, n, rs, []⟩ gl ml wx gx mx x none wc cc 0 := by
      refine ⟨?_, h.ab, h.sc, c0, c1, c2, c3, h.w.keep kt (hdq h.wb), h.g.keep kt (hdq h.gb), h.m.keep kt (hdq h.mb), fr.row, h.l.keep kt (hdq h.lb), h.wb, h.gb, h.mb, fun q hq => by have := fr.fr q hq; omega, h.lb⟩
      exact kp_step h.kp kt fun q hq => hq.elim .inl fun hq => .inr (by omega)
    exact made_l3 (hh.keep k1) d1 (by omega) (by omega) hw hm hn hrl he
theorem made_l1 {t0 : Hp} {k : Nat} {n : Int} {ws : List Wt} (h : MB s a b cb t0 ⟨ws, n, [], []⟩ gl [] wx gx none none none wc 0 0) (hd : DrO s.size t0 a b k) (hk : k ≤ 30) (hn : 0 ≤ n ∧ n ≤ 5) (hw : Wl ws gl) (he : EndM K s a) :
    L_law07_made_1 W (endK K E) (drV a b) ⟨cb, 0, none⟩ gx gl.length gc n none 0 0 0 t0 := by
  have hcb := h.lt
  have hab := h.ab
  have hsc := h.sc
  have hw2 := hw.len
  have hgl : gl.length = ws.length := hw.goes.len
  refine L_law07_made_1_rule W _ _ _ _ _ _ _ (fun x l cc i t => ∃ (j : Nat) (ml : List Int) (k : Nat), i = j ∧ (j : Int) ≤ n ∧ Kp (· = a.block) t0 t ∧ DrO s.size t a b k ∧ k ≤ 30 + j ∧ l = ml.length ∧ Fr t0.size t x ml.length cc 1 (miV ml) ∧ ml.length = j ∧ ∀ m ∈ ml, 0 ≤ m ∧ m ≤ 600) (fun _ _ _ i _ => (n - i).toNat) none 0 0 0 t0
    ⟨0, [], k, rfl, hn.1, Kp.refl _, hd, by omega, rfl, Fr.nil _ _ _, rfl, fun l hl => by cases hl⟩ ?_
  rintro x l cc i t ⟨j, ml, k, rfl, hj, kt, hd, hk, rfl, fr, hlj, hml⟩
  have hs0 := h.kp.1
  have hz0 := kt.1
  unfold B_law07_made_1
  refine BR_dec (fun hlt => ?_) (fun hge => ?_)
  · refine c_draw hd (by omega) (by omega) fun t1 p k1 z1 p0 p1 d1 => ?_
    try simp only [TUP_mk, AGG_mk, HD_mk, NL_mk, TYI_mk, TYB_mk, TYP_mk, TYL_mk, TYS_mk, TYM_mk, SO_mk, NX_mk, endK_mk, endK_mk', add_0]
    refine NEW_rule fun t2 e2 z2 n2 _ => ?_
    have k02 := k1.ext e2
    have fk : Fr t0.size t2 x ml.length cc 1 (miV ml) := fr.kp k02 fun a' ha' hb' => by have := fr.fr a' ha'; have : a'.block = a.block := hb'; omega
    refine APP_fr (lo := t0.size) fk (by have := k02.1; omega) (ws := mi1 p) (fun i hi => ⟨⟨t1.size, 0, none⟩, rfl, ?_⟩) rfl zc_3 rfl (by omega) (by simp [mi1, oneCell]) (by omega) fun t3 x3 c3 k3 hx3 fr3 => ?_
    · have hi3 : i < 1 := hi
      match i, hi3 with
      | 0, _ => exact (n2 0 _ rfl).cell
    · have hlen : (ml ++ [p]).length = ml.length + 1 := by simp
      refine ⟨_, _, _, _, rfl, ⟨j + 1, ml ++ [p], k + 1, wrap_succ (by omega), by omega, ?_, ?_, by omega, hlen.symm, ?_, by rw [hlen]; omega, fun m hm => ?_⟩, ?_⟩
      · refine kp_step (kt.trans k02) k3 fun z hz => ?_
        obtain ⟨a', ha', rfl⟩ := hz
        exact .inr (fr.fr a' ha')
      · refine (d1.ext e2).kp k3 fun z hz hh => ?_
        obtain ⟨a', ha', rfl⟩ := hh
        have := fr.fr a' ha'
        omega
      · rw [hlen]
        have e : miV (ml ++ [p]) = miV ml ++ mi1 p := by unfold miV; rw [List.flatMap_append]; simp
        rw [e]; exact fr3
      · rcases List.mem_append.1 hm with hm | hm
        · exact hml m hm
        · rw [List.mem_singleton] at hm; subst hm; omega
      · rw [wrap_succ (by omega)]
        show (n - ((j + 1 : Nat) : Int)).toNat < (n - (j : Int)).toNat
        omega
  · have hm : Ml n ml := ⟨by omega, hn.2, hml⟩
    have h' := h.keep kt
    have hh : MB s a b cb t ⟨ws, n, [], []⟩ gl ml wx gx x none none wc 0 0 :=
      ⟨h'.kp, h'.ab, h'.sc, h'.c0, h'.c1, h'.c2, h'.c3, h'.w, h'.g, fr.row, h'.r, h'.l, h'.wb, h'.gb, fun q hq => by have := fr.fr q hq; omega, h'.rb, h'.lb⟩
    refine ⟨_, hh.c1.cell, ?_⟩
    refine BR_eq (fun hn0 => ?_) (fun hn0 => ?_)
    · exact made_end hh (made_of hw hm ⟨by simp, fun l hl => by cases hl⟩ ⟨by simp, fun l hl => by cases hl⟩) he
    · refine BR_dec (fun hg => ?_) (fun hg => ?_)
      · refine c_draw hd (by omega) (by omega) fun t1 p k1 z1 p0 p1 d1 => ?_
        try simp only [TUP_mk, AGG_mk, HD_mk, NL_mk, TYI_mk, TYB_mk, TYP_mk, TYL_mk, TYS_mk, TYM_mk, SO_mk, NX_mk, endK_mk, endK_mk', add_0]
        exact made_l2 (hh.keep k1) d1 (by omega) (by omega) hw hm (by show 0 < n; have : n ≠ 0 := hn0; omega) (by omega) he
      · refine c_draw hd (by omega) (by omega) fun t1 p k1 z1 p0 p1 d1 => ?_
        try simp only [TUP_mk, AGG_mk, HD_mk, NL_mk, TYI_mk, TYB_mk, TYP_mk, TYL_mk, TYS_mk, TYM_mk, SO_mk, NX_mk, endK_mk, endK_mk', add_0]
        exact made_l3 (hh.keep k1) d1 (by omega) (by omega) hw hm (by show 0 < n; have : n ≠ 0 := hn0; omega) ⟨by simp, fun l hl => by cases hl⟩ he
theorem made_l0 {t0 : Hp} {k : Nat} {n : Int} (h : MB s a b cb t0 ⟨[], 0, [], []⟩ [] [] none none none none none 0 0 0) (hd : DrO s.size t0 a b k) (hk : k ≤ 1) (hn : 0 ≤ n ∧ n ≤ 2) (he : EndM K s a) :
    L_law07_made_0 W (endK K E) (drV a b) ⟨cb, 0, none⟩ n none 0 0 0 t0 := by
  have hcb := h.lt
  have hab := h.ab
  have hsc := h.sc
  have hs0 := h.kp.1
  refine L_law07_made_0_rule W _ _ _ _ (fun x l cc i t => ∃ (j : Nat) (ws : List Wt) (gl : List Go') (wx : Option Addr) (wc k : Nat), i = j ∧ (j : Int) ≤ n ∧ Kp (fun q => q = a.block ∨ q = cb) t0 t ∧ DrO s.size t a b k ∧ k ≤ 1 + 6 * j ∧ l = gl.length ∧ Fr t0.size t x gl.length cc 2 (goV gl) ∧ Fr t0.size t wx ws.length wc 4 (wtV ws) ∧ (∀ p q, x = some p → wx = some q → p.block ≠ q.block) ∧ (∀ q, wx = some q → q.block < t.size) ∧ (∀ q, x = some q → q.block < t.size) ∧
      Own t ⟨cb, 0, none⟩ (.slice wx ws.length wc) ∧ Own t ⟨cb, 1, none⟩ (.int .i64 0) ∧ Own t ⟨cb, 2, none⟩ (.slice none 0 0) ∧ Own t ⟨cb, 3, none⟩ (.slice none 0 0) ∧ ws.length = j ∧ Wl ws gl) (fun _ _ _ i _ => (n - i).toNat) none 0 0 0 t0
    ⟨0, [], [], none, 0, k, rfl, hn.1, Kp.refl _, hd, by omega, rfl, Fr.nil _ _ _, Fr.nil _ _ _, (fun p q h => by cases h), (fun q h => by cases h), (fun q h => by cases h), h.c0, h.c1, h.c2, h.c3, rfl, ⟨by simp, .nil, (fun l hl => by cases hl), (fun l hl => by cases hl)⟩⟩ ?_
  rintro x l cc i t ⟨j, ws, gl, wx, wc, k, rfl, hj, kt, hd, hk, rfl, fg, fw, hdj, hwt, hgt, c0, c1, c2, c3, hwj, hw⟩
  have hz0 := kt.1
  have hna : ¬ cb = a.block := by omega
  have hgl : gl.length = ws.length := hw.goes.len
  have hw2 := hw.len
  unfold B_law07_made_0
  refine BR_dec (fun hlt => ?_) (fun hge => ?_)
  · refine c_draw hd (by omega) (by omega) fun t1 z k1 z1 p0 p1 d1 => ?_
    try simp only [TUP_mk, AGG_mk, HD_mk, NL_mk, TYI_mk, TYB_mk, TYP_mk, TYL_mk, TYS_mk, TYM_mk, SO_mk, NX_mk, endK_mk, endK_mk', add_0]
    refine c_draw d1 (by omega) (by omega) fun t2 r k2 z2 q0 q1 d2 => ?_
    try simp only [TUP_mk, AGG_mk, HD_mk, NL_mk, TYI_mk, TYB_mk, TYP_mk, TYL_mk, TYS_mk, TYM_mk, SO_mk, NX_mk, endK_mk, endK_mk', add_0]
    rw [wrap_i64 (n := 20 + z) (by omega) (by omega), wrap_i64 (n := 950 + r) (by omega) (by omega)]
    have k02 := k1.trans k2
    refine nw2 zc_55 rfl rfl fun t3 e3 z3 o1 o2 => ⟨_, o1.cell, ⟨_, o2.cell, ?_⟩⟩
    refine NEW_rule fun t4 e4 z4 n4 _ => ?_
    have k04 := (k02.ext e3).ext e4
    have hs4 := k04.1
    have fk : ∀ {x : Option Addr} {l c es : Nat} {vs : List Value} {t'}, Kp (· = a.block) t t' → Fr t0.size t x l c es vs → Fr t0.size t' x l c es vs := fun k f => f.kp k fun a' ha' hb' => by have := f.fr a' ha'; have : a'.block = a.block := hb'; omega
    refine APP_fr (lo := t0.size) (fk k04 fg) (by omega) (ws := go2 (20 + z, 950 + r)) (fun i hi => ⟨⟨t3.size, 0, none⟩, rfl, ?_⟩) rfl zc_55 rfl (by omega) (by simp [go2, oneCell]) (by omega) fun t5 x5 cc5 k5 hx5 fg5 => ?_
    · have hi3 : i < 2 := hi
      match i, hi3 with
      | 0, _ => exact (n4 0 _ rfl).cell
      | 1, _ => exact (n4 1 _ rfl).cell
    have hnD : ∀ y, y < t0.size → ¬ (∃ a', x = some a' ∧ a'.block = y) := by
      rintro y hy ⟨a', ha', hb'⟩
      have := fg.fr a' ha'
      omega
    have hx5t : ∀ q, x5 = some q → q.block < t5.size := fun q hq => by
      rcases hx5 q hq with ⟨q', hq', hb⟩ | hb
      · have := hgt q' hq'; have := k5.1; omega
      · have hl5 := fg5.buf.own 0 (by have h2 := fg5.buf.le; have h1 := fg5.len; omega)
        obtain ⟨a2, ha2, y, ho, _⟩ := hl5
        rw [hq] at ha2; cases ha2
        have := ho.lt
        rw [add_blk] at this
        exact this
    -- what stays
    have hw5 : Fr t0.size t5 wx ws.length wc 4 (wtV ws) := (fk k04 fw).kp k5 fun a' ha' ⟨p, hp, hb⟩ => hdj p a' hp ha' hb
    have oc : ∀ {j v}, Own t ⟨cb, j, none⟩ v → Own t5 ⟨cb, j, none⟩ v := fun o => k5.own (hnD _ hcb) (k04.own hna o)
    have h25 : t.size ≤ t2.size := k02.1
    have ob : ∀ {j v}, Own t3 ⟨t2.size, j, none⟩ v → Own t5 ⟨t2.size, j, none⟩ v := fun o => k5.own (fun ⟨a', ha', hb'⟩ => by have := hgt a' ha'; have : a'.block = t2.size := hb'; omega) (e4.own o)
    have hnb : ¬ t2.size = a.block := by omega
    have d5 : DrO s.size t5 a b (k + 1 + 1) := ((d2.ext (e3.trans e4)).kp k5 fun z hz => hnD z (by omega))
    have B0 : ∀ t', Kp (· = a.block) t5 t' → Own t' ⟨t2.size, 0, none⟩ (.int .i64 (20 + z)) ∧ Own t' ⟨t2.size, 1, none⟩ (.int .i64 (950 + r)) ∧ Own t' ⟨cb, 0, none⟩ (.slice wx ws.length wc) := fun t' k => ⟨k.own hnb (ob o1), k.own hnb (ob o2), k.own hna (oc c0)⟩
    obtain ⟨b1, b2, b3⟩ := B0 t5 (Kp.refl _)
    refine ⟨_, _, _, b3.cell, ⟨_, b1.cell, ⟨_, b1.cell, ⟨_, b2.cell, ⟨_, b2.cell, ?_⟩⟩⟩⟩⟩
    refine c_draw d5 (by omega) (by omega) fun t6 da k6 z6 a0 a1 d6 => ?_
    try simp only [TUP_mk, AGG_mk, HD_mk, NL_mk, TYI_mk, TYB_mk, TYP_mk, TYL_mk, TYS_mk, TYM_mk, SO_mk, NX_mk, endK_mk, endK_mk', add_0]
    obtain ⟨b1, b2, b3⟩ := B0 t6 k6
    refine ANDS_i ⟨_, b2.cell, rfl⟩ (ANDS_i ⟨_, b2.cell, rfl⟩ (ANDS_i ⟨_, b1.cell, rfl⟩ (ANDS_i ⟨_, b1.cell, rfl⟩ (ANDS_i ⟨_, _, _, b3.cell, rfl⟩ ?_))))
    refine c_draw d6 (by omega) (by omega) fun t7 db k7 z7 b0 b1' d7 => ?_
    try simp only [TUP_mk, AGG_mk, HD_mk, NL_mk, TYI_mk, TYB_mk, TYP_mk, TYL_mk, TYS_mk, TYM_mk, SO_mk, NX_mk, endK_mk, endK_mk', add_0]
    have k57 := k6.trans k7
    obtain ⟨b1, b2, b3⟩ := B0 t7 k57
    refine ANDS_i ⟨_, b2.cell, rfl⟩ (ANDS_i ⟨_, b2.cell, rfl⟩ (ANDS_i ⟨_, b1.cell, rfl⟩ (ANDS_i ⟨_, b1.cell, rfl⟩ (ANDS_i ⟨_, _, _, b3.cell, rfl⟩ ?_))))
    refine c_span fun t8 e8 => ?_
    try simp only [TUP_mk, AGG_mk, HD_mk, NL_mk, TYI_mk, TYB_mk, TYP_mk, TYL_mk, TYS_mk, TYM_mk, SO_mk, NX_mk, endK_mk, endK_mk', add_0]
    have k58 := k57.ext e8
    obtain ⟨b1, b2, b3⟩ := B0 t8 k58
    refine ANDS_i ⟨_, b2.cell, rfl⟩ (ANDS_i ⟨_, b2.cell, rfl⟩ (ANDS_i ⟨_, _, _, b3.cell, rfl⟩ ?_))
    refine c_draw (d7.ext e8) (by omega) (by omega) fun t9 dc k9 z9 c0' c1' d9 => ?_
    try simp only [TUP_mk, AGG_mk, HD_mk, NL_mk, TYI_mk, TYB_mk, TYP_mk, TYL_mk, TYS_mk, TYM_mk, SO_mk, NX_mk, endK_mk, endK_mk', add_0]
    have k59 := k58.trans k9
    obtain ⟨b1, b2, b3⟩ := B0 t9 k59
    refine ANDS_i ⟨_, b2.cell, rfl⟩ (ANDS_i ⟨_, b2.cell, rfl⟩ (ANDS_i ⟨_, _, _, b3.cell, rfl⟩ ?_))
    refine c_draw d9 (by omega) (by omega) fun u1 dd k10 z10 d0' d1' d10 => ?_
    try simp only [TUP_mk, AGG_mk, HD_mk, NL_mk, TYI_mk, TYB_mk, TYP_mk, TYL_mk, TYS_mk, TYM_mk, SO_mk, NX_mk, endK_mk, endK_mk', add_0]
    have k5u := k59.trans k10
    obtain ⟨b1, b2, b3⟩ := B0 u1 k5u
    refine ANDS_i ⟨_, b2.cell, rfl⟩ (ANDS_i ⟨_, b2.cell, rfl⟩ (ANDS_i ⟨_, _, _, b3.cell, rfl⟩ ?_))
    refine c_span fun u2 e11 => ?_
    try simp only [TUP_mk, AGG_mk, HD_mk, NL_mk, TYI_mk, TYB_mk, TYP_mk, TYL_mk, TYS_mk, TYM_mk, SO_mk, NX_mk, endK_mk, endK_mk', add_0]
    have k5u2 := k5u.ext e11
    obtain ⟨b1, b2, b3⟩ := B0 u2 k5u2
    refine ANDS_i ⟨_, _, _, b3.cell, rfl⟩ ?_
    rw [wrap_i64 (n := 20 + z - da) (by omega) (by omega), wrap_i64 (n := 20 + z + db) (by omega) (by omega), wrap_i64 (n := 950 + r - dc) (by omega) (by omega), wrap_i64 (n := 950 + r + dd) (by omega) (by omega)]
    refine NEW_rule fun u3 e12 z12 n12 _ => ?_
    have k5u3 := k5u2.ext e12
    obtain ⟨b1, b2, b3⟩ := B0 u3 k5u3
    refine ANDS_i ⟨_, _, _, b3.cell, rfl⟩ ?_
    have hs5 := k5.1
    have hs53 := k5u3.1
    have fk5 : ∀ {x : Option Addr} {l c es : Nat} {vs : List Value}, Fr t0.size t5 x l c es vs → Fr t0.size u3 x l c es vs := fun f => f.kp k5u3 fun a' ha' hb' => by have := f.fr a' ha'; have : a'.block = a.block := hb'; omega
    refine APP_fr (lo := t0.size) (fk5 hw5) (by omega) (ws := wt4 ⟨20 + z - da, 20 + z + db, 950 + r - dc, 950 + r + dd⟩) (fun i hi => ⟨⟨u2.size, 0, none⟩, rfl, ?_⟩) rfl zc_66 rfl (by omega) (by simp [wt4, oneCell]) (by omega) fun u4 x13 c13 k13 hx13 fw13 => ?_
    · have hi3 : i < 4 := hi
      match i, hi3 with
      | 0, _ => exact (n12 0 _ rfl).cell
      | 1, _ => exact (n12 1 _ rfl).cell
      | 2, _ => exact (n12 2 _ rfl).cell
      | 3, _ => exact (n12 3 _ rfl).cell
    have hnW : ∀ y, y < t0.size → ¬ (∃ a', wx = some a' ∧ a'.block = y) := by
      rintro y hy ⟨a', ha', hb'⟩
      have := fw.fr a' ha'
      omega
    have oc4 : ∀ {j v}, Own t ⟨cb, j, none⟩ v → Own u4 ⟨cb, j, none⟩ v := fun o => k13.own (hnW _ hcb) (k5u3.own hna (oc o))
    have hdj' : ∀ p q, x5 = some p → wx = some q → p.block ≠ q.block := fun p q hp hq => by
      rcases hx5 p hp with ⟨p', hp', hb⟩ | hb
      · rw [← hb]; exact hdj p' q hp' hq
      · have := hwt q hq; omega
    have fg4 : Fr t0.size u4 x5 (gl.length + 1) cc5 2 (goV gl ++ go2 (20 + z, 950 + r)) := (fk5 fg5).kp k13 fun a' ha' ⟨p, hp, hb⟩ => hdj' a' p ha' hp hb.symm
    have d4 : DrO s.size u4 a b (k + 1 + 1 + 1 + 1 + 1 + 1) := ((d10.ext (e11.trans e12)).kp k13 fun z hz => hnW z (by omega))
    have hs4' := k13.1
    refine wrOne (i := 0) (oc4 c0) rfl fun u5 k14 z14 w0 wk => ?_
    have hlg : (gl ++ [((20 + z, 950 + r) : Go')]).length = gl.length + 1 := by simp
    have hlw : (ws ++ [(⟨20 + z - da, 20 + z + db, 950 + r - dc, 950 + r + dd⟩ : Wt)]).length = ws.length + 1 := by simp
    have eg : goV (gl ++ [((20 + z, 950 + r) : Go')]) = goV gl ++ go2 (20 + z, 950 + r) := by unfold goV; rw [List.flatMap_append]; simp
    have ew : wtV (ws ++ [(⟨20 + z - da, 20 + z + db, 950 + r - dc, 950 + r + dd⟩ : Wt)]) = wtV ws ++ wt4 ⟨20 + z - da, 20 + z + db, 950 + r - dc, 950 + r + dd⟩ := by unfold wtV; rw [List.flatMap_append]; simp
    have hkc : ∀ {x : Option Addr} {l c es : Nat} {vs : List Value}, Fr t0.size u4 x l c es vs → Fr t0.size u5 x l c es vs := fun f => f.kp k14 fun a' ha' hb' => by have := f.fr a' ha'; have : a'.block = cb := hb'; omega
    refine ⟨_, _, _, _, rfl, ⟨j + 1, ws ++ [⟨20 + z - da, 20 + z + db, 950 + r - dc, 950 + r + dd⟩], gl ++ [(20 + z, 950 + r)], x13, c13, k + 1 + 1 + 1 + 1 + 1 + 1, wrap_succ (by omega), by omega, ?_, ?_, by omega, hlg.symm, ?_, ?_, ?_, ?_, ?_, ?_, wk 1 _ (by omega) (oc4 c1), wk 2 _ (by omega) (oc4 c2), wk 3 _ (by omega) (oc4 c3), by rw [hlw]; omega, ?_⟩, ?_⟩
    · refine kp_step (kp_step (kp_step (kp_step (kp_step kt k04 fun z hz => .inl (.inl hz)) k5 fun z hz => ?_) k5u3 fun z hz => .inl (.inl hz)) k13 fun z hz => ?_) k14 fun z hz => .inl (.inr hz)
      · obtain ⟨a', ha', rfl⟩ := hz
        exact .inr (fg.fr a' ha')
      · obtain ⟨a', ha', rfl⟩ := hz
        exact .inr (fw.fr a' ha')
    · exact d4.kp k14 fun z hz hh => by have : z = cb := hh; omega
    · rw [hlg, eg]; exact hkc fg4
    · rw [hlw, ew]; exact hkc fw13
    · intro p q hp hq
      rcases hx13 q hq with ⟨q', hq', hb⟩ | hb
      · rw [← hb]; exact hdj' p q' hp hq'
      · have := hx5t p hp; omega
    · intro q hq
      have hl5 := (hkc fw13).buf.own 0 (by have h2 := fw13.buf.le; have h1 := fw13.len; omega)
      obtain ⟨a2, ha2, y, ho, _⟩ := hl5
      rw [hq] at ha2; cases ha2
      have := ho.lt
      rw [add_blk] at this
      exact this
    · intro q hq
      have := hx5t q hq
      omega
    · rw [hlw]; exact w0
    · have := hw.snoc (z := 20 + z) (r := 950 + r) (a := da) (b := db) (c := dc) (d := dd) (by omega) (by omega) (by omega) (by omega) (by omega) (by omega) (by omega)
      exact this
    · rw [wrap_succ (by omega)]
      show (n - ((j + 1 : Nat) : Int)).toNat < (n - (j : Int)).toNat
      omega
  · refine c_draw hd (by omega) (by omega) fun t1 p k1 z1 p0 p1 d1 => ?_
    try simp only [TUP_mk, AGG_mk, HD_mk, NL_mk, TYI_mk, TYB_mk, TYP_mk, TYL_mk, TYS_mk, TYM_mk, SO_mk, NX_mk, endK_mk, endK_mk', add_0]
    refine wrOne (i := 1) (k1.own hna c1) rfl fun t2 k2 z2 w1 wk => ⟨_, w1.cell, ?_⟩
    have kk : Kp (fun q => q = a.block ∨ q = cb) t t2 := (k1.mono fun q hq => .inl hq).trans (k2.mono fun q hq => .inr hq)
    have hdq : ∀ {x : Option Addr} {l c es : Nat} {vs : List Value}, Fr t0.size t x l c es vs → ∀ q, x = some q → ¬ (q.block = a.block ∨ q.block = cb) := fun f q hq => by have := f.fr q hq; omega
    have hh : MB s a b cb t2 ⟨ws, p, [], []⟩ gl [] wx x none none none wc 0 0 := by
      refine ⟨?_, h.ab, h.sc, wk 0 _ (by omega) (k1.own hna c0), w1, wk 2 _ (by omega) (k1.own hna c2), wk 3 _ (by omega) (k1.own hna c3), fw.row.keep kk (hdq fw), fg.row.keep kk (hdq fg), fun i hi => by simp [miV] at hi, fun i hi => by simp [rdV] at hi, fun i hi => by simp [lkV] at hi, fun q hq => by have := fw.fr q hq; omega, fun q hq => by have := fg.fr q hq; omega, fun q hq => (by cases hq), fun q hq => (by cases hq), fun q hq => (by cases hq)⟩
      exact kp_step (kp_step h.kp kt fun q hq => hq.elim .inl fun hq => .inr (by omega)) kk fun q hq => hq.elim .inl fun hq => .inr (by omega)
    exact made_l1 hh (d1.kp k2 fun z hz hh => by have : z = cb := hh; omega) (by omega) (by omega) hw he
theorem c_made (hd : DrO s.size s a b 0) (he : EndM K s a) : CALL Pg W F_law07_made [drV a b] K E s := by
  refine does_law07_made W _ _ s ?_
  unfold T_law07_made
  refine nz4 zc_26 fun s1 e1 z1 o1 o2 o3 o4 => ?_
  refine c_draw (hd.ext e1) (by omega) (by omega) fun t1 p k1 zz p0 p1 d1 => ?_
  try simp only [TUP_mk, AGG_mk, HD_mk, NL_mk, TYI_mk, TYB_mk, TYP_mk, TYL_mk, TYS_mk, TYM_mk, SO_mk, NX_mk, endK_mk, endK_mk', add_0]
  have hna : ¬ s.size = a.block := by have := hd.an; omega
  refine made_l0 (cb := s.size) ⟨?_, hd.an, Nat.le_refl _, k1.own hna o1, k1.own hna o2, k1.own hna o3, k1.own hna o4, fun i hi => by simp [wtV] at hi, fun i hi => by simp [goV] at hi, fun i hi => by simp [miV] at hi, fun i hi => by simp [rdV] at hi, fun i hi => by simp [lkV] at hi, fun q hq => (by cases hq), fun q hq => (by cases hq), fun q hq => (by cases hq), fun q hq => (by cases hq), fun q hq => (by cases hq)⟩ d1 (by omega) (by omega) he
  exact e1.kp.trans k1
end
end Go.Proofs.Ytknpmijgdfeliaa.G
