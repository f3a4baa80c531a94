import Derived.Test.YtknpmijgdfeliaaC3
/- errors, numbers and limits have the document's values, and the chapter's examples hold. -/
/- More of the functions' shallow texts, by gen.py. -/
set_option linter.unusedVariables false
set_option maxRecDepth 100000
namespace Go.Proofs.Ytknpmijgdfeliaa.G
open Go.V
def an_13 : Nat → Ann := fun b => match b with
  | 0 => { ms := [2, 3], ks := [.b, .i .i64], us := [1, 142], rt := false, ex := [] }
  | 2 => { ms := [2, 6], ks := [.b, .i .i64], us := [1, 142], rt := false, ex := [] }
  | 4 => { ms := [2, 8], ks := [.b, .i .i64], us := [1, 142], rt := false, ex := [] }
  | _ => {}
abbrev rv_13 : List ResultVar := [.tmp 2]
abbrev rs_13 : List Nat := [142, 2]
def L_ref07_Clock_0 (W : World) (R : Ending → Hp → Prop) (za0 : Addr) (b28 : Bool) (n29 : Int) : Hp → Prop :=
  LOOPN [.b, .i .i64] (fun ys next s => ∀ j : Tm, vc Pg W 142 rs_13 an_13 false (sub (bodyOf Try.f13) [1, 1, 0, 1, 0, 0]) 0 (KLoop [2, 3] [1, 142] [(.pointer (some za0)), (.tuple #[])] next (KBlk 0 (KS Pg W 142 rs_13 an_13 false (sub (bodyOf Try.f13) [1, 1, 1]) 0 (fin Pg W 142 rv_13 R)))) (known [2, 3] ys (known [1, 142] [(.pointer (some za0)), (.tuple #[])] j)) s) [(.bool b28), (.int .i64 n29)]
def L_ref07_Clock_1 (W : World) (R : Ending → Hp → Prop) (za0 : Addr) (b123 : Bool) (n124 : Int) : Hp → Prop :=
  LOOPN [.b, .i .i64] (fun ys next s => ∀ j : Tm, vc Pg W 142 rs_13 an_13 false (sub (bodyOf Try.f13) [1, 1, 1, 0, 1, 0, 0]) 2 (KLoop [2, 6] [1, 142] [(.pointer (some za0)), (.tuple #[])] next (KBlk 2 (KS Pg W 142 rs_13 an_13 false (sub (bodyOf Try.f13) [1, 1, 1, 1]) 0 (fin Pg W 142 rv_13 R)))) (known [2, 6] ys (known [1, 142] [(.pointer (some za0)), (.tuple #[])] j)) s) [(.bool b123), (.int .i64 n124)]
def L_ref07_Clock_2 (W : World) (R : Ending → Hp → Prop) (za0 : Addr) (b169 : Bool) (n170 : Int) : Hp → Prop :=
  LOOPN [.b, .i .i64] (fun ys next s => ∀ j : Tm, vc Pg W 142 rs_13 an_13 false (sub (bodyOf Try.f13) [1, 1, 1, 1, 0, 1, 0, 0]) 4 (KLoop [2, 8] [1, 142] [(.pointer (some za0)), (.tuple #[])] next (KBlk 4 (KS Pg W 142 rs_13 an_13 false (sub (bodyOf Try.f13) [1, 1, 1, 1, 1]) 0 (fin Pg W 142 rv_13 R)))) (known [2, 8] ys (known [1, 142] [(.pointer (some za0)), (.tuple #[])] j)) s) [(.bool b169), (.int .i64 n170)]
def J_ref07_Clock_0 (W : World) (R : Ending → Hp → Prop) (b17 : Bool) (B11 : Nat) : Hp → Prop :=
  BR b17
    (R (.returned (.bool false)))
    (L_ref07_Clock_0 W R ⟨B11, 0, none⟩ false 0)
def J_ref07_Clock_1 (W : World) (R : Ending → Hp → Prop) (b16 : Bool) (B11 : Nat) : Hp → Prop :=
  BR b16
    (J_ref07_Clock_0 W R true B11)
    (RDL (Addr.add ⟨B11, 0, none⟩ 3) fun x18 l19 c20 =>
      J_ref07_Clock_0 W R (decide ((↑l19 : Int) > 5)) B11)
def J_ref07_Clock_2 (W : World) (R : Ending → Hp → Prop) (b15 : Bool) (B11 : Nat) : Hp → Prop :=
  BR b15
    (J_ref07_Clock_1 W R true B11)
    (RDL (Addr.add ⟨B11, 0, none⟩ 2) fun x21 l22 c23 =>
      J_ref07_Clock_1 W R (decide ((↑l22 : Int) > 8)) B11)
def J_ref07_Clock_3 (W : World) (R : Ending → Hp → Prop) (b81 : Bool) (p73 : Option Addr) (za0 : Addr) (nx0 : List Value → Hp → Prop) (b28 : Bool) (n29 : Int) : Hp → Prop :=
  BR b81
    (R (.returned (.bool false)))
    (SO p73 fun a82 =>
      RDI .i64 (Addr.add a82 1) fun n83 =>
        SO p73 fun a84 =>
          RDI .i64 (Addr.add a84 0) fun n85 =>
            BR (decide ((IntKind.wrap .i64 (n83 - n85)) > 4))
              (R (.returned (.bool false)))
              (NX [(.pointer (some za0)), (.tuple #[])] [(.pointer (some za0)), (.tuple #[])] (nx0 [(.bool b28), (.int .i64 (IntKind.wrap .i64 (n29 + 1)))])))
def J_ref07_Clock_4 (W : World) (R : Ending → Hp → Prop) (b80 : Bool) (p73 : Option Addr) (za0 : Addr) (nx0 : List Value → Hp → Prop) (b28 : Bool) (n29 : Int) : Hp → Prop :=
  BR b80
    (J_ref07_Clock_3 W R true p73 za0 nx0 b28 n29)
    (SO p73 fun a86 =>
      RDI .i64 (Addr.add a86 0) fun n87 =>
        RDI .i64 (Addr.add a86 1) fun n88 =>
          CALL Pg W F_ref07_span [(.agg #[(.int .i64 n87), (.int .i64 n88)]), (.int .i64 900), (.int .i64 1100)]
            (fun v89 => TYB v89 fun b91 =>
              J_ref07_Clock_3 W R (!b91) p73 za0 nx0 b28 n29)
              (fun e90 => R (.panicked e90)))
def J_ref07_Clock_5 (W : World) (R : Ending → Hp → Prop) (p72 : Option Addr) (p73 : Option Addr) (za0 : Addr) (nx0 : List Value → Hp → Prop) (b28 : Bool) (n29 : Int) : Hp → Prop :=
  SO p72 fun a74 =>
    RDI .i64 (Addr.add a74 0) fun n75 =>
      RDI .i64 (Addr.add a74 1) fun n76 =>
        CALL Pg W F_ref07_span [(.agg #[(.int .i64 n75), (.int .i64 n76)]), (.int .i64 0), (.int .i64 1000)]
          (fun v77 => TYB v77 fun b79 =>
            BR (!b79)
              (J_ref07_Clock_4 W R true p73 za0 nx0 b28 n29)
              (SO p72 fun a92 =>
                RDI .i64 (Addr.add a92 1) fun n93 =>
                  SO p72 fun a94 =>
                    RDI .i64 (Addr.add a94 0) fun n95 =>
                      J_ref07_Clock_4 W R (decide ((IntKind.wrap .i64 (n93 - n95)) > 6)) p73 za0 nx0 b28 n29))
            (fun e78 => R (.panicked e78))
def J_ref07_Clock_6 (W : World) (R : Ending → Hp → Prop) (b150 : Bool) (B135 : Nat) (za0 : Addr) (nx1 : List Value → Hp → Prop) (b123 : Bool) (n124 : Int) : Hp → Prop :=
  BR b150
    (R (.returned (.bool false)))
    (RDI .i64 (Addr.add ⟨B135, 0, none⟩ 2) fun n151 =>
      CALL Pg W F_ref07_in [(.int .i64 n151), (.int .i64 0), (.int .i64 2000)]
        (fun v152 => TYB v152 fun b154 =>
          BR (!b154)
            (R (.returned (.bool false)))
            (NX [(.pointer (some za0)), (.tuple #[])] [(.pointer (some za0)), (.tuple #[])] (nx1 [(.bool b123), (.int .i64 (IntKind.wrap .i64 (n124 + 1)))])))
          (fun e153 => R (.panicked e153)))
def J_ref07_Clock_7 (W : World) (R : Ending → Hp → Prop) (b198 : Bool) (B182 : Nat) (za0 : Addr) (nx2 : List Value → Hp → Prop) (b169 : Bool) (n170 : Int) : Hp → Prop :=
  BR b198
    (R (.returned (.bool false)))
    (RDI .i64 (Addr.add (Addr.add ⟨B182, 0, none⟩ 2) 0) fun n199 =>
      RDI .i64 (Addr.add (Addr.add ⟨B182, 0, none⟩ 2) 1) fun n200 =>
        CALL Pg W F_ref07_span [(.agg #[(.int .i64 n199), (.int .i64 n200)]), (.int .i64 (-600)), (.int .i64 600)]
          (fun v201 => TYB v201 fun b203 =>
            BR (!b203)
              (R (.returned (.bool false)))
              (NX [(.pointer (some za0)), (.tuple #[])] [(.pointer (some za0)), (.tuple #[])] (nx2 [(.bool b169), (.int .i64 (IntKind.wrap .i64 (n170 + 1)))])))
            (fun e202 => R (.panicked e202)))
def J_ref07_Clock_8 (W : World) (R : Ending → Hp → Prop) (b197 : Bool) (B182 : Nat) (za0 : Addr) (nx2 : List Value → Hp → Prop) (b169 : Bool) (n170 : Int) : Hp → Prop :=
  BR b197
    (J_ref07_Clock_7 W R true B182 za0 nx2 b169 n170)
    (RDI .i64 (Addr.add ⟨B182, 0, none⟩ 0) fun n204 =>
      RDI .i64 (Addr.add ⟨B182, 0, none⟩ 1) fun n205 =>
        J_ref07_Clock_7 W R (n204 == n205) B182 za0 nx2 b169 n170)
def B_ref07_Clock_0 (W : World) (R : Ending → Hp → Prop) (za0 : Addr) (b28 : Bool) (n29 : Int) (nx0 : List Value → Hp → Prop) : Hp → Prop :=
  RDL (Addr.add za0 0) fun x30 l31 c32 =>
    BR (decide (n29 < (↑l31 : Int)))
      (RDL (Addr.add za0 0) fun x33 l34 c35 =>
        IXS x33 l34 n29 4 fun a36 =>
          RDI .i64 (Addr.add (Addr.add a36 0) 0) fun n37 =>
            RDI .i64 (Addr.add (Addr.add a36 0) 1) fun n38 =>
              RDL (Addr.add za0 0) fun x39 l40 c41 =>
                IXS x39 l40 n29 4 fun a42 =>
                  RDI .i64 (Addr.add (Addr.add a42 2) 0) fun n43 =>
                    RDI .i64 (Addr.add (Addr.add a42 2) 1) fun n44 =>
                      CONJ [
                        NEWZ Pg 34 fun B45 =>
                          ANDS (RDI .i64 (Addr.add (Addr.add a42 2) 0) fun n46 =>
                            RDI .i64 (Addr.add (Addr.add a42 2) 1) fun n47 =>
                              fun _ => ((.agg #[(.int .i64 n46), (.int .i64 n47)]) : Value) = (.agg #[(.int .i64 n43), (.int .i64 n44)])) <|
                            ANDS (RDL (Addr.add za0 0) fun x48 l49 c50 =>
                              fun _ => ((.slice x48 l49 c50) : Value) = (.slice x39 l40 c41)) <|
                              ANDS (RDI .i64 (Addr.add (Addr.add a36 0) 0) fun n51 =>
                                RDI .i64 (Addr.add (Addr.add a36 0) 1) fun n52 =>
                                  fun _ => ((.agg #[(.int .i64 n51), (.int .i64 n52)]) : Value) = (.agg #[(.int .i64 n37), (.int .i64 n38)])) <|
                                ANDS (RDL (Addr.add za0 0) fun x53 l54 c55 =>
                                  fun _ => ((.slice x53 l54 c55) : Value) = (.slice x33 l34 c35)) <|
                                  NEWZ Pg 34 fun B56 =>
                                    ANDS (RDI .i64 (Addr.add (Addr.add a42 2) 0) fun n57 =>
                                      RDI .i64 (Addr.add (Addr.add a42 2) 1) fun n58 =>
                                        fun _ => ((.agg #[(.int .i64 n57), (.int .i64 n58)]) : Value) = (.agg #[(.int .i64 n43), (.int .i64 n44)])) <|
                                      ANDS (RDL (Addr.add za0 0) fun x59 l60 c61 =>
                                        fun _ => ((.slice x59 l60 c61) : Value) = (.slice x39 l40 c41)) <|
                                        ANDS (RDI .i64 (Addr.add (Addr.add a36 0) 0) fun n62 =>
                                          RDI .i64 (Addr.add (Addr.add a36 0) 1) fun n63 =>
                                            fun _ => ((.agg #[(.int .i64 n62), (.int .i64 n63)]) : Value) = (.agg #[(.int .i64 n37), (.int .i64 n38)])) <|
                                          ANDS (RDL (Addr.add za0 0) fun x64 l65 c66 =>
                                            fun _ => ((.slice x64 l65 c66) : Value) = (.slice x33 l34 c35)) <|
                                            WR (Addr.add ⟨B45, 0, none⟩ 0) (.int .i64 n37) <|
                                              WR (Addr.add ⟨B45, 0, none⟩ 1) (.int .i64 n38) <|
                                                ANDS (RDI .i64 (Addr.add (Addr.add a42 2) 0) fun n67 =>
                                                  RDI .i64 (Addr.add (Addr.add a42 2) 1) fun n68 =>
                                                    fun _ => ((.agg #[(.int .i64 n67), (.int .i64 n68)]) : Value) = (.agg #[(.int .i64 n43), (.int .i64 n44)])) <|
                                                  ANDS (RDL (Addr.add za0 0) fun x69 l70 c71 =>
                                                    fun _ => ((.slice x69 l70 c71) : Value) = (.slice x39 l40 c41)) <|
                                                    WR (Addr.add ⟨B56, 0, none⟩ 0) (.int .i64 n43) <|
                                                      WR (Addr.add ⟨B56, 0, none⟩ 1) (.int .i64 n44) <|
                                                        J_ref07_Clock_5 W R (some ⟨B45, 0, none⟩) (some ⟨B56, 0, none⟩) za0 nx0 b28 n29,
                        NEWZ Pg 34 fun B96 =>
                          ANDS (RDI .i64 (Addr.add (Addr.add a42 2) 0) fun n97 =>
                            RDI .i64 (Addr.add (Addr.add a42 2) 1) fun n98 =>
                              fun _ => ((.agg #[(.int .i64 n97), (.int .i64 n98)]) : Value) = (.agg #[(.int .i64 n43), (.int .i64 n44)])) <|
                            ANDS (RDL (Addr.add za0 0) fun x99 l100 c101 =>
                              fun _ => ((.slice x99 l100 c101) : Value) = (.slice x39 l40 c41)) <|
                              ANDS (RDI .i64 (Addr.add (Addr.add a36 0) 0) fun n102 =>
                                RDI .i64 (Addr.add (Addr.add a36 0) 1) fun n103 =>
                                  fun _ => ((.agg #[(.int .i64 n102), (.int .i64 n103)]) : Value) = (.agg #[(.int .i64 n37), (.int .i64 n38)])) <|
                                ANDS (RDL (Addr.add za0 0) fun x104 l105 c106 =>
                                  fun _ => ((.slice x104 l105 c106) : Value) = (.slice x33 l34 c35)) <|
                                  NEWZ Pg 34 fun B107 =>
                                    ANDS (RDI .i64 (Addr.add (Addr.add a42 2) 0) fun n108 =>
                                      RDI .i64 (Addr.add (Addr.add a42 2) 1) fun n109 =>
                                        fun _ => ((.agg #[(.int .i64 n108), (.int .i64 n109)]) : Value) = (.agg #[(.int .i64 n43), (.int .i64 n44)])) <|
                                      ANDS (RDL (Addr.add za0 0) fun x110 l111 c112 =>
                                        fun _ => ((.slice x110 l111 c112) : Value) = (.slice x39 l40 c41)) <|
                                        ANDS (RDI .i64 (Addr.add (Addr.add a36 0) 0) fun n113 =>
                                          RDI .i64 (Addr.add (Addr.add a36 0) 1) fun n114 =>
                                            fun _ => ((.agg #[(.int .i64 n113), (.int .i64 n114)]) : Value) = (.agg #[(.int .i64 n37), (.int .i64 n38)])) <|
                                          ANDS (RDL (Addr.add za0 0) fun x115 l116 c117 =>
                                            fun _ => ((.slice x115 l116 c117) : Value) = (.slice x33 l34 c35)) <|
                                            WR (Addr.add ⟨B107, 0, none⟩ 0) (.int .i64 n37) <|
                                              WR (Addr.add ⟨B107, 0, none⟩ 1) (.int .i64 n38) <|
                                                ANDS (RDI .i64 (Addr.add (Addr.add a42 2) 0) fun n118 =>
                                                  RDI .i64 (Addr.add (Addr.add a42 2) 1) fun n119 =>
                                                    fun _ => ((.agg #[(.int .i64 n118), (.int .i64 n119)]) : Value) = (.agg #[(.int .i64 n43), (.int .i64 n44)])) <|
                                                  ANDS (RDL (Addr.add za0 0) fun x120 l121 c122 =>
                                                    fun _ => ((.slice x120 l121 c122) : Value) = (.slice x39 l40 c41)) <|
                                                    WR (Addr.add ⟨B96, 0, none⟩ 0) (.int .i64 n43) <|
                                                      WR (Addr.add ⟨B96, 0, none⟩ 1) (.int .i64 n44) <|
                                                        J_ref07_Clock_5 W R (some ⟨B107, 0, none⟩) (some ⟨B96, 0, none⟩) za0 nx0 b28 n29])
      (L_ref07_Clock_1 W R za0 b28 0)
theorem B_ref07_Clock_0_eq (W : World) (R : Ending → Hp → Prop) (za0 : Addr) (b28 : Bool) (n29 : Int) (nx0 : List Value → Hp → Prop) (j : Tm) : vc Pg W 142 rs_13 an_13 false (sub (bodyOf Try.f13) [1, 1, 0, 1, 0, 0]) 0 (KLoop [2, 3] [1, 142] [(.pointer (some za0)), (.tuple #[])] nx0 (KBlk 0 (KS Pg W 142 rs_13 an_13 false (sub (bodyOf Try.f13) [1, 1, 1]) 0 (fin Pg W 142 rv_13 R)))) (known [2, 3] [(.bool b28), (.int .i64 n29)] (known [1, 142] [(.pointer (some za0)), (.tuple #[])] j)) = B_ref07_Clock_0 W R za0 b28 n29 nx0 := by kernel_rfl
def N_ref07_Clock_0 (I : Bool → Int → Hp → Prop) (μ : Bool → Int → Hp → Nat) (b280 : Bool) (n290 : Int) (s : Hp) (vs : List Value) : Hp → Prop := fun s' => ∃ b28 n29, vs = [(.bool b28), (.int .i64 n29)] ∧ I b28 n29 s' ∧ μ b28 n29 s' < μ b280 n290 s
theorem L_ref07_Clock_0_rule (W : World) (R : Ending → Hp → Prop) (za0 : Addr) (I : Bool → Int → Hp → Prop) (μ : Bool → Int → Hp → Nat) (b280 : Bool) (n290 : Int) (s : Hp) (h0 : I b280 n290 s)
    (hr : ∀ (b28 : Bool) (n29 : Int) (s : Hp), I b28 n29 s → B_ref07_Clock_0 W R za0 b28 n29 (fun vs => N_ref07_Clock_0 I μ b28 n29 s vs) s) : L_ref07_Clock_0 W R za0 b280 n290 s := by
  refine ⟨fun vs s => ∃ b28 n29, vs = [(.bool b28), (.int .i64 n29)] ∧ I b28 n29 s, fun vs s => (match vs with | [.bool b28, .int _ n29] => μ b28 n29 s | _ => 0), ⟨⟨⟨_, rfl⟩, ⟨⟨_, rfl⟩, trivial⟩⟩, ⟨_, _, rfl, h0⟩⟩, ?_⟩
  intro b28 n29 s hI j
  obtain ⟨b28', n29', hy, hI⟩ := hI
  have hI' : I b28 n29 s := by cases hy; exact hI
  have hh := hr b28 n29 s hI'
  rw [← B_ref07_Clock_0_eq W R za0 b28 n29 _ j] at hh
  refine vc_mono ?_ _ _ hh
  exact KLoop_mono (fun vs s' h => by obtain ⟨b281, n291, rfl, h1, h2⟩ := h; exact ⟨⟨⟨_, rfl⟩, ⟨⟨_, rfl⟩, trivial⟩⟩, ⟨_, _, rfl, h1⟩, h2⟩)
def B_ref07_Clock_1 (W : World) (R : Ending → Hp → Prop) (za0 : Addr) (b123 : Bool) (n124 : Int) (nx1 : List Value → Hp → Prop) : Hp → Prop :=
  RDL (Addr.add za0 2) fun x125 l126 c127 =>
    BR (decide (n124 < (↑l126 : Int)))
      (RDL (Addr.add za0 2) fun x128 l129 c130 =>
        IXS x128 l129 n124 3 fun a131 =>
          RDI .i64 (Addr.add a131 0) fun n132 =>
            RDI .i64 (Addr.add a131 1) fun n133 =>
              RDI .i64 (Addr.add a131 2) fun n134 =>
                NEWZ Pg 61 fun B135 =>
                  WR (Addr.add ⟨B135, 0, none⟩ 0) (.int .i64 n132) <|
                    WR (Addr.add ⟨B135, 0, none⟩ 1) (.int .i64 n133) <|
                      WR (Addr.add ⟨B135, 0, none⟩ 2) (.int .i64 n134) <|
                        RDL (Addr.add za0 0) fun x136 l137 c138 =>
                          RDI .i64 (Addr.add za0 1) fun n139 =>
                            RDL (Addr.add za0 2) fun x140 l141 c142 =>
                              RDL (Addr.add za0 3) fun x143 l144 c145 =>
                                RDI .i64 (Addr.add ⟨B135, 0, none⟩ 0) fun n146 =>
                                  CALL Pg W F_ref07_Event [(.agg #[(.slice x136 l137 c138), (.int .i64 n139), (.slice x140 l141 c142), (.slice x143 l144 c145)]), (.int .i64 n146)]
                                    (fun v147 => TYB v147 fun b149 =>
                                      BR (!b149)
                                        (J_ref07_Clock_6 W R true B135 za0 nx1 b123 n124)
                                        (RDL (Addr.add za0 0) fun x155 l156 c157 =>
                                          RDI .i64 (Addr.add za0 1) fun n158 =>
                                            RDL (Addr.add za0 2) fun x159 l160 c161 =>
                                              RDL (Addr.add za0 3) fun x162 l163 c164 =>
                                                RDI .i64 (Addr.add ⟨B135, 0, none⟩ 1) fun n165 =>
                                                  CALL Pg W F_ref07_Watch [(.agg #[(.slice x155 l156 c157), (.int .i64 n158), (.slice x159 l160 c161), (.slice x162 l163 c164)]), (.int .i64 n165)]
                                                    (fun v166 => TYB v166 fun b168 =>
                                                      J_ref07_Clock_6 W R (!b168) B135 za0 nx1 b123 n124)
                                                      (fun e167 => R (.panicked e167))))
                                      (fun e148 => R (.panicked e148)))
      (L_ref07_Clock_2 W R za0 b123 0)
theorem B_ref07_Clock_1_eq (W : World) (R : Ending → Hp → Prop) (za0 : Addr) (b123 : Bool) (n124 : Int) (nx1 : List Value → Hp → Prop) (j : Tm) : vc Pg W 142 rs_13 an_13 false (sub (bodyOf Try.f13) [1, 1, 1, 0, 1, 0, 0]) 2 (KLoop [2, 6] [1, 142] [(.pointer (some za0)), (.tuple #[])] nx1 (KBlk 2 (KS Pg W 142 rs_13 an_13 false (sub (bodyOf Try.f13) [1, 1, 1, 1]) 0 (fin Pg W 142 rv_13 R)))) (known [2, 6] [(.bool b123), (.int .i64 n124)] (known [1, 142] [(.pointer (some za0)), (.tuple #[])] j)) = B_ref07_Clock_1 W R za0 b123 n124 nx1 := by kernel_rfl
def N_ref07_Clock_1 (I : Bool → Int → Hp → Prop) (μ : Bool → Int → Hp → Nat) (b1230 : Bool) (n1240 : Int) (s : Hp) (vs : List Value) : Hp → Prop := fun s' => ∃ b123 n124, vs = [(.bool b123), (.int .i64 n124)] ∧ I b123 n124 s' ∧ μ b123 n124 s' < μ b1230 n1240 s
theorem L_ref07_Clock_1_rule (W : World) (R : Ending → Hp → Prop) (za0 : Addr) (I : Bool → Int → Hp → Prop) (μ : Bool → Int → Hp → Nat) (b1230 : Bool) (n1240 : Int) (s : Hp) (h0 : I b1230 n1240 s)
    (hr : ∀ (b123 : Bool) (n124 : Int) (s : Hp), I b123 n124 s → B_ref07_Clock_1 W R za0 b123 n124 (fun vs => N_ref07_Clock_1 I μ b123 n124 s vs) s) : L_ref07_Clock_1 W R za0 b1230 n1240 s := by
  refine ⟨fun vs s => ∃ b123 n124, vs = [(.bool b123), (.int .i64 n124)] ∧ I b123 n124 s, fun vs s => (match vs with | [.bool b123, .int _ n124] => μ b123 n124 s | _ => 0), ⟨⟨⟨_, rfl⟩, ⟨⟨_, rfl⟩, trivial⟩⟩, ⟨_, _, rfl, h0⟩⟩, ?_⟩
  intro b123 n124 s hI j
  obtain ⟨b123', n124', hy, hI⟩ := hI
  have hI' : I b123 n124 s := by cases hy; exact hI
  have hh := hr b123 n124 s hI'
  rw [← B_ref07_Clock_1_eq W R za0 b123 n124 _ j] at hh
  refine vc_mono ?_ _ _ hh
  exact KLoop_mono (fun vs s' h => by obtain ⟨b1231, n1241, rfl, h1, h2⟩ := h; exact ⟨⟨⟨_, rfl⟩, ⟨⟨_, rfl⟩, trivial⟩⟩, ⟨_, _, rfl, h1⟩, h2⟩)
def B_ref07_Clock_2 (W : World) (R : Ending → Hp → Prop) (za0 : Addr) (b169 : Bool) (n170 : Int) (nx2 : List Value → Hp → Prop) : Hp → Prop :=
  RDL (Addr.add za0 3) fun x171 l172 c173 =>
    BR (decide (n170 < (↑l172 : Int)))
      (RDL (Addr.add za0 3) fun x174 l175 c176 =>
        IXS x174 l175 n170 4 fun a177 =>
          RDI .i64 (Addr.add a177 0) fun n178 =>
            RDI .i64 (Addr.add a177 1) fun n179 =>
              RDI .i64 (Addr.add a177 2) fun n180 =>
                RDI .i64 (Addr.add a177 3) fun n181 =>
                  NEWZ Pg 63 fun B182 =>
                    WR (Addr.add ⟨B182, 0, none⟩ 0) (.int .i64 n178) <|
                      WR (Addr.add ⟨B182, 0, none⟩ 1) (.int .i64 n179) <|
                        WR (Addr.add ⟨B182, 0, none⟩ 2) (.int .i64 n180) <|
                          WR (Addr.add ⟨B182, 0, none⟩ 3) (.int .i64 n181) <|
                            RDL (Addr.add za0 0) fun x183 l184 c185 =>
                              RDI .i64 (Addr.add za0 1) fun n186 =>
                                RDL (Addr.add za0 2) fun x187 l188 c189 =>
                                  RDL (Addr.add za0 3) fun x190 l191 c192 =>
                                    RDI .i64 (Addr.add ⟨B182, 0, none⟩ 0) fun n193 =>
                                      CALL Pg W F_ref07_Event [(.agg #[(.slice x183 l184 c185), (.int .i64 n186), (.slice x187 l188 c189), (.slice x190 l191 c192)]), (.int .i64 n193)]
                                        (fun v194 => TYB v194 fun b196 =>
                                          BR (!b196)
                                            (J_ref07_Clock_8 W R true B182 za0 nx2 b169 n170)
                                            (RDL (Addr.add za0 0) fun x206 l207 c208 =>
                                              RDI .i64 (Addr.add za0 1) fun n209 =>
                                                RDL (Addr.add za0 2) fun x210 l211 c212 =>
                                                  RDL (Addr.add za0 3) fun x213 l214 c215 =>
                                                    RDI .i64 (Addr.add ⟨B182, 0, none⟩ 1) fun n216 =>
                                                      CALL Pg W F_ref07_Event [(.agg #[(.slice x206 l207 c208), (.int .i64 n209), (.slice x210 l211 c212), (.slice x213 l214 c215)]), (.int .i64 n216)]
                                                        (fun v217 => TYB v217 fun b219 =>
                                                          J_ref07_Clock_8 W R (!b219) B182 za0 nx2 b169 n170)
                                                          (fun e218 => R (.panicked e218))))
                                          (fun e195 => R (.panicked e195)))
      (R (.returned (.bool true)))
theorem B_ref07_Clock_2_eq (W : World) (R : Ending → Hp → Prop) (za0 : Addr) (b169 : Bool) (n170 : Int) (nx2 : List Value → Hp → Prop) (j : Tm) : vc Pg W 142 rs_13 an_13 false (sub (bodyOf Try.f13) [1, 1, 1, 1, 0, 1, 0, 0]) 4 (KLoop [2, 8] [1, 142] [(.pointer (some za0)), (.tuple #[])] nx2 (KBlk 4 (KS Pg W 142 rs_13 an_13 false (sub (bodyOf Try.f13) [1, 1, 1, 1, 1]) 0 (fin Pg W 142 rv_13 R)))) (known [2, 8] [(.bool b169), (.int .i64 n170)] (known [1, 142] [(.pointer (some za0)), (.tuple #[])] j)) = B_ref07_Clock_2 W R za0 b169 n170 nx2 := by kernel_rfl
def N_ref07_Clock_2 (I : Bool → Int → Hp → Prop) (μ : Bool → Int → Hp → Nat) (b1690 : Bool) (n1700 : Int) (s : Hp) (vs : List Value) : Hp → Prop := fun s' => ∃ b169 n170, vs = [(.bool b169), (.int .i64 n170)] ∧ I b169 n170 s' ∧ μ b169 n170 s' < μ b1690 n1700 s
theorem L_ref07_Clock_2_rule (W : World) (R : Ending → Hp → Prop) (za0 : Addr) (I : Bool → Int → Hp → Prop) (μ : Bool → Int → Hp → Nat) (b1690 : Bool) (n1700 : Int) (s : Hp) (h0 : I b1690 n1700 s)
    (hr : ∀ (b169 : Bool) (n170 : Int) (s : Hp), I b169 n170 s → B_ref07_Clock_2 W R za0 b169 n170 (fun vs => N_ref07_Clock_2 I μ b169 n170 s vs) s) : L_ref07_Clock_2 W R za0 b1690 n1700 s := by
  refine ⟨fun vs s => ∃ b169 n170, vs = [(.bool b169), (.int .i64 n170)] ∧ I b169 n170 s, fun vs s => (match vs with | [.bool b169, .int _ n170] => μ b169 n170 s | _ => 0), ⟨⟨⟨_, rfl⟩, ⟨⟨_, rfl⟩, trivial⟩⟩, ⟨_, _, rfl, h0⟩⟩, ?_⟩
  intro b169 n170 s hI j
  obtain ⟨b169', n170', hy, hI⟩ := hI
  have hI' : I b169 n170 s := by cases hy; exact hI
  have hh := hr b169 n170 s hI'
  rw [← B_ref07_Clock_2_eq W R za0 b169 n170 _ j] at hh
  refine vc_mono ?_ _ _ hh
  exact KLoop_mono (fun vs s' h => by obtain ⟨b1691, n1701, rfl, h1, h2⟩ := h; exact ⟨⟨⟨_, rfl⟩, ⟨⟨_, rfl⟩, trivial⟩⟩, ⟨_, _, rfl, h1⟩, h2⟩)
def T_ref07_Clock (W : World) (x1 : Option Addr) (l2 : Nat) (c3 : Nat) (n4 : Int) (x5 : Option Addr) (l6 : Nat) (c7 : Nat) (x8 : Option Addr) (l9 : Nat) (c10 : Nat) (R : Ending → Hp → Prop) : Hp → Prop :=
  NEW 26 [(.slice x1 l2 c3), (.int .i64 n4), (.slice x5 l6 c7), (.slice x8 l9 c10)] fun B11 =>
    RDL (Addr.add ⟨B11, 0, none⟩ 0) fun x12 l13 c14 =>
      BR (decide ((↑l13 : Int) > 2))
        (J_ref07_Clock_2 W R true B11)
        (RDI .i64 (Addr.add ⟨B11, 0, none⟩ 1) fun n24 =>
          CALL Pg W F_ref07_in [(.int .i64 n24), (.int .i64 0), (.int .i64 5)]
            (fun v25 => TYB v25 fun b27 =>
              J_ref07_Clock_2 W R (!b27) B11)
              (fun e26 => R (.panicked e26)))
theorem T_ref07_Clock_eq (W : World) (x1 : Option Addr) (l2 : Nat) (c3 : Nat) (n4 : Int) (x5 : Option Addr) (l6 : Nat) (c7 : Nat) (x8 : Option Addr) (l9 : Nat) (c10 : Nat) (R : Ending → Hp → Prop) : vfun Pg W an_13 Try.f13 [(.agg #[(.slice x1 l2 c3), (.int .i64 n4), (.slice x5 l6 c7), (.slice x8 l9 c10)])] R = T_ref07_Clock W x1 l2 c3 n4 x5 l6 c7 x8 l9 c10 R := by kernel_rfl
theorem does_ref07_Clock (W : World) (x1 : Option Addr) (l2 : Nat) (c3 : Nat) (n4 : Int) (x5 : Option Addr) (l6 : Nat) (c7 : Nat) (x8 : Option Addr) (l9 : Nat) (c10 : Nat) (R : Ending → Hp → Prop) (s : Hp) (h : T_ref07_Clock W x1 l2 c3 n4 x5 l6 c7 x8 l9 c10 R s) : Does Pg W F_ref07_Clock #[(.agg #[(.slice x1 l2 c3), (.int .i64 n4), (.slice x5 l6 c7), (.slice x8 l9 c10)])] s R :=
  does_of_vfun Pg W an_13 Try.func13 rfl (by kernel_rfl) (by rw [T_ref07_Clock_eq]; exact h)
def an_17 : Nat → Ann := fun b => match b with
  | _ => {}
abbrev rv_17 : List ResultVar := [.tmp 2]
abbrev rs_17 : List Nat := [8, 2]
def T_ref07_Every (W : World) (x1 : Option Addr) (l2 : Nat) (c3 : Nat) (n4 : Int) (x5 : Option Addr) (l6 : Nat) (c7 : Nat) (x8 : Option Addr) (l9 : Nat) (c10 : Nat) (R : Ending → Hp → Prop) : Hp → Prop :=
  NEW 26 [(.slice x1 l2 c3), (.int .i64 n4), (.slice x5 l6 c7), (.slice x8 l9 c10)] fun B11 =>
    RDL (Addr.add ⟨B11, 0, none⟩ 2) fun x12 l13 c14 =>
      CALL Pg W F_ref07_power [(.int .i64 (↑l13 : Int))]
        (fun v15 => TYI .i64 v15 fun n17 =>
          R (.returned (.int .i64 (IntKind.wrap .i64 (n17 - 1)))))
          (fun e16 => R (.panicked e16))
theorem T_ref07_Every_eq (W : World) (x1 : Option Addr) (l2 : Nat) (c3 : Nat) (n4 : Int) (x5 : Option Addr) (l6 : Nat) (c7 : Nat) (x8 : Option Addr) (l9 : Nat) (c10 : Nat) (R : Ending → Hp → Prop) : vfun Pg W an_17 Try.f17 [(.agg #[(.slice x1 l2 c3), (.int .i64 n4), (.slice x5 l6 c7), (.slice x8 l9 c10)])] R = T_ref07_Every W x1 l2 c3 n4 x5 l6 c7 x8 l9 c10 R := by kernel_rfl
theorem does_ref07_Every (W : World) (x1 : Option Addr) (l2 : Nat) (c3 : Nat) (n4 : Int) (x5 : Option Addr) (l6 : Nat) (c7 : Nat) (x8 : Option Addr) (l9 : Nat) (c10 : Nat) (R : Ending → Hp → Prop) (s : Hp) (h : T_ref07_Every W x1 l2 c3 n4 x5 l6 c7 x8 l9 c10 R s) : Does Pg W F_ref07_Every #[(.agg #[(.slice x1 l2 c3), (.int .i64 n4), (.slice x5 l6 c7), (.slice x8 l9 c10)])] s R :=
  does_of_vfun Pg W an_17 Try.func17 rfl (by kernel_rfl) (by rw [T_ref07_Every_eq]; exact h)
def an_18 : Nat → Ann := fun b => match b with
  | 0 => { ms := [5, 6], ks := [.i .i64, .i .i64], us := [1, 2, 4, 27], rt := false, ex := [] }
  | _ => {}
abbrev rv_18 : List ResultVar := [.tmp 4]
abbrev rs_18 : List Nat := [27, 4]
def L_ref07_Without_0 (W : World) (R : Ending → Hp → Prop) (zn0 : Int) (za1 : Addr) (n13 : Int) (n14 : Int) : Hp → Prop :=
  LOOPN [.i .i64, .i .i64] (fun ys next s => ∀ j : Tm, vc Pg W 27 rs_18 an_18 false (sub (bodyOf Try.f18) [1, 1, 0, 1, 0, 0]) 0 (KLoop [5, 6] [1, 2, 4, 27] [(.int .i64 zn0), (.pointer (some za1)), (.int .i64 0), (.tuple #[])] next (KBlk 0 (KS Pg W 27 rs_18 an_18 false (sub (bodyOf Try.f18) [1, 1, 1]) 0 (fin Pg W 27 rv_18 R)))) (known [5, 6] ys (known [1, 2, 4, 27] [(.int .i64 zn0), (.pointer (some za1)), (.int .i64 0), (.tuple #[])] j)) s) [(.int .i64 n13), (.int .i64 n14)]
def B_ref07_Without_0 (W : World) (R : Ending → Hp → Prop) (zn0 : Int) (za1 : Addr) (n13 : Int) (n14 : Int) (nx0 : List Value → Hp → Prop) : Hp → Prop :=
  RDL (Addr.add za1 2) fun x15 l16 c17 =>
    BR (decide (n14 < (↑l16 : Int)))
      (RDL (Addr.add za1 2) fun x18 l19 c20 =>
        IXS x18 l19 n14 3 fun a21 =>
          RDI .i64 (Addr.add a21 1) fun n22 =>
            BR (n22 != zn0)
              (CALL Pg W F_ref07_power [(.int .i64 n14)]
                (fun v23 => TYI .i64 v23 fun n25 =>
                  NX [(.int .i64 zn0), (.pointer (some za1)), (.int .i64 0), (.tuple #[])] [(.int .i64 zn0), (.pointer (some za1)), (.int .i64 0), (.tuple #[])] (nx0 [(.int .i64 (IntKind.wrap .i64 (n13 + n25))), (.int .i64 (IntKind.wrap .i64 (n14 + 1)))]))
                  (fun e24 => R (.panicked e24)))
              (NX [(.int .i64 zn0), (.pointer (some za1)), (.int .i64 0), (.tuple #[])] [(.int .i64 zn0), (.pointer (some za1)), (.int .i64 0), (.tuple #[])] (nx0 [(.int .i64 n13), (.int .i64 (IntKind.wrap .i64 (n14 + 1)))])))
      (R (.returned (.int .i64 n13)))
theorem B_ref07_Without_0_eq (W : World) (R : Ending → Hp → Prop) (zn0 : Int) (za1 : Addr) (n13 : Int) (n14 : Int) (nx0 : List Value → Hp → Prop) (j : Tm) : vc Pg W 27 rs_18 an_18 false (sub (bodyOf Try.f18) [1, 1, 0, 1, 0, 0]) 0 (KLoop [5, 6] [1, 2, 4, 27] [(.int .i64 zn0), (.pointer (some za1)), (.int .i64 0), (.tuple #[])] nx0 (KBlk 0 (KS Pg W 27 rs_18 an_18 false (sub (bodyOf Try.f18) [1, 1, 1]) 0 (fin Pg W 27 rv_18 R)))) (known [5, 6] [(.int .i64 n13), (.int .i64 n14)] (known [1, 2, 4, 27] [(.int .i64 zn0), (.pointer (some za1)), (.int .i64 0), (.tuple #[])] j)) = B_ref07_Without_0 W R zn0 za1 n13 n14 nx0 := by kernel_rfl
def N_ref07_Without_0 (I : Int → Int → Hp → Prop) (μ : Int → Int → Hp → Nat) (n130 : Int) (n140 : Int) (s : Hp) (vs : List Value) : Hp → Prop := fun s' => ∃ n13 n14, vs = [(.int .i64 n13), (.int .i64 n14)] ∧ I n13 n14 s' ∧ μ n13 n14 s' < μ n130 n140 s
theorem L_ref07_Without_0_rule (W : World) (R : Ending → Hp → Prop) (zn0 : Int) (za1 : Addr) (I : Int → Int → Hp → Prop) (μ : Int → Int → Hp → Nat) (n130 : Int) (n140 : Int) (s : Hp) (h0 : I n130 n140 s)
    (hr : ∀ (n13 : Int) (n14 : Int) (s : Hp), I n13 n14 s → B_ref07_Without_0 W R zn0 za1 n13 n14 (fun vs => N_ref07_Without_0 I μ n13 n14 s vs) s) : L_ref07_Without_0 W R zn0 za1 n130 n140 s := by
  refine ⟨fun vs s => ∃ n13 n14, vs = [(.int .i64 n13), (.int .i64 n14)] ∧ I n13 n14 s, fun vs s => (match vs with | [.int _ n13, .int _ n14] => μ n13 n14 s | _ => 0), ⟨⟨⟨_, rfl⟩, ⟨⟨_, rfl⟩, trivial⟩⟩, ⟨_, _, rfl, h0⟩⟩, ?_⟩
  intro n13 n14 s hI j
  obtain ⟨n13', n14', hy, hI⟩ := hI
  have hI' : I n13 n14 s := by cases hy; exact hI
  have hh := hr n13 n14 s hI'
  rw [← B_ref07_Without_0_eq W R zn0 za1 n13 n14 _ j] at hh
  refine vc_mono ?_ _ _ hh
  exact KLoop_mono (fun vs s' h => by obtain ⟨n131, n141, rfl, h1, h2⟩ := h; exact ⟨⟨⟨_, rfl⟩, ⟨⟨_, rfl⟩, trivial⟩⟩, ⟨_, _, rfl, h1⟩, h2⟩)
def T_ref07_Without (W : World) (x1 : Option Addr) (l2 : Nat) (c3 : Nat) (n4 : Int) (x5 : Option Addr) (l6 : Nat) (c7 : Nat) (x8 : Option Addr) (l9 : Nat) (c10 : Nat) (n11 : Int) (R : Ending → Hp → Prop) : Hp → Prop :=
  NEW 26 [(.slice x1 l2 c3), (.int .i64 n4), (.slice x5 l6 c7), (.slice x8 l9 c10)] fun B12 =>
    L_ref07_Without_0 W R n11 ⟨B12, 0, none⟩ 0 0
theorem T_ref07_Without_eq (W : World) (x1 : Option Addr) (l2 : Nat) (c3 : Nat) (n4 : Int) (x5 : Option Addr) (l6 : Nat) (c7 : Nat) (x8 : Option Addr) (l9 : Nat) (c10 : Nat) (n11 : Int) (R : Ending → Hp → Prop) : vfun Pg W an_18 Try.f18 [(.agg #[(.slice x1 l2 c3), (.int .i64 n4), (.slice x5 l6 c7), (.slice x8 l9 c10)]), (.int .i64 n11)] R = T_ref07_Without W x1 l2 c3 n4 x5 l6 c7 x8 l9 c10 n11 R := by kernel_rfl
theorem does_ref07_Without (W : World) (x1 : Option Addr) (l2 : Nat) (c3 : Nat) (n4 : Int) (x5 : Option Addr) (l6 : Nat) (c7 : Nat) (x8 : Option Addr) (l9 : Nat) (c10 : Nat) (n11 : Int) (R : Ending → Hp → Prop) (s : Hp) (h : T_ref07_Without W x1 l2 c3 n4 x5 l6 c7 x8 l9 c10 n11 R s) : Does Pg W F_ref07_Without #[(.agg #[(.slice x1 l2 c3), (.int .i64 n4), (.slice x5 l6 c7), (.slice x8 l9 c10)]), (.int .i64 n11)] s R :=
  does_of_vfun Pg W an_18 Try.func18 rfl (by kernel_rfl) (by rw [T_ref07_Without_eq]; exact h)
def an_19 : Nat → Ann := fun b => match b with
  | 0 => { ms := [0, 3], ks := [.i .i64, .i .i64], us := [13], rt := false, ex := [] }
  | _ => {}
abbrev rv_19 : List ResultVar := [.tmp 2]
abbrev rs_19 : List Nat := [13, 2]
def L_ref07_Size_0 (W : World) (R : Ending → Hp → Prop) (n2 : Int) (n3 : Int) : Hp → Prop :=
  LOOPN [.i .i64, .i .i64] (fun ys next s => ∀ j : Tm, vc Pg W 13 rs_19 an_19 false (sub (bodyOf Try.f19) [1, 1, 0, 0, 0]) 0 (KLoop [0, 3] [13] [(.tuple #[])] next (KBlk 0 (KS Pg W 13 rs_19 an_19 false (sub (bodyOf Try.f19) [1, 1, 1]) 0 (fin Pg W 13 rv_19 R)))) (known [0, 3] ys (known [13] [(.tuple #[])] j)) s) [(.int .i64 n2), (.int .i64 n3)]
def B_ref07_Size_0 (W : World) (R : Ending → Hp → Prop) (n2 : Int) (n3 : Int) (nx0 : List Value → Hp → Prop) : Hp → Prop :=
  BR (decide (n2 > 0))
    (NX [(.tuple #[])] [(.tuple #[])] (nx0 [(.int .i64 (IntKind.wrap .i64 (Int.tdiv n2 2))), (.int .i64 (IntKind.wrap .i64 (n3 + (Int.tmod n2 2))))]))
    (R (.returned (.int .i64 n3)))
theorem B_ref07_Size_0_eq (W : World) (R : Ending → Hp → Prop) (n2 : Int) (n3 : Int) (nx0 : List Value → Hp → Prop) (j : Tm) : vc Pg W 13 rs_19 an_19 false (sub (bodyOf Try.f19) [1, 1, 0, 0, 0]) 0 (KLoop [0, 3] [13] [(.tuple #[])] nx0 (KBlk 0 (KS Pg W 13 rs_19 an_19 false (sub (bodyOf Try.f19) [1, 1, 1]) 0 (fin Pg W 13 rv_19 R)))) (known [0, 3] [(.int .i64 n2), (.int .i64 n3)] (known [13] [(.tuple #[])] j)) = B_ref07_Size_0 W R n2 n3 nx0 := by kernel_rfl
def N_ref07_Size_0 (I : Int → Int → Hp → Prop) (μ : Int → Int → Hp → Nat) (n20 : Int) (n30 : Int) (s : Hp) (vs : List Value) : Hp → Prop := fun s' => ∃ n2 n3, vs = [(.int .i64 n2), (.int .i64 n3)] ∧ I n2 n3 s' ∧ μ n2 n3 s' < μ n20 n30 s
theorem L_ref07_Size_0_rule (W : World) (R : Ending → Hp → Prop) (I : Int → Int → Hp → Prop) (μ : Int → Int → Hp → Nat) (n20 : Int) (n30 : Int) (s : Hp) (h0 : I n20 n30 s)
    (hr : ∀ (n2 : Int) (n3 : Int) (s : Hp), I n2 n3 s → B_ref07_Size_0 W R n2 n3 (fun vs => N_ref07_Size_0 I μ n2 n3 s vs) s) : L_ref07_Size_0 W R n20 n30 s := by
  refine ⟨fun vs s => ∃ n2 n3, vs = [(.int .i64 n2), (.int .i64 n3)] ∧ I n2 n3 s, fun vs s => (match vs with | [.int _ n2, .int _ n3] => μ n2 n3 s | _ => 0), ⟨⟨⟨_, rfl⟩, ⟨⟨_, rfl⟩, trivial⟩⟩, ⟨_, _, rfl, h0⟩⟩, ?_⟩
  intro n2 n3 s hI j
  obtain ⟨n2', n3', hy, hI⟩ := hI
  have hI' : I n2 n3 s := by cases hy; exact hI
  have hh := hr n2 n3 s hI'
  rw [← B_ref07_Size_0_eq W R n2 n3 _ j] at hh
  refine vc_mono ?_ _ _ hh
  exact KLoop_mono (fun vs s' h => by obtain ⟨n21, n31, rfl, h1, h2⟩ := h; exact ⟨⟨⟨_, rfl⟩, ⟨⟨_, rfl⟩, trivial⟩⟩, ⟨_, _, rfl, h1⟩, h2⟩)
def T_ref07_Size (W : World) (n1 : Int) (R : Ending → Hp → Prop) : Hp → Prop :=
  L_ref07_Size_0 W R n1 0
theorem T_ref07_Size_eq (W : World) (n1 : Int) (R : Ending → Hp → Prop) : vfun Pg W an_19 Try.f19 [(.int .i64 n1)] R = T_ref07_Size W n1 R := by kernel_rfl
theorem does_ref07_Size (W : World) (n1 : Int) (R : Ending → Hp → Prop) (s : Hp) (h : T_ref07_Size W n1 R s) : Does Pg W F_ref07_Size #[(.int .i64 n1)] s R :=
  does_of_vfun Pg W an_19 Try.func19 rfl (by kernel_rfl) (by rw [T_ref07_Size_eq]; exact h)
def an_28 : Nat → Ann := fun b => match b with
  | _ => {}
abbrev rv_28 : List ResultVar := [.tmp 4]
abbrev rs_28 : List Nat := [13, 4]
def T_ref07_Show (W : World) (n1 : Int) (n2 : Int) (n3 : Int) (R : Ending → Hp → Prop) : Hp → Prop :=
  NEW 55 [(.int .i64 n1), (.int .i64 n2)] fun B4 =>
    RDI .i64 (Addr.add ⟨B4, 0, none⟩ 0) fun n5 =>
      RDI .i64 (Addr.add ⟨B4, 0, none⟩ 1) fun n6 =>
        R (.returned (.int .i64 (IntKind.wrap .i64 (n5 + (IntKind.wrap .i64 (Int.tdiv (IntKind.wrap .i64 (n3 * n6)) 1000))))))
theorem T_ref07_Show_eq (W : World) (n1 : Int) (n2 : Int) (n3 : Int) (R : Ending → Hp → Prop) : vfun Pg W an_28 Try.f28 [(.agg #[(.int .i64 n1), (.int .i64 n2)]), (.int .i64 n3)] R = T_ref07_Show W n1 n2 n3 R := by kernel_rfl
theorem does_ref07_Show (W : World) (n1 : Int) (n2 : Int) (n3 : Int) (R : Ending → Hp → Prop) (s : Hp) (h : T_ref07_Show W n1 n2 n3 R s) : Does Pg W F_ref07_Show #[(.agg #[(.int .i64 n1), (.int .i64 n2)]), (.int .i64 n3)] s R :=
  does_of_vfun Pg W an_28 Try.func28 rfl (by kernel_rfl) (by rw [T_ref07_Show_eq]; exact h)
def an_31 : Nat → Ann := fun b => match b with
  | _ => {}
abbrev rv_31 : List ResultVar := [.tmp 4]
abbrev rs_31 : List Nat := [10, 4]
def T_ref07_Event (W : World) (x1 : Option Addr) (l2 : Nat) (c3 : Nat) (n4 : Int) (x5 : Option Addr) (l6 : Nat) (c7 : Nat) (x8 : Option Addr) (l9 : Nat) (c10 : Nat) (n11 : Int) (R : Ending → Hp → Prop) : Hp → Prop :=
  NEW 26 [(.slice x1 l2 c3), (.int .i64 n4), (.slice x5 l6 c7), (.slice x8 l9 c10)] fun B12 =>
    RDI .i64 (Addr.add ⟨B12, 0, none⟩ 1) fun n13 =>
      CALL Pg W F_ref07_in [(.int .i64 n11), (.int .i64 0), (.int .i64 (IntKind.wrap .i64 (n13 - 1)))]
        (fun v14 => TYB v14 fun b16 =>
          R (.returned (.bool b16)))
          (fun e15 => R (.panicked e15))
theorem T_ref07_Event_eq (W : World) (x1 : Option Addr) (l2 : Nat) (c3 : Nat) (n4 : Int) (x5 : Option Addr) (l6 : Nat) (c7 : Nat) (x8 : Option Addr) (l9 : Nat) (c10 : Nat) (n11 : Int) (R : Ending → Hp → Prop) : vfun Pg W an_31 Try.f31 [(.agg #[(.slice x1 l2 c3), (.int .i64 n4), (.slice x5 l6 c7), (.slice x8 l9 c10)]), (.int .i64 n11)] R = T_ref07_Event W x1 l2 c3 n4 x5 l6 c7 x8 l9 c10 n11 R := by kernel_rfl
theorem does_ref07_Event (W : World) (x1 : Option Addr) (l2 : Nat) (c3 : Nat) (n4 : Int) (x5 : Option Addr) (l6 : Nat) (c7 : Nat) (x8 : Option Addr) (l9 : Nat) (c10 : Nat) (n11 : Int) (R : Ending → Hp → Prop) (s : Hp) (h : T_ref07_Event W x1 l2 c3 n4 x5 l6 c7 x8 l9 c10 n11 R s) : Does Pg W F_ref07_Event #[(.agg #[(.slice x1 l2 c3), (.int .i64 n4), (.slice x5 l6 c7), (.slice x8 l9 c10)]), (.int .i64 n11)] s R :=
  does_of_vfun Pg W an_31 Try.func31 rfl (by kernel_rfl) (by rw [T_ref07_Event_eq]; exact h)
def an_42 : Nat → Ann := fun b => match b with
  | _ => {}
abbrev rv_42 : List ResultVar := [.tmp 6]
abbrev rs_42 : List Nat := [15, 6]
def T_ref07_in (W : World) (n1 : Int) (n2 : Int) (n3 : Int) (R : Ending → Hp → Prop) : Hp → Prop :=
  BR (decide (n2 ≤ n1))
    (R (.returned (.bool (decide (n1 ≤ n3)))))
    (R (.returned (.bool false)))
theorem T_ref07_in_eq (W : World) (n1 : Int) (n2 : Int) (n3 : Int) (R : Ending → Hp → Prop) : vfun Pg W an_42 Try.f42 [(.int .i64 n1), (.int .i64 n2), (.int .i64 n3)] R = T_ref07_in W n1 n2 n3 R := by kernel_rfl
theorem does_ref07_in (W : World) (n1 : Int) (n2 : Int) (n3 : Int) (R : Ending → Hp → Prop) (s : Hp) (h : T_ref07_in W n1 n2 n3 R s) : Does Pg W F_ref07_in #[(.int .i64 n1), (.int .i64 n2), (.int .i64 n3)] s R :=
  does_of_vfun Pg W an_42 Try.func42 rfl (by kernel_rfl) (by rw [T_ref07_in_eq]; exact h)
def an_43 : Nat → Ann := fun b => match b with
  | _ => {}
abbrev rv_43 : List ResultVar := [.tmp 6]
abbrev rs_43 : List Nat := [24, 6]
def T_ref07_span (W : World) (n1 : Int) (n2 : Int) (n3 : Int) (n4 : Int) (R : Ending → Hp → Prop) : Hp → Prop :=
  NEW 34 [(.int .i64 n1), (.int .i64 n2)] fun B5 =>
    RDI .i64 (Addr.add ⟨B5, 0, none⟩ 0) fun n6 =>
      BR (decide (n3 ≤ n6))
        (RDI .i64 (Addr.add ⟨B5, 0, none⟩ 0) fun n7 =>
          RDI .i64 (Addr.add ⟨B5, 0, none⟩ 1) fun n8 =>
            BR (decide (n7 ≤ n8))
              (RDI .i64 (Addr.add ⟨B5, 0, none⟩ 1) fun n9 =>
                R (.returned (.bool (decide (n9 ≤ n4)))))
              (R (.returned (.bool false))))
        (R (.returned (.bool false)))
theorem T_ref07_span_eq (W : World) (n1 : Int) (n2 : Int) (n3 : Int) (n4 : Int) (R : Ending → Hp → Prop) : vfun Pg W an_43 Try.f43 [(.agg #[(.int .i64 n1), (.int .i64 n2)]), (.int .i64 n3), (.int .i64 n4)] R = T_ref07_span W n1 n2 n3 n4 R := by kernel_rfl
theorem does_ref07_span (W : World) (n1 : Int) (n2 : Int) (n3 : Int) (n4 : Int) (R : Ending → Hp → Prop) (s : Hp) (h : T_ref07_span W n1 n2 n3 n4 R s) : Does Pg W F_ref07_span #[(.agg #[(.int .i64 n1), (.int .i64 n2)]), (.int .i64 n3), (.int .i64 n4)] s R :=
  does_of_vfun Pg W an_43 Try.func43 rfl (by kernel_rfl) (by rw [T_ref07_span_eq]; exact h)
def an_44 : Nat → Ann := fun b => match b with
  | _ => {}
abbrev rv_44 : List ResultVar := [.tmp 4]
abbrev rs_44 : List Nat := [11, 4]
def T_ref07_Watch (W : World) (x1 : Option Addr) (l2 : Nat) (c3 : Nat) (n4 : Int) (x5 : Option Addr) (l6 : Nat) (c7 : Nat) (x8 : Option Addr) (l9 : Nat) (c10 : Nat) (n11 : Int) (R : Ending → Hp → Prop) : Hp → Prop :=
  NEW 26 [(.slice x1 l2 c3), (.int .i64 n4), (.slice x5 l6 c7), (.slice x8 l9 c10)] fun B12 =>
    RDL (Addr.add ⟨B12, 0, none⟩ 0) fun x13 l14 c15 =>
      CALL Pg W F_ref07_in [(.int .i64 n11), (.int .i64 0), (.int .i64 (IntKind.wrap .i64 ((↑l14 : Int) - 1)))]
        (fun v16 => TYB v16 fun b18 =>
          R (.returned (.bool b18)))
          (fun e17 => R (.panicked e17))
theorem T_ref07_Watch_eq (W : World) (x1 : Option Addr) (l2 : Nat) (c3 : Nat) (n4 : Int) (x5 : Option Addr) (l6 : Nat) (c7 : Nat) (x8 : Option Addr) (l9 : Nat) (c10 : Nat) (n11 : Int) (R : Ending → Hp → Prop) : vfun Pg W an_44 Try.f44 [(.agg #[(.slice x1 l2 c3), (.int .i64 n4), (.slice x5 l6 c7), (.slice x8 l9 c10)]), (.int .i64 n11)] R = T_ref07_Watch W x1 l2 c3 n4 x5 l6 c7 x8 l9 c10 n11 R := by kernel_rfl
theorem does_ref07_Watch (W : World) (x1 : Option Addr) (l2 : Nat) (c3 : Nat) (n4 : Int) (x5 : Option Addr) (l6 : Nat) (c7 : Nat) (x8 : Option Addr) (l9 : Nat) (c10 : Nat) (n11 : Int) (R : Ending → Hp → Prop) (s : Hp) (h : T_ref07_Watch W x1 l2 c3 n4 x5 l6 c7 x8 l9 c10 n11 R s) : Does Pg W F_ref07_Watch #[(.agg #[(.slice x1 l2 c3), (.int .i64 n4), (.slice x5 l6 c7), (.slice x8 l9 c10)]), (.int .i64 n11)] s R :=
  does_of_vfun Pg W an_44 Try.func44 rfl (by kernel_rfl) (by rw [T_ref07_Watch_eq]; exact h)
def an_50 : Nat → Ann := fun b => match b with
  | 0 => { ms := [3, 4], ks := [.i .i64, .i .i64], us := [0, 13], rt := false, ex := [] }
  | _ => {}
abbrev rv_50 : List ResultVar := [.tmp 2]
abbrev rs_50 : List Nat := [13, 2]
def L_ref07_power_0 (W : World) (R : Ending → Hp → Prop) (zn0 : Int) (n2 : Int) (n3 : Int) : Hp → Prop :=
  LOOPN [.i .i64, .i .i64] (fun ys next s => ∀ j : Tm, vc Pg W 13 rs_50 an_50 false (sub (bodyOf Try.f50) [1, 1, 0, 1, 0, 0]) 0 (KLoop [3, 4] [0, 13] [(.int .i64 zn0), (.tuple #[])] next (KBlk 0 (KS Pg W 13 rs_50 an_50 false (sub (bodyOf Try.f50) [1, 1, 1]) 0 (fin Pg W 13 rv_50 R)))) (known [3, 4] ys (known [0, 13] [(.int .i64 zn0), (.tuple #[])] j)) s) [(.int .i64 n2), (.int .i64 n3)]
def B_ref07_power_0 (W : World) (R : Ending → Hp → Prop) (zn0 : Int) (n2 : Int) (n3 : Int) (nx0 : List Value → Hp → Prop) : Hp → Prop :=
  BR (decide (n3 < zn0))
    (NX [(.int .i64 zn0), (.tuple #[])] [(.int .i64 zn0), (.tuple #[])] (nx0 [(.int .i64 (IntKind.wrap .i64 (2 * n2))), (.int .i64 (IntKind.wrap .i64 (n3 + 1)))]))
    (R (.returned (.int .i64 n2)))
theorem B_ref07_power_0_eq (W : World) (R : Ending → Hp → Prop) (zn0 : Int) (n2 : Int) (n3 : Int) (nx0 : List Value → Hp → Prop) (j : Tm) : vc Pg W 13 rs_50 an_50 false (sub (bodyOf Try.f50) [1, 1, 0, 1, 0, 0]) 0 (KLoop [3, 4] [0, 13] [(.int .i64 zn0), (.tuple #[])] nx0 (KBlk 0 (KS Pg W 13 rs_50 an_50 false (sub (bodyOf Try.f50) [1, 1, 1]) 0 (fin Pg W 13 rv_50 R)))) (known [3, 4] [(.int .i64 n2), (.int .i64 n3)] (known [0, 13] [(.int .i64 zn0), (.tuple #[])] j)) = B_ref07_power_0 W R zn0 n2 n3 nx0 := by kernel_rfl
def N_ref07_power_0 (I : Int → Int → Hp → Prop) (μ : Int → Int → Hp → Nat) (n20 : Int) (n30 : Int) (s : Hp) (vs : List Value) : Hp → Prop := fun s' => ∃ n2 n3, vs = [(.int .i64 n2), (.int .i64 n3)] ∧ I n2 n3 s' ∧ μ n2 n3 s' < μ n20 n30 s
theorem L_ref07_power_0_rule (W : World) (R : Ending → Hp → Prop) (zn0 : Int) (I : Int → Int → Hp → Prop) (μ : Int → Int → Hp → Nat) (n20 : Int) (n30 : Int) (s : Hp) (h0 : I n20 n30 s)
    (hr : ∀ (n2 : Int) (n3 : Int) (s : Hp), I n2 n3 s → B_ref07_power_0 W R zn0 n2 n3 (fun vs => N_ref07_power_0 I μ n2 n3 s vs) s) : L_ref07_power_0 W R zn0 n20 n30 s := by
  refine ⟨fun vs s => ∃ n2 n3, vs = [(.int .i64 n2), (.int .i64 n3)] ∧ I n2 n3 s, fun vs s => (match vs with | [.int _ n2, .int _ n3] => μ n2 n3 s | _ => 0), ⟨⟨⟨_, rfl⟩, ⟨⟨_, rfl⟩, trivial⟩⟩, ⟨_, _, rfl, h0⟩⟩, ?_⟩
  intro n2 n3 s hI j
  obtain ⟨n2', n3', hy, hI⟩ := hI
  have hI' : I n2 n3 s := by cases hy; exact hI
  have hh := hr n2 n3 s hI'
  rw [← B_ref07_power_0_eq W R zn0 n2 n3 _ j] at hh
  refine vc_mono ?_ _ _ hh
  exact KLoop_mono (fun vs s' h => by obtain ⟨n21, n31, rfl, h1, h2⟩ := h; exact ⟨⟨⟨_, rfl⟩, ⟨⟨_, rfl⟩, trivial⟩⟩, ⟨_, _, rfl, h1⟩, h2⟩)
def T_ref07_power (W : World) (n1 : Int) (R : Ending → Hp → Prop) : Hp → Prop :=
  L_ref07_power_0 W R n1 1 0
theorem T_ref07_power_eq (W : World) (n1 : Int) (R : Ending → Hp → Prop) : vfun Pg W an_50 Try.f50 [(.int .i64 n1)] R = T_ref07_power W n1 R := by kernel_rfl
theorem does_ref07_power (W : World) (n1 : Int) (R : Ending → Hp → Prop) (s : Hp) (h : T_ref07_power W n1 R s) : Does Pg W F_ref07_power #[(.int .i64 n1)] s R :=
  does_of_vfun Pg W an_50 Try.func50 rfl (by kernel_rfl) (by rw [T_ref07_power_eq]; exact h)
end Go.Proofs.Ytknpmijgdfeliaa.G

/- More of the functions' shallow texts, by gen.py. -/
set_option linter.unusedVariables false
set_option maxRecDepth 100000
namespace Go.Proofs.Ytknpmijgdfeliaa.G
open Go.V
def an_9 : Nat → Ann := fun b => match b with
  | 0 => { ms := [7, 27], ks := [.i .i64, .i .i64], us := [1, 2, 3, 6, 25, 26, 61], rt := false, ex := [] }
  | _ => {}
abbrev rv_9 : List ResultVar := [.tmp 6]
abbrev rs_9 : List Nat := [61, 6]
def L_law07_heavy_0 (W : World) (R : Ending → Hp → Prop) (zn0 : Int) (zn1 : Int) (za2 : Addr) (zp3 : Option Addr) (zl4 : Nat) (zl5 : Nat) (zn6 : Int) (n39 : Int) (n40 : Int) : Hp → Prop :=
  LOOPN [.i .i64, .i .i64] (fun ys next s => ∀ j : Tm, vc Pg W 61 rs_9 an_9 false (sub (bodyOf Try.f9) [1, 1, 1, 1, 0, 1, 0, 0]) 0 (KLoop [7, 27] [1, 2, 3, 6, 25, 26, 61] [(.int .i64 zn0), (.int .i64 zn1), (.pointer (some za2)), (.bool false), (.slice zp3 zl4 zl5), (.int .i64 zn6), (.tuple #[])] next (KBlk 0 (KS Pg W 61 rs_9 an_9 false (sub (bodyOf Try.f9) [1, 1, 1, 1, 1]) 0 (fin Pg W 61 rv_9 R)))) (known [7, 27] ys (known [1, 2, 3, 6, 25, 26, 61] [(.int .i64 zn0), (.int .i64 zn1), (.pointer (some za2)), (.bool false), (.slice zp3 zl4 zl5), (.int .i64 zn6), (.tuple #[])] j)) s) [(.int .i64 n39), (.int .i64 n40)]
def B_law07_heavy_0 (W : World) (R : Ending → Hp → Prop) (zn0 : Int) (zn1 : Int) (za2 : Addr) (zp3 : Option Addr) (zl4 : Nat) (zl5 : Nat) (zn6 : Int) (n39 : Int) (n40 : Int) (nx0 : List Value → Hp → Prop) : Hp → Prop :=
  BR (decide (n40 < zn6))
    (IXS zp3 zl4 n40 4 fun a41 =>
      RDI .i64 (Addr.add a41 0) fun n42 =>
        RDI .i64 (Addr.add a41 1) fun n43 =>
          RDI .i64 (Addr.add a41 2) fun n44 =>
            RDI .i64 (Addr.add a41 3) fun n45 =>
              NEWZ Pg 66 fun B46 =>
                WR (Addr.add ⟨B46, 0, none⟩ 0) (.int .i64 n42) <|
                  WR (Addr.add ⟨B46, 0, none⟩ 1) (.int .i64 n43) <|
                    WR (Addr.add ⟨B46, 0, none⟩ 2) (.int .i64 n44) <|
                      WR (Addr.add ⟨B46, 0, none⟩ 3) (.int .i64 n45) <|
                        RDI .i64 (Addr.add (Addr.add ⟨B46, 0, none⟩ 0) 1) fun n47 =>
                          RDI .i64 (Addr.add (Addr.add ⟨B46, 0, none⟩ 0) 0) fun n48 =>
                            RDI .i64 (Addr.add (Addr.add ⟨B46, 0, none⟩ 2) 1) fun n49 =>
                              RDI .i64 (Addr.add (Addr.add ⟨B46, 0, none⟩ 2) 0) fun n50 =>
                                NX [(.int .i64 zn0), (.int .i64 zn1), (.pointer (some za2)), (.bool false), (.slice zp3 zl4 zl5), (.int .i64 zn6), (.tuple #[])] [(.int .i64 zn0), (.int .i64 zn1), (.pointer (some za2)), (.bool false), (.slice zp3 zl4 zl5), (.int .i64 zn6), (.tuple #[])] (nx0 [(.int .i64 (IntKind.wrap .i64 (n39 * (IntKind.wrap .i64 ((IntKind.wrap .i64 ((IntKind.wrap .i64 (n47 - n48)) + 1)) * (IntKind.wrap .i64 ((IntKind.wrap .i64 (n49 - n50)) + 1))))))), (.int .i64 (IntKind.wrap .i64 (n40 + 1)))]))
    (BR (decide (n39 > zn0))
      (R (.returned (.bool true)))
      (RDL (Addr.add za2 2) fun x51 l52 c53 =>
        R (.returned (.bool (decide ((↑l52 : Int) > zn1))))))
theorem B_law07_heavy_0_eq (W : World) (R : Ending → Hp → Prop) (zn0 : Int) (zn1 : Int) (za2 : Addr) (zp3 : Option Addr) (zl4 : Nat) (zl5 : Nat) (zn6 : Int) (n39 : Int) (n40 : Int) (nx0 : List Value → Hp → Prop) (j : Tm) : vc Pg W 61 rs_9 an_9 false (sub (bodyOf Try.f9) [1, 1, 1, 1, 0, 1, 0, 0]) 0 (KLoop [7, 27] [1, 2, 3, 6, 25, 26, 61] [(.int .i64 zn0), (.int .i64 zn1), (.pointer (some za2)), (.bool false), (.slice zp3 zl4 zl5), (.int .i64 zn6), (.tuple #[])] nx0 (KBlk 0 (KS Pg W 61 rs_9 an_9 false (sub (bodyOf Try.f9) [1, 1, 1, 1, 1]) 0 (fin Pg W 61 rv_9 R)))) (known [7, 27] [(.int .i64 n39), (.int .i64 n40)] (known [1, 2, 3, 6, 25, 26, 61] [(.int .i64 zn0), (.int .i64 zn1), (.pointer (some za2)), (.bool false), (.slice zp3 zl4 zl5), (.int .i64 zn6), (.tuple #[])] j)) = B_law07_heavy_0 W R zn0 zn1 za2 zp3 zl4 zl5 zn6 n39 n40 nx0 := by kernel_rfl
def N_law07_heavy_0 (I : Int → Int → Hp → Prop) (μ : Int → Int → Hp → Nat) (n390 : Int) (n400 : Int) (s : Hp) (vs : List Value) : Hp → Prop := fun s' => ∃ n39 n40, vs = [(.int .i64 n39), (.int .i64 n40)] ∧ I n39 n40 s' ∧ μ n39 n40 s' < μ n390 n400 s
theorem L_law07_heavy_0_rule (W : World) (R : Ending → Hp → Prop) (zn0 : Int) (zn1 : Int) (za2 : Addr) (zp3 : Option Addr) (zl4 : Nat) (zl5 : Nat) (zn6 : Int) (I : Int → Int → Hp → Prop) (μ : Int → Int → Hp → Nat) (n390 : Int) (n400 : Int) (s : Hp) (h0 : I n390 n400 s)
    (hr : ∀ (n39 : Int) (n40 : Int) (s : Hp), I n39 n40 s → B_law07_heavy_0 W R zn0 zn1 za2 zp3 zl4 zl5 zn6 n39 n40 (fun vs => N_law07_heavy_0 I μ n39 n40 s vs) s) : L_law07_heavy_0 W R zn0 zn1 za2 zp3 zl4 zl5 zn6 n390 n400 s := by
  refine ⟨fun vs s => ∃ n39 n40, vs = [(.int .i64 n39), (.int .i64 n40)] ∧ I n39 n40 s, fun vs s => (match vs with | [.int _ n39, .int _ n40] => μ n39 n40 s | _ => 0), ⟨⟨⟨_, rfl⟩, ⟨⟨_, rfl⟩, trivial⟩⟩, ⟨_, _, rfl, h0⟩⟩, ?_⟩
  intro n39 n40 s hI j
  obtain ⟨n39', n40', hy, hI⟩ := hI
  have hI' : I n39 n40 s := by cases hy; exact hI
  have hh := hr n39 n40 s hI'
  rw [← B_law07_heavy_0_eq W R zn0 zn1 za2 zp3 zl4 zl5 zn6 n39 n40 _ j] at hh
  refine vc_mono ?_ _ _ hh
  exact KLoop_mono (fun vs s' h => by obtain ⟨n391, n401, rfl, h1, h2⟩ := h; exact ⟨⟨⟨_, rfl⟩, ⟨⟨_, rfl⟩, trivial⟩⟩, ⟨_, _, rfl, h1⟩, h2⟩)
def T_law07_heavy (W : World) (x1 : Option Addr) (l2 : Nat) (c3 : Nat) (n4 : Int) (x5 : Option Addr) (l6 : Nat) (c7 : Nat) (x8 : Option Addr) (l9 : Nat) (c10 : Nat) (n11 : Int) (n12 : Int) (R : Ending → Hp → Prop) : Hp → Prop :=
  NEW 26 [(.slice x1 l2 c3), (.int .i64 n4), (.slice x5 l6 c7), (.slice x8 l9 c10)] fun B13 =>
    RDL (Addr.add ⟨B13, 0, none⟩ 0) fun x14 l15 c16 =>
      RDL (Addr.add ⟨B13, 0, none⟩ 2) fun x17 l18 c19 =>
        RDL (Addr.add ⟨B13, 0, none⟩ 3) fun x20 l21 c22 =>
          BR (decide ((if (↑l21 : Int) > (if (↑l18 : Int) > (↑l15 : Int) then (↑l18 : Int) else (↑l15 : Int)) then (↑l21 : Int) else (if (↑l18 : Int) > (↑l15 : Int) then (↑l18 : Int) else (↑l15 : Int))) > 40))
            (R (.returned (.bool true)))
            (RDL (Addr.add ⟨B13, 0, none⟩ 0) fun x23 l24 c25 =>
              RDI .i64 (Addr.add ⟨B13, 0, none⟩ 1) fun n26 =>
                RDL (Addr.add ⟨B13, 0, none⟩ 2) fun x27 l28 c29 =>
                  RDL (Addr.add ⟨B13, 0, none⟩ 3) fun x30 l31 c32 =>
                    CALL Pg W F_ref07_Clock [(.agg #[(.slice x23 l24 c25), (.int .i64 n26), (.slice x27 l28 c29), (.slice x30 l31 c32)])]
                      (fun v33 => TYB v33 fun b35 =>
                        BR (!b35)
                          (R (.returned (.bool false)))
                          (RDL (Addr.add ⟨B13, 0, none⟩ 0) fun x36 l37 c38 =>
                            L_law07_heavy_0 W R n11 n12 ⟨B13, 0, none⟩ x36 l37 c38 (↑l37 : Int) 1 0))
                        (fun e34 => R (.panicked e34)))
theorem T_law07_heavy_eq (W : World) (x1 : Option Addr) (l2 : Nat) (c3 : Nat) (n4 : Int) (x5 : Option Addr) (l6 : Nat) (c7 : Nat) (x8 : Option Addr) (l9 : Nat) (c10 : Nat) (n11 : Int) (n12 : Int) (R : Ending → Hp → Prop) : vfun Pg W an_9 Try.f9 [(.agg #[(.slice x1 l2 c3), (.int .i64 n4), (.slice x5 l6 c7), (.slice x8 l9 c10)]), (.int .i64 n11), (.int .i64 n12)] R = T_law07_heavy W x1 l2 c3 n4 x5 l6 c7 x8 l9 c10 n11 n12 R := by kernel_rfl
theorem does_law07_heavy (W : World) (x1 : Option Addr) (l2 : Nat) (c3 : Nat) (n4 : Int) (x5 : Option Addr) (l6 : Nat) (c7 : Nat) (x8 : Option Addr) (l9 : Nat) (c10 : Nat) (n11 : Int) (n12 : Int) (R : Ending → Hp → Prop) (s : Hp) (h : T_law07_heavy W x1 l2 c3 n4 x5 l6 c7 x8 l9 c10 n11 n12 R s) : Does Pg W F_law07_heavy #[(.agg #[(.slice x1 l2 c3), (.int .i64 n4), (.slice x5 l6 c7), (.slice x8 l9 c10)]), (.int .i64 n11), (.int .i64 n12)] s R :=
  does_of_vfun Pg W an_9 Try.func9 rfl (by kernel_rfl) (by rw [T_law07_heavy_eq]; exact h)
def an_16 : Nat → Ann := fun b => match b with
  | 0 => { ms := [13], ks := [.i .i64], us := [1, 4, 5, 11, 12, 31], rt := false, ex := [] }
  | _ => {}
abbrev rv_16 : List ResultVar := [.cell 4 26]
abbrev rs_16 : List Nat := [31, 4]
def L_law07_part_0 (W : World) (R : Ending → Hp → Prop) (zn0 : Int) (za1 : Addr) (za2 : Addr) (zp3 : Option Addr) (zl4 : Nat) (zl5 : Nat) (zn6 : Int) (n28 : Int) : Hp → Prop :=
  LOOPN [.i .i64] (fun ys next s => ∀ j : Tm, vc Pg W 31 rs_16 an_16 false (sub (bodyOf Try.f16) [1, 1, 1, 0, 1, 0, 0]) 0 (KLoop [13] [1, 4, 5, 11, 12, 31] [(.int .i64 zn0), (.pointer (some za1)), (.pointer (some za2)), (.slice zp3 zl4 zl5), (.int .i64 zn6), (.tuple #[])] next (KBlk 0 (KS Pg W 31 rs_16 an_16 false (sub (bodyOf Try.f16) [1, 1, 1, 1]) 0 (fin Pg W 31 rv_16 R)))) (known [13] ys (known [1, 4, 5, 11, 12, 31] [(.int .i64 zn0), (.pointer (some za1)), (.pointer (some za2)), (.slice zp3 zl4 zl5), (.int .i64 zn6), (.tuple #[])] j)) s) [(.int .i64 n28)]
def J_law07_part_0 (W : World) (R : Ending → Hp → Prop) (zn0 : Int) (za1 : Addr) (za2 : Addr) (zp3 : Option Addr) (zl4 : Nat) (zl5 : Nat) (zn6 : Int) (nx0 : List Value → Hp → Prop) (n28 : Int) : Hp → Prop :=
  NX [(.int .i64 zn0), (.pointer (some za1)), (.pointer (some za2)), (.slice zp3 zl4 zl5), (.int .i64 zn6), (.tuple #[])] [(.int .i64 zn0), (.pointer (some za1)), (.pointer (some za2)), (.slice zp3 zl4 zl5), (.int .i64 zn6), (.tuple #[])] (nx0 [(.int .i64 (IntKind.wrap .i64 (n28 + 1)))])
def B_law07_part_0 (W : World) (R : Ending → Hp → Prop) (zn0 : Int) (za1 : Addr) (za2 : Addr) (zp3 : Option Addr) (zl4 : Nat) (zl5 : Nat) (zn6 : Int) (n28 : Int) (nx0 : List Value → Hp → Prop) : Hp → Prop :=
  BR (decide (n28 < zn6))
    (IXS zp3 zl4 n28 3 fun a29 =>
      RDI .i64 (Addr.add a29 0) fun n30 =>
        RDI .i64 (Addr.add a29 1) fun n31 =>
          RDI .i64 (Addr.add a29 2) fun n32 =>
            NEWZ Pg 61 fun B33 =>
              WR (Addr.add ⟨B33, 0, none⟩ 0) (.int .i64 n30) <|
                WR (Addr.add ⟨B33, 0, none⟩ 1) (.int .i64 n31) <|
                  WR (Addr.add ⟨B33, 0, none⟩ 2) (.int .i64 n32) <|
                    NNI n28 <|
                      BR ((andv .i64 (shrv .i64 zn0 n28) 1) == 1)
                        (RDL (Addr.add za2 2) fun x34 l35 c36 =>
                          RDI .i64 (Addr.add ⟨B33, 0, none⟩ 0) fun n37 =>
                            RDI .i64 (Addr.add ⟨B33, 0, none⟩ 1) fun n38 =>
                              RDI .i64 (Addr.add ⟨B33, 0, none⟩ 2) fun n39 =>
                                NEW 61 [(.int .i64 n37), (.int .i64 n38), (.int .i64 n39)] fun B40 =>
                                  APP Pg 61 3 x34 l35 c36 (some ⟨B40, 0, none⟩) 1 fun x41 l42 c43 =>
                                    WR (Addr.add (Addr.add za2 2) 0) (.slice x41 l42 c43) <|
                                      J_law07_part_0 W R zn0 za1 za2 zp3 zl4 zl5 zn6 nx0 n28)
                        (J_law07_part_0 W R zn0 za1 za2 zp3 zl4 zl5 zn6 nx0 n28))
    (RDL (Addr.add za2 0) fun x44 l45 c46 =>
      RDI .i64 (Addr.add za2 1) fun n47 =>
        RDL (Addr.add za2 2) fun x48 l49 c50 =>
          RDL (Addr.add za2 3) fun x51 l52 c53 =>
            WR (Addr.add za1 0) (.slice x44 l45 c46) <|
              WR (Addr.add za1 1) (.int .i64 n47) <|
                WR (Addr.add za1 2) (.slice x48 l49 c50) <|
                  WR (Addr.add za1 3) (.slice x51 l52 c53) <|
                    RDL (Addr.add za1 0) fun x54 l55 c56 =>
                      RDI .i64 (Addr.add za1 1) fun n57 =>
                        RDL (Addr.add za1 2) fun x58 l59 c60 =>
                          RDL (Addr.add za1 3) fun x61 l62 c63 =>
                            R (.returned (.agg #[(.slice x54 l55 c56), (.int .i64 n57), (.slice x58 l59 c60), (.slice x61 l62 c63)])))
theorem B_law07_part_0_eq (W : World) (R : Ending → Hp → Prop) (zn0 : Int) (za1 : Addr) (za2 : Addr) (zp3 : Option Addr) (zl4 : Nat) (zl5 : Nat) (zn6 : Int) (n28 : Int) (nx0 : List Value → Hp → Prop) (j : Tm) : vc Pg W 31 rs_16 an_16 false (sub (bodyOf Try.f16) [1, 1, 1, 0, 1, 0, 0]) 0 (KLoop [13] [1, 4, 5, 11, 12, 31] [(.int .i64 zn0), (.pointer (some za1)), (.pointer (some za2)), (.slice zp3 zl4 zl5), (.int .i64 zn6), (.tuple #[])] nx0 (KBlk 0 (KS Pg W 31 rs_16 an_16 false (sub (bodyOf Try.f16) [1, 1, 1, 1]) 0 (fin Pg W 31 rv_16 R)))) (known [13] [(.int .i64 n28)] (known [1, 4, 5, 11, 12, 31] [(.int .i64 zn0), (.pointer (some za1)), (.pointer (some za2)), (.slice zp3 zl4 zl5), (.int .i64 zn6), (.tuple #[])] j)) = B_law07_part_0 W R zn0 za1 za2 zp3 zl4 zl5 zn6 n28 nx0 := by kernel_rfl
def N_law07_part_0 (I : Int → Hp → Prop) (μ : Int → Hp → Nat) (n280 : Int) (s : Hp) (vs : List Value) : Hp → Prop := fun s' => ∃ n28, vs = [(.int .i64 n28)] ∧ I n28 s' ∧ μ n28 s' < μ n280 s
theorem L_law07_part_0_rule (W : World) (R : Ending → Hp → Prop) (zn0 : Int) (za1 : Addr) (za2 : Addr) (zp3 : Option Addr) (zl4 : Nat) (zl5 : Nat) (zn6 : Int) (I : Int → Hp → Prop) (μ : Int → Hp → Nat) (n280 : Int) (s : Hp) (h0 : I n280 s)
    (hr : ∀ (n28 : Int) (s : Hp), I n28 s → B_law07_part_0 W R zn0 za1 za2 zp3 zl4 zl5 zn6 n28 (fun vs => N_law07_part_0 I μ n28 s vs) s) : L_law07_part_0 W R zn0 za1 za2 zp3 zl4 zl5 zn6 n280 s := by
  refine ⟨fun vs s => ∃ n28, vs = [(.int .i64 n28)] ∧ I n28 s, fun vs s => (match vs with | [.int _ n28] => μ n28 s | _ => 0), ⟨⟨⟨_, rfl⟩, trivial⟩, ⟨_, rfl, h0⟩⟩, ?_⟩
  intro n28 s hI j
  obtain ⟨n28', hy, hI⟩ := hI
  have hI' : I n28 s := by cases hy; exact hI
  have hh := hr n28 s hI'
  rw [← B_law07_part_0_eq W R zn0 za1 za2 zp3 zl4 zl5 zn6 n28 _ j] at hh
  refine vc_mono ?_ _ _ hh
  exact KLoop_mono (fun vs s' h => by obtain ⟨n281, rfl, h1, h2⟩ := h; exact ⟨⟨⟨_, rfl⟩, trivial⟩, ⟨_, rfl, h1⟩, h2⟩)
def T_law07_part (W : World) (x1 : Option Addr) (l2 : Nat) (c3 : Nat) (n4 : Int) (x5 : Option Addr) (l6 : Nat) (c7 : Nat) (x8 : Option Addr) (l9 : Nat) (c10 : Nat) (n11 : Int) (R : Ending → Hp → Prop) : Hp → Prop :=
  NEW 26 [(.slice x1 l2 c3), (.int .i64 n4), (.slice x5 l6 c7), (.slice x8 l9 c10)] fun B12 =>
    NEWZ Pg 26 fun B13 =>
      RDL (Addr.add ⟨B12, 0, none⟩ 0) fun x14 l15 c16 =>
        RDI .i64 (Addr.add ⟨B12, 0, none⟩ 1) fun n17 =>
          RDL (Addr.add ⟨B12, 0, none⟩ 2) fun x18 l19 c20 =>
            RDL (Addr.add ⟨B12, 0, none⟩ 3) fun x21 l22 c23 =>
              NEWZ Pg 26 fun B24 =>
                WR (Addr.add ⟨B24, 0, none⟩ 0) (.slice x14 l15 c16) <|
                  WR (Addr.add ⟨B24, 0, none⟩ 1) (.int .i64 n17) <|
                    WR (Addr.add ⟨B24, 0, none⟩ 2) (.slice x18 l19 c20) <|
                      WR (Addr.add ⟨B24, 0, none⟩ 3) (.slice x21 l22 c23) <|
                        WR (Addr.add (Addr.add ⟨B24, 0, none⟩ 2) 0) (.slice none 0 0) <|
                          RDL (Addr.add ⟨B12, 0, none⟩ 2) fun x25 l26 c27 =>
                            L_law07_part_0 W R n11 ⟨B13, 0, none⟩ ⟨B24, 0, none⟩ x25 l26 c27 (↑l26 : Int) 0
theorem T_law07_part_eq (W : World) (x1 : Option Addr) (l2 : Nat) (c3 : Nat) (n4 : Int) (x5 : Option Addr) (l6 : Nat) (c7 : Nat) (x8 : Option Addr) (l9 : Nat) (c10 : Nat) (n11 : Int) (R : Ending → Hp → Prop) : vfun Pg W an_16 Try.f16 [(.agg #[(.slice x1 l2 c3), (.int .i64 n4), (.slice x5 l6 c7), (.slice x8 l9 c10)]), (.int .i64 n11)] R = T_law07_part W x1 l2 c3 n4 x5 l6 c7 x8 l9 c10 n11 R := by kernel_rfl
theorem does_law07_part (W : World) (x1 : Option Addr) (l2 : Nat) (c3 : Nat) (n4 : Int) (x5 : Option Addr) (l6 : Nat) (c7 : Nat) (x8 : Option Addr) (l9 : Nat) (c10 : Nat) (n11 : Int) (R : Ending → Hp → Prop) (s : Hp) (h : T_law07_part W x1 l2 c3 n4 x5 l6 c7 x8 l9 c10 n11 R s) : Does Pg W F_law07_part #[(.agg #[(.slice x1 l2 c3), (.int .i64 n4), (.slice x5 l6 c7), (.slice x8 l9 c10)]), (.int .i64 n11)] s R :=
  does_of_vfun Pg W an_16 Try.func16 rfl (by kernel_rfl) (by rw [T_law07_part_eq]; exact h)
def an_20 : Nat → Ann := fun b => match b with
  | _ => {}
abbrev rv_20 : List ResultVar := [.cell 2 26]
abbrev rs_20 : List Nat := [22, 2]
def T_law07_sample (W : World) (n1 : Int) (R : Ending → Hp → Prop) : Hp → Prop :=
  NEWZ Pg 26 fun B2 =>
    CALL Pg W F_law07_span [(.int .i64 0), (.int .i64 0)]
      (fun v3 => AGG v3 fun q5 => HD q5 fun v6 r7 => TYI .i64 v6 fun n8 =>
        HD r7 fun v9 r10 => TYI .i64 v9 fun n11 =>
          NL r10 <|
            CALL Pg W F_law07_span [(.int .i64 1000), (.int .i64 1000)]
              (fun v12 => AGG v12 fun q14 => HD q14 fun v15 r16 => TYI .i64 v15 fun n17 =>
                HD r16 fun v18 r19 => TYI .i64 v18 fun n20 =>
                  NL r19 <|
                    CALL Pg W F_law07_span [(.int .i64 5), (.int .i64 6)]
                      (fun v21 => AGG v21 fun q23 => HD q23 fun v24 r25 => TYI .i64 v24 fun n26 =>
                        HD r25 fun v27 r28 => TYI .i64 v27 fun n29 =>
                          NL r28 <|
                            CALL Pg W F_law07_span [(.int .i64 998), (.int .i64 1002)]
                              (fun v30 => AGG v30 fun q32 => HD q32 fun v33 r34 => TYI .i64 v33 fun n35 =>
                                HD r34 fun v36 r37 => TYI .i64 v36 fun n38 =>
                                  NL r37 <|
                                    NEW 66 [(.int .i64 n8), (.int .i64 n11), (.int .i64 n17), (.int .i64 n20), (.int .i64 n26), (.int .i64 n29), (.int .i64 n35), (.int .i64 n38)] fun B39 =>
                                      NEW 61 [(.int .i64 0), (.int .i64 0), (.int .i64 10), (.int .i64 1), (.int .i64 1), (.int .i64 66), (.int .i64 2), (.int .i64 0), (.int .i64 130), (.int .i64 2), (.int .i64 1), (.int .i64 n1)] fun B40 =>
                                        CALL Pg W F_law07_span [(.int .i64 40), (.int .i64 60)]
                                          (fun v41 => AGG v41 fun q43 => HD q43 fun v44 r45 => TYI .i64 v44 fun n46 =>
                                            HD r45 fun v47 r48 => TYI .i64 v47 fun n49 =>
                                              NL r48 <|
                                                CALL Pg W F_law07_span [(.int .i64 60), (.int .i64 70)]
                                                  (fun v50 => AGG v50 fun q52 => HD q52 fun v53 r54 => TYI .i64 v53 fun n55 =>
                                                    HD r54 fun v56 r57 => TYI .i64 v56 fun n58 =>
                                                      NL r57 <|
                                                        NEW 63 [(.int .i64 0), (.int .i64 1), (.int .i64 n46), (.int .i64 n49), (.int .i64 1), (.int .i64 2), (.int .i64 n55), (.int .i64 n58)] fun B59 =>
                                                          WR (Addr.add ⟨B2, 0, none⟩ 0) (.slice (some ⟨B39, 0, none⟩) 2 2) <|
                                                            WR (Addr.add ⟨B2, 0, none⟩ 1) (.int .i64 3) <|
                                                              WR (Addr.add ⟨B2, 0, none⟩ 2) (.slice (some ⟨B40, 0, none⟩) 4 4) <|
                                                                WR (Addr.add ⟨B2, 0, none⟩ 3) (.slice (some ⟨B59, 0, none⟩) 2 2) <|
                                                                  RDL (Addr.add ⟨B2, 0, none⟩ 0) fun x60 l61 c62 =>
                                                                    RDI .i64 (Addr.add ⟨B2, 0, none⟩ 1) fun n63 =>
                                                                      RDL (Addr.add ⟨B2, 0, none⟩ 2) fun x64 l65 c66 =>
                                                                        RDL (Addr.add ⟨B2, 0, none⟩ 3) fun x67 l68 c69 =>
                                                                          R (.returned (.agg #[(.slice x60 l61 c62), (.int .i64 n63), (.slice x64 l65 c66), (.slice x67 l68 c69)])))
                                                    (fun e51 => R (.panicked e51)))
                                            (fun e42 => R (.panicked e42)))
                                (fun e31 => R (.panicked e31)))
                        (fun e22 => R (.panicked e22)))
                (fun e13 => R (.panicked e13)))
        (fun e4 => R (.panicked e4))
theorem T_law07_sample_eq (W : World) (n1 : Int) (R : Ending → Hp → Prop) : vfun Pg W an_20 Try.f20 [(.int .i64 n1)] R = T_law07_sample W n1 R := by kernel_rfl
theorem does_law07_sample (W : World) (n1 : Int) (R : Ending → Hp → Prop) (s : Hp) (h : T_law07_sample W n1 R s) : Does Pg W F_law07_sample #[(.int .i64 n1)] s R :=
  does_of_vfun Pg W an_20 Try.func20 rfl (by kernel_rfl) (by rw [T_law07_sample_eq]; exact h)
def an_24 : Nat → Ann := fun b => match b with
  | _ => {}
abbrev rv_24 : List ResultVar := [.cell 4 34]
abbrev rs_24 : List Nat := [8, 4]
def T_law07_span (W : World) (n1 : Int) (n2 : Int) (R : Ending → Hp → Prop) : Hp → Prop :=
  NEWZ Pg 34 fun B3 =>
    WR (Addr.add ⟨B3, 0, none⟩ 0) (.int .i64 n1) <|
      WR (Addr.add ⟨B3, 0, none⟩ 1) (.int .i64 n2) <|
        RDI .i64 (Addr.add ⟨B3, 0, none⟩ 0) fun n4 =>
          RDI .i64 (Addr.add ⟨B3, 0, none⟩ 1) fun n5 =>
            R (.returned (.agg #[(.int .i64 n4), (.int .i64 n5)]))
theorem T_law07_span_eq (W : World) (n1 : Int) (n2 : Int) (R : Ending → Hp → Prop) : vfun Pg W an_24 Try.f24 [(.int .i64 n1), (.int .i64 n2)] R = T_law07_span W n1 n2 R := by kernel_rfl
theorem does_law07_span (W : World) (n1 : Int) (n2 : Int) (R : Ending → Hp → Prop) (s : Hp) (h : T_law07_span W n1 n2 R s) : Does Pg W F_law07_span #[(.int .i64 n1), (.int .i64 n2)] s R :=
  does_of_vfun Pg W an_24 Try.func24 rfl (by kernel_rfl) (by rw [T_law07_span_eq]; exact h)
def an_27 : Nat → Ann := fun b => match b with
  | _ => {}
abbrev rv_27 : List ResultVar := [.tmp 4]
abbrev rs_27 : List Nat := [15, 4]
def T_law07_inside (W : World) (n1 : Int) (n2 : Int) (n3 : Int) (R : Ending → Hp → Prop) : Hp → Prop :=
  NEW 34 [(.int .i64 n2), (.int .i64 n3)] fun B4 =>
    RDI .i64 (Addr.add ⟨B4, 0, none⟩ 0) fun n5 =>
      BR (decide (n5 ≤ n1))
        (RDI .i64 (Addr.add ⟨B4, 0, none⟩ 1) fun n6 =>
          R (.returned (.bool (decide (n1 ≤ n6)))))
        (R (.returned (.bool false)))
theorem T_law07_inside_eq (W : World) (n1 : Int) (n2 : Int) (n3 : Int) (R : Ending → Hp → Prop) : vfun Pg W an_27 Try.f27 [(.int .i64 n1), (.agg #[(.int .i64 n2), (.int .i64 n3)])] R = T_law07_inside W n1 n2 n3 R := by kernel_rfl
theorem does_law07_inside (W : World) (n1 : Int) (n2 : Int) (n3 : Int) (R : Ending → Hp → Prop) (s : Hp) (h : T_law07_inside W n1 n2 n3 R s) : Does Pg W F_law07_inside #[(.int .i64 n1), (.agg #[(.int .i64 n2), (.int .i64 n3)])] s R :=
  does_of_vfun Pg W an_27 Try.func27 rfl (by kernel_rfl) (by rw [T_law07_inside_eq]; exact h)
end Go.Proofs.Ytknpmijgdfeliaa.G

/- More of the functions' shallow texts, by gen.py. -/
set_option linter.unusedVariables false
set_option maxRecDepth 100000
namespace Go.Proofs.Ytknpmijgdfeliaa.G
open Go.V
def an_10 : Nat → Ann := fun b => match b with
  | _ => {}
abbrev rv_10 : List ResultVar := [.tmp 0]
abbrev rs_10 : List Nat := [99, 0]
def J_law07_alive_0 (W : World) (R : Ending → Hp → Prop) (b317 : Bool) (n149 : Int) (n178 : Int) (n181 : Int) (n208 : Int) (n211 : Int) : Hp → Prop :=
  BR b317
    (BR (n149 == 0)
      (BR (n178 == 2)
        (BR (n181 == 0)
          (BR (n208 == 8)
            (R (.returned (.bool (n211 == 0))))
            (R (.returned (.bool false))))
          (R (.returned (.bool false))))
        (R (.returned (.bool false))))
      (R (.returned (.bool false))))
    (R (.returned (.bool false)))
def J_law07_alive_1 (W : World) (R : Ending → Hp → Prop) (b290 : Bool) (B151 : Nat) (n149 : Int) (n178 : Int) (n181 : Int) (n208 : Int) (n211 : Int) : Hp → Prop :=
  BR b290
    (RDI .i64 (Addr.add ⟨B151, 0, none⟩ 0) fun n291 =>
      RDI .i64 (Addr.add ⟨B151, 0, none⟩ 1) fun n292 =>
        CALL Pg W F_law07_span [(.int .i64 1000), (.int .i64 1002)]
          (fun v293 => AGG v293 fun q295 => HD q295 fun v296 r297 => TYI .i64 v296 fun n298 =>
            HD r297 fun v299 r300 => TYI .i64 v299 fun n301 =>
              NL r300 <|
                ANDS (RDI .i64 (Addr.add ⟨B151, 0, none⟩ 0) fun n304 =>
                  RDI .i64 (Addr.add ⟨B151, 0, none⟩ 1) fun n305 =>
                    fun _ => ((.agg #[(.int .i64 n304), (.int .i64 n305)]) : Value) = (.agg #[(.int .i64 n291), (.int .i64 n292)])) <|
                  J_law07_alive_0 W R ((n291 == n298) && (n292 == n301)) n149 n178 n181 n208 n211)
            (fun e294 => R (.panicked e294)))
    (J_law07_alive_0 W R false n149 n178 n181 n208 n211)
def J_law07_alive_2 (W : World) (R : Ending → Hp → Prop) (b266 : Bool) (B150 : Nat) (B151 : Nat) (n149 : Int) (n178 : Int) (n181 : Int) (n208 : Int) (n211 : Int) : Hp → Prop :=
  BR b266
    (RDI .i64 (Addr.add ⟨B150, 0, none⟩ 0) fun n267 =>
      RDI .i64 (Addr.add ⟨B150, 0, none⟩ 1) fun n268 =>
        CALL Pg W F_law07_span [(.int .i64 6), (.int .i64 6)]
          (fun v269 => AGG v269 fun q271 => HD q271 fun v272 r273 => TYI .i64 v272 fun n274 =>
            HD r273 fun v275 r276 => TYI .i64 v275 fun n277 =>
              NL r276 <|
                ANDS (RDI .i64 (Addr.add ⟨B150, 0, none⟩ 0) fun n280 =>
                  RDI .i64 (Addr.add ⟨B150, 0, none⟩ 1) fun n281 =>
                    fun _ => ((.agg #[(.int .i64 n280), (.int .i64 n281)]) : Value) = (.agg #[(.int .i64 n267), (.int .i64 n268)])) <|
                  J_law07_alive_1 W R ((n267 == n274) && (n268 == n277)) B151 n149 n178 n181 n208 n211)
            (fun e270 => R (.panicked e270)))
    (J_law07_alive_1 W R false B151 n149 n178 n181 n208 n211)
def J_law07_alive_3 (W : World) (R : Ending → Hp → Prop) (b260 : Bool) (n104 : Int) (B150 : Nat) (B151 : Nat) (n149 : Int) (n178 : Int) (n181 : Int) (n208 : Int) (n211 : Int) : Hp → Prop :=
  BR b260
    (J_law07_alive_2 W R (n104 == 0) B150 B151 n149 n178 n181 n208 n211)
    (J_law07_alive_2 W R false B150 B151 n149 n178 n181 n208 n211)
def J_law07_alive_4 (W : World) (R : Ending → Hp → Prop) (b254 : Bool) (n101 : Int) (n104 : Int) (B150 : Nat) (B151 : Nat) (n149 : Int) (n178 : Int) (n181 : Int) (n208 : Int) (n211 : Int) : Hp → Prop :=
  BR b254
    (J_law07_alive_3 W R (n101 == 2) n104 B150 B151 n149 n178 n181 n208 n211)
    (J_law07_alive_3 W R false n104 B150 B151 n149 n178 n181 n208 n211)
def J_law07_alive_5 (W : World) (R : Ending → Hp → Prop) (b248 : Bool) (n73 : Int) (n101 : Int) (n104 : Int) (B150 : Nat) (B151 : Nat) (n149 : Int) (n178 : Int) (n181 : Int) (n208 : Int) (n211 : Int) : Hp → Prop :=
  BR b248
    (J_law07_alive_4 W R (n73 == 0) n101 n104 B150 B151 n149 n178 n181 n208 n211)
    (J_law07_alive_4 W R false n101 n104 B150 B151 n149 n178 n181 n208 n211)
def J_law07_alive_6 (W : World) (R : Ending → Hp → Prop) (b227 : Bool) (B74 : Nat) (n73 : Int) (n101 : Int) (n104 : Int) (B150 : Nat) (B151 : Nat) (n149 : Int) (n178 : Int) (n181 : Int) (n208 : Int) (n211 : Int) : Hp → Prop :=
  BR b227
    (RDI .i64 (Addr.add ⟨B74, 0, none⟩ 0) fun n228 =>
      RDI .i64 (Addr.add ⟨B74, 0, none⟩ 1) fun n229 =>
        CALL Pg W F_law07_span [(.int .i64 (-70)), (.int .i64 (-70))]
          (fun v230 => AGG v230 fun q232 => HD q232 fun v233 r234 => TYI .i64 v233 fun n235 =>
            HD r234 fun v236 r237 => TYI .i64 v236 fun n238 =>
              NL r237 <|
                ANDS (RDI .i64 (Addr.add ⟨B74, 0, none⟩ 0) fun n241 =>
                  RDI .i64 (Addr.add ⟨B74, 0, none⟩ 1) fun n242 =>
                    fun _ => ((.agg #[(.int .i64 n241), (.int .i64 n242)]) : Value) = (.agg #[(.int .i64 n228), (.int .i64 n229)])) <|
                  J_law07_alive_5 W R ((n228 == n235) && (n229 == n238)) n73 n101 n104 B150 B151 n149 n178 n181 n208 n211)
            (fun e231 => R (.panicked e231)))
    (J_law07_alive_5 W R false n73 n101 n104 B150 B151 n149 n178 n181 n208 n211)
def T_law07_alive (W : World) (R : Ending → Hp → Prop) : Hp → Prop :=
  CALL Pg W F_law07_sample [(.int .i64 136)]
    (fun v1 => AGG v1 fun q3 => HD q3 fun v4 r5 => TYL v4 fun x6 l7 c8 =>
      HD r5 fun v9 r10 => TYI .i64 v9 fun n11 =>
        HD r10 fun v12 r13 => TYL v12 fun x14 l15 c16 =>
          HD r13 fun v17 r18 => TYL v17 fun x19 l20 c21 =>
            NL r18 <|
              CALL Pg W F_clock_When [(.agg #[(.slice x6 l7 c8), (.int .i64 n11), (.slice x14 l15 c16), (.slice x19 l20 c21)]), (.int .i64 1)]
                (fun v22 => TUP v22 fun q24 => HD q24 fun v25 r26 => AGG v25 fun q27 => HD q27 fun v28 r29 => TYI .i64 v28 fun n30 =>
                  HD r29 fun v31 r32 => TYI .i64 v31 fun n33 =>
                    NL r32 <|
                      HD r26 fun v34 r35 => TYI .i64 v34 fun n36 =>
                        NL r35 <|
                          NEWZ Pg 34 fun B37 =>
                            WR (Addr.add ⟨B37, 0, none⟩ 0) (.int .i64 n30) <|
                              WR (Addr.add ⟨B37, 0, none⟩ 1) (.int .i64 n33) <|
                                CALL Pg W F_law07_sample [(.int .i64 136)]
                                  (fun v38 => AGG v38 fun q40 => HD q40 fun v41 r42 => TYL v41 fun x43 l44 c45 =>
                                    HD r42 fun v46 r47 => TYI .i64 v46 fun n48 =>
                                      HD r47 fun v49 r50 => TYL v49 fun x51 l52 c53 =>
                                        HD r50 fun v54 r55 => TYL v54 fun x56 l57 c58 =>
                                          NL r55 <|
                                            CALL Pg W F_clock_Lasted [(.agg #[(.slice x43 l44 c45), (.int .i64 n48), (.slice x51 l52 c53), (.slice x56 l57 c58)]), (.int .i64 2), (.int .i64 1)]
                                              (fun v59 => TUP v59 fun q61 => HD q61 fun v62 r63 => AGG v62 fun q64 => HD q64 fun v65 r66 => TYI .i64 v65 fun n67 =>
                                                HD r66 fun v68 r69 => TYI .i64 v68 fun n70 =>
                                                  NL r69 <|
                                                    HD r63 fun v71 r72 => TYI .i64 v71 fun n73 =>
                                                      NL r72 <|
                                                        NEWZ Pg 34 fun B74 =>
                                                          WR (Addr.add ⟨B74, 0, none⟩ 0) (.int .i64 n67) <|
                                                            WR (Addr.add ⟨B74, 0, none⟩ 1) (.int .i64 n70) <|
                                                              CALL Pg W F_law07_sample [(.int .i64 136)]
                                                                (fun v75 => AGG v75 fun q77 => HD q77 fun v78 r79 => TYL v78 fun x80 l81 c82 =>
                                                                  HD r79 fun v83 r84 => TYI .i64 v83 fun n85 =>
                                                                    HD r84 fun v86 r87 => TYL v86 fun x88 l89 c90 =>
                                                                      HD r87 fun v91 r92 => TYL v91 fun x93 l94 c95 =>
                                                                        NL r92 <|
                                                                          CALL Pg W F_clock_First [(.agg #[(.slice x80 l81 c82), (.int .i64 n85), (.slice x88 l89 c90), (.slice x93 l94 c95)]), (.int .i64 0), (.int .i64 1)]
                                                                            (fun v96 => TUP v96 fun q98 => HD q98 fun v99 r100 => TYI .i64 v99 fun n101 =>
                                                                              HD r100 fun v102 r103 => TYI .i64 v102 fun n104 =>
                                                                                NL r103 <|
                                                                                  CALL Pg W F_law07_sample [(.int .i64 136)]
                                                                                    (fun v105 => AGG v105 fun q107 => HD q107 fun v108 r109 => TYL v108 fun x110 l111 c112 =>
                                                                                      HD r109 fun v113 r114 => TYI .i64 v113 fun n115 =>
                                                                                        HD r114 fun v116 r117 => TYL v116 fun x118 l119 c120 =>
                                                                                          HD r117 fun v121 r122 => TYL v121 fun x123 l124 c125 =>
                                                                                            NL r122 <|
                                                                                              CALL Pg W F_clock_Goes [(.agg #[(.slice x110 l111 c112), (.int .i64 n115), (.slice x118 l119 c120), (.slice x123 l124 c125)]), (.int .i64 1)]
                                                                                                (fun v126 => TUP v126 fun q128 => HD q128 fun v129 r130 => AGG v129 fun q131 => HD q131 fun v132 r133 => TYI .i64 v132 fun n134 =>
                                                                                                  HD r133 fun v135 r136 => TYI .i64 v135 fun n137 =>
                                                                                                    NL r136 <|
                                                                                                      HD r130 fun v138 r139 => AGG v138 fun q140 => HD q140 fun v141 r142 => TYI .i64 v141 fun n143 =>
                                                                                                        HD r142 fun v144 r145 => TYI .i64 v144 fun n146 =>
                                                                                                          NL r145 <|
                                                                                                            HD r139 fun v147 r148 => TYI .i64 v147 fun n149 =>
                                                                                                              NL r148 <|
                                                                                                                NEWZ Pg 34 fun B150 =>
                                                                                                                  NEWZ Pg 34 fun B151 =>
                                                                                                                    WR (Addr.add ⟨B150, 0, none⟩ 0) (.int .i64 n134) <|
                                                                                                                      WR (Addr.add ⟨B150, 0, none⟩ 1) (.int .i64 n137) <|
                                                                                                                        WR (Addr.add ⟨B151, 0, none⟩ 0) (.int .i64 n143) <|
                                                                                                                          WR (Addr.add ⟨B151, 0, none⟩ 1) (.int .i64 n146) <|
                                                                                                                            CALL Pg W F_law07_sample [(.int .i64 140)]
                                                                                                                              (fun v152 => AGG v152 fun q154 => HD q154 fun v155 r156 => TYL v155 fun x157 l158 c159 =>
                                                                                                                                HD r156 fun v160 r161 => TYI .i64 v160 fun n162 =>
                                                                                                                                  HD r161 fun v163 r164 => TYL v163 fun x165 l166 c167 =>
                                                                                                                                    HD r164 fun v168 r169 => TYL v168 fun x170 l171 c172 =>
                                                                                                                                      NL r169 <|
                                                                                                                                        CALL Pg W F_clock_Wrong [(.agg #[(.slice x157 l158 c159), (.int .i64 n162), (.slice x165 l166 c167), (.slice x170 l171 c172)])]
                                                                                                                                          (fun v173 => TUP v173 fun q175 => HD q175 fun v176 r177 => TYI .i64 v176 fun n178 =>
                                                                                                                                            HD r177 fun v179 r180 => TYI .i64 v179 fun n181 =>
                                                                                                                                              NL r180 <|
                                                                                                                                                CALL Pg W F_law07_sample [(.int .i64 140)]
                                                                                                                                                  (fun v182 => AGG v182 fun q184 => HD q184 fun v185 r186 => TYL v185 fun x187 l188 c189 =>
                                                                                                                                                    HD r186 fun v190 r191 => TYI .i64 v190 fun n192 =>
                                                                                                                                                      HD r191 fun v193 r194 => TYL v193 fun x195 l196 c197 =>
                                                                                                                                                        HD r194 fun v198 r199 => TYL v198 fun x200 l201 c202 =>
                                                                                                                                                          NL r199 <|
                                                                                                                                                            CALL Pg W F_clock_Drop [(.agg #[(.slice x187 l188 c189), (.int .i64 n192), (.slice x195 l196 c197), (.slice x200 l201 c202)])]
                                                                                                                                                              (fun v203 => TUP v203 fun q205 => HD q205 fun v206 r207 => TYI .i64 v206 fun n208 =>
                                                                                                                                                                HD r207 fun v209 r210 => TYI .i64 v209 fun n211 =>
                                                                                                                                                                  NL r210 <|
                                                                                                                                                                    RDI .i64 (Addr.add ⟨B37, 0, none⟩ 0) fun n212 =>
                                                                                                                                                                      RDI .i64 (Addr.add ⟨B37, 0, none⟩ 1) fun n213 =>
                                                                                                                                                                        CALL Pg W F_law07_span [(.int .i64 60), (.int .i64 60)]
                                                                                                                                                                          (fun v214 => AGG v214 fun q216 => HD q216 fun v217 r218 => TYI .i64 v217 fun n219 =>
                                                                                                                                                                            HD r218 fun v220 r221 => TYI .i64 v220 fun n222 =>
                                                                                                                                                                              NL r221 <|
                                                                                                                                                                                ANDS (RDI .i64 (Addr.add ⟨B37, 0, none⟩ 0) fun n223 =>
                                                                                                                                                                                  RDI .i64 (Addr.add ⟨B37, 0, none⟩ 1) fun n224 =>
                                                                                                                                                                                    fun _ => ((.agg #[(.int .i64 n223), (.int .i64 n224)]) : Value) = (.agg #[(.int .i64 n212), (.int .i64 n213)])) <|
                                                                                                                                                                                  BR ((n212 == n219) && (n213 == n222))
                                                                                                                                                                                    (J_law07_alive_6 W R (n36 == 0) B74 n73 n101 n104 B150 B151 n149 n178 n181 n208 n211)
                                                                                                                                                                                    (J_law07_alive_6 W R false B74 n73 n101 n104 B150 B151 n149 n178 n181 n208 n211))
                                                                                                                                                                            (fun e215 => R (.panicked e215)))
                                                                                                                                                                (fun e204 => R (.panicked e204)))
                                                                                                                                                    (fun e183 => R (.panicked e183)))
                                                                                                                                            (fun e174 => R (.panicked e174)))
                                                                                                                                (fun e153 => R (.panicked e153)))
                                                                                                  (fun e127 => R (.panicked e127)))
                                                                                      (fun e106 => R (.panicked e106)))
                                                                              (fun e97 => R (.panicked e97)))
                                                                  (fun e76 => R (.panicked e76)))
                                                (fun e60 => R (.panicked e60)))
                                    (fun e39 => R (.panicked e39)))
                  (fun e23 => R (.panicked e23)))
      (fun e2 => R (.panicked e2))
theorem T_law07_alive_eq (W : World) (R : Ending → Hp → Prop) : vfun Pg W an_10 Try.f10 [] R = T_law07_alive W R := by kernel_rfl
theorem does_law07_alive (W : World) (R : Ending → Hp → Prop) (s : Hp) (h : T_law07_alive W R s) : Does Pg W F_law07_alive #[] s R :=
  does_of_vfun Pg W an_10 Try.func10 rfl (by kernel_rfl) (by rw [T_law07_alive_eq]; exact h)
end Go.Proofs.Ytknpmijgdfeliaa.G

/- Clock: the document's examples hold. -/
set_option linter.unusedSimpArgs false
set_option linter.unusedVariables false
set_option maxRecDepth 20000
namespace Go.Proofs.Ytknpmijgdfeliaa.G
open Go.V
section
variable {W : World} {K : VK} {E : List PanicEntry → Hp → Prop} {s : Hp}
theorem c_span {a b : Int} (h : ∀ s', Ext s s' → K (.agg #[.int .i64 a, .int .i64 b]) s') : CALL Pg W F_law07_span [.int .i64 a, .int .i64 b] K E s := by
  refine does_law07_span W a b _ s ?_
  unfold T_law07_span
  refine nw2 zc_34 rfl rfl fun s1 e1 z1 o1 o2 => ⟨_, o1.cell, ⟨_, o2.cell, ?_⟩⟩
  exact h s1 e1
theorem c_sample {l : Int} (h : ∀ s' x y z, Ext s s' → ClV s' (CL l) x y z → K (clkV (CL l) x y z 2 4 2) s') : CALL Pg W F_law07_sample [.int .i64 l] K E s := by
  refine does_law07_sample W l _ s ?_
  unfold T_law07_sample
  refine nz4 zc_26 fun s1 e1 z1 p1 p2 p3 p4 => ?_
  refine c_span fun s2 e2 => ?_
  try simp only [TUP_mk, AGG_mk, HD_mk, NL_mk, TYI_mk, TYB_mk, TYP_mk, TYL_mk, TYS_mk, TYM_mk, SO_mk, NX_mk, endK_mk, endK_mk', add_0]
  refine c_span fun s3 e3 => ?_
  try simp only [TUP_mk, AGG_mk, HD_mk, NL_mk, TYI_mk, TYB_mk, TYP_mk, TYL_mk, TYS_mk, TYM_mk, SO_mk, NX_mk, endK_mk, endK_mk', add_0]
  refine c_span fun s4 e4 => ?_
  try simp only [TUP_mk, AGG_mk, HD_mk, NL_mk, TYI_mk, TYB_mk, TYP_mk, TYL_mk, TYS_mk, TYM_mk, SO_mk, NX_mk, endK_mk, endK_mk', add_0]
  refine c_span fun s5 e5 => ?_
  try simp only [TUP_mk, AGG_mk, HD_mk, NL_mk, TYI_mk, TYB_mk, TYP_mk, TYL_mk, TYS_mk, TYM_mk, SO_mk, NX_mk, endK_mk, endK_mk', add_0]
  refine NEW_rule fun s6 e6 z6 n6 _ => ?_
  refine NEW_rule fun s7 e7 z7 n7 _ => ?_
  refine c_span fun s8 e8 => ?_
  try simp only [TUP_mk, AGG_mk, HD_mk, NL_mk, TYI_mk, TYB_mk, TYP_mk, TYL_mk, TYS_mk, TYM_mk, SO_mk, NX_mk, endK_mk, endK_mk', add_0]
  refine c_span fun s9 e9 => ?_
  try simp only [TUP_mk, AGG_mk, HD_mk, NL_mk, TYI_mk, TYB_mk, TYP_mk, TYL_mk, TYS_mk, TYM_mk, SO_mk, NX_mk, endK_mk, endK_mk', add_0]
  refine NEW_rule fun t et zt nt _ => ?_
  have e15 := ((e2.trans e3).trans e4).trans e5
  have e1t := (((e15.trans e6).trans e7).trans (e8.trans e9)).trans et
  have hlt : s.size < s1.size := by omega
  have h15 : s1.size ≤ s5.size := e15.1
  have h6 : s5.size < s6.size := by omega
  have h9 : s7.size ≤ s9.size := (e8.trans e9).1
  show wrN [_, _, _, _] ⟨s.size, 0, none⟩ 0 _ t
  refine wrN_rule _ _ 0 _ t (fun i hi => ?_) ?_ ?_
  · match i, hi with
    | 0, _ => exact ⟨_, e1t.own p1⟩
    | 1, _ => exact ⟨_, e1t.own p2⟩
    | 2, _ => exact ⟨_, e1t.own p3⟩
    | 3, _ => exact ⟨_, e1t.own p4⟩
  · intro w hw
    simp at hw
    rcases hw with rfl | rfl | rfl | rfl <;> rfl
  · intro u k zu ho _
    have q0 := ho 0 (by simp)
    have q1 := ho 1 (by simp)
    have q2 := ho 2 (by simp)
    have q3 := ho 3 (by simp)
    refine ⟨_, _, _, q0.cell, ⟨_, q1.cell, ⟨_, _, _, q2.cell, ⟨_, _, _, q3.cell, ?_⟩⟩⟩⟩
    refine h u (some ⟨s5.size, 0, none⟩) (some ⟨s6.size, 0, none⟩) (some ⟨s9.size, 0, none⟩) (ext_kp (e1.trans e1t) (Nat.le_refl _) k) ⟨?_, ?_, ?_⟩
    · intro i hi
      have hi' : i < 2 := hi
      have f := (e7.trans (e8.trans e9)).trans et
      have g : ∀ j v, _ → Own u ⟨s5.size, j, none⟩ v := fun j v hv => k.own (by show ¬ s5.size = s.size; omega) (f.own (n6 j v hv))
      refine ⟨_, rfl, ?_⟩
      match i, hi' with
      | 0, _ => exact ⟨(g 0 _ rfl).cell, (g 1 _ rfl).cell, (g 2 _ rfl).cell, (g 3 _ rfl).cell⟩
      | 1, _ => exact ⟨(g 4 _ rfl).cell, (g 5 _ rfl).cell, (g 6 _ rfl).cell, (g 7 _ rfl).cell⟩
    · intro i hi
      have hi' : i < 4 := hi
      have f := (e8.trans e9).trans et
      have g : ∀ j v, _ → Own u ⟨s6.size, j, none⟩ v := fun j v hv => k.own (by show ¬ s6.size = s.size; omega) (f.own (n7 j v hv))
      refine ⟨_, rfl, ?_⟩
      match i, hi' with
      | 0, _ => exact ⟨(g 0 _ rfl).cell, (g 1 _ rfl).cell, (g 2 _ rfl).cell⟩
      | 1, _ => exact ⟨(g 3 _ rfl).cell, (g 4 _ rfl).cell, (g 5 _ rfl).cell⟩
      | 2, _ => exact ⟨(g 6 _ rfl).cell, (g 7 _ rfl).cell, (g 8 _ rfl).cell⟩
      | 3, _ => exact ⟨(g 9 _ rfl).cell, (g 10 _ rfl).cell, (g 11 _ rfl).cell⟩
    · intro i hi
      have hi' : i < 2 := hi
      have g : ∀ j v, _ → Own u ⟨s9.size, j, none⟩ v := fun j v hv => k.own (by show ¬ s9.size = s.size; omega) (nt j v hv)
      refine ⟨_, rfl, ?_⟩
      match i, hi' with
      | 0, _ => exact ⟨(g 0 _ rfl).cell, (g 1 _ rfl).cell, (g 2 _ rfl).cell, (g 3 _ rfl).cell⟩
      | 1, _ => exact ⟨(g 4 _ rfl).cell, (g 5 _ rfl).cell, (g 6 _ rfl).cell, (g 7 _ rfl).cell⟩
theorem c_alive (h : ∀ s', Ext s s' → K (.bool true) s') : CALL Pg W F_law07_alive [] K E s := by
  refine does_law07_alive W _ s ?_
  unfold T_law07_alive
  refine c_sample fun s1 xa ya za e1 ca => ?_
  unfold clkV
  try simp only [TUP_mk, AGG_mk, HD_mk, NL_mk, TYI_mk, TYB_mk, TYP_mk, TYL_mk, TYS_mk, TYM_mk, SO_mk, NX_mk, endK_mk, endK_mk', add_0]
  refine c_When (c := CL 136) ca fun s2 lo1 hi1 er1 e2 q1 => ?_
  obtain ⟨rfl, rfl, rfl⟩ := cl_when1 q1
  try simp only [TUP_mk, AGG_mk, HD_mk, NL_mk, TYI_mk, TYB_mk, TYP_mk, TYL_mk, TYS_mk, TYM_mk, SO_mk, NX_mk, endK_mk, endK_mk', add_0]
  refine nw2 zc_34 rfl rfl fun s3 e3 z3 a1 a2 => ?_
  refine c_sample fun s4 xb yb zb e4 cb => ?_
  unfold clkV
  try simp only [TUP_mk, AGG_mk, HD_mk, NL_mk, TYI_mk, TYB_mk, TYP_mk, TYL_mk, TYS_mk, TYM_mk, SO_mk, NX_mk, endK_mk, endK_mk', add_0]
  refine c_Lasted (c := CL 136) cb fun s5 lo2 hi2 er2 e5 q2 => ?_
  obtain ⟨rfl, rfl, rfl⟩ := cl_lasted21 q2
  try simp only [TUP_mk, AGG_mk, HD_mk, NL_mk, TYI_mk, TYB_mk, TYP_mk, TYL_mk, TYS_mk, TYM_mk, SO_mk, NX_mk, endK_mk, endK_mk', add_0]
  refine nw2 zc_34 rfl rfl fun s6 e6 z6 b1 b2 => ?_
  refine c_sample fun s7 xc yc zc e7 cc => ?_
  unfold clkV
  try simp only [TUP_mk, AGG_mk, HD_mk, NL_mk, TYI_mk, TYB_mk, TYP_mk, TYL_mk, TYS_mk, TYM_mk, SO_mk, NX_mk, endK_mk, endK_mk', add_0]
  refine c_First (c := CL 136) cc fun s8 lo3 hi3 er3 e8 q3 => ?_
  obtain ⟨f3, rfl⟩ := cl_first q3
  rw [f3]
  try simp only [TUP_mk, AGG_mk, HD_mk, NL_mk, TYI_mk, TYB_mk, TYP_mk, TYL_mk, TYS_mk, TYM_mk, SO_mk, NX_mk, endK_mk, endK_mk', add_0]
  refine c_sample fun s9 xd yd zd e9 cd => ?_
  unfold clkV
  try simp only [TUP_mk, AGG_mk, HD_mk, NL_mk, TYI_mk, TYB_mk, TYP_mk, TYL_mk, TYS_mk, TYM_mk, SO_mk, NX_mk, endK_mk, endK_mk', add_0]
  refine c_Goes (c := CL 136) cd (by decide) fun s10 zl zh rl rh er4 e10 q4 q5 => ?_
  obtain ⟨rfl, rfl, rfl⟩ := cl_zero q4
  obtain ⟨rfl, rfl, _⟩ := cl_rate q5
  try simp only [TUP_mk, AGG_mk, HD_mk, NL_mk, TYI_mk, TYB_mk, TYP_mk, TYL_mk, TYS_mk, TYM_mk, SO_mk, NX_mk, endK_mk, endK_mk', add_0]
  refine nz2 zc_34 fun s11 e11 z11 d1 d2 => ?_
  refine nz2 zc_34 fun s12 e12 z12 g1 g2 => ?_
  refine wrB (e12.own d1) (e12.own d2) rfl rfl fun s13 k13 z13 d1' d2' => ?_
  have n1 : ¬ s11.size = s10.size := by omega
  refine wrB (k13.own n1 g1) (k13.own n1 g2) rfl rfl fun s14 k14 z14 g1' g2' => ?_
  have n2 : ¬ s10.size = s11.size := by omega
  have d1'' := k14.own n2 d1'
  have d2'' := k14.own n2 d2'
  have e1014 : Ext s10 s14 := kp_nil (kp_nil (e11.trans e12) (fun b hb => by have : b = s10.size := hb; omega) k13) (fun b hb => by have : b = s11.size := hb; omega) k14
  refine c_sample fun s15 xe ye ze e15 ce => ?_
  unfold clkV
  try simp only [TUP_mk, AGG_mk, HD_mk, NL_mk, TYI_mk, TYB_mk, TYP_mk, TYL_mk, TYS_mk, TYM_mk, SO_mk, NX_mk, endK_mk, endK_mk', add_0]
  refine c_Wrong (c := CL 140) ce fun s16 w er5 e16 q6 => ?_
  obtain ⟨rfl, rfl⟩ := cl_wrong q6
  try simp only [TUP_mk, AGG_mk, HD_mk, NL_mk, TYI_mk, TYB_mk, TYP_mk, TYL_mk, TYS_mk, TYM_mk, SO_mk, NX_mk, endK_mk, endK_mk', add_0]
  refine c_sample fun s17 xf yf zf e17 cf => ?_
  unfold clkV
  try simp only [TUP_mk, AGG_mk, HD_mk, NL_mk, TYI_mk, TYB_mk, TYP_mk, TYL_mk, TYS_mk, TYM_mk, SO_mk, NX_mk, endK_mk, endK_mk', add_0]
  refine c_Drop (c := CL 140) cf fun s18 d er6 e18 q7 => ?_
  obtain ⟨rfl, rfl⟩ := cl_drop q7
  try simp only [TUP_mk, AGG_mk, HD_mk, NL_mk, TYI_mk, TYB_mk, TYP_mk, TYL_mk, TYS_mk, TYM_mk, SO_mk, NX_mk, endK_mk, endK_mk', add_0]
  have e1418 := ((e15.trans e16).trans e17).trans e18
  have e610 := ((e7.trans e8).trans e9).trans e10
  have e36 := (e4.trans e5).trans e6
  have e318 := ((e36.trans e610).trans e1014).trans e1418
  have e618 := (e610.trans e1014).trans e1418
  have ea : Ext s s18 := ((e1.trans e2).trans e3).trans e318
  refine ⟨_, (e318.own a1).cell, ⟨_, (e318.own a2).cell, ?_⟩⟩
  refine c_span fun s19 e19 => ?_
  try simp only [TUP_mk, AGG_mk, HD_mk, NL_mk, TYI_mk, TYB_mk, TYP_mk, TYL_mk, TYS_mk, TYM_mk, SO_mk, NX_mk, endK_mk, endK_mk', add_0]
  refine ANDS_i ⟨_, ((e318.trans e19).own a1).cell, ⟨_, ((e318.trans e19).own a2).cell, rfl⟩⟩ ?_
  refine BR_tt rfl ?_
  unfold J_law07_alive_6
  refine BR_tt rfl ⟨_, ((e618.trans e19).own b1).cell, ⟨_, ((e618.trans e19).own b2).cell, ?_⟩⟩
  refine c_span fun s20 e20 => ?_
  try simp only [TUP_mk, AGG_mk, HD_mk, NL_mk, TYI_mk, TYB_mk, TYP_mk, TYL_mk, TYS_mk, TYM_mk, SO_mk, NX_mk, endK_mk, endK_mk', add_0]
  have e1920 := e19.trans e20
  refine ANDS_i ⟨_, ((e618.trans e1920).own b1).cell, ⟨_, ((e618.trans e1920).own b2).cell, rfl⟩⟩ ?_
  unfold J_law07_alive_5
  refine BR_tt rfl ?_
  unfold J_law07_alive_4
  refine BR_tt rfl ?_
  unfold J_law07_alive_3
  refine BR_tt rfl ?_
  unfold J_law07_alive_2
  refine BR_tt rfl ⟨_, ((e1418.trans e1920).own d1'').cell, ⟨_, ((e1418.trans e1920).own d2'').cell, ?_⟩⟩
  refine c_span fun s21 e21 => ?_
  try simp only [TUP_mk, AGG_mk, HD_mk, NL_mk, TYI_mk, TYB_mk, TYP_mk, TYL_mk, TYS_mk, TYM_mk, SO_mk, NX_mk, endK_mk, endK_mk', add_0]
  have e1921 := e1920.trans e21
  refine ANDS_i ⟨_, ((e1418.trans e1921).own d1'').cell, ⟨_, ((e1418.trans e1921).own d2'').cell, rfl⟩⟩ ?_
  unfold J_law07_alive_1
  refine BR_tt rfl ⟨_, ((e1418.trans e1921).own g1').cell, ⟨_, ((e1418.trans e1921).own g2').cell, ?_⟩⟩
  refine c_span fun s22 e22 => ?_
  try simp only [TUP_mk, AGG_mk, HD_mk, NL_mk, TYI_mk, TYB_mk, TYP_mk, TYL_mk, TYS_mk, TYM_mk, SO_mk, NX_mk, endK_mk, endK_mk', add_0]
  have e1922 := e1921.trans e22
  refine ANDS_i ⟨_, ((e1418.trans e1922).own g1').cell, ⟨_, ((e1418.trans e1922).own g2').cell, rfl⟩⟩ ?_
  unfold J_law07_alive_0
  refine BR_tt rfl (BR_tt rfl (BR_tt rfl (BR_tt rfl (BR_tt rfl ?_))))
  exact h s22 (ea.trans e1922)
end
end Go.Proofs.Ytknpmijgdfeliaa.G

/- More of the functions' shallow texts, by gen.py. -/
set_option linter.unusedVariables false
set_option maxRecDepth 100000
namespace Go.Proofs.Ytknpmijgdfeliaa.G
open Go.V
def an_4 : Nat → Ann := fun b => match b with
  | _ => {}
abbrev rv_4 : List ResultVar := [.tmp 0]
abbrev rs_4 : List Nat := [104, 0]
def J_law07_ClockNames_0 (W : World) (R : Ending → Hp → Prop) (b332 : Bool) (n140 : Int) (n177 : Int) (n208 : Int) (n235 : Int) (n238 : Int) : Hp → Prop :=
  BR b332
    (BR (n140 == 0)
      (BR (n177 == 10)
        (BR (n208 == 4)
          (BR (n235 == 0)
            (R (.returned (.bool (n238 == 0))))
            (R (.returned (.bool false))))
          (R (.returned (.bool false))))
        (R (.returned (.bool false))))
      (R (.returned (.bool false))))
    (R (.returned (.bool false)))
def J_law07_ClockNames_1 (W : World) (R : Ending → Hp → Prop) (b307 : Bool) (B141 : Nat) (n140 : Int) (n177 : Int) (n208 : Int) (n235 : Int) (n238 : Int) : Hp → Prop :=
  BR b307
    (RDI .i64 (Addr.add ⟨B141, 0, none⟩ 0) fun n308 =>
      RDI .i64 (Addr.add ⟨B141, 0, none⟩ 1) fun n309 =>
        CALL Pg W F_law07_span [(.int .i64 16), (.int .i64 16)]
          (fun v310 => AGG v310 fun q312 => HD q312 fun v313 r314 => TYI .i64 v313 fun n315 =>
            HD r314 fun v316 r317 => TYI .i64 v316 fun n318 =>
              NL r317 <|
                ANDS (RDI .i64 (Addr.add ⟨B141, 0, none⟩ 0) fun n321 =>
                  RDI .i64 (Addr.add ⟨B141, 0, none⟩ 1) fun n322 =>
                    fun _ => ((.agg #[(.int .i64 n321), (.int .i64 n322)]) : Value) = (.agg #[(.int .i64 n308), (.int .i64 n309)])) <|
                  J_law07_ClockNames_0 W R ((n308 == n315) && (n309 == n318)) n140 n177 n208 n235 n238)
            (fun e311 => R (.panicked e311)))
    (J_law07_ClockNames_0 W R false n140 n177 n208 n235 n238)
def J_law07_ClockNames_2 (W : World) (R : Ending → Hp → Prop) (b300 : Bool) (n104 : Int) (B141 : Nat) (n140 : Int) (n177 : Int) (n208 : Int) (n235 : Int) (n238 : Int) : Hp → Prop :=
  BR b300
    (J_law07_ClockNames_1 W R (n104 == 0) B141 n140 n177 n208 n235 n238)
    (J_law07_ClockNames_1 W R false B141 n140 n177 n208 n235 n238)
def J_law07_ClockNames_3 (W : World) (R : Ending → Hp → Prop) (b293 : Bool) (n101 : Int) (n104 : Int) (B141 : Nat) (n140 : Int) (n177 : Int) (n208 : Int) (n235 : Int) (n238 : Int) : Hp → Prop :=
  BR b293
    (J_law07_ClockNames_2 W R (n101 == 0) n104 B141 n140 n177 n208 n235 n238)
    (J_law07_ClockNames_2 W R false n104 B141 n140 n177 n208 n235 n238)
def J_law07_ClockNames_4 (W : World) (R : Ending → Hp → Prop) (b286 : Bool) (n73 : Int) (n101 : Int) (n104 : Int) (B141 : Nat) (n140 : Int) (n177 : Int) (n208 : Int) (n235 : Int) (n238 : Int) : Hp → Prop :=
  BR b286
    (J_law07_ClockNames_3 W R (n73 == 0) n101 n104 B141 n140 n177 n208 n235 n238)
    (J_law07_ClockNames_3 W R false n101 n104 B141 n140 n177 n208 n235 n238)
def J_law07_ClockNames_5 (W : World) (R : Ending → Hp → Prop) (b264 : Bool) (B74 : Nat) (n73 : Int) (n101 : Int) (n104 : Int) (B141 : Nat) (n140 : Int) (n177 : Int) (n208 : Int) (n235 : Int) (n238 : Int) : Hp → Prop :=
  BR b264
    (RDI .i64 (Addr.add ⟨B74, 0, none⟩ 0) fun n265 =>
      RDI .i64 (Addr.add ⟨B74, 0, none⟩ 1) fun n266 =>
        CALL Pg W F_law07_span [(.int .i64 50), (.int .i64 50)]
          (fun v267 => AGG v267 fun q269 => HD q269 fun v270 r271 => TYI .i64 v270 fun n272 =>
            HD r271 fun v273 r274 => TYI .i64 v273 fun n275 =>
              NL r274 <|
                ANDS (RDI .i64 (Addr.add ⟨B74, 0, none⟩ 0) fun n278 =>
                  RDI .i64 (Addr.add ⟨B74, 0, none⟩ 1) fun n279 =>
                    fun _ => ((.agg #[(.int .i64 n278), (.int .i64 n279)]) : Value) = (.agg #[(.int .i64 n265), (.int .i64 n266)])) <|
                  J_law07_ClockNames_4 W R ((n265 == n272) && (n266 == n275)) n73 n101 n104 B141 n140 n177 n208 n235 n238)
            (fun e268 => R (.panicked e268)))
    (J_law07_ClockNames_4 W R false n73 n101 n104 B141 n140 n177 n208 n235 n238)
def J_law07_ClockNames_6 (W : World) (R : Ending → Hp → Prop) (b260 : Bool) (n36 : Int) (B74 : Nat) (n73 : Int) (n101 : Int) (n104 : Int) (B141 : Nat) (n140 : Int) (n177 : Int) (n208 : Int) (n235 : Int) (n238 : Int) : Hp → Prop :=
  BR b260
    (J_law07_ClockNames_5 W R (n36 == 0) B74 n73 n101 n104 B141 n140 n177 n208 n235 n238)
    (J_law07_ClockNames_5 W R false B74 n73 n101 n104 B141 n140 n177 n208 n235 n238)
def T_law07_ClockNames (W : World) (R : Ending → Hp → Prop) : Hp → Prop :=
  CALL Pg W F_law07_sample [(.int .i64 136)]
    (fun v1 => AGG v1 fun q3 => HD q3 fun v4 r5 => TYL v4 fun x6 l7 c8 =>
      HD r5 fun v9 r10 => TYI .i64 v9 fun n11 =>
        HD r10 fun v12 r13 => TYL v12 fun x14 l15 c16 =>
          HD r13 fun v17 r18 => TYL v17 fun x19 l20 c21 =>
            NL r18 <|
              CALL Pg W F_clock_When [(.agg #[(.slice x6 l7 c8), (.int .i64 n11), (.slice x14 l15 c16), (.slice x19 l20 c21)]), (.int .i64 2)]
                (fun v22 => TUP v22 fun q24 => HD q24 fun v25 r26 => AGG v25 fun q27 => HD q27 fun v28 r29 => TYI .i64 v28 fun n30 =>
                  HD r29 fun v31 r32 => TYI .i64 v31 fun n33 =>
                    NL r32 <|
                      HD r26 fun v34 r35 => TYI .i64 v34 fun n36 =>
                        NL r35 <|
                          NEWZ Pg 34 fun B37 =>
                            WR (Addr.add ⟨B37, 0, none⟩ 0) (.int .i64 n30) <|
                              WR (Addr.add ⟨B37, 0, none⟩ 1) (.int .i64 n33) <|
                                CALL Pg W F_law07_sample [(.int .i64 136)]
                                  (fun v38 => AGG v38 fun q40 => HD q40 fun v41 r42 => TYL v41 fun x43 l44 c45 =>
                                    HD r42 fun v46 r47 => TYI .i64 v46 fun n48 =>
                                      HD r47 fun v49 r50 => TYL v49 fun x51 l52 c53 =>
                                        HD r50 fun v54 r55 => TYL v54 fun x56 l57 c58 =>
                                          NL r55 <|
                                            CALL Pg W F_clock_Lasted [(.agg #[(.slice x43 l44 c45), (.int .i64 n48), (.slice x51 l52 c53), (.slice x56 l57 c58)]), (.int .i64 0), (.int .i64 1)]
                                              (fun v59 => TUP v59 fun q61 => HD q61 fun v62 r63 => AGG v62 fun q64 => HD q64 fun v65 r66 => TYI .i64 v65 fun n67 =>
                                                HD r66 fun v68 r69 => TYI .i64 v68 fun n70 =>
                                                  NL r69 <|
                                                    HD r63 fun v71 r72 => TYI .i64 v71 fun n73 =>
                                                      NL r72 <|
                                                        NEWZ Pg 34 fun B74 =>
                                                          WR (Addr.add ⟨B74, 0, none⟩ 0) (.int .i64 n67) <|
                                                            WR (Addr.add ⟨B74, 0, none⟩ 1) (.int .i64 n70) <|
                                                              CALL Pg W F_law07_sample [(.int .i64 136)]
                                                                (fun v75 => AGG v75 fun q77 => HD q77 fun v78 r79 => TYL v78 fun x80 l81 c82 =>
                                                                  HD r79 fun v83 r84 => TYI .i64 v83 fun n85 =>
                                                                    HD r84 fun v86 r87 => TYL v86 fun x88 l89 c90 =>
                                                                      HD r87 fun v91 r92 => TYL v91 fun x93 l94 c95 =>
                                                                        NL r92 <|
                                                                          CALL Pg W F_clock_First [(.agg #[(.slice x80 l81 c82), (.int .i64 n85), (.slice x88 l89 c90), (.slice x93 l94 c95)]), (.int .i64 1), (.int .i64 0)]
                                                                            (fun v96 => TUP v96 fun q98 => HD q98 fun v99 r100 => TYI .i64 v99 fun n101 =>
                                                                              HD r100 fun v102 r103 => TYI .i64 v102 fun n104 =>
                                                                                NL r103 <|
                                                                                  CALL Pg W F_law07_sample [(.int .i64 136)]
                                                                                    (fun v105 => AGG v105 fun q107 => HD q107 fun v108 r109 => TYL v108 fun x110 l111 c112 =>
                                                                                      HD r109 fun v113 r114 => TYI .i64 v113 fun n115 =>
                                                                                        HD r114 fun v116 r117 => TYL v116 fun x118 l119 c120 =>
                                                                                          HD r117 fun v121 r122 => TYL v121 fun x123 l124 c125 =>
                                                                                            NL r122 <|
                                                                                              CALL Pg W F_clock_Shows [(.agg #[(.slice x110 l111 c112), (.int .i64 n115), (.slice x118 l119 c120), (.slice x123 l124 c125)]), (.int .i64 1), (.int .i64 0)]
                                                                                                (fun v126 => TUP v126 fun q128 => HD q128 fun v129 r130 => AGG v129 fun q131 => HD q131 fun v132 r133 => TYI .i64 v132 fun n134 =>
                                                                                                  HD r133 fun v135 r136 => TYI .i64 v135 fun n137 =>
                                                                                                    NL r136 <|
                                                                                                      HD r130 fun v138 r139 => TYI .i64 v138 fun n140 =>
                                                                                                        NL r139 <|
                                                                                                          NEWZ Pg 34 fun B141 =>
                                                                                                            WR (Addr.add ⟨B141, 0, none⟩ 0) (.int .i64 n134) <|
                                                                                                              WR (Addr.add ⟨B141, 0, none⟩ 1) (.int .i64 n137) <|
                                                                                                                CALL Pg W F_law07_sample [(.int .i64 140)]
                                                                                                                  (fun v142 => AGG v142 fun q144 => HD q144 fun v145 r146 => TYL v145 fun x147 l148 c149 =>
                                                                                                                    HD r146 fun v150 r151 => TYI .i64 v150 fun n152 =>
                                                                                                                      HD r151 fun v153 r154 => TYL v153 fun x155 l156 c157 =>
                                                                                                                        HD r154 fun v158 r159 => TYL v158 fun x160 l161 c162 =>
                                                                                                                          NL r159 <|
                                                                                                                            CALL Pg W F_clock_When [(.agg #[(.slice x147 l148 c149), (.int .i64 n152), (.slice x155 l156 c157), (.slice x160 l161 c162)]), (.int .i64 0)]
                                                                                                                              (fun v163 => TUP v163 fun q165 => HD q165 fun v166 r167 => AGG v166 fun q168 => HD q168 fun v169 r170 => TYI .i64 v169 fun n171 =>
                                                                                                                                HD r170 fun v172 r173 => TYI .i64 v172 fun n174 =>
                                                                                                                                  NL r173 <|
                                                                                                                                    HD r167 fun v175 r176 => TYI .i64 v175 fun n177 =>
                                                                                                                                      NL r176 <|
                                                                                                                                        NEWZ Pg 34 fun B178 =>
                                                                                                                                          WR (Addr.add ⟨B178, 0, none⟩ 0) (.int .i64 n171) <|
                                                                                                                                            WR (Addr.add ⟨B178, 0, none⟩ 1) (.int .i64 n174) <|
                                                                                                                                              CALL Pg W F_law07_sample [(.int .i64 136)]
                                                                                                                                                (fun v179 => AGG v179 fun q181 => HD q181 fun v182 r183 => TYL v182 fun x184 l185 c186 =>
                                                                                                                                                  HD r183 fun v187 r188 => TYI .i64 v187 fun n189 =>
                                                                                                                                                    HD r188 fun v190 r191 => TYL v190 fun x192 l193 c194 =>
                                                                                                                                                      HD r191 fun v195 r196 => TYL v195 fun x197 l198 c199 =>
                                                                                                                                                        NL r196 <|
                                                                                                                                                          CALL Pg W F_clock_Wrong [(.agg #[(.slice x184 l185 c186), (.int .i64 n189), (.slice x192 l193 c194), (.slice x197 l198 c199)])]
                                                                                                                                                            (fun v200 => TUP v200 fun q202 => HD q202 fun v203 r204 => TYI .i64 v203 fun n205 =>
                                                                                                                                                              HD r204 fun v206 r207 => TYI .i64 v206 fun n208 =>
                                                                                                                                                                NL r207 <|
                                                                                                                                                                  CALL Pg W F_law07_sample [(.int .i64 136)]
                                                                                                                                                                    (fun v209 => AGG v209 fun q211 => HD q211 fun v212 r213 => TYL v212 fun x214 l215 c216 =>
                                                                                                                                                                      HD r213 fun v217 r218 => TYI .i64 v217 fun n219 =>
                                                                                                                                                                        HD r218 fun v220 r221 => TYL v220 fun x222 l223 c224 =>
                                                                                                                                                                          HD r221 fun v225 r226 => TYL v225 fun x227 l228 c229 =>
                                                                                                                                                                            NL r226 <|
                                                                                                                                                                              CALL Pg W F_clock_Drop [(.agg #[(.slice x214 l215 c216), (.int .i64 n219), (.slice x222 l223 c224), (.slice x227 l228 c229)])]
                                                                                                                                                                                (fun v230 => TUP v230 fun q232 => HD q232 fun v233 r234 => TYI .i64 v233 fun n235 =>
                                                                                                                                                                                  HD r234 fun v236 r237 => TYI .i64 v236 fun n238 =>
                                                                                                                                                                                    NL r237 <|
                                                                                                                                                                                      CALL Pg W F_law07_alive []
                                                                                                                                                                                        (fun v239 => TYB v239 fun b241 =>
                                                                                                                                                                                          BR b241
                                                                                                                                                                                            (RDI .i64 (Addr.add ⟨B37, 0, none⟩ 0) fun n242 =>
                                                                                                                                                                                              RDI .i64 (Addr.add ⟨B37, 0, none⟩ 1) fun n243 =>
                                                                                                                                                                                                CALL Pg W F_law07_span [(.int .i64 130), (.int .i64 130)]
                                                                                                                                                                                                  (fun v244 => AGG v244 fun q246 => HD q246 fun v247 r248 => TYI .i64 v247 fun n249 =>
                                                                                                                                                                                                    HD r248 fun v250 r251 => TYI .i64 v250 fun n252 =>
                                                                                                                                                                                                      NL r251 <|
                                                                                                                                                                                                        ANDS (RDI .i64 (Addr.add ⟨B37, 0, none⟩ 0) fun n255 =>
                                                                                                                                                                                                          RDI .i64 (Addr.add ⟨B37, 0, none⟩ 1) fun n256 =>
                                                                                                                                                                                                            fun _ => ((.agg #[(.int .i64 n255), (.int .i64 n256)]) : Value) = (.agg #[(.int .i64 n242), (.int .i64 n243)])) <|
                                                                                                                                                                                                          J_law07_ClockNames_6 W R ((n242 == n249) && (n243 == n252)) n36 B74 n73 n101 n104 B141 n140 n177 n208 n235 n238)
                                                                                                                                                                                                    (fun e245 => R (.panicked e245)))
                                                                                                                                                                                            (J_law07_ClockNames_6 W R false n36 B74 n73 n101 n104 B141 n140 n177 n208 n235 n238))
                                                                                                                                                                                          (fun e240 => R (.panicked e240)))
                                                                                                                                                                                  (fun e231 => R (.panicked e231)))
                                                                                                                                                                      (fun e210 => R (.panicked e210)))
                                                                                                                                                              (fun e201 => R (.panicked e201)))
                                                                                                                                                  (fun e180 => R (.panicked e180)))
                                                                                                                                (fun e164 => R (.panicked e164)))
                                                                                                                    (fun e143 => R (.panicked e143)))
                                                                                                  (fun e127 => R (.panicked e127)))
                                                                                      (fun e106 => R (.panicked e106)))
                                                                              (fun e97 => R (.panicked e97)))
                                                                  (fun e76 => R (.panicked e76)))
                                                (fun e60 => R (.panicked e60)))
                                    (fun e39 => R (.panicked e39)))
                  (fun e23 => R (.panicked e23)))
      (fun e2 => R (.panicked e2))
theorem T_law07_ClockNames_eq (W : World) (R : Ending → Hp → Prop) : vfun Pg W an_4 Try.f4 [] R = T_law07_ClockNames W R := by kernel_rfl
theorem does_law07_ClockNames (W : World) (R : Ending → Hp → Prop) (s : Hp) (h : T_law07_ClockNames W R s) : Does Pg W F_law07_ClockNames #[] s R :=
  does_of_vfun Pg W an_4 Try.func4 rfl (by kernel_rfl) (by rw [T_law07_ClockNames_eq]; exact h)
end Go.Proofs.Ytknpmijgdfeliaa.G

/- Clock: ClockNames. -/
set_option linter.unusedSimpArgs false
set_option linter.unusedVariables false
set_option maxRecDepth 20000
namespace Go.Proofs.Ytknpmijgdfeliaa.G
open Go.V
section
variable {W : World} {K : VK} {E : List PanicEntry → Hp → Prop} {s : Hp}
theorem w_ClockNames (h : ∀ s', Ext s s' → K (.bool true) s') : CALL Pg W F_law07_ClockNames [] K E s := by
  refine does_law07_ClockNames W _ s ?_
  unfold T_law07_ClockNames
  refine c_sample fun s1 xa ya za e1 ca => ?_
  unfold clkV
  try simp only [TUP_mk, AGG_mk, HD_mk, NL_mk, TYI_mk, TYB_mk, TYP_mk, TYL_mk, TYS_mk, TYM_mk, SO_mk, NX_mk, endK_mk, endK_mk', add_0]
  refine c_When (c := CL 136) ca fun s2 lo1 hi1 er1 e2 q1 => ?_
  obtain ⟨rfl, rfl, rfl⟩ := cl_when2 q1
  try simp only [TUP_mk, AGG_mk, HD_mk, NL_mk, TYI_mk, TYB_mk, TYP_mk, TYL_mk, TYS_mk, TYM_mk, SO_mk, NX_mk, endK_mk, endK_mk', add_0]
  refine nw2 zc_34 rfl rfl fun s3 e3 z3 a1 a2 => ?_
  refine c_sample fun s4 xb yb zb e4 cb => ?_
  unfold clkV
  try simp only [TUP_mk, AGG_mk, HD_mk, NL_mk, TYI_mk, TYB_mk, TYP_mk, TYL_mk, TYS_mk, TYM_mk, SO_mk, NX_mk, endK_mk, endK_mk', add_0]
  refine c_Lasted (c := CL 136) cb fun s5 lo2 hi2 er2 e5 q2 => ?_
  obtain ⟨rfl, rfl, rfl⟩ := cl_lasted01 q2
  try simp only [TUP_mk, AGG_mk, HD_mk, NL_mk, TYI_mk, TYB_mk, TYP_mk, TYL_mk, TYS_mk, TYM_mk, SO_mk, NX_mk, endK_mk, endK_mk', add_0]
  refine nw2 zc_34 rfl rfl fun s6 e6 z6 b1 b2 => ?_
  refine c_sample fun s7 xc yc zc e7 cc => ?_
  unfold clkV
  try simp only [TUP_mk, AGG_mk, HD_mk, NL_mk, TYI_mk, TYB_mk, TYP_mk, TYL_mk, TYS_mk, TYM_mk, SO_mk, NX_mk, endK_mk, endK_mk', add_0]
  refine c_First (c := CL 136) cc fun s8 lo3 hi3 er3 e8 q3 => ?_
  obtain ⟨f3, rfl⟩ := cl_first' q3
  rw [f3]
  try simp only [TUP_mk, AGG_mk, HD_mk, NL_mk, TYI_mk, TYB_mk, TYP_mk, TYL_mk, TYS_mk, TYM_mk, SO_mk, NX_mk, endK_mk, endK_mk', add_0]
  refine c_sample fun s9 xd yd zd e9 cd => ?_
  unfold clkV
  try simp only [TUP_mk, AGG_mk, HD_mk, NL_mk, TYI_mk, TYB_mk, TYP_mk, TYL_mk, TYS_mk, TYM_mk, SO_mk, NX_mk, endK_mk, endK_mk', add_0]
  refine c_Shows (c := CL 136) cd (by decide) fun s10 lo4 hi4 er4 e10 q4 => ?_
  obtain ⟨rfl, rfl, rfl⟩ := cl_shows q4
  try simp only [TUP_mk, AGG_mk, HD_mk, NL_mk, TYI_mk, TYB_mk, TYP_mk, TYL_mk, TYS_mk, TYM_mk, SO_mk, NX_mk, endK_mk, endK_mk', add_0]
  refine nw2 zc_34 rfl rfl fun s11 e11 z11 d1 d2 => ?_
  refine c_sample fun s12 xe ye ze e12 ce => ?_
  unfold clkV
  try simp only [TUP_mk, AGG_mk, HD_mk, NL_mk, TYI_mk, TYB_mk, TYP_mk, TYL_mk, TYS_mk, TYM_mk, SO_mk, NX_mk, endK_mk, endK_mk', add_0]
  refine c_When (c := CL 140) ce fun s13 lo5 hi5 er5 e13 q5 => ?_
  have hr5 := cl_clash q5
  subst hr5
  try simp only [TUP_mk, AGG_mk, HD_mk, NL_mk, TYI_mk, TYB_mk, TYP_mk, TYL_mk, TYS_mk, TYM_mk, SO_mk, NX_mk, endK_mk, endK_mk', add_0]
  refine nw2 zc_34 rfl rfl fun s14 e14 z14 g1 g2 => ?_
  refine c_sample fun s15 xf yf zf e15 cf => ?_
  unfold clkV
  try simp only [TUP_mk, AGG_mk, HD_mk, NL_mk, TYI_mk, TYB_mk, TYP_mk, TYL_mk, TYS_mk, TYM_mk, SO_mk, NX_mk, endK_mk, endK_mk', add_0]
  refine c_Wrong (c := CL 136) cf fun s16 w er6 e16 q6 => ?_
  have hr6 := cl_wrong' q6
  subst hr6
  try simp only [TUP_mk, AGG_mk, HD_mk, NL_mk, TYI_mk, TYB_mk, TYP_mk, TYL_mk, TYS_mk, TYM_mk, SO_mk, NX_mk, endK_mk, endK_mk', add_0]
  refine c_sample fun s17 xg yg zg e17 cg => ?_
  unfold clkV
  try simp only [TUP_mk, AGG_mk, HD_mk, NL_mk, TYI_mk, TYB_mk, TYP_mk, TYL_mk, TYS_mk, TYM_mk, SO_mk, NX_mk, endK_mk, endK_mk', add_0]
  refine c_Drop (c := CL 136) cg fun s18 d er7 e18 q7 => ?_
  obtain ⟨rfl, rfl⟩ := cl_drop' q7
  try simp only [TUP_mk, AGG_mk, HD_mk, NL_mk, TYI_mk, TYB_mk, TYP_mk, TYL_mk, TYS_mk, TYM_mk, SO_mk, NX_mk, endK_mk, endK_mk', add_0]
  refine c_alive fun s19 e19 => ?_
  try simp only [TUP_mk, AGG_mk, HD_mk, NL_mk, TYI_mk, TYB_mk, TYP_mk, TYL_mk, TYS_mk, TYM_mk, SO_mk, NX_mk, endK_mk, endK_mk', add_0]
  have e1119 := ((((((e12.trans e13).trans e14).trans e15).trans e16).trans e17).trans e18).trans e19
  have e619 := ((((e7.trans e8).trans e9).trans e10).trans e11).trans e1119
  have e319 := ((e4.trans e5).trans e6).trans e619
  have ea : Ext s s19 := ((e1.trans e2).trans e3).trans e319
  refine BR_tt rfl ⟨_, (e319.own a1).cell, ⟨_, (e319.own a2).cell, ?_⟩⟩
  refine c_span fun s20 e20 => ?_
  try simp only [TUP_mk, AGG_mk, HD_mk, NL_mk, TYI_mk, TYB_mk, TYP_mk, TYL_mk, TYS_mk, TYM_mk, SO_mk, NX_mk, endK_mk, endK_mk', add_0]
  refine ANDS_i ⟨_, ((e319.trans e20).own a1).cell, ⟨_, ((e319.trans e20).own a2).cell, rfl⟩⟩ ?_
  unfold J_law07_ClockNames_6
  refine BR_tt rfl ?_
  unfold J_law07_ClockNames_5
  refine BR_tt rfl ⟨_, ((e619.trans e20).own b1).cell, ⟨_, ((e619.trans e20).own b2).cell, ?_⟩⟩
  refine c_span fun s21 e21 => ?_
  try simp only [TUP_mk, AGG_mk, HD_mk, NL_mk, TYI_mk, TYB_mk, TYP_mk, TYL_mk, TYS_mk, TYM_mk, SO_mk, NX_mk, endK_mk, endK_mk', add_0]
  have e2 := e20.trans e21
  refine ANDS_i ⟨_, ((e619.trans e2).own b1).cell, ⟨_, ((e619.trans e2).own b2).cell, rfl⟩⟩ ?_
  unfold J_law07_ClockNames_4
  refine BR_tt rfl ?_
  unfold J_law07_ClockNames_3
  refine BR_tt rfl ?_
  unfold J_law07_ClockNames_2
  refine BR_tt rfl ?_
  unfold J_law07_ClockNames_1
  refine BR_tt rfl ⟨_, ((e1119.trans e2).own d1).cell, ⟨_, ((e1119.trans e2).own d2).cell, ?_⟩⟩
  refine c_span fun s22 e22 => ?_
  try simp only [TUP_mk, AGG_mk, HD_mk, NL_mk, TYI_mk, TYB_mk, TYP_mk, TYL_mk, TYS_mk, TYM_mk, SO_mk, NX_mk, endK_mk, endK_mk', add_0]
  have e3 := e2.trans e22
  refine ANDS_i ⟨_, ((e1119.trans e3).own d1).cell, ⟨_, ((e1119.trans e3).own d2).cell, rfl⟩⟩ ?_
  unfold J_law07_ClockNames_0
  refine BR_tt rfl (BR_tt rfl (BR_tt rfl (BR_tt rfl (BR_tt rfl ?_))))
  exact h s22 (ea.trans e3)
end
end Go.Proofs.Ytknpmijgdfeliaa.G

/- ClockNames, from any arguments. -/
namespace Go.Proofs.Ytknpmijgdfeliaa.G
open Go.V
theorem v_ClockNames {W : World} {s : Hp} : CALL Pg W F_law07_ClockNames [] (fun v s' => v = .bool true ∧ Ext s s') (fun _ _ => False) s := w_ClockNames fun s' e => ⟨rfl, e⟩
end Go.Proofs.Ytknpmijgdfeliaa.G

/- The row of the statement ClockNames. -/
namespace Go.Proofs.Ytknpmijgdfeliaa.clockNames
open Go.ChangeShapes Go.WideShapes Go.ChangeAt Go.RowKit Go.V
set_option linter.unusedVariables false
theorem own : ownKnob Try.prog.godebug = none := by kernel_rfl
theorem laidOut : laidOutB Try.prog = true := by kernel_rfl
set_option maxRecDepth 100000 in
theorem lifted (os : Os) (started : os.Started) (H : Type) (enc : TypeId × Value → H) :
    ReturnsInHanded {} Try.checked os 4 .any (Rows.clockNamesSpec.pre6 enc Try.prog Try.f4 Rows.clockNamesRow.domain false) (Rows.clockNamesSpec.post enc Try.prog Try.f4 false true false false) := by
  refine returnsInHanded_of_change_sized (C := Try.checked) own started (by kernel_rfl) Try.func4
    (ChangeSpec.witness6 (enc := enc) (C := Try.checked) false ⟨#[], #[], []⟩ 8 (by kernel_rfl) (by kernel_rfl) (by kernel_rfl) (by kernel_rfl)) ?_
  intro W base args ds gs before hval0 hW hcnd hsz0 _
  have hsz : (DataW.weightsEach Try.prog (Try.f4.params.toList ++ Rows.clockNamesSpec.plain.varTypes Try.prog) (ds ++ gs)).all (· ≤ reachBytes) = true := hsz0
  have hval : ∀ (j : Nat) t v, Try.f4.params[j]? = some t → args[j]? = some v → Value.okWide Try.prog W .any base t v := hval0
  have hW' := hW
  obtain ⟨p, q, hA0, hV, rfl, hfz, hnd⟩ := hW
  have hA : DataW.TrodAll enc Try.prog W 0 (fun _ => true) true Try.f4.params.toList args.toList ds p := hA0
  rw [Try.params4] at hA hval hsz
  obtain ⟨rfl, rfl, rfl⟩ := trodAll_none hA
  obtain ⟨rfl, rfl⟩ := trodVars_none hV
  refine (calls_of_does (does_of_call (G.v_ClockNames (W := W) (s := W.heap)))).mono fun e W' ⟨he, bel⟩ => ?_
  subst he
  exact ⟨_, rfl, _, _, _, [], _, [], hW', trodAll_mk1 (shut_bool Try.underlying4 _), trodAll_mk0, rfl, bel.frame _, fun h => by cases h⟩
theorem over : Rows.clockNamesRow.holds Try.pinned (OpenSpec.ofChange Rows.clockNamesSpec) :=
  OpenClaim.holds_of_wide 4 Try.f4 rfl rfl rfl rfl rfl rfl rfl ⟨rfl, rfl, rfl, rfl, rfl⟩ rfl rfl rfl rfl rfl (by kernel_rfl) Try.func4 (by kernel_rfl)
    (of_decide_eq_true (by kernel_rfl)) (by unfold Func.isWrapper; first | (rw [if_pos (by decide +kernel)]; kernel_rfl) | (rw [if_neg (by decide +kernel)]; exact ⟨rfl, rfl⟩))
    (fun os started H enc _ => lifted os started H enc)
theorem proved : Rows.ClockNamesSaid := over
end Go.Proofs.Ytknpmijgdfeliaa.clockNames
namespace Go.Proofs.Ytknpmijgdfeliaa
/-- The row, under a short name. -/
theorem clockNames_holds : Rows.ClockNamesSaid := clockNames.proved
end Go.Proofs.Ytknpmijgdfeliaa
