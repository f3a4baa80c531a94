import Derived.Test.YtocnkdkgajdejaaC3
/- The statement LotMore holds of the given program: whatever the lots, the ploughman and the plot by remainders, LotMore returns true and leaves its arguments as they were; no condition. -/
/- More of the functions' shallow texts, by gen.py. -/
set_option linter.unusedVariables false
set_option maxRecDepth 100000
namespace Go.Proofs.Ytocnkdkgajdejaa.G
open Go.V
def an_5 : Nat → Ann := fun b => match b with
  | 0 => { ms := [4, 189], ks := [.b, .i .i64], us := [2, 10, 13, 20, 21, 22, 188, 277], rt := false, ex := [] }
  | _ => {}
abbrev rv_5 : List ResultVar := [.tmp 4]
abbrev rs_5 : List Nat := [277, 4]
def L_law03_LotLawful_0 (W : World) (R : Ending → Hp → Prop) (za0 : Addr) (zp1 : Option Addr) (zl2 : Nat) (zl3 : Nat) (zn4 : Int) (zb5 : Bool) (zb6 : Bool) (zb7 : Bool) (zn8 : Int) (b174 : Bool) (n175 : Int) : Hp → Prop :=
  LOOPN [.b, .i .i64] (fun ys next s => ∀ j : Tm, vc Pg W 277 rs_5 an_5 false (sub (bodyOf Try.f5) [1, 1, 1, 1, 1, 1, 1, 1, 1, 1, 1, 1, 1, 1, 0, 1, 0, 0]) 0 (KLoop [4, 189] [2, 10, 13, 20, 21, 22, 188, 277] [(.pointer (some za0)), (.slice zp1 zl2 zl3), (.int .i64 zn4), (.bool zb5), (.bool zb6), (.bool zb7), (.int .i64 zn8), (.tuple #[])] next (KBlk 0 (KS Pg W 277 rs_5 an_5 false (sub (bodyOf Try.f5) [1, 1, 1, 1, 1, 1, 1, 1, 1, 1, 1, 1, 1, 1, 1]) 0 (fin Pg W 277 rv_5 R)))) (known [4, 189] ys (known [2, 10, 13, 20, 21, 22, 188, 277] [(.pointer (some za0)), (.slice zp1 zl2 zl3), (.int .i64 zn4), (.bool zb5), (.bool zb6), (.bool zb7), (.int .i64 zn8), (.tuple #[])] j)) s) [(.bool b174), (.int .i64 n175)]
def J_law03_LotLawful_0 (W : World) (R : Ending → Hp → Prop) (b119 : Bool) (n98 : Int) (n116 : Int) : Hp → Prop :=
  BR b119
    (BR (decide (n98 ≥ 0))
      (BR (n116 == 0)
        (CALL Pg W F_law03_awake []
          (fun v120 => TYB v120 fun b122 =>
            R (.returned (.bool b122)))
            (fun e121 => R (.panicked e121)))
        (R (.returned (.bool false))))
      (R (.returned (.bool false))))
    (R (.returned (.bool false)))
def J_law03_LotLawful_1 (W : World) (R : Ending → Hp → Prop) (b118 : Bool) (n101 : Int) (n98 : Int) (n116 : Int) : Hp → Prop :=
  BR b118
    (J_law03_LotLawful_0 W R (n101 == 0) n98 n116)
    (J_law03_LotLawful_0 W R false n98 n116)
def J_law03_LotLawful_2 (W : World) (R : Ending → Hp → Prop) (b117 : Bool) (n85 : Int) (n101 : Int) (n98 : Int) (n116 : Int) : Hp → Prop :=
  BR b117
    (J_law03_LotLawful_1 W R (n85 == 0) n101 n98 n116)
    (J_law03_LotLawful_1 W R false n101 n98 n116)
def J_law03_LotLawful_3 (W : World) (R : Ending → Hp → Prop) (B8 : Nat) (x63 : Option Addr) (l64 : Nat) (c65 : Nat) (n85 : Int) (b167 : Bool) (b170 : Bool) (b173 : Bool) (n82 : Int) : Hp → Prop :=
  L_law03_LotLawful_0 W R ⟨B8, 0, none⟩ x63 l64 c65 n85 b167 b170 b173 n82 false 0
def J_law03_LotLawful_4 (W : World) (R : Ending → Hp → Prop) (B138 : Nat) (B8 : Nat) (n82 : Int) (x63 : Option Addr) (l64 : Nat) (c65 : Nat) (n85 : Int) (b167 : Bool) (b170 : Bool) : Hp → Prop :=
  RDB (Addr.add ⟨B138, 0, none⟩ 2) fun b171 =>
    BR b171
      (RDI .i64 (Addr.add ⟨B8, 0, none⟩ 1) fun n172 =>
        NNI n82 <|
          J_law03_LotLawful_3 W R B8 x63 l64 c65 n85 b167 b170 ((andv .i64 (shrv .i64 n172 n82) 1) == 1) n82)
      (J_law03_LotLawful_3 W R B8 x63 l64 c65 n85 b167 b170 false n82)
def J_law03_LotLawful_5 (W : World) (R : Ending → Hp → Prop) (b169 : Bool) (B138 : Nat) (B8 : Nat) (n82 : Int) (x63 : Option Addr) (l64 : Nat) (c65 : Nat) (n85 : Int) (b167 : Bool) : Hp → Prop :=
  BR b169
    (J_law03_LotLawful_4 W R B138 B8 n82 x63 l64 c65 n85 b167 (decide (n82 < (IntKind.wrap .i64 ((↑l64 : Int) - 1)))))
    (J_law03_LotLawful_4 W R B138 B8 n82 x63 l64 c65 n85 b167 false)
def J_law03_LotLawful_6 (W : World) (R : Ending → Hp → Prop) (B138 : Nat) (n82 : Int) (B8 : Nat) (x63 : Option Addr) (l64 : Nat) (c65 : Nat) (n85 : Int) (b167 : Bool) : Hp → Prop :=
  RDB (Addr.add ⟨B138, 0, none⟩ 1) fun b168 =>
    BR b168
      (J_law03_LotLawful_5 W R (decide (n82 > 0)) B138 B8 n82 x63 l64 c65 n85 b167)
      (J_law03_LotLawful_5 W R false B138 B8 n82 x63 l64 c65 n85 b167)
def J_law03_LotLawful_7 (W : World) (R : Ending → Hp → Prop) (b150 : Bool) (B138 : Nat) (B8 : Nat) (x63 : Option Addr) (l64 : Nat) (n82 : Int) (c65 : Nat) (n85 : Int) : Hp → Prop :=
  BR b150
    (RDI .i64 (Addr.add ⟨B138, 0, none⟩ 0) fun n151 =>
      RDL (Addr.add ⟨B8, 0, none⟩ 0) fun x152 l153 c154 =>
        ANDS (RDL (Addr.add ⟨B8, 0, none⟩ 0) fun x158 l159 c160 =>
          fun _ => ((.slice x158 l159 c160) : Value) = (.slice x152 l153 c154)) <|
          ANDS (RDI .i64 (Addr.add ⟨B138, 0, none⟩ 0) fun n162 =>
            fun _ => ((.int .i64 n162) : Value) = (.int .i64 n151)) <|
            IXS x63 l64 (if (IntKind.wrap .i64 (n82 - 1)) > 0 then (IntKind.wrap .i64 (n82 - 1)) else 0) 1 fun a163 =>
              RDI .i64 a163 fun n164 =>
                IXS x152 l153 n164 3 fun a165 =>
                  RDI .i64 (Addr.add a165 0) fun n166 =>
                    J_law03_LotLawful_6 W R B138 n82 B8 x63 l64 c65 n85 (n151 == n166))
    (J_law03_LotLawful_6 W R B138 n82 B8 x63 l64 c65 n85 false)
def J_law03_LotLawful_8 (W : World) (R : Ending → Hp → Prop) (b128 : Bool) (B8 : Nat) (x63 : Option Addr) (l64 : Nat) (n82 : Int) (c65 : Nat) (n85 : Int) : Hp → Prop :=
  BR b128
    (R (.returned (.bool false)))
    (RDL (Addr.add ⟨B8, 0, none⟩ 0) fun x129 l130 c131 =>
      IXS x63 l64 n82 1 fun a132 =>
        RDI .i64 a132 fun n133 =>
          IXS x129 l130 n133 3 fun a134 =>
            RDI .i64 (Addr.add a134 0) fun n135 =>
              RDB (Addr.add a134 1) fun b136 =>
                RDB (Addr.add a134 2) fun b137 =>
                  NEWZ Pg 51 fun B138 =>
                    ANDS (RDI .i64 (Addr.add a134 0) fun n139 =>
                      RDB (Addr.add a134 1) fun b140 =>
                        RDB (Addr.add a134 2) fun b141 =>
                          fun _ => ((.agg #[(.int .i64 n139), (.bool b140), (.bool b141)]) : Value) = (.agg #[(.int .i64 n135), (.bool b136), (.bool b137)])) <|
                      ANDS (RDI .i64 a132 fun n142 =>
                        fun _ => ((.int .i64 n142) : Value) = (.int .i64 n133)) <|
                        ANDS (RDL (Addr.add ⟨B8, 0, none⟩ 0) fun x143 l144 c145 =>
                          fun _ => ((.slice x143 l144 c145) : Value) = (.slice x129 l130 c131)) <|
                          WR (Addr.add ⟨B138, 0, none⟩ 0) (.int .i64 n135) <|
                            WR (Addr.add ⟨B138, 0, none⟩ 1) (.bool b136) <|
                              WR (Addr.add ⟨B138, 0, none⟩ 2) (.bool b137) <|
                                BR (decide (n82 > 0))
                                  (RDI .i64 (Addr.add ⟨B138, 0, none⟩ 0) fun n146 =>
                                    J_law03_LotLawful_7 W R (n146 != 0) B138 B8 x63 l64 n82 c65 n85)
                                  (J_law03_LotLawful_7 W R false B138 B8 x63 l64 n82 c65 n85))
def J_law03_LotLawful_9 (W : World) (R : Ending → Hp → Prop) (b127 : Bool) (B8 : Nat) (x63 : Option Addr) (l64 : Nat) (n82 : Int) (c65 : Nat) (n85 : Int) : Hp → Prop :=
  BR b127
    (J_law03_LotLawful_8 W R true B8 x63 l64 n82 c65 n85)
    (J_law03_LotLawful_8 W R (decide (n82 ≥ (↑l64 : Int))) B8 x63 l64 n82 c65 n85)
def J_law03_LotLawful_10 (W : World) (R : Ending → Hp → Prop) (b126 : Bool) (B8 : Nat) (x63 : Option Addr) (l64 : Nat) (n82 : Int) (c65 : Nat) (n85 : Int) : Hp → Prop :=
  BR b126
    (J_law03_LotLawful_9 W R true B8 x63 l64 n82 c65 n85)
    (J_law03_LotLawful_9 W R (decide (n82 < 0)) B8 x63 l64 n82 c65 n85)
def J_law03_LotLawful_11 (W : World) (R : Ending → Hp → Prop) (b125 : Bool) (B8 : Nat) (x63 : Option Addr) (l64 : Nat) (n82 : Int) (c65 : Nat) (n85 : Int) (l112 : Nat) : Hp → Prop :=
  BR b125
    (J_law03_LotLawful_10 W R true B8 x63 l64 n82 c65 n85)
    (J_law03_LotLawful_10 W R ((↑l112 : Int) != 0) B8 x63 l64 n82 c65 n85)
def J_law03_LotLawful_12 (W : World) (R : Ending → Hp → Prop) (b124 : Bool) (B8 : Nat) (x63 : Option Addr) (l64 : Nat) (n82 : Int) (c65 : Nat) (n85 : Int) (l112 : Nat) (n116 : Int) : Hp → Prop :=
  BR b124
    (J_law03_LotLawful_11 W R true B8 x63 l64 n82 c65 n85 l112)
    (J_law03_LotLawful_11 W R (n116 != 4) B8 x63 l64 n82 c65 n85 l112)
def J_law03_LotLawful_13 (W : World) (R : Ending → Hp → Prop) (b123 : Bool) (B8 : Nat) (x63 : Option Addr) (l64 : Nat) (n82 : Int) (c65 : Nat) (n85 : Int) (l112 : Nat) (n116 : Int) (n98 : Int) : Hp → Prop :=
  BR b123
    (J_law03_LotLawful_12 W R true B8 x63 l64 n82 c65 n85 l112 n116)
    (J_law03_LotLawful_12 W R (n98 != 0) B8 x63 l64 n82 c65 n85 l112 n116)
def J_law03_LotLawful_14 (W : World) (R : Ending → Hp → Prop) (b239 : Bool) (za0 : Addr) (zp1 : Option Addr) (zl2 : Nat) (zl3 : Nat) (zn4 : Int) (zb5 : Bool) (zb6 : Bool) (zb7 : Bool) (zn8 : Int) (nx0 : List Value → Hp → Prop) (b174 : Bool) (n175 : Int) : Hp → Prop :=
  BR b239
    (R (.returned (.bool false)))
    (NX [(.pointer (some za0)), (.slice zp1 zl2 zl3), (.int .i64 zn4), (.bool zb5), (.bool zb6), (.bool zb7), (.int .i64 zn8), (.tuple #[])] [(.pointer (some za0)), (.slice zp1 zl2 zl3), (.int .i64 zn4), (.bool zb5), (.bool zb6), (.bool zb7), (.int .i64 zn8), (.tuple #[])] (nx0 [(.bool b174), (.int .i64 (IntKind.wrap .i64 (n175 + 1)))]))
def J_law03_LotLawful_15 (W : World) (R : Ending → Hp → Prop) (b238 : Bool) (za0 : Addr) (zp1 : Option Addr) (zl2 : Nat) (zl3 : Nat) (zn4 : Int) (zb5 : Bool) (zb6 : Bool) (zb7 : Bool) (zn8 : Int) (nx0 : List Value → Hp → Prop) (b174 : Bool) (n175 : Int) (B185 : Nat) : Hp → Prop :=
  BR b238
    (J_law03_LotLawful_14 W R true za0 zp1 zl2 zl3 zn4 zb5 zb6 zb7 zn8 nx0 b174 n175)
    (RDB (Addr.add ⟨B185, 0, none⟩ 2) fun b240 =>
      BR b240
        (RDI .i64 (Addr.add za0 1) fun n241 =>
          NNI n175 <|
            J_law03_LotLawful_14 W R ((andv .i64 (shrv .i64 n241 n175) 1) == 1) za0 zp1 zl2 zl3 zn4 zb5 zb6 zb7 zn8 nx0 b174 n175)
        (J_law03_LotLawful_14 W R false za0 zp1 zl2 zl3 zn4 zb5 zb6 zb7 zn8 nx0 b174 n175))
def J_law03_LotLawful_16 (W : World) (R : Ending → Hp → Prop) (b220 : Bool) (za0 : Addr) (zp1 : Option Addr) (zl2 : Nat) (zl3 : Nat) (zn4 : Int) (zb5 : Bool) (zb6 : Bool) (zb7 : Bool) (zn8 : Int) (nx0 : List Value → Hp → Prop) (b174 : Bool) (n175 : Int) (B185 : Nat) : Hp → Prop :=
  BR b220
    (J_law03_LotLawful_15 W R true za0 zp1 zl2 zl3 zn4 zb5 zb6 zb7 zn8 nx0 b174 n175 B185)
    (RDB (Addr.add ⟨B185, 0, none⟩ 1) fun b242 =>
      BR b242
        (J_law03_LotLawful_15 W R (decide (n175 > 0)) za0 zp1 zl2 zl3 zn4 zb5 zb6 zb7 zn8 nx0 b174 n175 B185)
        (J_law03_LotLawful_15 W R false za0 zp1 zl2 zl3 zn4 zb5 zb6 zb7 zn8 nx0 b174 n175 B185))
def J_law03_LotLawful_17 (W : World) (R : Ending → Hp → Prop) (b197 : Bool) (B185 : Nat) (za0 : Addr) (zp1 : Option Addr) (zl2 : Nat) (n175 : Int) (zl3 : Nat) (zn4 : Int) (zb5 : Bool) (zb6 : Bool) (zb7 : Bool) (zn8 : Int) (nx0 : List Value → Hp → Prop) (b174 : Bool) : Hp → Prop :=
  BR b197
    (RDI .i64 (Addr.add ⟨B185, 0, none⟩ 0) fun n198 =>
      RDL (Addr.add za0 0) fun x199 l200 c201 =>
        IXS zp1 zl2 (IntKind.wrap .i64 (n175 - 1)) 1 fun a202 =>
          RDI .i64 a202 fun n203 =>
            IXS x199 l200 n203 3 fun a204 =>
              RDI .i64 (Addr.add a204 0) fun n205 =>
                J_law03_LotLawful_16 W R (n198 == n205) za0 zp1 zl2 zl3 zn4 zb5 zb6 zb7 zn8 nx0 b174 n175 B185)
    (J_law03_LotLawful_16 W R false za0 zp1 zl2 zl3 zn4 zb5 zb6 zb7 zn8 nx0 b174 n175 B185)
def J_law03_LotLawful_18 (W : World) (R : Ending → Hp → Prop) (b244 : Bool) (zn4 : Int) (zb5 : Bool) (zb6 : Bool) (zb7 : Bool) : Hp → Prop :=
  BR b244
    (CALL Pg W F_law03_awake []
      (fun v245 => TYB v245 fun b247 =>
        R (.returned (.bool b247)))
        (fun e246 => R (.panicked e246)))
    (BR (zn4 == 3)
      (BR (!zb5)
        (BR (!zb6)
          (BR zb7
            (CALL Pg W F_law03_awake []
              (fun v248 => TYB v248 fun b250 =>
                R (.returned (.bool b250)))
                (fun e249 => R (.panicked e249)))
            (R (.returned (.bool false))))
          (R (.returned (.bool false))))
        (R (.returned (.bool false))))
      (R (.returned (.bool false))))
def J_law03_LotLawful_19 (W : World) (R : Ending → Hp → Prop) (b243 : Bool) (zn4 : Int) (zb5 : Bool) (zb6 : Bool) (zb7 : Bool) : Hp → Prop :=
  BR b243
    (J_law03_LotLawful_18 W R true zn4 zb5 zb6 zb7)
    (BR (zn4 == 2)
      (BR (!zb5)
        (J_law03_LotLawful_18 W R zb6 zn4 zb5 zb6 zb7)
        (J_law03_LotLawful_18 W R false zn4 zb5 zb6 zb7))
      (J_law03_LotLawful_18 W R false zn4 zb5 zb6 zb7))
def B_law03_LotLawful_0 (W : World) (R : Ending → Hp → Prop) (za0 : Addr) (zp1 : Option Addr) (zl2 : Nat) (zl3 : Nat) (zn4 : Int) (zb5 : Bool) (zb6 : Bool) (zb7 : Bool) (zn8 : Int) (b174 : Bool) (n175 : Int) (nx0 : List Value → Hp → Prop) : Hp → Prop :=
  BR (decide (n175 < zn8))
    (RDL (Addr.add za0 0) fun x176 l177 c178 =>
      IXS zp1 zl2 n175 1 fun a179 =>
        RDI .i64 a179 fun n180 =>
          IXS x176 l177 n180 3 fun a181 =>
            RDI .i64 (Addr.add a181 0) fun n182 =>
              RDB (Addr.add a181 1) fun b183 =>
                RDB (Addr.add a181 2) fun b184 =>
                  NEWZ Pg 51 fun B185 =>
                    ANDS (RDI .i64 (Addr.add a181 0) fun n186 =>
                      RDB (Addr.add a181 1) fun b187 =>
                        RDB (Addr.add a181 2) fun b188 =>
                          fun _ => ((.agg #[(.int .i64 n186), (.bool b187), (.bool b188)]) : Value) = (.agg #[(.int .i64 n182), (.bool b183), (.bool b184)])) <|
                      ANDS (RDI .i64 a179 fun n189 =>
                        fun _ => ((.int .i64 n189) : Value) = (.int .i64 n180)) <|
                        ANDS (RDL (Addr.add za0 0) fun x190 l191 c192 =>
                          fun _ => ((.slice x190 l191 c192) : Value) = (.slice x176 l177 c178)) <|
                          WR (Addr.add ⟨B185, 0, none⟩ 0) (.int .i64 n182) <|
                            WR (Addr.add ⟨B185, 0, none⟩ 1) (.bool b183) <|
                              WR (Addr.add ⟨B185, 0, none⟩ 2) (.bool b184) <|
                                BR (decide (n175 > 0))
                                  (RDI .i64 (Addr.add ⟨B185, 0, none⟩ 0) fun n193 =>
                                    J_law03_LotLawful_17 W R (n193 != 0) B185 za0 zp1 zl2 n175 zl3 zn4 zb5 zb6 zb7 zn8 nx0 b174)
                                  (J_law03_LotLawful_17 W R false B185 za0 zp1 zl2 n175 zl3 zn4 zb5 zb6 zb7 zn8 nx0 b174))
    (BR (zn4 == 1)
      (J_law03_LotLawful_19 W R zb5 zn4 zb5 zb6 zb7)
      (J_law03_LotLawful_19 W R false zn4 zb5 zb6 zb7))
theorem B_law03_LotLawful_0_eq (W : World) (R : Ending → Hp → Prop) (za0 : Addr) (zp1 : Option Addr) (zl2 : Nat) (zl3 : Nat) (zn4 : Int) (zb5 : Bool) (zb6 : Bool) (zb7 : Bool) (zn8 : Int) (b174 : Bool) (n175 : Int) (nx0 : List Value → Hp → Prop) (j : Tm) : vc Pg W 277 rs_5 an_5 false (sub (bodyOf Try.f5) [1, 1, 1, 1, 1, 1, 1, 1, 1, 1, 1, 1, 1, 1, 0, 1, 0, 0]) 0 (KLoop [4, 189] [2, 10, 13, 20, 21, 22, 188, 277] [(.pointer (some za0)), (.slice zp1 zl2 zl3), (.int .i64 zn4), (.bool zb5), (.bool zb6), (.bool zb7), (.int .i64 zn8), (.tuple #[])] nx0 (KBlk 0 (KS Pg W 277 rs_5 an_5 false (sub (bodyOf Try.f5) [1, 1, 1, 1, 1, 1, 1, 1, 1, 1, 1, 1, 1, 1, 1]) 0 (fin Pg W 277 rv_5 R)))) (known [4, 189] [(.bool b174), (.int .i64 n175)] (known [2, 10, 13, 20, 21, 22, 188, 277] [(.pointer (some za0)), (.slice zp1 zl2 zl3), (.int .i64 zn4), (.bool zb5), (.bool zb6), (.bool zb7), (.int .i64 zn8), (.tuple #[])] j)) = B_law03_LotLawful_0 W R za0 zp1 zl2 zl3 zn4 zb5 zb6 zb7 zn8 b174 n175 nx0 := by kernel_rfl
def N_law03_LotLawful_0 (I : Bool → Int → Hp → Prop) (μ : Bool → Int → Hp → Nat) (b1740 : Bool) (n1750 : Int) (s : Hp) (vs : List Value) : Hp → Prop := fun s' => ∃ b174 n175, vs = [(.bool b174), (.int .i64 n175)] ∧ I b174 n175 s' ∧ μ b174 n175 s' < μ b1740 n1750 s
theorem L_law03_LotLawful_0_rule (W : World) (R : Ending → Hp → Prop) (za0 : Addr) (zp1 : Option Addr) (zl2 : Nat) (zl3 : Nat) (zn4 : Int) (zb5 : Bool) (zb6 : Bool) (zb7 : Bool) (zn8 : Int) (I : Bool → Int → Hp → Prop) (μ : Bool → Int → Hp → Nat) (b1740 : Bool) (n1750 : Int) (s : Hp) (h0 : I b1740 n1750 s)
    (hr : ∀ (b174 : Bool) (n175 : Int) (s : Hp), I b174 n175 s → B_law03_LotLawful_0 W R za0 zp1 zl2 zl3 zn4 zb5 zb6 zb7 zn8 b174 n175 (fun vs => N_law03_LotLawful_0 I μ b174 n175 s vs) s) : L_law03_LotLawful_0 W R za0 zp1 zl2 zl3 zn4 zb5 zb6 zb7 zn8 b1740 n1750 s := by
  refine ⟨fun vs s => ∃ b174 n175, vs = [(.bool b174), (.int .i64 n175)] ∧ I b174 n175 s, fun vs s => (match vs with | [.bool b174, .int _ n175] => μ b174 n175 s | _ => 0), ⟨⟨⟨_, rfl⟩, ⟨⟨_, rfl⟩, trivial⟩⟩, ⟨_, _, rfl, h0⟩⟩, ?_⟩
  intro b174 n175 s hI j
  obtain ⟨b174', n175', hy, hI⟩ := hI
  have hI' : I b174 n175 s := by cases hy; exact hI
  have hh := hr b174 n175 s hI'
  rw [← B_law03_LotLawful_0_eq W R za0 zp1 zl2 zl3 zn4 zb5 zb6 zb7 zn8 b174 n175 _ j] at hh
  refine vc_mono ?_ _ _ hh
  exact KLoop_mono (fun vs s' h => by obtain ⟨b1741, n1751, rfl, h1, h2⟩ := h; exact ⟨⟨⟨_, rfl⟩, ⟨⟨_, rfl⟩, trivial⟩⟩, ⟨_, _, rfl, h1⟩, h2⟩)
def T_law03_LotLawful (W : World) (x1 : Option Addr) (l2 : Nat) (c3 : Nat) (n4 : Int) (x5 : Option Addr) (l6 : Nat) (c7 : Nat) (R : Ending → Hp → Prop) : Hp → Prop :=
  NEW 24 [(.slice x1 l2 c3), (.int .i64 n4)] fun B8 =>
    RDL (Addr.add ⟨B8, 0, none⟩ 0) fun x9 l10 c11 =>
      RDI .i64 (Addr.add ⟨B8, 0, none⟩ 1) fun n12 =>
        CALL Pg W F_law03_far [(.agg #[(.slice x9 l10 c11), (.int .i64 n12)]), (.slice none 0 0), (.int .i64 8)]
          (fun v13 => TYB v13 fun b15 =>
            BR b15
              (CALL Pg W F_law03_awake []
                (fun v16 => TYB v16 fun b18 =>
                  R (.returned (.bool b18)))
                  (fun e17 => R (.panicked e17)))
              (RDL (Addr.add ⟨B8, 0, none⟩ 0) fun x19 l20 c21 =>
                RDI .i64 (Addr.add ⟨B8, 0, none⟩ 1) fun n22 =>
                  CALL Pg W F_ref03_Lots [(.agg #[(.slice x19 l20 c21), (.int .i64 n22)])]
                    (fun v23 => TYB v23 fun b25 =>
                      BR (!b25)
                        (RDL (Addr.add ⟨B8, 0, none⟩ 0) fun x26 l27 c28 =>
                          RDI .i64 (Addr.add ⟨B8, 0, none⟩ 1) fun n29 =>
                            CALL Pg W F_lot_Check [(.agg #[(.slice x26 l27 c28), (.int .i64 n29)]), (.slice none 0 0)]
                              (fun v30 => TUP v30 fun q32 => HD q32 fun v33 r34 => TYI .i64 v33 fun n35 =>
                                HD r34 fun v36 r37 => TYI .i64 v36 fun n38 =>
                                  HD r37 fun v39 r40 => TYI .i64 v39 fun n41 =>
                                    NL r40 <|
                                      RDL (Addr.add ⟨B8, 0, none⟩ 0) fun x42 l43 c44 =>
                                        RDI .i64 (Addr.add ⟨B8, 0, none⟩ 1) fun n45 =>
                                          CALL Pg W F_lot_Place [(.agg #[(.slice x42 l43 c44), (.int .i64 n45)]), (.slice none 0 0)]
                                            (fun v46 => TUP v46 fun q48 => HD q48 fun v49 r50 => TYI .i64 v49 fun n51 =>
                                              HD r50 fun v52 r53 => TYI .i64 v52 fun n54 =>
                                                NL r53 <|
                                                  BR (n41 == 1)
                                                    (BR (n54 == n41)
                                                      (CALL Pg W F_law03_awake []
                                                        (fun v55 => TYB v55 fun b57 =>
                                                          R (.returned (.bool b57)))
                                                          (fun e56 => R (.panicked e56)))
                                                      (R (.returned (.bool false))))
                                                    (R (.returned (.bool false))))
                                              (fun e47 => R (.panicked e47)))
                                (fun e31 => R (.panicked e31)))
                        (RDL (Addr.add ⟨B8, 0, none⟩ 0) fun x58 l59 c60 =>
                          CALL Pg W F_law03_made [(.int .i64 (↑l59 : Int)), (.slice x5 l6 c7)]
                            (fun v61 => TYL v61 fun x63 l64 c65 =>
                              RDL (Addr.add ⟨B8, 0, none⟩ 0) fun x66 l67 c68 =>
                                RDI .i64 (Addr.add ⟨B8, 0, none⟩ 1) fun n69 =>
                                  CALL Pg W F_law03_lawful [(.agg #[(.slice x66 l67 c68), (.int .i64 n69)]), (.slice x63 l64 c65)]
                                    (fun v70 => TYB v70 fun b72 =>
                                      RDL (Addr.add ⟨B8, 0, none⟩ 0) fun x73 l74 c75 =>
                                        RDI .i64 (Addr.add ⟨B8, 0, none⟩ 1) fun n76 =>
                                          CALL Pg W F_lot_Check [(.agg #[(.slice x73 l74 c75), (.int .i64 n76)]), (.slice x63 l64 c65)]
                                            (fun v77 => TUP v77 fun q79 => HD q79 fun v80 r81 => TYI .i64 v80 fun n82 =>
                                              HD r81 fun v83 r84 => TYI .i64 v83 fun n85 =>
                                                HD r84 fun v86 r87 => TYI .i64 v86 fun n88 =>
                                                  NL r87 <|
                                                    RDL (Addr.add ⟨B8, 0, none⟩ 0) fun x89 l90 c91 =>
                                                      RDI .i64 (Addr.add ⟨B8, 0, none⟩ 1) fun n92 =>
                                                        CALL Pg W F_lot_Place [(.agg #[(.slice x89 l90 c91), (.int .i64 n92)]), (.slice x63 l64 c65)]
                                                          (fun v93 => TUP v93 fun q95 => HD q95 fun v96 r97 => TYI .i64 v96 fun n98 =>
                                                            HD r97 fun v99 r100 => TYI .i64 v99 fun n101 =>
                                                              NL r100 <|
                                                                RDL (Addr.add ⟨B8, 0, none⟩ 0) fun x102 l103 c104 =>
                                                                  RDI .i64 (Addr.add ⟨B8, 0, none⟩ 1) fun n105 =>
                                                                    CALL Pg W F_lot_Swaps [(.agg #[(.slice x102 l103 c104), (.int .i64 n105)]), (.slice x63 l64 c65)]
                                                                      (fun v106 => TUP v106 fun q108 => HD q108 fun v109 r110 => TYL v109 fun x111 l112 c113 =>
                                                                        HD r110 fun v114 r115 => TYI .i64 v114 fun n116 =>
                                                                          NL r115 <|
                                                                            BR b72
                                                                              (BR (n88 == 4)
                                                                                (J_law03_LotLawful_2 W R (n82 == 0) n85 n101 n98 n116)
                                                                                (J_law03_LotLawful_2 W R false n85 n101 n98 n116))
                                                                              (BR (n88 != 0)
                                                                                (J_law03_LotLawful_13 W R true B8 x63 l64 n82 c65 n85 l112 n116 n98)
                                                                                (J_law03_LotLawful_13 W R (n101 != 4) B8 x63 l64 n82 c65 n85 l112 n116 n98)))
                                                                        (fun e107 => R (.panicked e107)))
                                                            (fun e94 => R (.panicked e94)))
                                              (fun e78 => R (.panicked e78)))
                                      (fun e71 => R (.panicked e71)))
                              (fun e62 => R (.panicked e62))))
                      (fun e24 => R (.panicked e24))))
            (fun e14 => R (.panicked e14))
theorem T_law03_LotLawful_eq (W : World) (x1 : Option Addr) (l2 : Nat) (c3 : Nat) (n4 : Int) (x5 : Option Addr) (l6 : Nat) (c7 : Nat) (R : Ending → Hp → Prop) : vfun Pg W an_5 Try.f5 [(.agg #[(.slice x1 l2 c3), (.int .i64 n4)]), (.slice x5 l6 c7)] R = T_law03_LotLawful W x1 l2 c3 n4 x5 l6 c7 R := by kernel_rfl
theorem does_law03_LotLawful (W : World) (x1 : Option Addr) (l2 : Nat) (c3 : Nat) (n4 : Int) (x5 : Option Addr) (l6 : Nat) (c7 : Nat) (R : Ending → Hp → Prop) (s : Hp) (h : T_law03_LotLawful W x1 l2 c3 n4 x5 l6 c7 R s) : Does Pg W F_law03_LotLawful #[(.agg #[(.slice x1 l2 c3), (.int .i64 n4)]), (.slice x5 l6 c7)] s R :=
  does_of_vfun Pg W an_5 Try.func5 rfl (by kernel_rfl) (by rw [T_law03_LotLawful_eq]; exact h)
end Go.Proofs.Ytocnkdkgajdejaa.G

/- The statement LotLawful: a draw is lawful just if nothing is broken by the words of the chapter. -/
set_option linter.unusedSimpArgs false
set_option linter.unusedVariables false
set_option maxRecDepth 20000
namespace Go.Proofs.Ytocnkdkgajdejaa.G
open Go.V Go.Lot
section
variable {W : World} {K : VK} {E : List PanicEntry → Hp → Prop} {s : Hp} {L : Lts}
theorem man_new3 {KK : Nat → Hp → Prop} {A1 A2 A3 : Hp → Prop} {a : Int} {b c : Bool} (hA : ∀ s', Ext s s' → A1 s' ∧ A2 s' ∧ A3 s')
    (h : ∀ s', Ext s s' → s'.size = s.size + 1 → Own s' (Addr.add ⟨s.size, 0, none⟩ 0) (.int .i64 a) → Own s' (Addr.add ⟨s.size, 0, none⟩ 1) (.bool b) → Own s' (Addr.add ⟨s.size, 0, none⟩ 2) (.bool c) → KK s.size s') :
    NEWZ Pg 51 (fun B => ANDS A1 <| ANDS A2 <| ANDS A3 <| WR (Addr.add ⟨B, 0, none⟩ 0) (.int .i64 a) <| WR (Addr.add ⟨B, 0, none⟩ 1) (.bool b) <| WR (Addr.add ⟨B, 0, none⟩ 2) (.bool c) <| KK B) s := by
  obtain ⟨h1, h2, h3⟩ := hA _ (Ext.push (Ext.refl s))
  exact ⟨h1, h2, h3, man_new h⟩
/-- A plot's ploughman, as it lies. -/
theorem man_at {x y : Option Addr} {d : List Nat} {k : Nat} (hm : MenAt s x L.men) (hy : RowAt s y (vals d)) (hd : ∀ m ∈ d, m < L.n) (hk : k < d.length) :
    ∃ a b, y = some a ∧ x = some b ∧ cellAt s (a.add (k * 1)) = some (.int .i64 (d.getD k 0 : Nat)) ∧ d.getD k 0 < L.n ∧ cellAt s ((b.add (d.getD k 0 * 3)).add 0) = some (.int .i64 (man L (d.getD k 0)).club) ∧
      cellAt s ((b.add (d.getD k 0 * 3)).add 1) = some (.bool (man L (d.getD k 0)).left) ∧ cellAt s ((b.add (d.getD k 0 * 3)).add 2) = some (.bool (man L (d.getD k 0)).nov) := by
  have hget : d.getD k 0 = d[k] := by simp [List.getD, hk]
  have hkv : k < (vals d).length := by rw [vals_len]; exact hk
  obtain ⟨a, ha, g⟩ := hy k hkv
  rw [vals_get hkv] at g
  have hmi := hd d[k] (List.getElem_mem _)
  obtain ⟨b, hb, g1, g2, g3⟩ := hm d[k] hmi
  have hman := man_get' L (m := d[k]) hmi
  rw [← hman] at g1 g2 g3
  rw [hget]
  exact ⟨a, b, ha, hb, g, hmi, g1, g2, g3⟩
theorem man_new3' {x : Option Addr} {d : List Nat} {k : Nat} {a b Z : Addr} {c : Nat} {KK : Nat → Hp → Prop} (hZ : cellAt s (Z.add 0) = some (.slice x L.n c)) (g : cellAt s (a.add (k * 1)) = some (.int .i64 (d.getD k 0 : Nat)))
    (g1 : cellAt s ((b.add (d.getD k 0 * 3)).add 0) = some (.int .i64 (man L (d.getD k 0)).club)) (g2 : cellAt s ((b.add (d.getD k 0 * 3)).add 1) = some (.bool (man L (d.getD k 0)).left)) (g3 : cellAt s ((b.add (d.getD k 0 * 3)).add 2) = some (.bool (man L (d.getD k 0)).nov))
    (h : ∀ s', Ext s s' → s'.size = s.size + 1 → Own s' (Addr.add ⟨s.size, 0, none⟩ 0) (.int .i64 (man L (d.getD k 0)).club) → Own s' (Addr.add ⟨s.size, 0, none⟩ 1) (.bool (man L (d.getD k 0)).left) → Own s' (Addr.add ⟨s.size, 0, none⟩ 2) (.bool (man L (d.getD k 0)).nov) → KK s.size s') :
    NEWZ Pg 51 (fun B => ANDS (RDI .i64 (Addr.add (b.add (d.getD k 0 * 3)) 0) fun n130 => RDB (Addr.add (b.add (d.getD k 0 * 3)) 1) fun b131 => RDB (Addr.add (b.add (d.getD k 0 * 3)) 2) fun b132 => fun _ => ((.agg #[(.int .i64 n130), (.bool b131), (.bool b132)]) : Value) = (.agg #[(.int .i64 (man L (d.getD k 0)).club), (.bool (man L (d.getD k 0)).left), (.bool (man L (d.getD k 0)).nov)])) <|
      ANDS (RDI .i64 (a.add (k * 1)) fun n133 => fun _ => ((.int .i64 n133) : Value) = (.int .i64 ((d.getD k 0 : Nat) : Int))) <|
      ANDS (RDL (Z.add 0) fun x134 l135 c136 => fun _ => ((.slice x134 l135 c136) : Value) = (.slice x L.n c)) <|
      WR (Addr.add ⟨B, 0, none⟩ 0) (.int .i64 (man L (d.getD k 0)).club) <| WR (Addr.add ⟨B, 0, none⟩ 1) (.bool (man L (d.getD k 0)).left) <| WR (Addr.add ⟨B, 0, none⟩ 2) (.bool (man L (d.getD k 0)).nov) <| KK B) s :=
  man_new3 (fun s' e => ⟨⟨_, e.cell g1, _, e.cell g2, _, e.cell g3, rfl⟩, ⟨_, e.cell g, rfl⟩, ⟨_, _, _, e.cell hZ, rfl⟩⟩) h

theorem lawful_loop {x y : Option Addr} {c c' B p : Nat} {d : List Nat} {r : Int} {q1 q2 q3 : Bool} {R : Ending → Hp → Prop} {s1 : Hp} (hm : MenAt s1 x L.men) (hy : RowAt s1 y (vals d)) (hv : valid L = true) (hd : ∀ m ∈ d, m < L.n) (hln : d.length = L.n)
    (c0 : cellAt s1 ((⟨B, 0, none⟩ : Addr).add 0) = some (.slice x L.n c)) (c1 : cellAt s1 ((⟨B, 0, none⟩ : Addr).add 1) = some (.int .i64 L.worst)) (hp : p < d.length) (hok : ∀ k, k < p → brk L k (d.getD k 0) (prev d k) = 0)
    (h : ∀ t nx, Ext s1 t → B_law03_LotLawful_0 W R ⟨B, 0, none⟩ y d.length c' r q1 q2 q3 p false p nx t) :
    L_law03_LotLawful_0 W R ⟨B, 0, none⟩ y d.length c' r q1 q2 q3 (p : Int) false 0 s1 := by
  have v := vd_iff.1 hv
  have hn8 := v.hi
  refine L_law03_LotLawful_0_rule W R ⟨B, 0, none⟩ y d.length c' r q1 q2 q3 p (fun bb n t => bb = false ∧ Ext s1 t ∧ ∃ k : Nat, k ≤ p ∧ n = k) (fun _ n _ => (p - n).toNat) false 0 s1 ⟨rfl, Ext.refl _, 0, by omega, rfl⟩ ?_
  rintro b9 n t ⟨rfl, et, k, hk, rfl⟩
  by_cases hkp : k = p
  · subst hkp; exact h t _ et
  have hkp' : k < p := by omega
  have hz := hok k hkp'
  have hz' := brk_zero L k (d.getD k 0) (prev d k)
  rw [decide_eq_true hz] at hz'
  have hz2 : (r1 L (d.getD k 0) (prev d k) || r2 L k (d.getD k 0) || r3 L k (d.getD k 0)) = false := by simpa using hz'
  have hr1 : r1 L (d.getD k 0) (prev d k) = false := by simp at hz2; exact hz2.1.1
  have hr2 : r2 L k (d.getD k 0) = false := by simp at hz2; exact hz2.1.2
  have hr3 : r3 L k (d.getD k 0) = false := by simp at hz2; exact hz2.2
  have hkd : k < d.length := by omega
  obtain ⟨a, b, ha, hb, g, hlt, g1, g2, g3⟩ := man_at (hm.ext et) (hy.ext et) hd hkd
  have ti : ((k : Int)).toNat = k := by omega
  have tm : (((d.getD k 0 : Nat) : Int)).toNat = d.getD k 0 := by omega
  have hw : IntKind.i64.wrap ((k : Int) + 1) = ((k + 1 : Nat) : Int) := by rw [wrap_i64 (by omega) (by omega)]; rfl
  unfold B_law03_LotLawful_0
  refine BR_dec (fun _ => ?_) (fun h1 => by omega)
  refine ⟨_, _, _, et.cell c0, a, ha, ⟨by omega, by omega⟩, _, by rw [ti]; exact g, b, hb, ⟨by omega, by omega⟩, ?_⟩
  rw [ti, tm]
  refine ⟨_, g1, _, g2, _, g3, ?_⟩
  refine man_new3' (et.cell c0) g g1 g2 g3 fun t2 e2 z2 o0 o1 o2 => ?_
  have e12 := et.trans e2
  have j14 : ∀ bb : Bool, bb = false → J_law03_LotLawful_14 W R bb ⟨B, 0, none⟩ y d.length c' r q1 q2 q3 p (fun vs => N_law03_LotLawful_0 (fun bb n t => bb = false ∧ Ext s1 t ∧ ∃ k : Nat, k ≤ p ∧ n = k) (fun _ n _ => (p - n).toNat) false k t vs) false k t2 := by
    rintro bb rfl
    unfold J_law03_LotLawful_14
    refine ⟨rfl, _, _, rfl, ⟨rfl, e12, k + 1, by omega, hw⟩, ?_⟩
    show ((p : Int) - IntKind.i64.wrap ((k : Int) + 1)).toNat < ((p : Int) - k).toNat
    rw [hw]; omega
  have j15 : ∀ bb : Bool, bb = false → J_law03_LotLawful_15 W R bb ⟨B, 0, none⟩ y d.length c' r q1 q2 q3 p (fun vs => N_law03_LotLawful_0 (fun bb n t => bb = false ∧ Ext s1 t ∧ ∃ k : Nat, k ≤ p ∧ n = k) (fun _ n _ => (p - n).toNat) false k t vs) false k t.size t2 := by
    rintro bb rfl
    unfold J_law03_LotLawful_15
    refine ⟨_, o2.cell, ?_⟩
    refine BR_bool (fun h3 => ?_) (fun h3 => j14 _ rfl)
    refine ⟨_, e12.cell c1, NNI_nat (j14 _ ?_)⟩
    rw [bad_eq v (by omega)]
    unfold r3 at hr3
    rw [h3] at hr3
    simpa using hr3
  have j16 : ∀ bb : Bool, bb = false → J_law03_LotLawful_16 W R bb ⟨B, 0, none⟩ y d.length c' r q1 q2 q3 p (fun vs => N_law03_LotLawful_0 (fun bb n t => bb = false ∧ Ext s1 t ∧ ∃ k : Nat, k ≤ p ∧ n = k) (fun _ n _ => (p - n).toNat) false k t vs) false k t.size t2 := by
    rintro bb rfl
    unfold J_law03_LotLawful_16
    refine ⟨_, o1.cell, ?_⟩
    refine BR_bool (fun h3 => j15 _ ?_) (fun h3 => j15 _ rfl)
    unfold r2 at hr2
    rw [h3] at hr2
    have hlt' : k < L.n - 1 := by omega
    have hd : decide (k < L.n - 1) = true := decide_eq_true hlt'
    rw [hd] at hr2
    have : ¬ k > 0 := by simpa using hr2
    have : ¬ ((k : Int) > 0) := by omega
    exact decide_eq_false this
  have j17 : ∀ bb : Bool, bb = (decide (k ≠ 0) && decide ((man L (d.getD k 0)).club ≠ 0)) → J_law03_LotLawful_17 W R bb t.size ⟨B, 0, none⟩ y d.length k c' r q1 q2 q3 p (fun vs => N_law03_LotLawful_0 (fun bb n t => bb = false ∧ Ext s1 t ∧ ∃ k : Nat, k ≤ p ∧ n = k) (fun _ n _ => (p - n).toNat) false k t vs) false t2 := by
    intro bb hbb
    unfold J_law03_LotLawful_17
    refine BR_bool (fun h2 => ?_) (fun h2 => j16 _ rfl)
    rw [h2] at hbb
    obtain ⟨hk0, hc0⟩ : k ≠ 0 ∧ (man L (d.getD k 0)).club ≠ 0 := by simpa using hbb.symm
    obtain ⟨a', b', ha', hb', g', hlt', gg1, _, _⟩ := man_at (hm.ext e12) (hy.ext e12) hd (show k - 1 < d.length by omega)
    have hp : prev d k = d.getD (k - 1) 0 := by unfold prev; rw [if_neg hk0]
    have hw' : IntKind.wrap .i64 ((k : Int) - 1) = ((k - 1 : Nat) : Int) := by rw [wrap_i64 (by omega) (by omega)]; omega
    refine ⟨_, o0.cell, _, _, _, e12.cell c0, ?_⟩
    dsimp only
    rw [hw']
    have ti' : (((k - 1 : Nat) : Int)).toNat = k - 1 := by omega
    have tm' : (((d.getD (k - 1) 0 : Nat) : Int)).toNat = d.getD (k - 1) 0 := by omega
    refine ⟨a', ha', ⟨by omega, by omega⟩, _, by rw [ti']; exact g', b', hb', ⟨by omega, by omega⟩, _, by rw [tm']; exact gg1, ?_⟩
    refine j16 _ ?_
    unfold r1 at hr1
    rw [hp] at hr1
    have h8 : d.getD (k - 1) 0 ≠ 8 := by omega
    simp only [h8, hc0, ne_eq, not_false_eq_true, decide_true, Bool.true_and] at hr1
    have := of_decide_eq_false hr1
    simpa using this
  refine BR_dec (fun h2 => ?_) (fun h2 => ?_)
  · refine ⟨_, o0.cell, ?_⟩
    refine j17 _ ?_
    have : k ≠ 0 := by omega
    simp [this, bne, Bool.beq_eq_decide_eq]
  · refine j17 _ ?_
    have : k = 0 := by omega
    simp [this]
end
end Go.Proofs.Ytocnkdkgajdejaa.G

/- The statement LotLawful: a draw is lawful just if nothing is broken by the words of the chapter. -/
set_option linter.unusedSimpArgs false
set_option linter.unusedVariables false
set_option maxRecDepth 20000
namespace Go.Proofs.Ytocnkdkgajdejaa.G
open Go.V Go.Lot
section
variable {W : World} {K : VK} {E : List PanicEntry → Hp → Prop} {s : Hp} {L : Lts}
theorem c_Check' {x y : Option Addr} {c c' l : Nat} {ds : List Int} (hm : MenAt s x L.men) (hy : RowAt s y (ints ds)) (hlen : ds.length ≤ 100000) (hl : l = ds.length)
    (h : ∀ s', Ext s s' → K (.tuple #[.int .i64 (checkP L ds).1, .int .i64 (checkP L ds).2.1, .int .i64 (checkP L ds).2.2]) s') :
    CALL Pg W F_lot_Check [.agg #[.slice x L.n c, .int .i64 L.worst], .slice y l c'] K E s := by subst hl; exact c_Check hm hy hlen h
theorem c_Place' {x y : Option Addr} {c c' l : Nat} {ds : List Int} (hm : MenAt s x L.men) (hy : RowAt s y (ints ds)) (hlen : ds.length ≤ 100000) (hl : l = ds.length)
    (h : ∀ s', Ext s s' → K (.tuple #[.int .i64 (placeP L ds).1, .int .i64 (placeP L ds).2]) s') :
    CALL Pg W F_lot_Place [.agg #[.slice x L.n c, .int .i64 L.worst], .slice y l c'] K E s := by subst hl; exact c_Place hm hy hlen h
theorem c_Swaps' {x y : Option Addr} {c c' l : Nat} {ds : List Int} (hm : MenAt s x L.men) (hy : RowAt s y (ints ds)) (hlen : ds.length ≤ 100000) (hl : l = ds.length)
    (h1 : ∀ s' v, Ext s s' → valid L = true → okDraw L ds → wrong L (ds.map Int.toNat) = none → OutP s' (swapsP L (ds.map Int.toNat)) v → K (.tuple #[v, .int .i64 0]) s')
    (h2 : ∀ s', Ext s s' → errP L ds ≠ 0 → K (.tuple #[.slice none 0 0, .int .i64 (errP L ds)]) s') :
    CALL Pg W F_lot_Swaps [.agg #[.slice x L.n c, .int .i64 L.worst], .slice y l c'] K E s := by subst hl; exact c_Swaps hm hy hlen h1 h2
/-- 'awake' at the end. -/
theorem c_awake' {s0 : Hp} (e : Ext s0 s) (h : ∀ s', Ext s0 s' → K (.bool true) s') : CALL Pg W F_law03_awake [] K E s := c_awake fun s' e' => h s' (e.trans e')
theorem row_nil : RowAt s none (ints []) := fun i hi => by simp [ints] at hi

theorem w_LotLawful {x y : Option Addr} {l c c' : Nat} (hm : MenAt s x L.men) (hy : U8At s y l) (h : ∀ s', Ext s s' → K (.bool true) s') :
    CALL Pg W F_law03_LotLawful [.agg #[.slice x L.n c, .int .i64 L.worst], .slice y l c'] K E s := by
  refine does_law03_LotLawful W x L.n c L.worst y l c' _ s ?_
  unfold T_law03_LotLawful
  refine NEW_rule fun s1 e1 z1 n1 _ => ?_
  have c0 := (n1 0 _ rfl).cell
  have c1 := (n1 1 _ rfl).cell
  -- how it ends
  have aw : ∀ t, Ext s1 t → CALL Pg W F_law03_awake [] (fun v16 => TYB v16 fun b18 => (endK K E) (.returned (.bool b18))) (fun c17 => (endK K E) (.panicked c17)) t := fun t et => c_awake fun t' et' => h t' (e1.trans (et.trans et'))
  refine ⟨_, _, _, c0, _, c1, ?_⟩
  refine c_far (n := 8) (hm.ext e1) fun s2 b e2 hb1 hb2 => ?_
  try simp only [TUP_mk, AGG_mk, HD_mk, NL_mk, TYI_mk, TYB_mk, TYP_mk, TYL_mk, TYS_mk, TYM_mk, SO_mk, NX_mk, endK_mk, endK_mk', add_0]
  refine BR_bool (fun hb => aw s2 e2) (fun hb => ?_)
  obtain ⟨hn30, _, hn8'⟩ := hb2 hb
  refine ⟨_, _, _, e2.cell c0, _, e2.cell c1, ?_⟩
  have e02 := e1.trans e2
  refine f_Lots (hm.ext e02) (by omega) fun s3 e3 => ?_
  try simp only [TUP_mk, AGG_mk, HD_mk, NL_mk, TYI_mk, TYB_mk, TYP_mk, TYL_mk, TYS_mk, TYM_mk, SO_mk, NX_mk, endK_mk, endK_mk', add_0]
  have e13 := e2.trans e3
  have e03 := e1.trans e13
  refine BR_not (fun hv => ?_) (fun hv => ?_)
  · refine ⟨_, _, _, e13.cell c0, _, e13.cell c1, ?_⟩
    refine c_Check' (ds := []) (hm.ext e03) row_nil (by simp) rfl fun s4 e4 => ?_
    try simp only [TUP_mk, AGG_mk, HD_mk, NL_mk, TYI_mk, TYB_mk, TYP_mk, TYL_mk, TYS_mk, TYM_mk, SO_mk, NX_mk, endK_mk, endK_mk', add_0]
    have hc : checkP L [] = (0, 0, 1) := by unfold checkP; rw [hv]; rfl
    rw [hc]
    have e14 := e13.trans e4
    refine ⟨_, _, _, e14.cell c0, _, e14.cell c1, ?_⟩
    refine c_Place' (ds := []) (hm.ext (e1.trans e14)) row_nil (by simp) rfl fun s5 e5 => ?_
    try simp only [TUP_mk, AGG_mk, HD_mk, NL_mk, TYI_mk, TYB_mk, TYP_mk, TYL_mk, TYS_mk, TYM_mk, SO_mk, NX_mk, endK_mk, endK_mk', add_0]
    have hp : placeP L [] = (0, 1) := by unfold placeP; rw [hv]; rfl
    rw [hp]
    refine BR_eq (fun _ => ?_) (fun hh => absurd rfl hh)
    refine BR_eq (fun _ => ?_) (fun hh => absurd rfl hh)
    exact aw s5 (e14.trans e5)
  · have v := vd_iff.1 hv
    have hn8 := v.hi
    have hlo := v.lo
    refine ⟨_, _, _, e13.cell c0, ?_⟩
    refine c_made (hy.ext e03) (by omega) fun s4 a d e4 fr pd bd => ?_
    try simp only [TUP_mk, AGG_mk, HD_mk, NL_mk, TYI_mk, TYB_mk, TYP_mk, TYL_mk, TYS_mk, TYM_mk, SO_mk, NX_mk, endK_mk, endK_mk', add_0]
    have e14 := e13.trans e4
    have e04 := e1.trans e14
    have hok := Perm0.ok pd
    have hback := map_back d
    have hdl : (d.map fun (n : Nat) => (n : Int)).length = L.n := by rw [List.length_map]; exact pd.len
    have hrow : RowAt s4 (some a) (vals d) := bd.row
    have hrowi : RowAt s4 (some a) (ints (d.map fun (n : Nat) => (n : Int))) := by rw [ints_vals]; exact hrow
    refine ⟨_, _, _, e14.cell c0, _, e14.cell c1, ?_⟩
    refine c_lawful (hm.ext e04) hrow hv pd.lt pd.len.symm pd.len fun s5 e5 => ?_
    try simp only [TUP_mk, AGG_mk, HD_mk, NL_mk, TYI_mk, TYB_mk, TYP_mk, TYL_mk, TYS_mk, TYM_mk, SO_mk, NX_mk, endK_mk, endK_mk', add_0]
    have e15 := e14.trans e5
    refine ⟨_, _, _, e15.cell c0, _, e15.cell c1, ?_⟩
    refine c_Check' (ds := d.map fun (n : Nat) => (n : Int)) (hm.ext (e1.trans e15)) (hrowi.ext e5) (by omega) hdl.symm fun s6 e6 => ?_
    try simp only [TUP_mk, AGG_mk, HD_mk, NL_mk, TYI_mk, TYB_mk, TYP_mk, TYL_mk, TYS_mk, TYM_mk, SO_mk, NX_mk, endK_mk, endK_mk', add_0]
    have e16 := e15.trans e6
    refine ⟨_, _, _, e16.cell c0, _, e16.cell c1, ?_⟩
    refine c_Place' (ds := d.map fun (n : Nat) => (n : Int)) (hm.ext (e1.trans e16)) (hrowi.ext (e5.trans e6)) (by omega) hdl.symm fun s7 e7 => ?_
    try simp only [TUP_mk, AGG_mk, HD_mk, NL_mk, TYI_mk, TYB_mk, TYP_mk, TYL_mk, TYS_mk, TYM_mk, SO_mk, NX_mk, endK_mk, endK_mk', add_0]
    have e17 := e16.trans e7
    refine ⟨_, _, _, e17.cell c0, _, e17.cell c1, ?_⟩
    refine c_Swaps' (ds := d.map fun (n : Nat) => (n : Int)) (hm.ext (e1.trans e17)) (hrowi.ext (e5.trans (e6.trans e7))) (by omega) hdl.symm (fun s8 vv e8 _ _ hw ho => ?_) (fun s8 e8 he => ?_)
    · rw [hback] at hw ho
      obtain ⟨xo, co, rfl, hro⟩ := ho
      try simp only [TUP_mk, AGG_mk, HD_mk, NL_mk, TYI_mk, TYB_mk, TYP_mk, TYL_mk, TYS_mk, TYM_mk, SO_mk, NX_mk, endK_mk, endK_mk', add_0]
      have hc : checkP L (d.map fun (n : Nat) => (n : Int)) = (0, 0, 4) := by unfold checkP; rw [hv, if_pos rfl, if_pos hok, hback, hw]
      have hp : placeP L (d.map fun (n : Nat) => (n : Int)) = (((placeN L d (full L.n) 8 : Nat) : Int), 0) := by unfold placeP; rw [hv, if_pos rfl, if_pos hok, hback, hw]
      rw [hc, hp]
      refine BR_bool (fun _ => ?_) (fun hh => by rw [decide_eq_true hw] at hh; cases hh)
      refine BR_eq (fun _ => ?_) (fun hh => absurd rfl hh)
      unfold J_law03_LotLawful_2
      refine BR_eq (fun _ => ?_) (fun hh => absurd rfl hh)
      unfold J_law03_LotLawful_1
      refine BR_eq (fun _ => ?_) (fun hh => absurd rfl hh)
      unfold J_law03_LotLawful_0
      refine BR_eq (fun _ => ?_) (fun hh => absurd rfl hh)
      refine BR_dec (fun _ => ?_) (fun hh => by dsimp only at hh; omega)
      refine BR_eq (fun _ => ?_) (fun hh => absurd rfl hh)
      exact aw s8 (e17.trans e8)
    · have hwne : wrong L d ≠ none := fun hw => by
        refine he ?_
        unfold errP
        rw [hv, if_pos rfl, if_pos hok, hback, hw]
      obtain ⟨⟨p, r⟩, hw⟩ := Option.ne_none_iff_exists'.1 hwne
      obtain ⟨hp1, hr, hr0, hall⟩ := wrong_some hw
      have hc : checkP L (d.map fun (n : Nat) => (n : Int)) = (((p : Nat) : Int), ((r : Nat) : Int), 0) := by unfold checkP; rw [hv, if_pos rfl, if_pos hok, hback, hw]
      have hp : placeP L (d.map fun (n : Nat) => (n : Int)) = (0, 4) := by unfold placeP; rw [hv, if_pos rfl, if_pos hok, hback, hw]
      have hs : errP L (d.map fun (n : Nat) => (n : Int)) = 4 := by unfold errP; rw [hv, if_pos rfl, if_pos hok, hback, hw]
      try simp only [TUP_mk, AGG_mk, HD_mk, NL_mk, TYI_mk, TYB_mk, TYP_mk, TYL_mk, TYS_mk, TYM_mk, SO_mk, NX_mk, endK_mk, endK_mk', add_0]
      rw [hc, hp, hs]
      have e18 := e17.trans e8
      have e48 := e5.trans (e6.trans (e7.trans e8))
      refine BR_bool (fun hh => by rw [decide_eq_false hwne] at hh; cases hh) (fun _ => ?_)
      refine BR_ne (fun hh => absurd rfl hh) (fun _ => ?_)
      unfold J_law03_LotLawful_13
      refine BR_ne (fun hh => absurd rfl hh) (fun _ => ?_)
      unfold J_law03_LotLawful_12
      refine BR_ne (fun hh => absurd rfl hh) (fun _ => ?_)
      unfold J_law03_LotLawful_11
      refine BR_ne (fun hh => absurd rfl hh) (fun _ => ?_)
      unfold J_law03_LotLawful_10
      refine BR_ne (fun hh => absurd rfl hh) (fun _ => ?_)
      unfold J_law03_LotLawful_9
      have hpl : p < L.n := by rw [← pd.len]; exact hp1
      refine BR_dec (fun hh => by dsimp only at hh; omega) (fun _ => ?_)
      unfold J_law03_LotLawful_8
      refine BR_dec (fun hh => by dsimp only at hh; omega) (fun _ => ?_)
      obtain ⟨a1, b1, ha1, hb1', g, hlt, g1, g2, g3⟩ := man_at ((hm.ext (e1.trans e18))) (hrow.ext e48) pd.lt hp1
      cases ha1
      have ti : ((p : Int)).toNat = p := by omega
      have tm : (((d.getD p 0 : Nat) : Int)).toNat = d.getD p 0 := by omega
      refine ⟨_, _, _, e18.cell c0, a, rfl, ⟨by omega, by omega⟩, _, by dsimp only; rw [ti]; exact g, b1, hb1', ⟨by omega, by omega⟩, ?_⟩
      dsimp only
      rw [ti, tm]
      refine ⟨_, g1, _, g2, _, g3, ?_⟩
      refine man_new3' (e18.cell c0) g g1 g2 g3 fun t2 e9 z9 o0 o1 o2 => ?_
      have e19 := e18.trans e9
      have e49 := e48.trans e9
      have dlen := pd.len
      rw [← dlen]
      have j3 : J_law03_LotLawful_3 W (endK K E) s.size (some a) d.length d.length r (r1 L (d.getD p 0) (prev d p)) (r2 L p (d.getD p 0)) (r3 L p (d.getD p 0)) p t2 := by
        unfold J_law03_LotLawful_3
        refine lawful_loop (x := x) (c := c) ((hm.ext (e1.trans e19))) (hrow.ext e49) hv pd.lt pd.len (e19.cell c0) (e19.cell c1) hp1 hall fun t3 nx e10 => ?_
        unfold B_law03_LotLawful_0
        refine BR_dec (fun hh => by omega) (fun _ => ?_)
        have fin := aw t3 (e19.trans e10)
        have h18 : ∀ b q1 q2 q3, (b = true ∨ (r = 3 ∧ q1 = false ∧ q2 = false ∧ q3 = true)) → J_law03_LotLawful_18 W (endK K E) b r q1 q2 q3 t3 := by
          rintro b q1 q2 q3 hb
          unfold J_law03_LotLawful_18
          refine BR_bool (fun _ => fin) (fun hf => ?_)
          rcases hb with hb | ⟨hb1, rfl, rfl, rfl⟩
          · rw [hb] at hf; cases hf
          · refine BR_eq (fun _ => ?_) (fun hh => absurd (by omega) hh)
            exact fin
        have h19 : ∀ b q1 q2 q3, (b = true ∨ (r = 2 ∧ q1 = false ∧ q2 = true) ∨ (r = 3 ∧ q1 = false ∧ q2 = false ∧ q3 = true)) → J_law03_LotLawful_19 W (endK K E) b r q1 q2 q3 t3 := by
          rintro b q1 q2 q3 hb
          unfold J_law03_LotLawful_19
          refine BR_bool (fun _ => h18 _ _ _ _ (.inl rfl)) (fun hf => ?_)
          rcases hb with hb | ⟨hb1, rfl, rfl⟩ | ⟨hb1, rfl, rfl, rfl⟩
          · rw [hb] at hf; cases hf
          · refine BR_eq (fun _ => ?_) (fun hh => absurd (by omega) hh)
            exact h18 _ _ _ _ (.inl rfl)
          · refine BR_eq (fun hh => by omega) (fun _ => ?_)
            exact h18 _ _ _ _ (.inr ⟨hb1, rfl, rfl, rfl⟩)
        unfold fst at hr
        refine BR_eq (fun hh => ?_) (fun hh => ?_)
        · refine h19 _ _ _ _ (.inl ?_)
          cases h1 : r1 L (d.getD p 0) (prev d p) with
          | true => rfl
          | false =>
            rw [h1] at hr
            cases h2 : r2 L p (d.getD p 0) <;> cases h3 : r3 L p (d.getD p 0) <;> rw [h2, h3] at hr <;> simp at hr <;> omega
        · refine h19 _ _ _ _ (.inr ?_)
          cases h1 : r1 L (d.getD p 0) (prev d p) with
          | true => rw [h1] at hr; simp at hr; omega
          | false =>
            rw [h1] at hr
            cases h2 : r2 L p (d.getD p 0) with
            | true => rw [h2] at hr; simp at hr; exact .inl ⟨hr, rfl, rfl⟩
            | false =>
              rw [h2] at hr
              cases h3 : r3 L p (d.getD p 0) with
              | true => rw [h3] at hr; simp at hr; exact .inr ⟨hr, rfl, rfl, rfl⟩
              | false => rw [h3] at hr; simp at hr; omega
      have j4 : ∀ b, b = r2 L p (d.getD p 0) → J_law03_LotLawful_4 W (endK K E) s8.size s.size p (some a) d.length d.length r (r1 L (d.getD p 0) (prev d p)) b t2 := by
        rintro b rfl
        unfold J_law03_LotLawful_4
        refine ⟨_, o2.cell, ?_⟩
        refine BR_bool (fun h3 => ?_) (fun h3 => ?_)
        · refine ⟨_, e19.cell c1, NNI_nat ?_⟩
          rw [bad_eq v (by omega)]
          have : bad L p = r3 L p (d.getD p 0) := by unfold r3; rw [h3]; simp
          rw [this]; exact j3
        · have : false = r3 L p (d.getD p 0) := by unfold r3; rw [h3]; simp
          rw [this]; exact j3
      have j5 : ∀ b, b = ((man L (d.getD p 0)).left && decide (p > 0)) → J_law03_LotLawful_5 W (endK K E) b s8.size s.size p (some a) d.length d.length r (r1 L (d.getD p 0) (prev d p)) t2 := by
        rintro b hb
        unfold J_law03_LotLawful_5
        refine BR_bool (fun h3 => ?_) (fun h3 => ?_)
        · refine j4 _ ?_
          rw [h3] at hb
          unfold r2
          rw [← hb, wrap_i64 (by omega) (by omega)]
          simp
          omega
        · refine j4 _ ?_
          rw [h3] at hb
          unfold r2
          rw [← hb]; simp
      have j6 : ∀ b, b = r1 L (d.getD p 0) (prev d p) → J_law03_LotLawful_6 W (endK K E) s8.size p s.size (some a) d.length d.length r b t2 := by
        rintro b rfl
        unfold J_law03_LotLawful_6
        refine ⟨_, o1.cell, ?_⟩
        refine BR_bool (fun h3 => ?_) (fun h3 => ?_)
        · refine j5 _ ?_
          rw [h3]; simp
        · refine j5 _ ?_
          rw [h3]; simp
      have j7 : ∀ bb : Bool, bb = (decide (p ≠ 0) && decide ((man L (d.getD p 0)).club ≠ 0)) → J_law03_LotLawful_7 W (endK K E) bb s8.size s.size (some a) d.length p d.length r t2 := by
        intro bb hbb
        unfold J_law03_LotLawful_7
        refine BR_bool (fun h2 => ?_) (fun h2 => j6 _ ?_)
        · rw [h2] at hbb
          obtain ⟨hk0, hc0⟩ : p ≠ 0 ∧ (man L (d.getD p 0)).club ≠ 0 := by simpa using hbb.symm
          obtain ⟨a', b', ha', hb', g', hlt', gg1, _, _⟩ := man_at (hm.ext (e1.trans e19)) (hrow.ext e49) pd.lt (show p - 1 < d.length by omega)
          have hp : prev d p = d.getD (p - 1) 0 := by unfold prev; rw [if_neg hk0]
          have hw' : IntKind.wrap .i64 ((p : Int) - 1) = ((p - 1 : Nat) : Int) := by rw [wrap_i64 (by omega) (by omega)]; omega
          refine ⟨_, o0.cell, _, _, _, e19.cell c0, ⟨_, _, _, e19.cell c0, rfl⟩, ⟨_, o0.cell, rfl⟩, ?_⟩
          rw [hw']
          have hmx : (if ((p - 1 : Nat) : Int) > 0 then ((p - 1 : Nat) : Int) else 0) = ((p - 1 : Nat) : Int) := by split <;> omega
          rw [hmx]
          have ti' : (((p - 1 : Nat) : Int)).toNat = p - 1 := by omega
          have tm' : (((d.getD (p - 1) 0 : Nat) : Int)).toNat = d.getD (p - 1) 0 := by omega
          refine ⟨a', ha', ⟨by omega, by omega⟩, _, by rw [ti']; exact g', b', hb', ⟨by omega, by omega⟩, _, by rw [tm']; exact gg1, ?_⟩
          refine j6 _ ?_
          unfold r1
          rw [hp]
          have h8 : d.getD (p - 1) 0 ≠ 8 := by omega
          simp only [h8, hc0, ne_eq, not_false_eq_true, decide_true, Bool.true_and, Bool.beq_eq_decide_eq]
        · rw [h2] at hbb
          unfold r1
          by_cases hk0 : p = 0
          · have : prev d p = 8 := by unfold prev; rw [if_pos hk0]
            rw [this]; simp
          · simp [hk0] at hbb
            simp [hbb]
      refine BR_dec (fun h2 => ?_) (fun h2 => ?_)
      · refine ⟨_, o0.cell, ?_⟩
        refine j7 _ ?_
        have : p ≠ 0 := by omega
        simp [this, bne, Bool.beq_eq_decide_eq]
      · refine j7 _ ?_
        have : p = 0 := by omega
        simp [this]
end
end Go.Proofs.Ytocnkdkgajdejaa.G

/- Draws of plots, in plain Lean: all lawful draws, in order. -/
namespace Go.Lot

/-- All lawful draws that go on, by who is left, and who came last. -/
def allF (L : Lts) : Nat → Nat → Nat → List (List Nat)
  | 0, _, _ => [[]]
  | f + 1, left, b => if left = 0 then [[]] else (menOf L.n left).flatMap fun m => if brk L (plotOf L.n left) m b = 0 then (allF L f (left - 2 ^ m) m).map (m :: ·) else []
def allL (L : Lts) (left b : Nat) : List (List Nat) := allF L 9 left b
def allD (L : Lts) : List (List Nat) := allL L (full L.n) 8
def okC (C : Nat → Nat → Bool) : Nat → List Nat → Bool
  | _, [] => true
  | q, m :: r => C q m && okC C (q + 1) r

theorem allF_zero (L : Lts) (f b : Nat) : allF L f 0 b = [[]] := by cases f <;> rfl
theorem allF_succ (L : Lts) (f left b : Nat) : allF L (f + 1) left b = if left = 0 then [[]] else (menOf L.n left).flatMap fun m => if brk L (plotOf L.n left) m b = 0 then (allF L f (left - 2 ^ m) m).map (m :: ·) else [] := rfl
theorem flatMap_congr' {α β : Type} {f g : α → List β} : ∀ (l : List α), (∀ x ∈ l, f x = g x) → l.flatMap f = l.flatMap g
  | [], _ => rfl
  | a :: l, h => by rw [List.flatMap_cons, List.flatMap_cons, h a (by simp), flatMap_congr' l (fun x hx => h x (by simp [hx]))]
theorem lt256 {n left : Nat} (hn : n ≤ 8) (hl : left < 2 ^ n) : left < 256 := Nat.lt_of_lt_of_le hl (show 2 ^ n ≤ 2 ^ 8 from Nat.pow_le_pow_right (by omega) hn)
theorem allF_stable (L : Lts) (hn : L.n ≤ 8) : ∀ (f left b : Nat), left < 2 ^ L.n → (menOf L.n left).length ≤ f → allF L f left b = allF L (f + 1) left b
  | 0, left, b, hl, hf => by
    have : left = 0 := menOf_nil hl (by omega)
    subst this; rw [allF_zero, allF_zero]
  | f + 1, left, b, hl, hf => by
    rw [allF_succ, allF_succ L (f + 1)]
    split
    · rfl
    · refine flatMap_congr' _ fun m hm => ?_
      obtain ⟨h1, h2⟩ := menOf_mem.1 hm
      have h3 := clr_len hn (lt256 hn hl) h1 h2
      rw [allF_stable L hn f (left - 2 ^ m) m (Nat.lt_of_le_of_lt (Nat.sub_le _ _) hl) (by omega)]
theorem allL_eq (L : Lts) (hn : L.n ≤ 8) {left b : Nat} (hl : left < 2 ^ L.n) (h0 : left ≠ 0) :
    allL L left b = (menOf L.n left).flatMap fun m => if brk L (plotOf L.n left) m b = 0 then (allL L (left - 2 ^ m) m).map (m :: ·) else [] := by
  unfold allL
  rw [allF_succ, if_neg h0]
  refine flatMap_congr' _ fun m hm => ?_
  obtain ⟨h1, h2⟩ := menOf_mem.1 hm
  have h3 := clr_len hn (lt256 hn hl) h1 h2
  have h4 := menOf_len_le L.n left
  rw [allF_stable L hn 8 (left - 2 ^ m) m (Nat.lt_of_le_of_lt (Nat.sub_le _ _) hl) (by omega)]
theorem allL_zero (L : Lts) (b : Nat) : allL L 0 b = [[]] := allF_zero L 9 b
/-- One less is left, one plot further. -/
theorem plot_clr {n left m : Nat} (hn : n ≤ 8) (hl : left < 2 ^ n) (hm : m < n) (hb : left.testBit m = true) : plotOf n (left - 2 ^ m) = plotOf n left + 1 := by
  unfold plotOf
  rw [menOf_clr hn (lt256 hn hl) hm hb]
  have hmem : m ∈ menOf n left := menOf_mem.2 ⟨hm, hb⟩
  have hnd := nodup_menOf n left
  have key : ∀ (l : List Nat), l.Nodup → m ∈ l → (l.filter (· != m)).length + 1 = l.length := by
    intro l
    induction l with
    | nil => intro _ h; cases h
    | cons a l ih =>
      intro hnd hmem
      obtain ⟨h1, h2⟩ := List.nodup_cons.1 hnd
      by_cases e : a = m
      · subst e
        have : l.filter (· != a) = l := List.filter_eq_self.2 fun x hx => by
          have : x ≠ a := fun e => h1 (e ▸ hx)
          simp [this]
        simp [this]
      · have hm' : m ∈ l := by rcases List.mem_cons.1 hmem with h | h; exact absurd h.symm e; exact h
        have := ih h2 hm'
        simp [e]; omega
  have h1 := key _ hnd hmem
  have h2 := menOf_len_le n left
  omega
theorem cnt_all (L : Lts) (C : Nat → Nat → Bool) (hn : L.n ≤ 8) : ∀ (f left b : Nat), left < 2 ^ L.n → (menOf L.n left).length ≤ f → cntF L C f left b = ((allF L f left b).filter (okC C (plotOf L.n left))).length
  | 0, left, b, hl, hf => by
    have : left = 0 := menOf_nil hl (by omega)
    subst this; rw [allF_zero, cntF_zero]; rfl
  | f + 1, left, b, hl, hf => by
    rw [allF_succ]
    unfold cntF
    split
    · rfl
    · rename_i h0
      have key : ∀ (l : List Nat), (∀ m ∈ l, m ∈ menOf L.n left) → (l.map fun m => if brk L (plotOf L.n left) m b = 0 ∧ C (plotOf L.n left) m = true then cntF L C f (left - 2 ^ m) m else 0).sum =
          ((l.flatMap fun m => if brk L (plotOf L.n left) m b = 0 then (allF L f (left - 2 ^ m) m).map (m :: ·) else []).filter (okC C (plotOf L.n left))).length := by
        intro l
        induction l with
        | nil => intro _; rfl
        | cons m l ih =>
          intro hl'
          rw [List.map_cons, List.sum_cons, List.flatMap_cons, List.filter_append, List.length_append, ih (fun x hx => hl' x (by simp [hx]))]
          congr 1
          obtain ⟨h1, h2⟩ := menOf_mem.1 (hl' m (by simp))
          have h3 := clr_len hn (lt256 hn hl) h1 h2
          by_cases hb : brk L (plotOf L.n left) m b = 0
          · rw [if_pos hb, List.filter_map, List.length_map]
            have e : (okC C (plotOf L.n left)) ∘ (m :: ·) = fun r => C (plotOf L.n left) m && okC C (plotOf L.n left + 1) r := by funext r; rfl
            rw [e]
            by_cases hc : C (plotOf L.n left) m = true
            · rw [if_pos ⟨hb, hc⟩, cnt_all L C hn f (left - 2 ^ m) m (Nat.lt_of_le_of_lt (Nat.sub_le _ _) hl) (by omega), plot_clr hn hl h1 h2, hc]
              simp
            · rw [if_neg (fun h => hc h.2)]
              have hc' : C (plotOf L.n left) m = false := by simpa using hc
              have hnil : (allF L f (left - 2 ^ m) m).filter (fun r => C (plotOf L.n left) m && okC C (plotOf L.n left + 1) r) = [] := List.filter_eq_nil_iff.2 fun r _ => by rw [hc']; simp
              rw [hnil]; rfl
          · rw [if_neg hb, if_neg (fun h => hb h.1)]; rfl
      exact key _ (fun m hm => hm)
theorem okC_any : ∀ (q : Nat) (d : List Nat), okC anyC q d = true
  | _, [] => rfl
  | q, m :: r => by show (anyC q m && okC anyC (q + 1) r) = true; rw [okC_any (q + 1) r]; rfl
theorem cnt_len (L : Lts) (hn : L.n ≤ 8) {left b : Nat} (hl : left < 2 ^ L.n) : cnt L anyC left b = (allL L left b).length := by
  unfold cnt allL
  rw [cnt_all L anyC hn 9 left b hl (Nat.le_trans (menOf_len_le _ _) (by omega)), List.filter_eq_self.2 (fun d _ => okC_any _ d)]
/-- Just the lawful ones are among them. -/
theorem mem_all (L : Lts) (hn : L.n ≤ 8) : ∀ (d : List Nat) (left b : Nat), left < 2 ^ L.n → (d ∈ allL L left b ↔ Law L d left b)
  | [], left, b, hl => by
    by_cases h0 : left = 0
    · subst h0; rw [allL_zero]; simp [Law]
    · rw [allL_eq L hn hl h0]
      constructor
      · intro h
        obtain ⟨m, _, hm⟩ := List.mem_flatMap.1 h
        split at hm
        · obtain ⟨r, _, hr⟩ := List.mem_map.1 hm; cases hr
        · cases hm
      · intro h; exact absurd h h0
  | m :: r, left, b, hl => by
    by_cases h0 : left = 0
    · subst h0; rw [allL_zero]
      constructor
      · intro h; simp at h
      · intro h; have := h.2.1; simp at this
    · rw [allL_eq L hn hl h0]
      have ih := mem_all L hn r (left - 2 ^ m) m (Nat.lt_of_le_of_lt (Nat.sub_le _ _) hl)
      constructor
      · intro h
        obtain ⟨m', hm', hd⟩ := List.mem_flatMap.1 h
        obtain ⟨h1, h2⟩ := menOf_mem.1 hm'
        split at hd
        · rename_i hb
          obtain ⟨r', hr', he⟩ := List.mem_map.1 hd
          cases he
          exact ⟨h1, h2, hb, ih.1 hr'⟩
        · cases hd
      · rintro ⟨h1, h2, h3, h4⟩
        exact List.mem_flatMap.2 ⟨m, menOf_mem.2 ⟨h1, h2⟩, by rw [if_pos h3]; exact List.mem_map.2 ⟨r, ih.2 h4, rfl⟩⟩
/-- By the first plot that is unlike. -/
def lexLt : List Nat → List Nat → Prop
  | a :: u, b :: w => a < b ∨ (a = b ∧ lexLt u w)
  | _, _ => False
theorem lexLt_irrefl : ∀ d, ¬ lexLt d d
  | [] => id
  | a :: u => fun h => h.elim (fun h => Nat.lt_irrefl _ h) (fun h => lexLt_irrefl u h.2)
theorem lexLt_trans : ∀ (a b c : List Nat), lexLt a b → lexLt b c → lexLt a c
  | [], _, _, h, _ => h.elim
  | _ :: _, [], _, h, _ => h.elim
  | _ :: _, _ :: _, [], _, h => h.elim
  | x :: a, y :: b, z :: c, h1, h2 => by
    rcases h1 with h1 | ⟨h1, h1'⟩ <;> rcases h2 with h2 | ⟨h2, h2'⟩
    · exact .inl (Nat.lt_trans h1 h2)
    · exact .inl (h2 ▸ h1)
    · exact .inl (h1 ▸ h2)
    · exact .inr ⟨h1.trans h2, lexLt_trans a b c h1' h2'⟩
theorem lexLt_total : ∀ (a b : List Nat), a.length = b.length → a = b ∨ lexLt a b ∨ lexLt b a
  | [], [], _ => .inl rfl
  | x :: a, y :: b, h => by
    rcases Nat.lt_trichotomy x y with h1 | h1 | h1
    · exact .inr (.inl (.inl h1))
    · subst h1
      rcases lexLt_total a b (by simpa using h) with h2 | h2 | h2
      · exact .inl (by rw [h2])
      · exact .inr (.inl (.inr ⟨rfl, h2⟩))
      · exact .inr (.inr (.inr ⟨rfl, h2⟩))
    · exact .inr (.inr (.inl h1))
theorem menOf_sorted (n left : Nat) : (menOf n left).Pairwise (· < ·) := by
  unfold menOf
  exact List.Pairwise.sublist List.filter_sublist List.pairwise_lt_range
/-- They are in order. -/
theorem sorted_all (L : Lts) (hn : L.n ≤ 8) : ∀ (f left b : Nat), left < 2 ^ L.n → (menOf L.n left).length ≤ f → (allF L f left b).Pairwise lexLt
  | 0, left, b, hl, hf => by simp [allF]
  | f + 1, left, b, hl, hf => by
    rw [allF_succ]
    split
    · simp
    · have key : ∀ (l : List Nat), l.Pairwise (· < ·) → (∀ m ∈ l, m ∈ menOf L.n left) → (l.flatMap fun m => if brk L (plotOf L.n left) m b = 0 then (allF L f (left - 2 ^ m) m).map (m :: ·) else []).Pairwise lexLt := by
        intro l
        induction l with
        | nil => intro _ _; simp
        | cons m l ih =>
          intro hs hl'
          obtain ⟨hs1, hs2⟩ := List.pairwise_cons.1 hs
          rw [List.flatMap_cons, List.pairwise_append]
          obtain ⟨h1, h2⟩ := menOf_mem.1 (hl' m (by simp))
          have h3 := clr_len hn (lt256 hn hl) h1 h2
          refine ⟨?_, ih hs2 (fun x hx => hl' x (by simp [hx])), ?_⟩
          · split
            · refine List.pairwise_map.2 ?_
              exact List.Pairwise.imp (fun h => .inr ⟨rfl, h⟩) (sorted_all L hn f (left - 2 ^ m) m (Nat.lt_of_le_of_lt (Nat.sub_le _ _) hl) (by omega))
            · exact List.Pairwise.nil
          · intro x hx y hy
            split at hx
            · obtain ⟨x', _, rfl⟩ := List.mem_map.1 hx
              obtain ⟨m', hm', hy'⟩ := List.mem_flatMap.1 hy
              split at hy'
              · obtain ⟨y', _, rfl⟩ := List.mem_map.1 hy'
                exact .inl (hs1 m' hm')
              · cases hy'
            · cases hx
      exact key _ (menOf_sorted _ _) (fun m hm => hm)
theorem allD_sorted (L : Lts) (hn : L.n ≤ 8) {left b : Nat} (hl : left < 2 ^ L.n) : (allL L left b).Pairwise lexLt := sorted_all L hn 9 left b hl (Nat.le_trans (menOf_len_le _ _) (by omega))
/-- Of those who can come now alone. -/
theorem allL_cans (L : Lts) (hn : L.n ≤ 8) {left b : Nat} (hl : left < 2 ^ L.n) (h0 : left ≠ 0) : allL L left b = (cans L left b).flatMap fun m => (allL L (left - 2 ^ m) m).map (m :: ·) := by
  rw [allL_eq L hn hl h0]
  unfold cans
  have key : ∀ (l : List Nat), (l.flatMap fun m => if brk L (plotOf L.n left) m b = 0 then (allL L (left - 2 ^ m) m).map (m :: ·) else []) = (l.filter (good L left b)).flatMap fun m => (allL L (left - 2 ^ m) m).map (m :: ·) := by
    intro l
    induction l with
    | nil => rfl
    | cons m l ih =>
      rw [List.flatMap_cons, ih]
      by_cases hg : good L left b m = true
      · have hb : brk L (plotOf L.n left) m b = 0 := by unfold good at hg; simp at hg; exact hg.1
        rw [if_pos hb, List.filter_cons, if_pos hg, List.flatMap_cons]
      · rw [List.filter_cons, if_neg hg]
        split
        · rename_i hb
          have hc : cnt L anyC (left - 2 ^ m) m = 0 := by
            unfold good at hg
            simp [hb] at hg
            omega
          rw [cnt_len L hn (Nat.lt_of_le_of_lt (Nat.sub_le _ _) hl)] at hc
          rw [List.eq_nil_of_length_eq_zero hc]; rfl
        · rfl
  exact key _
theorem flat_get (B : Nat → List (List Nat)) : ∀ (l : List Nat) (i : Nat) (hi : i < l.length) (j : Nat), j < (B l[i]).length → (l.flatMap B)[((l.take i).map fun m => (B m).length).sum + j]? = (B l[i])[j]?
  | [], i, hi, j, hj => by simp at hi
  | m :: l, 0, hi, j, hj => by
    rw [List.flatMap_cons]
    simp only [List.take_zero, List.map_nil, List.sum_nil, Nat.zero_add]
    rw [List.getElem?_append_left (by simpa using hj)]
    rfl
  | m :: l, i + 1, hi, j, hj => by
    rw [List.flatMap_cons]
    simp only [List.take_succ_cons, List.map_cons, List.sum_cons, List.getElem_cons_succ] at hj ⊢
    rw [List.getElem?_append_right (by omega)]
    have := flat_get B l i (by simpa using hi) j hj
    rw [← this]
    congr 1; omega
theorem manys_sum (L : Lts) (hn : L.n ≤ 8) {left b : Nat} (hl : left < 2 ^ L.n) (i : Nat) : ((manys L left b).take i).sum = (((cans L left b).take i).map fun m => ((allL L (left - 2 ^ m) m).map (m :: ·)).length).sum := by
  unfold manys
  rw [← List.map_take]
  congr 1
  apply List.map_congr_left
  intro m _
  rw [List.length_map, cnt_len L hn (Nat.lt_of_le_of_lt (Nat.sub_le _ _) hl)]
/-- The one with an index. -/
theorem nth_all (L : Lts) (hn : L.n ≤ 8) : ∀ (f n left b : Nat), left < 2 ^ L.n → (menOf L.n left).length ≤ f → n < cnt L anyC left b → (allL L left b)[n]? = some (runC (nthN L) f n left b)
  | 0, n, left, b, hl, hf, h => by
    have : left = 0 := menOf_nil hl (by omega)
    subst this
    have hc : cnt L anyC 0 b = 1 := cntF_zero L anyC 9 b
    have : n = 0 := by omega
    subst this
    rw [allL_zero]; rfl
  | f + 1, n, left, b, hl, hf, h => by
    by_cases h0 : left = 0
    · subst h0
      have hc : cnt L anyC 0 b = 1 := cntF_zero L anyC 9 b
      have : n = 0 := by omega
      subst this
      rw [allL_zero]; rfl
    · obtain ⟨i, h1, h2, h3, h4, h5⟩ := nth_ok L hn hl h0 h
      have hi : i < (cans L left b).length := (List.getElem?_eq_some_iff.1 h1).1
      have hci : (cans L left b)[i] = (nthN L n left b).1 := by rw [List.getElem?_eq_getElem hi] at h1; exact Option.some.inj h1
      have hmem : (nthN L n left b).1 ∈ menOf L.n left := by rw [← hci]; exact (List.mem_filter.1 (List.getElem_mem hi)).1
      obtain ⟨hm1, hm2⟩ := menOf_mem.1 hmem
      have hclr := clr_len hn (lt256 hn hl) hm1 hm2
      have hl2 : left - 2 ^ (nthN L n left b).1 < 2 ^ L.n := Nat.lt_of_le_of_lt (Nat.sub_le _ _) hl
      have ih := nth_all L hn f (nthN L n left b).2 (left - 2 ^ (nthN L n left b).1) (nthN L n left b).1 hl2 (by omega) h2
      have hrun : runC (nthN L) (f + 1) n left b = (nthN L n left b).1 :: runC (nthN L) f (nthN L n left b).2 (left - 2 ^ (nthN L n left b).1) (nthN L n left b).1 := by
        show (if left = 0 then [] else _) = _
        rw [if_neg h0]
      rw [hrun, allL_cans L hn hl h0]
      have hlt : (nthN L n left b).2 < ((fun m => (allL L (left - 2 ^ m) m).map (m :: ·)) (cans L left b)[i]).length := by
        rw [hci]
        simp only [List.length_map]
        rw [← cnt_len L hn hl2]; exact h2
      have hg := flat_get (fun m => (allL L (left - 2 ^ m) m).map (m :: ·)) (cans L left b) i hi (nthN L n left b).2 hlt
      rw [← manys_sum L hn hl i] at hg
      have hidx : ((manys L left b).take i).sum + (nthN L n left b).2 = n := by omega
      rw [hidx] at hg
      rw [hg, hci]
      simp only [List.getElem?_map, ih]
      rfl
/-- The place of a lawful one. -/
theorem place_all (L : Lts) (hn : L.n ≤ 8) : ∀ (d : List Nat) (left b : Nat), left < 2 ^ L.n → Law L d left b → (allL L left b)[placeN L d left b]? = some d
  | [], left, b, hl, h => by
    have : left = 0 := h
    subst this
    rw [allL_zero]; rfl
  | m :: r, left, b, hl, h => by
    have hc := law_can L hn hl h
    obtain ⟨h1, h2, h3, h4⟩ := h
    have h0 : left ≠ 0 := fun e => by subst e; simp at h2
    have hl2 : left - 2 ^ m < 2 ^ L.n := Nat.lt_of_le_of_lt (Nat.sub_le _ _) hl
    have ih := place_all L hn r (left - 2 ^ m) m hl2 h4
    rw [allL_cans L hn hl h0]
    have hi : (cans L left b).idxOf m < (cans L left b).length := List.idxOf_lt_length_of_mem hc
    have hci : (cans L left b)[(cans L left b).idxOf m] = m := List.getElem_idxOf hi
    have hlt : placeN L r (left - 2 ^ m) m < ((fun m => (allL L (left - 2 ^ m) m).map (m :: ·)) (cans L left b)[(cans L left b).idxOf m]).length := by
      rw [hci]
      simp only [List.length_map]
      exact (List.getElem?_eq_some_iff.1 ih).1
    have hg := flat_get (fun m => (allL L (left - 2 ^ m) m).map (m :: ·)) (cans L left b) ((cans L left b).idxOf m) hi (placeN L r (left - 2 ^ m) m) hlt
    rw [← manys_sum L hn hl _] at hg
    show ((cans L left b).flatMap _)[((manys L left b).take ((cans L left b).idxOf m)).sum + placeN L r (left - 2 ^ m) m]? = _
    rw [hg, hci]
    simp only [List.getElem?_map, ih]
    rfl
end Go.Lot

/- Draws of plots, in plain Lean: what the lawful draws are; how often somebody has a plot. -/
set_option linter.unusedSimpArgs false
set_option linter.unusedVariables false
namespace Go.Proofs.Ytocnkdkgajdejaa.G
open Go.V Go.Lot
theorem law_perm {L : Lts} (hn : L.n ≤ 8) : ∀ (d : List Nat) (left b : Nat), left < 2 ^ L.n → Law L d left b → d.Nodup ∧ (∀ m ∈ d, m < L.n) ∧ (∀ j, j < L.n → (left.testBit j = true ↔ j ∈ d))
  | [], left, b, hl, h => by
    have : left = 0 := h
    subst this
    exact ⟨List.nodup_nil, by simp, by simp⟩
  | m :: r, left, b, hl, h => by
    obtain ⟨h1, h2, h3, h4⟩ := h
    obtain ⟨i1, i2, i3⟩ := law_perm hn r (left - 2 ^ m) m (Nat.lt_of_le_of_lt (Nat.sub_le _ _) hl) h4
    have hb := clr_bits left (lt256 hn hl) m (by omega) h2
    have hnot : m ∉ r := fun hm => by
      have := (i3 m h1).2 hm
      rw [hb m (by omega)] at this
      simp at this
    refine ⟨List.nodup_cons.2 ⟨hnot, i1⟩, ?_, ?_⟩
    · intro x hx
      rcases List.mem_cons.1 hx with rfl | hx
      · exact h1
      · exact i2 x hx
    · intro j hj
      have := i3 j hj
      rw [hb j (by omega)] at this
      by_cases e : j = m
      · subst e; simp [h2]
      · simp [e] at this ⊢; exact this
theorem law_clean {L : Lts} (hn : L.n ≤ 8) : ∀ (d : List Nat) (left b : Nat), left < 2 ^ L.n → Law L d left b → ∀ j, j < d.length → brk L (plotOf L.n left + j) (d.getD j 0) (if j = 0 then b else d.getD (j - 1) 0) = 0
  | [], left, b, hl, h => by simp
  | m :: r, left, b, hl, h => by
    obtain ⟨h1, h2, h3, h4⟩ := h
    have ih := law_clean hn r (left - 2 ^ m) m (Nat.lt_of_le_of_lt (Nat.sub_le _ _) hl) h4
    rw [plot_clr hn hl h1 h2] at ih
    intro j hj
    cases j with
    | zero => simpa using h3
    | succ j =>
      have := ih j (by simpa using hj)
      rw [show plotOf L.n left + (j + 1) = plotOf L.n left + 1 + j by omega, if_neg (by omega)]
      cases j with
      | zero => simpa using this
      | succ j => simpa using this
theorem full_lt8 {n : Nat} : full n < 2 ^ n := by unfold full; have : 0 < 2 ^ n := Nat.pos_of_ne_zero (by simp); omega
theorem plot_full {n : Nat} : plotOf n (full n) = 0 := by
  unfold plotOf menOf
  rw [List.filter_eq_self.2 (fun i hi => full_bits (List.mem_range.1 hi))]
  simp
theorem perm_of_mem {n : Nat} {d : List Nat} (hd : d.Nodup) (hlt : ∀ m ∈ d, m < n) (hall : ∀ j, j < n → j ∈ d) : Perm0 n d := by
  refine ⟨?_, hd, hlt⟩
  have h1 : d.Perm (List.range n) := by
    rw [List.perm_iff_count]
    intro a
    rw [hd.count, List.nodup_range.count]
    by_cases h : a ∈ d
    · rw [if_pos h, if_pos (List.mem_range.2 (hlt a h))]
    · rw [if_neg h, if_neg (fun h' => h (hall a (List.mem_range.1 h')))]
  rw [h1.length_eq, List.length_range]
/-- Just those that are draws, and break nothing, are lawful. -/
theorem mem_allD {L : Lts} (hn : L.n ≤ 8) {d : List Nat} : d ∈ allD L ↔ Perm0 L.n d ∧ wrong L d = none := by
  unfold allD
  rw [mem_all L hn d _ _ full_lt8]
  constructor
  · intro h
    obtain ⟨h1, h2, h3⟩ := law_perm hn d _ _ full_lt8 h
    refine ⟨perm_of_mem h1 h2 (fun j hj => (h3 j hj).1 (full_bits hj)), wrong_none.2 fun j hj => ?_⟩
    have := law_clean hn d _ _ full_lt8 h j hj
    rw [plot_full, Nat.zero_add] at this
    exact this
  · rintro ⟨h1, h2⟩
    exact law_full hn h1.nd h1.lt h1.len h2
theorem cntAll_len {L : Lts} (hn : L.n ≤ 8) (C : Nat → Nat → Bool) : cntAll L C = ((allD L).filter (okC C 0)).length := by
  unfold cntAll cnt allD allL
  rw [cnt_all L C hn 9 _ 8 full_lt8 (Nat.le_trans (menOf_len_le _ _) (by omega)), plot_full]
theorem cntAny_len {L : Lts} (hn : L.n ≤ 8) : cntAll L anyC = (allD L).length := by
  rw [cntAll_len hn, List.filter_eq_self.2 (fun d _ => okC_any _ d)]
theorem okC_iff {C : Nat → Nat → Bool} : ∀ (d : List Nat) (q : Nat), okC C q d = true ↔ ∀ j, j < d.length → C (q + j) (d.getD j 0) = true
  | [], q => by simp [okC]
  | m :: r, q => by
    show (C q m && okC C (q + 1) r) = true ↔ _
    rw [Bool.and_eq_true, okC_iff r (q + 1)]
    constructor
    · rintro ⟨h1, h2⟩ j hj
      cases j with
      | zero => simpa using h1
      | succ j =>
        have := h2 j (by simpa using hj)
        rw [show q + (j + 1) = q + 1 + j by omega]
        simpa using this
    · intro h
      refine ⟨by simpa using h 0 (by simp), fun j hj => ?_⟩
      have := h (j + 1) (by simpa using hj)
      rw [show q + (j + 1) = q + 1 + j by omega] at this
      simpa using this
theorem perm_inj {n : Nat} {d : List Nat} (h : Perm0 n d) {i j : Nat} (hi : i < n) (hj : j < n) (e : d.getD i 0 = d.getD j 0) : i = j := by
  have hi' : i < d.length := by rw [h.len]; exact hi
  have hj' : j < d.length := by rw [h.len]; exact hj
  have e1 : d.getD i 0 = d[i] := by simp [List.getD, hi']
  have e2 : d.getD j 0 = d[j] := by simp [List.getD, hj']
  rw [e1, e2] at e
  have hpw := List.pairwise_iff_getElem.1 h.nd
  rcases Nat.lt_trichotomy i j with h1 | h1 | h1
  · exact absurd e (hpw i j hi' hj' h1)
  · exact h1
  · exact absurd e.symm (hpw j i hj' hi' h1)
theorem those_iff {n p m : Nat} {d : List Nat} (h : Perm0 n d) (hp : p < n) : okC (thoseC p m) 0 d = (d.getD p 0 == m) := by
  rw [Bool.eq_iff_iff, okC_iff]
  constructor
  · intro hh
    have := hh p (by rw [h.len]; exact hp)
    unfold thoseC at this
    simp only [Nat.zero_add, beq_self_eq_true] at this
    simpa using this
  · intro hh j hj
    have hm : d.getD p 0 = m := by simpa using hh
    unfold thoseC
    rw [Nat.zero_add]
    by_cases e : j = p
    · subst e; rw [hm]; simp
    · have : d.getD j 0 ≠ m := fun e' => e (perm_inj h (by rw [← h.len]; exact hj) hp (e'.trans hm.symm))
      have h1 : (j == p) = false := by simpa using e
      have h2 : (d.getD j 0 == m) = false := by simpa using this
      rw [h1, h2]; rfl
theorem perm_get {n p : Nat} {d : List Nat} (h : Perm0 n d) (hp : p < n) : d.getD p 0 < n := by
  have hp' : p < d.length := by rw [h.len]; exact hp
  have e : d.getD p 0 = d[p] := by simp [List.getD, hp']
  rw [e]; exact h.lt _ (List.getElem_mem _)
/-- Somebody has a plot in so many lawful draws. -/
def ofN (L : Lts) (m p : Nat) : Nat := cntAll L (thoseC p m)
theorem ofN_eq {L : Lts} (hn : L.n ≤ 8) {m p : Nat} (hp : p < L.n) : ofN L m p = ((allD L).filter fun d => d.getD p 0 == m).length := by
  unfold ofN
  rw [cntAll_len hn]
  congr 1
  apply List.filter_congr
  intro d hd
  exact those_iff ((mem_allD hn).1 hd).1 hp
theorem ofN_pos {L : Lts} (hn : L.n ≤ 8) {m p : Nat} (hp : p < L.n) : 0 < ofN L m p ↔ ∃ d, Perm0 L.n d ∧ wrong L d = none ∧ d.getD p 0 = m := by
  rw [ofN_eq hn hp, List.length_pos_iff_exists_mem]
  constructor
  · rintro ⟨d, hd⟩
    obtain ⟨h1, h2⟩ := List.mem_filter.1 hd
    obtain ⟨h3, h4⟩ := (mem_allD hn).1 h1
    exact ⟨d, h3, h4, by simpa using h2⟩
  · rintro ⟨d, h1, h2, h3⟩
    exact ⟨d, List.mem_filter.2 ⟨(mem_allD hn).2 ⟨h1, h2⟩, by simpa using h3⟩⟩
theorem sum_one {p : Nat → Bool} : ∀ (n i : Nat), i < n → p i = true → (∀ j, j < n → p j = true → j = i) → ((List.range n).map fun j => if p j then 1 else 0).sum = 1
  | 0, i, h, _, _ => by omega
  | n + 1, i, h, hp, hu => by
    rw [List.range_succ, List.map_append, List.sum_append]
    by_cases e : i = n
    · subst e
      have : ((List.range i).map fun j => if p j then 1 else 0).sum = 0 := by
        have key : ∀ (l : List Nat), (∀ x ∈ l, x < i) → (l.map fun j => if p j then 1 else 0).sum = 0 := by
          intro l
          induction l with
          | nil => intro _; rfl
          | cons a l ih =>
            intro hl
            have ha := hl a (by simp)
            have hpa : p a = false := by
              cases h : p a with
              | false => rfl
              | true => have := hu a (by omega) h; omega
            rw [List.map_cons, List.sum_cons, ih (fun x hx => hl x (by simp [hx])), hpa]; rfl
        exact key _ (fun x hx => List.mem_range.1 hx)
      rw [this]; simp [hp]
    · have hpn : p n = false := by
        cases h : p n with
        | false => rfl
        | true => exact absurd (hu n (by omega) h).symm e
      rw [sum_one n i (by omega) hp (fun j hj hpj => hu j (by omega) hpj)]
      simp [hpn]
theorem sum_map_add (f g : Nat → Nat) : ∀ (l : List Nat), (l.map fun i => f i + g i).sum = (l.map f).sum + (l.map g).sum
  | [] => rfl
  | a :: l => by simp only [List.map_cons, List.sum_cons]; rw [sum_map_add f g l]; omega
theorem sum_zero (l : List Nat) : (l.map fun _ => 0).sum = 0 := by induction l <;> simp_all
/-- Each one of a list has just one of the first numbers. -/
theorem sum_count {α : Type} {P : α → Nat → Bool} {n : Nat} : ∀ (l : List α), (∀ d ∈ l, ∃ i, i < n ∧ P d i = true ∧ ∀ j, j < n → P d j = true → j = i) → ((List.range n).map fun i => (l.filter fun d => P d i).length).sum = l.length
  | [], _ => sum_zero _
  | d :: l, h => by
    obtain ⟨i, h1, h2, h3⟩ := h d (by simp)
    have e : (fun i => ((d :: l).filter fun d => P d i).length) = fun i => (if P d i then 1 else 0) + (l.filter fun d => P d i).length := by
      funext i
      rw [List.filter_cons]
      cases hp : P d i <;> simp [hp]; omega
    rw [e, sum_map_add, sum_one n i h1 h2 h3, sum_count l (fun x hx => h x (by simp [hx]))]
    simp; omega
def ofPlots (L : Lts) (m k : Nat) : Nat := ((List.range k).map fun i => ofN L m i).sum
def ofMen (L : Lts) (p k : Nat) : Nat := ((List.range k).map fun i => ofN L i p).sum
theorem ofPlots_succ (L : Lts) (m k : Nat) : ofPlots L m (k + 1) = ofPlots L m k + ofN L m k := by unfold ofPlots; rw [List.range_succ]; simp
theorem ofMen_succ (L : Lts) (p k : Nat) : ofMen L p (k + 1) = ofMen L p k + ofN L k p := by unfold ofMen; rw [List.range_succ]; simp
theorem perm_has {n m : Nat} {d : List Nat} (h : Perm0 n d) (hm : m < n) : ∃ i, i < n ∧ d.getD i 0 = m := by
  have hmem : m ∈ d := by
    refine Decidable.byContradiction fun hj' => ?_
    have hsub : d ⊆ (List.range n).erase m := fun x hx => by
      refine (List.nodup_range.mem_erase_iff).2 ⟨fun e => hj' (e ▸ hx), List.mem_range.2 (h.lt x hx)⟩
    have h1 := h.nd.length_le_of_subset hsub
    rw [List.length_erase_of_mem (List.mem_range.2 hm), List.length_range, h.len] at h1
    omega
  obtain ⟨i, hi, e⟩ := List.getElem_of_mem hmem
  exact ⟨i, by rw [← h.len]; exact hi, by simp [List.getD, hi, e]⟩
theorem ofPlots_all {L : Lts} (hn : L.n ≤ 8) {m : Nat} (hm : m < L.n) : ofPlots L m L.n = cntAll L anyC := by
  unfold ofPlots
  rw [cntAny_len hn]
  have e : ((List.range L.n).map fun i => ofN L m i) = (List.range L.n).map fun i => ((allD L).filter fun d => d.getD i 0 == m).length := by
    apply List.map_congr_left
    intro i hi
    exact ofN_eq hn (List.mem_range.1 hi)
  rw [e]
  refine sum_count (P := fun (d : List Nat) i => d.getD i 0 == m) _ fun d hd => ?_
  have hp := ((mem_allD hn).1 hd).1
  obtain ⟨i, h1, h2⟩ := perm_has hp hm
  exact ⟨i, h1, by simpa using h2, fun j hj h3 => perm_inj hp hj h1 (by rw [h2]; simpa using h3)⟩
theorem ofMen_all {L : Lts} (hn : L.n ≤ 8) {p : Nat} (hp : p < L.n) : ofMen L p L.n = cntAll L anyC := by
  unfold ofMen
  rw [cntAny_len hn]
  have e : ((List.range L.n).map fun i => ofN L i p) = (List.range L.n).map fun i => ((allD L).filter fun d => d.getD p 0 == i).length := by
    apply List.map_congr_left
    intro i _
    exact ofN_eq hn hp
  rw [e]
  refine sum_count (P := fun (d : List Nat) i => d.getD p 0 == i) _ fun d hd => ?_
  have hd' := ((mem_allD hn).1 hd).1
  exact ⟨d.getD p 0, perm_get hd' hp, beq_self_eq_true _, fun j _ h3 => (beq_iff_eq.1 h3).symm⟩
theorem ofN_le (L : Lts) (hn : L.n ≤ 8) (m p : Nat) : ofN L m p ≤ 134217728 := cnt_le L _ hn _ _
/-- Somebody who has a plot there breaks nothing. -/
theorem ofN_ok {L : Lts} (hn : L.n ≤ 8) {m p : Nat} (hp : p < L.n) (h : 0 < ofN L m p) : r2 L p m = false ∧ r3 L p m = false := by
  obtain ⟨d, h1, h2, h3⟩ := (ofN_pos hn hp).1 h
  have h4 := wrong_none.1 h2 p (by rw [h1.len]; exact hp)
  have h5 := brk_zero L p (d.getD p 0) (prev d p)
  rw [decide_eq_true h4, h3] at h5
  have h6 : (r1 L m (prev d p) || r2 L p m || r3 L p m) = false := by simpa using h5
  simp at h6
  exact ⟨h6.1.2, h6.2⟩
theorem canSet_bit (L : Lts) (man : Nat) : ∀ (k i : Nat), (canSet L man k).testBit i = (decide (i < k) && decide (0 < ofN L man i))
  | 0, i => by simp [canSet]
  | k + 1, i => by
    have ih := canSet_bit L man k i
    have hk : (canSet L man k).testBit k = false := by rw [canSet_bit L man k k]; simp
    have hof : cnt L (fun q m => (q == k) == (m == man)) (full L.n) 8 = ofN L man k := rfl
    unfold canSet
    rw [hof]
    by_cases hp : 0 < ofN L man k
    · rw [if_pos hp, Nat.testBit_or, ih, Nat.testBit_two_pow]
      by_cases e : k = i
      · subst e; simp [hp]
      · have : (i < k + 1) = (i < k) := propext (by omega)
        simp [e, this]
    · rw [if_neg hp, ih]
      by_cases e : k = i
      · subst e; simp [hp]
      · have : (i < k + 1) = (i < k) := propext (by omega)
        simp [this]
end Go.Proofs.Ytocnkdkgajdejaa.G

/- More of the functions' shallow texts, by gen.py. -/
set_option linter.unusedVariables false
set_option maxRecDepth 100000
namespace Go.Proofs.Ytocnkdkgajdejaa.G
open Go.V
def an_8 : Nat → Ann := fun b => match b with
  | 0 => { ms := [6, 14, 15, 68], ks := [.b, .i .i64, .i .i64, .i .i64], us := [3, 7, 8, 9, 10, 12, 67, 163], rt := false, ex := [] }
  | _ => {}
abbrev rv_8 : List ResultVar := [.tmp 6]
abbrev rs_8 : List Nat := [163, 6]
def L_law03_LotOften_0 (W : World) (R : Ending → Hp → Prop) (za0 : Addr) (zn1 : Int) (zn2 : Int) (zn3 : Int) (zn4 : Int) (zn5 : Int) (b58 : Bool) (n59 : Int) (n60 : Int) (n61 : Int) : Hp → Prop :=
  LOOPN [.b, .i .i64, .i .i64, .i .i64] (fun ys next s => ∀ j : Tm, vc Pg W 163 rs_8 an_8 false (sub (bodyOf Try.f8) [1, 1, 1, 1, 1, 1, 1, 1, 0, 1, 0, 0]) 0 (KLoop [6, 14, 15, 68] [3, 7, 8, 9, 10, 12, 67, 163] [(.pointer (some za0)), (.int .i64 zn1), (.int .i64 zn2), (.int .i64 zn3), (.int .i64 zn4), (.int .i64 zn5), (.int .i64 zn1), (.tuple #[])] next (KBlk 0 (KS Pg W 163 rs_8 an_8 false (sub (bodyOf Try.f8) [1, 1, 1, 1, 1, 1, 1, 1, 1]) 0 (fin Pg W 163 rv_8 R)))) (known [6, 14, 15, 68] ys (known [3, 7, 8, 9, 10, 12, 67, 163] [(.pointer (some za0)), (.int .i64 zn1), (.int .i64 zn2), (.int .i64 zn3), (.int .i64 zn4), (.int .i64 zn5), (.int .i64 zn1), (.tuple #[])] j)) s) [(.bool b58), (.int .i64 n59), (.int .i64 n60), (.int .i64 n61)]
def J_law03_LotOften_0 (W : World) (R : Ending → Hp → Prop) (b50 : Bool) (B7 : Nat) (l20 : Nat) (n5 : Int) (n6 : Int) (n31 : Int) (n44 : Int) : Hp → Prop :=
  BR b50
    (R (.returned (.bool false)))
    (L_law03_LotOften_0 W R ⟨B7, 0, none⟩ (↑l20 : Int) (Int.tmod (IntKind.wrap .i64 n5) (↑l20 : Int)) (Int.tmod (IntKind.wrap .i64 n6) (↑l20 : Int)) n31 n44 false 0 0 0)
def J_law03_LotOften_1 (W : World) (R : Ending → Hp → Prop) (b49 : Bool) (B7 : Nat) (l20 : Nat) (n5 : Int) (n6 : Int) (n31 : Int) (n44 : Int) : Hp → Prop :=
  BR b49
    (J_law03_LotOften_0 W R true B7 l20 n5 n6 n31 n44)
    (NNI (↑l20 : Int) <|
      J_law03_LotOften_0 W R ((shrv .i64 n44 (↑l20 : Int)) != 0) B7 l20 n5 n6 n31 n44)
def J_law03_LotOften_2 (W : World) (R : Ending → Hp → Prop) (b48 : Bool) (B7 : Nat) (l20 : Nat) (n5 : Int) (n6 : Int) (n31 : Int) (n44 : Int) : Hp → Prop :=
  BR b48
    (J_law03_LotOften_1 W R true B7 l20 n5 n6 n31 n44)
    (J_law03_LotOften_1 W R (decide (n44 < 0)) B7 l20 n5 n6 n31 n44)
def J_law03_LotOften_3 (W : World) (R : Ending → Hp → Prop) (b15 : Bool) (B7 : Nat) (n5 : Int) (n6 : Int) : Hp → Prop :=
  BR b15
    (CALL Pg W F_law03_awake []
      (fun v16 => TYB v16 fun b18 =>
        R (.returned (.bool b18)))
        (fun e17 => R (.panicked e17)))
    (RDL (Addr.add ⟨B7, 0, none⟩ 0) fun x19 l20 c21 =>
      NZI (↑l20 : Int) <|
        NZI (↑l20 : Int) <|
          RDL (Addr.add ⟨B7, 0, none⟩ 0) fun x22 l23 c24 =>
            RDI .i64 (Addr.add ⟨B7, 0, none⟩ 1) fun n25 =>
              CALL Pg W F_lot_Count [(.agg #[(.slice x22 l23 c24), (.int .i64 n25)])]
                (fun v26 => TUP v26 fun q28 => HD q28 fun v29 r30 => TYI .i64 v29 fun n31 =>
                  HD r30 fun v32 r33 => TYI .i64 v32 fun n34 =>
                    NL r33 <|
                      RDL (Addr.add ⟨B7, 0, none⟩ 0) fun x35 l36 c37 =>
                        RDI .i64 (Addr.add ⟨B7, 0, none⟩ 1) fun n38 =>
                          CALL Pg W F_lot_Can [(.agg #[(.slice x35 l36 c37), (.int .i64 n38)]), (.int .i64 (Int.tmod (IntKind.wrap .i64 n5) (↑l20 : Int)))]
                            (fun v39 => TUP v39 fun q41 => HD q41 fun v42 r43 => TYI .i64 v42 fun n44 =>
                              HD r43 fun v45 r46 => TYI .i64 v45 fun n47 =>
                                NL r46 <|
                                  BR (n34 != 0)
                                    (J_law03_LotOften_2 W R true B7 l20 n5 n6 n31 n44)
                                    (J_law03_LotOften_2 W R (n47 != 0) B7 l20 n5 n6 n31 n44))
                              (fun e40 => R (.panicked e40)))
                  (fun e27 => R (.panicked e27)))
def J_law03_LotOften_4 (W : World) (R : Ending → Hp → Prop) (b97 : Bool) (za0 : Addr) (zn1 : Int) (zn2 : Int) (zn3 : Int) (zn4 : Int) (zn5 : Int) (nx0 : List Value → Hp → Prop) (b58 : Bool) (n59 : Int) (n71 : Int) (n60 : Int) (n84 : Int) (n61 : Int) : Hp → Prop :=
  BR b97
    (R (.returned (.bool false)))
    (NX [(.pointer (some za0)), (.int .i64 zn1), (.int .i64 zn2), (.int .i64 zn3), (.int .i64 zn4), (.int .i64 zn5), (.int .i64 zn1), (.tuple #[])] [(.pointer (some za0)), (.int .i64 zn1), (.int .i64 zn2), (.int .i64 zn3), (.int .i64 zn4), (.int .i64 zn5), (.int .i64 zn1), (.tuple #[])] (nx0 [(.bool b58), (.int .i64 (IntKind.wrap .i64 (n59 + n71))), (.int .i64 (IntKind.wrap .i64 (n60 + n84))), (.int .i64 (IntKind.wrap .i64 (n61 + 1)))]))
def J_law03_LotOften_5 (W : World) (R : Ending → Hp → Prop) (b91 : Bool) (n71 : Int) (za0 : Addr) (zn2 : Int) (n61 : Int) (zn1 : Int) (zn3 : Int) (zn4 : Int) (zn5 : Int) (nx0 : List Value → Hp → Prop) (b58 : Bool) (n59 : Int) (n60 : Int) (n84 : Int) : Hp → Prop :=
  BR b91
    (R (.returned (.bool false)))
    (BR (decide (n71 > 0))
      (RDL (Addr.add za0 0) fun x92 l93 c94 =>
        IXS x92 l93 zn2 3 fun a95 =>
          RDB (Addr.add a95 1) fun b96 =>
            BR b96
              (BR (decide (n61 > 0))
                (BR (decide (n61 < (IntKind.wrap .i64 (zn1 - 1))))
                  (J_law03_LotOften_4 W R true za0 zn1 zn2 zn3 zn4 zn5 nx0 b58 n59 n71 n60 n84 n61)
                  (RDL (Addr.add za0 0) fun x98 l99 c100 =>
                    IXS x98 l99 zn2 3 fun a101 =>
                      RDB (Addr.add a101 2) fun b102 =>
                        BR b102
                          (RDI .i64 (Addr.add za0 1) fun n103 =>
                            NNI n61 <|
                              J_law03_LotOften_4 W R ((andv .i64 (shrv .i64 n103 n61) 1) == 1) za0 zn1 zn2 zn3 zn4 zn5 nx0 b58 n59 n71 n60 n84 n61)
                          (J_law03_LotOften_4 W R false za0 zn1 zn2 zn3 zn4 zn5 nx0 b58 n59 n71 n60 n84 n61)))
                (RDL (Addr.add za0 0) fun x104 l105 c106 =>
                  IXS x104 l105 zn2 3 fun a107 =>
                    RDB (Addr.add a107 2) fun b108 =>
                      BR b108
                        (RDI .i64 (Addr.add za0 1) fun n109 =>
                          NNI n61 <|
                            J_law03_LotOften_4 W R ((andv .i64 (shrv .i64 n109 n61) 1) == 1) za0 zn1 zn2 zn3 zn4 zn5 nx0 b58 n59 n71 n60 n84 n61)
                        (J_law03_LotOften_4 W R false za0 zn1 zn2 zn3 zn4 zn5 nx0 b58 n59 n71 n60 n84 n61)))
              (RDL (Addr.add za0 0) fun x110 l111 c112 =>
                IXS x110 l111 zn2 3 fun a113 =>
                  RDB (Addr.add a113 2) fun b114 =>
                    BR b114
                      (RDI .i64 (Addr.add za0 1) fun n115 =>
                        NNI n61 <|
                          J_law03_LotOften_4 W R ((andv .i64 (shrv .i64 n115 n61) 1) == 1) za0 zn1 zn2 zn3 zn4 zn5 nx0 b58 n59 n71 n60 n84 n61)
                      (J_law03_LotOften_4 W R false za0 zn1 zn2 zn3 zn4 zn5 nx0 b58 n59 n71 n60 n84 n61)))
      (J_law03_LotOften_4 W R false za0 zn1 zn2 zn3 zn4 zn5 nx0 b58 n59 n71 n60 n84 n61))
def J_law03_LotOften_6 (W : World) (R : Ending → Hp → Prop) (b90 : Bool) (n71 : Int) (za0 : Addr) (zn2 : Int) (n61 : Int) (zn1 : Int) (zn3 : Int) (zn4 : Int) (zn5 : Int) (nx0 : List Value → Hp → Prop) (b58 : Bool) (n59 : Int) (n60 : Int) (n84 : Int) : Hp → Prop :=
  BR b90
    (J_law03_LotOften_5 W R true n71 za0 zn2 n61 zn1 zn3 zn4 zn5 nx0 b58 n59 n60 n84)
    (NNI n61 <|
      J_law03_LotOften_5 W R (!((decide (n71 > 0)) == ((andv .i64 (shrv .i64 zn5 n61) 1) == 1))) n71 za0 zn2 n61 zn1 zn3 zn4 zn5 nx0 b58 n59 n60 n84)
def J_law03_LotOften_7 (W : World) (R : Ending → Hp → Prop) (b89 : Bool) (n71 : Int) (za0 : Addr) (zn2 : Int) (n61 : Int) (zn1 : Int) (zn3 : Int) (zn4 : Int) (zn5 : Int) (nx0 : List Value → Hp → Prop) (b58 : Bool) (n59 : Int) (n60 : Int) (n84 : Int) : Hp → Prop :=
  BR b89
    (J_law03_LotOften_6 W R true n71 za0 zn2 n61 zn1 zn3 zn4 zn5 nx0 b58 n59 n60 n84)
    (J_law03_LotOften_6 W R (decide (n84 < 0)) n71 za0 zn2 n61 zn1 zn3 zn4 zn5 nx0 b58 n59 n60 n84)
def J_law03_LotOften_8 (W : World) (R : Ending → Hp → Prop) (b88 : Bool) (n71 : Int) (za0 : Addr) (zn2 : Int) (n61 : Int) (zn1 : Int) (zn3 : Int) (zn4 : Int) (zn5 : Int) (nx0 : List Value → Hp → Prop) (b58 : Bool) (n59 : Int) (n60 : Int) (n84 : Int) : Hp → Prop :=
  BR b88
    (J_law03_LotOften_7 W R true n71 za0 zn2 n61 zn1 zn3 zn4 zn5 nx0 b58 n59 n60 n84)
    (J_law03_LotOften_7 W R (decide (n71 < 0)) n71 za0 zn2 n61 zn1 zn3 zn4 zn5 nx0 b58 n59 n60 n84)
def B_law03_LotOften_0 (W : World) (R : Ending → Hp → Prop) (za0 : Addr) (zn1 : Int) (zn2 : Int) (zn3 : Int) (zn4 : Int) (zn5 : Int) (b58 : Bool) (n59 : Int) (n60 : Int) (n61 : Int) (nx0 : List Value → Hp → Prop) : Hp → Prop :=
  BR (decide (n61 < zn1))
    (RDL (Addr.add za0 0) fun x62 l63 c64 =>
      RDI .i64 (Addr.add za0 1) fun n65 =>
        CALL Pg W F_lot_Often [(.agg #[(.slice x62 l63 c64), (.int .i64 n65)]), (.int .i64 zn2), (.int .i64 n61)]
          (fun v66 => TUP v66 fun q68 => HD q68 fun v69 r70 => TYI .i64 v69 fun n71 =>
            HD r70 fun v72 r73 => TYI .i64 v72 fun n74 =>
              NL r73 <|
                RDL (Addr.add za0 0) fun x75 l76 c77 =>
                  RDI .i64 (Addr.add za0 1) fun n78 =>
                    CALL Pg W F_lot_Often [(.agg #[(.slice x75 l76 c77), (.int .i64 n78)]), (.int .i64 n61), (.int .i64 zn3)]
                      (fun v79 => TUP v79 fun q81 => HD q81 fun v82 r83 => TYI .i64 v82 fun n84 =>
                        HD r83 fun v85 r86 => TYI .i64 v85 fun n87 =>
                          NL r86 <|
                            BR (n74 != 0)
                              (J_law03_LotOften_8 W R true n71 za0 zn2 n61 zn1 zn3 zn4 zn5 nx0 b58 n59 n60 n84)
                              (J_law03_LotOften_8 W R (n87 != 0) n71 za0 zn2 n61 zn1 zn3 zn4 zn5 nx0 b58 n59 n60 n84))
                        (fun e80 => R (.panicked e80)))
            (fun e67 => R (.panicked e67)))
    (BR (n59 == zn4)
      (BR (n60 == zn4)
        (CALL Pg W F_law03_awake []
          (fun v116 => TYB v116 fun b118 =>
            R (.returned (.bool b118)))
            (fun e117 => R (.panicked e117)))
        (R (.returned (.bool false))))
      (R (.returned (.bool false))))
theorem B_law03_LotOften_0_eq (W : World) (R : Ending → Hp → Prop) (za0 : Addr) (zn1 : Int) (zn2 : Int) (zn3 : Int) (zn4 : Int) (zn5 : Int) (b58 : Bool) (n59 : Int) (n60 : Int) (n61 : Int) (nx0 : List Value → Hp → Prop) (j : Tm) : vc Pg W 163 rs_8 an_8 false (sub (bodyOf Try.f8) [1, 1, 1, 1, 1, 1, 1, 1, 0, 1, 0, 0]) 0 (KLoop [6, 14, 15, 68] [3, 7, 8, 9, 10, 12, 67, 163] [(.pointer (some za0)), (.int .i64 zn1), (.int .i64 zn2), (.int .i64 zn3), (.int .i64 zn4), (.int .i64 zn5), (.int .i64 zn1), (.tuple #[])] nx0 (KBlk 0 (KS Pg W 163 rs_8 an_8 false (sub (bodyOf Try.f8) [1, 1, 1, 1, 1, 1, 1, 1, 1]) 0 (fin Pg W 163 rv_8 R)))) (known [6, 14, 15, 68] [(.bool b58), (.int .i64 n59), (.int .i64 n60), (.int .i64 n61)] (known [3, 7, 8, 9, 10, 12, 67, 163] [(.pointer (some za0)), (.int .i64 zn1), (.int .i64 zn2), (.int .i64 zn3), (.int .i64 zn4), (.int .i64 zn5), (.int .i64 zn1), (.tuple #[])] j)) = B_law03_LotOften_0 W R za0 zn1 zn2 zn3 zn4 zn5 b58 n59 n60 n61 nx0 := by kernel_rfl
def N_law03_LotOften_0 (I : Bool → Int → Int → Int → Hp → Prop) (μ : Bool → Int → Int → Int → Hp → Nat) (b580 : Bool) (n590 : Int) (n600 : Int) (n610 : Int) (s : Hp) (vs : List Value) : Hp → Prop := fun s' => ∃ b58 n59 n60 n61, vs = [(.bool b58), (.int .i64 n59), (.int .i64 n60), (.int .i64 n61)] ∧ I b58 n59 n60 n61 s' ∧ μ b58 n59 n60 n61 s' < μ b580 n590 n600 n610 s
theorem L_law03_LotOften_0_rule (W : World) (R : Ending → Hp → Prop) (za0 : Addr) (zn1 : Int) (zn2 : Int) (zn3 : Int) (zn4 : Int) (zn5 : Int) (I : Bool → Int → Int → Int → Hp → Prop) (μ : Bool → Int → Int → Int → Hp → Nat) (b580 : Bool) (n590 : Int) (n600 : Int) (n610 : Int) (s : Hp) (h0 : I b580 n590 n600 n610 s)
    (hr : ∀ (b58 : Bool) (n59 : Int) (n60 : Int) (n61 : Int) (s : Hp), I b58 n59 n60 n61 s → B_law03_LotOften_0 W R za0 zn1 zn2 zn3 zn4 zn5 b58 n59 n60 n61 (fun vs => N_law03_LotOften_0 I μ b58 n59 n60 n61 s vs) s) : L_law03_LotOften_0 W R za0 zn1 zn2 zn3 zn4 zn5 b580 n590 n600 n610 s := by
  refine ⟨fun vs s => ∃ b58 n59 n60 n61, vs = [(.bool b58), (.int .i64 n59), (.int .i64 n60), (.int .i64 n61)] ∧ I b58 n59 n60 n61 s, fun vs s => (match vs with | [.bool b58, .int _ n59, .int _ n60, .int _ n61] => μ b58 n59 n60 n61 s | _ => 0), ⟨⟨⟨_, rfl⟩, ⟨⟨_, rfl⟩, ⟨⟨_, rfl⟩, ⟨⟨_, rfl⟩, trivial⟩⟩⟩⟩, ⟨_, _, _, _, rfl, h0⟩⟩, ?_⟩
  intro b58 n59 n60 n61 s hI j
  obtain ⟨b58', n59', n60', n61', hy, hI⟩ := hI
  have hI' : I b58 n59 n60 n61 s := by cases hy; exact hI
  have hh := hr b58 n59 n60 n61 s hI'
  rw [← B_law03_LotOften_0_eq W R za0 zn1 zn2 zn3 zn4 zn5 b58 n59 n60 n61 _ j] at hh
  refine vc_mono ?_ _ _ hh
  exact KLoop_mono (fun vs s' h => by obtain ⟨b581, n591, n601, n611, rfl, h1, h2⟩ := h; exact ⟨⟨⟨_, rfl⟩, ⟨⟨_, rfl⟩, ⟨⟨_, rfl⟩, ⟨⟨_, rfl⟩, trivial⟩⟩⟩⟩, ⟨_, _, _, _, rfl, h1⟩, h2⟩)
def T_law03_LotOften (W : World) (x1 : Option Addr) (l2 : Nat) (c3 : Nat) (n4 : Int) (n5 : Int) (n6 : Int) (R : Ending → Hp → Prop) : Hp → Prop :=
  NEW 24 [(.slice x1 l2 c3), (.int .i64 n4)] fun B7 =>
    RDL (Addr.add ⟨B7, 0, none⟩ 0) fun x8 l9 c10 =>
      RDI .i64 (Addr.add ⟨B7, 0, none⟩ 1) fun n11 =>
        CALL Pg W F_law03_far [(.agg #[(.slice x8 l9 c10), (.int .i64 n11)]), (.slice none 0 0), (.int .i64 8)]
          (fun v12 => TYB v12 fun b14 =>
            BR b14
              (J_law03_LotOften_3 W R true B7 n5 n6)
              (RDL (Addr.add ⟨B7, 0, none⟩ 0) fun x51 l52 c53 =>
                RDI .i64 (Addr.add ⟨B7, 0, none⟩ 1) fun n54 =>
                  CALL Pg W F_ref03_Lots [(.agg #[(.slice x51 l52 c53), (.int .i64 n54)])]
                    (fun v55 => TYB v55 fun b57 =>
                      J_law03_LotOften_3 W R (!b57) B7 n5 n6)
                      (fun e56 => R (.panicked e56))))
            (fun e13 => R (.panicked e13))
theorem T_law03_LotOften_eq (W : World) (x1 : Option Addr) (l2 : Nat) (c3 : Nat) (n4 : Int) (n5 : Int) (n6 : Int) (R : Ending → Hp → Prop) : vfun Pg W an_8 Try.f8 [(.agg #[(.slice x1 l2 c3), (.int .i64 n4)]), (.int .u8 n5), (.int .u8 n6)] R = T_law03_LotOften W x1 l2 c3 n4 n5 n6 R := by kernel_rfl
theorem does_law03_LotOften (W : World) (x1 : Option Addr) (l2 : Nat) (c3 : Nat) (n4 : Int) (n5 : Int) (n6 : Int) (R : Ending → Hp → Prop) (s : Hp) (h : T_law03_LotOften W x1 l2 c3 n4 n5 n6 R s) : Does Pg W F_law03_LotOften #[(.agg #[(.slice x1 l2 c3), (.int .i64 n4)]), (.int .u8 n5), (.int .u8 n6)] s R :=
  does_of_vfun Pg W an_8 Try.func8 rfl (by kernel_rfl) (by rw [T_law03_LotOften_eq]; exact h)
end Go.Proofs.Ytocnkdkgajdejaa.G

/- The statement LotOften: how often somebody has a plot. -/
set_option linter.unusedSimpArgs false
set_option linter.unusedVariables false
set_option maxRecDepth 20000
namespace Go.Proofs.Ytocnkdkgajdejaa.G
open Go.V Go.Lot
section
variable {W : World} {K : VK} {E : List PanicEntry → Hp → Prop} {s : Hp} {L : Lts}
theorem oftenP_ok {m p : Nat} (hv : valid L = true) (hm : m < L.n) (hp : p < L.n) : oftenP L m p = (((ofN L m p : Nat) : Int), 0) := by
  unfold oftenP; rw [hv, if_pos rfl, if_pos (by omega)]; rfl
theorem men_cell {x : Option Addr} {m : Nat} (hm : MenAt s x L.men) (h : m < L.n) : ∃ b, x = some b ∧ cellAt s ((b.add (m * 3)).add 0) = some (.int .i64 (man L m).club) ∧ cellAt s ((b.add (m * 3)).add 1) = some (.bool (man L m).left) ∧ cellAt s ((b.add (m * 3)).add 2) = some (.bool (man L m).nov) := by
  obtain ⟨b, hb, g1, g2, g3⟩ := hm m h
  have hman := man_get' L (m := m) h
  rw [← hman] at g1 g2 g3
  exact ⟨b, hb, g1, g2, g3⟩
theorem mod_nat {a n : Nat} : Int.tmod (a : Int) (n : Int) = ((a % n : Nat) : Int) := by rw [Int.tmod_eq_emod_of_nonneg (by omega)]; rfl
theorem shr_low {w n : Nat} (hn : n ≤ 8) (h : w < 2 ^ n) : shrv .i64 (w : Int) (n : Int) = 0 := by
  unfold shrv
  have h1 : min ((n : Int)).toNat (IntKind.bits .i64) = n := by simp [IntKind.bits]; omega
  rw [h1, Int.fdiv_eq_ediv_of_nonneg _ (Int.pow_nonneg (by omega))]
  refine Int.ediv_eq_zero_of_lt (by omega) ?_
  have e : ((2 : Int) ^ n) = ((2 ^ n : Nat) : Int) := by simp
  rw [e]; omega

theorem w_LotOften {x : Option Addr} {c a b : Nat} (hm : MenAt s x L.men) (ha : a ≤ 255) (hb : b ≤ 255) (h : ∀ s', Ext s s' → K (.bool true) s') :
    CALL Pg W F_law03_LotOften [.agg #[.slice x L.n c, .int .i64 L.worst], .int .u8 a, .int .u8 b] K E s := by
  refine does_law03_LotOften W x L.n c L.worst a b _ s ?_
  unfold T_law03_LotOften
  refine NEW_rule fun s1 e1 z1 n1 _ => ?_
  have c0 := (n1 0 _ rfl).cell
  have c1 := (n1 1 _ rfl).cell
  have aw : ∀ t, Ext s1 t → CALL Pg W F_law03_awake [] (fun v16 => TYB v16 fun b18 => (endK K E) (.returned (.bool b18))) (fun c17 => (endK K E) (.panicked c17)) t := fun t et => c_awake fun t' et' => h t' (e1.trans (et.trans et'))
  refine ⟨_, _, _, c0, _, c1, ?_⟩
  refine c_far (n := 8) (hm.ext e1) fun s2 bb e2 hb1 hb2 => ?_
  try simp only [TUP_mk, AGG_mk, HD_mk, NL_mk, TYI_mk, TYB_mk, TYP_mk, TYL_mk, TYS_mk, TYM_mk, SO_mk, NX_mk, endK_mk, endK_mk', add_0]
  refine BR_bool (fun hbb => ?_) (fun hbb => ?_)
  · unfold J_law03_LotOften_3
    exact aw s2 e2
  obtain ⟨hn30, _, hn8'⟩ := hb2 hbb
  refine ⟨_, _, _, e2.cell c0, _, e2.cell c1, ?_⟩
  have e02 := e1.trans e2
  refine f_Lots (hm.ext e02) (by omega) fun s3 e3 => ?_
  try simp only [TUP_mk, AGG_mk, HD_mk, NL_mk, TYI_mk, TYB_mk, TYP_mk, TYL_mk, TYS_mk, TYM_mk, SO_mk, NX_mk, endK_mk, endK_mk', add_0]
  have e13 := e2.trans e3
  have e03 := e1.trans e13
  unfold J_law03_LotOften_3
  refine BR_not (fun hv => aw s3 e13) (fun hv => ?_)
  have v := vd_iff.1 hv
  have hn8 := v.hi
  have hlo := v.lo
  refine ⟨_, _, _, e13.cell c0, NZI_pos (by omega) (NZI_pos (by omega) ⟨_, _, _, e13.cell c0, _, e13.cell c1, ?_⟩)⟩
  refine c_Count (hm.ext e03) fun s4 e4 => ?_
  try simp only [TUP_mk, AGG_mk, HD_mk, NL_mk, TYI_mk, TYB_mk, TYP_mk, TYL_mk, TYS_mk, TYM_mk, SO_mk, NX_mk, endK_mk, endK_mk', add_0]
  have hcp : countP L = (((cntAll L anyC : Nat) : Int), 0) := by unfold countP; rw [hv]; rfl
  rw [hcp]
  have e14 := e13.trans e4
  have hwa : IntKind.wrap .i64 (a : Int) = (a : Int) := wrap_i64 (by omega) (by omega)
  have hwb : IntKind.wrap .i64 (b : Int) = (b : Int) := wrap_i64 (by omega) (by omega)
  rw [hwa]
  try rw [mod_nat]
  refine ⟨_, _, _, e14.cell c0, _, e14.cell c1, ?_⟩
  have hml : a % L.n < L.n := Nat.mod_lt _ (by omega)
  have hpl : b % L.n < L.n := Nat.mod_lt _ (by omega)
  refine c_Can (hm.ext (e1.trans e14)) fun s5 e5 => ?_
  try simp only [TUP_mk, AGG_mk, HD_mk, NL_mk, TYI_mk, TYB_mk, TYP_mk, TYL_mk, TYS_mk, TYM_mk, SO_mk, NX_mk, endK_mk, endK_mk', add_0]
  have hcan : canP L ((a % L.n : Nat) : Int) = (((canSet L (a % L.n) L.n : Nat) : Int), 0) := by
    unfold canP; rw [hv, if_pos rfl, if_pos (by omega)]; rfl
  rw [hcan]
  have e15 := e14.trans e5
  have hlt := canSet_lt L (a % L.n) L.n
  have h256 := lt256 hn8 hlt
  refine BR_ne (fun hh => absurd rfl hh) (fun _ => ?_)
  unfold J_law03_LotOften_2
  refine BR_ne (fun hh => absurd rfl hh) (fun _ => ?_)
  unfold J_law03_LotOften_1
  refine BR_dec (fun hh => by dsimp only at hh; omega) (fun _ => ?_)
  refine NNI_nat ?_
  unfold J_law03_LotOften_0
  dsimp only
  rw [shr_low hn8 hlt]
  refine BR_ne (fun hh => absurd rfl hh) (fun _ => ?_)
  rw [hwa, hwb, mod_nat, mod_nat]
  generalize a % L.n = m at *
  generalize b % L.n = p at *
  refine L_law03_LotOften_0_rule W _ ⟨s.size, 0, none⟩ L.n m p _ _ (fun _ n1 n2 n3 t => Ext s1 t ∧ ∃ k : Nat, k ≤ L.n ∧ n3 = k ∧ n1 = ((ofPlots L m k : Nat) : Int) ∧ n2 = ((ofMen L p k : Nat) : Int) ∧ ofPlots L m k ≤ 134217728 * k ∧ ofMen L p k ≤ 134217728 * k) (fun _ _ _ n _ => (L.n - n).toNat) false 0 0 0 s5 ⟨e15, 0, by omega, rfl, rfl, rfl, by simp [ofPlots], by simp [ofMen]⟩ ?_
  rintro b58 n1 n2 n3 t ⟨et, k, hk, rfl, rfl, rfl, hb1', hb2'⟩
  unfold B_law03_LotOften_0
  refine BR_dec (fun h1 => ?_) (fun h1 => ?_)
  · have hkn : k < L.n := by omega
    have hw : IntKind.i64.wrap ((k : Int) + 1) = ((k + 1 : Nat) : Int) := by rw [wrap_i64 (by omega) (by omega)]; rfl
    refine ⟨_, _, _, et.cell c0, _, et.cell c1, ?_⟩
    refine c_Often (hm.ext (e1.trans et)) fun t1 f1 => ?_
    try simp only [TUP_mk, AGG_mk, HD_mk, NL_mk, TYI_mk, TYB_mk, TYP_mk, TYL_mk, TYS_mk, TYM_mk, SO_mk, NX_mk, endK_mk, endK_mk', add_0]
    rw [oftenP_ok hv hml hkn]
    have et1 := et.trans f1
    refine ⟨_, _, _, et1.cell c0, _, et1.cell c1, ?_⟩
    refine c_Often (hm.ext (e1.trans et1)) fun t2 f2 => ?_
    try simp only [TUP_mk, AGG_mk, HD_mk, NL_mk, TYI_mk, TYB_mk, TYP_mk, TYL_mk, TYS_mk, TYM_mk, SO_mk, NX_mk, endK_mk, endK_mk', add_0]
    rw [oftenP_ok hv hkn hpl]
    have et2 := et1.trans f2
    have l1 := ofN_le L hn8 m k
    have l2 := ofN_le L hn8 k p
    have j4 : ∀ bb : Bool, bb = false → J_law03_LotOften_4 W (endK K E) bb ⟨s.size, 0, none⟩ L.n m p ((cntAll L anyC : Nat) : Int) ((canSet L m L.n : Nat) : Int) (fun vs => N_law03_LotOften_0 (fun _ n1 n2 n3 t => Ext s1 t ∧ ∃ k : Nat, k ≤ L.n ∧ n3 = k ∧ n1 = ((ofPlots L m k : Nat) : Int) ∧ n2 = ((ofMen L p k : Nat) : Int) ∧ ofPlots L m k ≤ 134217728 * k ∧ ofMen L p k ≤ 134217728 * k) (fun _ _ _ n _ => (L.n - n).toNat) b58 (ofPlots L m k : Nat) (ofMen L p k : Nat) k t vs) b58 (ofPlots L m k : Nat) (ofN L m k : Nat) (ofMen L p k : Nat) (ofN L k p : Nat) k t2 := by
      rintro bb rfl
      unfold J_law03_LotOften_4
      refine ⟨rfl, _, _, _, _, rfl, ⟨et2, k + 1, hkn, hw, ?_, ?_, ?_, ?_⟩, ?_⟩
      · rw [wrap_i64 (by omega) (by omega), ofPlots_succ]; rfl
      · rw [wrap_i64 (by omega) (by omega), ofMen_succ]; rfl
      · rw [ofPlots_succ]; omega
      · rw [ofMen_succ]; omega
      · show ((L.n : Int) - IntKind.i64.wrap ((k : Int) + 1)).toNat < ((L.n : Int) - k).toNat
        rw [hw]; omega
    refine BR_ne (fun hh => absurd rfl hh) (fun _ => ?_)
    unfold J_law03_LotOften_8
    refine BR_ne (fun hh => absurd rfl hh) (fun _ => ?_)
    unfold J_law03_LotOften_7
    refine BR_dec (fun hh => by omega) (fun _ => ?_)
    unfold J_law03_LotOften_6
    refine BR_dec (fun hh => by omega) (fun _ => ?_)
    refine NNI_nat ?_
    unfold J_law03_LotOften_5
    rw [hasI _ h256 k (by omega), canSet_bit, decide_eq_true hkn, Bool.true_and]
    have hde : decide (((ofN L m k : Nat) : Int) > 0) = decide (0 < ofN L m k) := by congr 1; apply propext; omega
    rw [hde]
    refine BR_not (fun hh => by simp at hh) (fun _ => ?_)
    refine BR_dec (fun hpos => ?_) (fun hpos => j4 _ rfl)
    obtain ⟨q2, q3⟩ := ofN_ok hn8 hkn hpos
    obtain ⟨bA, hbA, g1, g2, g3⟩ := men_cell (hm.ext (e1.trans et2)) hml
    have tm : ((m : Int)).toNat = m := by omega
    have last : (RDL (Addr.add ⟨s.size, 0, none⟩ 0) fun x98 l99 c100 => IXS x98 l99 (m : Int) 3 fun a101 => RDB (Addr.add a101 2) fun b102 => BR b102
          (RDI .i64 (Addr.add ⟨s.size, 0, none⟩ 1) fun n103 => NNI (k : Int) <| J_law03_LotOften_4 W (endK K E) ((andv .i64 (shrv .i64 n103 (k : Int)) 1) == 1) ⟨s.size, 0, none⟩ L.n m p ((cntAll L anyC : Nat) : Int) ((canSet L m L.n : Nat) : Int) (fun vs => N_law03_LotOften_0 (fun _ n1 n2 n3 t => Ext s1 t ∧ ∃ k : Nat, k ≤ L.n ∧ n3 = k ∧ n1 = ((ofPlots L m k : Nat) : Int) ∧ n2 = ((ofMen L p k : Nat) : Int) ∧ ofPlots L m k ≤ 134217728 * k ∧ ofMen L p k ≤ 134217728 * k) (fun _ _ _ n _ => (L.n - n).toNat) b58 (ofPlots L m k : Nat) (ofMen L p k : Nat) k t vs) b58 (ofPlots L m k : Nat) (ofN L m k : Nat) (ofMen L p k : Nat) (ofN L k p : Nat) k)
          (J_law03_LotOften_4 W (endK K E) false ⟨s.size, 0, none⟩ L.n m p ((cntAll L anyC : Nat) : Int) ((canSet L m L.n : Nat) : Int) (fun vs => N_law03_LotOften_0 (fun _ n1 n2 n3 t => Ext s1 t ∧ ∃ k : Nat, k ≤ L.n ∧ n3 = k ∧ n1 = ((ofPlots L m k : Nat) : Int) ∧ n2 = ((ofMen L p k : Nat) : Int) ∧ ofPlots L m k ≤ 134217728 * k ∧ ofMen L p k ≤ 134217728 * k) (fun _ _ _ n _ => (L.n - n).toNat) b58 (ofPlots L m k : Nat) (ofMen L p k : Nat) k t vs) b58 (ofPlots L m k : Nat) (ofN L m k : Nat) (ofMen L p k : Nat) (ofN L k p : Nat) k)) t2 := by
      refine ⟨_, _, _, et2.cell c0, bA, hbA, ⟨by omega, by omega⟩, _, by rw [tm]; exact g3, ?_⟩
      refine BR_bool (fun h3 => ?_) (fun h3 => j4 _ rfl)
      refine ⟨_, et2.cell c1, NNI_nat (j4 _ ?_)⟩
      rw [bad_eq v (by omega)]
      unfold r3 at q3
      rw [h3] at q3
      simpa using q3
    refine ⟨_, _, _, et2.cell c0, bA, hbA, ⟨by omega, by omega⟩, _, by rw [tm]; exact g2, ?_⟩
    refine BR_bool (fun h3 => ?_) (fun h3 => last)
    unfold r2 at q2
    rw [h3] at q2
    refine BR_dec (fun h4 => ?_) (fun h4 => last)
    refine BR_dec (fun h5 => ?_) (fun h5 => last)
    rw [wrap_i64 (by omega) (by omega)] at h5
    have h6 : k > 0 := by omega
    have h7 : k < L.n - 1 := by omega
    rw [decide_eq_true h6, decide_eq_true h7] at q2
    cases q2
  · have : k = L.n := by omega
    subst this
    rw [ofPlots_all hn8 hml, ofMen_all hn8 hpl]
    refine BR_eq (fun _ => ?_) (fun hh => absurd rfl hh)
    refine BR_eq (fun _ => ?_) (fun hh => absurd rfl hh)
    exact aw t et
end
end Go.Proofs.Ytocnkdkgajdejaa.G

/- Draws of plots, in plain Lean: the ones with an index, and their places. -/
set_option linter.unusedSimpArgs false
set_option linter.unusedVariables false
namespace Go.Lot
/-- Like 'lexLt', and a bool. -/
def ltB : List Nat → List Nat → Bool
  | a :: u, b :: w => if a = b then ltB u w else decide (a < b)
  | _, _ => false
theorem ltB_iff : ∀ (a b : List Nat), ltB a b = true ↔ lexLt a b
  | [], _ => by simp [ltB, lexLt]
  | _ :: _, [] => by simp [ltB, lexLt]
  | a :: u, b :: w => by
    unfold ltB lexLt
    by_cases h : a = b
    · subst h; simp [ltB_iff u w]
    · simp [h]
theorem ltB_drop : ∀ (a b : List Nat) (k : Nat), (∀ j, j < k → a.getD j 0 = b.getD j 0) → k < a.length → k < b.length → a.getD k 0 ≠ b.getD k 0 → ltB a b = decide (a.getD k 0 < b.getD k 0)
  | [], _, k, _, h, _, _ => by simp at h
  | _ :: _, [], k, _, _, h, _ => by simp at h
  | a :: u, b :: w, 0, _, _, _, h => by
    have h' : ¬ a = b := by simpa using h
    unfold ltB
    rw [if_neg h']; simp
  | a :: u, b :: w, k + 1, he, h1, h2, h3 => by
    have h0 : a = b := by simpa using he 0 (by omega)
    unfold ltB
    rw [if_pos h0, ltB_drop u w k (fun j hj => by simpa using he (j + 1) (by omega)) (by simpa using h1) (by simpa using h2) (by simpa using h3)]
    simp
theorem ltB_same : ∀ (a b : List Nat), a.length = b.length → (∀ j, j < a.length → a.getD j 0 = b.getD j 0) → ltB a b = false
  | [], _, _, _ => rfl
  | _ :: _, [], h, _ => by simp at h
  | a :: u, b :: w, h, he => by
    have h0 : a = b := by simpa using he 0 (by simp)
    unfold ltB
    rw [if_pos h0]
    exact ltB_same u w (by simpa using h) (fun j hj => by simpa using he (j + 1) (by simpa using hj))
end Go.Lot
namespace Go.Proofs.Ytocnkdkgajdejaa.G
open Go.V Go.Lot
section
variable {L : Lts}
theorem nthP_some (hn : L.n ≤ 8) {k : Nat} (hk : k < cntAll L anyC) : ∃ d, nthP L (k : Int) = some d ∧ (allD L)[k]? = some d := by
  have hk' : k < cnt L anyC (full L.n) 8 := hk
  refine ⟨runC (nthN L) L.n k (full L.n) 8, ?_, nth_all L hn L.n k (full L.n) 8 full_lt8 (menOf_len_le _ _) hk⟩
  unfold nthP
  rw [if_pos ⟨by omega, by omega⟩]; rfl
theorem nthP_none {n : Int} (h : ¬ (0 ≤ n ∧ n < cntAll L anyC)) : nthP L n = none := by
  unfold nthP
  exact if_neg h
theorem allD_lt (hn : L.n ≤ 8) {i j : Nat} {a b : List Nat} (ha : (allD L)[i]? = some a) (hb : (allD L)[j]? = some b) : i < j ↔ lexLt a b := by
  have hs := List.pairwise_iff_getElem.1 (allD_sorted L hn (left := full L.n) (b := 8) full_lt8)
  obtain ⟨hi, ea⟩ := List.getElem?_eq_some_iff.1 ha
  obtain ⟨hj, eb⟩ := List.getElem?_eq_some_iff.1 hb
  subst ea; subst eb
  constructor
  · intro h; exact hs i j hi hj h
  · intro h
    rcases Nat.lt_trichotomy i j with h1 | h1 | h1
    · exact h1
    · subst h1; exact absurd h (lexLt_irrefl _)
    · exact absurd (lexLt_trans _ _ _ h (hs j i hj hi h1)) (lexLt_irrefl _)
theorem allD_inj (hn : L.n ≤ 8) {i j : Nat} {a : List Nat} (ha : (allD L)[i]? = some a) (hb : (allD L)[j]? = some a) : i = j := by
  rcases Nat.lt_trichotomy i j with h1 | h1 | h1
  · exact absurd ((allD_lt hn ha hb).1 h1) (lexLt_irrefl _)
  · exact h1
  · exact absurd ((allD_lt hn hb ha).1 h1) (lexLt_irrefl _)
theorem allD_at (hn : L.n ≤ 8) {i : Nat} {a : List Nat} (ha : (allD L)[i]? = some a) : Perm0 L.n a ∧ wrong L a = none ∧ i < cntAll L anyC := by
  obtain ⟨hi, rfl⟩ := List.getElem?_eq_some_iff.1 ha
  have := (mem_allD hn).1 (List.getElem_mem hi)
  exact ⟨this.1, this.2, by rw [cntAny_len hn]; exact hi⟩
theorem placeP_all (hn : L.n ≤ 8) (hv : valid L = true) {d : List Nat} (h1 : Perm0 L.n d) (h2 : wrong L d = none) : ∃ k : Nat, placeP L (d.map fun (n : Nat) => (n : Int)) = ((k : Int), 0) ∧ (allD L)[k]? = some d := by
  refine ⟨placeN L d (full L.n) 8, ?_, place_all L hn d _ _ full_lt8 (law_full hn h1.nd h1.lt h1.len h2)⟩
  unfold placeP; rw [hv, if_pos rfl, if_pos (Perm0.ok h1), map_back, h2]
end
end Go.Proofs.Ytocnkdkgajdejaa.G

/- More of the functions' shallow texts, by gen.py. -/
set_option linter.unusedVariables false
set_option maxRecDepth 100000
namespace Go.Proofs.Ytocnkdkgajdejaa.G
open Go.V
def an_7 : Nat → Ann := fun b => match b with
  | 0 => { ms := [6, 46], ks := [.b, .i .i64], us := [1, 2, 3, 7, 44, 45, 182], rt := false, ex := [] }
  | _ => {}
abbrev rv_7 : List ResultVar := [.tmp 6]
abbrev rs_7 : List Nat := [182, 6]
def L_law03_LotOrder_0 (W : World) (R : Ending → Hp → Prop) (zn0 : Int) (zp1 : Option Addr) (zl2 : Nat) (zl3 : Nat) (za4 : Addr) (zn5 : Int) (za6 : Addr) (b43 : Bool) (n44 : Int) : Hp → Prop :=
  LOOPN [.b, .i .i64] (fun ys next s => ∀ j : Tm, vc Pg W 182 rs_7 an_7 false (sub (bodyOf Try.f7) [1, 1, 1, 1, 0, 1, 0, 0]) 0 (KLoop [6, 46] [1, 2, 3, 7, 44, 45, 182] [(.int .u16 zn0), (.slice zp1 zl2 zl3), (.pointer (some za4)), (.int .i64 zn5), (.slice (some za6) 2 2), (.int .i64 2), (.tuple #[])] next (KBlk 0 (KS Pg W 182 rs_7 an_7 false (sub (bodyOf Try.f7) [1, 1, 1, 1, 1]) 0 (fin Pg W 182 rv_7 R)))) (known [6, 46] ys (known [1, 2, 3, 7, 44, 45, 182] [(.int .u16 zn0), (.slice zp1 zl2 zl3), (.pointer (some za4)), (.int .i64 zn5), (.slice (some za6) 2 2), (.int .i64 2), (.tuple #[])] j)) s) [(.bool b43), (.int .i64 n44)]
def J_law03_LotOrder_0 (W : World) (R : Ending → Hp → Prop) (b34 : Bool) (n30 : Int) (n5 : Int) (x6 : Option Addr) (l7 : Nat) (c8 : Nat) (B9 : Nat) : Hp → Prop :=
  BR b34
    (R (.returned (.bool false)))
    (NEW 3 [(.int .i64 (-1)), (.int .i64 n30)] fun B35 =>
      L_law03_LotOrder_0 W R n5 x6 l7 c8 ⟨B9, 0, none⟩ n30 ⟨B35, 0, none⟩ false 0)
def J_law03_LotOrder_1 (W : World) (R : Ending → Hp → Prop) (b17 : Bool) (B9 : Nat) (n5 : Int) (x6 : Option Addr) (l7 : Nat) (c8 : Nat) : Hp → Prop :=
  BR b17
    (CALL Pg W F_law03_awake []
      (fun v18 => TYB v18 fun b20 =>
        R (.returned (.bool b20)))
        (fun e19 => R (.panicked e19)))
    (RDL (Addr.add ⟨B9, 0, none⟩ 0) fun x21 l22 c23 =>
      RDI .i64 (Addr.add ⟨B9, 0, none⟩ 1) fun n24 =>
        CALL Pg W F_lot_Count [(.agg #[(.slice x21 l22 c23), (.int .i64 n24)])]
          (fun v25 => TUP v25 fun q27 => HD q27 fun v28 r29 => TYI .i64 v28 fun n30 =>
            HD r29 fun v31 r32 => TYI .i64 v31 fun n33 =>
              NL r32 <|
                BR (n33 != 0)
                  (J_law03_LotOrder_0 W R true n30 n5 x6 l7 c8 B9)
                  (J_law03_LotOrder_0 W R (decide (n30 < 0)) n30 n5 x6 l7 c8 B9))
            (fun e26 => R (.panicked e26)))
def J_law03_LotOrder_2 (W : World) (R : Ending → Hp → Prop) (b62 : Bool) (zn0 : Int) (zp1 : Option Addr) (zl2 : Nat) (zl3 : Nat) (za4 : Addr) (zn5 : Int) (za6 : Addr) (nx0 : List Value → Hp → Prop) (b43 : Bool) (n44 : Int) : Hp → Prop :=
  BR b62
    (R (.returned (.bool false)))
    (NX [(.int .u16 zn0), (.slice zp1 zl2 zl3), (.pointer (some za4)), (.int .i64 zn5), (.slice (some za6) 2 2), (.int .i64 2), (.tuple #[])] [(.int .u16 zn0), (.slice zp1 zl2 zl3), (.pointer (some za4)), (.int .i64 zn5), (.slice (some za6) 2 2), (.int .i64 2), (.tuple #[])] (nx0 [(.bool b43), (.int .i64 (IntKind.wrap .i64 (n44 + 1)))]))
def J_law03_LotOrder_3 (W : World) (R : Ending → Hp → Prop) (b152 : Bool) (x121 : Option Addr) (l122 : Nat) (c123 : Nat) (x75 : Option Addr) (l76 : Nat) (c77 : Nat) (n143 : Int) (zn0 : Int) (zn5 : Int) : Hp → Prop :=
  BR b152
    (CALL Pg W F_ref03_Ints [(.slice x121 l122 c123), (.slice x75 l76 c77)]
      (fun v153 => TYB v153 fun b155 =>
        BR ((n143 == (Int.tmod (IntKind.wrap .i64 zn0) zn5)) == b155)
          (CALL Pg W F_law03_awake []
            (fun v156 => TYB v156 fun b158 =>
              R (.returned (.bool b158)))
              (fun e157 => R (.panicked e157)))
          (R (.returned (.bool false))))
        (fun e154 => R (.panicked e154)))
    (R (.returned (.bool false)))
def J_law03_LotOrder_4 (W : World) (R : Ending → Hp → Prop) (b148 : Bool) (x121 : Option Addr) (l122 : Nat) (c123 : Nat) (x75 : Option Addr) (l76 : Nat) (c77 : Nat) (n143 : Int) (zn0 : Int) (zn5 : Int) : Hp → Prop :=
  BR b148
    (CALLV Pg W (.func (.func 38) #[] #[]) [(.slice x121 l122 c123), (.slice x75 l76 c77)]
      (fun v149 => TYB v149 fun b151 =>
        J_law03_LotOrder_3 W R ((decide (n143 < (Int.tmod (IntKind.wrap .i64 zn0) zn5))) == b151) x121 l122 c123 x75 l76 c77 n143 zn0 zn5)
        (fun e150 => R (.panicked e150)))
    (J_law03_LotOrder_3 W R false x121 l122 c123 x75 l76 c77 n143 zn0 zn5)
def J_law03_LotOrder_5 (W : World) (R : Ending → Hp → Prop) (b147 : Bool) (n143 : Int) (zn5 : Int) (x121 : Option Addr) (l122 : Nat) (c123 : Nat) (x75 : Option Addr) (l76 : Nat) (c77 : Nat) (zn0 : Int) : Hp → Prop :=
  BR b147
    (J_law03_LotOrder_4 W R (decide (n143 < zn5)) x121 l122 c123 x75 l76 c77 n143 zn0 zn5)
    (J_law03_LotOrder_4 W R false x121 l122 c123 x75 l76 c77 n143 zn0 zn5)
def J_law03_LotOrder_6 (W : World) (R : Ending → Hp → Prop) (za4 : Addr) (zp1 : Option Addr) (zl2 : Nat) (zl3 : Nat) (zn5 : Int) (x75 : Option Addr) (l76 : Nat) (c77 : Nat) (zn0 : Int) : Hp → Prop :=
  RDL (Addr.add za4 0) fun x116 l117 c118 =>
    CALL Pg W F_law03_made [(.int .i64 (↑l117 : Int)), (.slice zp1 zl2 zl3)]
      (fun v119 => TYL v119 fun x121 l122 c123 =>
        RDL (Addr.add za4 0) fun x124 l125 c126 =>
          RDI .i64 (Addr.add za4 1) fun n127 =>
            CALL Pg W F_law03_lawful [(.agg #[(.slice x124 l125 c126), (.int .i64 n127)]), (.slice x121 l122 c123)]
              (fun v128 => TYB v128 fun b130 =>
                BR (!b130)
                  (CALL Pg W F_law03_awake []
                    (fun v131 => TYB v131 fun b133 =>
                      R (.returned (.bool b133)))
                      (fun e132 => R (.panicked e132)))
                  (RDL (Addr.add za4 0) fun x134 l135 c136 =>
                    RDI .i64 (Addr.add za4 1) fun n137 =>
                      CALL Pg W F_lot_Place [(.agg #[(.slice x134 l135 c136), (.int .i64 n137)]), (.slice x121 l122 c123)]
                        (fun v138 => TUP v138 fun q140 => HD q140 fun v141 r142 => TYI .i64 v141 fun n143 =>
                          HD r142 fun v144 r145 => TYI .i64 v144 fun n146 =>
                            NL r145 <|
                              BR (n146 == 0)
                                (J_law03_LotOrder_5 W R (decide (n143 ≥ 0)) n143 zn5 x121 l122 c123 x75 l76 c77 zn0)
                                (J_law03_LotOrder_5 W R false n143 zn5 x121 l122 c123 x75 l76 c77 zn0))
                          (fun e139 => R (.panicked e139))))
                (fun e129 => R (.panicked e129)))
        (fun e120 => R (.panicked e120))
def J_law03_LotOrder_7 (W : World) (R : Ending → Hp → Prop) (b114 : Bool) (za4 : Addr) (zp1 : Option Addr) (zl2 : Nat) (zl3 : Nat) (zn5 : Int) (x75 : Option Addr) (l76 : Nat) (c77 : Nat) (zn0 : Int) : Hp → Prop :=
  BR b114
    (R (.returned (.bool false)))
    (J_law03_LotOrder_6 W R za4 zp1 zl2 zl3 zn5 x75 l76 c77 zn0)
def J_law03_LotOrder_8 (W : World) (R : Ending → Hp → Prop) (b113 : Bool) (za4 : Addr) (zp1 : Option Addr) (zl2 : Nat) (zl3 : Nat) (zn5 : Int) (x75 : Option Addr) (l76 : Nat) (c77 : Nat) (zn0 : Int) (x107 : Option Addr) (l108 : Nat) (c109 : Nat) : Hp → Prop :=
  BR b113
    (J_law03_LotOrder_7 W R true za4 zp1 zl2 zl3 zn5 x75 l76 c77 zn0)
    (CALLV Pg W (.func (.func 38) #[] #[]) [(.slice x75 l76 c77), (.slice x107 l108 c109)]
      (fun v159 => TYB v159 fun b161 =>
        J_law03_LotOrder_7 W R (!b161) za4 zp1 zl2 zl3 zn5 x75 l76 c77 zn0)
        (fun e160 => R (.panicked e160)))
def J_law03_LotOrder_9 (W : World) (R : Ending → Hp → Prop) (b97 : Bool) (zn0 : Int) (zn5 : Int) (za4 : Addr) (zp1 : Option Addr) (zl2 : Nat) (zl3 : Nat) (x75 : Option Addr) (l76 : Nat) (c77 : Nat) : Hp → Prop :=
  BR b97
    (R (.returned (.bool false)))
    (BR (decide ((IntKind.wrap .i64 ((Int.tmod (IntKind.wrap .i64 zn0) zn5) + 1)) < zn5))
      (RDL (Addr.add za4 0) fun x98 l99 c100 =>
        RDI .i64 (Addr.add za4 1) fun n101 =>
          CALL Pg W F_lot_Nth [(.agg #[(.slice x98 l99 c100), (.int .i64 n101)]), (.int .i64 (IntKind.wrap .i64 ((Int.tmod (IntKind.wrap .i64 zn0) zn5) + 1)))]
            (fun v102 => TUP v102 fun q104 => HD q104 fun v105 r106 => TYL v105 fun x107 l108 c109 =>
              HD r106 fun v110 r111 => TYI .i64 v110 fun n112 =>
                NL r111 <|
                  BR (n112 != 0)
                    (J_law03_LotOrder_8 W R true za4 zp1 zl2 zl3 zn5 x75 l76 c77 zn0 x107 l108 c109)
                    (J_law03_LotOrder_8 W R ((↑l108 : Int) != (↑l76 : Int)) za4 zp1 zl2 zl3 zn5 x75 l76 c77 zn0 x107 l108 c109))
              (fun e103 => R (.panicked e103)))
      (J_law03_LotOrder_6 W R za4 zp1 zl2 zl3 zn5 x75 l76 c77 zn0))
def J_law03_LotOrder_10 (W : World) (R : Ending → Hp → Prop) (b96 : Bool) (zn0 : Int) (zn5 : Int) (za4 : Addr) (zp1 : Option Addr) (zl2 : Nat) (zl3 : Nat) (x75 : Option Addr) (l76 : Nat) (c77 : Nat) (n90 : Int) : Hp → Prop :=
  BR b96
    (J_law03_LotOrder_9 W R true zn0 zn5 za4 zp1 zl2 zl3 x75 l76 c77)
    (J_law03_LotOrder_9 W R (n90 != (Int.tmod (IntKind.wrap .i64 zn0) zn5)) zn0 zn5 za4 zp1 zl2 zl3 x75 l76 c77)
def J_law03_LotOrder_11 (W : World) (R : Ending → Hp → Prop) (b95 : Bool) (zn0 : Int) (zn5 : Int) (za4 : Addr) (zp1 : Option Addr) (zl2 : Nat) (zl3 : Nat) (x75 : Option Addr) (l76 : Nat) (c77 : Nat) (n90 : Int) (n93 : Int) : Hp → Prop :=
  BR b95
    (J_law03_LotOrder_10 W R true zn0 zn5 za4 zp1 zl2 zl3 x75 l76 c77 n90)
    (J_law03_LotOrder_10 W R (n93 != 0) zn0 zn5 za4 zp1 zl2 zl3 x75 l76 c77 n90)
def J_law03_LotOrder_12 (W : World) (R : Ending → Hp → Prop) (b94 : Bool) (zn0 : Int) (zn5 : Int) (za4 : Addr) (zp1 : Option Addr) (zl2 : Nat) (zl3 : Nat) (x75 : Option Addr) (l76 : Nat) (c77 : Nat) (n90 : Int) (n93 : Int) : Hp → Prop :=
  BR b94
    (J_law03_LotOrder_11 W R true zn0 zn5 za4 zp1 zl2 zl3 x75 l76 c77 n90 n93)
    (RDL (Addr.add za4 0) fun x162 l163 c164 =>
      RDI .i64 (Addr.add za4 1) fun n165 =>
        CALL Pg W F_law03_lawful [(.agg #[(.slice x162 l163 c164), (.int .i64 n165)]), (.slice x75 l76 c77)]
          (fun v166 => TYB v166 fun b168 =>
            J_law03_LotOrder_11 W R (!b168) zn0 zn5 za4 zp1 zl2 zl3 x75 l76 c77 n90 n93)
            (fun e167 => R (.panicked e167)))
def B_law03_LotOrder_0 (W : World) (R : Ending → Hp → Prop) (zn0 : Int) (zp1 : Option Addr) (zl2 : Nat) (zl3 : Nat) (za4 : Addr) (zn5 : Int) (za6 : Addr) (b43 : Bool) (n44 : Int) (nx0 : List Value → Hp → Prop) : Hp → Prop :=
  BR (decide (n44 < 2))
    (IXS (some za6) 2 n44 1 fun a45 =>
      RDI .i64 a45 fun n46 =>
        RDL (Addr.add za4 0) fun x47 l48 c49 =>
          RDI .i64 (Addr.add za4 1) fun n50 =>
            CALL Pg W F_lot_Nth [(.agg #[(.slice x47 l48 c49), (.int .i64 n50)]), (.int .i64 n46)]
              (fun v51 => TUP v51 fun q53 => HD q53 fun v54 r55 => TYL v54 fun x56 l57 c58 =>
                HD r55 fun v59 r60 => TYI .i64 v59 fun n61 =>
                  NL r60 <|
                    BR (n61 != 4)
                      (J_law03_LotOrder_2 W R true zn0 zp1 zl2 zl3 za4 zn5 za6 nx0 b43 n44)
                      (J_law03_LotOrder_2 W R ((↑l57 : Int) != 0) zn0 zp1 zl2 zl3 za4 zn5 za6 nx0 b43 n44))
                (fun e52 => R (.panicked e52)))
    (BR (zn5 == 0)
      (CALL Pg W F_law03_awake []
        (fun v63 => TYB v63 fun b65 =>
          R (.returned (.bool b65)))
          (fun e64 => R (.panicked e64)))
      (NZI zn5 <|
        RDL (Addr.add za4 0) fun x66 l67 c68 =>
          RDI .i64 (Addr.add za4 1) fun n69 =>
            CALL Pg W F_lot_Nth [(.agg #[(.slice x66 l67 c68), (.int .i64 n69)]), (.int .i64 (Int.tmod (IntKind.wrap .i64 zn0) zn5))]
              (fun v70 => TUP v70 fun q72 => HD q72 fun v73 r74 => TYL v73 fun x75 l76 c77 =>
                HD r74 fun v78 r79 => TYI .i64 v78 fun n80 =>
                  NL r79 <|
                    RDL (Addr.add za4 0) fun x81 l82 c83 =>
                      RDI .i64 (Addr.add za4 1) fun n84 =>
                        CALL Pg W F_lot_Place [(.agg #[(.slice x81 l82 c83), (.int .i64 n84)]), (.slice x75 l76 c77)]
                          (fun v85 => TUP v85 fun q87 => HD q87 fun v88 r89 => TYI .i64 v88 fun n90 =>
                            HD r89 fun v91 r92 => TYI .i64 v91 fun n93 =>
                              NL r92 <|
                                BR (n80 != 0)
                                  (J_law03_LotOrder_12 W R true zn0 zn5 za4 zp1 zl2 zl3 x75 l76 c77 n90 n93)
                                  (RDL (Addr.add za4 0) fun x169 l170 c171 =>
                                    RDI .i64 (Addr.add za4 1) fun n172 =>
                                      CALL Pg W F_ref03_Full [(.agg #[(.slice x169 l170 c171), (.int .i64 n172)]), (.slice x75 l76 c77)]
                                        (fun v173 => TYB v173 fun b175 =>
                                          J_law03_LotOrder_12 W R (!b175) zn0 zn5 za4 zp1 zl2 zl3 x75 l76 c77 n90 n93)
                                          (fun e174 => R (.panicked e174))))
                            (fun e86 => R (.panicked e86)))
                (fun e71 => R (.panicked e71))))
theorem B_law03_LotOrder_0_eq (W : World) (R : Ending → Hp → Prop) (zn0 : Int) (zp1 : Option Addr) (zl2 : Nat) (zl3 : Nat) (za4 : Addr) (zn5 : Int) (za6 : Addr) (b43 : Bool) (n44 : Int) (nx0 : List Value → Hp → Prop) (j : Tm) : vc Pg W 182 rs_7 an_7 false (sub (bodyOf Try.f7) [1, 1, 1, 1, 0, 1, 0, 0]) 0 (KLoop [6, 46] [1, 2, 3, 7, 44, 45, 182] [(.int .u16 zn0), (.slice zp1 zl2 zl3), (.pointer (some za4)), (.int .i64 zn5), (.slice (some za6) 2 2), (.int .i64 2), (.tuple #[])] nx0 (KBlk 0 (KS Pg W 182 rs_7 an_7 false (sub (bodyOf Try.f7) [1, 1, 1, 1, 1]) 0 (fin Pg W 182 rv_7 R)))) (known [6, 46] [(.bool b43), (.int .i64 n44)] (known [1, 2, 3, 7, 44, 45, 182] [(.int .u16 zn0), (.slice zp1 zl2 zl3), (.pointer (some za4)), (.int .i64 zn5), (.slice (some za6) 2 2), (.int .i64 2), (.tuple #[])] j)) = B_law03_LotOrder_0 W R zn0 zp1 zl2 zl3 za4 zn5 za6 b43 n44 nx0 := by kernel_rfl
def N_law03_LotOrder_0 (I : Bool → Int → Hp → Prop) (μ : Bool → Int → Hp → Nat) (b430 : Bool) (n440 : Int) (s : Hp) (vs : List Value) : Hp → Prop := fun s' => ∃ b43 n44, vs = [(.bool b43), (.int .i64 n44)] ∧ I b43 n44 s' ∧ μ b43 n44 s' < μ b430 n440 s
theorem L_law03_LotOrder_0_rule (W : World) (R : Ending → Hp → Prop) (zn0 : Int) (zp1 : Option Addr) (zl2 : Nat) (zl3 : Nat) (za4 : Addr) (zn5 : Int) (za6 : Addr) (I : Bool → Int → Hp → Prop) (μ : Bool → Int → Hp → Nat) (b430 : Bool) (n440 : Int) (s : Hp) (h0 : I b430 n440 s)
    (hr : ∀ (b43 : Bool) (n44 : Int) (s : Hp), I b43 n44 s → B_law03_LotOrder_0 W R zn0 zp1 zl2 zl3 za4 zn5 za6 b43 n44 (fun vs => N_law03_LotOrder_0 I μ b43 n44 s vs) s) : L_law03_LotOrder_0 W R zn0 zp1 zl2 zl3 za4 zn5 za6 b430 n440 s := by
  refine ⟨fun vs s => ∃ b43 n44, vs = [(.bool b43), (.int .i64 n44)] ∧ I b43 n44 s, fun vs s => (match vs with | [.bool b43, .int _ n44] => μ b43 n44 s | _ => 0), ⟨⟨⟨_, rfl⟩, ⟨⟨_, rfl⟩, trivial⟩⟩, ⟨_, _, rfl, h0⟩⟩, ?_⟩
  intro b43 n44 s hI j
  obtain ⟨b43', n44', hy, hI⟩ := hI
  have hI' : I b43 n44 s := by cases hy; exact hI
  have hh := hr b43 n44 s hI'
  rw [← B_law03_LotOrder_0_eq W R zn0 zp1 zl2 zl3 za4 zn5 za6 b43 n44 _ j] at hh
  refine vc_mono ?_ _ _ hh
  exact KLoop_mono (fun vs s' h => by obtain ⟨b431, n441, rfl, h1, h2⟩ := h; exact ⟨⟨⟨_, rfl⟩, ⟨⟨_, rfl⟩, trivial⟩⟩, ⟨_, _, rfl, h1⟩, h2⟩)
def T_law03_LotOrder (W : World) (x1 : Option Addr) (l2 : Nat) (c3 : Nat) (n4 : Int) (n5 : Int) (x6 : Option Addr) (l7 : Nat) (c8 : Nat) (R : Ending → Hp → Prop) : Hp → Prop :=
  NEW 24 [(.slice x1 l2 c3), (.int .i64 n4)] fun B9 =>
    RDL (Addr.add ⟨B9, 0, none⟩ 0) fun x10 l11 c12 =>
      RDI .i64 (Addr.add ⟨B9, 0, none⟩ 1) fun n13 =>
        CALL Pg W F_law03_far [(.agg #[(.slice x10 l11 c12), (.int .i64 n13)]), (.slice none 0 0), (.int .i64 8)]
          (fun v14 => TYB v14 fun b16 =>
            BR b16
              (J_law03_LotOrder_1 W R true B9 n5 x6 l7 c8)
              (RDL (Addr.add ⟨B9, 0, none⟩ 0) fun x36 l37 c38 =>
                RDI .i64 (Addr.add ⟨B9, 0, none⟩ 1) fun n39 =>
                  CALL Pg W F_ref03_Lots [(.agg #[(.slice x36 l37 c38), (.int .i64 n39)])]
                    (fun v40 => TYB v40 fun b42 =>
                      J_law03_LotOrder_1 W R (!b42) B9 n5 x6 l7 c8)
                      (fun e41 => R (.panicked e41))))
            (fun e15 => R (.panicked e15))
theorem T_law03_LotOrder_eq (W : World) (x1 : Option Addr) (l2 : Nat) (c3 : Nat) (n4 : Int) (n5 : Int) (x6 : Option Addr) (l7 : Nat) (c8 : Nat) (R : Ending → Hp → Prop) : vfun Pg W an_7 Try.f7 [(.agg #[(.slice x1 l2 c3), (.int .i64 n4)]), (.int .u16 n5), (.slice x6 l7 c8)] R = T_law03_LotOrder W x1 l2 c3 n4 n5 x6 l7 c8 R := by kernel_rfl
theorem does_law03_LotOrder (W : World) (x1 : Option Addr) (l2 : Nat) (c3 : Nat) (n4 : Int) (n5 : Int) (x6 : Option Addr) (l7 : Nat) (c8 : Nat) (R : Ending → Hp → Prop) (s : Hp) (h : T_law03_LotOrder W x1 l2 c3 n4 n5 x6 l7 c8 R s) : Does Pg W F_law03_LotOrder #[(.agg #[(.slice x1 l2 c3), (.int .i64 n4)]), (.int .u16 n5), (.slice x6 l7 c8)] s R :=
  does_of_vfun Pg W an_7 Try.func7 rfl (by kernel_rfl) (by rw [T_law03_LotOrder_eq]; exact h)
def an_38 : Nat → Ann := fun b => match b with
  | 0 => { ms := [8], ks := [.i .i64], us := [0, 1, 7, 30], rt := false, ex := [] }
  | _ => {}
abbrev rv_38 : List ResultVar := [.tmp 4]
abbrev rs_38 : List Nat := [30, 4]
def L_law03_LotOrder_c1_0 (W : World) (R : Ending → Hp → Prop) (zp0 : Option Addr) (zl1 : Nat) (zl2 : Nat) (zp3 : Option Addr) (zl4 : Nat) (zl5 : Nat) (zn6 : Int) (n7 : Int) : Hp → Prop :=
  LOOPN [.i .i64] (fun ys next s => ∀ j : Tm, vc Pg W 30 rs_38 an_38 false (sub (bodyOf Try.f38) [1, 0, 1, 0, 0]) 0 (KLoop [8] [0, 1, 7, 30] [(.slice zp0 zl1 zl2), (.slice zp3 zl4 zl5), (.int .i64 zn6), (.tuple #[])] next (KBlk 0 (KS Pg W 30 rs_38 an_38 false (sub (bodyOf Try.f38) [1, 1]) 0 (fin Pg W 30 rv_38 R)))) (known [8] ys (known [0, 1, 7, 30] [(.slice zp0 zl1 zl2), (.slice zp3 zl4 zl5), (.int .i64 zn6), (.tuple #[])] j)) s) [(.int .i64 n7)]
def B_law03_LotOrder_c1_0 (W : World) (R : Ending → Hp → Prop) (zp0 : Option Addr) (zl1 : Nat) (zl2 : Nat) (zp3 : Option Addr) (zl4 : Nat) (zl5 : Nat) (zn6 : Int) (n7 : Int) (nx0 : List Value → Hp → Prop) : Hp → Prop :=
  BR (decide (n7 < zn6))
    (IXS zp0 zl1 n7 1 fun a8 =>
      RDI .i64 a8 fun n9 =>
        IXS zp3 zl4 n7 1 fun a10 =>
          RDI .i64 a10 fun n11 =>
            BR (n9 != n11)
              (IXS zp0 zl1 n7 1 fun a12 =>
                RDI .i64 a12 fun n13 =>
                  IXS zp3 zl4 n7 1 fun a14 =>
                    RDI .i64 a14 fun n15 =>
                      R (.returned (.bool (decide (n13 < n15)))))
              (NX [(.slice zp0 zl1 zl2), (.slice zp3 zl4 zl5), (.int .i64 zn6), (.tuple #[])] [(.slice zp0 zl1 zl2), (.slice zp3 zl4 zl5), (.int .i64 zn6), (.tuple #[])] (nx0 [(.int .i64 (IntKind.wrap .i64 (n7 + 1)))])))
    (R (.returned (.bool false)))
theorem B_law03_LotOrder_c1_0_eq (W : World) (R : Ending → Hp → Prop) (zp0 : Option Addr) (zl1 : Nat) (zl2 : Nat) (zp3 : Option Addr) (zl4 : Nat) (zl5 : Nat) (zn6 : Int) (n7 : Int) (nx0 : List Value → Hp → Prop) (j : Tm) : vc Pg W 30 rs_38 an_38 false (sub (bodyOf Try.f38) [1, 0, 1, 0, 0]) 0 (KLoop [8] [0, 1, 7, 30] [(.slice zp0 zl1 zl2), (.slice zp3 zl4 zl5), (.int .i64 zn6), (.tuple #[])] nx0 (KBlk 0 (KS Pg W 30 rs_38 an_38 false (sub (bodyOf Try.f38) [1, 1]) 0 (fin Pg W 30 rv_38 R)))) (known [8] [(.int .i64 n7)] (known [0, 1, 7, 30] [(.slice zp0 zl1 zl2), (.slice zp3 zl4 zl5), (.int .i64 zn6), (.tuple #[])] j)) = B_law03_LotOrder_c1_0 W R zp0 zl1 zl2 zp3 zl4 zl5 zn6 n7 nx0 := by kernel_rfl
def N_law03_LotOrder_c1_0 (I : Int → Hp → Prop) (μ : Int → Hp → Nat) (n70 : Int) (s : Hp) (vs : List Value) : Hp → Prop := fun s' => ∃ n7, vs = [(.int .i64 n7)] ∧ I n7 s' ∧ μ n7 s' < μ n70 s
theorem L_law03_LotOrder_c1_0_rule (W : World) (R : Ending → Hp → Prop) (zp0 : Option Addr) (zl1 : Nat) (zl2 : Nat) (zp3 : Option Addr) (zl4 : Nat) (zl5 : Nat) (zn6 : Int) (I : Int → Hp → Prop) (μ : Int → Hp → Nat) (n70 : Int) (s : Hp) (h0 : I n70 s)
    (hr : ∀ (n7 : Int) (s : Hp), I n7 s → B_law03_LotOrder_c1_0 W R zp0 zl1 zl2 zp3 zl4 zl5 zn6 n7 (fun vs => N_law03_LotOrder_c1_0 I μ n7 s vs) s) : L_law03_LotOrder_c1_0 W R zp0 zl1 zl2 zp3 zl4 zl5 zn6 n70 s := by
  refine ⟨fun vs s => ∃ n7, vs = [(.int .i64 n7)] ∧ I n7 s, fun vs s => (match vs with | [.int _ n7] => μ n7 s | _ => 0), ⟨⟨⟨_, rfl⟩, trivial⟩, ⟨_, rfl, h0⟩⟩, ?_⟩
  intro n7 s hI j
  obtain ⟨n7', hy, hI⟩ := hI
  have hI' : I n7 s := by cases hy; exact hI
  have hh := hr n7 s hI'
  rw [← B_law03_LotOrder_c1_0_eq W R zp0 zl1 zl2 zp3 zl4 zl5 zn6 n7 _ j] at hh
  refine vc_mono ?_ _ _ hh
  exact KLoop_mono (fun vs s' h => by obtain ⟨n71, rfl, h1, h2⟩ := h; exact ⟨⟨⟨_, rfl⟩, trivial⟩, ⟨_, rfl, h1⟩, h2⟩)
def T_law03_LotOrder_c1 (W : World) (x1 : Option Addr) (l2 : Nat) (c3 : Nat) (x4 : Option Addr) (l5 : Nat) (c6 : Nat) (R : Ending → Hp → Prop) : Hp → Prop :=
  L_law03_LotOrder_c1_0 W R x1 l2 c3 x4 l5 c6 (↑l2 : Int) 0
theorem T_law03_LotOrder_c1_eq (W : World) (x1 : Option Addr) (l2 : Nat) (c3 : Nat) (x4 : Option Addr) (l5 : Nat) (c6 : Nat) (R : Ending → Hp → Prop) : vfun Pg W an_38 Try.f38 [(.slice x1 l2 c3), (.slice x4 l5 c6)] R = T_law03_LotOrder_c1 W x1 l2 c3 x4 l5 c6 R := by kernel_rfl
theorem does_law03_LotOrder_c1 (W : World) (x1 : Option Addr) (l2 : Nat) (c3 : Nat) (x4 : Option Addr) (l5 : Nat) (c6 : Nat) (R : Ending → Hp → Prop) (s : Hp) (h : T_law03_LotOrder_c1 W x1 l2 c3 x4 l5 c6 R s) : Does Pg W F_law03_LotOrder_c1 #[(.slice x1 l2 c3), (.slice x4 l5 c6)] s R :=
  does_of_vfun Pg W an_38 Try.func38 rfl (by kernel_rfl) (by rw [T_law03_LotOrder_c1_eq]; exact h)
end Go.Proofs.Ytocnkdkgajdejaa.G

/- The statement LotOrder: the lawful draws are in order. -/
set_option linter.unusedSimpArgs false
set_option linter.unusedVariables false
set_option maxRecDepth 20000
namespace Go.Proofs.Ytocnkdkgajdejaa.G
open Go.V Go.Lot
section
variable {W : World} {K : VK} {E : List PanicEntry → Hp → Prop} {s : Hp} {L : Lts}
theorem row_at {y : Option Addr} {d : List Nat} {k : Nat} (hy : RowAt s y (vals d)) (hk : k < d.length) : ∃ a, y = some a ∧ cellAt s (a.add (k * 1)) = some (.int .i64 (d.getD k 0 : Nat)) := by
  have hget : d.getD k 0 = d[k] := by simp [List.getD, hk]
  have hkv : k < (vals d).length := by rw [vals_len]; exact hk
  obtain ⟨a, ha, g⟩ := hy k hkv
  rw [vals_get hkv] at g
  exact ⟨a, ha, by rw [hget]; exact g⟩
theorem c_before {x y : Option Addr} {c c' l l' : Nat} {a b : List Nat} (ha : RowAt s x (vals a)) (hb : RowAt s y (vals b)) (hl : l = a.length) (hl' : l' = b.length) (hab : a.length = b.length) (h8 : a.length ≤ 100) (h : K (.bool (ltB a b)) s) :
    CALLV Pg W (.func (.func 38) #[] #[]) [.slice x l c, .slice y l' c'] K E s := by
  subst hl; subst hl'
  refine CALLV_func ?_
  refine does_law03_LotOrder_c1 W x a.length c y b.length c' _ s ?_
  unfold T_law03_LotOrder_c1
  refine L_law03_LotOrder_c1_0_rule W _ x a.length c y b.length c' a.length (fun n t => t = s ∧ ∃ k : Nat, k ≤ a.length ∧ n = k ∧ ∀ j, j < k → a.getD j 0 = b.getD j 0) (fun n _ => (a.length - n).toNat) 0 s ⟨rfl, 0, by omega, rfl, fun j hj => by omega⟩ ?_
  rintro n t ⟨rfl, k, hk, rfl, heq⟩
  unfold B_law03_LotOrder_c1_0
  refine BR_dec (fun h1 => ?_) (fun h1 => ?_)
  · obtain ⟨p, hp, g⟩ := row_at ha (show k < a.length by omega)
    obtain ⟨q, hq, g'⟩ := row_at hb (show k < b.length by omega)
    have tk : ((k : Int)).toNat = k := by omega
    refine ⟨p, hp, ⟨by omega, by omega⟩, _, by rw [tk]; exact g, q, hq, ⟨by omega, by omega⟩, _, by rw [tk]; exact g', ?_⟩
    refine BR_ne (fun h2 => ?_) (fun h2 => ?_)
    · refine ⟨p, hp, ⟨by omega, by omega⟩, _, by rw [tk]; exact g, q, hq, ⟨by omega, by omega⟩, _, by rw [tk]; exact g', ?_⟩
      have h2' : a.getD k 0 ≠ b.getD k 0 := fun e => h2 (by rw [e])
      rw [ltB_drop a b k heq (by omega) (by omega) h2'] at h
      have e : decide (((a.getD k 0 : Nat) : Int) < ((b.getD k 0 : Nat) : Int)) = decide (a.getD k 0 < b.getD k 0) := by congr 1; apply propext; omega
      show K _ t
      rw [e]; exact h
    · have hw : IntKind.i64.wrap ((k : Int) + 1) = ((k + 1 : Nat) : Int) := by rw [wrap_i64 (by omega) (by omega)]; rfl
      refine ⟨rfl, _, rfl, ⟨rfl, k + 1, by omega, hw, fun j hj => ?_⟩, ?_⟩
      · by_cases hjk : j < k
        · exact heq j hjk
        · have : j = k := by omega
          subst this
          omega
      · show ((a.length : Int) - IntKind.i64.wrap ((k : Int) + 1)).toNat < ((a.length : Int) - k).toNat
        rw [hw]; omega
  · have : k = a.length := by omega
    subst this
    rw [ltB_same a b hab heq] at h
    exact h
/-- 'Nth' where there is one, and where there is none. -/
theorem c_Nth_some {x : Option Addr} {c k : Nat} (hm : MenAt s x L.men) (hv : valid L = true) (hk : k < cntAll L anyC) (h : ∀ s' d y c', Ext s s' → (allD L)[k]? = some d → RowAt s' y (vals d) → K (.tuple #[.slice y d.length c', .int .i64 0]) s') :
    CALL Pg W F_lot_Nth [.agg #[.slice x L.n c, .int .i64 L.worst], .int .i64 k] K E s := by
  have hn := (vd_iff.1 hv).hi
  obtain ⟨d, h1, h2⟩ := nthP_some hn hk
  refine c_Nth hm (fun s' d' v e _ hd ho => ?_) (fun s' e _ hd => ?_) (fun s' e hv' => by rw [hv] at hv'; cases hv')
  · rw [h1] at hd; cases hd
    obtain ⟨y, c', rfl, hr⟩ := ho
    exact h s' d y c' e h2 hr
  · rw [h1] at hd; cases hd
theorem c_Nth_none {x : Option Addr} {c : Nat} {n : Int} (hm : MenAt s x L.men) (hv : valid L = true) (hk : ¬ (0 ≤ n ∧ n < cntAll L anyC)) (h : ∀ s', Ext s s' → K (.tuple #[.slice none 0 0, .int .i64 4]) s') :
    CALL Pg W F_lot_Nth [.agg #[.slice x L.n c, .int .i64 L.worst], .int .i64 n] K E s := by
  have h1 := nthP_none hk
  refine c_Nth hm (fun s' d' v e _ hd ho => ?_) (fun s' e _ hd => h s' e) (fun s' e hv' => by rw [hv] at hv'; cases hv')
  rw [h1] at hd; cases hd
theorem f_FullN {x y : Option Addr} {c c' l : Nat} {d : List Nat} (hd : Perm0 L.n d) (hy : RowAt s y (vals d)) (hl : l = d.length) (hn : L.n ≤ 8) (h : ∀ s', Ext s s' → K (.bool true) s') :
    CALL Pg W F_ref03_Full [.agg #[.slice x L.n c, .int .i64 L.worst], .slice y l c'] K E s := by
  subst hl
  have hok := Perm0.ok hd
  have hlen : (d.map fun (n : Nat) => (n : Int)).length = d.length := by simp
  have := f_Full (W := W) (K := K) (E := E) (L := L) (x := x) (c := c) (c' := c') (ds := d.map fun (n : Nat) => (n : Int)) (y := y) (s := s) (by rw [ints_vals]; exact hy) hn (by rw [hlen, hd.len]; omega) (fun s' e => by rw [decide_eq_true hok]; exact h s' e)
  rw [hlen] at this
  exact this
theorem c_PlaceN {x y : Option Addr} {c c' l : Nat} {d : List Nat} (hm : MenAt s x L.men) (hv : valid L = true) (h1 : Perm0 L.n d) (h2 : wrong L d = none) (hy : RowAt s y (vals d)) (hl : l = d.length) (h : ∀ s' (k : Nat), Ext s s' → (allD L)[k]? = some d → K (.tuple #[.int .i64 k, .int .i64 0]) s') :
    CALL Pg W F_lot_Place [.agg #[.slice x L.n c, .int .i64 L.worst], .slice y l c'] K E s := by
  have hn := (vd_iff.1 hv).hi
  obtain ⟨k, hp, ha⟩ := placeP_all hn hv h1 h2
  refine c_Place' (ds := d.map fun (n : Nat) => (n : Int)) hm (by rw [ints_vals]; exact hy) (by rw [List.length_map, h1.len]; omega) (by rw [List.length_map]; exact hl) fun s' e => ?_
  rw [hp]
  exact h s' k e ha
theorem f_IntsV {x y : Option Addr} {c c' l l' : Nat} {a b : List Nat} (ha : RowAt s x (vals a)) (hb : RowAt s y (vals b)) (hla : a.length ≤ 100000) (hl : l = a.length) (hl' : l' = b.length) (h : K (.bool (decide (a = b))) s) :
    CALL Pg W F_ref03_Ints [.slice x l c, .slice y l' c'] K E s := by
  refine f_IntsN (a := a.map fun (n : Nat) => (n : Int)) (b := b.map fun (n : Nat) => (n : Int)) (by rw [ints_vals]; exact ha) (by rw [ints_vals]; exact hb) (by rw [List.length_map]; exact hla) (by rw [List.length_map]; exact hl) (by rw [List.length_map]; exact hl') ?_
  have : decide ((a.map fun (n : Nat) => (n : Int)) = (b.map fun (n : Nat) => (n : Int))) = decide (a = b) := by
    congr 1
    apply propext
    constructor
    · intro e
      have := congrArg (List.map Int.toNat) e
      rwa [map_back, map_back] at this
    · intro e; rw [e]
  rw [this]; exact h

theorem w_LotOrder {x y : Option Addr} {c w l c' : Nat} (hm : MenAt s x L.men) (hw : w ≤ 65535) (hy : U8At s y l) (h : ∀ s', Ext s s' → K (.bool true) s') :
    CALL Pg W F_law03_LotOrder [.agg #[.slice x L.n c, .int .i64 L.worst], .int .u16 w, .slice y l c'] K E s := by
  refine does_law03_LotOrder W x L.n c L.worst w y l c' _ s ?_
  unfold T_law03_LotOrder
  refine NEW_rule fun s1 e1 z1 n1 _ => ?_
  have c0 := (n1 0 _ rfl).cell
  have c1 := (n1 1 _ rfl).cell
  have aw : ∀ t, Ext s1 t → CALL Pg W F_law03_awake [] (fun v16 => TYB v16 fun b18 => (endK K E) (.returned (.bool b18))) (fun c17 => (endK K E) (.panicked c17)) t := fun t et => c_awake fun t' et' => h t' (e1.trans (et.trans et'))
  refine ⟨_, _, _, c0, _, c1, ?_⟩
  refine c_far (n := 8) (hm.ext e1) fun s2 bb e2 hb1 hb2 => ?_
  try simp only [TUP_mk, AGG_mk, HD_mk, NL_mk, TYI_mk, TYB_mk, TYP_mk, TYL_mk, TYS_mk, TYM_mk, SO_mk, NX_mk, endK_mk, endK_mk', add_0]
  unfold J_law03_LotOrder_1
  refine BR_bool (fun hbb => aw s2 e2) (fun hbb => ?_)
  obtain ⟨hn30, _, hn8'⟩ := hb2 hbb
  refine ⟨_, _, _, e2.cell c0, _, e2.cell c1, ?_⟩
  have e02 := e1.trans e2
  refine f_Lots (hm.ext e02) (by omega) fun s3 e3 => ?_
  try simp only [TUP_mk, AGG_mk, HD_mk, NL_mk, TYI_mk, TYB_mk, TYP_mk, TYL_mk, TYS_mk, TYM_mk, SO_mk, NX_mk, endK_mk, endK_mk', add_0]
  have e13 := e2.trans e3
  have e03 := e1.trans e13
  refine BR_not (fun hv => aw s3 e13) (fun hv => ?_)
  have v := vd_iff.1 hv
  have hn8 := v.hi
  have hlo := v.lo
  refine ⟨_, _, _, e13.cell c0, _, e13.cell c1, ?_⟩
  refine c_Count (hm.ext e03) fun s4 e4 => ?_
  try simp only [TUP_mk, AGG_mk, HD_mk, NL_mk, TYI_mk, TYB_mk, TYP_mk, TYL_mk, TYS_mk, TYM_mk, SO_mk, NX_mk, endK_mk, endK_mk', add_0]
  have hcp : countP L = (((cntAll L anyC : Nat) : Int), 0) := by unfold countP; rw [hv]; rfl
  rw [hcp]
  have e14 := e13.trans e4
  have hcl : cntAll L anyC ≤ 134217728 := cnt_le L anyC hn8 _ _
  refine BR_ne (fun hh => absurd rfl hh) (fun _ => ?_)
  unfold J_law03_LotOrder_0
  refine BR_dec (fun hh => by dsimp only at hh; omega) (fun _ => ?_)
  refine NEW_rule fun s5 e5 z5 n5 _ => ?_
  have e15 := e14.trans e5
  dsimp only
  generalize hcN : cntAll L anyC = N at *
  refine L_law03_LotOrder_0_rule W _ w y l c' ⟨s.size, 0, none⟩ N ⟨s4.size, 0, none⟩ (fun _ n t => Ext s5 t ∧ ∃ k : Nat, k ≤ 2 ∧ n = k) (fun _ n _ => (2 - n).toNat) false 0 s5 ⟨Ext.refl _, 0, by omega, rfl⟩ ?_
  rintro b43 n t ⟨e5t, k, hk, rfl⟩
  have et := e15.trans e5t
  unfold B_law03_LotOrder_0
  refine BR_dec (fun h1 => ?_) (fun h1 => ?_)
  · have tk : ((k : Int)).toNat = k := by omega
    have hwk : IntKind.i64.wrap ((k : Int) + 1) = ((k + 1 : Nat) : Int) := by rw [wrap_i64 (by omega) (by omega)]; rfl
    obtain ⟨z, hz, hzn⟩ : ∃ z : Int, cellAt t ((⟨s4.size, 0, none⟩ : Addr).add (k * 1)) = some (.int .i64 z) ∧ ¬ (0 ≤ z ∧ z < cntAll L anyC) := by
      rw [add_nil, Nat.mul_one, Nat.zero_add]
      match k, hk, h1 with
      | 0, _, _ => exact ⟨-1, e5t.cell (n5 0 _ rfl).cell, by omega⟩
      | 1, _, _ => exact ⟨N, e5t.cell (n5 1 _ rfl).cell, by rw [hcN]; omega⟩
      | 2, _, h1 => exact absurd h1 (by decide)
    refine ⟨_, rfl, ⟨by omega, by omega⟩, _, by rw [tk]; exact hz, _, _, _, et.cell c0, _, et.cell c1, ?_⟩
    refine c_Nth_none (hm.ext (e1.trans et)) hv hzn fun t2 f2 => ?_
    try simp only [TUP_mk, AGG_mk, HD_mk, NL_mk, TYI_mk, TYB_mk, TYP_mk, TYL_mk, TYS_mk, TYM_mk, SO_mk, NX_mk, endK_mk, endK_mk', add_0]
    refine BR_ne (fun hh => absurd rfl hh) (fun _ => ?_)
    unfold J_law03_LotOrder_2
    refine BR_ne (fun hh => absurd rfl hh) (fun _ => ?_)
    refine ⟨rfl, _, _, rfl, ⟨e5t.trans f2, k + 1, by omega, hwk⟩, ?_⟩
    show (2 - IntKind.i64.wrap ((k : Int) + 1)).toNat < (2 - (k : Int)).toNat
    rw [hwk]; omega
  · refine BR_eq (fun _ => aw t et) (fun hN0 => ?_)
    have hNp : 0 < N := by omega
    have hww : IntKind.wrap .i64 (w : Int) = (w : Int) := wrap_i64 (by omega) (by omega)
    refine NZI_pos (by omega) ⟨_, _, _, et.cell c0, _, et.cell c1, ?_⟩
    rw [hww, mod_nat]
    have hkN : w % N < N := Nat.mod_lt _ hNp
    obtain ⟨q, hq⟩ : ∃ q, w % N = q := ⟨_, rfl⟩
    rw [hq] at hkN ⊢
    refine c_Nth_some (hm.ext (e1.trans et)) hv (by omega) fun t2 d yd cd f2 hd rd => ?_
    try simp only [TUP_mk, AGG_mk, HD_mk, NL_mk, TYI_mk, TYB_mk, TYP_mk, TYL_mk, TYS_mk, TYM_mk, SO_mk, NX_mk, endK_mk, endK_mk', add_0]
    have et2 := et.trans f2
    obtain ⟨pd, wd, _⟩ := allD_at hn8 hd
    refine ⟨_, _, _, et2.cell c0, _, et2.cell c1, ?_⟩
    refine c_PlaceN (hm.ext (e1.trans et2)) hv pd wd rd rfl fun t3 q' f3 hq' => ?_
    have hqq : q = q' := (allD_inj hn8 hq' hd).symm
    subst hqq
    try simp only [TUP_mk, AGG_mk, HD_mk, NL_mk, TYI_mk, TYB_mk, TYP_mk, TYL_mk, TYS_mk, TYM_mk, SO_mk, NX_mk, endK_mk, endK_mk', add_0]
    have et3 := et2.trans f3
    refine BR_ne (fun hh => absurd rfl hh) (fun _ => ?_)
    refine ⟨_, _, _, et3.cell c0, _, et3.cell c1, ?_⟩
    refine f_FullN pd (rd.ext f3) rfl hn8 fun t4 f4 => ?_
    try simp only [TUP_mk, AGG_mk, HD_mk, NL_mk, TYI_mk, TYB_mk, TYP_mk, TYL_mk, TYS_mk, TYM_mk, SO_mk, NX_mk, endK_mk, endK_mk', add_0]
    have et4 := et3.trans f4
    have rd4 := (rd.ext f3).ext f4
    unfold J_law03_LotOrder_12
    refine BR_not (fun hh => by cases hh) (fun _ => ?_)
    refine ⟨_, _, _, et4.cell c0, _, et4.cell c1, ?_⟩
    refine c_lawful (hm.ext (e1.trans et4)) rd4 hv pd.lt rfl pd.len fun t5 f5 => ?_
    try simp only [TUP_mk, AGG_mk, HD_mk, NL_mk, TYI_mk, TYB_mk, TYP_mk, TYL_mk, TYS_mk, TYM_mk, SO_mk, NX_mk, endK_mk, endK_mk', add_0]
    have et5 := et4.trans f5
    have rd5 := rd4.ext f5
    rw [decide_eq_true wd]
    unfold J_law03_LotOrder_11
    refine BR_not (fun hh => by cases hh) (fun _ => ?_)
    unfold J_law03_LotOrder_10
    refine BR_ne (fun hh => absurd rfl hh) (fun _ => ?_)
    unfold J_law03_LotOrder_9
    rw [hww, mod_nat, hq]
    refine BR_ne (fun hh => absurd rfl hh) (fun _ => ?_)
    have dlen := pd.len
    have j6 : ∀ t, Ext s1 t → RowAt t yd (vals d) → J_law03_LotOrder_6 W (endK K E) ⟨s.size, 0, none⟩ y l c' N yd d.length cd w t := by
      intro t et rd
      unfold J_law03_LotOrder_6
      refine ⟨_, _, _, et.cell c0, ?_⟩
      refine c_made (hy.ext (e1.trans et)) (by omega) fun u1 a own g1 fr po bo => ?_
      try simp only [TUP_mk, AGG_mk, HD_mk, NL_mk, TYI_mk, TYB_mk, TYP_mk, TYL_mk, TYS_mk, TYM_mk, SO_mk, NX_mk, endK_mk, endK_mk', add_0]
      have eu1 := et.trans g1
      have ro : RowAt u1 (some a) (vals own) := bo.row
      refine ⟨_, _, _, eu1.cell c0, _, eu1.cell c1, ?_⟩
      refine c_lawful (hm.ext (e1.trans eu1)) ro hv po.lt po.len.symm po.len fun u2 g2 => ?_
      try simp only [TUP_mk, AGG_mk, HD_mk, NL_mk, TYI_mk, TYB_mk, TYP_mk, TYL_mk, TYS_mk, TYM_mk, SO_mk, NX_mk, endK_mk, endK_mk', add_0]
      have eu2 := eu1.trans g2
      refine BR_not (fun hh => aw u2 eu2) (fun hh => ?_)
      have wo : wrong L own = none := of_decide_eq_true hh
      refine ⟨_, _, _, eu2.cell c0, _, eu2.cell c1, ?_⟩
      refine c_PlaceN (hm.ext (e1.trans eu2)) hv po wo (ro.ext g2) po.len.symm fun u3 p g3 hp => ?_
      try simp only [TUP_mk, AGG_mk, HD_mk, NL_mk, TYI_mk, TYB_mk, TYP_mk, TYL_mk, TYS_mk, TYM_mk, SO_mk, NX_mk, endK_mk, endK_mk', add_0]
      have eu3 := eu2.trans g3
      have hpN : p < N := by rw [← hcN]; exact (allD_at hn8 hp).2.2
      have ro3 := (ro.ext g2).ext g3
      have rd3 := rd.ext (g1.trans (g2.trans g3))
      refine BR_eq (fun _ => ?_) (fun hh => absurd rfl hh)
      unfold J_law03_LotOrder_5
      refine BR_dec (fun _ => ?_) (fun hh => by omega)
      unfold J_law03_LotOrder_4
      refine BR_dec (fun _ => ?_) (fun hh => by omega)
      refine c_before ro3 rd3 po.len.symm rfl (by rw [po.len, dlen]) (by rw [po.len]; omega) ?_
      try simp only [TUP_mk, AGG_mk, HD_mk, NL_mk, TYI_mk, TYB_mk, TYP_mk, TYL_mk, TYS_mk, TYM_mk, SO_mk, NX_mk, endK_mk, endK_mk', add_0]
      unfold J_law03_LotOrder_3
      rw [hww, mod_nat, hq]
      have e1' : decide ((p : Int) < (q : Int)) = ltB own d := by
        rw [Bool.eq_iff_iff, ltB_iff, ← allD_lt hn8 hp hd]
        simp
      rw [e1']
      refine BR_eq (fun _ => ?_) (fun hh => absurd rfl hh)
      refine f_IntsV ro3 rd3 (by rw [po.len]; omega) po.len.symm rfl ?_
      try simp only [TUP_mk, AGG_mk, HD_mk, NL_mk, TYI_mk, TYB_mk, TYP_mk, TYL_mk, TYS_mk, TYM_mk, SO_mk, NX_mk, endK_mk, endK_mk', add_0]
      have e2' : ((p : Int) == (q : Int)) = decide (own = d) := by
        rw [Bool.eq_iff_iff]
        simp only [beq_iff_eq, decide_eq_true_eq]
        constructor
        · intro e
          have : p = q := by omega
          subst this
          rw [hp] at hd; exact Option.some.inj hd
        · intro e
          subst e
          have := allD_inj hn8 hp hd
          omega
      rw [e2']
      refine BR_eq (fun _ => ?_) (fun hh => absurd rfl hh)
      exact aw u3 eu3
    have hwq : IntKind.wrap .i64 ((q : Int) + 1) = ((q + 1 : Nat) : Int) := by rw [wrap_i64 (by omega) (by omega)]; rfl
    rw [hwq]
    refine BR_dec (fun hlt => ?_) (fun _ => j6 t5 et5 rd5)
    refine ⟨_, _, _, et5.cell c0, _, et5.cell c1, ?_⟩
    refine c_Nth_some (hm.ext (e1.trans et5)) hv (by omega) fun t6 d2 yd2 cd2 f6 hd2 rd2 => ?_
    try simp only [TUP_mk, AGG_mk, HD_mk, NL_mk, TYI_mk, TYB_mk, TYP_mk, TYL_mk, TYS_mk, TYM_mk, SO_mk, NX_mk, endK_mk, endK_mk', add_0]
    obtain ⟨pd2, _, _⟩ := allD_at hn8 hd2
    have et6 := et5.trans f6
    refine BR_ne (fun hh => absurd rfl hh) (fun _ => ?_)
    unfold J_law03_LotOrder_8
    refine BR_ne (fun hh => absurd (by rw [pd2.len, dlen]) hh) (fun _ => ?_)
    refine c_before (rd5.ext f6) rd2 rfl rfl (by rw [pd2.len, dlen]) (by rw [dlen]; omega) ?_
    try simp only [TUP_mk, AGG_mk, HD_mk, NL_mk, TYI_mk, TYB_mk, TYP_mk, TYL_mk, TYS_mk, TYM_mk, SO_mk, NX_mk, endK_mk, endK_mk', add_0]
    have hlt2 : ltB d d2 = true := (ltB_iff _ _).2 ((allD_lt hn8 hd hd2).1 (by omega))
    rw [hlt2]
    unfold J_law03_LotOrder_7
    refine BR_not (fun hh => by cases hh) (fun _ => ?_)
    exact j6 t6 et6 (rd5.ext f6)
end
end Go.Proofs.Ytocnkdkgajdejaa.G

/- Draws of plots, in plain Lean: the one that breaks the fewest rules. -/
set_option linter.unusedSimpArgs false
set_option linter.unusedVariables false
namespace Go.Proofs.Ytocnkdkgajdejaa.G
open Go.V Go.Lot
/-- A draw's rest, for those who are left. -/
def RP (n : Nat) : List Nat → Nat → Prop
  | [], left => left = 0
  | m :: r, left => m < n ∧ left.testBit m = true ∧ RP n r (left - 2 ^ m)
/-- What it breaks. -/
def costR (L : Lts) : Nat → Nat → List Nat → Nat
  | _, _, [] => 0
  | q, b, m :: r => brk L q m b + costR L (q + 1) m r
theorem rp_of {n : Nat} (hn : n ≤ 8) : ∀ (d : List Nat) (left : Nat), left < 2 ^ n → d.Nodup → (∀ m ∈ d, m < n) → (∀ j, j < n → (left.testBit j = true ↔ j ∈ d)) → RP n d left
  | [], left, hl, hd, hlt, hb => by
    show left = 0
    apply Nat.eq_of_testBit_eq
    intro j
    rw [Nat.zero_testBit]
    cases h : left.testBit j with
    | false => rfl
    | true => have := (hb j (low_of hl h)).1 h; cases this
  | m :: r, left, hl, hd, hlt, hb => by
    have hm := hlt m (by simp)
    have hbm := (hb m hm).2 (by simp)
    have hd' := List.nodup_cons.1 hd
    refine ⟨hm, hbm, rp_of hn r _ (Nat.lt_of_le_of_lt (Nat.sub_le _ _) hl) hd'.2 (fun x hx => hlt x (by simp [hx])) fun j hj => ?_⟩
    rw [clr_bits left (lt256 hn hl) m (by omega) hbm j (by omega)]
    have := hb j hj
    by_cases e : j = m
    · subst e; simp [hd'.1]
    · simp [e] at this ⊢; exact this
theorem rp_perm {n : Nat} (hn : n ≤ 8) : ∀ (d : List Nat) (left : Nat), left < 2 ^ n → RP n d left → d.Nodup ∧ (∀ m ∈ d, m < n) ∧ (∀ j, j < n → (left.testBit j = true ↔ j ∈ d))
  | [], left, hl, h => by
    have : left = 0 := h
    subst this
    exact ⟨List.nodup_nil, by simp, by simp⟩
  | m :: r, left, hl, h => by
    obtain ⟨h1, h2, h4⟩ := h
    obtain ⟨i1, i2, i3⟩ := rp_perm hn r (left - 2 ^ m) (Nat.lt_of_le_of_lt (Nat.sub_le _ _) hl) h4
    have hb := clr_bits left (lt256 hn hl) m (by omega) h2
    have hnot : m ∉ r := fun hm => by
      have := (i3 m h1).2 hm
      rw [hb m (by omega)] at this
      simp at this
    refine ⟨List.nodup_cons.2 ⟨hnot, i1⟩, ?_, ?_⟩
    · intro x hx
      rcases List.mem_cons.1 hx with rfl | hx
      · exact h1
      · exact i2 x hx
    · intro j hj
      have := i3 j hj
      rw [hb j (by omega)] at this
      by_cases e : j = m
      · subst e; simp [h2]
      · simp [e] at this ⊢; exact this
theorem rp_full {n : Nat} (hn : n ≤ 8) {d : List Nat} : RP n d (full n) ↔ Perm0 n d := by
  constructor
  · intro h
    obtain ⟨h1, h2, h3⟩ := rp_perm hn d _ full_lt8 h
    exact perm_of_mem h1 h2 fun j hj => (h3 j hj).1 (full_bits hj)
  · intro h
    refine rp_of hn d _ full_lt8 h.nd h.lt fun j hj => ⟨fun _ => ?_, fun _ => full_bits hj⟩
    obtain ⟨i, hi, e⟩ := perm_has h hj
    have hi' : i < d.length := by rw [h.len]; exact hi
    have e2 : d.getD i 0 = d[i] := by simp [List.getD, hi']
    rw [← e, e2]; exact List.getElem_mem _
theorem costR_sum (L : Lts) : ∀ (d : List Nat) (q b : Nat), costR L q b d = ((List.range d.length).map fun j => brk L (q + j) (d.getD j 0) (if j = 0 then b else d.getD (j - 1) 0)).sum
  | [], q, b => rfl
  | m :: r, q, b => by
    show brk L q m b + costR L (q + 1) m r = _
    rw [costR_sum L r (q + 1) m, List.length_cons, List.range_succ_eq_map, List.map_cons, List.sum_cons, List.map_map]
    congr 1
    congr 1
    apply List.map_congr_left
    intro j _
    cases j with
    | zero => simp
    | succ j =>
      show brk L (q + 1 + (j + 1)) (r.getD (j + 1) 0) (r.getD j 0) = brk L (q + (j + 1 + 1)) ((m :: r).getD (j + 1 + 1) 0) ((m :: r).getD (j + 1) 0)
      rw [show q + 1 + (j + 1) = q + (j + 1 + 1) by omega]
      simp
theorem brokenK_sum (L : Lts) (d : List Nat) : ∀ k, brokenK L d k = ((List.range k).map fun j => brk L j (d.getD j 0) (prev d j)).sum
  | 0 => rfl
  | k + 1 => by rw [List.range_succ, List.map_append, List.sum_append, ← brokenK_sum L d k]; simp [brokenK]
theorem broken_costR (L : Lts) (d : List Nat) : brokenK L d d.length = costR L 0 8 d := by
  rw [brokenK_sum, costR_sum]
  congr 1
  apply List.map_congr_left
  intro j _
  rw [Nat.zero_add]; rfl
theorem sum_eq_zero {l : List Nat} : l.sum = 0 ↔ ∀ x ∈ l, x = 0 := by
  induction l with
  | nil => simp
  | cons a l ih => simp [ih]
theorem cost_zero {L : Lts} {d : List Nat} : brokenK L d d.length = 0 ↔ wrong L d = none := by
  rw [brokenK_sum, sum_eq_zero, wrong_none]
  unfold clean
  constructor
  · intro h i hi; exact h _ (List.mem_map.2 ⟨i, List.mem_range.2 hi, rfl⟩)
  · intro h x hx
    obtain ⟨i, hi, rfl⟩ := List.mem_map.1 hx
    exact h i (List.mem_range.1 hi)
theorem best_acc (k : Nat → Nat) : ∀ (l : List Nat) (n x : Nat), (∀ y ∈ l, x < y) → l.Pairwise (· < ·) → ∃ n' z, l.foldl (better k) (some (n, x)) = some (n', z) ∧ ((z = x ∧ n' = n) ∨ (z ∈ l ∧ n' = k z)) ∧ n' ≤ n ∧ (n' = n → z = x) ∧ ∀ y ∈ l, n' ≤ k y ∧ (k y = n' → z ≤ y)
  | [], n, x, _, _ => ⟨n, x, rfl, .inl ⟨rfl, rfl⟩, Nat.le_refl _, fun _ => rfl, fun y hy => by cases hy⟩
  | a :: l, n, x, hx, hs => by
    obtain ⟨hs1, hs2⟩ := List.pairwise_cons.1 hs
    rw [List.foldl_cons]
    by_cases h : k a < n
    · have e : better k (some (n, x)) a = some (k a, a) := by show (if k a < n then _ else _) = _; rw [if_pos h]
      rw [e]
      obtain ⟨n', z, h1, h2, h3, h4, h5⟩ := best_acc k l (k a) a hs1 hs2
      refine ⟨n', z, h1, ?_, by omega, fun e => by omega, ?_⟩
      · rcases h2 with ⟨rfl, rfl⟩ | ⟨h2, h2'⟩
        · exact .inr ⟨by simp, rfl⟩
        · exact .inr ⟨by simp [h2], h2'⟩
      · intro y hy
        rcases List.mem_cons.1 hy with rfl | hy
        · exact ⟨h3, fun e => by rw [h4 e.symm]; exact Nat.le_refl _⟩
        · exact h5 y hy
    · have e : better k (some (n, x)) a = some (n, x) := by show (if k a < n then _ else _) = _; rw [if_neg h]
      rw [e]
      obtain ⟨n', z, h1, h2, h3, h4, h5⟩ := best_acc k l n x (fun y hy => hx y (by simp [hy])) hs2
      refine ⟨n', z, h1, ?_, h3, h4, ?_⟩
      · rcases h2 with h2 | ⟨h2, h2'⟩
        · exact .inl h2
        · exact .inr ⟨by simp [h2], h2'⟩
      · intro y hy
        rcases List.mem_cons.1 hy with rfl | hy
        · refine ⟨by omega, fun e => ?_⟩
          have : n' = n := by omega
          rw [h4 this]; exact Nat.le_of_lt (hx y (by simp))
        · exact h5 y hy
theorem best_spec (k : Nat → Nat) {l : List Nat} (hs : l.Pairwise (· < ·)) (h : l ≠ []) : ∃ z, z ∈ l ∧ best k l = some (k z, z) ∧ ∀ y ∈ l, k z ≤ k y ∧ (k y = k z → z ≤ y) := by
  cases l with
  | nil => exact absurd rfl h
  | cons a l =>
    obtain ⟨hs1, hs2⟩ := List.pairwise_cons.1 hs
    obtain ⟨n', z, h1, h2, h3, h4, h5⟩ := best_acc k l (k a) a hs1 hs2
    have hb : best k (a :: l) = some (n', z) := h1
    have hn : n' = k z := by rcases h2 with ⟨rfl, rfl⟩ | ⟨_, h2⟩; rfl; exact h2
    subst hn
    refine ⟨z, ?_, hb, ?_⟩
    · rcases h2 with ⟨rfl, _⟩ | ⟨h2, _⟩
      · simp
      · simp [h2]
    · intro y hy
      rcases List.mem_cons.1 hy with rfl | hy
      · exact ⟨h3, fun e => by rw [h4 e.symm]; exact Nat.le_refl _⟩
      · exact h5 y hy
theorem few_zero (L : Lts) (b : Nat) : few L 0 b = (0, 8) := fewF_zero L 9 b
theorem leastD_zero (L : Lts) (f b : Nat) : leastD L f 0 b = [] := by cases f <;> rfl
/-- The draw that breaks the fewest rules, and comes first then. -/
theorem least_spec (L : Lts) (hn : L.n ≤ 8) : ∀ (f left b : Nat), left < 2 ^ L.n → (menOf L.n left).length ≤ f →
    RP L.n (leastD L f left b) left ∧ costR L (plotOf L.n left) b (leastD L f left b) = (few L left b).1 ∧
    ∀ d, RP L.n d left → (few L left b).1 ≤ costR L (plotOf L.n left) b d ∧ (costR L (plotOf L.n left) b d = (few L left b).1 → d = leastD L f left b ∨ lexLt (leastD L f left b) d) := by
  intro f
  induction f with
  | zero =>
    intro left b hl hf
    have : left = 0 := menOf_nil hl (by omega)
    subst this
    rw [few_zero, leastD_zero]
    refine ⟨rfl, rfl, fun d hd => ⟨Nat.zero_le _, fun _ => ?_⟩⟩
    cases d with
    | nil => exact .inl rfl
    | cons m r => have := hd.2.1; simp at this
  | succ f ih =>
    intro left b hl hf
    by_cases h0 : left = 0
    · subst h0
      rw [few_zero, leastD_zero]
      refine ⟨rfl, rfl, fun d hd => ⟨Nat.zero_le _, fun _ => ?_⟩⟩
      cases d with
      | nil => exact .inl rfl
      | cons m r => have := hd.2.1; simp at this
    · have hne : menOf L.n left ≠ [] := fun e => h0 (menOf_nil hl (by rw [e]; rfl))
      obtain ⟨z, hz, hb, hall⟩ := best_spec (fun m => brk L (plotOf L.n left) m b + (few L (left - 2 ^ m) m).1) (menOf_sorted _ _) hne
      have hfew : few L left b = (brk L (plotOf L.n left) z b + (few L (left - 2 ^ z) z).1, z) := by rw [few_eq L hn hl h0, hb]; rfl
      have hle : leastD L (f + 1) left b = z :: leastD L f (left - 2 ^ z) z := by
        show (if left = 0 then [] else (few L left b).2 :: leastD L f (left - 2 ^ (few L left b).2) (few L left b).2) = _
        rw [if_neg h0, hfew]
      obtain ⟨hz1, hz2⟩ := menOf_mem.1 hz
      have hc := clr_len hn (lt256 hn hl) hz1 hz2
      obtain ⟨i1, i2, i3⟩ := ih (left - 2 ^ z) z (Nat.lt_of_le_of_lt (Nat.sub_le _ _) hl) (by omega)
      rw [plot_clr hn hl hz1 hz2] at i2 i3
      rw [hle, hfew]
      refine ⟨⟨hz1, hz2, i1⟩, ?_, ?_⟩
      · show brk L (plotOf L.n left) z b + costR L (plotOf L.n left + 1) z _ = _
        rw [i2]
      · intro d hd
        cases d with
        | nil => exact absurd hd h0
        | cons m r =>
          obtain ⟨hm1, hm2, hr⟩ := hd
          obtain ⟨j1, j2⟩ := hall m (menOf_mem.2 ⟨hm1, hm2⟩)
          have hcm := clr_len hn (lt256 hn hl) hm1 hm2
          obtain ⟨_, _, k3⟩ := ih (left - 2 ^ m) m (Nat.lt_of_le_of_lt (Nat.sub_le _ _) hl) (by omega)
          rw [plot_clr hn hl hm1 hm2] at k3
          obtain ⟨k4, k5⟩ := k3 r hr
          have hcost : costR L (plotOf L.n left) b (m :: r) = brk L (plotOf L.n left) m b + costR L (plotOf L.n left + 1) m r := rfl
          rw [hcost]
          dsimp only at j1 j2 ⊢
          refine ⟨by omega, fun he => ?_⟩
          have hzm := j2 (by omega)
          rcases Nat.lt_or_ge z m with hlt | hge
          · exact .inr (.inl hlt)
          · have : z = m := by omega
            subst this
            rcases k5 (by omega) with e | e
            · exact .inl (by rw [e])
            · exact .inr (.inr ⟨rfl, e⟩)
section
variable {L : Lts}
def leastA (L : Lts) : List Nat := leastD L L.n (full L.n) 8
def fewA (L : Lts) : Nat := (few L (full L.n) 8).1
theorem least_perm (hn : L.n ≤ 8) : Perm0 L.n (leastA L) := (rp_full hn).1 (least_spec L hn L.n (full L.n) 8 full_lt8 (menOf_len_le _ _)).1
theorem least_cost (hn : L.n ≤ 8) : brokenK L (leastA L) (leastA L).length = fewA L := by
  have := (least_spec L hn L.n (full L.n) 8 full_lt8 (menOf_len_le _ _)).2.1
  rw [plot_full] at this
  rw [broken_costR]; exact this
theorem least_min (hn : L.n ≤ 8) {d : List Nat} (hd : Perm0 L.n d) : fewA L ≤ brokenK L d d.length ∧ (brokenK L d d.length = fewA L → d = leastA L ∨ lexLt (leastA L) d) := by
  have := (least_spec L hn L.n (full L.n) 8 full_lt8 (menOf_len_le _ _)).2.2 d ((rp_full hn).2 hd)
  rw [plot_full] at this
  rw [broken_costR]; exact this
theorem few_lawful (hn : L.n ≤ 8) : fewA L = 0 ↔ 0 < cntAll L anyC := by
  rw [cntAny_len hn]
  constructor
  · intro h
    have h1 := least_cost hn
    rw [h] at h1
    have : leastA L ∈ allD L := (mem_allD hn).2 ⟨least_perm hn, cost_zero.1 h1⟩
    exact List.length_pos_of_mem this
  · intro h
    obtain ⟨d, hd⟩ := List.exists_mem_of_length_pos h
    obtain ⟨h1, h2⟩ := (mem_allD hn).1 hd
    have h3 := (least_min hn h1).1
    rw [cost_zero.2 h2] at h3
    omega
theorem least_first (hn : L.n ≤ 8) (h : fewA L = 0) {d : List Nat} (hd : (allD L)[0]? = some d) : d = leastA L := by
  obtain ⟨pd, wd, _⟩ := allD_at hn hd
  rcases (least_min hn pd).2 (by rw [cost_zero.2 wd, h]) with e | e
  · exact e
  · have h1 := least_cost hn
    rw [h] at h1
    have hmem : leastA L ∈ allD L := (mem_allD hn).2 ⟨least_perm hn, cost_zero.1 h1⟩
    obtain ⟨i, hi, he⟩ := List.getElem_of_mem hmem
    have hi' : (allD L)[i]? = some (leastA L) := by rw [List.getElem?_eq_getElem hi, he]
    have := (allD_lt hn hi' hd).2 e
    omega
end
end Go.Proofs.Ytocnkdkgajdejaa.G

/- Draws of plots, in plain Lean: with a rule less; counted from the other end. -/
set_option linter.unusedSimpArgs false
set_option linter.unusedVariables false
namespace Go.Proofs.Ytocnkdkgajdejaa.G
open Go.V Go.Lot
section
variable {L L' : Lts}
/-- No more is broken, whoever comes where. -/
def Looser (L L' : Lts) : Prop := L'.n = L.n ∧ ∀ q m b, m < L.n → (b = 8 ∨ b < L.n) → brk L' q m b ≤ brk L q m b
theorem prev_ok {n : Nat} {d : List Nat} (pd : Perm0 n d) {i : Nat} (hi : i < n) : prev d i = 8 ∨ prev d i < n := by
  unfold prev
  split
  · exact .inl rfl
  · exact .inr (perm_get pd (by omega))
theorem looser_clean (h : Looser L L') {d : List Nat} (pd : Perm0 L.n d) (wd : wrong L d = none) : wrong L' d = none := by
  have hc := wrong_none.1 wd
  refine wrong_none.2 fun i hi => ?_
  have hi' : i < L.n := by rw [← pd.len]; exact hi
  have h1 := hc i hi
  have h2 := h.2 i (d.getD i 0) (prev d i) (perm_get pd hi') (prev_ok pd hi')
  omega
theorem looser_cost (h : Looser L L') {d : List Nat} (pd : Perm0 L.n d) : ∀ k, k ≤ d.length → brokenK L' d k ≤ brokenK L d k
  | 0, _ => Nat.le_refl _
  | k + 1, hk => by
    have ih := looser_cost h pd k (by omega)
    have hk' : k < L.n := by rw [← pd.len]; omega
    have h2 := h.2 k (d.getD k 0) (prev d k) (perm_get pd hk') (prev_ok pd hk')
    show brokenK L' d k + _ ≤ brokenK L d k + _
    omega
theorem allD_nodup (hn : L.n ≤ 8) : (allD L).Nodup := List.Pairwise.imp (fun h e => by subst e; exact lexLt_irrefl _ h) (allD_sorted L hn full_lt8)
theorem looser_sub (hn : L.n ≤ 8) (h : Looser L L') : ∀ d ∈ allD L, d ∈ allD L' := fun d hd => by
  obtain ⟨h1, h2⟩ := (mem_allD hn).1 hd
  have hn' : L'.n ≤ 8 := by rw [h.1]; exact hn
  exact (mem_allD hn').2 ⟨by rw [h.1]; exact h1, looser_clean h h1 h2⟩
theorem looser_cnt (hn : L.n ≤ 8) (h : Looser L L') : cntAll L anyC ≤ cntAll L' anyC := by
  have hn' : L'.n ≤ 8 := by rw [h.1]; exact hn
  rw [cntAny_len hn, cntAny_len hn']
  exact (allD_nodup hn).length_le_of_subset (looser_sub hn h)
theorem looser_few (hn : L.n ≤ 8) (h : Looser L L') : fewA L' ≤ fewA L := by
  have hn' : L'.n ≤ 8 := by rw [h.1]; exact hn
  have pd := least_perm (L := L) hn
  have h1 := (least_min (L := L') hn' (d := leastA L) (by rw [h.1]; exact pd)).1
  have h2 := looser_cost h pd _ (Nat.le_refl _)
  have h3 := least_cost (L := L) hn
  omega
theorem looser_of (hn : L.n ≤ 8) (h : Looser L L') {m p : Nat} (hp : p < L.n) (ho : 0 < ofN L m p) : 0 < ofN L' m p := by
  have hn' : L'.n ≤ 8 := by rw [h.1]; exact hn
  obtain ⟨d, h1, h2, h3⟩ := (ofN_pos hn hp).1 ho
  exact (ofN_pos hn' (by rw [h.1]; exact hp)).2 ⟨d, by rw [h.1]; exact h1, looser_clean h h1 h2, h3⟩
theorem looser_can (hn : L.n ≤ 8) (h : Looser L L') (m : Nat) {i : Nat} (hb : (canSet L m L.n).testBit i = true) : (canSet L' m L'.n).testBit i = true := by
  rw [canSet_bit] at hb ⊢
  simp only [Bool.and_eq_true, decide_eq_true_eq] at hb ⊢
  exact ⟨by rw [h.1]; exact hb.1, looser_of hn h hb.1 hb.2⟩
end

/-- With a rule less for somebody, or a plot less of the worst. -/
def noBit (w p : Nat) : Nat := w &&& (255 ^^^ 2 ^ p)
def loose (L : Lts) (m p : Nat) : Nat → Lts
  | 0 => ⟨L.men.set m { man L m with club := 0 }, L.worst⟩
  | 1 => ⟨L.men.set m { man L m with left := false }, L.worst⟩
  | 2 => ⟨L.men.set m { man L m with nov := false }, L.worst⟩
  | _ => ⟨L.men, (noBit L.worst.toNat p : Nat)⟩
theorem loose_n (L : Lts) (m p i : Nat) : (loose L m p i).n = L.n := by
  unfold loose Lts.n
  split <;> simp
theorem man_set (L : Lts) (w : Int) {m : Nat} (hm : m < L.n) (x : Man) (k : Nat) : man ⟨L.men.set m x, w⟩ k = if k = m then x else man L k := by
  have hm' : m < L.men.length := hm
  unfold man
  simp only [List.getD, List.getElem?_set]
  by_cases e : m = k
  · subst e; simp [hm']
  · have e' : ¬ k = m := fun h => e h.symm
    simp [e, e']
theorem noBit_bit : ∀ w : Nat, w < 256 → ∀ p : Nat, p < 8 → ∀ i : Nat, i < 8 → (noBit w p).testBit i = (w.testBit i && i != p) := by
  have h : ((List.range 256).all fun (w : Nat) => (List.range 8).all fun (p : Nat) => (List.range 8).all fun (i : Nat) => (noBit w p).testBit i == (w.testBit i && i != p)) = true := by decide +kernel
  intro w hw p hp i hi
  have h1 := List.all_eq_true.1 h w (by simpa using hw)
  have h2 := List.all_eq_true.1 h1 p (by simpa using hp)
  have h3 := List.all_eq_true.1 h2 i (by simpa using hi)
  simpa using h3
theorem noBit_le (w p : Nat) : noBit w p ≤ w := Nat.and_le_left
theorem b2n_le {a b : Bool} (h : a = true → b = true) : b2n a ≤ b2n b := by
  unfold b2n
  cases a <;> cases b <;> simp_all
theorem loose_ok {L : Lts} (hv : valid L = true) {m p : Nat} (hm : m < L.n) (hp : p < L.n) (i : Nat) : Looser L (loose L m p i) := by
  refine ⟨loose_n L m p i, fun q k b hk hb => ?_⟩
  have v := vd_iff.1 hv
  have hn8 := v.hi
  have hw8 := v.w8
  have hw0 := v.w0
  have hkey : (r1 (loose L m p i) k b = true → r1 L k b = true) ∧ (r2 (loose L m p i) q k = true → r2 L q k = true) ∧ (r3 (loose L m p i) q k = true → r3 L q k = true) := by
    have hnn := loose_n L m p i
    unfold r1 r2 r3 bad
    rw [hnn]
    match i with
    | 0 =>
      simp only [loose, man_set L _ hm]
      refine ⟨?_, ?_, ?_⟩
      · by_cases e : k = m
        · subst e; simp
        · rw [if_neg e]
          by_cases e2 : b = m
          · subst e2
            rw [if_pos rfl]
            intro h
            simp only [Bool.and_eq_true, decide_eq_true_eq] at h
            exact absurd h.2 h.1.2
          · rw [if_neg e2]; exact id
      · by_cases e : k = m
        · subst e; rw [if_pos rfl]; exact id
        · rw [if_neg e]; exact id
      · by_cases e : k = m
        · subst e; rw [if_pos rfl]; exact id
        · rw [if_neg e]; exact id
    | 1 =>
      simp only [loose, man_set L _ hm]
      refine ⟨?_, ?_, ?_⟩
      · have e1 : (if k = m then { man L m with left := false } else man L k).club = (man L k).club := by split <;> simp_all
        have e2 : (if b = m then { man L m with left := false } else man L b).club = (man L b).club := by split <;> simp_all
        rw [e1, e2]; exact id
      · by_cases e : k = m
        · subst e; rw [if_pos rfl]; simp
        · rw [if_neg e]; exact id
      · by_cases e : k = m
        · subst e; rw [if_pos rfl]; exact id
        · rw [if_neg e]; exact id
    | 2 =>
      simp only [loose, man_set L _ hm]
      refine ⟨?_, ?_, ?_⟩
      · have e1 : (if k = m then { man L m with nov := false } else man L k).club = (man L k).club := by split <;> simp_all
        have e2 : (if b = m then { man L m with nov := false } else man L b).club = (man L b).club := by split <;> simp_all
        rw [e1, e2]; exact id
      · by_cases e : k = m
        · subst e; rw [if_pos rfl]; exact id
        · rw [if_neg e]; exact id
      · by_cases e : k = m
        · subst e; rw [if_pos rfl]; simp
        · rw [if_neg e]; exact id
    | j + 3 =>
      refine ⟨id, id, ?_⟩
      intro h
      simp only [loose, Bool.and_eq_true, Int.toNat_natCast] at h ⊢
      refine ⟨h.1, ?_⟩
      by_cases hq : q < 8
      · have := noBit_bit L.worst.toNat (by omega) p (by omega) q hq
        rw [h.2] at this
        simp at this
        exact this.1
      · have h2 := h.2
        have hlt : noBit L.worst.toNat p < 2 ^ q := Nat.lt_of_le_of_lt (noBit_le _ _) (Nat.lt_of_lt_of_le (show L.worst.toNat < 2 ^ 8 by omega) (Nat.pow_le_pow_right (by omega) (by omega)))
        rw [Nat.testBit_lt_two_pow hlt] at h2
        cases h2
  unfold brk
  have h1 := b2n_le hkey.1
  have h2 := b2n_le hkey.2.1
  have h3 := b2n_le hkey.2.2
  omega
theorem loose_valid {L : Lts} (hv : valid L = true) {m p : Nat} (hm : m < L.n) (i : Nat) : valid (loose L m p i) = true := by
  have v := vd_iff.1 hv
  have hmm : man L m ∈ L.men := by rw [man_get' L (m := m) hm]; exact List.getElem_mem _
  have hset : ∀ x : Man, (0 ≤ x.club ∧ x.club ≤ 9) → ∀ y ∈ L.men.set m x, 0 ≤ y.club ∧ y.club ≤ 9 := by
    intro x hx y hy
    rcases List.mem_or_eq_of_mem_set hy with h | rfl
    · exact v.club y h
    · exact hx
  refine vd_iff.2 ⟨by rw [loose_n]; exact v.lo, by rw [loose_n]; exact v.hi, ?_, ?_, ?_⟩
  · match i with
    | 0 => exact v.w0
    | 1 => exact v.w0
    | 2 => exact v.w0
    | j + 3 => show (0 : Int) ≤ ((noBit L.worst.toNat p : Nat) : Int); omega
  · rw [loose_n]
    match i with
    | 0 => exact v.w1
    | 1 => exact v.w1
    | 2 => exact v.w1
    | j + 3 =>
      have h1 := noBit_le L.worst.toNat p
      have h2 := v.w0
      have h3 := v.w1
      show ((noBit L.worst.toNat p : Nat) : Int) ≤ _
      omega
  · match i with
    | 0 => exact hset _ (show (0 : Int) ≤ 0 ∧ (0 : Int) ≤ 9 from ⟨by decide, by decide⟩)
    | 1 => exact hset _ (show 0 ≤ (man L m).club ∧ (man L m).club ≤ 9 from v.club _ hmm)
    | 2 => exact hset _ (show 0 ≤ (man L m).club ∧ (man L m).club ≤ 9 from v.club _ hmm)
    | j + 3 => exact v.club

/-- Counted from the other end. -/
def revW (n w : Nat) : Nat → Nat
  | 0 => 0
  | k + 1 => revW n w k ||| ((w >>> k &&& 1) <<< (n - 1 - k))
theorem one_bit (j : Nat) : Nat.testBit 1 j = decide (j = 0) := by
  cases j with
  | zero => rfl
  | succ j => simp [Nat.testBit_succ]
theorem revW_bit (n w : Nat) : ∀ (k i : Nat), k ≤ n → (revW n w k).testBit i = (decide (i < n) && decide (n - 1 - i < k) && w.testBit (n - 1 - i))
  | 0, i, _ => by simp [revW]
  | k + 1, i, hk => by
    have ih := revW_bit n w k i (by omega)
    show (revW n w k ||| ((w >>> k &&& 1) <<< (n - 1 - k))).testBit i = _
    rw [Nat.testBit_or, ih, Nat.testBit_shiftLeft, Nat.testBit_and, Nat.testBit_shiftRight, one_bit]
    by_cases h1 : i = n - 1 - k
    · have h2 : i < n := by omega
      have h3 : n - 1 - i = k := by omega
      rw [h3, ← h1]
      simp [h2]
    · have h5 : (decide (i ≥ n - 1 - k) && (w.testBit (k + (i - (n - 1 - k))) && decide (i - (n - 1 - k) = 0))) = false := by
        by_cases g1 : i ≥ n - 1 - k
        · rw [decide_eq_false (show ¬ i - (n - 1 - k) = 0 by omega)]; simp
        · rw [decide_eq_false g1]; rfl
      rw [h5, Bool.or_false]
      by_cases h2 : i < n
      · have h4 : decide (n - 1 - i < k + 1) = decide (n - 1 - i < k) := by congr 1; exact propext (by omega)
        rw [h4]
      · rw [decide_eq_false h2]; rfl
def revL (L : Lts) : Lts := ⟨L.men, (revW L.n L.worst.toNat L.n : Nat)⟩
end Go.Proofs.Ytocnkdkgajdejaa.G

/- Draws of plots, in plain Lean: counted from the other end. -/
set_option linter.unusedSimpArgs false
set_option linter.unusedVariables false
namespace Go.Proofs.Ytocnkdkgajdejaa.G
open Go.V Go.Lot
theorem revW_lt (n w : Nat) : revW n w n < 2 ^ n := by
  refine Nat.lt_pow_two_of_testBit _ fun i hi => ?_
  rw [revW_bit n w n i (Nat.le_refl _)]
  rw [decide_eq_false (show ¬ i < n by omega)]; rfl
theorem rev_n (L : Lts) : (revL L).n = L.n := rfl
theorem rev_man (L : Lts) (k : Nat) : man (revL L) k = man L k := rfl
theorem rev_valid {L : Lts} (hv : valid L = true) : valid (revL L) = true := by
  have v := vd_iff.1 hv
  have h1 := revW_lt L.n L.worst.toNat
  refine vd_iff.2 ⟨v.lo, v.hi, ?_, ?_, v.club⟩
  · show (0 : Int) ≤ ((revW L.n L.worst.toNat L.n : Nat) : Int); omega
  · show ((revW L.n L.worst.toNat L.n : Nat) : Int) ≤ 2 ^ (revL L).n - 1
    rw [rev_n]
    have e : ((2 : Int) ^ L.n) = ((2 ^ L.n : Nat) : Int) := by simp
    rw [e]; omega
theorem sum_flip (f : Nat → Nat) : ∀ n : Nat, ((List.range n).map fun j => f (n - 1 - j)).sum = ((List.range n).map f).sum
  | 0 => rfl
  | n + 1 => by
    have h1 : ((List.range (n + 1)).map fun j => f (n + 1 - 1 - j)).sum = f n + ((List.range n).map fun j => f (n - 1 - j)).sum := by
      rw [List.range_succ_eq_map, List.map_cons, List.sum_cons, List.map_map]
      congr 1
      congr 1
      apply List.map_congr_left
      intro j _
      show f (n + 1 - 1 - (j + 1)) = f (n - 1 - j)
      congr 1; omega
    rw [h1, sum_flip f n, List.range_succ, List.map_append, List.sum_append]
    simp; omega
theorem sum_front (g : Nat → Nat) (n : Nat) : ((List.range (n + 1)).map g).sum = g 0 + ((List.range n).map fun j => g (j + 1)).sum := by
  rw [List.range_succ_eq_map, List.map_cons, List.sum_cons, List.map_map]; rfl
theorem sum_eq {f g : Nat → Nat} {n : Nat} (h : ∀ j, j < n → f j = g j) : ((List.range n).map f).sum = ((List.range n).map g).sum := by
  congr 1
  exact List.map_congr_left fun j hj => h j (List.mem_range.1 hj)
theorem rev_perm {n : Nat} {d : List Nat} (h : Perm0 n d) : Perm0 n d.reverse := ⟨by rw [List.length_reverse, h.len], (List.reverse_perm d).nodup_iff.2 h.nd, fun m hm => h.lt m (List.mem_reverse.1 hm)⟩
theorem rev_get {d : List Nat} {j : Nat} (hj : j < d.length) : d.reverse.getD j 0 = d.getD (d.length - 1 - j) 0 := by
  have h2 : d.length - 1 - j < d.length := by omega
  simp [List.getD, hj, h2]
theorem r1_comm {L : Lts} {a b : Nat} (ha : a ≠ 8) (hb : b ≠ 8) : r1 L a b = r1 L b a := by
  unfold r1
  rw [decide_eq_true ha, decide_eq_true hb, Bool.eq_iff_iff]
  simp only [Bool.true_and, Bool.and_eq_true, decide_eq_true_eq]
  constructor
  · rintro ⟨h1, h2⟩; exact ⟨by rw [← h2]; exact h1, h2.symm⟩
  · rintro ⟨h1, h2⟩; exact ⟨by rw [← h2]; exact h1, h2.symm⟩
theorem r1_nobody (L : Lts) (m : Nat) : r1 L m 8 = false := by unfold r1; simp
/-- As many rules are broken. -/
theorem rev_cost {L : Lts} (hn : L.n ≤ 8) {d : List Nat} (pd : Perm0 L.n d) : brokenK (revL L) d.reverse d.reverse.length = brokenK L d d.length := by
  have pr := rev_perm pd
  rw [brokenK_sum, brokenK_sum, pd.len, pr.len]
  have split : ∀ (M : Lts) (e : List Nat), ((List.range L.n).map fun j => brk M j (e.getD j 0) (prev e j)).sum =
      ((List.range L.n).map fun j => b2n (r1 M (e.getD j 0) (prev e j))).sum + (((List.range L.n).map fun j => b2n (r2 M j (e.getD j 0))).sum + ((List.range L.n).map fun j => b2n (r3 M j (e.getD j 0))).sum) := by
    intro M e
    rw [← sum_map_add, ← sum_map_add]
    refine sum_eq fun j _ => ?_
    unfold brk; omega
  rw [split, split]
  have hget : ∀ j, j < L.n → d.reverse.getD j 0 = d.getD (L.n - 1 - j) 0 := fun j hj => by
    have := rev_get (d := d) (j := j) (by rw [pd.len]; exact hj)
    rw [pd.len] at this; exact this
  have s2 : ((List.range L.n).map fun j => b2n (r2 (revL L) j (d.reverse.getD j 0))).sum = ((List.range L.n).map fun j => b2n (r2 L j (d.getD j 0))).sum := by
    rw [← sum_flip (fun j => b2n (r2 L j (d.getD j 0))) L.n]
    refine sum_eq fun j hj => ?_
    rw [hget j hj]
    congr 1
    unfold r2
    rw [rev_n, rev_man]
    have : (decide (j > 0) && decide (j < L.n - 1)) = (decide (L.n - 1 - j > 0) && decide (L.n - 1 - j < L.n - 1)) := by
      rw [Bool.eq_iff_iff]; simp; omega
    rw [Bool.and_assoc, this, ← Bool.and_assoc]
  have s3 : ((List.range L.n).map fun j => b2n (r3 (revL L) j (d.reverse.getD j 0))).sum = ((List.range L.n).map fun j => b2n (r3 L j (d.getD j 0))).sum := by
    rw [← sum_flip (fun j => b2n (r3 L j (d.getD j 0))) L.n]
    refine sum_eq fun j hj => ?_
    rw [hget j hj]
    congr 1
    unfold r3 bad
    rw [rev_man]
    congr 1
    show (((revW L.n L.worst.toNat L.n : Nat) : Int).toNat).testBit j = _
    rw [Int.toNat_natCast, revW_bit L.n _ L.n j (Nat.le_refl _)]
    rw [decide_eq_true hj, decide_eq_true (show L.n - 1 - j < L.n by omega)]
    simp
  have s1 : ((List.range L.n).map fun j => b2n (r1 (revL L) (d.reverse.getD j 0) (prev d.reverse j))).sum = ((List.range L.n).map fun j => b2n (r1 L (d.getD j 0) (prev d j))).sum := by
    cases hN : L.n with
    | zero => rfl
    | succ N =>
      rw [sum_front, sum_front]
      have z1 : prev d.reverse 0 = 8 := rfl
      have z2 : prev d 0 = 8 := rfl
      rw [z1, z2, r1_nobody, r1_nobody]
      congr 1
      rw [← sum_flip (fun j => b2n (r1 L (d.getD (j + 1) 0) (prev d (j + 1)))) N]
      refine sum_eq fun j hj => ?_
      have p1 : prev d.reverse (j + 1) = d.reverse.getD j 0 := by unfold prev; rw [if_neg (by omega)]; rfl
      have p2 : prev d (N - 1 - j + 1) = d.getD (N - 1 - j) 0 := by unfold prev; rw [if_neg (by omega)]; rfl
      rw [p1, p2, hget (j + 1) (by omega), hget j (by omega)]
      have q1 : L.n - 1 - (j + 1) = N - 1 - j := by omega
      have q2 : L.n - 1 - j = N - 1 - j + 1 := by omega
      rw [q1, q2]
      congr 1
      have h1 := perm_get pd (show N - 1 - j < L.n by omega)
      have h2 := perm_get pd (show N - 1 - j + 1 < L.n by omega)
      have e : r1 (revL L) (d.getD (N - 1 - j) 0) (d.getD (N - 1 - j + 1) 0) = r1 L (d.getD (N - 1 - j) 0) (d.getD (N - 1 - j + 1) 0) := rfl
      rw [e]
      exact r1_comm (by omega) (by omega)
  rw [s1, s2, s3]
theorem rev_mem {L : Lts} (hn : L.n ≤ 8) {d : List Nat} (hd : d ∈ allD L) : d.reverse ∈ allD (revL L) := by
  obtain ⟨h1, h2⟩ := (mem_allD hn).1 hd
  refine (mem_allD (L := revL L) hn).2 ⟨rev_perm h1, cost_zero.1 ?_⟩
  rw [rev_cost hn h1]
  exact cost_zero.2 h2
theorem rev_mem' {L : Lts} (hn : L.n ≤ 8) {d : List Nat} (hd : d ∈ allD (revL L)) : d.reverse ∈ allD L := by
  obtain ⟨h1, h2⟩ := (mem_allD (L := revL L) hn).1 hd
  have h1' : Perm0 L.n d := h1
  refine (mem_allD hn).2 ⟨rev_perm h1', cost_zero.1 ?_⟩
  have h3 := rev_cost hn (rev_perm h1')
  rw [List.reverse_reverse] at h3
  rw [← h3]
  exact cost_zero.2 h2
theorem rev_map_nodup {l : List (List Nat)} (h : l.Nodup) : (l.map List.reverse).Nodup :=
  List.pairwise_map.2 (List.Pairwise.imp (fun hne e => hne (by have := congrArg List.reverse e; rwa [List.reverse_reverse, List.reverse_reverse] at this)) h)
theorem rev_cnt {L : Lts} (hn : L.n ≤ 8) : cntAll (revL L) anyC = cntAll L anyC := by
  rw [cntAny_len hn, cntAny_len (L := revL L) hn]
  have h1 := (rev_map_nodup (allD_nodup (L := L) hn)).length_le_of_subset (l₂ := allD (revL L)) (fun x hx => by
    obtain ⟨d, hd, rfl⟩ := List.mem_map.1 hx
    exact rev_mem hn hd)
  have h2 := (rev_map_nodup (allD_nodup (L := revL L) hn)).length_le_of_subset (l₂ := allD L) (fun x hx => by
    obtain ⟨d, hd, rfl⟩ := List.mem_map.1 hx
    exact rev_mem' hn hd)
  rw [List.length_map] at h1 h2
  omega
theorem rev_few {L : Lts} (hn : L.n ≤ 8) : fewA (revL L) = fewA L := by
  have p1 := least_perm (L := L) hn
  have p2 : Perm0 L.n (leastA (revL L)) := least_perm (L := revL L) hn
  have c1 := least_cost (L := L) hn
  have c2 := least_cost (L := revL L) hn
  have h1 := (least_min (L := revL L) hn (d := (leastA L).reverse) (rev_perm p1)).1
  have h2 := (least_min (L := L) hn (d := (leastA (revL L)).reverse) (rev_perm p2)).1
  rw [rev_cost hn p1] at h1
  have h3 := rev_cost hn (rev_perm p2)
  rw [List.reverse_reverse] at h3
  omega
theorem rev_of {L : Lts} (hn : L.n ≤ 8) {m p : Nat} (hp : p < L.n) : ofN (revL L) m (L.n - 1 - p) = ofN L m p := by
  rw [ofN_eq hn hp, ofN_eq (L := revL L) hn (show L.n - 1 - p < (revL L).n by rw [rev_n]; omega)]
  have nd1 : ((allD L).filter fun d => d.getD p 0 == m).Nodup := List.Nodup.sublist List.filter_sublist (allD_nodup hn)
  have nd2 : ((allD (revL L)).filter fun d => d.getD (L.n - 1 - p) 0 == m).Nodup := List.Nodup.sublist List.filter_sublist (allD_nodup (L := revL L) hn)
  have h1 := (rev_map_nodup nd1).length_le_of_subset (l₂ := (allD (revL L)).filter fun d => d.getD (L.n - 1 - p) 0 == m) (fun x hx => by
    obtain ⟨d, hd, rfl⟩ := List.mem_map.1 hx
    obtain ⟨hd1, hd2⟩ := List.mem_filter.1 hd
    have hl := ((mem_allD hn).1 hd1).1.len
    refine List.mem_filter.2 ⟨rev_mem hn hd1, ?_⟩
    rw [rev_get (by rw [hl]; omega), hl, show L.n - 1 - (L.n - 1 - p) = p by omega]
    exact hd2)
  have h2 := (rev_map_nodup nd2).length_le_of_subset (l₂ := (allD L).filter fun d => d.getD p 0 == m) (fun x hx => by
    obtain ⟨d, hd, rfl⟩ := List.mem_map.1 hx
    obtain ⟨hd1, hd2⟩ := List.mem_filter.1 hd
    have hl : d.length = L.n := ((mem_allD (L := revL L) hn).1 hd1).1.len
    refine List.mem_filter.2 ⟨rev_mem' hn hd1, ?_⟩
    rw [rev_get (by rw [hl]; omega), hl]
    exact hd2)
  rw [List.length_map] at h1 h2
  omega
end Go.Proofs.Ytocnkdkgajdejaa.G

/- More of the functions' shallow texts, by gen.py. -/
set_option linter.unusedVariables false
set_option maxRecDepth 100000
namespace Go.Proofs.Ytocnkdkgajdejaa.G
open Go.V
def an_11 : Nat → Ann := fun b => match b with
  | 0 => { ms := [11, 65], ks := [.l, .i .i64], us := [3, 6, 7, 8, 9, 10, 281], rt := false, ex := [] }
  | 3 => { ms := [6, 136], ks := [.b, .i .i64], us := [3, 7, 8, 9, 10, 14, 16, 19, 134, 135, 281], rt := false, ex := [] }
  | 5 => { ms := [187], ks := [.i .i64], us := [3, 6, 7, 8, 9, 10, 14, 16, 30, 186, 281], rt := false, ex := [] }
  | 7 => { ms := [6, 235], ks := [.b, .i .i64], us := [3, 10, 14, 16, 32, 33, 34, 36, 37, 38, 39, 40, 234, 281], rt := false, ex := [] }
  | _ => {}
abbrev rv_11 : List ResultVar := [.tmp 6]
abbrev rs_11 : List Nat := [281, 6]
def L_law03_LotMore_0 (W : World) (R : Ending → Hp → Prop) (za0 : Addr) (zn1 : Int) (zn2 : Int) (zn3 : Int) (zp4 : Option Addr) (zl5 : Nat) (zl6 : Nat) (x36 : Option Addr) (l37 : Nat) (c38 : Nat) (n39 : Int) : Hp → Prop :=
  LOOPN [.l, .i .i64] (fun ys next s => ∀ j : Tm, vc Pg W 281 rs_11 an_11 false (sub (bodyOf Try.f11) [1, 1, 1, 1, 1, 1, 0, 1, 0, 0]) 0 (KLoop [11, 65] [3, 6, 7, 8, 9, 10, 281] [(.pointer (some za0)), (.bool false), (.int .i64 zn1), (.int .i64 zn2), (.int .i64 zn3), (.slice zp4 zl5 zl6), (.tuple #[])] next (KBlk 0 (KS Pg W 281 rs_11 an_11 false (sub (bodyOf Try.f11) [1, 1, 1, 1, 1, 1, 1]) 0 (fin Pg W 281 rv_11 R)))) (known [11, 65] ys (known [3, 6, 7, 8, 9, 10, 281] [(.pointer (some za0)), (.bool false), (.int .i64 zn1), (.int .i64 zn2), (.int .i64 zn3), (.slice zp4 zl5 zl6), (.tuple #[])] j)) s) [(.slice x36 l37 c38), (.int .i64 n39)]
def L_law03_LotMore_1 (W : World) (R : Ending → Hp → Prop) (za0 : Addr) (zn1 : Int) (zn2 : Int) (zn3 : Int) (zp4 : Option Addr) (zl5 : Nat) (zl6 : Nat) (zn7 : Int) (zn8 : Int) (zn9 : Int) (zp10 : Option Addr) (zl11 : Nat) (zl12 : Nat) (zn13 : Int) (b119 : Bool) (n120 : Int) : Hp → Prop :=
  LOOPN [.b, .i .i64] (fun ys next s => ∀ j : Tm, vc Pg W 281 rs_11 an_11 false (sub (bodyOf Try.f11) [1, 1, 1, 1, 1, 1, 1, 1, 1, 1, 1, 0, 1, 0, 0]) 3 (KLoop [6, 136] [3, 7, 8, 9, 10, 14, 16, 19, 134, 135, 281] [(.pointer (some za0)), (.int .i64 zn1), (.int .i64 zn2), (.int .i64 zn3), (.slice zp4 zl5 zl6), (.int .i64 zn7), (.int .i64 zn8), (.int .i64 zn9), (.slice zp10 zl11 zl12), (.int .i64 zn13), (.tuple #[])] next (KBlk 3 (KS Pg W 281 rs_11 an_11 false (sub (bodyOf Try.f11) [1, 1, 1, 1, 1, 1, 1, 1, 1, 1, 1, 1]) 0 (fin Pg W 281 rv_11 R)))) (known [6, 136] ys (known [3, 7, 8, 9, 10, 14, 16, 19, 134, 135, 281] [(.pointer (some za0)), (.int .i64 zn1), (.int .i64 zn2), (.int .i64 zn3), (.slice zp4 zl5 zl6), (.int .i64 zn7), (.int .i64 zn8), (.int .i64 zn9), (.slice zp10 zl11 zl12), (.int .i64 zn13), (.tuple #[])] j)) s) [(.bool b119), (.int .i64 n120)]
def L_law03_LotMore_2 (W : World) (R : Ending → Hp → Prop) (za0 : Addr) (zb1 : Bool) (zn2 : Int) (zn3 : Int) (zn4 : Int) (zp5 : Option Addr) (zl6 : Nat) (zl7 : Nat) (zn8 : Int) (zn9 : Int) (za10 : Addr) (n181 : Int) : Hp → Prop :=
  LOOPN [.i .i64] (fun ys next s => ∀ j : Tm, vc Pg W 281 rs_11 an_11 false (sub (bodyOf Try.f11) [1, 1, 1, 1, 1, 1, 1, 1, 1, 1, 1, 1, 1, 1, 0, 1, 0, 0]) 5 (KLoop [187] [3, 6, 7, 8, 9, 10, 14, 16, 30, 186, 281] [(.pointer (some za0)), (.bool zb1), (.int .i64 zn2), (.int .i64 zn3), (.int .i64 zn4), (.slice zp5 zl6 zl7), (.int .i64 zn8), (.int .i64 zn9), (.pointer (some za10)), (.int .i64 zn2), (.tuple #[])] next (KBlk 5 (KS Pg W 281 rs_11 an_11 false (sub (bodyOf Try.f11) [1, 1, 1, 1, 1, 1, 1, 1, 1, 1, 1, 1, 1, 1, 1]) 0 (fin Pg W 281 rv_11 R)))) (known [187] ys (known [3, 6, 7, 8, 9, 10, 14, 16, 30, 186, 281] [(.pointer (some za0)), (.bool zb1), (.int .i64 zn2), (.int .i64 zn3), (.int .i64 zn4), (.slice zp5 zl6 zl7), (.int .i64 zn8), (.int .i64 zn9), (.pointer (some za10)), (.int .i64 zn2), (.tuple #[])] j)) s) [(.int .i64 n181)]
def L_law03_LotMore_3 (W : World) (R : Ending → Hp → Prop) (za0 : Addr) (zp1 : Option Addr) (zl2 : Nat) (zl3 : Nat) (zn4 : Int) (zn5 : Int) (zn6 : Int) (zn7 : Int) (zn8 : Int) (zn9 : Int) (zn10 : Int) (zn11 : Int) (zn12 : Int) (zn13 : Int) (zn14 : Int) (b241 : Bool) (n242 : Int) : Hp → Prop :=
  LOOPN [.b, .i .i64] (fun ys next s => ∀ j : Tm, vc Pg W 281 rs_11 an_11 false (sub (bodyOf Try.f11) [1, 1, 1, 1, 1, 1, 1, 1, 1, 1, 1, 1, 1, 1, 1, 1, 1, 1, 1, 0, 1, 0, 0]) 7 (KLoop [6, 235] [3, 10, 14, 16, 32, 33, 34, 36, 37, 38, 39, 40, 234, 281] [(.pointer (some za0)), (.slice zp1 zl2 zl3), (.int .i64 zn4), (.int .i64 zn5), (.int .i64 zn6), (.int .i64 zn7), (.int .i64 zn8), (.int .i64 zn9), (.int .i64 zn10), (.int .i64 zn11), (.int .i64 zn12), (.int .i64 zn13), (.int .i64 zn14), (.tuple #[])] next (KBlk 7 (KS Pg W 281 rs_11 an_11 false (sub (bodyOf Try.f11) [1, 1, 1, 1, 1, 1, 1, 1, 1, 1, 1, 1, 1, 1, 1, 1, 1, 1, 1, 1]) 0 (fin Pg W 281 rv_11 R)))) (known [6, 235] ys (known [3, 10, 14, 16, 32, 33, 34, 36, 37, 38, 39, 40, 234, 281] [(.pointer (some za0)), (.slice zp1 zl2 zl3), (.int .i64 zn4), (.int .i64 zn5), (.int .i64 zn6), (.int .i64 zn7), (.int .i64 zn8), (.int .i64 zn9), (.int .i64 zn10), (.int .i64 zn11), (.int .i64 zn12), (.int .i64 zn13), (.int .i64 zn14), (.tuple #[])] j)) s) [(.bool b241), (.int .i64 n242)]
def J_law03_LotMore_0 (W : World) (R : Ending → Hp → Prop) (b15 : Bool) (B7 : Nat) (n5 : Int) (n6 : Int) : Hp → Prop :=
  BR b15
    (CALL Pg W F_law03_awake []
      (fun v16 => TYB v16 fun b18 =>
        R (.returned (.bool b18)))
        (fun e17 => R (.panicked e17)))
    (RDL (Addr.add ⟨B7, 0, none⟩ 0) fun x19 l20 c21 =>
      NZI (↑l20 : Int) <|
        NZI (↑l20 : Int) <|
          NEW 51 [] fun B22 =>
            RDL (Addr.add ⟨B7, 0, none⟩ 0) fun x23 l24 c25 =>
              APP Pg 51 3 (some ⟨B22, 0, none⟩) 0 0 x23 l24 fun x26 l27 c28 =>
                L_law03_LotMore_0 W R ⟨B7, 0, none⟩ (↑l20 : Int) (Int.tmod (IntKind.wrap .i64 n5) (↑l20 : Int)) (Int.tmod (IntKind.wrap .i64 n6) (↑l20 : Int)) x26 l27 c28 none 0 0 0)
def J_law03_LotMore_1 (W : World) (R : Ending → Hp → Prop) (B44 : Nat) (x36 : Option Addr) (l37 : Nat) (c38 : Nat) (za0 : Addr) (zn1 : Int) (zn2 : Int) (zn3 : Int) (zp4 : Option Addr) (zl5 : Nat) (zl6 : Nat) (nx0 : List Value → Hp → Prop) (n39 : Int) : Hp → Prop :=
  RDL (Addr.add ⟨B44, 0, none⟩ 0) fun x56 l57 c58 =>
    RDI .i64 (Addr.add ⟨B44, 0, none⟩ 1) fun n59 =>
      NEW 24 [(.slice x56 l57 c58), (.int .i64 n59)] fun B60 =>
        APP Pg 24 2 x36 l37 c38 (some ⟨B60, 0, none⟩) 1 fun x61 l62 c63 =>
          NX [(.pointer (some za0)), (.bool false), (.int .i64 zn1), (.int .i64 zn2), (.int .i64 zn3), (.slice zp4 zl5 zl6), (.tuple #[])] [(.pointer (some za0)), (.bool false), (.int .i64 zn1), (.int .i64 zn2), (.int .i64 zn3), (.slice zp4 zl5 zl6), (.tuple #[])] (nx0 [(.slice x61 l62 c63), (.int .i64 (IntKind.wrap .i64 (n39 + 1)))])
def J_law03_LotMore_2 (W : World) (R : Ending → Hp → Prop) (b118 : Bool) (za0 : Addr) (zn1 : Int) (zn2 : Int) (zn3 : Int) (zp4 : Option Addr) (zl5 : Nat) (zl6 : Nat) (n82 : Int) (n95 : Int) (n113 : Int) (x36 : Option Addr) (l37 : Nat) (c38 : Nat) : Hp → Prop :=
  BR b118
    (R (.returned (.bool false)))
    (L_law03_LotMore_1 W R za0 zn1 zn2 zn3 zp4 zl5 zl6 n82 n95 n113 x36 l37 c38 (↑l37 : Int) false 0)
def J_law03_LotMore_3 (W : World) (R : Ending → Hp → Prop) (b117 : Bool) (za0 : Addr) (zn1 : Int) (zn2 : Int) (zn3 : Int) (zp4 : Option Addr) (zl5 : Nat) (zl6 : Nat) (n82 : Int) (n95 : Int) (n113 : Int) (x36 : Option Addr) (l37 : Nat) (c38 : Nat) (n116 : Int) : Hp → Prop :=
  BR b117
    (J_law03_LotMore_2 W R true za0 zn1 zn2 zn3 zp4 zl5 zl6 n82 n95 n113 x36 l37 c38)
    (J_law03_LotMore_2 W R (n116 != 0) za0 zn1 zn2 zn3 zp4 zl5 zl6 n82 n95 n113 x36 l37 c38)
def J_law03_LotMore_4 (W : World) (R : Ending → Hp → Prop) (b175 : Bool) (za0 : Addr) (zn1 : Int) (zn2 : Int) (zn3 : Int) (zp4 : Option Addr) (zl5 : Nat) (zl6 : Nat) (zn7 : Int) (zn8 : Int) (zn9 : Int) (zp10 : Option Addr) (zl11 : Nat) (zl12 : Nat) (zn13 : Int) (nx1 : List Value → Hp → Prop) (b119 : Bool) (n120 : Int) : Hp → Prop :=
  BR b175
    (R (.returned (.bool false)))
    (NX [(.pointer (some za0)), (.int .i64 zn1), (.int .i64 zn2), (.int .i64 zn3), (.slice zp4 zl5 zl6), (.int .i64 zn7), (.int .i64 zn8), (.int .i64 zn9), (.slice zp10 zl11 zl12), (.int .i64 zn13), (.tuple #[])] [(.pointer (some za0)), (.int .i64 zn1), (.int .i64 zn2), (.int .i64 zn3), (.slice zp4 zl5 zl6), (.int .i64 zn7), (.int .i64 zn8), (.int .i64 zn9), (.slice zp10 zl11 zl12), (.int .i64 zn13), (.tuple #[])] (nx1 [(.bool b119), (.int .i64 (IntKind.wrap .i64 (n120 + 1)))]))
def J_law03_LotMore_5 (W : World) (R : Ending → Hp → Prop) (b174 : Bool) (za0 : Addr) (zn1 : Int) (zn2 : Int) (zn3 : Int) (zp4 : Option Addr) (zl5 : Nat) (zl6 : Nat) (zn7 : Int) (zn8 : Int) (zn9 : Int) (zp10 : Option Addr) (zl11 : Nat) (zl12 : Nat) (zn13 : Int) (nx1 : List Value → Hp → Prop) (b119 : Bool) (n120 : Int) (n167 : Int) : Hp → Prop :=
  BR b174
    (J_law03_LotMore_4 W R true za0 zn1 zn2 zn3 zp4 zl5 zl6 zn7 zn8 zn9 zp10 zl11 zl12 zn13 nx1 b119 n120)
    (J_law03_LotMore_4 W R ((andnv .i64 zn9 n167) != 0) za0 zn1 zn2 zn3 zp4 zl5 zl6 zn7 zn8 zn9 zp10 zl11 zl12 zn13 nx1 b119 n120)
def J_law03_LotMore_6 (W : World) (R : Ending → Hp → Prop) (b173 : Bool) (za0 : Addr) (zn1 : Int) (zn2 : Int) (zn3 : Int) (zp4 : Option Addr) (zl5 : Nat) (zl6 : Nat) (zn7 : Int) (zn8 : Int) (zn9 : Int) (zp10 : Option Addr) (zl11 : Nat) (zl12 : Nat) (zn13 : Int) (nx1 : List Value → Hp → Prop) (b119 : Bool) (n120 : Int) (n167 : Int) (n149 : Int) : Hp → Prop :=
  BR b173
    (J_law03_LotMore_5 W R true za0 zn1 zn2 zn3 zp4 zl5 zl6 zn7 zn8 zn9 zp10 zl11 zl12 zn13 nx1 b119 n120 n167)
    (J_law03_LotMore_5 W R (decide (n149 > zn8)) za0 zn1 zn2 zn3 zp4 zl5 zl6 zn7 zn8 zn9 zp10 zl11 zl12 zn13 nx1 b119 n120 n167)
def J_law03_LotMore_7 (W : World) (R : Ending → Hp → Prop) (b172 : Bool) (za0 : Addr) (zn1 : Int) (zn2 : Int) (zn3 : Int) (zp4 : Option Addr) (zl5 : Nat) (zl6 : Nat) (zn7 : Int) (zn8 : Int) (zn9 : Int) (zp10 : Option Addr) (zl11 : Nat) (zl12 : Nat) (zn13 : Int) (nx1 : List Value → Hp → Prop) (b119 : Bool) (n120 : Int) (n167 : Int) (n149 : Int) (n136 : Int) : Hp → Prop :=
  BR b172
    (J_law03_LotMore_6 W R true za0 zn1 zn2 zn3 zp4 zl5 zl6 zn7 zn8 zn9 zp10 zl11 zl12 zn13 nx1 b119 n120 n167 n149)
    (J_law03_LotMore_6 W R (decide (n136 < zn7)) za0 zn1 zn2 zn3 zp4 zl5 zl6 zn7 zn8 zn9 zp10 zl11 zl12 zn13 nx1 b119 n120 n167 n149)
def J_law03_LotMore_8 (W : World) (R : Ending → Hp → Prop) (b171 : Bool) (za0 : Addr) (zn1 : Int) (zn2 : Int) (zn3 : Int) (zp4 : Option Addr) (zl5 : Nat) (zl6 : Nat) (zn7 : Int) (zn8 : Int) (zn9 : Int) (zp10 : Option Addr) (zl11 : Nat) (zl12 : Nat) (zn13 : Int) (nx1 : List Value → Hp → Prop) (b119 : Bool) (n120 : Int) (n167 : Int) (n149 : Int) (n136 : Int) (n170 : Int) : Hp → Prop :=
  BR b171
    (J_law03_LotMore_7 W R true za0 zn1 zn2 zn3 zp4 zl5 zl6 zn7 zn8 zn9 zp10 zl11 zl12 zn13 nx1 b119 n120 n167 n149 n136)
    (J_law03_LotMore_7 W R (n170 != 0) za0 zn1 zn2 zn3 zp4 zl5 zl6 zn7 zn8 zn9 zp10 zl11 zl12 zn13 nx1 b119 n120 n167 n149 n136)
def J_law03_LotMore_9 (W : World) (R : Ending → Hp → Prop) (b257 : Bool) (zn11 : Int) (zn13 : Int) : Hp → Prop :=
  BR b257
    (BR (zn11 == 0)
      (BR (zn13 == 0)
        (CALL Pg W F_law03_awake []
          (fun v258 => TYB v258 fun b260 =>
            R (.returned (.bool b260)))
            (fun e259 => R (.panicked e259)))
        (R (.returned (.bool false))))
      (R (.returned (.bool false))))
    (R (.returned (.bool false)))
def J_law03_LotMore_10 (W : World) (R : Ending → Hp → Prop) (b256 : Bool) (zn10 : Int) (zn12 : Int) (zn11 : Int) (zn13 : Int) : Hp → Prop :=
  BR b256
    (J_law03_LotMore_9 W R (zn10 == zn12) zn11 zn13)
    (J_law03_LotMore_9 W R false zn11 zn13)
def J_law03_LotMore_11 (W : World) (R : Ending → Hp → Prop) (b255 : Bool) (zn9 : Int) (zn10 : Int) (zn12 : Int) (zn11 : Int) (zn13 : Int) : Hp → Prop :=
  BR b255
    (J_law03_LotMore_10 W R (zn9 == 0) zn10 zn12 zn11 zn13)
    (J_law03_LotMore_10 W R false zn10 zn12 zn11 zn13)
def J_law03_LotMore_12 (W : World) (R : Ending → Hp → Prop) (b254 : Bool) (zn5 : Int) (zn8 : Int) (zn9 : Int) (zn10 : Int) (zn12 : Int) (zn11 : Int) (zn13 : Int) : Hp → Prop :=
  BR b254
    (J_law03_LotMore_11 W R (zn5 == zn8) zn9 zn10 zn12 zn11 zn13)
    (J_law03_LotMore_11 W R false zn9 zn10 zn12 zn11 zn13)
def B_law03_LotMore_0 (W : World) (R : Ending → Hp → Prop) (za0 : Addr) (zn1 : Int) (zn2 : Int) (zn3 : Int) (zp4 : Option Addr) (zl5 : Nat) (zl6 : Nat) (x36 : Option Addr) (l37 : Nat) (c38 : Nat) (n39 : Int) (nx0 : List Value → Hp → Prop) : Hp → Prop :=
  BR (decide (n39 < 4))
    (RDL (Addr.add za0 0) fun x40 l41 c42 =>
      RDI .i64 (Addr.add za0 1) fun n43 =>
        NEWZ Pg 24 fun B44 =>
          WR (Addr.add ⟨B44, 0, none⟩ 0) (.slice x40 l41 c42) <|
            WR (Addr.add ⟨B44, 0, none⟩ 1) (.int .i64 n43) <|
              NEW 51 [] fun B45 =>
                RDL (Addr.add za0 0) fun x46 l47 c48 =>
                  APP Pg 51 3 (some ⟨B45, 0, none⟩) 0 0 x46 l47 fun x49 l50 c51 =>
                    WR (Addr.add (Addr.add ⟨B44, 0, none⟩ 0) 0) (.slice x49 l50 c51) <|
                      BR (n39 == 0)
                        (RDL (Addr.add ⟨B44, 0, none⟩ 0) fun x52 l53 c54 =>
                          IXS x52 l53 zn2 3 fun a55 =>
                            WR (Addr.add (Addr.add a55 0) 0) (.int .i64 0) <|
                              J_law03_LotMore_1 W R B44 x36 l37 c38 za0 zn1 zn2 zn3 zp4 zl5 zl6 nx0 n39)
                        (BR (n39 == 1)
                          (RDL (Addr.add ⟨B44, 0, none⟩ 0) fun x64 l65 c66 =>
                            IXS x64 l65 zn2 3 fun a67 =>
                              WR (Addr.add (Addr.add a67 1) 0) (.bool false) <|
                                J_law03_LotMore_1 W R B44 x36 l37 c38 za0 zn1 zn2 zn3 zp4 zl5 zl6 nx0 n39)
                          (BR (n39 == 2)
                            (RDL (Addr.add ⟨B44, 0, none⟩ 0) fun x68 l69 c70 =>
                              IXS x68 l69 zn2 3 fun a71 =>
                                WR (Addr.add (Addr.add a71 2) 0) (.bool false) <|
                                  J_law03_LotMore_1 W R B44 x36 l37 c38 za0 zn1 zn2 zn3 zp4 zl5 zl6 nx0 n39)
                            (RDI .i64 (Addr.add ⟨B44, 0, none⟩ 1) fun n72 =>
                              NNI zn3 <|
                                WR (Addr.add (Addr.add ⟨B44, 0, none⟩ 1) 0) (.int .i64 (andnv .i64 n72 (shlv .i64 1 zn3))) <|
                                  J_law03_LotMore_1 W R B44 x36 l37 c38 za0 zn1 zn2 zn3 zp4 zl5 zl6 nx0 n39))))
    (RDL (Addr.add za0 0) fun x73 l74 c75 =>
      RDI .i64 (Addr.add za0 1) fun n76 =>
        CALL Pg W F_lot_Count [(.agg #[(.slice x73 l74 c75), (.int .i64 n76)])]
          (fun v77 => TUP v77 fun q79 => HD q79 fun v80 r81 => TYI .i64 v80 fun n82 =>
            HD r81 fun v83 r84 => TYI .i64 v83 fun n85 =>
              NL r84 <|
                RDL (Addr.add za0 0) fun x86 l87 c88 =>
                  RDI .i64 (Addr.add za0 1) fun n89 =>
                    CALL Pg W F_lot_Least [(.agg #[(.slice x86 l87 c88), (.int .i64 n89)])]
                      (fun v90 => TUP v90 fun q92 => HD q92 fun v93 r94 => TYI .i64 v93 fun n95 =>
                        HD r94 fun v96 r97 => TYL v96 fun x98 l99 c100 =>
                          HD r97 fun v101 r102 => TYI .i64 v101 fun n103 =>
                            NL r102 <|
                              RDL (Addr.add za0 0) fun x104 l105 c106 =>
                                RDI .i64 (Addr.add za0 1) fun n107 =>
                                  CALL Pg W F_lot_Can [(.agg #[(.slice x104 l105 c106), (.int .i64 n107)]), (.int .i64 zn2)]
                                    (fun v108 => TUP v108 fun q110 => HD q110 fun v111 r112 => TYI .i64 v111 fun n113 =>
                                      HD r112 fun v114 r115 => TYI .i64 v114 fun n116 =>
                                        NL r115 <|
                                          BR (n85 != 0)
                                            (J_law03_LotMore_3 W R true za0 zn1 zn2 zn3 zp4 zl5 zl6 n82 n95 n113 x36 l37 c38 n116)
                                            (J_law03_LotMore_3 W R (n103 != 0) za0 zn1 zn2 zn3 zp4 zl5 zl6 n82 n95 n113 x36 l37 c38 n116))
                                      (fun e109 => R (.panicked e109)))
                        (fun e91 => R (.panicked e91)))
            (fun e78 => R (.panicked e78)))
theorem B_law03_LotMore_0_eq (W : World) (R : Ending → Hp → Prop) (za0 : Addr) (zn1 : Int) (zn2 : Int) (zn3 : Int) (zp4 : Option Addr) (zl5 : Nat) (zl6 : Nat) (x36 : Option Addr) (l37 : Nat) (c38 : Nat) (n39 : Int) (nx0 : List Value → Hp → Prop) (j : Tm) : vc Pg W 281 rs_11 an_11 false (sub (bodyOf Try.f11) [1, 1, 1, 1, 1, 1, 0, 1, 0, 0]) 0 (KLoop [11, 65] [3, 6, 7, 8, 9, 10, 281] [(.pointer (some za0)), (.bool false), (.int .i64 zn1), (.int .i64 zn2), (.int .i64 zn3), (.slice zp4 zl5 zl6), (.tuple #[])] nx0 (KBlk 0 (KS Pg W 281 rs_11 an_11 false (sub (bodyOf Try.f11) [1, 1, 1, 1, 1, 1, 1]) 0 (fin Pg W 281 rv_11 R)))) (known [11, 65] [(.slice x36 l37 c38), (.int .i64 n39)] (known [3, 6, 7, 8, 9, 10, 281] [(.pointer (some za0)), (.bool false), (.int .i64 zn1), (.int .i64 zn2), (.int .i64 zn3), (.slice zp4 zl5 zl6), (.tuple #[])] j)) = B_law03_LotMore_0 W R za0 zn1 zn2 zn3 zp4 zl5 zl6 x36 l37 c38 n39 nx0 := by kernel_rfl
def N_law03_LotMore_0 (I : Option Addr → Nat → Nat → Int → Hp → Prop) (μ : Option Addr → Nat → Nat → Int → Hp → Nat) (x360 : Option Addr) (l370 : Nat) (c380 : Nat) (n390 : Int) (s : Hp) (vs : List Value) : Hp → Prop := fun s' => ∃ x36 l37 c38 n39, vs = [(.slice x36 l37 c38), (.int .i64 n39)] ∧ I x36 l37 c38 n39 s' ∧ μ x36 l37 c38 n39 s' < μ x360 l370 c380 n390 s
theorem L_law03_LotMore_0_rule (W : World) (R : Ending → Hp → Prop) (za0 : Addr) (zn1 : Int) (zn2 : Int) (zn3 : Int) (zp4 : Option Addr) (zl5 : Nat) (zl6 : Nat) (I : Option Addr → Nat → Nat → Int → Hp → Prop) (μ : Option Addr → Nat → Nat → Int → Hp → Nat) (x360 : Option Addr) (l370 : Nat) (c380 : Nat) (n390 : Int) (s : Hp) (h0 : I x360 l370 c380 n390 s)
    (hr : ∀ (x36 : Option Addr) (l37 : Nat) (c38 : Nat) (n39 : Int) (s : Hp), I x36 l37 c38 n39 s → B_law03_LotMore_0 W R za0 zn1 zn2 zn3 zp4 zl5 zl6 x36 l37 c38 n39 (fun vs => N_law03_LotMore_0 I μ x36 l37 c38 n39 s vs) s) : L_law03_LotMore_0 W R za0 zn1 zn2 zn3 zp4 zl5 zl6 x360 l370 c380 n390 s := by
  refine ⟨fun vs s => ∃ x36 l37 c38 n39, vs = [(.slice x36 l37 c38), (.int .i64 n39)] ∧ I x36 l37 c38 n39 s, fun vs s => (match vs with | [.slice x36 l37 c38, .int _ n39] => μ x36 l37 c38 n39 s | _ => 0), ⟨⟨⟨_, _, _, rfl⟩, ⟨⟨_, rfl⟩, trivial⟩⟩, ⟨_, _, _, _, rfl, h0⟩⟩, ?_⟩
  intro x36 l37 c38 n39 s hI j
  obtain ⟨x36', l37', c38', n39', hy, hI⟩ := hI
  have hI' : I x36 l37 c38 n39 s := by cases hy; exact hI
  have hh := hr x36 l37 c38 n39 s hI'
  rw [← B_law03_LotMore_0_eq W R za0 zn1 zn2 zn3 zp4 zl5 zl6 x36 l37 c38 n39 _ j] at hh
  refine vc_mono ?_ _ _ hh
  exact KLoop_mono (fun vs s' h => by obtain ⟨x361, l371, c381, n391, rfl, h1, h2⟩ := h; exact ⟨⟨⟨_, _, _, rfl⟩, ⟨⟨_, rfl⟩, trivial⟩⟩, ⟨_, _, _, _, rfl, h1⟩, h2⟩)
def B_law03_LotMore_1 (W : World) (R : Ending → Hp → Prop) (za0 : Addr) (zn1 : Int) (zn2 : Int) (zn3 : Int) (zp4 : Option Addr) (zl5 : Nat) (zl6 : Nat) (zn7 : Int) (zn8 : Int) (zn9 : Int) (zp10 : Option Addr) (zl11 : Nat) (zl12 : Nat) (zn13 : Int) (b119 : Bool) (n120 : Int) (nx1 : List Value → Hp → Prop) : Hp → Prop :=
  BR (decide (n120 < zn13))
    (IXS zp10 zl11 n120 2 fun a121 =>
      RDL (Addr.add a121 0) fun x122 l123 c124 =>
        RDI .i64 (Addr.add a121 1) fun n125 =>
          NEWZ Pg 24 fun B126 =>
            WR (Addr.add ⟨B126, 0, none⟩ 0) (.slice x122 l123 c124) <|
              WR (Addr.add ⟨B126, 0, none⟩ 1) (.int .i64 n125) <|
                RDL (Addr.add ⟨B126, 0, none⟩ 0) fun x127 l128 c129 =>
                  RDI .i64 (Addr.add ⟨B126, 0, none⟩ 1) fun n130 =>
                    CALL Pg W F_lot_Count [(.agg #[(.slice x127 l128 c129), (.int .i64 n130)])]
                      (fun v131 => TUP v131 fun q133 => HD q133 fun v134 r135 => TYI .i64 v134 fun n136 =>
                        HD r135 fun v137 r138 => TYI .i64 v137 fun n139 =>
                          NL r138 <|
                            RDL (Addr.add ⟨B126, 0, none⟩ 0) fun x140 l141 c142 =>
                              RDI .i64 (Addr.add ⟨B126, 0, none⟩ 1) fun n143 =>
                                CALL Pg W F_lot_Least [(.agg #[(.slice x140 l141 c142), (.int .i64 n143)])]
                                  (fun v144 => TUP v144 fun q146 => HD q146 fun v147 r148 => TYI .i64 v147 fun n149 =>
                                    HD r148 fun v150 r151 => TYL v150 fun x152 l153 c154 =>
                                      HD r151 fun v155 r156 => TYI .i64 v155 fun n157 =>
                                        NL r156 <|
                                          RDL (Addr.add ⟨B126, 0, none⟩ 0) fun x158 l159 c160 =>
                                            RDI .i64 (Addr.add ⟨B126, 0, none⟩ 1) fun n161 =>
                                              CALL Pg W F_lot_Can [(.agg #[(.slice x158 l159 c160), (.int .i64 n161)]), (.int .i64 zn2)]
                                                (fun v162 => TUP v162 fun q164 => HD q164 fun v165 r166 => TYI .i64 v165 fun n167 =>
                                                  HD r166 fun v168 r169 => TYI .i64 v168 fun n170 =>
                                                    NL r169 <|
                                                      BR (n139 != 0)
                                                        (J_law03_LotMore_8 W R true za0 zn1 zn2 zn3 zp4 zl5 zl6 zn7 zn8 zn9 zp10 zl11 zl12 zn13 nx1 b119 n120 n167 n149 n136 n170)
                                                        (J_law03_LotMore_8 W R (n157 != 0) za0 zn1 zn2 zn3 zp4 zl5 zl6 zn7 zn8 zn9 zp10 zl11 zl12 zn13 nx1 b119 n120 n167 n149 n136 n170))
                                                  (fun e163 => R (.panicked e163)))
                                    (fun e145 => R (.panicked e145)))
                        (fun e132 => R (.panicked e132)))
    (RDL (Addr.add za0 0) fun x176 l177 c178 =>
      RDI .i64 (Addr.add za0 1) fun n179 =>
        NEWZ Pg 24 fun B180 =>
          WR (Addr.add ⟨B180, 0, none⟩ 0) (.slice x176 l177 c178) <|
            WR (Addr.add ⟨B180, 0, none⟩ 1) (.int .i64 n179) <|
              WR (Addr.add (Addr.add ⟨B180, 0, none⟩ 1) 0) (.int .i64 0) <|
                L_law03_LotMore_2 W R za0 b119 zn1 zn2 zn3 zp4 zl5 zl6 zn7 zn8 ⟨B180, 0, none⟩ 0)
theorem B_law03_LotMore_1_eq (W : World) (R : Ending → Hp → Prop) (za0 : Addr) (zn1 : Int) (zn2 : Int) (zn3 : Int) (zp4 : Option Addr) (zl5 : Nat) (zl6 : Nat) (zn7 : Int) (zn8 : Int) (zn9 : Int) (zp10 : Option Addr) (zl11 : Nat) (zl12 : Nat) (zn13 : Int) (b119 : Bool) (n120 : Int) (nx1 : List Value → Hp → Prop) (j : Tm) : vc Pg W 281 rs_11 an_11 false (sub (bodyOf Try.f11) [1, 1, 1, 1, 1, 1, 1, 1, 1, 1, 1, 0, 1, 0, 0]) 3 (KLoop [6, 136] [3, 7, 8, 9, 10, 14, 16, 19, 134, 135, 281] [(.pointer (some za0)), (.int .i64 zn1), (.int .i64 zn2), (.int .i64 zn3), (.slice zp4 zl5 zl6), (.int .i64 zn7), (.int .i64 zn8), (.int .i64 zn9), (.slice zp10 zl11 zl12), (.int .i64 zn13), (.tuple #[])] nx1 (KBlk 3 (KS Pg W 281 rs_11 an_11 false (sub (bodyOf Try.f11) [1, 1, 1, 1, 1, 1, 1, 1, 1, 1, 1, 1]) 0 (fin Pg W 281 rv_11 R)))) (known [6, 136] [(.bool b119), (.int .i64 n120)] (known [3, 7, 8, 9, 10, 14, 16, 19, 134, 135, 281] [(.pointer (some za0)), (.int .i64 zn1), (.int .i64 zn2), (.int .i64 zn3), (.slice zp4 zl5 zl6), (.int .i64 zn7), (.int .i64 zn8), (.int .i64 zn9), (.slice zp10 zl11 zl12), (.int .i64 zn13), (.tuple #[])] j)) = B_law03_LotMore_1 W R za0 zn1 zn2 zn3 zp4 zl5 zl6 zn7 zn8 zn9 zp10 zl11 zl12 zn13 b119 n120 nx1 := by kernel_rfl
def N_law03_LotMore_1 (I : Bool → Int → Hp → Prop) (μ : Bool → Int → Hp → Nat) (b1190 : Bool) (n1200 : Int) (s : Hp) (vs : List Value) : Hp → Prop := fun s' => ∃ b119 n120, vs = [(.bool b119), (.int .i64 n120)] ∧ I b119 n120 s' ∧ μ b119 n120 s' < μ b1190 n1200 s
theorem L_law03_LotMore_1_rule (W : World) (R : Ending → Hp → Prop) (za0 : Addr) (zn1 : Int) (zn2 : Int) (zn3 : Int) (zp4 : Option Addr) (zl5 : Nat) (zl6 : Nat) (zn7 : Int) (zn8 : Int) (zn9 : Int) (zp10 : Option Addr) (zl11 : Nat) (zl12 : Nat) (zn13 : Int) (I : Bool → Int → Hp → Prop) (μ : Bool → Int → Hp → Nat) (b1190 : Bool) (n1200 : Int) (s : Hp) (h0 : I b1190 n1200 s)
    (hr : ∀ (b119 : Bool) (n120 : Int) (s : Hp), I b119 n120 s → B_law03_LotMore_1 W R za0 zn1 zn2 zn3 zp4 zl5 zl6 zn7 zn8 zn9 zp10 zl11 zl12 zn13 b119 n120 (fun vs => N_law03_LotMore_1 I μ b119 n120 s vs) s) : L_law03_LotMore_1 W R za0 zn1 zn2 zn3 zp4 zl5 zl6 zn7 zn8 zn9 zp10 zl11 zl12 zn13 b1190 n1200 s := by
  refine ⟨fun vs s => ∃ b119 n120, vs = [(.bool b119), (.int .i64 n120)] ∧ I b119 n120 s, fun vs s => (match vs with | [.bool b119, .int _ n120] => μ b119 n120 s | _ => 0), ⟨⟨⟨_, rfl⟩, ⟨⟨_, rfl⟩, trivial⟩⟩, ⟨_, _, rfl, h0⟩⟩, ?_⟩
  intro b119 n120 s hI j
  obtain ⟨b119', n120', hy, hI⟩ := hI
  have hI' : I b119 n120 s := by cases hy; exact hI
  have hh := hr b119 n120 s hI'
  rw [← B_law03_LotMore_1_eq W R za0 zn1 zn2 zn3 zp4 zl5 zl6 zn7 zn8 zn9 zp10 zl11 zl12 zn13 b119 n120 _ j] at hh
  refine vc_mono ?_ _ _ hh
  exact KLoop_mono (fun vs s' h => by obtain ⟨b1191, n1201, rfl, h1, h2⟩ := h; exact ⟨⟨⟨_, rfl⟩, ⟨⟨_, rfl⟩, trivial⟩⟩, ⟨_, _, rfl, h1⟩, h2⟩)
def B_law03_LotMore_2 (W : World) (R : Ending → Hp → Prop) (za0 : Addr) (zb1 : Bool) (zn2 : Int) (zn3 : Int) (zn4 : Int) (zp5 : Option Addr) (zl6 : Nat) (zl7 : Nat) (zn8 : Int) (zn9 : Int) (za10 : Addr) (n181 : Int) (nx2 : List Value → Hp → Prop) : Hp → Prop :=
  BR (decide (n181 < zn2))
    (RDI .i64 (Addr.add za10 1) fun n182 =>
      RDI .i64 (Addr.add za0 1) fun n183 =>
        NNI n181 <|
          NNI (IntKind.wrap .i64 ((IntKind.wrap .i64 (zn2 - 1)) - n181)) <|
            WR (Addr.add (Addr.add za10 1) 0) (.int .i64 (orv .i64 n182 (shlv .i64 (andv .i64 (shrv .i64 n183 n181) 1) (IntKind.wrap .i64 ((IntKind.wrap .i64 (zn2 - 1)) - n181))))) <|
              NX [(.pointer (some za0)), (.bool zb1), (.int .i64 zn2), (.int .i64 zn3), (.int .i64 zn4), (.slice zp5 zl6 zl7), (.int .i64 zn8), (.int .i64 zn9), (.pointer (some za10)), (.int .i64 zn2), (.tuple #[])] [(.pointer (some za0)), (.bool zb1), (.int .i64 zn2), (.int .i64 zn3), (.int .i64 zn4), (.slice zp5 zl6 zl7), (.int .i64 zn8), (.int .i64 zn9), (.pointer (some za10)), (.int .i64 zn2), (.tuple #[])] (nx2 [(.int .i64 (IntKind.wrap .i64 (n181 + 1)))]))
    (RDL (Addr.add za10 0) fun x184 l185 c186 =>
      RDI .i64 (Addr.add za10 1) fun n187 =>
        CALL Pg W F_lot_Count [(.agg #[(.slice x184 l185 c186), (.int .i64 n187)])]
          (fun v188 => TUP v188 fun q190 => HD q190 fun v191 r192 => TYI .i64 v191 fun n193 =>
            HD r192 fun v194 r195 => TYI .i64 v194 fun n196 =>
              NL r195 <|
                RDL (Addr.add za10 0) fun x197 l198 c199 =>
                  RDI .i64 (Addr.add za10 1) fun n200 =>
                    CALL Pg W F_lot_Least [(.agg #[(.slice x197 l198 c199), (.int .i64 n200)])]
                      (fun v201 => TUP v201 fun q203 => HD q203 fun v204 r205 => TYI .i64 v204 fun n206 =>
                        HD r205 fun v207 r208 => TYL v207 fun x209 l210 c211 =>
                          HD r208 fun v212 r213 => TYI .i64 v212 fun n214 =>
                            NL r213 <|
                              RDL (Addr.add za0 0) fun x215 l216 c217 =>
                                RDI .i64 (Addr.add za0 1) fun n218 =>
                                  CALL Pg W F_lot_Often [(.agg #[(.slice x215 l216 c217), (.int .i64 n218)]), (.int .i64 zn3), (.int .i64 zn4)]
                                    (fun v219 => TUP v219 fun q221 => HD q221 fun v222 r223 => TYI .i64 v222 fun n224 =>
                                      HD r223 fun v225 r226 => TYI .i64 v225 fun n227 =>
                                        NL r226 <|
                                          RDL (Addr.add za10 0) fun x228 l229 c230 =>
                                            RDI .i64 (Addr.add za10 1) fun n231 =>
                                              CALL Pg W F_lot_Often [(.agg #[(.slice x228 l229 c230), (.int .i64 n231)]), (.int .i64 zn3), (.int .i64 (IntKind.wrap .i64 ((IntKind.wrap .i64 (zn2 - 1)) - zn4)))]
                                                (fun v232 => TUP v232 fun q234 => HD q234 fun v235 r236 => TYI .i64 v235 fun n237 =>
                                                  HD r236 fun v238 r239 => TYI .i64 v238 fun n240 =>
                                                    NL r239 <|
                                                      L_law03_LotMore_3 W R za0 zp5 zl6 zl7 zn8 zn9 n193 n196 n206 n214 n224 n227 n237 n240 (↑zl6 : Int) zb1 0)
                                                  (fun e233 => R (.panicked e233)))
                                      (fun e220 => R (.panicked e220)))
                        (fun e202 => R (.panicked e202)))
            (fun e189 => R (.panicked e189)))
theorem B_law03_LotMore_2_eq (W : World) (R : Ending → Hp → Prop) (za0 : Addr) (zb1 : Bool) (zn2 : Int) (zn3 : Int) (zn4 : Int) (zp5 : Option Addr) (zl6 : Nat) (zl7 : Nat) (zn8 : Int) (zn9 : Int) (za10 : Addr) (n181 : Int) (nx2 : List Value → Hp → Prop) (j : Tm) : vc Pg W 281 rs_11 an_11 false (sub (bodyOf Try.f11) [1, 1, 1, 1, 1, 1, 1, 1, 1, 1, 1, 1, 1, 1, 0, 1, 0, 0]) 5 (KLoop [187] [3, 6, 7, 8, 9, 10, 14, 16, 30, 186, 281] [(.pointer (some za0)), (.bool zb1), (.int .i64 zn2), (.int .i64 zn3), (.int .i64 zn4), (.slice zp5 zl6 zl7), (.int .i64 zn8), (.int .i64 zn9), (.pointer (some za10)), (.int .i64 zn2), (.tuple #[])] nx2 (KBlk 5 (KS Pg W 281 rs_11 an_11 false (sub (bodyOf Try.f11) [1, 1, 1, 1, 1, 1, 1, 1, 1, 1, 1, 1, 1, 1, 1]) 0 (fin Pg W 281 rv_11 R)))) (known [187] [(.int .i64 n181)] (known [3, 6, 7, 8, 9, 10, 14, 16, 30, 186, 281] [(.pointer (some za0)), (.bool zb1), (.int .i64 zn2), (.int .i64 zn3), (.int .i64 zn4), (.slice zp5 zl6 zl7), (.int .i64 zn8), (.int .i64 zn9), (.pointer (some za10)), (.int .i64 zn2), (.tuple #[])] j)) = B_law03_LotMore_2 W R za0 zb1 zn2 zn3 zn4 zp5 zl6 zl7 zn8 zn9 za10 n181 nx2 := by kernel_rfl
def N_law03_LotMore_2 (I : Int → Hp → Prop) (μ : Int → Hp → Nat) (n1810 : Int) (s : Hp) (vs : List Value) : Hp → Prop := fun s' => ∃ n181, vs = [(.int .i64 n181)] ∧ I n181 s' ∧ μ n181 s' < μ n1810 s
theorem L_law03_LotMore_2_rule (W : World) (R : Ending → Hp → Prop) (za0 : Addr) (zb1 : Bool) (zn2 : Int) (zn3 : Int) (zn4 : Int) (zp5 : Option Addr) (zl6 : Nat) (zl7 : Nat) (zn8 : Int) (zn9 : Int) (za10 : Addr) (I : Int → Hp → Prop) (μ : Int → Hp → Nat) (n1810 : Int) (s : Hp) (h0 : I n1810 s)
    (hr : ∀ (n181 : Int) (s : Hp), I n181 s → B_law03_LotMore_2 W R za0 zb1 zn2 zn3 zn4 zp5 zl6 zl7 zn8 zn9 za10 n181 (fun vs => N_law03_LotMore_2 I μ n181 s vs) s) : L_law03_LotMore_2 W R za0 zb1 zn2 zn3 zn4 zp5 zl6 zl7 zn8 zn9 za10 n1810 s := by
  refine ⟨fun vs s => ∃ n181, vs = [(.int .i64 n181)] ∧ I n181 s, fun vs s => (match vs with | [.int _ n181] => μ n181 s | _ => 0), ⟨⟨⟨_, rfl⟩, trivial⟩, ⟨_, rfl, h0⟩⟩, ?_⟩
  intro n181 s hI j
  obtain ⟨n181', hy, hI⟩ := hI
  have hI' : I n181 s := by cases hy; exact hI
  have hh := hr n181 s hI'
  rw [← B_law03_LotMore_2_eq W R za0 zb1 zn2 zn3 zn4 zp5 zl6 zl7 zn8 zn9 za10 n181 _ j] at hh
  refine vc_mono ?_ _ _ hh
  exact KLoop_mono (fun vs s' h => by obtain ⟨n1811, rfl, h1, h2⟩ := h; exact ⟨⟨⟨_, rfl⟩, trivial⟩, ⟨_, rfl, h1⟩, h2⟩)
def B_law03_LotMore_3 (W : World) (R : Ending → Hp → Prop) (za0 : Addr) (zp1 : Option Addr) (zl2 : Nat) (zl3 : Nat) (zn4 : Int) (zn5 : Int) (zn6 : Int) (zn7 : Int) (zn8 : Int) (zn9 : Int) (zn10 : Int) (zn11 : Int) (zn12 : Int) (zn13 : Int) (zn14 : Int) (b241 : Bool) (n242 : Int) (nx3 : List Value → Hp → Prop) : Hp → Prop :=
  BR (decide (n242 < zn14))
    (IXS zp1 zl2 n242 3 fun a243 =>
      RDI .i64 (Addr.add a243 0) fun n244 =>
        RDB (Addr.add a243 1) fun b245 =>
          RDB (Addr.add a243 2) fun b246 =>
            RDL (Addr.add za0 0) fun x247 l248 c249 =>
              IXS x247 l248 n242 3 fun a250 =>
                RDI .i64 (Addr.add a250 0) fun n251 =>
                  RDB (Addr.add a250 1) fun b252 =>
                    RDB (Addr.add a250 2) fun b253 =>
                      BR (!((n244 == n251) && ((b245 == b252) && (b246 == b253))))
                        (R (.returned (.bool false)))
                        (NX [(.pointer (some za0)), (.slice zp1 zl2 zl3), (.int .i64 zn4), (.int .i64 zn5), (.int .i64 zn6), (.int .i64 zn7), (.int .i64 zn8), (.int .i64 zn9), (.int .i64 zn10), (.int .i64 zn11), (.int .i64 zn12), (.int .i64 zn13), (.int .i64 zn14), (.tuple #[])] [(.pointer (some za0)), (.slice zp1 zl2 zl3), (.int .i64 zn4), (.int .i64 zn5), (.int .i64 zn6), (.int .i64 zn7), (.int .i64 zn8), (.int .i64 zn9), (.int .i64 zn10), (.int .i64 zn11), (.int .i64 zn12), (.int .i64 zn13), (.int .i64 zn14), (.tuple #[])] (nx3 [(.bool b241), (.int .i64 (IntKind.wrap .i64 (n242 + 1)))])))
    (BR (zn4 == zn6)
      (J_law03_LotMore_12 W R (zn7 == 0) zn5 zn8 zn9 zn10 zn12 zn11 zn13)
      (J_law03_LotMore_12 W R false zn5 zn8 zn9 zn10 zn12 zn11 zn13))
theorem B_law03_LotMore_3_eq (W : World) (R : Ending → Hp → Prop) (za0 : Addr) (zp1 : Option Addr) (zl2 : Nat) (zl3 : Nat) (zn4 : Int) (zn5 : Int) (zn6 : Int) (zn7 : Int) (zn8 : Int) (zn9 : Int) (zn10 : Int) (zn11 : Int) (zn12 : Int) (zn13 : Int) (zn14 : Int) (b241 : Bool) (n242 : Int) (nx3 : List Value → Hp → Prop) (j : Tm) : vc Pg W 281 rs_11 an_11 false (sub (bodyOf Try.f11) [1, 1, 1, 1, 1, 1, 1, 1, 1, 1, 1, 1, 1, 1, 1, 1, 1, 1, 1, 0, 1, 0, 0]) 7 (KLoop [6, 235] [3, 10, 14, 16, 32, 33, 34, 36, 37, 38, 39, 40, 234, 281] [(.pointer (some za0)), (.slice zp1 zl2 zl3), (.int .i64 zn4), (.int .i64 zn5), (.int .i64 zn6), (.int .i64 zn7), (.int .i64 zn8), (.int .i64 zn9), (.int .i64 zn10), (.int .i64 zn11), (.int .i64 zn12), (.int .i64 zn13), (.int .i64 zn14), (.tuple #[])] nx3 (KBlk 7 (KS Pg W 281 rs_11 an_11 false (sub (bodyOf Try.f11) [1, 1, 1, 1, 1, 1, 1, 1, 1, 1, 1, 1, 1, 1, 1, 1, 1, 1, 1, 1]) 0 (fin Pg W 281 rv_11 R)))) (known [6, 235] [(.bool b241), (.int .i64 n242)] (known [3, 10, 14, 16, 32, 33, 34, 36, 37, 38, 39, 40, 234, 281] [(.pointer (some za0)), (.slice zp1 zl2 zl3), (.int .i64 zn4), (.int .i64 zn5), (.int .i64 zn6), (.int .i64 zn7), (.int .i64 zn8), (.int .i64 zn9), (.int .i64 zn10), (.int .i64 zn11), (.int .i64 zn12), (.int .i64 zn13), (.int .i64 zn14), (.tuple #[])] j)) = B_law03_LotMore_3 W R za0 zp1 zl2 zl3 zn4 zn5 zn6 zn7 zn8 zn9 zn10 zn11 zn12 zn13 zn14 b241 n242 nx3 := by kernel_rfl
def N_law03_LotMore_3 (I : Bool → Int → Hp → Prop) (μ : Bool → Int → Hp → Nat) (b2410 : Bool) (n2420 : Int) (s : Hp) (vs : List Value) : Hp → Prop := fun s' => ∃ b241 n242, vs = [(.bool b241), (.int .i64 n242)] ∧ I b241 n242 s' ∧ μ b241 n242 s' < μ b2410 n2420 s
theorem L_law03_LotMore_3_rule (W : World) (R : Ending → Hp → Prop) (za0 : Addr) (zp1 : Option Addr) (zl2 : Nat) (zl3 : Nat) (zn4 : Int) (zn5 : Int) (zn6 : Int) (zn7 : Int) (zn8 : Int) (zn9 : Int) (zn10 : Int) (zn11 : Int) (zn12 : Int) (zn13 : Int) (zn14 : Int) (I : Bool → Int → Hp → Prop) (μ : Bool → Int → Hp → Nat) (b2410 : Bool) (n2420 : Int) (s : Hp) (h0 : I b2410 n2420 s)
    (hr : ∀ (b241 : Bool) (n242 : Int) (s : Hp), I b241 n242 s → B_law03_LotMore_3 W R za0 zp1 zl2 zl3 zn4 zn5 zn6 zn7 zn8 zn9 zn10 zn11 zn12 zn13 zn14 b241 n242 (fun vs => N_law03_LotMore_3 I μ b241 n242 s vs) s) : L_law03_LotMore_3 W R za0 zp1 zl2 zl3 zn4 zn5 zn6 zn7 zn8 zn9 zn10 zn11 zn12 zn13 zn14 b2410 n2420 s := by
  refine ⟨fun vs s => ∃ b241 n242, vs = [(.bool b241), (.int .i64 n242)] ∧ I b241 n242 s, fun vs s => (match vs with | [.bool b241, .int _ n242] => μ b241 n242 s | _ => 0), ⟨⟨⟨_, rfl⟩, ⟨⟨_, rfl⟩, trivial⟩⟩, ⟨_, _, rfl, h0⟩⟩, ?_⟩
  intro b241 n242 s hI j
  obtain ⟨b241', n242', hy, hI⟩ := hI
  have hI' : I b241 n242 s := by cases hy; exact hI
  have hh := hr b241 n242 s hI'
  rw [← B_law03_LotMore_3_eq W R za0 zp1 zl2 zl3 zn4 zn5 zn6 zn7 zn8 zn9 zn10 zn11 zn12 zn13 zn14 b241 n242 _ j] at hh
  refine vc_mono ?_ _ _ hh
  exact KLoop_mono (fun vs s' h => by obtain ⟨b2411, n2421, rfl, h1, h2⟩ := h; exact ⟨⟨⟨_, rfl⟩, ⟨⟨_, rfl⟩, trivial⟩⟩, ⟨_, _, rfl, h1⟩, h2⟩)
def T_law03_LotMore (W : World) (x1 : Option Addr) (l2 : Nat) (c3 : Nat) (n4 : Int) (n5 : Int) (n6 : Int) (R : Ending → Hp → Prop) : Hp → Prop :=
  NEW 24 [(.slice x1 l2 c3), (.int .i64 n4)] fun B7 =>
    RDL (Addr.add ⟨B7, 0, none⟩ 0) fun x8 l9 c10 =>
      RDI .i64 (Addr.add ⟨B7, 0, none⟩ 1) fun n11 =>
        CALL Pg W F_law03_far [(.agg #[(.slice x8 l9 c10), (.int .i64 n11)]), (.slice none 0 0), (.int .i64 8)]
          (fun v12 => TYB v12 fun b14 =>
            BR b14
              (J_law03_LotMore_0 W R true B7 n5 n6)
              (RDL (Addr.add ⟨B7, 0, none⟩ 0) fun x29 l30 c31 =>
                RDI .i64 (Addr.add ⟨B7, 0, none⟩ 1) fun n32 =>
                  CALL Pg W F_ref03_Lots [(.agg #[(.slice x29 l30 c31), (.int .i64 n32)])]
                    (fun v33 => TYB v33 fun b35 =>
                      J_law03_LotMore_0 W R (!b35) B7 n5 n6)
                      (fun e34 => R (.panicked e34))))
            (fun e13 => R (.panicked e13))
theorem T_law03_LotMore_eq (W : World) (x1 : Option Addr) (l2 : Nat) (c3 : Nat) (n4 : Int) (n5 : Int) (n6 : Int) (R : Ending → Hp → Prop) : vfun Pg W an_11 Try.f11 [(.agg #[(.slice x1 l2 c3), (.int .i64 n4)]), (.int .u8 n5), (.int .u8 n6)] R = T_law03_LotMore W x1 l2 c3 n4 n5 n6 R := by kernel_rfl
theorem does_law03_LotMore (W : World) (x1 : Option Addr) (l2 : Nat) (c3 : Nat) (n4 : Int) (n5 : Int) (n6 : Int) (R : Ending → Hp → Prop) (s : Hp) (h : T_law03_LotMore W x1 l2 c3 n4 n5 n6 R s) : Does Pg W F_law03_LotMore #[(.agg #[(.slice x1 l2 c3), (.int .i64 n4)]), (.int .u8 n5), (.int .u8 n6)] s R :=
  does_of_vfun Pg W an_11 Try.func11 rfl (by kernel_rfl) (by rw [T_law03_LotMore_eq]; exact h)
end Go.Proofs.Ytocnkdkgajdejaa.G

/- Ploughmen's rows, lots' rows; whole numbers by their bits. -/
set_option linter.unusedSimpArgs false
set_option linter.unusedVariables false
set_option maxRecDepth 20000
namespace Go.Proofs.Ytocnkdkgajdejaa.G
open Go.V Go.Lot
def mvals (ms : List Man) : List Value := ms.flatMap fun m => [.int .i64 m.club, .bool m.left, .bool m.nov]
theorem mvals_cons (m : Man) (ms : List Man) : mvals (m :: ms) = .int .i64 m.club :: .bool m.left :: .bool m.nov :: mvals ms := rfl
theorem mvals_len : ∀ ms : List Man, (mvals ms).length = ms.length * 3
  | [] => rfl
  | m :: ms => by rw [mvals_cons, List.length_cons, List.length_cons, List.length_cons, mvals_len ms, List.length_cons]; omega
theorem mvals_get : ∀ (ms : List Man) (i : Nat) (h : i < ms.length), (mvals ms)[i * 3]? = some (.int .i64 ms[i].club) ∧ (mvals ms)[i * 3 + 1]? = some (.bool ms[i].left) ∧ (mvals ms)[i * 3 + 2]? = some (.bool ms[i].nov)
  | [], i, h => by simp at h
  | m :: ms, 0, h => ⟨rfl, rfl, rfl⟩
  | m :: ms, i + 1, h => by
    have ih := mvals_get ms i (by simpa using h)
    rw [mvals_cons, show (i + 1) * 3 = i * 3 + 1 + 1 + 1 by omega]
    refine ⟨?_, ?_, ?_⟩
    · rw [List.getElem?_cons_succ, List.getElem?_cons_succ, List.getElem?_cons_succ]; exact ih.1
    · rw [List.getElem?_cons_succ, List.getElem?_cons_succ, List.getElem?_cons_succ]; exact ih.2.1
    · rw [List.getElem?_cons_succ, List.getElem?_cons_succ, List.getElem?_cons_succ]; exact ih.2.2
theorem mvals_one (ms : List Man) : ∀ v ∈ mvals ms, oneCell v = true := by
  intro v hv
  unfold mvals at hv
  obtain ⟨p, _, hp⟩ := List.mem_flatMap.1 hv
  simp at hp
  rcases hp with rfl | rfl | rfl <;> rfl
theorem mvals_set0 : ∀ (ms : List Man) (i : Nat) (h : i < ms.length) (c : Int), (mvals ms).set (i * 3) (.int .i64 c) = mvals (ms.set i { ms[i] with club := c })
  | [], i, h, c => by simp at h
  | m :: ms, 0, h, c => rfl
  | m :: ms, i + 1, h, c => by
    rw [show (i + 1) * 3 = i * 3 + 1 + 1 + 1 by omega, mvals_cons, List.set_cons_succ, List.set_cons_succ, List.set_cons_succ, mvals_set0 ms i (by simpa using h) c]; rfl
theorem mvals_set1 : ∀ (ms : List Man) (i : Nat) (h : i < ms.length) (c : Bool), (mvals ms).set (i * 3 + 1) (.bool c) = mvals (ms.set i { ms[i] with left := c })
  | [], i, h, c => by simp at h
  | m :: ms, 0, h, c => rfl
  | m :: ms, i + 1, h, c => by
    rw [show (i + 1) * 3 + 1 = i * 3 + 1 + 1 + 1 + 1 by omega, mvals_cons, List.set_cons_succ, List.set_cons_succ, List.set_cons_succ, mvals_set1 ms i (by simpa using h) c]; rfl
theorem mvals_set2 : ∀ (ms : List Man) (i : Nat) (h : i < ms.length) (c : Bool), (mvals ms).set (i * 3 + 2) (.bool c) = mvals (ms.set i { ms[i] with nov := c })
  | [], i, h, c => by simp at h
  | m :: ms, 0, h, c => rfl
  | m :: ms, i + 1, h, c => by
    rw [show (i + 1) * 3 + 2 = i * 3 + 2 + 1 + 1 + 1 by omega, mvals_cons, List.set_cons_succ, List.set_cons_succ, List.set_cons_succ, mvals_set2 ms i (by simpa using h) c]; rfl
section
variable {s s' : Hp} {L : Lts}
theorem men_of_row {x : Option Addr} {ms : List Man} (h : RowAt s x (mvals ms)) : MenAt s x ms := by
  intro i hi
  obtain ⟨g0, g1, g2⟩ := mvals_get ms i hi
  have l0 : i * 3 < (mvals ms).length := by rw [mvals_len]; omega
  have l1 : i * 3 + 1 < (mvals ms).length := by rw [mvals_len]; omega
  have l2 : i * 3 + 2 < (mvals ms).length := by rw [mvals_len]; omega
  obtain ⟨a0, h0, q0⟩ := h _ l0
  obtain ⟨a1, h1, q1⟩ := h _ l1
  obtain ⟨a2, h2, q2⟩ := h _ l2
  rw [h0] at h1 h2
  cases h1; cases h2
  rw [List.getElem?_eq_getElem l0] at g0
  rw [List.getElem?_eq_getElem l1] at g1
  rw [List.getElem?_eq_getElem l2] at g2
  rw [Option.some.inj g0, Nat.mul_one] at q0
  rw [Option.some.inj g1, Nat.mul_one] at q1
  rw [Option.some.inj g2, Nat.mul_one] at q2
  exact ⟨a0, h0, by rw [addr_add]; exact q0, by rw [addr_add]; exact q1, by rw [addr_add]; exact q2⟩
theorem row_of_men {x : Option Addr} {ms : List Man} (h : MenAt s x ms) : RowAt s x (mvals ms) := by
  intro i hi
  have hl := hi
  rw [mvals_len] at hl
  obtain ⟨q, r, hr, rfl⟩ : ∃ q r, r < 3 ∧ i = q * 3 + r := ⟨i / 3, i % 3, Nat.mod_lt _ (by omega), by omega⟩
  have hq : q < ms.length := by omega
  obtain ⟨a, ha, c0, c1, c2⟩ := h q hq
  obtain ⟨g0, g1, g2⟩ := mvals_get ms q hq
  refine ⟨a, ha, ?_⟩
  rw [Nat.mul_one]
  have hg : (mvals ms)[q * 3 + r]? = some ((mvals ms)[q * 3 + r]'hi) := List.getElem?_eq_getElem hi
  generalize (mvals ms)[q * 3 + r]'hi = v at hg ⊢
  rw [addr_add] at c0 c1 c2
  match r, hr, hg with
  | 0, _, hg => rw [show q * 3 + 0 = q * 3 from rfl] at hg ⊢; rw [hg] at g0; rw [Option.some.inj g0]; exact c0
  | 1, _, hg => rw [hg] at g1; rw [Option.some.inj g1]; exact c1
  | 2, _, hg => rw [hg] at g2; rw [Option.some.inj g2]; exact c2
theorem MenAt.keep {D : Nat → Prop} {x : Option Addr} {ms : List Man} (h : MenAt s x ms) (k : Kp D s s') (hd : ∀ a, x = some a → ¬ D a.block) : MenAt s' x ms := men_of_row ((row_of_men h).keep k hd)
end
/-- Lots behind one another. -/
abbrev El := Option Addr × Nat × Lts
def lvals (es : List El) : List Value := es.flatMap fun e => [.slice e.1 e.2.2.n e.2.1, .int .i64 e.2.2.worst]
theorem lvals_cons (e : El) (es : List El) : lvals (e :: es) = .slice e.1 e.2.2.n e.2.1 :: .int .i64 e.2.2.worst :: lvals es := rfl
theorem lvals_len : ∀ es : List El, (lvals es).length = es.length * 2
  | [] => rfl
  | m :: ms => by rw [lvals_cons, List.length_cons, List.length_cons, lvals_len ms, List.length_cons]; omega
theorem lvals_app (es fs : List El) : lvals (es ++ fs) = lvals es ++ lvals fs := by unfold lvals; rw [List.flatMap_append]
theorem lvals_get : ∀ (es : List El) (i : Nat) (h : i < es.length), (lvals es)[i * 2]? = some (.slice es[i].1 es[i].2.2.n es[i].2.1) ∧ (lvals es)[i * 2 + 1]? = some (.int .i64 es[i].2.2.worst)
  | [], i, h => by simp at h
  | m :: ms, 0, h => ⟨rfl, rfl⟩
  | m :: ms, i + 1, h => by
    have ih := lvals_get ms i (by simpa using h)
    rw [lvals_cons, show (i + 1) * 2 = i * 2 + 1 + 1 by omega]
    exact ⟨by rw [List.getElem?_cons_succ, List.getElem?_cons_succ]; exact ih.1, by rw [List.getElem?_cons_succ, List.getElem?_cons_succ]; exact ih.2⟩
theorem lvals_one (es : List El) : ∀ v ∈ lvals es, oneCell v = true := by
  intro v hv
  unfold lvals at hv
  obtain ⟨p, _, hp⟩ := List.mem_flatMap.1 hv
  simp at hp
  rcases hp with rfl | rfl <;> rfl
section
variable {s s' : Hp} {L : Lts}
theorem row_el {x : Option Addr} {es : List El} {i : Nat} (hrow : RowAt s x (lvals es)) (hi : i < es.length) : ∃ a, x = some a ∧ cellAt s ((a.add (i * 2)).add 0) = some (.slice es[i].1 es[i].2.2.n es[i].2.1) ∧ cellAt s ((a.add (i * 2)).add 1) = some (.int .i64 es[i].2.2.worst) := by
  obtain ⟨g1, g2⟩ := lvals_get es i hi
  have hl1 : i * 2 < (lvals es).length := by rw [lvals_len]; omega
  have hl2 : i * 2 + 1 < (lvals es).length := by rw [lvals_len]; omega
  obtain ⟨a1, ha1, q1⟩ := hrow (i * 2) hl1
  obtain ⟨a2, ha2, q2⟩ := hrow (i * 2 + 1) hl2
  rw [List.getElem?_eq_getElem hl1] at g1
  rw [List.getElem?_eq_getElem hl2] at g2
  rw [Option.some.inj g1, Nat.mul_one] at q1
  rw [Option.some.inj g2, Nat.mul_one] at q2
  have hsame : a1 = a2 := by rw [ha1] at ha2; exact Option.some.inj ha2
  subst hsame
  exact ⟨a1, ha1, by rw [addr_add]; exact q1, by rw [addr_add]; exact q2⟩
/-- Lots that one has made, in a list of one's own. -/
structure Els (lo : Nat) (s : Hp) (x : Option Addr) (l c : Nat) (es : List El) : Prop where
  fr : Fr lo s x l c 2 (lvals es)
  lt : ∀ b, x = some b → b.block < s.size
  at' : ∀ e ∈ es, MenAt s e.1 e.2.2.men ∧ ∀ a, e.1 = some a → a.block < s.size ∧ ∀ b, x = some b → a.block ≠ b.block
theorem Els.len {lo : Nat} {x : Option Addr} {l c : Nat} {es : List El} (h : Els lo s x l c es) : l = es.length := by have := h.fr.len; rw [lvals_len] at this; omega
theorem Els.ext {lo : Nat} {x : Option Addr} {l c : Nat} {es : List El} (e : Ext s s') (h : Els lo s x l c es) : Els lo s' x l c es := ⟨h.fr.ext e, (fun b hb => Nat.lt_of_lt_of_le (h.lt b hb) e.1), fun y hy => ⟨(h.at' y hy).1.ext e, fun a ha => ⟨Nat.lt_of_lt_of_le ((h.at' y hy).2 a ha).1 e.1, ((h.at' y hy).2 a ha).2⟩⟩⟩
/-- Lots are copied. -/
theorem lots_new {KK : Nat → Hp → Prop} {v : Value} {n : Int} (h1 : oneCell v = true) (h : ∀ s', Ext s s' → s'.size = s.size + 1 → Own s' (Addr.add ⟨s.size, 0, none⟩ 0) v → Own s' (Addr.add ⟨s.size, 0, none⟩ 1) (.int .i64 n) → KK s.size s') :
    NEWZ Pg 24 (fun B => WR (Addr.add ⟨B, 0, none⟩ 0) v <| WR (Addr.add ⟨B, 0, none⟩ 1) (.int .i64 n) <| KK B) s := by
  refine NEWZ_rule zc_24 fun s2 e2 z2 n2 => ?_
  refine WR_own (n2 0 _ rfl) h1 ?_
  refine WR_own (own_set_ne (.inr (by simp [add_off])) (n2 1 _ rfl)) rfl ?_
  refine h _ (Ext.setC (Ext.setC e2 (Nat.le_refl _)) (by rw [add_block]; exact Nat.le_refl _)) (by rw [setC_size, setC_size, z2]) ?_ ?_
  · exact own_set_ne (.inr (by simp [add_off])) (own_set (n2 0 _ rfl))
  · exact own_set (own_set_ne (.inr (by simp [add_off])) (n2 1 _ rfl))
end
theorem andn_bit : ∀ w : Nat, w < 256 → ∀ p : Nat, p < 8 → andnv .i64 (w : Int) (shlv .i64 1 (p : Int)) = ((noBit w p : Nat) : Int) := by
  have h : ((List.range 256).all fun (w : Nat) => (List.range 8).all fun (p : Nat) => decide (andnv .i64 (w : Int) (shlv .i64 1 (p : Int)) = ((noBit w p : Nat) : Int))) = true := by decide +kernel
  intro w hw p hp
  have h1 := List.all_eq_true.1 h w (by simpa using hw)
  have h2 := List.all_eq_true.1 h1 p (by simpa using hp)
  simpa using h2
theorem bit_of : ∀ w : Nat, w < 256 → ∀ p : Nat, p < 8 → andv .i64 (shrv .i64 (w : Int) (p : Int)) 1 = ((w >>> p &&& 1 : Nat) : Int) := by
  have h : ((List.range 256).all fun (w : Nat) => (List.range 8).all fun (p : Nat) => decide (andv .i64 (shrv .i64 (w : Int) (p : Int)) 1 = ((w >>> p &&& 1 : Nat) : Int))) = true := by decide +kernel
  intro w hw p hp
  have h1 := List.all_eq_true.1 h w (by simpa using hw)
  have h2 := List.all_eq_true.1 h1 p (by simpa using hp)
  simpa using h2
theorem or_bit : ∀ w : Nat, w < 256 → ∀ p : Nat, p < 8 → ∀ b : Nat, b < 2 → orv .i64 (w : Int) (shlv .i64 (b : Int) (p : Int)) = ((w ||| (b <<< p) : Nat) : Int) := by
  have h : ((List.range 256).all fun (w : Nat) => (List.range 8).all fun (p : Nat) => (List.range 2).all fun (b : Nat) => decide (orv .i64 (w : Int) (shlv .i64 (b : Int) (p : Int)) = ((w ||| (b <<< p) : Nat) : Int))) = true := by decide +kernel
  intro w hw p hp b hb
  have h1 := List.all_eq_true.1 h w (by simpa using hw)
  have h2 := List.all_eq_true.1 h1 p (by simpa using hp)
  have h3 := List.all_eq_true.1 h2 b (by simpa using hb)
  simpa using h3
theorem andn_zero {a b : Nat} (h : ∀ i, a.testBit i = true → b.testBit i = true) : andnv .i64 (a : Int) (b : Int) = 0 := by
  unfold andnv
  have e1 : BitVec.ofInt (IntKind.bits .i64) (a : Int) = BitVec.ofNat 64 a := by simp [IntKind.bits]
  have e2 : BitVec.ofInt (IntKind.bits .i64) (b : Int) = BitVec.ofNat 64 b := by simp [IntKind.bits]
  rw [e1, e2]
  have e3 : (BitVec.ofNat 64 a &&& ~~~ BitVec.ofNat 64 b) = (0 : BitVec 64) := by
    apply BitVec.eq_of_getLsbD_eq
    intro i hi
    have := h i
    simp only [BitVec.getLsbD_and, BitVec.getLsbD_not, BitVec.getLsbD_ofNat]
    cases ha : a.testBit i with
    | false => simp
    | true => simp [this ha, hi]
  show IntKind.wrap .i64 ((BitVec.ofNat 64 a &&& ~~~ BitVec.ofNat 64 b).toNat : Int) = 0
  rw [e3]; rfl
end Go.Proofs.Ytocnkdkgajdejaa.G

/- The statement LotMore: with a rule less; counted from the other end. -/
set_option linter.unusedSimpArgs false
set_option linter.unusedVariables false
set_option maxRecDepth 20000
namespace Go.Proofs.Ytocnkdkgajdejaa.G
open Go.V Go.Lot
section
variable {W : World} {K : VK} {E : List PanicEntry → Hp → Prop} {s : Hp} {L : Lts}
/-- Ploughmen are copied to a new row. -/
theorem men_copy {x : Option Addr} {l : Nat} {ms : List Man} {KK : Option Addr → Nat → Nat → Hp → Prop} (hx : MenAt s x ms) (hl : l = ms.length) (h8 : ms.length ≤ 1000) {s0 : Hp} {B : Nat} (e0 : Ext s0 s) (hB : s0.size ≤ B) (hBl : B < s.size) 
    (h : ∀ s' y c, Ext s0 s' → Kp (· = B) s s' → Fr s0.size s' y ms.length c 3 (mvals ms) → KK y ms.length c s') :
    APP Pg 51 3 (some ⟨B, 0, none⟩) 0 0 x l KK s := by
  subst hl
  have f0 : Fr s0.size s (some ⟨B, 0, none⟩) 0 0 3 [] := ⟨⟨by simp, fun i hi => by simp at hi⟩, by simp, (fun a h => by cases h; exact hB), by omega⟩
  refine APP_fr (ws := mvals ms) f0 e0.1 (row_of_men hx) (by rw [mvals_len]) zc_51 rfl (by omega) (mvals_one ms) (by omega) ?_
  intro s2 x2 c2 k2 g2 f2
  rw [List.nil_append, Nat.zero_add] at f2
  rw [Nat.zero_add]
  refine h s2 x2 c2 ⟨Nat.le_trans e0.1 k2.1, fun q hq => ?_⟩ (k2.mono fun b ⟨a, h1, h2⟩ => by cases h1; exact h2.symm) f2
  rw [k2.2 q (Nat.lt_of_lt_of_le hq e0.1) (fun ⟨a, h1, h2⟩ => by cases h1; have : B = q := h2; omega)]
  exact e0.2 q hq

theorem more_one {s4 : Hp} {x yk : Option Addr} {c B0 lk ck m p : Nat} (hv : valid L = true) (hm : m < L.n) (hp : p < L.n) (c0 : ∀ t, Ext s4 t → cellAt t ⟨B0, 0, none⟩ = some (.slice x L.n c)) (c1 : ∀ t, Ext s4 t → cellAt t ⟨B0, 1, none⟩ = some (.int .i64 L.worst)) (hmen : MenAt s4 x L.men) {R : Ending → Hp → Prop}
    (h : ∀ t x' l' c' es, Ext s4 t → Els s4.size t x' l' c' es → es.map (·.2.2) = (List.range 4).map (loose L m p) → B_law03_LotMore_0 W R ⟨B0, 0, none⟩ L.n m p yk lk ck x' l' c' 4 (fun _ => FF) t) :
    L_law03_LotMore_0 W R ⟨B0, 0, none⟩ L.n m p yk lk ck none 0 0 0 s4 := by
  have v := vd_iff.1 hv
  have hn8 := v.hi
  have hw8 := v.w8
  have hw0 := v.w0
  have hmml : m < L.men.length := hm
  refine L_law03_LotMore_0_rule W R ⟨B0, 0, none⟩ L.n m p yk lk ck (fun x l c n t => ∃ i : Nat, i ≤ 4 ∧ n = i ∧ Ext s4 t ∧ ∃ es, Els s4.size t x l c es ∧ es.map (·.2.2) = (List.range i).map (loose L m p)) (fun _ _ _ n _ => (4 - n).toNat) none 0 0 0 s4 ⟨0, by omega, rfl, Ext.refl _, [], ⟨Fr.nil _ _ _, (fun b hb => by cases hb), by simp⟩, rfl⟩ ?_
  rintro x' l' c' n t ⟨i, hi, rfl, et, es, hes, hmap⟩
  by_cases hi4 : i = 4
  · subst hi4
    have := h t x' l' c' es et hes hmap
    unfold B_law03_LotMore_0 at this ⊢
    refine BR_dec (fun hh => by omega) (fun hh => ?_)
    have hd : decide ((4 : Int) < 4) = false := by decide
    rw [hd] at this
    exact this
  have hi' : i < 4 := by omega
  have hll := hes.len
  have hel : es.length = i := by have := congrArg List.length hmap; simpa using this
  have hwk : IntKind.i64.wrap ((i : Int) + 1) = ((i + 1 : Nat) : Int) := by rw [wrap_i64 (by omega) (by omega)]; rfl
  unfold B_law03_LotMore_0
  refine BR_dec (fun _ => ?_) (fun hh => by omega)
  refine ⟨_, _, _, c0 t et, _, c1 t et, ?_⟩
  refine lots_new rfl fun t1 e1 z1 o0 o1 => ?_
  refine NEW_rule fun t2 e2 z2 n2 _ => ?_
  have et2 := et.trans (e1.trans e2)
  refine ⟨_, _, _, c0 t2 et2, ?_⟩
  refine men_copy (s0 := t1) (hmen.ext et2) rfl (by have : L.men.length = L.n := rfl; omega) e2 (Nat.le_refl _) (by omega) fun t3 y cy e3 k3 f3 => ?_
  have e03 : Ext t t3 := e1.trans e3
  have et3 : Ext s4 t3 := et.trans e03
  have o0' := e3.own o0
  have o1' := e3.own o1
  have hLn : L.n = L.men.length := rfl
  refine WR_own o0' rfl ?_
  show (BR ((i : Int) == 0) _ _ : Hp → Prop) (setC t3 (Addr.add ⟨t.size, 0, none⟩ 0) (.slice y L.men.length cy))
  have q0 : Own (setC t3 (Addr.add ⟨t.size, 0, none⟩ 0) (.slice y L.men.length cy)) (Addr.add ⟨t.size, 0, none⟩ 0) (.slice y L.men.length cy) := own_set o0'
  have q1 : Own (setC t3 (Addr.add ⟨t.size, 0, none⟩ 0) (.slice y L.men.length cy)) (Addr.add ⟨t.size, 0, none⟩ 1) (.int .i64 L.worst) := own_set_ne (.inr (by simp [add_off])) o1'
  have hyb : ∀ a, y = some a → t1.size ≤ a.block := f3.fr
  have hylt : ∀ a, y = some a → a.block < t3.size := fun a ha => by
    subst ha
    have hpos : 0 < (mvals L.men).length := by rw [mvals_len]; omega
    exact (f3.buf.at hpos).lt
  have k4 : Kp (· = t.size) t3 (setC t3 (Addr.add ⟨t.size, 0, none⟩ 0) (.slice y L.men.length cy)) := Kp.setC (Kp.refl _) (.inl rfl)
  have ex4 : Ext t (setC t3 (Addr.add ⟨t.size, 0, none⟩ 0) (.slice y L.men.length cy)) := Ext.setC e03 (Nat.le_refl _)
  have f4 : Fr t1.size (setC t3 (Addr.add ⟨t.size, 0, none⟩ 0) (.slice y L.men.length cy)) y L.men.length cy 3 (mvals L.men) := f3.kp k4 (fun a ha hh => by have := hyb a ha; omega)
  have z4 : (setC t3 (Addr.add ⟨t.size, 0, none⟩ 0) (.slice y L.men.length cy)).size = t3.size := setC_size _ _ _
  generalize setC t3 (Addr.add ⟨t.size, 0, none⟩ 0) (.slice y L.men.length cy) = t4 at q0 q1 ex4 f4 z4 ⊢
  -- the rest of the round
  have j1 : ∀ (t5 : Hp) (M : Lts), M = loose L m p i → Ext t t5 → t4.size ≤ t5.size → Own t5 (Addr.add ⟨t.size, 0, none⟩ 0) (.slice y L.men.length cy) → Own t5 (Addr.add ⟨t.size, 0, none⟩ 1) (.int .i64 M.worst) → MenAt t5 y M.men →
      J_law03_LotMore_1 W R t.size x' l' c' ⟨B0, 0, none⟩ L.n m p yk lk ck (fun vs => N_law03_LotMore_0 (fun x l c n t => ∃ i : Nat, i ≤ 4 ∧ n = i ∧ Ext s4 t ∧ ∃ es, Els s4.size t x l c es ∧ es.map (·.2.2) = (List.range i).map (loose L m p)) (fun _ _ _ n _ => (4 - n).toNat) x' l' c' i t vs) i t5 := by
    intro t5 M hM e5 z5 p0 p1 hmM
    unfold J_law03_LotMore_1
    refine ⟨_, _, _, p0.cell, _, p1.cell, ?_⟩
    refine NEW_rule fun t6 e6 z6 n6 _ => ?_
    have hMn : M.n = L.men.length := by rw [hM]; exact loose_n L m p i
    have hes6 := (hes.ext e5).ext e6
    refine APP_fr (ws := lvals [(y, cy, M)]) hes6.fr (Nat.le_trans et.1 (Nat.le_trans e5.1 e6.1)) ?_ rfl zc_24 rfl (by omega) (lvals_one _) (by omega) ?_
    · intro j hj
      refine ⟨_, rfl, ?_⟩
      match j, hj with
      | 0, _ => show cellAt t6 _ = some (.slice y M.n cy); rw [hMn]; exact (n6 0 _ rfl).cell
      | 1, _ => exact (n6 1 _ rfl).cell
    · intro t7 x7 c7 k7 g7 f7
      have e56 := e5.trans e6
      have k7' : Kp (fun b => s4.size ≤ b) t6 t7 := k7.mono fun b ⟨a, h1, h2⟩ => by rw [← h2]; exact hes6.fr.fr a h1
      have e46 := et.trans e56
      have e47 : Ext s4 t7 := ⟨Nat.le_trans e46.1 k7'.1, fun q hq => (k7'.2 q (Nat.lt_of_lt_of_le hq e46.1) (by omega)).trans (e46.2 q hq)⟩
      refine ⟨rfl, _, _, _, _, rfl, ⟨i + 1, by omega, hwk, e47, es ++ [(y, cy, M)], ⟨by rw [lvals_app]; exact f7, ?_, ?_⟩, ?_⟩, ?_⟩
      · intro b hb
        subst hb
        have hpos : 0 < (lvals es ++ lvals [(y, cy, M)]).length := by rw [List.length_append, lvals_len, lvals_len]; simp
        exact (f7.buf.at hpos).lt
      · intro e he
        have ht6 : t6.size ≤ t7.size := k7.1
        rcases List.mem_append.1 he with he | he
        · obtain ⟨h1, h2⟩ := hes6.at' e he
          refine ⟨h1.keep k7 (fun a ha ⟨b, hb, hab⟩ => (h2 a ha).2 b hb hab.symm), fun a ha => ⟨Nat.lt_of_lt_of_le (h2 a ha).1 ht6, fun b hb => ?_⟩⟩
          rcases g7 b hb with ⟨b', h3, h4⟩ | h3
          · rw [← h4]; exact (h2 a ha).2 b' h3
          · have := (h2 a ha).1; omega
        · simp only [List.mem_singleton] at he
          subst he
          have hz1 : t.size < t1.size := by omega
          have hz5 : t4.size ≤ t5.size := z5
          have hxlt : ∀ b, x' = some b → b.block < t.size := hes.lt
          have hne : ∀ a, y = some a → ∀ b, x' = some b → a.block ≠ b.block := fun a ha b hb => by have := hyb a ha; have := hxlt b hb; omega
          refine ⟨(hmM.ext e6).keep k7 (fun a ha ⟨b, hb, hab⟩ => hne a ha b hb hab.symm), fun a ha => ?_⟩
          have h3 := hylt a ha
          have h4 : t5.size ≤ t6.size := e6.1
          refine ⟨by omega, fun b hb => ?_⟩
          rcases g7 b hb with ⟨b', h5, h6⟩ | h5
          · rw [← h6]; exact hne a ha b' h5
          · omega
      · rw [List.map_append, hmap, List.range_succ, List.map_append]
        show _ ++ [M] = _ ++ [loose L m p i]
        rw [hM]
      · show (4 - IntKind.i64.wrap ((i : Int) + 1)).toNat < (4 - (i : Int)).toNat
        rw [hwk]; omega
  obtain ⟨a, ha⟩ : ∃ a, y = some a := by
    have hpos : 0 < L.men.length * 3 := by omega
    obtain ⟨a, h1, _⟩ := f4.buf.own 0 (Nat.lt_of_lt_of_le hpos (by have := f4.buf.le; rw [mvals_len] at this; exact this))
    exact ⟨a, h1⟩
  subst ha
  have hab := hyb a rfl
  have tm : ((m : Int)).toNat = m := by omega
  have hman : man L m = L.men[m] := man_get' L (m := m) hmml
  have l0 : m * 3 < (mvals L.men).length := by rw [mvals_len]; omega
  have l1 : m * 3 + 1 < (mvals L.men).length := by rw [mvals_len]; omega
  have l2 : m * 3 + 2 < (mvals L.men).length := by rw [mvals_len]; omega
  have wr : ∀ (j : Nat) (v : Value) (ms : List Man) (t5 : Hp), t5 = setC t4 (a.add (m * 3 + j)) v → m * 3 + j < (mvals L.men).length → (mvals L.men).set (m * 3 + j) v = mvals ms →
      Ext t t5 ∧ t4.size ≤ t5.size ∧ Own t5 (Addr.add ⟨t.size, 0, none⟩ 0) (.slice (some a) L.men.length cy) ∧ Own t5 (Addr.add ⟨t.size, 0, none⟩ 1) (.int .i64 L.worst) ∧ MenAt t5 (some a) ms := by
    rintro j v ms t5 rfl hj hset
    have b5 := f4.buf.set (v := v) hj
    rw [hset] at b5
    have hne : ∀ k, (Addr.add ⟨t.size, 0, none⟩ k).block ≠ (a.add (m * 3 + j)).block := fun k => by rw [add_block, add_blk]; show t.size ≠ a.block; omega
    exact ⟨Ext.setC ex4 (by rw [add_blk]; omega), by rw [setC_size]; exact Nat.le_refl _, own_set_ne (.inl (hne 0)) q0, own_set_ne (.inl (hne 1)) q1, men_of_row b5.row⟩
  refine BR_eq (fun hi0 => ?_) (fun hi0 => ?_)
  · have : i = 0 := by omega
    subst this
    refine ⟨_, _, _, q0.cell, a, rfl, ⟨by omega, by omega⟩, ?_⟩
    rw [tm]
    refine WR_own (f4.buf.at l0) rfl ?_
    obtain ⟨w1, w2, w3, w4, w5⟩ := wr 0 (.int .i64 0) _ _ rfl l0 (mvals_set0 L.men m hmml 0)
    refine j1 _ (loose L m p 0) rfl w1 w2 w3 w4 ?_
    show MenAt _ _ (L.men.set m { man L m with club := 0 })
    rw [hman]; exact w5
  refine BR_eq (fun hi1 => ?_) (fun hi1 => ?_)
  · have : i = 1 := by omega
    subst this
    refine ⟨_, _, _, q0.cell, a, rfl, ⟨by omega, by omega⟩, ?_⟩
    rw [tm]
    have hat := f4.buf.at l1
    rw [← addr_add] at hat
    refine WR_own hat rfl ?_
    obtain ⟨w1, w2, w3, w4, w5⟩ := wr 1 (.bool false) _ (setC t4 ((a.add (m * 3)).add 1) (.bool false)) (by rw [addr_add]) l1 (mvals_set1 L.men m hmml false)
    refine j1 _ (loose L m p 1) rfl w1 w2 w3 w4 ?_
    show MenAt _ _ (L.men.set m { man L m with left := false })
    rw [hman]; exact w5
  refine BR_eq (fun hi2 => ?_) (fun hi2 => ?_)
  · have : i = 2 := by omega
    subst this
    refine ⟨_, _, _, q0.cell, a, rfl, ⟨by omega, by omega⟩, ?_⟩
    rw [tm]
    have hat := f4.buf.at l2
    rw [← addr_add] at hat
    refine WR_own hat rfl ?_
    obtain ⟨w1, w2, w3, w4, w5⟩ := wr 2 (.bool false) _ (setC t4 ((a.add (m * 3)).add 2) (.bool false)) (by rw [addr_add]) l2 (mvals_set2 L.men m hmml false)
    refine j1 _ (loose L m p 2) rfl w1 w2 w3 w4 ?_
    show MenAt _ _ (L.men.set m { man L m with nov := false })
    rw [hman]; exact w5
  · have : i = 3 := by omega
    subst this
    refine ⟨_, q1.cell, NNI_nat ?_⟩
    refine WR_own q1 rfl ?_
    have hw : L.worst = (L.worst.toNat : Int) := (Int.toNat_of_nonneg v.w0).symm
    have hnb : andnv .i64 L.worst (shlv .i64 1 (p : Int)) = ((noBit L.worst.toNat p : Nat) : Int) := by
      have := andn_bit L.worst.toNat (by omega) p (by omega)
      rw [← hw] at this; exact this
    rw [hnb]
    refine j1 _ (loose L m p 3) rfl (Ext.setC ex4 (by rw [add_block]; exact Nat.le_refl _)) (by rw [setC_size]; exact Nat.le_refl _) (own_set_ne (.inr (by simp [add_off])) q0) (own_set q1) ?_
    exact (men_of_row f4.row).keep (Kp.setC (C := (· = t.size)) (Kp.refl _) (.inl rfl)) (fun a' ha' hh => by cases ha'; omega)
end
end Go.Proofs.Ytocnkdkgajdejaa.G

/- The statement LotMore: with a rule less; counted from the other end. -/
set_option linter.unusedSimpArgs false
set_option linter.unusedVariables false
set_option maxRecDepth 20000
namespace Go.Proofs.Ytocnkdkgajdejaa.G
open Go.V Go.Lot
section
variable {W : World} {K : VK} {E : List PanicEntry → Hp → Prop} {s : Hp} {L : Lts}
theorem c_CountV {x : Option Addr} {c l : Nat} {w : Int} {M : Lts} (hm : MenAt s x M.men) (hv : valid M = true) (hl : l = M.n) (hw : w = M.worst) (h : ∀ s', Ext s s' → K (.tuple #[.int .i64 (cntAll M anyC : Nat), .int .i64 0]) s') :
    CALL Pg W F_lot_Count [.agg #[.slice x l c, .int .i64 w]] K E s := by
  subst hl; subst hw
  refine c_Count hm fun s' e => ?_
  have hcp : countP M = (((cntAll M anyC : Nat) : Int), 0) := by unfold countP; rw [hv]; rfl
  rw [hcp]; exact h s' e
theorem c_LeastV {x : Option Addr} {c l : Nat} {w : Int} {M : Lts} (hm : MenAt s x M.men) (hv : valid M = true) (hl : l = M.n) (hw : w = M.worst) (h : ∀ s' y ll cc, Ext s s' → K (.tuple #[.int .i64 (fewA M : Nat), .slice y ll cc, .int .i64 0]) s') :
    CALL Pg W F_lot_Least [.agg #[.slice x l c, .int .i64 w]] K E s := by
  subst hl; subst hw
  refine c_Least hm (fun s' v e _ ho => ?_) (fun s' e hv' => by rw [hv] at hv'; cases hv')
  obtain ⟨y, cc, rfl, _⟩ := ho
  exact h s' y _ cc e
theorem c_CanV {x : Option Addr} {c l m : Nat} {w : Int} {M : Lts} (hm : MenAt s x M.men) (hv : valid M = true) (hl : l = M.n) (hw : w = M.worst) (hmm : m < M.n) (h : ∀ s', Ext s s' → K (.tuple #[.int .i64 (canSet M m M.n : Nat), .int .i64 0]) s') :
    CALL Pg W F_lot_Can [.agg #[.slice x l c, .int .i64 w], .int .i64 m] K E s := by
  subst hl; subst hw
  refine c_Can hm fun s' e => ?_
  have hcan : canP M (m : Nat) = (((canSet M m M.n : Nat) : Int), 0) := by
    unfold canP; rw [hv, if_pos rfl, if_pos (by omega)]; rfl
  rw [hcan]; exact h s' e
theorem c_OftenV {x : Option Addr} {c l m p : Nat} {w : Int} {M : Lts} (hm : MenAt s x M.men) (hv : valid M = true) (hl : l = M.n) (hw : w = M.worst) (hmm : m < M.n) (hp : p < M.n) (h : ∀ s', Ext s s' → K (.tuple #[.int .i64 (ofN M m p : Nat), .int .i64 0]) s') :
    CALL Pg W F_lot_Often [.agg #[.slice x l c, .int .i64 w], .int .i64 m, .int .i64 p] K E s := by
  subst hl; subst hw
  refine c_Often hm fun s' e => ?_
  rw [oftenP_ok hv hmm hp]; exact h s' e

/-- Counted from the other end. -/
theorem more_rev {s1 t0 : Hp} {x yk : Option Addr} {c B0 ck m p : Nat} {b1 : Bool} {R : Ending → Hp → Prop} (hv : valid L = true) (hm : m < L.n) (hp : p < L.n) (c0 : ∀ t, Ext s1 t → cellAt t ((⟨B0, 0, none⟩ : Addr).add 0) = some (.slice x L.n c)) (c1 : ∀ t, Ext s1 t → cellAt t ((⟨B0, 0, none⟩ : Addr).add 1) = some (.int .i64 L.worst)) (hmen : ∀ t, Ext s1 t → MenAt t x L.men) (hk : MenAt t0 yk L.men)
    (e0 : Ext s1 t0) (aw : ∀ t, Ext s1 t → CALL Pg W F_law03_awake [] (fun v16 => TYB v16 fun b18 => R (.returned (.bool b18))) (fun c17 => R (.panicked c17)) t) {B : Nat} (hB : s1.size ≤ B) (q0 : Own t0 ((⟨B, 0, none⟩ : Addr).add 0) (.slice x L.n c)) (q1 : Own t0 ((⟨B, 0, none⟩ : Addr).add 1) (.int .i64 0)) (hkB : ∀ a, yk = some a → a.block ≠ B) :
    L_law03_LotMore_2 W R ⟨B0, 0, none⟩ b1 L.n m p yk L.n ck (cntAll L anyC : Nat) (fewA L : Nat) ⟨B, 0, none⟩ 0 t0 := by
  have v := vd_iff.1 hv
  have hn8 := v.hi
  have hlo := v.lo
  have hw8 := v.w8
  have hw0 := v.w0
  have hw : L.worst = (L.worst.toNat : Int) := (Int.toNat_of_nonneg v.w0).symm
  refine L_law03_LotMore_2_rule W R ⟨B0, 0, none⟩ b1 L.n m p yk L.n ck _ _ ⟨B, 0, none⟩ (fun n t => ∃ k : Nat, k ≤ L.n ∧ n = k ∧ Kp (· = B) t0 t ∧ Own t ((⟨B, 0, none⟩ : Addr).add 0) (.slice x L.n c) ∧ Own t ((⟨B, 0, none⟩ : Addr).add 1) (.int .i64 (revW L.n L.worst.toNat k : Nat))) (fun n _ => (L.n - n).toNat) 0 t0 ⟨0, by omega, rfl, Kp.refl _, q0, q1⟩ ?_
  rintro n t ⟨k, hk', rfl, kt, o0, o1⟩
  have et : Ext s1 t := ext_kp e0 kt hB
  unfold B_law03_LotMore_2
  refine BR_dec (fun h1 => ?_) (fun h1 => ?_)
  · have hkn : k < L.n := by omega
    have hwk : IntKind.i64.wrap ((k : Int) + 1) = ((k + 1 : Nat) : Int) := by rw [wrap_i64 (by omega) (by omega)]; rfl
    have hw1 : IntKind.i64.wrap ((L.n : Int) - 1) = ((L.n - 1 : Nat) : Int) := by rw [wrap_i64 (by omega) (by omega)]; omega
    have hw2 : IntKind.i64.wrap (((L.n - 1 : Nat) : Int) - (k : Int)) = ((L.n - 1 - k : Nat) : Int) := by rw [wrap_i64 (by omega) (by omega)]; omega
    refine ⟨_, o1.cell, _, c1 t et, NNI_nat ?_⟩
    rw [hw1, hw2]
    refine NNI_nat ?_
    have hlt : revW L.n L.worst.toNat k < 256 := by
      refine Nat.lt_pow_two_of_testBit (n := 8) _ fun i hi => ?_
      rw [revW_bit L.n _ k i (by omega), decide_eq_false (show ¬ i < L.n by omega)]; rfl
    have hb2 : L.worst.toNat >>> k &&& 1 < 2 := by rw [Nat.and_one_is_mod]; omega
    have hval : orv .i64 (revW L.n L.worst.toNat k : Nat) (shlv .i64 (andv .i64 (shrv .i64 L.worst (k : Int)) 1) ((L.n - 1 - k : Nat) : Int)) = ((revW L.n L.worst.toNat (k + 1) : Nat) : Int) := by
      have h1 := bit_of L.worst.toNat (by omega) k (by omega)
      rw [← hw] at h1
      rw [h1, or_bit _ hlt (L.n - 1 - k) (by omega) _ hb2]; rfl
    rw [hval]
    refine WR_own o1 rfl ⟨rfl, _, rfl, ⟨k + 1, by omega, hwk, Kp.setC kt (.inl (by rw [add_block, add_block])), own_set_ne (.inr (by simp [add_off])) o0, own_set o1⟩, ?_⟩
    show ((L.n : Int) - IntKind.i64.wrap ((k : Int) + 1)).toNat < ((L.n : Int) - k).toNat
    rw [hwk]; omega
  · have hkn : k = L.n := by omega
    subst hkn
    have hrv := rev_valid hv
    have cr : ∀ t', Ext t t' → cellAt t' ((⟨B, 0, none⟩ : Addr).add 0) = some (.slice x L.n c) ∧ cellAt t' ((⟨B, 0, none⟩ : Addr).add 1) = some (.int .i64 (revW L.n L.worst.toNat L.n : Nat)) := fun t' e => ⟨e.cell o0.cell, e.cell o1.cell⟩
    refine ⟨_, _, _, o0.cell, _, o1.cell, ?_⟩
    refine c_CountV (M := revL L) (hmen t et) hrv rfl rfl fun t1 f1 => ?_
    try simp only [TUP_mk, AGG_mk, HD_mk, NL_mk, TYI_mk, TYB_mk, TYP_mk, TYL_mk, TYS_mk, TYM_mk, SO_mk, NX_mk, endK_mk, endK_mk', add_0]
    have g1 := cr t1 f1
    refine ⟨_, _, _, g1.1, _, g1.2, ?_⟩
    refine c_LeastV (M := revL L) (hmen t1 (et.trans f1)) hrv rfl rfl fun t2 yy ll cc f2 => ?_
    try simp only [TUP_mk, AGG_mk, HD_mk, NL_mk, TYI_mk, TYB_mk, TYP_mk, TYL_mk, TYS_mk, TYM_mk, SO_mk, NX_mk, endK_mk, endK_mk', add_0]
    have et2 := et.trans (f1.trans f2)
    refine ⟨_, _, _, c0 t2 et2, _, c1 t2 et2, ?_⟩
    refine c_OftenV (M := L) (hmen t2 et2) hv rfl rfl hm hp fun t3 f3 => ?_
    try simp only [TUP_mk, AGG_mk, HD_mk, NL_mk, TYI_mk, TYB_mk, TYP_mk, TYL_mk, TYS_mk, TYM_mk, SO_mk, NX_mk, endK_mk, endK_mk', add_0]
    have et3 := et2.trans f3
    have g3 := cr t3 (f1.trans (f2.trans f3))
    refine ⟨_, _, _, g3.1, _, g3.2, ?_⟩
    have hw1 : IntKind.i64.wrap ((L.n : Int) - 1) = ((L.n - 1 : Nat) : Int) := by rw [wrap_i64 (by omega) (by omega)]; omega
    have hw2 : IntKind.i64.wrap (((L.n - 1 : Nat) : Int) - (p : Int)) = ((L.n - 1 - p : Nat) : Int) := by rw [wrap_i64 (by omega) (by omega)]; omega
    rw [hw1, hw2]
    refine c_OftenV (M := revL L) (hmen t3 et3) hrv rfl rfl hm (show L.n - 1 - p < (revL L).n by rw [rev_n]; omega) fun t4 f4 => ?_
    try simp only [TUP_mk, AGG_mk, HD_mk, NL_mk, TYI_mk, TYB_mk, TYP_mk, TYL_mk, TYS_mk, TYM_mk, SO_mk, NX_mk, endK_mk, endK_mk', add_0]
    have et4 := et3.trans f4
    rw [rev_cnt hn8, rev_few hn8, rev_of hn8 hp]
    have hk4 : MenAt t4 yk L.men := (hk.keep kt hkB).ext (f1.trans (f2.trans (f3.trans f4)))
    refine L_law03_LotMore_3_rule W R ⟨B0, 0, none⟩ yk L.n ck _ _ _ _ _ _ _ _ _ _ L.n (fun _ n t => Ext t4 t ∧ ∃ k : Nat, k ≤ L.n ∧ n = k) (fun _ n _ => (L.n - n).toNat) b1 0 t4 ⟨Ext.refl _, 0, by omega, rfl⟩ ?_
    rintro bz n t5 ⟨e5, k, hk5, rfl⟩
    have et5 := et4.trans e5
    unfold B_law03_LotMore_3
    refine BR_dec (fun h2 => ?_) (fun h2 => ?_)
    · have hkl : k < L.n := by omega
      have tk : ((k : Int)).toNat = k := by omega
      have hwk : IntKind.i64.wrap ((k : Int) + 1) = ((k + 1 : Nat) : Int) := by rw [wrap_i64 (by omega) (by omega)]; rfl
      obtain ⟨ba, hba, a1, a2, a3⟩ := men_cell (hk4.ext e5) hkl
      obtain ⟨bb, hbb, b1', b2', b3'⟩ := men_cell (hmen t5 et5) hkl
      refine ⟨ba, hba, ⟨by omega, by omega⟩, _, by rw [tk]; exact a1, _, by rw [tk]; exact a2, _, by rw [tk]; exact a3, _, _, _, c0 t5 et5, bb, hbb, ⟨by omega, by omega⟩, _, by rw [tk]; exact b1', _, by rw [tk]; exact b2', _, by rw [tk]; exact b3', ?_⟩
      refine BR_not (fun hh => by simp at hh) (fun _ => ?_)
      refine ⟨rfl, _, _, rfl, ⟨e5, k + 1, by omega, hwk⟩, ?_⟩
      show ((L.n : Int) - IntKind.i64.wrap ((k : Int) + 1)).toNat < ((L.n : Int) - k).toNat
      rw [hwk]; omega
    · refine BR_eq (fun _ => ?_) (fun hh => absurd rfl hh)
      unfold J_law03_LotMore_12
      refine BR_eq (fun _ => ?_) (fun hh => absurd rfl hh)
      unfold J_law03_LotMore_11
      refine BR_eq (fun _ => ?_) (fun hh => absurd rfl hh)
      unfold J_law03_LotMore_10
      refine BR_eq (fun _ => ?_) (fun hh => absurd rfl hh)
      unfold J_law03_LotMore_9
      refine BR_eq (fun _ => ?_) (fun hh => absurd rfl hh)
      refine BR_eq (fun _ => ?_) (fun hh => absurd rfl hh)
      refine BR_eq (fun _ => ?_) (fun hh => absurd rfl hh)
      exact aw t5 et5

theorem w_LotMore {x : Option Addr} {c a b : Nat} (hm : MenAt s x L.men) (ha : a ≤ 255) (hb : b ≤ 255) (h : ∀ s', Ext s s' → K (.bool true) s') :
    CALL Pg W F_law03_LotMore [.agg #[.slice x L.n c, .int .i64 L.worst], .int .u8 a, .int .u8 b] K E s := by
  refine does_law03_LotMore W x L.n c L.worst a b _ s ?_
  unfold T_law03_LotMore
  refine NEW_rule fun s1 e1 z1 n1 _ => ?_
  have c0 := (n1 0 _ rfl).cell
  have c1 := (n1 1 _ rfl).cell
  have aw : ∀ t, Ext s1 t → CALL Pg W F_law03_awake [] (fun v16 => TYB v16 fun b18 => (endK K E) (.returned (.bool b18))) (fun c17 => (endK K E) (.panicked c17)) t := fun t et => c_awake fun t' et' => h t' (e1.trans (et.trans et'))
  refine ⟨_, _, _, c0, _, c1, ?_⟩
  refine c_far (n := 8) (hm.ext e1) fun s2 bb e2 hb1 hb2 => ?_
  try simp only [TUP_mk, AGG_mk, HD_mk, NL_mk, TYI_mk, TYB_mk, TYP_mk, TYL_mk, TYS_mk, TYM_mk, SO_mk, NX_mk, endK_mk, endK_mk', add_0]
  unfold J_law03_LotMore_0
  refine BR_bool (fun hbb => aw s2 e2) (fun hbb => ?_)
  obtain ⟨hn30, _, hn8'⟩ := hb2 hbb
  refine ⟨_, _, _, e2.cell c0, _, e2.cell c1, ?_⟩
  have e02 := e1.trans e2
  refine f_Lots (hm.ext e02) (by omega) fun s3 e3 => ?_
  try simp only [TUP_mk, AGG_mk, HD_mk, NL_mk, TYI_mk, TYB_mk, TYP_mk, TYL_mk, TYS_mk, TYM_mk, SO_mk, NX_mk, endK_mk, endK_mk', add_0]
  have e13 := e2.trans e3
  have e03 := e1.trans e13
  refine BR_not (fun hv => aw s3 e13) (fun hv => ?_)
  have v := vd_iff.1 hv
  have hn8 := v.hi
  have hlo := v.lo
  refine ⟨_, _, _, e13.cell c0, NZI_pos (by omega) (NZI_pos (by omega) ?_)⟩
  have hwa : IntKind.wrap .i64 (a : Int) = (a : Int) := wrap_i64 (by omega) (by omega)
  have hwb : IntKind.wrap .i64 (b : Int) = (b : Int) := wrap_i64 (by omega) (by omega)
  rw [hwa, hwb, mod_nat, mod_nat]
  have hml : a % L.n < L.n := Nat.mod_lt _ (by omega)
  have hpl : b % L.n < L.n := Nat.mod_lt _ (by omega)
  generalize a % L.n = m at *
  generalize b % L.n = p at *
  refine NEW_rule fun s4 e4 z4 n4 _ => ?_
  have e14 := e13.trans e4
  refine ⟨_, _, _, e14.cell c0, ?_⟩
  refine men_copy (s0 := s3) (hm.ext (e1.trans e14)) rfl (by have : L.men.length = L.n := rfl; omega) e4 (Nat.le_refl _) (by omega) fun s5 yk ck e5 k5 f5 => ?_
  have e15 := e13.trans e5
  have hLn : L.men.length = L.n := rfl
  rw [hLn] at f5 ⊢
  have hk5 : MenAt s5 yk L.men := men_of_row f5.row
  refine more_one (s4 := s5) hv hml hpl (fun t e => (e15.trans e).cell c0) (fun t e => (e15.trans e).cell c1) (hm.ext (e1.trans e15)) fun t x' l' c' es et hes hmap => ?_
  have et1 : Ext s1 t := e15.trans et
  have hel : es.length = 4 := by have := congrArg List.length hmap; simpa using this
  have hlen := hes.len
  unfold B_law03_LotMore_0
  refine BR_dec (fun hh => absurd hh (by decide)) (fun _ => ?_)
  refine ⟨_, _, _, et1.cell c0, _, et1.cell c1, ?_⟩
  refine c_CountV (M := L) (hm.ext (e1.trans et1)) hv rfl rfl fun t1 f1 => ?_
  try simp only [TUP_mk, AGG_mk, HD_mk, NL_mk, TYI_mk, TYB_mk, TYP_mk, TYL_mk, TYS_mk, TYM_mk, SO_mk, NX_mk, endK_mk, endK_mk', add_0]
  have et2 := et1.trans f1
  refine ⟨_, _, _, et2.cell c0, _, et2.cell c1, ?_⟩
  refine c_LeastV (M := L) (hm.ext (e1.trans et2)) hv rfl rfl fun t2 yy ll cc f2 => ?_
  try simp only [TUP_mk, AGG_mk, HD_mk, NL_mk, TYI_mk, TYB_mk, TYP_mk, TYL_mk, TYS_mk, TYM_mk, SO_mk, NX_mk, endK_mk, endK_mk', add_0]
  have et3 := et2.trans f2
  refine ⟨_, _, _, et3.cell c0, _, et3.cell c1, ?_⟩
  refine c_CanV (M := L) (hm.ext (e1.trans et3)) hv rfl rfl hml fun t3 f3 => ?_
  try simp only [TUP_mk, AGG_mk, HD_mk, NL_mk, TYI_mk, TYB_mk, TYP_mk, TYL_mk, TYS_mk, TYM_mk, SO_mk, NX_mk, endK_mk, endK_mk', add_0]
  have et4 := et3.trans f3
  refine BR_ne (fun hh => absurd rfl hh) (fun _ => ?_)
  unfold J_law03_LotMore_3
  refine BR_ne (fun hh => absurd rfl hh) (fun _ => ?_)
  unfold J_law03_LotMore_2
  refine BR_ne (fun hh => absurd rfl hh) (fun _ => ?_)
  have hes3 := hes.ext (f1.trans (f2.trans f3))
  have et5 := et.trans (f1.trans (f2.trans f3))
  refine L_law03_LotMore_1_rule W _ ⟨s.size, 0, none⟩ L.n m p yk L.n ck _ _ _ x' l' c' l' (fun _ n t => Ext t3 t ∧ ∃ k : Nat, k ≤ 4 ∧ n = k) (fun _ n _ => (4 - n).toNat) false 0 t3 ⟨Ext.refl _, 0, by omega, rfl⟩ ?_
  rintro bz n t4 ⟨e4', k, hk4, rfl⟩
  have et6 := et4.trans e4'
  have hes4 := hes3.ext e4'
  unfold B_law03_LotMore_1
  refine BR_dec (fun h1 => ?_) (fun h1 => ?_)
  · have hk' : k < 4 := by omega
    have hke : k < es.length := by omega
    have tk : ((k : Int)).toNat = k := by omega
    have hwk : IntKind.i64.wrap ((k : Int) + 1) = ((k + 1 : Nat) : Int) := by rw [wrap_i64 (by omega) (by omega)]; rfl
    obtain ⟨pp, hpp, g0, g1⟩ := row_el hes4.fr.row hke
    have hM : es[k].2.2 = loose L m p k := by
      have h2 : (es.map (·.2.2))[k]? = ((List.range 4).map (loose L m p))[k]? := by rw [hmap]
      rw [List.getElem?_map, List.getElem?_map, List.getElem?_eq_getElem hke, List.getElem?_eq_getElem (by simpa using hk')] at h2
      simpa using h2
    have hmen := (hes4.at' es[k] (List.getElem_mem _)).1
    have hMv := loose_valid hv hml k (p := p)
    have hMl := loose_ok hv hml hpl k
    have hMn := loose_n L m p k
    rw [hM] at hmen g0 g1
    generalize loose L m p k = M at *
    generalize es[k].1 = ym at *
    generalize es[k].2.1 = cm at *
    refine ⟨pp, hpp, ⟨by omega, by omega⟩, _, _, _, by rw [tk]; exact g0, _, by rw [tk]; exact g1, ?_⟩
    refine lots_new rfl fun t5 e5' z5 o0 o1 => ?_
    have et7 := et6.trans e5'
    refine ⟨_, _, _, o0.cell, _, o1.cell, ?_⟩
    refine c_CountV (M := M) (hmen.ext e5') hMv rfl rfl fun t6 e6 => ?_
    try simp only [TUP_mk, AGG_mk, HD_mk, NL_mk, TYI_mk, TYB_mk, TYP_mk, TYL_mk, TYS_mk, TYM_mk, SO_mk, NX_mk, endK_mk, endK_mk', add_0]
    refine ⟨_, _, _, e6.cell o0.cell, _, e6.cell o1.cell, ?_⟩
    refine c_LeastV (M := M) (hmen.ext (e5'.trans e6)) hMv rfl rfl fun t7 y7 l7 c7 e7 => ?_
    try simp only [TUP_mk, AGG_mk, HD_mk, NL_mk, TYI_mk, TYB_mk, TYP_mk, TYL_mk, TYS_mk, TYM_mk, SO_mk, NX_mk, endK_mk, endK_mk', add_0]
    have e67 := e6.trans e7
    refine ⟨_, _, _, e67.cell o0.cell, _, e67.cell o1.cell, ?_⟩
    refine c_CanV (M := M) (hmen.ext (e5'.trans e67)) hMv rfl rfl (by rw [hMn]; exact hml) fun t8 e8 => ?_
    try simp only [TUP_mk, AGG_mk, HD_mk, NL_mk, TYI_mk, TYB_mk, TYP_mk, TYL_mk, TYS_mk, TYM_mk, SO_mk, NX_mk, endK_mk, endK_mk', add_0]
    have g1' := looser_cnt hn8 hMl
    have g2' := looser_few hn8 hMl
    have g3' := andn_zero (a := canSet L m L.n) (b := canSet M m M.n) (fun i hi => looser_can hn8 hMl m hi)
    refine BR_ne (fun hh => absurd rfl hh) (fun _ => ?_)
    unfold J_law03_LotMore_8
    refine BR_ne (fun hh => absurd rfl hh) (fun _ => ?_)
    unfold J_law03_LotMore_7
    refine BR_ne (fun hh => absurd rfl hh) (fun _ => ?_)
    unfold J_law03_LotMore_6
    refine BR_dec (fun hh => by omega) (fun _ => ?_)
    unfold J_law03_LotMore_5
    refine BR_dec (fun hh => by omega) (fun _ => ?_)
    unfold J_law03_LotMore_4
    refine BR_ne (fun hh => absurd g3' hh) (fun _ => ?_)
    refine ⟨rfl, _, _, rfl, ⟨e4'.trans (e5'.trans (e67.trans e8)), k + 1, by omega, hwk⟩, ?_⟩
    show (4 - IntKind.i64.wrap ((k : Int) + 1)).toNat < (4 - (k : Int)).toNat
    rw [hwk]; omega
  · refine ⟨_, _, _, et6.cell c0, _, et6.cell c1, ?_⟩
    refine lots_new rfl fun t5 e5' z5 o0 o1 => ?_
    have et7 := et6.trans e5'
    refine WR_own o1 rfl ?_
    have ky : ∀ a, yk = some a → a.block < s5.size := fun a ha => by
      subst ha
      have hpos : 0 < (mvals L.men).length := by rw [mvals_len]; omega
      exact (f5.buf.at hpos).lt
    have e57 : Ext s5 t4 := et5.trans e4'
    have hsz := e57.1
    refine more_rev (s1 := s1) (x := x) (c := c) hv hml hpl (fun t e => e.cell c0) (fun t e => e.cell c1) (fun t e => hm.ext (e1.trans e)) ?_ ?_ (fun t et => aw t et) (B := t4.size) et6.1 (own_set_ne (.inr (by simp [add_off])) o0) (own_set o1) (fun a ha => by have := ky a ha; omega)
    · exact (hk5.ext (e57.trans e5')).keep (Kp.setC (C := (· = t4.size)) (Kp.refl _) (.inl rfl)) (fun a ha hh => by have := ky a ha; omega)
    · exact Ext.setC et7 (by rw [add_block, add_block]; exact et6.1)
end
end Go.Proofs.Ytocnkdkgajdejaa.G

/- LotMore, from any arguments. -/
namespace Go.Proofs.Ytocnkdkgajdejaa.G
open Go.V Go.Lot
theorem v_LotMore {W : World} {s : Hp} {v0 v1 v2 : Value} (k0 : RdV Pg s 24 v0) (k1 : RdV Pg s 5 v1) (k2 : RdV Pg s 5 v2) : CALL Pg W F_law03_LotMore [v0, v1, v2] (fun v s' => v = .bool true ∧ Ext s s') (fun _ _ => False) s := by
  obtain ⟨x, c, L, rfl, hm, _⟩ := lots_rd k0
  obtain ⟨a, rfl, a0, a1⟩ := u8_rd k1
  obtain ⟨b, rfl, b0, b1⟩ := u8_rd k2
  obtain ⟨a', rfl⟩ := Int.eq_ofNat_of_zero_le a0
  obtain ⟨b', rfl⟩ := Int.eq_ofNat_of_zero_le b0
  exact w_LotMore hm (by omega) (by omega) fun s' e => ⟨rfl, e⟩
end Go.Proofs.Ytocnkdkgajdejaa.G

/- The row of the statement LotMore. -/
namespace Go.Proofs.Ytocnkdkgajdejaa.lotMore
open Go.ChangeShapes Go.WideShapes Go.ChangeAt Go.RowKit Go.V
set_option linter.unusedVariables false
theorem own : ownKnob Try.prog.godebug = none := by kernel_rfl
theorem laidOut : laidOutB Try.prog = true := by kernel_rfl
set_option maxRecDepth 100000 in
theorem lifted (os : Os) (started : os.Started) (H : Type) (enc : TypeId × Value → H) :
    ReturnsInHanded {} Try.checked os 11 .any (Rows.lotMoreSpec.pre6 enc Try.prog Try.f11 Rows.lotMoreRow.domain false) (Rows.lotMoreSpec.post enc Try.prog Try.f11 false true false false) := by
  refine returnsInHanded_of_change_sized (C := Try.checked) own started (by kernel_rfl) Try.func11
    (ChangeSpec.witness6 (enc := enc) (C := Try.checked) false ⟨#[], #[(.agg #[(.slice none 0 0), (.int .i64 0)]), (.int .u8 0), (.int .u8 0)], []⟩ 8 (by kernel_rfl) (by kernel_rfl) (by kernel_rfl) (by kernel_rfl)) ?_
  intro W base args ds gs before hval0 hW hcnd hsz0 _
  have hsz : (DataW.weightsEach Try.prog (Try.f11.params.toList ++ Rows.lotMoreSpec.plain.varTypes Try.prog) (ds ++ gs)).all (· ≤ reachBytes) = true := hsz0
  have hval : ∀ (j : Nat) t v, Try.f11.params[j]? = some t → args[j]? = some v → Value.okWide Try.prog W .any base t v := hval0
  have hW' := hW
  obtain ⟨p, q, hA0, hV, rfl, hfz, hnd⟩ := hW
  have hA : DataW.TrodAll enc Try.prog W 0 (fun _ => true) true Try.f11.params.toList args.toList ds p := hA0
  rw [Try.params11] at hA hval hsz
  obtain ⟨v0, vs0, d0, ds0, p0, q0, hargs, rfl, rfl, h0, r0⟩ := trodAll_cons hA
  obtain ⟨v1, vs1, d1, ds1, p1, q1, rfl, rfl, rfl, h1, r1⟩ := trodAll_cons r0
  obtain ⟨v2, vs2, d2, ds2, p2, q2, rfl, rfl, rfl, h2, r2⟩ := trodAll_cons r1
  obtain ⟨rfl, rfl, rfl⟩ := trodAll_nil r2
  obtain rfl : args = #[v0, v1, v2] := by cases args; simp_all
  obtain ⟨rfl, rfl⟩ := trodVars_none hV
  have k0 := trod_rdV (hval 0 24 v0 rfl rfl) h0
  have lt0 : ∀ x ∈ p0, x.block < W.heap.size := by obtain ⟨m, hm⟩ := h0; exact DataW.trod_lt m _ _ _ hm
  have k1 := trod_rdV (hval 1 5 v1 rfl rfl) h1
  have lt1 : ∀ x ∈ p1, x.block < W.heap.size := by obtain ⟨m, hm⟩ := h1; exact DataW.trod_lt m _ _ _ hm
  have k2 := trod_rdV (hval 2 5 v2 rfl rfl) h2
  have lt2 : ∀ x ∈ p2, x.block < W.heap.size := by obtain ⟨m, hm⟩ := h2; exact DataW.trod_lt m _ _ _ hm
  refine (calls_of_does (does_of_call (G.v_LotMore (W := W) (s := W.heap) k0 k1 k2))).mono fun e W' ⟨he, bel⟩ => ?_
  subst he
  exact ⟨_, rfl, _, _, _, [], _, [], hW', trodAll_mk1 (shut_bool Try.underlying4 _), (trodAll_cons_mk (Below.trod laidOut (by kernel_rfl) (of_decide_eq_true (by kernel_rfl)) h0 bel lt0) (trodAll_cons_mk (Below.trod laidOut (by kernel_rfl) (of_decide_eq_true (by kernel_rfl)) h1 bel lt1) (trodAll_cons_mk (Below.trod laidOut (by kernel_rfl) (of_decide_eq_true (by kernel_rfl)) h2 bel lt2) trodAll_mk0))), rfl, bel.frame _, fun h => by cases h⟩
theorem over : Rows.lotMoreRow.holds Try.pinned (OpenSpec.ofChange Rows.lotMoreSpec) :=
  OpenClaim.holds_of_wide 11 Try.f11 rfl rfl rfl rfl rfl rfl rfl ⟨rfl, rfl, rfl, rfl, rfl⟩ rfl rfl rfl rfl rfl (by kernel_rfl) Try.func11 (by kernel_rfl)
    (of_decide_eq_true (by kernel_rfl)) (by unfold Func.isWrapper; first | (rw [if_pos (by decide +kernel)]; kernel_rfl) | (rw [if_neg (by decide +kernel)]; exact ⟨rfl, rfl⟩))
    (fun os started H enc _ => lifted os started H enc)
theorem proved : Rows.LotMoreSaid := over
end Go.Proofs.Ytocnkdkgajdejaa.lotMore
namespace Go.Proofs.Ytocnkdkgajdejaa
/-- The row, under a short name. -/
theorem lotMore_holds : Rows.LotMoreSaid := lotMore.proved
end Go.Proofs.Ytocnkdkgajdejaa
