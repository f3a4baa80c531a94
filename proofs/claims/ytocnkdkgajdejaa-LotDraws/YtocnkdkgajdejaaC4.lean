import Derived.Test.YtocnkdkgajdejaaC3
/- The statement LotDraws holds of the given program: whatever the lots and the seed, LotDraws returns true and leaves its arguments as they were; no condition. -/
/- More of the functions' shallow texts, by gen.py. -/
set_option linter.unusedVariables false
set_option maxRecDepth 100000
namespace Go.Proofs.Ytocnkdkgajdejaa.G
open Go.V
def an_5 : Nat → Ann := fun b => match b with
  | 0 => { ms := [4, 189], ks := [.b, .i .i64], us := [2, 10, 13, 20, 21, 22, 188, 277], rt := false, ex := [] }
  | _ => {}
abbrev rv_5 : List ResultVar := [.tmp 4]
abbrev rs_5 : List Nat := [277, 4]
def L_law03_LotLawful_0 (W : World) (R : Ending → Hp → Prop) (za0 : Addr) (zp1 : Option Addr) (zl2 : Nat) (zl3 : Nat) (zn4 : Int) (zb5 : Bool) (zb6 : Bool) (zb7 : Bool) (zn8 : Int) (b174 : Bool) (n175 : Int) : Hp → Prop :=
  LOOPN [.b, .i .i64] (fun ys next s => ∀ j : Tm, vc Pg W 277 rs_5 an_5 false (sub (bodyOf Try.f5) [1, 1, 1, 1, 1, 1, 1, 1, 1, 1, 1, 1, 1, 1, 0, 1, 0, 0]) 0 (KLoop [4, 189] [2, 10, 13, 20, 21, 22, 188, 277] [(.pointer (some za0)), (.slice zp1 zl2 zl3), (.int .i64 zn4), (.bool zb5), (.bool zb6), (.bool zb7), (.int .i64 zn8), (.tuple #[])] next (KBlk 0 (KS Pg W 277 rs_5 an_5 false (sub (bodyOf Try.f5) [1, 1, 1, 1, 1, 1, 1, 1, 1, 1, 1, 1, 1, 1, 1]) 0 (fin Pg W 277 rv_5 R)))) (known [4, 189] ys (known [2, 10, 13, 20, 21, 22, 188, 277] [(.pointer (some za0)), (.slice zp1 zl2 zl3), (.int .i64 zn4), (.bool zb5), (.bool zb6), (.bool zb7), (.int .i64 zn8), (.tuple #[])] j)) s) [(.bool b174), (.int .i64 n175)]
def J_law03_LotLawful_0 (W : World) (R : Ending → Hp → Prop) (b119 : Bool) (n98 : Int) (n116 : Int) : Hp → Prop :=
  BR b119
    (BR (decide (n98 ≥ 0))
      (BR (n116 == 0)
        (CALL Pg W F_law03_awake []
          (fun v120 => TYB v120 fun b122 =>
            R (.returned (.bool b122)))
            (fun e121 => R (.panicked e121)))
        (R (.returned (.bool false))))
      (R (.returned (.bool false))))
    (R (.returned (.bool false)))
def J_law03_LotLawful_1 (W : World) (R : Ending → Hp → Prop) (b118 : Bool) (n101 : Int) (n98 : Int) (n116 : Int) : Hp → Prop :=
  BR b118
    (J_law03_LotLawful_0 W R (n101 == 0) n98 n116)
    (J_law03_LotLawful_0 W R false n98 n116)
def J_law03_LotLawful_2 (W : World) (R : Ending → Hp → Prop) (b117 : Bool) (n85 : Int) (n101 : Int) (n98 : Int) (n116 : Int) : Hp → Prop :=
  BR b117
    (J_law03_LotLawful_1 W R (n85 == 0) n101 n98 n116)
    (J_law03_LotLawful_1 W R false n101 n98 n116)
def J_law03_LotLawful_3 (W : World) (R : Ending → Hp → Prop) (B8 : Nat) (x63 : Option Addr) (l64 : Nat) (c65 : Nat) (n85 : Int) (b167 : Bool) (b170 : Bool) (b173 : Bool) (n82 : Int) : Hp → Prop :=
  L_law03_LotLawful_0 W R ⟨B8, 0, none⟩ x63 l64 c65 n85 b167 b170 b173 n82 false 0
def J_law03_LotLawful_4 (W : World) (R : Ending → Hp → Prop) (B138 : Nat) (B8 : Nat) (n82 : Int) (x63 : Option Addr) (l64 : Nat) (c65 : Nat) (n85 : Int) (b167 : Bool) (b170 : Bool) : Hp → Prop :=
  RDB (Addr.add ⟨B138, 0, none⟩ 2) fun b171 =>
    BR b171
      (RDI .i64 (Addr.add ⟨B8, 0, none⟩ 1) fun n172 =>
        NNI n82 <|
          J_law03_LotLawful_3 W R B8 x63 l64 c65 n85 b167 b170 ((andv .i64 (shrv .i64 n172 n82) 1) == 1) n82)
      (J_law03_LotLawful_3 W R B8 x63 l64 c65 n85 b167 b170 false n82)
def J_law03_LotLawful_5 (W : World) (R : Ending → Hp → Prop) (b169 : Bool) (B138 : Nat) (B8 : Nat) (n82 : Int) (x63 : Option Addr) (l64 : Nat) (c65 : Nat) (n85 : Int) (b167 : Bool) : Hp → Prop :=
  BR b169
    (J_law03_LotLawful_4 W R B138 B8 n82 x63 l64 c65 n85 b167 (decide (n82 < (IntKind.wrap .i64 ((↑l64 : Int) - 1)))))
    (J_law03_LotLawful_4 W R B138 B8 n82 x63 l64 c65 n85 b167 false)
def J_law03_LotLawful_6 (W : World) (R : Ending → Hp → Prop) (B138 : Nat) (n82 : Int) (B8 : Nat) (x63 : Option Addr) (l64 : Nat) (c65 : Nat) (n85 : Int) (b167 : Bool) : Hp → Prop :=
  RDB (Addr.add ⟨B138, 0, none⟩ 1) fun b168 =>
    BR b168
      (J_law03_LotLawful_5 W R (decide (n82 > 0)) B138 B8 n82 x63 l64 c65 n85 b167)
      (J_law03_LotLawful_5 W R false B138 B8 n82 x63 l64 c65 n85 b167)
def J_law03_LotLawful_7 (W : World) (R : Ending → Hp → Prop) (b150 : Bool) (B138 : Nat) (B8 : Nat) (x63 : Option Addr) (l64 : Nat) (n82 : Int) (c65 : Nat) (n85 : Int) : Hp → Prop :=
  BR b150
    (RDI .i64 (Addr.add ⟨B138, 0, none⟩ 0) fun n151 =>
      RDL (Addr.add ⟨B8, 0, none⟩ 0) fun x152 l153 c154 =>
        ANDS (RDL (Addr.add ⟨B8, 0, none⟩ 0) fun x158 l159 c160 =>
          fun _ => ((.slice x158 l159 c160) : Value) = (.slice x152 l153 c154)) <|
          ANDS (RDI .i64 (Addr.add ⟨B138, 0, none⟩ 0) fun n162 =>
            fun _ => ((.int .i64 n162) : Value) = (.int .i64 n151)) <|
            IXS x63 l64 (if (IntKind.wrap .i64 (n82 - 1)) > 0 then (IntKind.wrap .i64 (n82 - 1)) else 0) 1 fun a163 =>
              RDI .i64 a163 fun n164 =>
                IXS x152 l153 n164 3 fun a165 =>
                  RDI .i64 (Addr.add a165 0) fun n166 =>
                    J_law03_LotLawful_6 W R B138 n82 B8 x63 l64 c65 n85 (n151 == n166))
    (J_law03_LotLawful_6 W R B138 n82 B8 x63 l64 c65 n85 false)
def J_law03_LotLawful_8 (W : World) (R : Ending → Hp → Prop) (b128 : Bool) (B8 : Nat) (x63 : Option Addr) (l64 : Nat) (n82 : Int) (c65 : Nat) (n85 : Int) : Hp → Prop :=
  BR b128
    (R (.returned (.bool false)))
    (RDL (Addr.add ⟨B8, 0, none⟩ 0) fun x129 l130 c131 =>
      IXS x63 l64 n82 1 fun a132 =>
        RDI .i64 a132 fun n133 =>
          IXS x129 l130 n133 3 fun a134 =>
            RDI .i64 (Addr.add a134 0) fun n135 =>
              RDB (Addr.add a134 1) fun b136 =>
                RDB (Addr.add a134 2) fun b137 =>
                  NEWZ Pg 51 fun B138 =>
                    ANDS (RDI .i64 (Addr.add a134 0) fun n139 =>
                      RDB (Addr.add a134 1) fun b140 =>
                        RDB (Addr.add a134 2) fun b141 =>
                          fun _ => ((.agg #[(.int .i64 n139), (.bool b140), (.bool b141)]) : Value) = (.agg #[(.int .i64 n135), (.bool b136), (.bool b137)])) <|
                      ANDS (RDI .i64 a132 fun n142 =>
                        fun _ => ((.int .i64 n142) : Value) = (.int .i64 n133)) <|
                        ANDS (RDL (Addr.add ⟨B8, 0, none⟩ 0) fun x143 l144 c145 =>
                          fun _ => ((.slice x143 l144 c145) : Value) = (.slice x129 l130 c131)) <|
                          WR (Addr.add ⟨B138, 0, none⟩ 0) (.int .i64 n135) <|
                            WR (Addr.add ⟨B138, 0, none⟩ 1) (.bool b136) <|
                              WR (Addr.add ⟨B138, 0, none⟩ 2) (.bool b137) <|
                                BR (decide (n82 > 0))
                                  (RDI .i64 (Addr.add ⟨B138, 0, none⟩ 0) fun n146 =>
                                    J_law03_LotLawful_7 W R (n146 != 0) B138 B8 x63 l64 n82 c65 n85)
                                  (J_law03_LotLawful_7 W R false B138 B8 x63 l64 n82 c65 n85))
def J_law03_LotLawful_9 (W : World) (R : Ending → Hp → Prop) (b127 : Bool) (B8 : Nat) (x63 : Option Addr) (l64 : Nat) (n82 : Int) (c65 : Nat) (n85 : Int) : Hp → Prop :=
  BR b127
    (J_law03_LotLawful_8 W R true B8 x63 l64 n82 c65 n85)
    (J_law03_LotLawful_8 W R (decide (n82 ≥ (↑l64 : Int))) B8 x63 l64 n82 c65 n85)
def J_law03_LotLawful_10 (W : World) (R : Ending → Hp → Prop) (b126 : Bool) (B8 : Nat) (x63 : Option Addr) (l64 : Nat) (n82 : Int) (c65 : Nat) (n85 : Int) : Hp → Prop :=
  BR b126
    (J_law03_LotLawful_9 W R true B8 x63 l64 n82 c65 n85)
    (J_law03_LotLawful_9 W R (decide (n82 < 0)) B8 x63 l64 n82 c65 n85)
def J_law03_LotLawful_11 (W : World) (R : Ending → Hp → Prop) (b125 : Bool) (B8 : Nat) (x63 : Option Addr) (l64 : Nat) (n82 : Int) (c65 : Nat) (n85 : Int) (l112 : Nat) : Hp → Prop :=
  BR b125
    (J_law03_LotLawful_10 W R true B8 x63 l64 n82 c65 n85)
    (J_law03_LotLawful_10 W R ((↑l112 : Int) != 0) B8 x63 l64 n82 c65 n85)
def J_law03_LotLawful_12 (W : World) (R : Ending → Hp → Prop) (b124 : Bool) (B8 : Nat) (x63 : Option Addr) (l64 : Nat) (n82 : Int) (c65 : Nat) (n85 : Int) (l112 : Nat) (n116 : Int) : Hp → Prop :=
  BR b124
    (J_law03_LotLawful_11 W R true B8 x63 l64 n82 c65 n85 l112)
    (J_law03_LotLawful_11 W R (n116 != 4) B8 x63 l64 n82 c65 n85 l112)
def J_law03_LotLawful_13 (W : World) (R : Ending → Hp → Prop) (b123 : Bool) (B8 : Nat) (x63 : Option Addr) (l64 : Nat) (n82 : Int) (c65 : Nat) (n85 : Int) (l112 : Nat) (n116 : Int) (n98 : Int) : Hp → Prop :=
  BR b123
    (J_law03_LotLawful_12 W R true B8 x63 l64 n82 c65 n85 l112 n116)
    (J_law03_LotLawful_12 W R (n98 != 0) B8 x63 l64 n82 c65 n85 l112 n116)
def J_law03_LotLawful_14 (W : World) (R : Ending → Hp → Prop) (b239 : Bool) (za0 : Addr) (zp1 : Option Addr) (zl2 : Nat) (zl3 : Nat) (zn4 : Int) (zb5 : Bool) (zb6 : Bool) (zb7 : Bool) (zn8 : Int) (nx0 : List Value → Hp → Prop) (b174 : Bool) (n175 : Int) : Hp → Prop :=
  BR b239
    (R (.returned (.bool false)))
    (NX [(.pointer (some za0)), (.slice zp1 zl2 zl3), (.int .i64 zn4), (.bool zb5), (.bool zb6), (.bool zb7), (.int .i64 zn8), (.tuple #[])] [(.pointer (some za0)), (.slice zp1 zl2 zl3), (.int .i64 zn4), (.bool zb5), (.bool zb6), (.bool zb7), (.int .i64 zn8), (.tuple #[])] (nx0 [(.bool b174), (.int .i64 (IntKind.wrap .i64 (n175 + 1)))]))
def J_law03_LotLawful_15 (W : World) (R : Ending → Hp → Prop) (b238 : Bool) (za0 : Addr) (zp1 : Option Addr) (zl2 : Nat) (zl3 : Nat) (zn4 : Int) (zb5 : Bool) (zb6 : Bool) (zb7 : Bool) (zn8 : Int) (nx0 : List Value → Hp → Prop) (b174 : Bool) (n175 : Int) (B185 : Nat) : Hp → Prop :=
  BR b238
    (J_law03_LotLawful_14 W R true za0 zp1 zl2 zl3 zn4 zb5 zb6 zb7 zn8 nx0 b174 n175)
    (RDB (Addr.add ⟨B185, 0, none⟩ 2) fun b240 =>
      BR b240
        (RDI .i64 (Addr.add za0 1) fun n241 =>
          NNI n175 <|
            J_law03_LotLawful_14 W R ((andv .i64 (shrv .i64 n241 n175) 1) == 1) za0 zp1 zl2 zl3 zn4 zb5 zb6 zb7 zn8 nx0 b174 n175)
        (J_law03_LotLawful_14 W R false za0 zp1 zl2 zl3 zn4 zb5 zb6 zb7 zn8 nx0 b174 n175))
def J_law03_LotLawful_16 (W : World) (R : Ending → Hp → Prop) (b220 : Bool) (za0 : Addr) (zp1 : Option Addr) (zl2 : Nat) (zl3 : Nat) (zn4 : Int) (zb5 : Bool) (zb6 : Bool) (zb7 : Bool) (zn8 : Int) (nx0 : List Value → Hp → Prop) (b174 : Bool) (n175 : Int) (B185 : Nat) : Hp → Prop :=
  BR b220
    (J_law03_LotLawful_15 W R true za0 zp1 zl2 zl3 zn4 zb5 zb6 zb7 zn8 nx0 b174 n175 B185)
    (RDB (Addr.add ⟨B185, 0, none⟩ 1) fun b242 =>
      BR b242
        (J_law03_LotLawful_15 W R (decide (n175 > 0)) za0 zp1 zl2 zl3 zn4 zb5 zb6 zb7 zn8 nx0 b174 n175 B185)
        (J_law03_LotLawful_15 W R false za0 zp1 zl2 zl3 zn4 zb5 zb6 zb7 zn8 nx0 b174 n175 B185))
def J_law03_LotLawful_17 (W : World) (R : Ending → Hp → Prop) (b197 : Bool) (B185 : Nat) (za0 : Addr) (zp1 : Option Addr) (zl2 : Nat) (n175 : Int) (zl3 : Nat) (zn4 : Int) (zb5 : Bool) (zb6 : Bool) (zb7 : Bool) (zn8 : Int) (nx0 : List Value → Hp → Prop) (b174 : Bool) : Hp → Prop :=
  BR b197
    (RDI .i64 (Addr.add ⟨B185, 0, none⟩ 0) fun n198 =>
      RDL (Addr.add za0 0) fun x199 l200 c201 =>
        IXS zp1 zl2 (IntKind.wrap .i64 (n175 - 1)) 1 fun a202 =>
          RDI .i64 a202 fun n203 =>
            IXS x199 l200 n203 3 fun a204 =>
              RDI .i64 (Addr.add a204 0) fun n205 =>
                J_law03_LotLawful_16 W R (n198 == n205) za0 zp1 zl2 zl3 zn4 zb5 zb6 zb7 zn8 nx0 b174 n175 B185)
    (J_law03_LotLawful_16 W R false za0 zp1 zl2 zl3 zn4 zb5 zb6 zb7 zn8 nx0 b174 n175 B185)
def J_law03_LotLawful_18 (W : World) (R : Ending → Hp → Prop) (b244 : Bool) (zn4 : Int) (zb5 : Bool) (zb6 : Bool) (zb7 : Bool) : Hp → Prop :=
  BR b244
    (CALL Pg W F_law03_awake []
      (fun v245 => TYB v245 fun b247 =>
        R (.returned (.bool b247)))
        (fun e246 => R (.panicked e246)))
    (BR (zn4 == 3)
      (BR (!zb5)
        (BR (!zb6)
          (BR zb7
            (CALL Pg W F_law03_awake []
              (fun v248 => TYB v248 fun b250 =>
                R (.returned (.bool b250)))
                (fun e249 => R (.panicked e249)))
            (R (.returned (.bool false))))
          (R (.returned (.bool false))))
        (R (.returned (.bool false))))
      (R (.returned (.bool false))))
def J_law03_LotLawful_19 (W : World) (R : Ending → Hp → Prop) (b243 : Bool) (zn4 : Int) (zb5 : Bool) (zb6 : Bool) (zb7 : Bool) : Hp → Prop :=
  BR b243
    (J_law03_LotLawful_18 W R true zn4 zb5 zb6 zb7)
    (BR (zn4 == 2)
      (BR (!zb5)
        (J_law03_LotLawful_18 W R zb6 zn4 zb5 zb6 zb7)
        (J_law03_LotLawful_18 W R false zn4 zb5 zb6 zb7))
      (J_law03_LotLawful_18 W R false zn4 zb5 zb6 zb7))
def B_law03_LotLawful_0 (W : World) (R : Ending → Hp → Prop) (za0 : Addr) (zp1 : Option Addr) (zl2 : Nat) (zl3 : Nat) (zn4 : Int) (zb5 : Bool) (zb6 : Bool) (zb7 : Bool) (zn8 : Int) (b174 : Bool) (n175 : Int) (nx0 : List Value → Hp → Prop) : Hp → Prop :=
  BR (decide (n175 < zn8))
    (RDL (Addr.add za0 0) fun x176 l177 c178 =>
      IXS zp1 zl2 n175 1 fun a179 =>
        RDI .i64 a179 fun n180 =>
          IXS x176 l177 n180 3 fun a181 =>
            RDI .i64 (Addr.add a181 0) fun n182 =>
              RDB (Addr.add a181 1) fun b183 =>
                RDB (Addr.add a181 2) fun b184 =>
                  NEWZ Pg 51 fun B185 =>
                    ANDS (RDI .i64 (Addr.add a181 0) fun n186 =>
                      RDB (Addr.add a181 1) fun b187 =>
                        RDB (Addr.add a181 2) fun b188 =>
                          fun _ => ((.agg #[(.int .i64 n186), (.bool b187), (.bool b188)]) : Value) = (.agg #[(.int .i64 n182), (.bool b183), (.bool b184)])) <|
                      ANDS (RDI .i64 a179 fun n189 =>
                        fun _ => ((.int .i64 n189) : Value) = (.int .i64 n180)) <|
                        ANDS (RDL (Addr.add za0 0) fun x190 l191 c192 =>
                          fun _ => ((.slice x190 l191 c192) : Value) = (.slice x176 l177 c178)) <|
                          WR (Addr.add ⟨B185, 0, none⟩ 0) (.int .i64 n182) <|
                            WR (Addr.add ⟨B185, 0, none⟩ 1) (.bool b183) <|
                              WR (Addr.add ⟨B185, 0, none⟩ 2) (.bool b184) <|
                                BR (decide (n175 > 0))
                                  (RDI .i64 (Addr.add ⟨B185, 0, none⟩ 0) fun n193 =>
                                    J_law03_LotLawful_17 W R (n193 != 0) B185 za0 zp1 zl2 n175 zl3 zn4 zb5 zb6 zb7 zn8 nx0 b174)
                                  (J_law03_LotLawful_17 W R false B185 za0 zp1 zl2 n175 zl3 zn4 zb5 zb6 zb7 zn8 nx0 b174))
    (BR (zn4 == 1)
      (J_law03_LotLawful_19 W R zb5 zn4 zb5 zb6 zb7)
      (J_law03_LotLawful_19 W R false zn4 zb5 zb6 zb7))
theorem B_law03_LotLawful_0_eq (W : World) (R : Ending → Hp → Prop) (za0 : Addr) (zp1 : Option Addr) (zl2 : Nat) (zl3 : Nat) (zn4 : Int) (zb5 : Bool) (zb6 : Bool) (zb7 : Bool) (zn8 : Int) (b174 : Bool) (n175 : Int) (nx0 : List Value → Hp → Prop) (j : Tm) : vc Pg W 277 rs_5 an_5 false (sub (bodyOf Try.f5) [1, 1, 1, 1, 1, 1, 1, 1, 1, 1, 1, 1, 1, 1, 0, 1, 0, 0]) 0 (KLoop [4, 189] [2, 10, 13, 20, 21, 22, 188, 277] [(.pointer (some za0)), (.slice zp1 zl2 zl3), (.int .i64 zn4), (.bool zb5), (.bool zb6), (.bool zb7), (.int .i64 zn8), (.tuple #[])] nx0 (KBlk 0 (KS Pg W 277 rs_5 an_5 false (sub (bodyOf Try.f5) [1, 1, 1, 1, 1, 1, 1, 1, 1, 1, 1, 1, 1, 1, 1]) 0 (fin Pg W 277 rv_5 R)))) (known [4, 189] [(.bool b174), (.int .i64 n175)] (known [2, 10, 13, 20, 21, 22, 188, 277] [(.pointer (some za0)), (.slice zp1 zl2 zl3), (.int .i64 zn4), (.bool zb5), (.bool zb6), (.bool zb7), (.int .i64 zn8), (.tuple #[])] j)) = B_law03_LotLawful_0 W R za0 zp1 zl2 zl3 zn4 zb5 zb6 zb7 zn8 b174 n175 nx0 := by kernel_rfl
def N_law03_LotLawful_0 (I : Bool → Int → Hp → Prop) (μ : Bool → Int → Hp → Nat) (b1740 : Bool) (n1750 : Int) (s : Hp) (vs : List Value) : Hp → Prop := fun s' => ∃ b174 n175, vs = [(.bool b174), (.int .i64 n175)] ∧ I b174 n175 s' ∧ μ b174 n175 s' < μ b1740 n1750 s
theorem L_law03_LotLawful_0_rule (W : World) (R : Ending → Hp → Prop) (za0 : Addr) (zp1 : Option Addr) (zl2 : Nat) (zl3 : Nat) (zn4 : Int) (zb5 : Bool) (zb6 : Bool) (zb7 : Bool) (zn8 : Int) (I : Bool → Int → Hp → Prop) (μ : Bool → Int → Hp → Nat) (b1740 : Bool) (n1750 : Int) (s : Hp) (h0 : I b1740 n1750 s)
    (hr : ∀ (b174 : Bool) (n175 : Int) (s : Hp), I b174 n175 s → B_law03_LotLawful_0 W R za0 zp1 zl2 zl3 zn4 zb5 zb6 zb7 zn8 b174 n175 (fun vs => N_law03_LotLawful_0 I μ b174 n175 s vs) s) : L_law03_LotLawful_0 W R za0 zp1 zl2 zl3 zn4 zb5 zb6 zb7 zn8 b1740 n1750 s := by
  refine ⟨fun vs s => ∃ b174 n175, vs = [(.bool b174), (.int .i64 n175)] ∧ I b174 n175 s, fun vs s => (match vs with | [.bool b174, .int _ n175] => μ b174 n175 s | _ => 0), ⟨⟨⟨_, rfl⟩, ⟨⟨_, rfl⟩, trivial⟩⟩, ⟨_, _, rfl, h0⟩⟩, ?_⟩
  intro b174 n175 s hI j
  obtain ⟨b174', n175', hy, hI⟩ := hI
  have hI' : I b174 n175 s := by cases hy; exact hI
  have hh := hr b174 n175 s hI'
  rw [← B_law03_LotLawful_0_eq W R za0 zp1 zl2 zl3 zn4 zb5 zb6 zb7 zn8 b174 n175 _ j] at hh
  refine vc_mono ?_ _ _ hh
  exact KLoop_mono (fun vs s' h => by obtain ⟨b1741, n1751, rfl, h1, h2⟩ := h; exact ⟨⟨⟨_, rfl⟩, ⟨⟨_, rfl⟩, trivial⟩⟩, ⟨_, _, rfl, h1⟩, h2⟩)
def T_law03_LotLawful (W : World) (x1 : Option Addr) (l2 : Nat) (c3 : Nat) (n4 : Int) (x5 : Option Addr) (l6 : Nat) (c7 : Nat) (R : Ending → Hp → Prop) : Hp → Prop :=
  NEW 24 [(.slice x1 l2 c3), (.int .i64 n4)] fun B8 =>
    RDL (Addr.add ⟨B8, 0, none⟩ 0) fun x9 l10 c11 =>
      RDI .i64 (Addr.add ⟨B8, 0, none⟩ 1) fun n12 =>
        CALL Pg W F_law03_far [(.agg #[(.slice x9 l10 c11), (.int .i64 n12)]), (.slice none 0 0), (.int .i64 8)]
          (fun v13 => TYB v13 fun b15 =>
            BR b15
              (CALL Pg W F_law03_awake []
                (fun v16 => TYB v16 fun b18 =>
                  R (.returned (.bool b18)))
                  (fun e17 => R (.panicked e17)))
              (RDL (Addr.add ⟨B8, 0, none⟩ 0) fun x19 l20 c21 =>
                RDI .i64 (Addr.add ⟨B8, 0, none⟩ 1) fun n22 =>
                  CALL Pg W F_ref03_Lots [(.agg #[(.slice x19 l20 c21), (.int .i64 n22)])]
                    (fun v23 => TYB v23 fun b25 =>
                      BR (!b25)
                        (RDL (Addr.add ⟨B8, 0, none⟩ 0) fun x26 l27 c28 =>
                          RDI .i64 (Addr.add ⟨B8, 0, none⟩ 1) fun n29 =>
                            CALL Pg W F_lot_Check [(.agg #[(.slice x26 l27 c28), (.int .i64 n29)]), (.slice none 0 0)]
                              (fun v30 => TUP v30 fun q32 => HD q32 fun v33 r34 => TYI .i64 v33 fun n35 =>
                                HD r34 fun v36 r37 => TYI .i64 v36 fun n38 =>
                                  HD r37 fun v39 r40 => TYI .i64 v39 fun n41 =>
                                    NL r40 <|
                                      RDL (Addr.add ⟨B8, 0, none⟩ 0) fun x42 l43 c44 =>
                                        RDI .i64 (Addr.add ⟨B8, 0, none⟩ 1) fun n45 =>
                                          CALL Pg W F_lot_Place [(.agg #[(.slice x42 l43 c44), (.int .i64 n45)]), (.slice none 0 0)]
                                            (fun v46 => TUP v46 fun q48 => HD q48 fun v49 r50 => TYI .i64 v49 fun n51 =>
                                              HD r50 fun v52 r53 => TYI .i64 v52 fun n54 =>
                                                NL r53 <|
                                                  BR (n41 == 1)
                                                    (BR (n54 == n41)
                                                      (CALL Pg W F_law03_awake []
                                                        (fun v55 => TYB v55 fun b57 =>
                                                          R (.returned (.bool b57)))
                                                          (fun e56 => R (.panicked e56)))
                                                      (R (.returned (.bool false))))
                                                    (R (.returned (.bool false))))
                                              (fun e47 => R (.panicked e47)))
                                (fun e31 => R (.panicked e31)))
                        (RDL (Addr.add ⟨B8, 0, none⟩ 0) fun x58 l59 c60 =>
                          CALL Pg W F_law03_made [(.int .i64 (↑l59 : Int)), (.slice x5 l6 c7)]
                            (fun v61 => TYL v61 fun x63 l64 c65 =>
                              RDL (Addr.add ⟨B8, 0, none⟩ 0) fun x66 l67 c68 =>
                                RDI .i64 (Addr.add ⟨B8, 0, none⟩ 1) fun n69 =>
                                  CALL Pg W F_law03_lawful [(.agg #[(.slice x66 l67 c68), (.int .i64 n69)]), (.slice x63 l64 c65)]
                                    (fun v70 => TYB v70 fun b72 =>
                                      RDL (Addr.add ⟨B8, 0, none⟩ 0) fun x73 l74 c75 =>
                                        RDI .i64 (Addr.add ⟨B8, 0, none⟩ 1) fun n76 =>
                                          CALL Pg W F_lot_Check [(.agg #[(.slice x73 l74 c75), (.int .i64 n76)]), (.slice x63 l64 c65)]
                                            (fun v77 => TUP v77 fun q79 => HD q79 fun v80 r81 => TYI .i64 v80 fun n82 =>
                                              HD r81 fun v83 r84 => TYI .i64 v83 fun n85 =>
                                                HD r84 fun v86 r87 => TYI .i64 v86 fun n88 =>
                                                  NL r87 <|
                                                    RDL (Addr.add ⟨B8, 0, none⟩ 0) fun x89 l90 c91 =>
                                                      RDI .i64 (Addr.add ⟨B8, 0, none⟩ 1) fun n92 =>
                                                        CALL Pg W F_lot_Place [(.agg #[(.slice x89 l90 c91), (.int .i64 n92)]), (.slice x63 l64 c65)]
                                                          (fun v93 => TUP v93 fun q95 => HD q95 fun v96 r97 => TYI .i64 v96 fun n98 =>
                                                            HD r97 fun v99 r100 => TYI .i64 v99 fun n101 =>
                                                              NL r100 <|
                                                                RDL (Addr.add ⟨B8, 0, none⟩ 0) fun x102 l103 c104 =>
                                                                  RDI .i64 (Addr.add ⟨B8, 0, none⟩ 1) fun n105 =>
                                                                    CALL Pg W F_lot_Swaps [(.agg #[(.slice x102 l103 c104), (.int .i64 n105)]), (.slice x63 l64 c65)]
                                                                      (fun v106 => TUP v106 fun q108 => HD q108 fun v109 r110 => TYL v109 fun x111 l112 c113 =>
                                                                        HD r110 fun v114 r115 => TYI .i64 v114 fun n116 =>
                                                                          NL r115 <|
                                                                            BR b72
                                                                              (BR (n88 == 4)
                                                                                (J_law03_LotLawful_2 W R (n82 == 0) n85 n101 n98 n116)
                                                                                (J_law03_LotLawful_2 W R false n85 n101 n98 n116))
                                                                              (BR (n88 != 0)
                                                                                (J_law03_LotLawful_13 W R true B8 x63 l64 n82 c65 n85 l112 n116 n98)
                                                                                (J_law03_LotLawful_13 W R (n101 != 4) B8 x63 l64 n82 c65 n85 l112 n116 n98)))
                                                                        (fun e107 => R (.panicked e107)))
                                                            (fun e94 => R (.panicked e94)))
                                              (fun e78 => R (.panicked e78)))
                                      (fun e71 => R (.panicked e71)))
                              (fun e62 => R (.panicked e62))))
                      (fun e24 => R (.panicked e24))))
            (fun e14 => R (.panicked e14))
theorem T_law03_LotLawful_eq (W : World) (x1 : Option Addr) (l2 : Nat) (c3 : Nat) (n4 : Int) (x5 : Option Addr) (l6 : Nat) (c7 : Nat) (R : Ending → Hp → Prop) : vfun Pg W an_5 Try.f5 [(.agg #[(.slice x1 l2 c3), (.int .i64 n4)]), (.slice x5 l6 c7)] R = T_law03_LotLawful W x1 l2 c3 n4 x5 l6 c7 R := by kernel_rfl
theorem does_law03_LotLawful (W : World) (x1 : Option Addr) (l2 : Nat) (c3 : Nat) (n4 : Int) (x5 : Option Addr) (l6 : Nat) (c7 : Nat) (R : Ending → Hp → Prop) (s : Hp) (h : T_law03_LotLawful W x1 l2 c3 n4 x5 l6 c7 R s) : Does Pg W F_law03_LotLawful #[(.agg #[(.slice x1 l2 c3), (.int .i64 n4)]), (.slice x5 l6 c7)] s R :=
  does_of_vfun Pg W an_5 Try.func5 rfl (by kernel_rfl) (by rw [T_law03_LotLawful_eq]; exact h)
end Go.Proofs.Ytocnkdkgajdejaa.G

/- The statement LotLawful: a draw is lawful just if nothing is broken by the words of the chapter. -/
set_option linter.unusedSimpArgs false
set_option linter.unusedVariables false
set_option maxRecDepth 20000
namespace Go.Proofs.Ytocnkdkgajdejaa.G
open Go.V Go.Lot
section
variable {W : World} {K : VK} {E : List PanicEntry → Hp → Prop} {s : Hp} {L : Lts}
theorem man_new3 {KK : Nat → Hp → Prop} {A1 A2 A3 : Hp → Prop} {a : Int} {b c : Bool} (hA : ∀ s', Ext s s' → A1 s' ∧ A2 s' ∧ A3 s')
    (h : ∀ s', Ext s s' → s'.size = s.size + 1 → Own s' (Addr.add ⟨s.size, 0, none⟩ 0) (.int .i64 a) → Own s' (Addr.add ⟨s.size, 0, none⟩ 1) (.bool b) → Own s' (Addr.add ⟨s.size, 0, none⟩ 2) (.bool c) → KK s.size s') :
    NEWZ Pg 51 (fun B => ANDS A1 <| ANDS A2 <| ANDS A3 <| WR (Addr.add ⟨B, 0, none⟩ 0) (.int .i64 a) <| WR (Addr.add ⟨B, 0, none⟩ 1) (.bool b) <| WR (Addr.add ⟨B, 0, none⟩ 2) (.bool c) <| KK B) s := by
  obtain ⟨h1, h2, h3⟩ := hA _ (Ext.push (Ext.refl s))
  exact ⟨h1, h2, h3, man_new h⟩
/-- A plot's ploughman, as it lies. -/
theorem man_at {x y : Option Addr} {d : List Nat} {k : Nat} (hm : MenAt s x L.men) (hy : RowAt s y (vals d)) (hd : ∀ m ∈ d, m < L.n) (hk : k < d.length) :
    ∃ a b, y = some a ∧ x = some b ∧ cellAt s (a.add (k * 1)) = some (.int .i64 (d.getD k 0 : Nat)) ∧ d.getD k 0 < L.n ∧ cellAt s ((b.add (d.getD k 0 * 3)).add 0) = some (.int .i64 (man L (d.getD k 0)).club) ∧
      cellAt s ((b.add (d.getD k 0 * 3)).add 1) = some (.bool (man L (d.getD k 0)).left) ∧ cellAt s ((b.add (d.getD k 0 * 3)).add 2) = some (.bool (man L (d.getD k 0)).nov) := by
  have hget : d.getD k 0 = d[k] := by simp [List.getD, hk]
  have hkv : k < (vals d).length := by rw [vals_len]; exact hk
  obtain ⟨a, ha, g⟩ := hy k hkv
  rw [vals_get hkv] at g
  have hmi := hd d[k] (List.getElem_mem _)
  obtain ⟨b, hb, g1, g2, g3⟩ := hm d[k] hmi
  have hman := man_get' L (m := d[k]) hmi
  rw [← hman] at g1 g2 g3
  rw [hget]
  exact ⟨a, b, ha, hb, g, hmi, g1, g2, g3⟩
theorem man_new3' {x : Option Addr} {d : List Nat} {k : Nat} {a b Z : Addr} {c : Nat} {KK : Nat → Hp → Prop} (hZ : cellAt s (Z.add 0) = some (.slice x L.n c)) (g : cellAt s (a.add (k * 1)) = some (.int .i64 (d.getD k 0 : Nat)))
    (g1 : cellAt s ((b.add (d.getD k 0 * 3)).add 0) = some (.int .i64 (man L (d.getD k 0)).club)) (g2 : cellAt s ((b.add (d.getD k 0 * 3)).add 1) = some (.bool (man L (d.getD k 0)).left)) (g3 : cellAt s ((b.add (d.getD k 0 * 3)).add 2) = some (.bool (man L (d.getD k 0)).nov))
    (h : ∀ s', Ext s s' → s'.size = s.size + 1 → Own s' (Addr.add ⟨s.size, 0, none⟩ 0) (.int .i64 (man L (d.getD k 0)).club) → Own s' (Addr.add ⟨s.size, 0, none⟩ 1) (.bool (man L (d.getD k 0)).left) → Own s' (Addr.add ⟨s.size, 0, none⟩ 2) (.bool (man L (d.getD k 0)).nov) → KK s.size s') :
    NEWZ Pg 51 (fun B => ANDS (RDI .i64 (Addr.add (b.add (d.getD k 0 * 3)) 0) fun n130 => RDB (Addr.add (b.add (d.getD k 0 * 3)) 1) fun b131 => RDB (Addr.add (b.add (d.getD k 0 * 3)) 2) fun b132 => fun _ => ((.agg #[(.int .i64 n130), (.bool b131), (.bool b132)]) : Value) = (.agg #[(.int .i64 (man L (d.getD k 0)).club), (.bool (man L (d.getD k 0)).left), (.bool (man L (d.getD k 0)).nov)])) <|
      ANDS (RDI .i64 (a.add (k * 1)) fun n133 => fun _ => ((.int .i64 n133) : Value) = (.int .i64 ((d.getD k 0 : Nat) : Int))) <|
      ANDS (RDL (Z.add 0) fun x134 l135 c136 => fun _ => ((.slice x134 l135 c136) : Value) = (.slice x L.n c)) <|
      WR (Addr.add ⟨B, 0, none⟩ 0) (.int .i64 (man L (d.getD k 0)).club) <| WR (Addr.add ⟨B, 0, none⟩ 1) (.bool (man L (d.getD k 0)).left) <| WR (Addr.add ⟨B, 0, none⟩ 2) (.bool (man L (d.getD k 0)).nov) <| KK B) s :=
  man_new3 (fun s' e => ⟨⟨_, e.cell g1, _, e.cell g2, _, e.cell g3, rfl⟩, ⟨_, e.cell g, rfl⟩, ⟨_, _, _, e.cell hZ, rfl⟩⟩) h

theorem lawful_loop {x y : Option Addr} {c c' B p : Nat} {d : List Nat} {r : Int} {q1 q2 q3 : Bool} {R : Ending → Hp → Prop} {s1 : Hp} (hm : MenAt s1 x L.men) (hy : RowAt s1 y (vals d)) (hv : valid L = true) (hd : ∀ m ∈ d, m < L.n) (hln : d.length = L.n)
    (c0 : cellAt s1 ((⟨B, 0, none⟩ : Addr).add 0) = some (.slice x L.n c)) (c1 : cellAt s1 ((⟨B, 0, none⟩ : Addr).add 1) = some (.int .i64 L.worst)) (hp : p < d.length) (hok : ∀ k, k < p → brk L k (d.getD k 0) (prev d k) = 0)
    (h : ∀ t nx, Ext s1 t → B_law03_LotLawful_0 W R ⟨B, 0, none⟩ y d.length c' r q1 q2 q3 p false p nx t) :
    L_law03_LotLawful_0 W R ⟨B, 0, none⟩ y d.length c' r q1 q2 q3 (p : Int) false 0 s1 := by
  have v := vd_iff.1 hv
  have hn8 := v.hi
  refine L_law03_LotLawful_0_rule W R ⟨B, 0, none⟩ y d.length c' r q1 q2 q3 p (fun bb n t => bb = false ∧ Ext s1 t ∧ ∃ k : Nat, k ≤ p ∧ n = k) (fun _ n _ => (p - n).toNat) false 0 s1 ⟨rfl, Ext.refl _, 0, by omega, rfl⟩ ?_
  rintro b9 n t ⟨rfl, et, k, hk, rfl⟩
  by_cases hkp : k = p
  · subst hkp; exact h t _ et
  have hkp' : k < p := by omega
  have hz := hok k hkp'
  have hz' := brk_zero L k (d.getD k 0) (prev d k)
  rw [decide_eq_true hz] at hz'
  have hz2 : (r1 L (d.getD k 0) (prev d k) || r2 L k (d.getD k 0) || r3 L k (d.getD k 0)) = false := by simpa using hz'
  have hr1 : r1 L (d.getD k 0) (prev d k) = false := by simp at hz2; exact hz2.1.1
  have hr2 : r2 L k (d.getD k 0) = false := by simp at hz2; exact hz2.1.2
  have hr3 : r3 L k (d.getD k 0) = false := by simp at hz2; exact hz2.2
  have hkd : k < d.length := by omega
  obtain ⟨a, b, ha, hb, g, hlt, g1, g2, g3⟩ := man_at (hm.ext et) (hy.ext et) hd hkd
  have ti : ((k : Int)).toNat = k := by omega
  have tm : (((d.getD k 0 : Nat) : Int)).toNat = d.getD k 0 := by omega
  have hw : IntKind.i64.wrap ((k : Int) + 1) = ((k + 1 : Nat) : Int) := by rw [wrap_i64 (by omega) (by omega)]; rfl
  unfold B_law03_LotLawful_0
  refine BR_dec (fun _ => ?_) (fun h1 => by omega)
  refine ⟨_, _, _, et.cell c0, a, ha, ⟨by omega, by omega⟩, _, by rw [ti]; exact g, b, hb, ⟨by omega, by omega⟩, ?_⟩
  rw [ti, tm]
  refine ⟨_, g1, _, g2, _, g3, ?_⟩
  refine man_new3' (et.cell c0) g g1 g2 g3 fun t2 e2 z2 o0 o1 o2 => ?_
  have e12 := et.trans e2
  have j14 : ∀ bb : Bool, bb = false → J_law03_LotLawful_14 W R bb ⟨B, 0, none⟩ y d.length c' r q1 q2 q3 p (fun vs => N_law03_LotLawful_0 (fun bb n t => bb = false ∧ Ext s1 t ∧ ∃ k : Nat, k ≤ p ∧ n = k) (fun _ n _ => (p - n).toNat) false k t vs) false k t2 := by
    rintro bb rfl
    unfold J_law03_LotLawful_14
    refine ⟨rfl, _, _, rfl, ⟨rfl, e12, k + 1, by omega, hw⟩, ?_⟩
    show ((p : Int) - IntKind.i64.wrap ((k : Int) + 1)).toNat < ((p : Int) - k).toNat
    rw [hw]; omega
  have j15 : ∀ bb : Bool, bb = false → J_law03_LotLawful_15 W R bb ⟨B, 0, none⟩ y d.length c' r q1 q2 q3 p (fun vs => N_law03_LotLawful_0 (fun bb n t => bb = false ∧ Ext s1 t ∧ ∃ k : Nat, k ≤ p ∧ n = k) (fun _ n _ => (p - n).toNat) false k t vs) false k t.size t2 := by
    rintro bb rfl
    unfold J_law03_LotLawful_15
    refine ⟨_, o2.cell, ?_⟩
    refine BR_bool (fun h3 => ?_) (fun h3 => j14 _ rfl)
    refine ⟨_, e12.cell c1, NNI_nat (j14 _ ?_)⟩
    rw [bad_eq v (by omega)]
    unfold r3 at hr3
    rw [h3] at hr3
    simpa using hr3
  have j16 : ∀ bb : Bool, bb = false → J_law03_LotLawful_16 W R bb ⟨B, 0, none⟩ y d.length c' r q1 q2 q3 p (fun vs => N_law03_LotLawful_0 (fun bb n t => bb = false ∧ Ext s1 t ∧ ∃ k : Nat, k ≤ p ∧ n = k) (fun _ n _ => (p - n).toNat) false k t vs) false k t.size t2 := by
    rintro bb rfl
    unfold J_law03_LotLawful_16
    refine ⟨_, o1.cell, ?_⟩
    refine BR_bool (fun h3 => j15 _ ?_) (fun h3 => j15 _ rfl)
    unfold r2 at hr2
    rw [h3] at hr2
    have hlt' : k < L.n - 1 := by omega
    have hd : decide (k < L.n - 1) = true := decide_eq_true hlt'
    rw [hd] at hr2
    have : ¬ k > 0 := by simpa using hr2
    have : ¬ ((k : Int) > 0) := by omega
    exact decide_eq_false this
  have j17 : ∀ bb : Bool, bb = (decide (k ≠ 0) && decide ((man L (d.getD k 0)).club ≠ 0)) → J_law03_LotLawful_17 W R bb t.size ⟨B, 0, none⟩ y d.length k c' r q1 q2 q3 p (fun vs => N_law03_LotLawful_0 (fun bb n t => bb = false ∧ Ext s1 t ∧ ∃ k : Nat, k ≤ p ∧ n = k) (fun _ n _ => (p - n).toNat) false k t vs) false t2 := by
    intro bb hbb
    unfold J_law03_LotLawful_17
    refine BR_bool (fun h2 => ?_) (fun h2 => j16 _ rfl)
    rw [h2] at hbb
    obtain ⟨hk0, hc0⟩ : k ≠ 0 ∧ (man L (d.getD k 0)).club ≠ 0 := by simpa using hbb.symm
    obtain ⟨a', b', ha', hb', g', hlt', gg1, _, _⟩ := man_at (hm.ext e12) (hy.ext e12) hd (show k - 1 < d.length by omega)
    have hp : prev d k = d.getD (k - 1) 0 := by unfold prev; rw [if_neg hk0]
    have hw' : IntKind.wrap .i64 ((k : Int) - 1) = ((k - 1 : Nat) : Int) := by rw [wrap_i64 (by omega) (by omega)]; omega
    refine ⟨_, o0.cell, _, _, _, e12.cell c0, ?_⟩
    dsimp only
    rw [hw']
    have ti' : (((k - 1 : Nat) : Int)).toNat = k - 1 := by omega
    have tm' : (((d.getD (k - 1) 0 : Nat) : Int)).toNat = d.getD (k - 1) 0 := by omega
    refine ⟨a', ha', ⟨by omega, by omega⟩, _, by rw [ti']; exact g', b', hb', ⟨by omega, by omega⟩, _, by rw [tm']; exact gg1, ?_⟩
    refine j16 _ ?_
    unfold r1 at hr1
    rw [hp] at hr1
    have h8 : d.getD (k - 1) 0 ≠ 8 := by omega
    simp only [h8, hc0, ne_eq, not_false_eq_true, decide_true, Bool.true_and] at hr1
    have := of_decide_eq_false hr1
    simpa using this
  refine BR_dec (fun h2 => ?_) (fun h2 => ?_)
  · refine ⟨_, o0.cell, ?_⟩
    refine j17 _ ?_
    have : k ≠ 0 := by omega
    simp [this, bne, Bool.beq_eq_decide_eq]
  · refine j17 _ ?_
    have : k = 0 := by omega
    simp [this]
end
end Go.Proofs.Ytocnkdkgajdejaa.G

/- The statement LotLawful: a draw is lawful just if nothing is broken by the words of the chapter. -/
set_option linter.unusedSimpArgs false
set_option linter.unusedVariables false
set_option maxRecDepth 20000
namespace Go.Proofs.Ytocnkdkgajdejaa.G
open Go.V Go.Lot
section
variable {W : World} {K : VK} {E : List PanicEntry → Hp → Prop} {s : Hp} {L : Lts}
theorem c_Check' {x y : Option Addr} {c c' l : Nat} {ds : List Int} (hm : MenAt s x L.men) (hy : RowAt s y (ints ds)) (hlen : ds.length ≤ 100000) (hl : l = ds.length)
    (h : ∀ s', Ext s s' → K (.tuple #[.int .i64 (checkP L ds).1, .int .i64 (checkP L ds).2.1, .int .i64 (checkP L ds).2.2]) s') :
    CALL Pg W F_lot_Check [.agg #[.slice x L.n c, .int .i64 L.worst], .slice y l c'] K E s := by subst hl; exact c_Check hm hy hlen h
theorem c_Place' {x y : Option Addr} {c c' l : Nat} {ds : List Int} (hm : MenAt s x L.men) (hy : RowAt s y (ints ds)) (hlen : ds.length ≤ 100000) (hl : l = ds.length)
    (h : ∀ s', Ext s s' → K (.tuple #[.int .i64 (placeP L ds).1, .int .i64 (placeP L ds).2]) s') :
    CALL Pg W F_lot_Place [.agg #[.slice x L.n c, .int .i64 L.worst], .slice y l c'] K E s := by subst hl; exact c_Place hm hy hlen h
theorem c_Swaps' {x y : Option Addr} {c c' l : Nat} {ds : List Int} (hm : MenAt s x L.men) (hy : RowAt s y (ints ds)) (hlen : ds.length ≤ 100000) (hl : l = ds.length)
    (h1 : ∀ s' v, Ext s s' → valid L = true → okDraw L ds → wrong L (ds.map Int.toNat) = none → OutP s' (swapsP L (ds.map Int.toNat)) v → K (.tuple #[v, .int .i64 0]) s')
    (h2 : ∀ s', Ext s s' → errP L ds ≠ 0 → K (.tuple #[.slice none 0 0, .int .i64 (errP L ds)]) s') :
    CALL Pg W F_lot_Swaps [.agg #[.slice x L.n c, .int .i64 L.worst], .slice y l c'] K E s := by subst hl; exact c_Swaps hm hy hlen h1 h2
/-- 'awake' at the end. -/
theorem c_awake' {s0 : Hp} (e : Ext s0 s) (h : ∀ s', Ext s0 s' → K (.bool true) s') : CALL Pg W F_law03_awake [] K E s := c_awake fun s' e' => h s' (e.trans e')
theorem row_nil : RowAt s none (ints []) := fun i hi => by simp [ints] at hi

theorem w_LotLawful {x y : Option Addr} {l c c' : Nat} (hm : MenAt s x L.men) (hy : U8At s y l) (h : ∀ s', Ext s s' → K (.bool true) s') :
    CALL Pg W F_law03_LotLawful [.agg #[.slice x L.n c, .int .i64 L.worst], .slice y l c'] K E s := by
  refine does_law03_LotLawful W x L.n c L.worst y l c' _ s ?_
  unfold T_law03_LotLawful
  refine NEW_rule fun s1 e1 z1 n1 _ => ?_
  have c0 := (n1 0 _ rfl).cell
  have c1 := (n1 1 _ rfl).cell
  -- how it ends
  have aw : ∀ t, Ext s1 t → CALL Pg W F_law03_awake [] (fun v16 => TYB v16 fun b18 => (endK K E) (.returned (.bool b18))) (fun c17 => (endK K E) (.panicked c17)) t := fun t et => c_awake fun t' et' => h t' (e1.trans (et.trans et'))
  refine ⟨_, _, _, c0, _, c1, ?_⟩
  refine c_far (n := 8) (hm.ext e1) fun s2 b e2 hb1 hb2 => ?_
  try simp only [TUP_mk, AGG_mk, HD_mk, NL_mk, TYI_mk, TYB_mk, TYP_mk, TYL_mk, TYS_mk, TYM_mk, SO_mk, NX_mk, endK_mk, endK_mk', add_0]
  refine BR_bool (fun hb => aw s2 e2) (fun hb => ?_)
  obtain ⟨hn30, _, hn8'⟩ := hb2 hb
  refine ⟨_, _, _, e2.cell c0, _, e2.cell c1, ?_⟩
  have e02 := e1.trans e2
  refine f_Lots (hm.ext e02) (by omega) fun s3 e3 => ?_
  try simp only [TUP_mk, AGG_mk, HD_mk, NL_mk, TYI_mk, TYB_mk, TYP_mk, TYL_mk, TYS_mk, TYM_mk, SO_mk, NX_mk, endK_mk, endK_mk', add_0]
  have e13 := e2.trans e3
  have e03 := e1.trans e13
  refine BR_not (fun hv => ?_) (fun hv => ?_)
  · refine ⟨_, _, _, e13.cell c0, _, e13.cell c1, ?_⟩
    refine c_Check' (ds := []) (hm.ext e03) row_nil (by simp) rfl fun s4 e4 => ?_
    try simp only [TUP_mk, AGG_mk, HD_mk, NL_mk, TYI_mk, TYB_mk, TYP_mk, TYL_mk, TYS_mk, TYM_mk, SO_mk, NX_mk, endK_mk, endK_mk', add_0]
    have hc : checkP L [] = (0, 0, 1) := by unfold checkP; rw [hv]; rfl
    rw [hc]
    have e14 := e13.trans e4
    refine ⟨_, _, _, e14.cell c0, _, e14.cell c1, ?_⟩
    refine c_Place' (ds := []) (hm.ext (e1.trans e14)) row_nil (by simp) rfl fun s5 e5 => ?_
    try simp only [TUP_mk, AGG_mk, HD_mk, NL_mk, TYI_mk, TYB_mk, TYP_mk, TYL_mk, TYS_mk, TYM_mk, SO_mk, NX_mk, endK_mk, endK_mk', add_0]
    have hp : placeP L [] = (0, 1) := by unfold placeP; rw [hv]; rfl
    rw [hp]
    refine BR_eq (fun _ => ?_) (fun hh => absurd rfl hh)
    refine BR_eq (fun _ => ?_) (fun hh => absurd rfl hh)
    exact aw s5 (e14.trans e5)
  · have v := vd_iff.1 hv
    have hn8 := v.hi
    have hlo := v.lo
    refine ⟨_, _, _, e13.cell c0, ?_⟩
    refine c_made (hy.ext e03) (by omega) fun s4 a d e4 fr pd bd => ?_
    try simp only [TUP_mk, AGG_mk, HD_mk, NL_mk, TYI_mk, TYB_mk, TYP_mk, TYL_mk, TYS_mk, TYM_mk, SO_mk, NX_mk, endK_mk, endK_mk', add_0]
    have e14 := e13.trans e4
    have e04 := e1.trans e14
    have hok := Perm0.ok pd
    have hback := map_back d
    have hdl : (d.map fun (n : Nat) => (n : Int)).length = L.n := by rw [List.length_map]; exact pd.len
    have hrow : RowAt s4 (some a) (vals d) := bd.row
    have hrowi : RowAt s4 (some a) (ints (d.map fun (n : Nat) => (n : Int))) := by rw [ints_vals]; exact hrow
    refine ⟨_, _, _, e14.cell c0, _, e14.cell c1, ?_⟩
    refine c_lawful (hm.ext e04) hrow hv pd.lt pd.len.symm pd.len fun s5 e5 => ?_
    try simp only [TUP_mk, AGG_mk, HD_mk, NL_mk, TYI_mk, TYB_mk, TYP_mk, TYL_mk, TYS_mk, TYM_mk, SO_mk, NX_mk, endK_mk, endK_mk', add_0]
    have e15 := e14.trans e5
    refine ⟨_, _, _, e15.cell c0, _, e15.cell c1, ?_⟩
    refine c_Check' (ds := d.map fun (n : Nat) => (n : Int)) (hm.ext (e1.trans e15)) (hrowi.ext e5) (by omega) hdl.symm fun s6 e6 => ?_
    try simp only [TUP_mk, AGG_mk, HD_mk, NL_mk, TYI_mk, TYB_mk, TYP_mk, TYL_mk, TYS_mk, TYM_mk, SO_mk, NX_mk, endK_mk, endK_mk', add_0]
    have e16 := e15.trans e6
    refine ⟨_, _, _, e16.cell c0, _, e16.cell c1, ?_⟩
    refine c_Place' (ds := d.map fun (n : Nat) => (n : Int)) (hm.ext (e1.trans e16)) (hrowi.ext (e5.trans e6)) (by omega) hdl.symm fun s7 e7 => ?_
    try simp only [TUP_mk, AGG_mk, HD_mk, NL_mk, TYI_mk, TYB_mk, TYP_mk, TYL_mk, TYS_mk, TYM_mk, SO_mk, NX_mk, endK_mk, endK_mk', add_0]
    have e17 := e16.trans e7
    refine ⟨_, _, _, e17.cell c0, _, e17.cell c1, ?_⟩
    refine c_Swaps' (ds := d.map fun (n : Nat) => (n : Int)) (hm.ext (e1.trans e17)) (hrowi.ext (e5.trans (e6.trans e7))) (by omega) hdl.symm (fun s8 vv e8 _ _ hw ho => ?_) (fun s8 e8 he => ?_)
    · rw [hback] at hw ho
      obtain ⟨xo, co, rfl, hro⟩ := ho
      try simp only [TUP_mk, AGG_mk, HD_mk, NL_mk, TYI_mk, TYB_mk, TYP_mk, TYL_mk, TYS_mk, TYM_mk, SO_mk, NX_mk, endK_mk, endK_mk', add_0]
      have hc : checkP L (d.map fun (n : Nat) => (n : Int)) = (0, 0, 4) := by unfold checkP; rw [hv, if_pos rfl, if_pos hok, hback, hw]
      have hp : placeP L (d.map fun (n : Nat) => (n : Int)) = (((placeN L d (full L.n) 8 : Nat) : Int), 0) := by unfold placeP; rw [hv, if_pos rfl, if_pos hok, hback, hw]
      rw [hc, hp]
      refine BR_bool (fun _ => ?_) (fun hh => by rw [decide_eq_true hw] at hh; cases hh)
      refine BR_eq (fun _ => ?_) (fun hh => absurd rfl hh)
      unfold J_law03_LotLawful_2
      refine BR_eq (fun _ => ?_) (fun hh => absurd rfl hh)
      unfold J_law03_LotLawful_1
      refine BR_eq (fun _ => ?_) (fun hh => absurd rfl hh)
      unfold J_law03_LotLawful_0
      refine BR_eq (fun _ => ?_) (fun hh => absurd rfl hh)
      refine BR_dec (fun _ => ?_) (fun hh => by dsimp only at hh; omega)
      refine BR_eq (fun _ => ?_) (fun hh => absurd rfl hh)
      exact aw s8 (e17.trans e8)
    · have hwne : wrong L d ≠ none := fun hw => by
        refine he ?_
        unfold errP
        rw [hv, if_pos rfl, if_pos hok, hback, hw]
      obtain ⟨⟨p, r⟩, hw⟩ := Option.ne_none_iff_exists'.1 hwne
      obtain ⟨hp1, hr, hr0, hall⟩ := wrong_some hw
      have hc : checkP L (d.map fun (n : Nat) => (n : Int)) = (((p : Nat) : Int), ((r : Nat) : Int), 0) := by unfold checkP; rw [hv, if_pos rfl, if_pos hok, hback, hw]
      have hp : placeP L (d.map fun (n : Nat) => (n : Int)) = (0, 4) := by unfold placeP; rw [hv, if_pos rfl, if_pos hok, hback, hw]
      have hs : errP L (d.map fun (n : Nat) => (n : Int)) = 4 := by unfold errP; rw [hv, if_pos rfl, if_pos hok, hback, hw]
      try simp only [TUP_mk, AGG_mk, HD_mk, NL_mk, TYI_mk, TYB_mk, TYP_mk, TYL_mk, TYS_mk, TYM_mk, SO_mk, NX_mk, endK_mk, endK_mk', add_0]
      rw [hc, hp, hs]
      have e18 := e17.trans e8
      have e48 := e5.trans (e6.trans (e7.trans e8))
      refine BR_bool (fun hh => by rw [decide_eq_false hwne] at hh; cases hh) (fun _ => ?_)
      refine BR_ne (fun hh => absurd rfl hh) (fun _ => ?_)
      unfold J_law03_LotLawful_13
      refine BR_ne (fun hh => absurd rfl hh) (fun _ => ?_)
      unfold J_law03_LotLawful_12
      refine BR_ne (fun hh => absurd rfl hh) (fun _ => ?_)
      unfold J_law03_LotLawful_11
      refine BR_ne (fun hh => absurd rfl hh) (fun _ => ?_)
      unfold J_law03_LotLawful_10
      refine BR_ne (fun hh => absurd rfl hh) (fun _ => ?_)
      unfold J_law03_LotLawful_9
      have hpl : p < L.n := by rw [← pd.len]; exact hp1
      refine BR_dec (fun hh => by dsimp only at hh; omega) (fun _ => ?_)
      unfold J_law03_LotLawful_8
      refine BR_dec (fun hh => by dsimp only at hh; omega) (fun _ => ?_)
      obtain ⟨a1, b1, ha1, hb1', g, hlt, g1, g2, g3⟩ := man_at ((hm.ext (e1.trans e18))) (hrow.ext e48) pd.lt hp1
      cases ha1
      have ti : ((p : Int)).toNat = p := by omega
      have tm : (((d.getD p 0 : Nat) : Int)).toNat = d.getD p 0 := by omega
      refine ⟨_, _, _, e18.cell c0, a, rfl, ⟨by omega, by omega⟩, _, by dsimp only; rw [ti]; exact g, b1, hb1', ⟨by omega, by omega⟩, ?_⟩
      dsimp only
      rw [ti, tm]
      refine ⟨_, g1, _, g2, _, g3, ?_⟩
      refine man_new3' (e18.cell c0) g g1 g2 g3 fun t2 e9 z9 o0 o1 o2 => ?_
      have e19 := e18.trans e9
      have e49 := e48.trans e9
      have dlen := pd.len
      rw [← dlen]
      have j3 : J_law03_LotLawful_3 W (endK K E) s.size (some a) d.length d.length r (r1 L (d.getD p 0) (prev d p)) (r2 L p (d.getD p 0)) (r3 L p (d.getD p 0)) p t2 := by
        unfold J_law03_LotLawful_3
        refine lawful_loop (x := x) (c := c) ((hm.ext (e1.trans e19))) (hrow.ext e49) hv pd.lt pd.len (e19.cell c0) (e19.cell c1) hp1 hall fun t3 nx e10 => ?_
        unfold B_law03_LotLawful_0
        refine BR_dec (fun hh => by omega) (fun _ => ?_)
        have fin := aw t3 (e19.trans e10)
        have h18 : ∀ b q1 q2 q3, (b = true ∨ (r = 3 ∧ q1 = false ∧ q2 = false ∧ q3 = true)) → J_law03_LotLawful_18 W (endK K E) b r q1 q2 q3 t3 := by
          rintro b q1 q2 q3 hb
          unfold J_law03_LotLawful_18
          refine BR_bool (fun _ => fin) (fun hf => ?_)
          rcases hb with hb | ⟨hb1, rfl, rfl, rfl⟩
          · rw [hb] at hf; cases hf
          · refine BR_eq (fun _ => ?_) (fun hh => absurd (by omega) hh)
            exact fin
        have h19 : ∀ b q1 q2 q3, (b = true ∨ (r = 2 ∧ q1 = false ∧ q2 = true) ∨ (r = 3 ∧ q1 = false ∧ q2 = false ∧ q3 = true)) → J_law03_LotLawful_19 W (endK K E) b r q1 q2 q3 t3 := by
          rintro b q1 q2 q3 hb
          unfold J_law03_LotLawful_19
          refine BR_bool (fun _ => h18 _ _ _ _ (.inl rfl)) (fun hf => ?_)
          rcases hb with hb | ⟨hb1, rfl, rfl⟩ | ⟨hb1, rfl, rfl, rfl⟩
          · rw [hb] at hf; cases hf
          · refine BR_eq (fun _ => ?_) (fun hh => absurd (by omega) hh)
            exact h18 _ _ _ _ (.inl rfl)
          · refine BR_eq (fun hh => by omega) (fun _ => ?_)
            exact h18 _ _ _ _ (.inr ⟨hb1, rfl, rfl, rfl⟩)
        unfold fst at hr
        refine BR_eq (fun hh => ?_) (fun hh => ?_)
        · refine h19 _ _ _ _ (.inl ?_)
          cases h1 : r1 L (d.getD p 0) (prev d p) with
          | true => rfl
          | false =>
            rw [h1] at hr
            cases h2 : r2 L p (d.getD p 0) <;> cases h3 : r3 L p (d.getD p 0) <;> rw [h2, h3] at hr <;> simp at hr <;> omega
        · refine h19 _ _ _ _ (.inr ?_)
          cases h1 : r1 L (d.getD p 0) (prev d p) with
          | true => rw [h1] at hr; simp at hr; omega
          | false =>
            rw [h1] at hr
            cases h2 : r2 L p (d.getD p 0) with
            | true => rw [h2] at hr; simp at hr; exact .inl ⟨hr, rfl, rfl⟩
            | false =>
              rw [h2] at hr
              cases h3 : r3 L p (d.getD p 0) with
              | true => rw [h3] at hr; simp at hr; exact .inr ⟨hr, rfl, rfl, rfl⟩
              | false => rw [h3] at hr; simp at hr; omega
      have j4 : ∀ b, b = r2 L p (d.getD p 0) → J_law03_LotLawful_4 W (endK K E) s8.size s.size p (some a) d.length d.length r (r1 L (d.getD p 0) (prev d p)) b t2 := by
        rintro b rfl
        unfold J_law03_LotLawful_4
        refine ⟨_, o2.cell, ?_⟩
        refine BR_bool (fun h3 => ?_) (fun h3 => ?_)
        · refine ⟨_, e19.cell c1, NNI_nat ?_⟩
          rw [bad_eq v (by omega)]
          have : bad L p = r3 L p (d.getD p 0) := by unfold r3; rw [h3]; simp
          rw [this]; exact j3
        · have : false = r3 L p (d.getD p 0) := by unfold r3; rw [h3]; simp
          rw [this]; exact j3
      have j5 : ∀ b, b = ((man L (d.getD p 0)).left && decide (p > 0)) → J_law03_LotLawful_5 W (endK K E) b s8.size s.size p (some a) d.length d.length r (r1 L (d.getD p 0) (prev d p)) t2 := by
        rintro b hb
        unfold J_law03_LotLawful_5
        refine BR_bool (fun h3 => ?_) (fun h3 => ?_)
        · refine j4 _ ?_
          rw [h3] at hb
          unfold r2
          rw [← hb, wrap_i64 (by omega) (by omega)]
          simp
          omega
        · refine j4 _ ?_
          rw [h3] at hb
          unfold r2
          rw [← hb]; simp
      have j6 : ∀ b, b = r1 L (d.getD p 0) (prev d p) → J_law03_LotLawful_6 W (endK K E) s8.size p s.size (some a) d.length d.length r b t2 := by
        rintro b rfl
        unfold J_law03_LotLawful_6
        refine ⟨_, o1.cell, ?_⟩
        refine BR_bool (fun h3 => ?_) (fun h3 => ?_)
        · refine j5 _ ?_
          rw [h3]; simp
        · refine j5 _ ?_
          rw [h3]; simp
      have j7 : ∀ bb : Bool, bb = (decide (p ≠ 0) && decide ((man L (d.getD p 0)).club ≠ 0)) → J_law03_LotLawful_7 W (endK K E) bb s8.size s.size (some a) d.length p d.length r t2 := by
        intro bb hbb
        unfold J_law03_LotLawful_7
        refine BR_bool (fun h2 => ?_) (fun h2 => j6 _ ?_)
        · rw [h2] at hbb
          obtain ⟨hk0, hc0⟩ : p ≠ 0 ∧ (man L (d.getD p 0)).club ≠ 0 := by simpa using hbb.symm
          obtain ⟨a', b', ha', hb', g', hlt', gg1, _, _⟩ := man_at (hm.ext (e1.trans e19)) (hrow.ext e49) pd.lt (show p - 1 < d.length by omega)
          have hp : prev d p = d.getD (p - 1) 0 := by unfold prev; rw [if_neg hk0]
          have hw' : IntKind.wrap .i64 ((p : Int) - 1) = ((p - 1 : Nat) : Int) := by rw [wrap_i64 (by omega) (by omega)]; omega
          refine ⟨_, o0.cell, _, _, _, e19.cell c0, ⟨_, _, _, e19.cell c0, rfl⟩, ⟨_, o0.cell, rfl⟩, ?_⟩
          rw [hw']
          have hmx : (if ((p - 1 : Nat) : Int) > 0 then ((p - 1 : Nat) : Int) else 0) = ((p - 1 : Nat) : Int) := by split <;> omega
          rw [hmx]
          have ti' : (((p - 1 : Nat) : Int)).toNat = p - 1 := by omega
          have tm' : (((d.getD (p - 1) 0 : Nat) : Int)).toNat = d.getD (p - 1) 0 := by omega
          refine ⟨a', ha', ⟨by omega, by omega⟩, _, by rw [ti']; exact g', b', hb', ⟨by omega, by omega⟩, _, by rw [tm']; exact gg1, ?_⟩
          refine j6 _ ?_
          unfold r1
          rw [hp]
          have h8 : d.getD (p - 1) 0 ≠ 8 := by omega
          simp only [h8, hc0, ne_eq, not_false_eq_true, decide_true, Bool.true_and, Bool.beq_eq_decide_eq]
        · rw [h2] at hbb
          unfold r1
          by_cases hk0 : p = 0
          · have : prev d p = 8 := by unfold prev; rw [if_pos hk0]
            rw [this]; simp
          · simp [hk0] at hbb
            simp [hbb]
      refine BR_dec (fun h2 => ?_) (fun h2 => ?_)
      · refine ⟨_, o0.cell, ?_⟩
        refine j7 _ ?_
        have : p ≠ 0 := by omega
        simp [this, bne, Bool.beq_eq_decide_eq]
      · refine j7 _ ?_
        have : p = 0 := by omega
        simp [this]
end
end Go.Proofs.Ytocnkdkgajdejaa.G

/- Draws of plots, in plain Lean: all lawful draws, in order. -/
namespace Go.Lot

/-- All lawful draws that go on, by who is left, and who came last. -/
def allF (L : Lts) : Nat → Nat → Nat → List (List Nat)
  | 0, _, _ => [[]]
  | f + 1, left, b => if left = 0 then [[]] else (menOf L.n left).flatMap fun m => if brk L (plotOf L.n left) m b = 0 then (allF L f (left - 2 ^ m) m).map (m :: ·) else []
def allL (L : Lts) (left b : Nat) : List (List Nat) := allF L 9 left b
def allD (L : Lts) : List (List Nat) := allL L (full L.n) 8
def okC (C : Nat → Nat → Bool) : Nat → List Nat → Bool
  | _, [] => true
  | q, m :: r => C q m && okC C (q + 1) r

theorem allF_zero (L : Lts) (f b : Nat) : allF L f 0 b = [[]] := by cases f <;> rfl
theorem allF_succ (L : Lts) (f left b : Nat) : allF L (f + 1) left b = if left = 0 then [[]] else (menOf L.n left).flatMap fun m => if brk L (plotOf L.n left) m b = 0 then (allF L f (left - 2 ^ m) m).map (m :: ·) else [] := rfl
theorem flatMap_congr' {α β : Type} {f g : α → List β} : ∀ (l : List α), (∀ x ∈ l, f x = g x) → l.flatMap f = l.flatMap g
  | [], _ => rfl
  | a :: l, h => by rw [List.flatMap_cons, List.flatMap_cons, h a (by simp), flatMap_congr' l (fun x hx => h x (by simp [hx]))]
theorem lt256 {n left : Nat} (hn : n ≤ 8) (hl : left < 2 ^ n) : left < 256 := Nat.lt_of_lt_of_le hl (show 2 ^ n ≤ 2 ^ 8 from Nat.pow_le_pow_right (by omega) hn)
theorem allF_stable (L : Lts) (hn : L.n ≤ 8) : ∀ (f left b : Nat), left < 2 ^ L.n → (menOf L.n left).length ≤ f → allF L f left b = allF L (f + 1) left b
  | 0, left, b, hl, hf => by
    have : left = 0 := menOf_nil hl (by omega)
    subst this; rw [allF_zero, allF_zero]
  | f + 1, left, b, hl, hf => by
    rw [allF_succ, allF_succ L (f + 1)]
    split
    · rfl
    · refine flatMap_congr' _ fun m hm => ?_
      obtain ⟨h1, h2⟩ := menOf_mem.1 hm
      have h3 := clr_len hn (lt256 hn hl) h1 h2
      rw [allF_stable L hn f (left - 2 ^ m) m (Nat.lt_of_le_of_lt (Nat.sub_le _ _) hl) (by omega)]
theorem allL_eq (L : Lts) (hn : L.n ≤ 8) {left b : Nat} (hl : left < 2 ^ L.n) (h0 : left ≠ 0) :
    allL L left b = (menOf L.n left).flatMap fun m => if brk L (plotOf L.n left) m b = 0 then (allL L (left - 2 ^ m) m).map (m :: ·) else [] := by
  unfold allL
  rw [allF_succ, if_neg h0]
  refine flatMap_congr' _ fun m hm => ?_
  obtain ⟨h1, h2⟩ := menOf_mem.1 hm
  have h3 := clr_len hn (lt256 hn hl) h1 h2
  have h4 := menOf_len_le L.n left
  rw [allF_stable L hn 8 (left - 2 ^ m) m (Nat.lt_of_le_of_lt (Nat.sub_le _ _) hl) (by omega)]
theorem allL_zero (L : Lts) (b : Nat) : allL L 0 b = [[]] := allF_zero L 9 b
/-- One less is left, one plot further. -/
theorem plot_clr {n left m : Nat} (hn : n ≤ 8) (hl : left < 2 ^ n) (hm : m < n) (hb : left.testBit m = true) : plotOf n (left - 2 ^ m) = plotOf n left + 1 := by
  unfold plotOf
  rw [menOf_clr hn (lt256 hn hl) hm hb]
  have hmem : m ∈ menOf n left := menOf_mem.2 ⟨hm, hb⟩
  have hnd := nodup_menOf n left
  have key : ∀ (l : List Nat), l.Nodup → m ∈ l → (l.filter (· != m)).length + 1 = l.length := by
    intro l
    induction l with
    | nil => intro _ h; cases h
    | cons a l ih =>
      intro hnd hmem
      obtain ⟨h1, h2⟩ := List.nodup_cons.1 hnd
      by_cases e : a = m
      · subst e
        have : l.filter (· != a) = l := List.filter_eq_self.2 fun x hx => by
          have : x ≠ a := fun e => h1 (e ▸ hx)
          simp [this]
        simp [this]
      · have hm' : m ∈ l := by rcases List.mem_cons.1 hmem with h | h; exact absurd h.symm e; exact h
        have := ih h2 hm'
        simp [e]; omega
  have h1 := key _ hnd hmem
  have h2 := menOf_len_le n left
  omega
theorem cnt_all (L : Lts) (C : Nat → Nat → Bool) (hn : L.n ≤ 8) : ∀ (f left b : Nat), left < 2 ^ L.n → (menOf L.n left).length ≤ f → cntF L C f left b = ((allF L f left b).filter (okC C (plotOf L.n left))).length
  | 0, left, b, hl, hf => by
    have : left = 0 := menOf_nil hl (by omega)
    subst this; rw [allF_zero, cntF_zero]; rfl
  | f + 1, left, b, hl, hf => by
    rw [allF_succ]
    unfold cntF
    split
    · rfl
    · rename_i h0
      have key : ∀ (l : List Nat), (∀ m ∈ l, m ∈ menOf L.n left) → (l.map fun m => if brk L (plotOf L.n left) m b = 0 ∧ C (plotOf L.n left) m = true then cntF L C f (left - 2 ^ m) m else 0).sum =
          ((l.flatMap fun m => if brk L (plotOf L.n left) m b = 0 then (allF L f (left - 2 ^ m) m).map (m :: ·) else []).filter (okC C (plotOf L.n left))).length := by
        intro l
        induction l with
        | nil => intro _; rfl
        | cons m l ih =>
          intro hl'
          rw [List.map_cons, List.sum_cons, List.flatMap_cons, List.filter_append, List.length_append, ih (fun x hx => hl' x (by simp [hx]))]
          congr 1
          obtain ⟨h1, h2⟩ := menOf_mem.1 (hl' m (by simp))
          have h3 := clr_len hn (lt256 hn hl) h1 h2
          by_cases hb : brk L (plotOf L.n left) m b = 0
          · rw [if_pos hb, List.filter_map, List.length_map]
            have e : (okC C (plotOf L.n left)) ∘ (m :: ·) = fun r => C (plotOf L.n left) m && okC C (plotOf L.n left + 1) r := by funext r; rfl
            rw [e]
            by_cases hc : C (plotOf L.n left) m = true
            · rw [if_pos ⟨hb, hc⟩, cnt_all L C hn f (left - 2 ^ m) m (Nat.lt_of_le_of_lt (Nat.sub_le _ _) hl) (by omega), plot_clr hn hl h1 h2, hc]
              simp
            · rw [if_neg (fun h => hc h.2)]
              have hc' : C (plotOf L.n left) m = false := by simpa using hc
              have hnil : (allF L f (left - 2 ^ m) m).filter (fun r => C (plotOf L.n left) m && okC C (plotOf L.n left + 1) r) = [] := List.filter_eq_nil_iff.2 fun r _ => by rw [hc']; simp
              rw [hnil]; rfl
          · rw [if_neg hb, if_neg (fun h => hb h.1)]; rfl
      exact key _ (fun m hm => hm)
theorem okC_any : ∀ (q : Nat) (d : List Nat), okC anyC q d = true
  | _, [] => rfl
  | q, m :: r => by show (anyC q m && okC anyC (q + 1) r) = true; rw [okC_any (q + 1) r]; rfl
theorem cnt_len (L : Lts) (hn : L.n ≤ 8) {left b : Nat} (hl : left < 2 ^ L.n) : cnt L anyC left b = (allL L left b).length := by
  unfold cnt allL
  rw [cnt_all L anyC hn 9 left b hl (Nat.le_trans (menOf_len_le _ _) (by omega)), List.filter_eq_self.2 (fun d _ => okC_any _ d)]
/-- Just the lawful ones are among them. -/
theorem mem_all (L : Lts) (hn : L.n ≤ 8) : ∀ (d : List Nat) (left b : Nat), left < 2 ^ L.n → (d ∈ allL L left b ↔ Law L d left b)
  | [], left, b, hl => by
    by_cases h0 : left = 0
    · subst h0; rw [allL_zero]; simp [Law]
    · rw [allL_eq L hn hl h0]
      constructor
      · intro h
        obtain ⟨m, _, hm⟩ := List.mem_flatMap.1 h
        split at hm
        · obtain ⟨r, _, hr⟩ := List.mem_map.1 hm; cases hr
        · cases hm
      · intro h; exact absurd h h0
  | m :: r, left, b, hl => by
    by_cases h0 : left = 0
    · subst h0; rw [allL_zero]
      constructor
      · intro h; simp at h
      · intro h; have := h.2.1; simp at this
    · rw [allL_eq L hn hl h0]
      have ih := mem_all L hn r (left - 2 ^ m) m (Nat.lt_of_le_of_lt (Nat.sub_le _ _) hl)
      constructor
      · intro h
        obtain ⟨m', hm', hd⟩ := List.mem_flatMap.1 h
        obtain ⟨h1, h2⟩ := menOf_mem.1 hm'
        split at hd
        · rename_i hb
          obtain ⟨r', hr', he⟩ := List.mem_map.1 hd
          cases he
          exact ⟨h1, h2, hb, ih.1 hr'⟩
        · cases hd
      · rintro ⟨h1, h2, h3, h4⟩
        exact List.mem_flatMap.2 ⟨m, menOf_mem.2 ⟨h1, h2⟩, by rw [if_pos h3]; exact List.mem_map.2 ⟨r, ih.2 h4, rfl⟩⟩
/-- By the first plot that is unlike. -/
def lexLt : List Nat → List Nat → Prop
  | a :: u, b :: w => a < b ∨ (a = b ∧ lexLt u w)
  | _, _ => False
theorem lexLt_irrefl : ∀ d, ¬ lexLt d d
  | [] => id
  | a :: u => fun h => h.elim (fun h => Nat.lt_irrefl _ h) (fun h => lexLt_irrefl u h.2)
theorem lexLt_trans : ∀ (a b c : List Nat), lexLt a b → lexLt b c → lexLt a c
  | [], _, _, h, _ => h.elim
  | _ :: _, [], _, h, _ => h.elim
  | _ :: _, _ :: _, [], _, h => h.elim
  | x :: a, y :: b, z :: c, h1, h2 => by
    rcases h1 with h1 | ⟨h1, h1'⟩ <;> rcases h2 with h2 | ⟨h2, h2'⟩
    · exact .inl (Nat.lt_trans h1 h2)
    · exact .inl (h2 ▸ h1)
    · exact .inl (h1 ▸ h2)
    · exact .inr ⟨h1.trans h2, lexLt_trans a b c h1' h2'⟩
theorem lexLt_total : ∀ (a b : List Nat), a.length = b.length → a = b ∨ lexLt a b ∨ lexLt b a
  | [], [], _ => .inl rfl
  | x :: a, y :: b, h => by
    rcases Nat.lt_trichotomy x y with h1 | h1 | h1
    · exact .inr (.inl (.inl h1))
    · subst h1
      rcases lexLt_total a b (by simpa using h) with h2 | h2 | h2
      · exact .inl (by rw [h2])
      · exact .inr (.inl (.inr ⟨rfl, h2⟩))
      · exact .inr (.inr (.inr ⟨rfl, h2⟩))
    · exact .inr (.inr (.inl h1))
theorem menOf_sorted (n left : Nat) : (menOf n left).Pairwise (· < ·) := by
  unfold menOf
  exact List.Pairwise.sublist List.filter_sublist List.pairwise_lt_range
/-- They are in order. -/
theorem sorted_all (L : Lts) (hn : L.n ≤ 8) : ∀ (f left b : Nat), left < 2 ^ L.n → (menOf L.n left).length ≤ f → (allF L f left b).Pairwise lexLt
  | 0, left, b, hl, hf => by simp [allF]
  | f + 1, left, b, hl, hf => by
    rw [allF_succ]
    split
    · simp
    · have key : ∀ (l : List Nat), l.Pairwise (· < ·) → (∀ m ∈ l, m ∈ menOf L.n left) → (l.flatMap fun m => if brk L (plotOf L.n left) m b = 0 then (allF L f (left - 2 ^ m) m).map (m :: ·) else []).Pairwise lexLt := by
        intro l
        induction l with
        | nil => intro _ _; simp
        | cons m l ih =>
          intro hs hl'
          obtain ⟨hs1, hs2⟩ := List.pairwise_cons.1 hs
          rw [List.flatMap_cons, List.pairwise_append]
          obtain ⟨h1, h2⟩ := menOf_mem.1 (hl' m (by simp))
          have h3 := clr_len hn (lt256 hn hl) h1 h2
          refine ⟨?_, ih hs2 (fun x hx => hl' x (by simp [hx])), ?_⟩
          · split
            · refine List.pairwise_map.2 ?_
              exact List.Pairwise.imp (fun h => .inr ⟨rfl, h⟩) (sorted_all L hn f (left - 2 ^ m) m (Nat.lt_of_le_of_lt (Nat.sub_le _ _) hl) (by omega))
            · exact List.Pairwise.nil
          · intro x hx y hy
            split at hx
            · obtain ⟨x', _, rfl⟩ := List.mem_map.1 hx
              obtain ⟨m', hm', hy'⟩ := List.mem_flatMap.1 hy
              split at hy'
              · obtain ⟨y', _, rfl⟩ := List.mem_map.1 hy'
                exact .inl (hs1 m' hm')
              · cases hy'
            · cases hx
      exact key _ (menOf_sorted _ _) (fun m hm => hm)
theorem allD_sorted (L : Lts) (hn : L.n ≤ 8) {left b : Nat} (hl : left < 2 ^ L.n) : (allL L left b).Pairwise lexLt := sorted_all L hn 9 left b hl (Nat.le_trans (menOf_len_le _ _) (by omega))
/-- Of those who can come now alone. -/
theorem allL_cans (L : Lts) (hn : L.n ≤ 8) {left b : Nat} (hl : left < 2 ^ L.n) (h0 : left ≠ 0) : allL L left b = (cans L left b).flatMap fun m => (allL L (left - 2 ^ m) m).map (m :: ·) := by
  rw [allL_eq L hn hl h0]
  unfold cans
  have key : ∀ (l : List Nat), (l.flatMap fun m => if brk L (plotOf L.n left) m b = 0 then (allL L (left - 2 ^ m) m).map (m :: ·) else []) = (l.filter (good L left b)).flatMap fun m => (allL L (left - 2 ^ m) m).map (m :: ·) := by
    intro l
    induction l with
    | nil => rfl
    | cons m l ih =>
      rw [List.flatMap_cons, ih]
      by_cases hg : good L left b m = true
      · have hb : brk L (plotOf L.n left) m b = 0 := by unfold good at hg; simp at hg; exact hg.1
        rw [if_pos hb, List.filter_cons, if_pos hg, List.flatMap_cons]
      · rw [List.filter_cons, if_neg hg]
        split
        · rename_i hb
          have hc : cnt L anyC (left - 2 ^ m) m = 0 := by
            unfold good at hg
            simp [hb] at hg
            omega
          rw [cnt_len L hn (Nat.lt_of_le_of_lt (Nat.sub_le _ _) hl)] at hc
          rw [List.eq_nil_of_length_eq_zero hc]; rfl
        · rfl
  exact key _
theorem flat_get (B : Nat → List (List Nat)) : ∀ (l : List Nat) (i : Nat) (hi : i < l.length) (j : Nat), j < (B l[i]).length → (l.flatMap B)[((l.take i).map fun m => (B m).length).sum + j]? = (B l[i])[j]?
  | [], i, hi, j, hj => by simp at hi
  | m :: l, 0, hi, j, hj => by
    rw [List.flatMap_cons]
    simp only [List.take_zero, List.map_nil, List.sum_nil, Nat.zero_add]
    rw [List.getElem?_append_left (by simpa using hj)]
    rfl
  | m :: l, i + 1, hi, j, hj => by
    rw [List.flatMap_cons]
    simp only [List.take_succ_cons, List.map_cons, List.sum_cons, List.getElem_cons_succ] at hj ⊢
    rw [List.getElem?_append_right (by omega)]
    have := flat_get B l i (by simpa using hi) j hj
    rw [← this]
    congr 1; omega
theorem manys_sum (L : Lts) (hn : L.n ≤ 8) {left b : Nat} (hl : left < 2 ^ L.n) (i : Nat) : ((manys L left b).take i).sum = (((cans L left b).take i).map fun m => ((allL L (left - 2 ^ m) m).map (m :: ·)).length).sum := by
  unfold manys
  rw [← List.map_take]
  congr 1
  apply List.map_congr_left
  intro m _
  rw [List.length_map, cnt_len L hn (Nat.lt_of_le_of_lt (Nat.sub_le _ _) hl)]
/-- The one with an index. -/
theorem nth_all (L : Lts) (hn : L.n ≤ 8) : ∀ (f n left b : Nat), left < 2 ^ L.n → (menOf L.n left).length ≤ f → n < cnt L anyC left b → (allL L left b)[n]? = some (runC (nthN L) f n left b)
  | 0, n, left, b, hl, hf, h => by
    have : left = 0 := menOf_nil hl (by omega)
    subst this
    have hc : cnt L anyC 0 b = 1 := cntF_zero L anyC 9 b
    have : n = 0 := by omega
    subst this
    rw [allL_zero]; rfl
  | f + 1, n, left, b, hl, hf, h => by
    by_cases h0 : left = 0
    · subst h0
      have hc : cnt L anyC 0 b = 1 := cntF_zero L anyC 9 b
      have : n = 0 := by omega
      subst this
      rw [allL_zero]; rfl
    · obtain ⟨i, h1, h2, h3, h4, h5⟩ := nth_ok L hn hl h0 h
      have hi : i < (cans L left b).length := (List.getElem?_eq_some_iff.1 h1).1
      have hci : (cans L left b)[i] = (nthN L n left b).1 := by rw [List.getElem?_eq_getElem hi] at h1; exact Option.some.inj h1
      have hmem : (nthN L n left b).1 ∈ menOf L.n left := by rw [← hci]; exact (List.mem_filter.1 (List.getElem_mem hi)).1
      obtain ⟨hm1, hm2⟩ := menOf_mem.1 hmem
      have hclr := clr_len hn (lt256 hn hl) hm1 hm2
      have hl2 : left - 2 ^ (nthN L n left b).1 < 2 ^ L.n := Nat.lt_of_le_of_lt (Nat.sub_le _ _) hl
      have ih := nth_all L hn f (nthN L n left b).2 (left - 2 ^ (nthN L n left b).1) (nthN L n left b).1 hl2 (by omega) h2
      have hrun : runC (nthN L) (f + 1) n left b = (nthN L n left b).1 :: runC (nthN L) f (nthN L n left b).2 (left - 2 ^ (nthN L n left b).1) (nthN L n left b).1 := by
        show (if left = 0 then [] else _) = _
        rw [if_neg h0]
      rw [hrun, allL_cans L hn hl h0]
      have hlt : (nthN L n left b).2 < ((fun m => (allL L (left - 2 ^ m) m).map (m :: ·)) (cans L left b)[i]).length := by
        rw [hci]
        simp only [List.length_map]
        rw [← cnt_len L hn hl2]; exact h2
      have hg := flat_get (fun m => (allL L (left - 2 ^ m) m).map (m :: ·)) (cans L left b) i hi (nthN L n left b).2 hlt
      rw [← manys_sum L hn hl i] at hg
      have hidx : ((manys L left b).take i).sum + (nthN L n left b).2 = n := by omega
      rw [hidx] at hg
      rw [hg, hci]
      simp only [List.getElem?_map, ih]
      rfl
/-- The place of a lawful one. -/
theorem place_all (L : Lts) (hn : L.n ≤ 8) : ∀ (d : List Nat) (left b : Nat), left < 2 ^ L.n → Law L d left b → (allL L left b)[placeN L d left b]? = some d
  | [], left, b, hl, h => by
    have : left = 0 := h
    subst this
    rw [allL_zero]; rfl
  | m :: r, left, b, hl, h => by
    have hc := law_can L hn hl h
    obtain ⟨h1, h2, h3, h4⟩ := h
    have h0 : left ≠ 0 := fun e => by subst e; simp at h2
    have hl2 : left - 2 ^ m < 2 ^ L.n := Nat.lt_of_le_of_lt (Nat.sub_le _ _) hl
    have ih := place_all L hn r (left - 2 ^ m) m hl2 h4
    rw [allL_cans L hn hl h0]
    have hi : (cans L left b).idxOf m < (cans L left b).length := List.idxOf_lt_length_of_mem hc
    have hci : (cans L left b)[(cans L left b).idxOf m] = m := List.getElem_idxOf hi
    have hlt : placeN L r (left - 2 ^ m) m < ((fun m => (allL L (left - 2 ^ m) m).map (m :: ·)) (cans L left b)[(cans L left b).idxOf m]).length := by
      rw [hci]
      simp only [List.length_map]
      exact (List.getElem?_eq_some_iff.1 ih).1
    have hg := flat_get (fun m => (allL L (left - 2 ^ m) m).map (m :: ·)) (cans L left b) ((cans L left b).idxOf m) hi (placeN L r (left - 2 ^ m) m) hlt
    rw [← manys_sum L hn hl _] at hg
    show ((cans L left b).flatMap _)[((manys L left b).take ((cans L left b).idxOf m)).sum + placeN L r (left - 2 ^ m) m]? = _
    rw [hg, hci]
    simp only [List.getElem?_map, ih]
    rfl
end Go.Lot

/- Draws of plots, in plain Lean: what the lawful draws are; how often somebody has a plot. -/
set_option linter.unusedSimpArgs false
set_option linter.unusedVariables false
namespace Go.Proofs.Ytocnkdkgajdejaa.G
open Go.V Go.Lot
theorem law_perm {L : Lts} (hn : L.n ≤ 8) : ∀ (d : List Nat) (left b : Nat), left < 2 ^ L.n → Law L d left b → d.Nodup ∧ (∀ m ∈ d, m < L.n) ∧ (∀ j, j < L.n → (left.testBit j = true ↔ j ∈ d))
  | [], left, b, hl, h => by
    have : left = 0 := h
    subst this
    exact ⟨List.nodup_nil, by simp, by simp⟩
  | m :: r, left, b, hl, h => by
    obtain ⟨h1, h2, h3, h4⟩ := h
    obtain ⟨i1, i2, i3⟩ := law_perm hn r (left - 2 ^ m) m (Nat.lt_of_le_of_lt (Nat.sub_le _ _) hl) h4
    have hb := clr_bits left (lt256 hn hl) m (by omega) h2
    have hnot : m ∉ r := fun hm => by
      have := (i3 m h1).2 hm
      rw [hb m (by omega)] at this
      simp at this
    refine ⟨List.nodup_cons.2 ⟨hnot, i1⟩, ?_, ?_⟩
    · intro x hx
      rcases List.mem_cons.1 hx with rfl | hx
      · exact h1
      · exact i2 x hx
    · intro j hj
      have := i3 j hj
      rw [hb j (by omega)] at this
      by_cases e : j = m
      · subst e; simp [h2]
      · simp [e] at this ⊢; exact this
theorem law_clean {L : Lts} (hn : L.n ≤ 8) : ∀ (d : List Nat) (left b : Nat), left < 2 ^ L.n → Law L d left b → ∀ j, j < d.length → brk L (plotOf L.n left + j) (d.getD j 0) (if j = 0 then b else d.getD (j - 1) 0) = 0
  | [], left, b, hl, h => by simp
  | m :: r, left, b, hl, h => by
    obtain ⟨h1, h2, h3, h4⟩ := h
    have ih := law_clean hn r (left - 2 ^ m) m (Nat.lt_of_le_of_lt (Nat.sub_le _ _) hl) h4
    rw [plot_clr hn hl h1 h2] at ih
    intro j hj
    cases j with
    | zero => simpa using h3
    | succ j =>
      have := ih j (by simpa using hj)
      rw [show plotOf L.n left + (j + 1) = plotOf L.n left + 1 + j by omega, if_neg (by omega)]
      cases j with
      | zero => simpa using this
      | succ j => simpa using this
theorem full_lt8 {n : Nat} : full n < 2 ^ n := by unfold full; have : 0 < 2 ^ n := Nat.pos_of_ne_zero (by simp); omega
theorem plot_full {n : Nat} : plotOf n (full n) = 0 := by
  unfold plotOf menOf
  rw [List.filter_eq_self.2 (fun i hi => full_bits (List.mem_range.1 hi))]
  simp
theorem perm_of_mem {n : Nat} {d : List Nat} (hd : d.Nodup) (hlt : ∀ m ∈ d, m < n) (hall : ∀ j, j < n → j ∈ d) : Perm0 n d := by
  refine ⟨?_, hd, hlt⟩
  have h1 : d.Perm (List.range n) := by
    rw [List.perm_iff_count]
    intro a
    rw [hd.count, List.nodup_range.count]
    by_cases h : a ∈ d
    · rw [if_pos h, if_pos (List.mem_range.2 (hlt a h))]
    · rw [if_neg h, if_neg (fun h' => h (hall a (List.mem_range.1 h')))]
  rw [h1.length_eq, List.length_range]
/-- Just those that are draws, and break nothing, are lawful. -/
theorem mem_allD {L : Lts} (hn : L.n ≤ 8) {d : List Nat} : d ∈ allD L ↔ Perm0 L.n d ∧ wrong L d = none := by
  unfold allD
  rw [mem_all L hn d _ _ full_lt8]
  constructor
  · intro h
    obtain ⟨h1, h2, h3⟩ := law_perm hn d _ _ full_lt8 h
    refine ⟨perm_of_mem h1 h2 (fun j hj => (h3 j hj).1 (full_bits hj)), wrong_none.2 fun j hj => ?_⟩
    have := law_clean hn d _ _ full_lt8 h j hj
    rw [plot_full, Nat.zero_add] at this
    exact this
  · rintro ⟨h1, h2⟩
    exact law_full hn h1.nd h1.lt h1.len h2
theorem cntAll_len {L : Lts} (hn : L.n ≤ 8) (C : Nat → Nat → Bool) : cntAll L C = ((allD L).filter (okC C 0)).length := by
  unfold cntAll cnt allD allL
  rw [cnt_all L C hn 9 _ 8 full_lt8 (Nat.le_trans (menOf_len_le _ _) (by omega)), plot_full]
theorem cntAny_len {L : Lts} (hn : L.n ≤ 8) : cntAll L anyC = (allD L).length := by
  rw [cntAll_len hn, List.filter_eq_self.2 (fun d _ => okC_any _ d)]
theorem okC_iff {C : Nat → Nat → Bool} : ∀ (d : List Nat) (q : Nat), okC C q d = true ↔ ∀ j, j < d.length → C (q + j) (d.getD j 0) = true
  | [], q => by simp [okC]
  | m :: r, q => by
    show (C q m && okC C (q + 1) r) = true ↔ _
    rw [Bool.and_eq_true, okC_iff r (q + 1)]
    constructor
    · rintro ⟨h1, h2⟩ j hj
      cases j with
      | zero => simpa using h1
      | succ j =>
        have := h2 j (by simpa using hj)
        rw [show q + (j + 1) = q + 1 + j by omega]
        simpa using this
    · intro h
      refine ⟨by simpa using h 0 (by simp), fun j hj => ?_⟩
      have := h (j + 1) (by simpa using hj)
      rw [show q + (j + 1) = q + 1 + j by omega] at this
      simpa using this
theorem perm_inj {n : Nat} {d : List Nat} (h : Perm0 n d) {i j : Nat} (hi : i < n) (hj : j < n) (e : d.getD i 0 = d.getD j 0) : i = j := by
  have hi' : i < d.length := by rw [h.len]; exact hi
  have hj' : j < d.length := by rw [h.len]; exact hj
  have e1 : d.getD i 0 = d[i] := by simp [List.getD, hi']
  have e2 : d.getD j 0 = d[j] := by simp [List.getD, hj']
  rw [e1, e2] at e
  have hpw := List.pairwise_iff_getElem.1 h.nd
  rcases Nat.lt_trichotomy i j with h1 | h1 | h1
  · exact absurd e (hpw i j hi' hj' h1)
  · exact h1
  · exact absurd e.symm (hpw j i hj' hi' h1)
theorem those_iff {n p m : Nat} {d : List Nat} (h : Perm0 n d) (hp : p < n) : okC (thoseC p m) 0 d = (d.getD p 0 == m) := by
  rw [Bool.eq_iff_iff, okC_iff]
  constructor
  · intro hh
    have := hh p (by rw [h.len]; exact hp)
    unfold thoseC at this
    simp only [Nat.zero_add, beq_self_eq_true] at this
    simpa using this
  · intro hh j hj
    have hm : d.getD p 0 = m := by simpa using hh
    unfold thoseC
    rw [Nat.zero_add]
    by_cases e : j = p
    · subst e; rw [hm]; simp
    · have : d.getD j 0 ≠ m := fun e' => e (perm_inj h (by rw [← h.len]; exact hj) hp (e'.trans hm.symm))
      have h1 : (j == p) = false := by simpa using e
      have h2 : (d.getD j 0 == m) = false := by simpa using this
      rw [h1, h2]; rfl
theorem perm_get {n p : Nat} {d : List Nat} (h : Perm0 n d) (hp : p < n) : d.getD p 0 < n := by
  have hp' : p < d.length := by rw [h.len]; exact hp
  have e : d.getD p 0 = d[p] := by simp [List.getD, hp']
  rw [e]; exact h.lt _ (List.getElem_mem _)
/-- Somebody has a plot in so many lawful draws. -/
def ofN (L : Lts) (m p : Nat) : Nat := cntAll L (thoseC p m)
theorem ofN_eq {L : Lts} (hn : L.n ≤ 8) {m p : Nat} (hp : p < L.n) : ofN L m p = ((allD L).filter fun d => d.getD p 0 == m).length := by
  unfold ofN
  rw [cntAll_len hn]
  congr 1
  apply List.filter_congr
  intro d hd
  exact those_iff ((mem_allD hn).1 hd).1 hp
theorem ofN_pos {L : Lts} (hn : L.n ≤ 8) {m p : Nat} (hp : p < L.n) : 0 < ofN L m p ↔ ∃ d, Perm0 L.n d ∧ wrong L d = none ∧ d.getD p 0 = m := by
  rw [ofN_eq hn hp, List.length_pos_iff_exists_mem]
  constructor
  · rintro ⟨d, hd⟩
    obtain ⟨h1, h2⟩ := List.mem_filter.1 hd
    obtain ⟨h3, h4⟩ := (mem_allD hn).1 h1
    exact ⟨d, h3, h4, by simpa using h2⟩
  · rintro ⟨d, h1, h2, h3⟩
    exact ⟨d, List.mem_filter.2 ⟨(mem_allD hn).2 ⟨h1, h2⟩, by simpa using h3⟩⟩
theorem sum_one {p : Nat → Bool} : ∀ (n i : Nat), i < n → p i = true → (∀ j, j < n → p j = true → j = i) → ((List.range n).map fun j => if p j then 1 else 0).sum = 1
  | 0, i, h, _, _ => by omega
  | n + 1, i, h, hp, hu => by
    rw [List.range_succ, List.map_append, List.sum_append]
    by_cases e : i = n
    · subst e
      have : ((List.range i).map fun j => if p j then 1 else 0).sum = 0 := by
        have key : ∀ (l : List Nat), (∀ x ∈ l, x < i) → (l.map fun j => if p j then 1 else 0).sum = 0 := by
          intro l
          induction l with
          | nil => intro _; rfl
          | cons a l ih =>
            intro hl
            have ha := hl a (by simp)
            have hpa : p a = false := by
              cases h : p a with
              | false => rfl
              | true => have := hu a (by omega) h; omega
            rw [List.map_cons, List.sum_cons, ih (fun x hx => hl x (by simp [hx])), hpa]; rfl
        exact key _ (fun x hx => List.mem_range.1 hx)
      rw [this]; simp [hp]
    · have hpn : p n = false := by
        cases h : p n with
        | false => rfl
        | true => exact absurd (hu n (by omega) h).symm e
      rw [sum_one n i (by omega) hp (fun j hj hpj => hu j (by omega) hpj)]
      simp [hpn]
theorem sum_map_add (f g : Nat → Nat) : ∀ (l : List Nat), (l.map fun i => f i + g i).sum = (l.map f).sum + (l.map g).sum
  | [] => rfl
  | a :: l => by simp only [List.map_cons, List.sum_cons]; rw [sum_map_add f g l]; omega
theorem sum_zero (l : List Nat) : (l.map fun _ => 0).sum = 0 := by induction l <;> simp_all
/-- Each one of a list has just one of the first numbers. -/
theorem sum_count {α : Type} {P : α → Nat → Bool} {n : Nat} : ∀ (l : List α), (∀ d ∈ l, ∃ i, i < n ∧ P d i = true ∧ ∀ j, j < n → P d j = true → j = i) → ((List.range n).map fun i => (l.filter fun d => P d i).length).sum = l.length
  | [], _ => sum_zero _
  | d :: l, h => by
    obtain ⟨i, h1, h2, h3⟩ := h d (by simp)
    have e : (fun i => ((d :: l).filter fun d => P d i).length) = fun i => (if P d i then 1 else 0) + (l.filter fun d => P d i).length := by
      funext i
      rw [List.filter_cons]
      cases hp : P d i <;> simp [hp]; omega
    rw [e, sum_map_add, sum_one n i h1 h2 h3, sum_count l (fun x hx => h x (by simp [hx]))]
    simp; omega
def ofPlots (L : Lts) (m k : Nat) : Nat := ((List.range k).map fun i => ofN L m i).sum
def ofMen (L : Lts) (p k : Nat) : Nat := ((List.range k).map fun i => ofN L i p).sum
theorem ofPlots_succ (L : Lts) (m k : Nat) : ofPlots L m (k + 1) = ofPlots L m k + ofN L m k := by unfold ofPlots; rw [List.range_succ]; simp
theorem ofMen_succ (L : Lts) (p k : Nat) : ofMen L p (k + 1) = ofMen L p k + ofN L k p := by unfold ofMen; rw [List.range_succ]; simp
theorem perm_has {n m : Nat} {d : List Nat} (h : Perm0 n d) (hm : m < n) : ∃ i, i < n ∧ d.getD i 0 = m := by
  have hmem : m ∈ d := by
    refine Decidable.byContradiction fun hj' => ?_
    have hsub : d ⊆ (List.range n).erase m := fun x hx => by
      refine (List.nodup_range.mem_erase_iff).2 ⟨fun e => hj' (e ▸ hx), List.mem_range.2 (h.lt x hx)⟩
    have h1 := h.nd.length_le_of_subset hsub
    rw [List.length_erase_of_mem (List.mem_range.2 hm), List.length_range, h.len] at h1
    omega
  obtain ⟨i, hi, e⟩ := List.getElem_of_mem hmem
  exact ⟨i, by rw [← h.len]; exact hi, by simp [List.getD, hi, e]⟩
theorem ofPlots_all {L : Lts} (hn : L.n ≤ 8) {m : Nat} (hm : m < L.n) : ofPlots L m L.n = cntAll L anyC := by
  unfold ofPlots
  rw [cntAny_len hn]
  have e : ((List.range L.n).map fun i => ofN L m i) = (List.range L.n).map fun i => ((allD L).filter fun d => d.getD i 0 == m).length := by
    apply List.map_congr_left
    intro i hi
    exact ofN_eq hn (List.mem_range.1 hi)
  rw [e]
  refine sum_count (P := fun (d : List Nat) i => d.getD i 0 == m) _ fun d hd => ?_
  have hp := ((mem_allD hn).1 hd).1
  obtain ⟨i, h1, h2⟩ := perm_has hp hm
  exact ⟨i, h1, by simpa using h2, fun j hj h3 => perm_inj hp hj h1 (by rw [h2]; simpa using h3)⟩
theorem ofMen_all {L : Lts} (hn : L.n ≤ 8) {p : Nat} (hp : p < L.n) : ofMen L p L.n = cntAll L anyC := by
  unfold ofMen
  rw [cntAny_len hn]
  have e : ((List.range L.n).map fun i => ofN L i p) = (List.range L.n).map fun i => ((allD L).filter fun d => d.getD p 0 == i).length := by
    apply List.map_congr_left
    intro i _
    exact ofN_eq hn hp
  rw [e]
  refine sum_count (P := fun (d : List Nat) i => d.getD p 0 == i) _ fun d hd => ?_
  have hd' := ((mem_allD hn).1 hd).1
  exact ⟨d.getD p 0, perm_get hd' hp, beq_self_eq_true _, fun j _ h3 => (beq_iff_eq.1 h3).symm⟩
theorem ofN_le (L : Lts) (hn : L.n ≤ 8) (m p : Nat) : ofN L m p ≤ 134217728 := cnt_le L _ hn _ _
/-- Somebody who has a plot there breaks nothing. -/
theorem ofN_ok {L : Lts} (hn : L.n ≤ 8) {m p : Nat} (hp : p < L.n) (h : 0 < ofN L m p) : r2 L p m = false ∧ r3 L p m = false := by
  obtain ⟨d, h1, h2, h3⟩ := (ofN_pos hn hp).1 h
  have h4 := wrong_none.1 h2 p (by rw [h1.len]; exact hp)
  have h5 := brk_zero L p (d.getD p 0) (prev d p)
  rw [decide_eq_true h4, h3] at h5
  have h6 : (r1 L m (prev d p) || r2 L p m || r3 L p m) = false := by simpa using h5
  simp at h6
  exact ⟨h6.1.2, h6.2⟩
theorem canSet_bit (L : Lts) (man : Nat) : ∀ (k i : Nat), (canSet L man k).testBit i = (decide (i < k) && decide (0 < ofN L man i))
  | 0, i => by simp [canSet]
  | k + 1, i => by
    have ih := canSet_bit L man k i
    have hk : (canSet L man k).testBit k = false := by rw [canSet_bit L man k k]; simp
    have hof : cnt L (fun q m => (q == k) == (m == man)) (full L.n) 8 = ofN L man k := rfl
    unfold canSet
    rw [hof]
    by_cases hp : 0 < ofN L man k
    · rw [if_pos hp, Nat.testBit_or, ih, Nat.testBit_two_pow]
      by_cases e : k = i
      · subst e; simp [hp]
      · have : (i < k + 1) = (i < k) := propext (by omega)
        simp [e, this]
    · rw [if_neg hp, ih]
      by_cases e : k = i
      · subst e; simp [hp]
      · have : (i < k + 1) = (i < k) := propext (by omega)
        simp [this]
end Go.Proofs.Ytocnkdkgajdejaa.G

/- More of the functions' shallow texts, by gen.py. -/
set_option linter.unusedVariables false
set_option maxRecDepth 100000
namespace Go.Proofs.Ytocnkdkgajdejaa.G
open Go.V
def an_8 : Nat → Ann := fun b => match b with
  | 0 => { ms := [6, 14, 15, 68], ks := [.b, .i .i64, .i .i64, .i .i64], us := [3, 7, 8, 9, 10, 12, 67, 163], rt := false, ex := [] }
  | _ => {}
abbrev rv_8 : List ResultVar := [.tmp 6]
abbrev rs_8 : List Nat := [163, 6]
def L_law03_LotOften_0 (W : World) (R : Ending → Hp → Prop) (za0 : Addr) (zn1 : Int) (zn2 : Int) (zn3 : Int) (zn4 : Int) (zn5 : Int) (b58 : Bool) (n59 : Int) (n60 : Int) (n61 : Int) : Hp → Prop :=
  LOOPN [.b, .i .i64, .i .i64, .i .i64] (fun ys next s => ∀ j : Tm, vc Pg W 163 rs_8 an_8 false (sub (bodyOf Try.f8) [1, 1, 1, 1, 1, 1, 1, 1, 0, 1, 0, 0]) 0 (KLoop [6, 14, 15, 68] [3, 7, 8, 9, 10, 12, 67, 163] [(.pointer (some za0)), (.int .i64 zn1), (.int .i64 zn2), (.int .i64 zn3), (.int .i64 zn4), (.int .i64 zn5), (.int .i64 zn1), (.tuple #[])] next (KBlk 0 (KS Pg W 163 rs_8 an_8 false (sub (bodyOf Try.f8) [1, 1, 1, 1, 1, 1, 1, 1, 1]) 0 (fin Pg W 163 rv_8 R)))) (known [6, 14, 15, 68] ys (known [3, 7, 8, 9, 10, 12, 67, 163] [(.pointer (some za0)), (.int .i64 zn1), (.int .i64 zn2), (.int .i64 zn3), (.int .i64 zn4), (.int .i64 zn5), (.int .i64 zn1), (.tuple #[])] j)) s) [(.bool b58), (.int .i64 n59), (.int .i64 n60), (.int .i64 n61)]
def J_law03_LotOften_0 (W : World) (R : Ending → Hp → Prop) (b50 : Bool) (B7 : Nat) (l20 : Nat) (n5 : Int) (n6 : Int) (n31 : Int) (n44 : Int) : Hp → Prop :=
  BR b50
    (R (.returned (.bool false)))
    (L_law03_LotOften_0 W R ⟨B7, 0, none⟩ (↑l20 : Int) (Int.tmod (IntKind.wrap .i64 n5) (↑l20 : Int)) (Int.tmod (IntKind.wrap .i64 n6) (↑l20 : Int)) n31 n44 false 0 0 0)
def J_law03_LotOften_1 (W : World) (R : Ending → Hp → Prop) (b49 : Bool) (B7 : Nat) (l20 : Nat) (n5 : Int) (n6 : Int) (n31 : Int) (n44 : Int) : Hp → Prop :=
  BR b49
    (J_law03_LotOften_0 W R true B7 l20 n5 n6 n31 n44)
    (NNI (↑l20 : Int) <|
      J_law03_LotOften_0 W R ((shrv .i64 n44 (↑l20 : Int)) != 0) B7 l20 n5 n6 n31 n44)
def J_law03_LotOften_2 (W : World) (R : Ending → Hp → Prop) (b48 : Bool) (B7 : Nat) (l20 : Nat) (n5 : Int) (n6 : Int) (n31 : Int) (n44 : Int) : Hp → Prop :=
  BR b48
    (J_law03_LotOften_1 W R true B7 l20 n5 n6 n31 n44)
    (J_law03_LotOften_1 W R (decide (n44 < 0)) B7 l20 n5 n6 n31 n44)
def J_law03_LotOften_3 (W : World) (R : Ending → Hp → Prop) (b15 : Bool) (B7 : Nat) (n5 : Int) (n6 : Int) : Hp → Prop :=
  BR b15
    (CALL Pg W F_law03_awake []
      (fun v16 => TYB v16 fun b18 =>
        R (.returned (.bool b18)))
        (fun e17 => R (.panicked e17)))
    (RDL (Addr.add ⟨B7, 0, none⟩ 0) fun x19 l20 c21 =>
      NZI (↑l20 : Int) <|
        NZI (↑l20 : Int) <|
          RDL (Addr.add ⟨B7, 0, none⟩ 0) fun x22 l23 c24 =>
            RDI .i64 (Addr.add ⟨B7, 0, none⟩ 1) fun n25 =>
              CALL Pg W F_lot_Count [(.agg #[(.slice x22 l23 c24), (.int .i64 n25)])]
                (fun v26 => TUP v26 fun q28 => HD q28 fun v29 r30 => TYI .i64 v29 fun n31 =>
                  HD r30 fun v32 r33 => TYI .i64 v32 fun n34 =>
                    NL r33 <|
                      RDL (Addr.add ⟨B7, 0, none⟩ 0) fun x35 l36 c37 =>
                        RDI .i64 (Addr.add ⟨B7, 0, none⟩ 1) fun n38 =>
                          CALL Pg W F_lot_Can [(.agg #[(.slice x35 l36 c37), (.int .i64 n38)]), (.int .i64 (Int.tmod (IntKind.wrap .i64 n5) (↑l20 : Int)))]
                            (fun v39 => TUP v39 fun q41 => HD q41 fun v42 r43 => TYI .i64 v42 fun n44 =>
                              HD r43 fun v45 r46 => TYI .i64 v45 fun n47 =>
                                NL r46 <|
                                  BR (n34 != 0)
                                    (J_law03_LotOften_2 W R true B7 l20 n5 n6 n31 n44)
                                    (J_law03_LotOften_2 W R (n47 != 0) B7 l20 n5 n6 n31 n44))
                              (fun e40 => R (.panicked e40)))
                  (fun e27 => R (.panicked e27)))
def J_law03_LotOften_4 (W : World) (R : Ending → Hp → Prop) (b97 : Bool) (za0 : Addr) (zn1 : Int) (zn2 : Int) (zn3 : Int) (zn4 : Int) (zn5 : Int) (nx0 : List Value → Hp → Prop) (b58 : Bool) (n59 : Int) (n71 : Int) (n60 : Int) (n84 : Int) (n61 : Int) : Hp → Prop :=
  BR b97
    (R (.returned (.bool false)))
    (NX [(.pointer (some za0)), (.int .i64 zn1), (.int .i64 zn2), (.int .i64 zn3), (.int .i64 zn4), (.int .i64 zn5), (.int .i64 zn1), (.tuple #[])] [(.pointer (some za0)), (.int .i64 zn1), (.int .i64 zn2), (.int .i64 zn3), (.int .i64 zn4), (.int .i64 zn5), (.int .i64 zn1), (.tuple #[])] (nx0 [(.bool b58), (.int .i64 (IntKind.wrap .i64 (n59 + n71))), (.int .i64 (IntKind.wrap .i64 (n60 + n84))), (.int .i64 (IntKind.wrap .i64 (n61 + 1)))]))
def J_law03_LotOften_5 (W : World) (R : Ending → Hp → Prop) (b91 : Bool) (n71 : Int) (za0 : Addr) (zn2 : Int) (n61 : Int) (zn1 : Int) (zn3 : Int) (zn4 : Int) (zn5 : Int) (nx0 : List Value → Hp → Prop) (b58 : Bool) (n59 : Int) (n60 : Int) (n84 : Int) : Hp → Prop :=
  BR b91
    (R (.returned (.bool false)))
    (BR (decide (n71 > 0))
      (RDL (Addr.add za0 0) fun x92 l93 c94 =>
        IXS x92 l93 zn2 3 fun a95 =>
          RDB (Addr.add a95 1) fun b96 =>
            BR b96
              (BR (decide (n61 > 0))
                (BR (decide (n61 < (IntKind.wrap .i64 (zn1 - 1))))
                  (J_law03_LotOften_4 W R true za0 zn1 zn2 zn3 zn4 zn5 nx0 b58 n59 n71 n60 n84 n61)
                  (RDL (Addr.add za0 0) fun x98 l99 c100 =>
                    IXS x98 l99 zn2 3 fun a101 =>
                      RDB (Addr.add a101 2) fun b102 =>
                        BR b102
                          (RDI .i64 (Addr.add za0 1) fun n103 =>
                            NNI n61 <|
                              J_law03_LotOften_4 W R ((andv .i64 (shrv .i64 n103 n61) 1) == 1) za0 zn1 zn2 zn3 zn4 zn5 nx0 b58 n59 n71 n60 n84 n61)
                          (J_law03_LotOften_4 W R false za0 zn1 zn2 zn3 zn4 zn5 nx0 b58 n59 n71 n60 n84 n61)))
                (RDL (Addr.add za0 0) fun x104 l105 c106 =>
                  IXS x104 l105 zn2 3 fun a107 =>
                    RDB (Addr.add a107 2) fun b108 =>
                      BR b108
                        (RDI .i64 (Addr.add za0 1) fun n109 =>
                          NNI n61 <|
                            J_law03_LotOften_4 W R ((andv .i64 (shrv .i64 n109 n61) 1) == 1) za0 zn1 zn2 zn3 zn4 zn5 nx0 b58 n59 n71 n60 n84 n61)
                        (J_law03_LotOften_4 W R false za0 zn1 zn2 zn3 zn4 zn5 nx0 b58 n59 n71 n60 n84 n61)))
              (RDL (Addr.add za0 0) fun x110 l111 c112 =>
                IXS x110 l111 zn2 3 fun a113 =>
                  RDB (Addr.add a113 2) fun b114 =>
                    BR b114
                      (RDI .i64 (Addr.add za0 1) fun n115 =>
                        NNI n61 <|
                          J_law03_LotOften_4 W R ((andv .i64 (shrv .i64 n115 n61) 1) == 1) za0 zn1 zn2 zn3 zn4 zn5 nx0 b58 n59 n71 n60 n84 n61)
                      (J_law03_LotOften_4 W R false za0 zn1 zn2 zn3 zn4 zn5 nx0 b58 n59 n71 n60 n84 n61)))
      (J_law03_LotOften_4 W R false za0 zn1 zn2 zn3 zn4 zn5 nx0 b58 n59 n71 n60 n84 n61))
def J_law03_LotOften_6 (W : World) (R : Ending → Hp → Prop) (b90 : Bool) (n71 : Int) (za0 : Addr) (zn2 : Int) (n61 : Int) (zn1 : Int) (zn3 : Int) (zn4 : Int) (zn5 : Int) (nx0 : List Value → Hp → Prop) (b58 : Bool) (n59 : Int) (n60 : Int) (n84 : Int) : Hp → Prop :=
  BR b90
    (J_law03_LotOften_5 W R true n71 za0 zn2 n61 zn1 zn3 zn4 zn5 nx0 b58 n59 n60 n84)
    (NNI n61 <|
      J_law03_LotOften_5 W R (!((decide (n71 > 0)) == ((andv .i64 (shrv .i64 zn5 n61) 1) == 1))) n71 za0 zn2 n61 zn1 zn3 zn4 zn5 nx0 b58 n59 n60 n84)
def J_law03_LotOften_7 (W : World) (R : Ending → Hp → Prop) (b89 : Bool) (n71 : Int) (za0 : Addr) (zn2 : Int) (n61 : Int) (zn1 : Int) (zn3 : Int) (zn4 : Int) (zn5 : Int) (nx0 : List Value → Hp → Prop) (b58 : Bool) (n59 : Int) (n60 : Int) (n84 : Int) : Hp → Prop :=
  BR b89
    (J_law03_LotOften_6 W R true n71 za0 zn2 n61 zn1 zn3 zn4 zn5 nx0 b58 n59 n60 n84)
    (J_law03_LotOften_6 W R (decide (n84 < 0)) n71 za0 zn2 n61 zn1 zn3 zn4 zn5 nx0 b58 n59 n60 n84)
def J_law03_LotOften_8 (W : World) (R : Ending → Hp → Prop) (b88 : Bool) (n71 : Int) (za0 : Addr) (zn2 : Int) (n61 : Int) (zn1 : Int) (zn3 : Int) (zn4 : Int) (zn5 : Int) (nx0 : List Value → Hp → Prop) (b58 : Bool) (n59 : Int) (n60 : Int) (n84 : Int) : Hp → Prop :=
  BR b88
    (J_law03_LotOften_7 W R true n71 za0 zn2 n61 zn1 zn3 zn4 zn5 nx0 b58 n59 n60 n84)
    (J_law03_LotOften_7 W R (decide (n71 < 0)) n71 za0 zn2 n61 zn1 zn3 zn4 zn5 nx0 b58 n59 n60 n84)
def B_law03_LotOften_0 (W : World) (R : Ending → Hp → Prop) (za0 : Addr) (zn1 : Int) (zn2 : Int) (zn3 : Int) (zn4 : Int) (zn5 : Int) (b58 : Bool) (n59 : Int) (n60 : Int) (n61 : Int) (nx0 : List Value → Hp → Prop) : Hp → Prop :=
  BR (decide (n61 < zn1))
    (RDL (Addr.add za0 0) fun x62 l63 c64 =>
      RDI .i64 (Addr.add za0 1) fun n65 =>
        CALL Pg W F_lot_Often [(.agg #[(.slice x62 l63 c64), (.int .i64 n65)]), (.int .i64 zn2), (.int .i64 n61)]
          (fun v66 => TUP v66 fun q68 => HD q68 fun v69 r70 => TYI .i64 v69 fun n71 =>
            HD r70 fun v72 r73 => TYI .i64 v72 fun n74 =>
              NL r73 <|
                RDL (Addr.add za0 0) fun x75 l76 c77 =>
                  RDI .i64 (Addr.add za0 1) fun n78 =>
                    CALL Pg W F_lot_Often [(.agg #[(.slice x75 l76 c77), (.int .i64 n78)]), (.int .i64 n61), (.int .i64 zn3)]
                      (fun v79 => TUP v79 fun q81 => HD q81 fun v82 r83 => TYI .i64 v82 fun n84 =>
                        HD r83 fun v85 r86 => TYI .i64 v85 fun n87 =>
                          NL r86 <|
                            BR (n74 != 0)
                              (J_law03_LotOften_8 W R true n71 za0 zn2 n61 zn1 zn3 zn4 zn5 nx0 b58 n59 n60 n84)
                              (J_law03_LotOften_8 W R (n87 != 0) n71 za0 zn2 n61 zn1 zn3 zn4 zn5 nx0 b58 n59 n60 n84))
                        (fun e80 => R (.panicked e80)))
            (fun e67 => R (.panicked e67)))
    (BR (n59 == zn4)
      (BR (n60 == zn4)
        (CALL Pg W F_law03_awake []
          (fun v116 => TYB v116 fun b118 =>
            R (.returned (.bool b118)))
            (fun e117 => R (.panicked e117)))
        (R (.returned (.bool false))))
      (R (.returned (.bool false))))
theorem B_law03_LotOften_0_eq (W : World) (R : Ending → Hp → Prop) (za0 : Addr) (zn1 : Int) (zn2 : Int) (zn3 : Int) (zn4 : Int) (zn5 : Int) (b58 : Bool) (n59 : Int) (n60 : Int) (n61 : Int) (nx0 : List Value → Hp → Prop) (j : Tm) : vc Pg W 163 rs_8 an_8 false (sub (bodyOf Try.f8) [1, 1, 1, 1, 1, 1, 1, 1, 0, 1, 0, 0]) 0 (KLoop [6, 14, 15, 68] [3, 7, 8, 9, 10, 12, 67, 163] [(.pointer (some za0)), (.int .i64 zn1), (.int .i64 zn2), (.int .i64 zn3), (.int .i64 zn4), (.int .i64 zn5), (.int .i64 zn1), (.tuple #[])] nx0 (KBlk 0 (KS Pg W 163 rs_8 an_8 false (sub (bodyOf Try.f8) [1, 1, 1, 1, 1, 1, 1, 1, 1]) 0 (fin Pg W 163 rv_8 R)))) (known [6, 14, 15, 68] [(.bool b58), (.int .i64 n59), (.int .i64 n60), (.int .i64 n61)] (known [3, 7, 8, 9, 10, 12, 67, 163] [(.pointer (some za0)), (.int .i64 zn1), (.int .i64 zn2), (.int .i64 zn3), (.int .i64 zn4), (.int .i64 zn5), (.int .i64 zn1), (.tuple #[])] j)) = B_law03_LotOften_0 W R za0 zn1 zn2 zn3 zn4 zn5 b58 n59 n60 n61 nx0 := by kernel_rfl
def N_law03_LotOften_0 (I : Bool → Int → Int → Int → Hp → Prop) (μ : Bool → Int → Int → Int → Hp → Nat) (b580 : Bool) (n590 : Int) (n600 : Int) (n610 : Int) (s : Hp) (vs : List Value) : Hp → Prop := fun s' => ∃ b58 n59 n60 n61, vs = [(.bool b58), (.int .i64 n59), (.int .i64 n60), (.int .i64 n61)] ∧ I b58 n59 n60 n61 s' ∧ μ b58 n59 n60 n61 s' < μ b580 n590 n600 n610 s
theorem L_law03_LotOften_0_rule (W : World) (R : Ending → Hp → Prop) (za0 : Addr) (zn1 : Int) (zn2 : Int) (zn3 : Int) (zn4 : Int) (zn5 : Int) (I : Bool → Int → Int → Int → Hp → Prop) (μ : Bool → Int → Int → Int → Hp → Nat) (b580 : Bool) (n590 : Int) (n600 : Int) (n610 : Int) (s : Hp) (h0 : I b580 n590 n600 n610 s)
    (hr : ∀ (b58 : Bool) (n59 : Int) (n60 : Int) (n61 : Int) (s : Hp), I b58 n59 n60 n61 s → B_law03_LotOften_0 W R za0 zn1 zn2 zn3 zn4 zn5 b58 n59 n60 n61 (fun vs => N_law03_LotOften_0 I μ b58 n59 n60 n61 s vs) s) : L_law03_LotOften_0 W R za0 zn1 zn2 zn3 zn4 zn5 b580 n590 n600 n610 s := by
  refine ⟨fun vs s => ∃ b58 n59 n60 n61, vs = [(.bool b58), (.int .i64 n59), (.int .i64 n60), (.int .i64 n61)] ∧ I b58 n59 n60 n61 s, fun vs s => (match vs with | [.bool b58, .int _ n59, .int _ n60, .int _ n61] => μ b58 n59 n60 n61 s | _ => 0), ⟨⟨⟨_, rfl⟩, ⟨⟨_, rfl⟩, ⟨⟨_, rfl⟩, ⟨⟨_, rfl⟩, trivial⟩⟩⟩⟩, ⟨_, _, _, _, rfl, h0⟩⟩, ?_⟩
  intro b58 n59 n60 n61 s hI j
  obtain ⟨b58', n59', n60', n61', hy, hI⟩ := hI
  have hI' : I b58 n59 n60 n61 s := by cases hy; exact hI
  have hh := hr b58 n59 n60 n61 s hI'
  rw [← B_law03_LotOften_0_eq W R za0 zn1 zn2 zn3 zn4 zn5 b58 n59 n60 n61 _ j] at hh
  refine vc_mono ?_ _ _ hh
  exact KLoop_mono (fun vs s' h => by obtain ⟨b581, n591, n601, n611, rfl, h1, h2⟩ := h; exact ⟨⟨⟨_, rfl⟩, ⟨⟨_, rfl⟩, ⟨⟨_, rfl⟩, ⟨⟨_, rfl⟩, trivial⟩⟩⟩⟩, ⟨_, _, _, _, rfl, h1⟩, h2⟩)
def T_law03_LotOften (W : World) (x1 : Option Addr) (l2 : Nat) (c3 : Nat) (n4 : Int) (n5 : Int) (n6 : Int) (R : Ending → Hp → Prop) : Hp → Prop :=
  NEW 24 [(.slice x1 l2 c3), (.int .i64 n4)] fun B7 =>
    RDL (Addr.add ⟨B7, 0, none⟩ 0) fun x8 l9 c10 =>
      RDI .i64 (Addr.add ⟨B7, 0, none⟩ 1) fun n11 =>
        CALL Pg W F_law03_far [(.agg #[(.slice x8 l9 c10), (.int .i64 n11)]), (.slice none 0 0), (.int .i64 8)]
          (fun v12 => TYB v12 fun b14 =>
            BR b14
              (J_law03_LotOften_3 W R true B7 n5 n6)
              (RDL (Addr.add ⟨B7, 0, none⟩ 0) fun x51 l52 c53 =>
                RDI .i64 (Addr.add ⟨B7, 0, none⟩ 1) fun n54 =>
                  CALL Pg W F_ref03_Lots [(.agg #[(.slice x51 l52 c53), (.int .i64 n54)])]
                    (fun v55 => TYB v55 fun b57 =>
                      J_law03_LotOften_3 W R (!b57) B7 n5 n6)
                      (fun e56 => R (.panicked e56))))
            (fun e13 => R (.panicked e13))
theorem T_law03_LotOften_eq (W : World) (x1 : Option Addr) (l2 : Nat) (c3 : Nat) (n4 : Int) (n5 : Int) (n6 : Int) (R : Ending → Hp → Prop) : vfun Pg W an_8 Try.f8 [(.agg #[(.slice x1 l2 c3), (.int .i64 n4)]), (.int .u8 n5), (.int .u8 n6)] R = T_law03_LotOften W x1 l2 c3 n4 n5 n6 R := by kernel_rfl
theorem does_law03_LotOften (W : World) (x1 : Option Addr) (l2 : Nat) (c3 : Nat) (n4 : Int) (n5 : Int) (n6 : Int) (R : Ending → Hp → Prop) (s : Hp) (h : T_law03_LotOften W x1 l2 c3 n4 n5 n6 R s) : Does Pg W F_law03_LotOften #[(.agg #[(.slice x1 l2 c3), (.int .i64 n4)]), (.int .u8 n5), (.int .u8 n6)] s R :=
  does_of_vfun Pg W an_8 Try.func8 rfl (by kernel_rfl) (by rw [T_law03_LotOften_eq]; exact h)
end Go.Proofs.Ytocnkdkgajdejaa.G

/- The statement LotOften: how often somebody has a plot. -/
set_option linter.unusedSimpArgs false
set_option linter.unusedVariables false
set_option maxRecDepth 20000
namespace Go.Proofs.Ytocnkdkgajdejaa.G
open Go.V Go.Lot
section
variable {W : World} {K : VK} {E : List PanicEntry → Hp → Prop} {s : Hp} {L : Lts}
theorem oftenP_ok {m p : Nat} (hv : valid L = true) (hm : m < L.n) (hp : p < L.n) : oftenP L m p = (((ofN L m p : Nat) : Int), 0) := by
  unfold oftenP; rw [hv, if_pos rfl, if_pos (by omega)]; rfl
theorem men_cell {x : Option Addr} {m : Nat} (hm : MenAt s x L.men) (h : m < L.n) : ∃ b, x = some b ∧ cellAt s ((b.add (m * 3)).add 0) = some (.int .i64 (man L m).club) ∧ cellAt s ((b.add (m * 3)).add 1) = some (.bool (man L m).left) ∧ cellAt s ((b.add (m * 3)).add 2) = some (.bool (man L m).nov) := by
  obtain ⟨b, hb, g1, g2, g3⟩ := hm m h
  have hman := man_get' L (m := m) h
  rw [← hman] at g1 g2 g3
  exact ⟨b, hb, g1, g2, g3⟩
theorem mod_nat {a n : Nat} : Int.tmod (a : Int) (n : Int) = ((a % n : Nat) : Int) := by rw [Int.tmod_eq_emod_of_nonneg (by omega)]; rfl
theorem shr_low {w n : Nat} (hn : n ≤ 8) (h : w < 2 ^ n) : shrv .i64 (w : Int) (n : Int) = 0 := by
  unfold shrv
  have h1 : min ((n : Int)).toNat (IntKind.bits .i64) = n := by simp [IntKind.bits]; omega
  rw [h1, Int.fdiv_eq_ediv_of_nonneg _ (Int.pow_nonneg (by omega))]
  refine Int.ediv_eq_zero_of_lt (by omega) ?_
  have e : ((2 : Int) ^ n) = ((2 ^ n : Nat) : Int) := by simp
  rw [e]; omega

theorem w_LotOften {x : Option Addr} {c a b : Nat} (hm : MenAt s x L.men) (ha : a ≤ 255) (hb : b ≤ 255) (h : ∀ s', Ext s s' → K (.bool true) s') :
    CALL Pg W F_law03_LotOften [.agg #[.slice x L.n c, .int .i64 L.worst], .int .u8 a, .int .u8 b] K E s := by
  refine does_law03_LotOften W x L.n c L.worst a b _ s ?_
  unfold T_law03_LotOften
  refine NEW_rule fun s1 e1 z1 n1 _ => ?_
  have c0 := (n1 0 _ rfl).cell
  have c1 := (n1 1 _ rfl).cell
  have aw : ∀ t, Ext s1 t → CALL Pg W F_law03_awake [] (fun v16 => TYB v16 fun b18 => (endK K E) (.returned (.bool b18))) (fun c17 => (endK K E) (.panicked c17)) t := fun t et => c_awake fun t' et' => h t' (e1.trans (et.trans et'))
  refine ⟨_, _, _, c0, _, c1, ?_⟩
  refine c_far (n := 8) (hm.ext e1) fun s2 bb e2 hb1 hb2 => ?_
  try simp only [TUP_mk, AGG_mk, HD_mk, NL_mk, TYI_mk, TYB_mk, TYP_mk, TYL_mk, TYS_mk, TYM_mk, SO_mk, NX_mk, endK_mk, endK_mk', add_0]
  refine BR_bool (fun hbb => ?_) (fun hbb => ?_)
  · unfold J_law03_LotOften_3
    exact aw s2 e2
  obtain ⟨hn30, _, hn8'⟩ := hb2 hbb
  refine ⟨_, _, _, e2.cell c0, _, e2.cell c1, ?_⟩
  have e02 := e1.trans e2
  refine f_Lots (hm.ext e02) (by omega) fun s3 e3 => ?_
  try simp only [TUP_mk, AGG_mk, HD_mk, NL_mk, TYI_mk, TYB_mk, TYP_mk, TYL_mk, TYS_mk, TYM_mk, SO_mk, NX_mk, endK_mk, endK_mk', add_0]
  have e13 := e2.trans e3
  have e03 := e1.trans e13
  unfold J_law03_LotOften_3
  refine BR_not (fun hv => aw s3 e13) (fun hv => ?_)
  have v := vd_iff.1 hv
  have hn8 := v.hi
  have hlo := v.lo
  refine ⟨_, _, _, e13.cell c0, NZI_pos (by omega) (NZI_pos (by omega) ⟨_, _, _, e13.cell c0, _, e13.cell c1, ?_⟩)⟩
  refine c_Count (hm.ext e03) fun s4 e4 => ?_
  try simp only [TUP_mk, AGG_mk, HD_mk, NL_mk, TYI_mk, TYB_mk, TYP_mk, TYL_mk, TYS_mk, TYM_mk, SO_mk, NX_mk, endK_mk, endK_mk', add_0]
  have hcp : countP L = (((cntAll L anyC : Nat) : Int), 0) := by unfold countP; rw [hv]; rfl
  rw [hcp]
  have e14 := e13.trans e4
  have hwa : IntKind.wrap .i64 (a : Int) = (a : Int) := wrap_i64 (by omega) (by omega)
  have hwb : IntKind.wrap .i64 (b : Int) = (b : Int) := wrap_i64 (by omega) (by omega)
  rw [hwa]
  try rw [mod_nat]
  refine ⟨_, _, _, e14.cell c0, _, e14.cell c1, ?_⟩
  have hml : a % L.n < L.n := Nat.mod_lt _ (by omega)
  have hpl : b % L.n < L.n := Nat.mod_lt _ (by omega)
  refine c_Can (hm.ext (e1.trans e14)) fun s5 e5 => ?_
  try simp only [TUP_mk, AGG_mk, HD_mk, NL_mk, TYI_mk, TYB_mk, TYP_mk, TYL_mk, TYS_mk, TYM_mk, SO_mk, NX_mk, endK_mk, endK_mk', add_0]
  have hcan : canP L ((a % L.n : Nat) : Int) = (((canSet L (a % L.n) L.n : Nat) : Int), 0) := by
    unfold canP; rw [hv, if_pos rfl, if_pos (by omega)]; rfl
  rw [hcan]
  have e15 := e14.trans e5
  have hlt := canSet_lt L (a % L.n) L.n
  have h256 := lt256 hn8 hlt
  refine BR_ne (fun hh => absurd rfl hh) (fun _ => ?_)
  unfold J_law03_LotOften_2
  refine BR_ne (fun hh => absurd rfl hh) (fun _ => ?_)
  unfold J_law03_LotOften_1
  refine BR_dec (fun hh => by dsimp only at hh; omega) (fun _ => ?_)
  refine NNI_nat ?_
  unfold J_law03_LotOften_0
  dsimp only
  rw [shr_low hn8 hlt]
  refine BR_ne (fun hh => absurd rfl hh) (fun _ => ?_)
  rw [hwa, hwb, mod_nat, mod_nat]
  generalize a % L.n = m at *
  generalize b % L.n = p at *
  refine L_law03_LotOften_0_rule W _ ⟨s.size, 0, none⟩ L.n m p _ _ (fun _ n1 n2 n3 t => Ext s1 t ∧ ∃ k : Nat, k ≤ L.n ∧ n3 = k ∧ n1 = ((ofPlots L m k : Nat) : Int) ∧ n2 = ((ofMen L p k : Nat) : Int) ∧ ofPlots L m k ≤ 134217728 * k ∧ ofMen L p k ≤ 134217728 * k) (fun _ _ _ n _ => (L.n - n).toNat) false 0 0 0 s5 ⟨e15, 0, by omega, rfl, rfl, rfl, by simp [ofPlots], by simp [ofMen]⟩ ?_
  rintro b58 n1 n2 n3 t ⟨et, k, hk, rfl, rfl, rfl, hb1', hb2'⟩
  unfold B_law03_LotOften_0
  refine BR_dec (fun h1 => ?_) (fun h1 => ?_)
  · have hkn : k < L.n := by omega
    have hw : IntKind.i64.wrap ((k : Int) + 1) = ((k + 1 : Nat) : Int) := by rw [wrap_i64 (by omega) (by omega)]; rfl
    refine ⟨_, _, _, et.cell c0, _, et.cell c1, ?_⟩
    refine c_Often (hm.ext (e1.trans et)) fun t1 f1 => ?_
    try simp only [TUP_mk, AGG_mk, HD_mk, NL_mk, TYI_mk, TYB_mk, TYP_mk, TYL_mk, TYS_mk, TYM_mk, SO_mk, NX_mk, endK_mk, endK_mk', add_0]
    rw [oftenP_ok hv hml hkn]
    have et1 := et.trans f1
    refine ⟨_, _, _, et1.cell c0, _, et1.cell c1, ?_⟩
    refine c_Often (hm.ext (e1.trans et1)) fun t2 f2 => ?_
    try simp only [TUP_mk, AGG_mk, HD_mk, NL_mk, TYI_mk, TYB_mk, TYP_mk, TYL_mk, TYS_mk, TYM_mk, SO_mk, NX_mk, endK_mk, endK_mk', add_0]
    rw [oftenP_ok hv hkn hpl]
    have et2 := et1.trans f2
    have l1 := ofN_le L hn8 m k
    have l2 := ofN_le L hn8 k p
    have j4 : ∀ bb : Bool, bb = false → J_law03_LotOften_4 W (endK K E) bb ⟨s.size, 0, none⟩ L.n m p ((cntAll L anyC : Nat) : Int) ((canSet L m L.n : Nat) : Int) (fun vs => N_law03_LotOften_0 (fun _ n1 n2 n3 t => Ext s1 t ∧ ∃ k : Nat, k ≤ L.n ∧ n3 = k ∧ n1 = ((ofPlots L m k : Nat) : Int) ∧ n2 = ((ofMen L p k : Nat) : Int) ∧ ofPlots L m k ≤ 134217728 * k ∧ ofMen L p k ≤ 134217728 * k) (fun _ _ _ n _ => (L.n - n).toNat) b58 (ofPlots L m k : Nat) (ofMen L p k : Nat) k t vs) b58 (ofPlots L m k : Nat) (ofN L m k : Nat) (ofMen L p k : Nat) (ofN L k p : Nat) k t2 := by
      rintro bb rfl
      unfold J_law03_LotOften_4
      refine ⟨rfl, _, _, _, _, rfl, ⟨et2, k + 1, hkn, hw, ?_, ?_, ?_, ?_⟩, ?_⟩
      · rw [wrap_i64 (by omega) (by omega), ofPlots_succ]; rfl
      · rw [wrap_i64 (by omega) (by omega), ofMen_succ]; rfl
      · rw [ofPlots_succ]; omega
      · rw [ofMen_succ]; omega
      · show ((L.n : Int) - IntKind.i64.wrap ((k : Int) + 1)).toNat < ((L.n : Int) - k).toNat
        rw [hw]; omega
    refine BR_ne (fun hh => absurd rfl hh) (fun _ => ?_)
    unfold J_law03_LotOften_8
    refine BR_ne (fun hh => absurd rfl hh) (fun _ => ?_)
    unfold J_law03_LotOften_7
    refine BR_dec (fun hh => by omega) (fun _ => ?_)
    unfold J_law03_LotOften_6
    refine BR_dec (fun hh => by omega) (fun _ => ?_)
    refine NNI_nat ?_
    unfold J_law03_LotOften_5
    rw [hasI _ h256 k (by omega), canSet_bit, decide_eq_true hkn, Bool.true_and]
    have hde : decide (((ofN L m k : Nat) : Int) > 0) = decide (0 < ofN L m k) := by congr 1; apply propext; omega
    rw [hde]
    refine BR_not (fun hh => by simp at hh) (fun _ => ?_)
    refine BR_dec (fun hpos => ?_) (fun hpos => j4 _ rfl)
    obtain ⟨q2, q3⟩ := ofN_ok hn8 hkn hpos
    obtain ⟨bA, hbA, g1, g2, g3⟩ := men_cell (hm.ext (e1.trans et2)) hml
    have tm : ((m : Int)).toNat = m := by omega
    have last : (RDL (Addr.add ⟨s.size, 0, none⟩ 0) fun x98 l99 c100 => IXS x98 l99 (m : Int) 3 fun a101 => RDB (Addr.add a101 2) fun b102 => BR b102
          (RDI .i64 (Addr.add ⟨s.size, 0, none⟩ 1) fun n103 => NNI (k : Int) <| J_law03_LotOften_4 W (endK K E) ((andv .i64 (shrv .i64 n103 (k : Int)) 1) == 1) ⟨s.size, 0, none⟩ L.n m p ((cntAll L anyC : Nat) : Int) ((canSet L m L.n : Nat) : Int) (fun vs => N_law03_LotOften_0 (fun _ n1 n2 n3 t => Ext s1 t ∧ ∃ k : Nat, k ≤ L.n ∧ n3 = k ∧ n1 = ((ofPlots L m k : Nat) : Int) ∧ n2 = ((ofMen L p k : Nat) : Int) ∧ ofPlots L m k ≤ 134217728 * k ∧ ofMen L p k ≤ 134217728 * k) (fun _ _ _ n _ => (L.n - n).toNat) b58 (ofPlots L m k : Nat) (ofMen L p k : Nat) k t vs) b58 (ofPlots L m k : Nat) (ofN L m k : Nat) (ofMen L p k : Nat) (ofN L k p : Nat) k)
          (J_law03_LotOften_4 W (endK K E) false ⟨s.size, 0, none⟩ L.n m p ((cntAll L anyC : Nat) : Int) ((canSet L m L.n : Nat) : Int) (fun vs => N_law03_LotOften_0 (fun _ n1 n2 n3 t => Ext s1 t ∧ ∃ k : Nat, k ≤ L.n ∧ n3 = k ∧ n1 = ((ofPlots L m k : Nat) : Int) ∧ n2 = ((ofMen L p k : Nat) : Int) ∧ ofPlots L m k ≤ 134217728 * k ∧ ofMen L p k ≤ 134217728 * k) (fun _ _ _ n _ => (L.n - n).toNat) b58 (ofPlots L m k : Nat) (ofMen L p k : Nat) k t vs) b58 (ofPlots L m k : Nat) (ofN L m k : Nat) (ofMen L p k : Nat) (ofN L k p : Nat) k)) t2 := by
      refine ⟨_, _, _, et2.cell c0, bA, hbA, ⟨by omega, by omega⟩, _, by rw [tm]; exact g3, ?_⟩
      refine BR_bool (fun h3 => ?_) (fun h3 => j4 _ rfl)
      refine ⟨_, et2.cell c1, NNI_nat (j4 _ ?_)⟩
      rw [bad_eq v (by omega)]
      unfold r3 at q3
      rw [h3] at q3
      simpa using q3
    refine ⟨_, _, _, et2.cell c0, bA, hbA, ⟨by omega, by omega⟩, _, by rw [tm]; exact g2, ?_⟩
    refine BR_bool (fun h3 => ?_) (fun h3 => last)
    unfold r2 at q2
    rw [h3] at q2
    refine BR_dec (fun h4 => ?_) (fun h4 => last)
    refine BR_dec (fun h5 => ?_) (fun h5 => last)
    rw [wrap_i64 (by omega) (by omega)] at h5
    have h6 : k > 0 := by omega
    have h7 : k < L.n - 1 := by omega
    rw [decide_eq_true h6, decide_eq_true h7] at q2
    cases q2
  · have : k = L.n := by omega
    subst this
    rw [ofPlots_all hn8 hml, ofMen_all hn8 hpl]
    refine BR_eq (fun _ => ?_) (fun hh => absurd rfl hh)
    refine BR_eq (fun _ => ?_) (fun hh => absurd rfl hh)
    exact aw t et
end
end Go.Proofs.Ytocnkdkgajdejaa.G

/- Draws of plots, in plain Lean: the ones with an index, and their places. -/
set_option linter.unusedSimpArgs false
set_option linter.unusedVariables false
namespace Go.Lot
/-- Like 'lexLt', and a bool. -/
def ltB : List Nat → List Nat → Bool
  | a :: u, b :: w => if a = b then ltB u w else decide (a < b)
  | _, _ => false
theorem ltB_iff : ∀ (a b : List Nat), ltB a b = true ↔ lexLt a b
  | [], _ => by simp [ltB, lexLt]
  | _ :: _, [] => by simp [ltB, lexLt]
  | a :: u, b :: w => by
    unfold ltB lexLt
    by_cases h : a = b
    · subst h; simp [ltB_iff u w]
    · simp [h]
theorem ltB_drop : ∀ (a b : List Nat) (k : Nat), (∀ j, j < k → a.getD j 0 = b.getD j 0) → k < a.length → k < b.length → a.getD k 0 ≠ b.getD k 0 → ltB a b = decide (a.getD k 0 < b.getD k 0)
  | [], _, k, _, h, _, _ => by simp at h
  | _ :: _, [], k, _, _, h, _ => by simp at h
  | a :: u, b :: w, 0, _, _, _, h => by
    have h' : ¬ a = b := by simpa using h
    unfold ltB
    rw [if_neg h']; simp
  | a :: u, b :: w, k + 1, he, h1, h2, h3 => by
    have h0 : a = b := by simpa using he 0 (by omega)
    unfold ltB
    rw [if_pos h0, ltB_drop u w k (fun j hj => by simpa using he (j + 1) (by omega)) (by simpa using h1) (by simpa using h2) (by simpa using h3)]
    simp
theorem ltB_same : ∀ (a b : List Nat), a.length = b.length → (∀ j, j < a.length → a.getD j 0 = b.getD j 0) → ltB a b = false
  | [], _, _, _ => rfl
  | _ :: _, [], h, _ => by simp at h
  | a :: u, b :: w, h, he => by
    have h0 : a = b := by simpa using he 0 (by simp)
    unfold ltB
    rw [if_pos h0]
    exact ltB_same u w (by simpa using h) (fun j hj => by simpa using he (j + 1) (by simpa using hj))
end Go.Lot
namespace Go.Proofs.Ytocnkdkgajdejaa.G
open Go.V Go.Lot
section
variable {L : Lts}
theorem nthP_some (hn : L.n ≤ 8) {k : Nat} (hk : k < cntAll L anyC) : ∃ d, nthP L (k : Int) = some d ∧ (allD L)[k]? = some d := by
  have hk' : k < cnt L anyC (full L.n) 8 := hk
  refine ⟨runC (nthN L) L.n k (full L.n) 8, ?_, nth_all L hn L.n k (full L.n) 8 full_lt8 (menOf_len_le _ _) hk⟩
  unfold nthP
  rw [if_pos ⟨by omega, by omega⟩]; rfl
theorem nthP_none {n : Int} (h : ¬ (0 ≤ n ∧ n < cntAll L anyC)) : nthP L n = none := by
  unfold nthP
  exact if_neg h
theorem allD_lt (hn : L.n ≤ 8) {i j : Nat} {a b : List Nat} (ha : (allD L)[i]? = some a) (hb : (allD L)[j]? = some b) : i < j ↔ lexLt a b := by
  have hs := List.pairwise_iff_getElem.1 (allD_sorted L hn (left := full L.n) (b := 8) full_lt8)
  obtain ⟨hi, ea⟩ := List.getElem?_eq_some_iff.1 ha
  obtain ⟨hj, eb⟩ := List.getElem?_eq_some_iff.1 hb
  subst ea; subst eb
  constructor
  · intro h; exact hs i j hi hj h
  · intro h
    rcases Nat.lt_trichotomy i j with h1 | h1 | h1
    · exact h1
    · subst h1; exact absurd h (lexLt_irrefl _)
    · exact absurd (lexLt_trans _ _ _ h (hs j i hj hi h1)) (lexLt_irrefl _)
theorem allD_inj (hn : L.n ≤ 8) {i j : Nat} {a : List Nat} (ha : (allD L)[i]? = some a) (hb : (allD L)[j]? = some a) : i = j := by
  rcases Nat.lt_trichotomy i j with h1 | h1 | h1
  · exact absurd ((allD_lt hn ha hb).1 h1) (lexLt_irrefl _)
  · exact h1
  · exact absurd ((allD_lt hn hb ha).1 h1) (lexLt_irrefl _)
theorem allD_at (hn : L.n ≤ 8) {i : Nat} {a : List Nat} (ha : (allD L)[i]? = some a) : Perm0 L.n a ∧ wrong L a = none ∧ i < cntAll L anyC := by
  obtain ⟨hi, rfl⟩ := List.getElem?_eq_some_iff.1 ha
  have := (mem_allD hn).1 (List.getElem_mem hi)
  exact ⟨this.1, this.2, by rw [cntAny_len hn]; exact hi⟩
theorem placeP_all (hn : L.n ≤ 8) (hv : valid L = true) {d : List Nat} (h1 : Perm0 L.n d) (h2 : wrong L d = none) : ∃ k : Nat, placeP L (d.map fun (n : Nat) => (n : Int)) = ((k : Int), 0) ∧ (allD L)[k]? = some d := by
  refine ⟨placeN L d (full L.n) 8, ?_, place_all L hn d _ _ full_lt8 (law_full hn h1.nd h1.lt h1.len h2)⟩
  unfold placeP; rw [hv, if_pos rfl, if_pos (Perm0.ok h1), map_back, h2]
end
end Go.Proofs.Ytocnkdkgajdejaa.G

/- More of the functions' shallow texts, by gen.py. -/
set_option linter.unusedVariables false
set_option maxRecDepth 100000
namespace Go.Proofs.Ytocnkdkgajdejaa.G
open Go.V
def an_7 : Nat → Ann := fun b => match b with
  | 0 => { ms := [6, 46], ks := [.b, .i .i64], us := [1, 2, 3, 7, 44, 45, 182], rt := false, ex := [] }
  | _ => {}
abbrev rv_7 : List ResultVar := [.tmp 6]
abbrev rs_7 : List Nat := [182, 6]
def L_law03_LotOrder_0 (W : World) (R : Ending → Hp → Prop) (zn0 : Int) (zp1 : Option Addr) (zl2 : Nat) (zl3 : Nat) (za4 : Addr) (zn5 : Int) (za6 : Addr) (b43 : Bool) (n44 : Int) : Hp → Prop :=
  LOOPN [.b, .i .i64] (fun ys next s => ∀ j : Tm, vc Pg W 182 rs_7 an_7 false (sub (bodyOf Try.f7) [1, 1, 1, 1, 0, 1, 0, 0]) 0 (KLoop [6, 46] [1, 2, 3, 7, 44, 45, 182] [(.int .u16 zn0), (.slice zp1 zl2 zl3), (.pointer (some za4)), (.int .i64 zn5), (.slice (some za6) 2 2), (.int .i64 2), (.tuple #[])] next (KBlk 0 (KS Pg W 182 rs_7 an_7 false (sub (bodyOf Try.f7) [1, 1, 1, 1, 1]) 0 (fin Pg W 182 rv_7 R)))) (known [6, 46] ys (known [1, 2, 3, 7, 44, 45, 182] [(.int .u16 zn0), (.slice zp1 zl2 zl3), (.pointer (some za4)), (.int .i64 zn5), (.slice (some za6) 2 2), (.int .i64 2), (.tuple #[])] j)) s) [(.bool b43), (.int .i64 n44)]
def J_law03_LotOrder_0 (W : World) (R : Ending → Hp → Prop) (b34 : Bool) (n30 : Int) (n5 : Int) (x6 : Option Addr) (l7 : Nat) (c8 : Nat) (B9 : Nat) : Hp → Prop :=
  BR b34
    (R (.returned (.bool false)))
    (NEW 3 [(.int .i64 (-1)), (.int .i64 n30)] fun B35 =>
      L_law03_LotOrder_0 W R n5 x6 l7 c8 ⟨B9, 0, none⟩ n30 ⟨B35, 0, none⟩ false 0)
def J_law03_LotOrder_1 (W : World) (R : Ending → Hp → Prop) (b17 : Bool) (B9 : Nat) (n5 : Int) (x6 : Option Addr) (l7 : Nat) (c8 : Nat) : Hp → Prop :=
  BR b17
    (CALL Pg W F_law03_awake []
      (fun v18 => TYB v18 fun b20 =>
        R (.returned (.bool b20)))
        (fun e19 => R (.panicked e19)))
    (RDL (Addr.add ⟨B9, 0, none⟩ 0) fun x21 l22 c23 =>
      RDI .i64 (Addr.add ⟨B9, 0, none⟩ 1) fun n24 =>
        CALL Pg W F_lot_Count [(.agg #[(.slice x21 l22 c23), (.int .i64 n24)])]
          (fun v25 => TUP v25 fun q27 => HD q27 fun v28 r29 => TYI .i64 v28 fun n30 =>
            HD r29 fun v31 r32 => TYI .i64 v31 fun n33 =>
              NL r32 <|
                BR (n33 != 0)
                  (J_law03_LotOrder_0 W R true n30 n5 x6 l7 c8 B9)
                  (J_law03_LotOrder_0 W R (decide (n30 < 0)) n30 n5 x6 l7 c8 B9))
            (fun e26 => R (.panicked e26)))
def J_law03_LotOrder_2 (W : World) (R : Ending → Hp → Prop) (b62 : Bool) (zn0 : Int) (zp1 : Option Addr) (zl2 : Nat) (zl3 : Nat) (za4 : Addr) (zn5 : Int) (za6 : Addr) (nx0 : List Value → Hp → Prop) (b43 : Bool) (n44 : Int) : Hp → Prop :=
  BR b62
    (R (.returned (.bool false)))
    (NX [(.int .u16 zn0), (.slice zp1 zl2 zl3), (.pointer (some za4)), (.int .i64 zn5), (.slice (some za6) 2 2), (.int .i64 2), (.tuple #[])] [(.int .u16 zn0), (.slice zp1 zl2 zl3), (.pointer (some za4)), (.int .i64 zn5), (.slice (some za6) 2 2), (.int .i64 2), (.tuple #[])] (nx0 [(.bool b43), (.int .i64 (IntKind.wrap .i64 (n44 + 1)))]))
def J_law03_LotOrder_3 (W : World) (R : Ending → Hp → Prop) (b152 : Bool) (x121 : Option Addr) (l122 : Nat) (c123 : Nat) (x75 : Option Addr) (l76 : Nat) (c77 : Nat) (n143 : Int) (zn0 : Int) (zn5 : Int) : Hp → Prop :=
  BR b152
    (CALL Pg W F_ref03_Ints [(.slice x121 l122 c123), (.slice x75 l76 c77)]
      (fun v153 => TYB v153 fun b155 =>
        BR ((n143 == (Int.tmod (IntKind.wrap .i64 zn0) zn5)) == b155)
          (CALL Pg W F_law03_awake []
            (fun v156 => TYB v156 fun b158 =>
              R (.returned (.bool b158)))
              (fun e157 => R (.panicked e157)))
          (R (.returned (.bool false))))
        (fun e154 => R (.panicked e154)))
    (R (.returned (.bool false)))
def J_law03_LotOrder_4 (W : World) (R : Ending → Hp → Prop) (b148 : Bool) (x121 : Option Addr) (l122 : Nat) (c123 : Nat) (x75 : Option Addr) (l76 : Nat) (c77 : Nat) (n143 : Int) (zn0 : Int) (zn5 : Int) : Hp → Prop :=
  BR b148
    (CALLV Pg W (.func (.func 38) #[] #[]) [(.slice x121 l122 c123), (.slice x75 l76 c77)]
      (fun v149 => TYB v149 fun b151 =>
        J_law03_LotOrder_3 W R ((decide (n143 < (Int.tmod (IntKind.wrap .i64 zn0) zn5))) == b151) x121 l122 c123 x75 l76 c77 n143 zn0 zn5)
        (fun e150 => R (.panicked e150)))
    (J_law03_LotOrder_3 W R false x121 l122 c123 x75 l76 c77 n143 zn0 zn5)
def J_law03_LotOrder_5 (W : World) (R : Ending → Hp → Prop) (b147 : Bool) (n143 : Int) (zn5 : Int) (x121 : Option Addr) (l122 : Nat) (c123 : Nat) (x75 : Option Addr) (l76 : Nat) (c77 : Nat) (zn0 : Int) : Hp → Prop :=
  BR b147
    (J_law03_LotOrder_4 W R (decide (n143 < zn5)) x121 l122 c123 x75 l76 c77 n143 zn0 zn5)
    (J_law03_LotOrder_4 W R false x121 l122 c123 x75 l76 c77 n143 zn0 zn5)
def J_law03_LotOrder_6 (W : World) (R : Ending → Hp → Prop) (za4 : Addr) (zp1 : Option Addr) (zl2 : Nat) (zl3 : Nat) (zn5 : Int) (x75 : Option Addr) (l76 : Nat) (c77 : Nat) (zn0 : Int) : Hp → Prop :=
  RDL (Addr.add za4 0) fun x116 l117 c118 =>
    CALL Pg W F_law03_made [(.int .i64 (↑l117 : Int)), (.slice zp1 zl2 zl3)]
      (fun v119 => TYL v119 fun x121 l122 c123 =>
        RDL (Addr.add za4 0) fun x124 l125 c126 =>
          RDI .i64 (Addr.add za4 1) fun n127 =>
            CALL Pg W F_law03_lawful [(.agg #[(.slice x124 l125 c126), (.int .i64 n127)]), (.slice x121 l122 c123)]
              (fun v128 => TYB v128 fun b130 =>
                BR (!b130)
                  (CALL Pg W F_law03_awake []
                    (fun v131 => TYB v131 fun b133 =>
                      R (.returned (.bool b133)))
                      (fun e132 => R (.panicked e132)))
                  (RDL (Addr.add za4 0) fun x134 l135 c136 =>
                    RDI .i64 (Addr.add za4 1) fun n137 =>
                      CALL Pg W F_lot_Place [(.agg #[(.slice x134 l135 c136), (.int .i64 n137)]), (.slice x121 l122 c123)]
                        (fun v138 => TUP v138 fun q140 => HD q140 fun v141 r142 => TYI .i64 v141 fun n143 =>
                          HD r142 fun v144 r145 => TYI .i64 v144 fun n146 =>
                            NL r145 <|
                              BR (n146 == 0)
                                (J_law03_LotOrder_5 W R (decide (n143 ≥ 0)) n143 zn5 x121 l122 c123 x75 l76 c77 zn0)
                                (J_law03_LotOrder_5 W R false n143 zn5 x121 l122 c123 x75 l76 c77 zn0))
                          (fun e139 => R (.panicked e139))))
                (fun e129 => R (.panicked e129)))
        (fun e120 => R (.panicked e120))
def J_law03_LotOrder_7 (W : World) (R : Ending → Hp → Prop) (b114 : Bool) (za4 : Addr) (zp1 : Option Addr) (zl2 : Nat) (zl3 : Nat) (zn5 : Int) (x75 : Option Addr) (l76 : Nat) (c77 : Nat) (zn0 : Int) : Hp → Prop :=
  BR b114
    (R (.returned (.bool false)))
    (J_law03_LotOrder_6 W R za4 zp1 zl2 zl3 zn5 x75 l76 c77 zn0)
def J_law03_LotOrder_8 (W : World) (R : Ending → Hp → Prop) (b113 : Bool) (za4 : Addr) (zp1 : Option Addr) (zl2 : Nat) (zl3 : Nat) (zn5 : Int) (x75 : Option Addr) (l76 : Nat) (c77 : Nat) (zn0 : Int) (x107 : Option Addr) (l108 : Nat) (c109 : Nat) : Hp → Prop :=
  BR b113
    (J_law03_LotOrder_7 W R true za4 zp1 zl2 zl3 zn5 x75 l76 c77 zn0)
    (CALLV Pg W (.func (.func 38) #[] #[]) [(.slice x75 l76 c77), (.slice x107 l108 c109)]
      (fun v159 => TYB v159 fun b161 =>
        J_law03_LotOrder_7 W R (!b161) za4 zp1 zl2 zl3 zn5 x75 l76 c77 zn0)
        (fun e160 => R (.panicked e160)))
def J_law03_LotOrder_9 (W : World) (R : Ending → Hp → Prop) (b97 : Bool) (zn0 : Int) (zn5 : Int) (za4 : Addr) (zp1 : Option Addr) (zl2 : Nat) (zl3 : Nat) (x75 : Option Addr) (l76 : Nat) (c77 : Nat) : Hp → Prop :=
  BR b97
    (R (.returned (.bool false)))
    (BR (decide ((IntKind.wrap .i64 ((Int.tmod (IntKind.wrap .i64 zn0) zn5) + 1)) < zn5))
      (RDL (Addr.add za4 0) fun x98 l99 c100 =>
        RDI .i64 (Addr.add za4 1) fun n101 =>
          CALL Pg W F_lot_Nth [(.agg #[(.slice x98 l99 c100), (.int .i64 n101)]), (.int .i64 (IntKind.wrap .i64 ((Int.tmod (IntKind.wrap .i64 zn0) zn5) + 1)))]
            (fun v102 => TUP v102 fun q104 => HD q104 fun v105 r106 => TYL v105 fun x107 l108 c109 =>
              HD r106 fun v110 r111 => TYI .i64 v110 fun n112 =>
                NL r111 <|
                  BR (n112 != 0)
                    (J_law03_LotOrder_8 W R true za4 zp1 zl2 zl3 zn5 x75 l76 c77 zn0 x107 l108 c109)
                    (J_law03_LotOrder_8 W R ((↑l108 : Int) != (↑l76 : Int)) za4 zp1 zl2 zl3 zn5 x75 l76 c77 zn0 x107 l108 c109))
              (fun e103 => R (.panicked e103)))
      (J_law03_LotOrder_6 W R za4 zp1 zl2 zl3 zn5 x75 l76 c77 zn0))
def J_law03_LotOrder_10 (W : World) (R : Ending → Hp → Prop) (b96 : Bool) (zn0 : Int) (zn5 : Int) (za4 : Addr) (zp1 : Option Addr) (zl2 : Nat) (zl3 : Nat) (x75 : Option Addr) (l76 : Nat) (c77 : Nat) (n90 : Int) : Hp → Prop :=
  BR b96
    (J_law03_LotOrder_9 W R true zn0 zn5 za4 zp1 zl2 zl3 x75 l76 c77)
    (J_law03_LotOrder_9 W R (n90 != (Int.tmod (IntKind.wrap .i64 zn0) zn5)) zn0 zn5 za4 zp1 zl2 zl3 x75 l76 c77)
def J_law03_LotOrder_11 (W : World) (R : Ending → Hp → Prop) (b95 : Bool) (zn0 : Int) (zn5 : Int) (za4 : Addr) (zp1 : Option Addr) (zl2 : Nat) (zl3 : Nat) (x75 : Option Addr) (l76 : Nat) (c77 : Nat) (n90 : Int) (n93 : Int) : Hp → Prop :=
  BR b95
    (J_law03_LotOrder_10 W R true zn0 zn5 za4 zp1 zl2 zl3 x75 l76 c77 n90)
    (J_law03_LotOrder_10 W R (n93 != 0) zn0 zn5 za4 zp1 zl2 zl3 x75 l76 c77 n90)
def J_law03_LotOrder_12 (W : World) (R : Ending → Hp → Prop) (b94 : Bool) (zn0 : Int) (zn5 : Int) (za4 : Addr) (zp1 : Option Addr) (zl2 : Nat) (zl3 : Nat) (x75 : Option Addr) (l76 : Nat) (c77 : Nat) (n90 : Int) (n93 : Int) : Hp → Prop :=
  BR b94
    (J_law03_LotOrder_11 W R true zn0 zn5 za4 zp1 zl2 zl3 x75 l76 c77 n90 n93)
    (RDL (Addr.add za4 0) fun x162 l163 c164 =>
      RDI .i64 (Addr.add za4 1) fun n165 =>
        CALL Pg W F_law03_lawful [(.agg #[(.slice x162 l163 c164), (.int .i64 n165)]), (.slice x75 l76 c77)]
          (fun v166 => TYB v166 fun b168 =>
            J_law03_LotOrder_11 W R (!b168) zn0 zn5 za4 zp1 zl2 zl3 x75 l76 c77 n90 n93)
            (fun e167 => R (.panicked e167)))
def B_law03_LotOrder_0 (W : World) (R : Ending → Hp → Prop) (zn0 : Int) (zp1 : Option Addr) (zl2 : Nat) (zl3 : Nat) (za4 : Addr) (zn5 : Int) (za6 : Addr) (b43 : Bool) (n44 : Int) (nx0 : List Value → Hp → Prop) : Hp → Prop :=
  BR (decide (n44 < 2))
    (IXS (some za6) 2 n44 1 fun a45 =>
      RDI .i64 a45 fun n46 =>
        RDL (Addr.add za4 0) fun x47 l48 c49 =>
          RDI .i64 (Addr.add za4 1) fun n50 =>
            CALL Pg W F_lot_Nth [(.agg #[(.slice x47 l48 c49), (.int .i64 n50)]), (.int .i64 n46)]
              (fun v51 => TUP v51 fun q53 => HD q53 fun v54 r55 => TYL v54 fun x56 l57 c58 =>
                HD r55 fun v59 r60 => TYI .i64 v59 fun n61 =>
                  NL r60 <|
                    BR (n61 != 4)
                      (J_law03_LotOrder_2 W R true zn0 zp1 zl2 zl3 za4 zn5 za6 nx0 b43 n44)
                      (J_law03_LotOrder_2 W R ((↑l57 : Int) != 0) zn0 zp1 zl2 zl3 za4 zn5 za6 nx0 b43 n44))
                (fun e52 => R (.panicked e52)))
    (BR (zn5 == 0)
      (CALL Pg W F_law03_awake []
        (fun v63 => TYB v63 fun b65 =>
          R (.returned (.bool b65)))
          (fun e64 => R (.panicked e64)))
      (NZI zn5 <|
        RDL (Addr.add za4 0) fun x66 l67 c68 =>
          RDI .i64 (Addr.add za4 1) fun n69 =>
            CALL Pg W F_lot_Nth [(.agg #[(.slice x66 l67 c68), (.int .i64 n69)]), (.int .i64 (Int.tmod (IntKind.wrap .i64 zn0) zn5))]
              (fun v70 => TUP v70 fun q72 => HD q72 fun v73 r74 => TYL v73 fun x75 l76 c77 =>
                HD r74 fun v78 r79 => TYI .i64 v78 fun n80 =>
                  NL r79 <|
                    RDL (Addr.add za4 0) fun x81 l82 c83 =>
                      RDI .i64 (Addr.add za4 1) fun n84 =>
                        CALL Pg W F_lot_Place [(.agg #[(.slice x81 l82 c83), (.int .i64 n84)]), (.slice x75 l76 c77)]
                          (fun v85 => TUP v85 fun q87 => HD q87 fun v88 r89 => TYI .i64 v88 fun n90 =>
                            HD r89 fun v91 r92 => TYI .i64 v91 fun n93 =>
                              NL r92 <|
                                BR (n80 != 0)
                                  (J_law03_LotOrder_12 W R true zn0 zn5 za4 zp1 zl2 zl3 x75 l76 c77 n90 n93)
                                  (RDL (Addr.add za4 0) fun x169 l170 c171 =>
                                    RDI .i64 (Addr.add za4 1) fun n172 =>
                                      CALL Pg W F_ref03_Full [(.agg #[(.slice x169 l170 c171), (.int .i64 n172)]), (.slice x75 l76 c77)]
                                        (fun v173 => TYB v173 fun b175 =>
                                          J_law03_LotOrder_12 W R (!b175) zn0 zn5 za4 zp1 zl2 zl3 x75 l76 c77 n90 n93)
                                          (fun e174 => R (.panicked e174))))
                            (fun e86 => R (.panicked e86)))
                (fun e71 => R (.panicked e71))))
theorem B_law03_LotOrder_0_eq (W : World) (R : Ending → Hp → Prop) (zn0 : Int) (zp1 : Option Addr) (zl2 : Nat) (zl3 : Nat) (za4 : Addr) (zn5 : Int) (za6 : Addr) (b43 : Bool) (n44 : Int) (nx0 : List Value → Hp → Prop) (j : Tm) : vc Pg W 182 rs_7 an_7 false (sub (bodyOf Try.f7) [1, 1, 1, 1, 0, 1, 0, 0]) 0 (KLoop [6, 46] [1, 2, 3, 7, 44, 45, 182] [(.int .u16 zn0), (.slice zp1 zl2 zl3), (.pointer (some za4)), (.int .i64 zn5), (.slice (some za6) 2 2), (.int .i64 2), (.tuple #[])] nx0 (KBlk 0 (KS Pg W 182 rs_7 an_7 false (sub (bodyOf Try.f7) [1, 1, 1, 1, 1]) 0 (fin Pg W 182 rv_7 R)))) (known [6, 46] [(.bool b43), (.int .i64 n44)] (known [1, 2, 3, 7, 44, 45, 182] [(.int .u16 zn0), (.slice zp1 zl2 zl3), (.pointer (some za4)), (.int .i64 zn5), (.slice (some za6) 2 2), (.int .i64 2), (.tuple #[])] j)) = B_law03_LotOrder_0 W R zn0 zp1 zl2 zl3 za4 zn5 za6 b43 n44 nx0 := by kernel_rfl
def N_law03_LotOrder_0 (I : Bool → Int → Hp → Prop) (μ : Bool → Int → Hp → Nat) (b430 : Bool) (n440 : Int) (s : Hp) (vs : List Value) : Hp → Prop := fun s' => ∃ b43 n44, vs = [(.bool b43), (.int .i64 n44)] ∧ I b43 n44 s' ∧ μ b43 n44 s' < μ b430 n440 s
theorem L_law03_LotOrder_0_rule (W : World) (R : Ending → Hp → Prop) (zn0 : Int) (zp1 : Option Addr) (zl2 : Nat) (zl3 : Nat) (za4 : Addr) (zn5 : Int) (za6 : Addr) (I : Bool → Int → Hp → Prop) (μ : Bool → Int → Hp → Nat) (b430 : Bool) (n440 : Int) (s : Hp) (h0 : I b430 n440 s)
    (hr : ∀ (b43 : Bool) (n44 : Int) (s : Hp), I b43 n44 s → B_law03_LotOrder_0 W R zn0 zp1 zl2 zl3 za4 zn5 za6 b43 n44 (fun vs => N_law03_LotOrder_0 I μ b43 n44 s vs) s) : L_law03_LotOrder_0 W R zn0 zp1 zl2 zl3 za4 zn5 za6 b430 n440 s := by
  refine ⟨fun vs s => ∃ b43 n44, vs = [(.bool b43), (.int .i64 n44)] ∧ I b43 n44 s, fun vs s => (match vs with | [.bool b43, .int _ n44] => μ b43 n44 s | _ => 0), ⟨⟨⟨_, rfl⟩, ⟨⟨_, rfl⟩, trivial⟩⟩, ⟨_, _, rfl, h0⟩⟩, ?_⟩
  intro b43 n44 s hI j
  obtain ⟨b43', n44', hy, hI⟩ := hI
  have hI' : I b43 n44 s := by cases hy; exact hI
  have hh := hr b43 n44 s hI'
  rw [← B_law03_LotOrder_0_eq W R zn0 zp1 zl2 zl3 za4 zn5 za6 b43 n44 _ j] at hh
  refine vc_mono ?_ _ _ hh
  exact KLoop_mono (fun vs s' h => by obtain ⟨b431, n441, rfl, h1, h2⟩ := h; exact ⟨⟨⟨_, rfl⟩, ⟨⟨_, rfl⟩, trivial⟩⟩, ⟨_, _, rfl, h1⟩, h2⟩)
def T_law03_LotOrder (W : World) (x1 : Option Addr) (l2 : Nat) (c3 : Nat) (n4 : Int) (n5 : Int) (x6 : Option Addr) (l7 : Nat) (c8 : Nat) (R : Ending → Hp → Prop) : Hp → Prop :=
  NEW 24 [(.slice x1 l2 c3), (.int .i64 n4)] fun B9 =>
    RDL (Addr.add ⟨B9, 0, none⟩ 0) fun x10 l11 c12 =>
      RDI .i64 (Addr.add ⟨B9, 0, none⟩ 1) fun n13 =>
        CALL Pg W F_law03_far [(.agg #[(.slice x10 l11 c12), (.int .i64 n13)]), (.slice none 0 0), (.int .i64 8)]
          (fun v14 => TYB v14 fun b16 =>
            BR b16
              (J_law03_LotOrder_1 W R true B9 n5 x6 l7 c8)
              (RDL (Addr.add ⟨B9, 0, none⟩ 0) fun x36 l37 c38 =>
                RDI .i64 (Addr.add ⟨B9, 0, none⟩ 1) fun n39 =>
                  CALL Pg W F_ref03_Lots [(.agg #[(.slice x36 l37 c38), (.int .i64 n39)])]
                    (fun v40 => TYB v40 fun b42 =>
                      J_law03_LotOrder_1 W R (!b42) B9 n5 x6 l7 c8)
                      (fun e41 => R (.panicked e41))))
            (fun e15 => R (.panicked e15))
theorem T_law03_LotOrder_eq (W : World) (x1 : Option Addr) (l2 : Nat) (c3 : Nat) (n4 : Int) (n5 : Int) (x6 : Option Addr) (l7 : Nat) (c8 : Nat) (R : Ending → Hp → Prop) : vfun Pg W an_7 Try.f7 [(.agg #[(.slice x1 l2 c3), (.int .i64 n4)]), (.int .u16 n5), (.slice x6 l7 c8)] R = T_law03_LotOrder W x1 l2 c3 n4 n5 x6 l7 c8 R := by kernel_rfl
theorem does_law03_LotOrder (W : World) (x1 : Option Addr) (l2 : Nat) (c3 : Nat) (n4 : Int) (n5 : Int) (x6 : Option Addr) (l7 : Nat) (c8 : Nat) (R : Ending → Hp → Prop) (s : Hp) (h : T_law03_LotOrder W x1 l2 c3 n4 n5 x6 l7 c8 R s) : Does Pg W F_law03_LotOrder #[(.agg #[(.slice x1 l2 c3), (.int .i64 n4)]), (.int .u16 n5), (.slice x6 l7 c8)] s R :=
  does_of_vfun Pg W an_7 Try.func7 rfl (by kernel_rfl) (by rw [T_law03_LotOrder_eq]; exact h)
def an_38 : Nat → Ann := fun b => match b with
  | 0 => { ms := [8], ks := [.i .i64], us := [0, 1, 7, 30], rt := false, ex := [] }
  | _ => {}
abbrev rv_38 : List ResultVar := [.tmp 4]
abbrev rs_38 : List Nat := [30, 4]
def L_law03_LotOrder_c1_0 (W : World) (R : Ending → Hp → Prop) (zp0 : Option Addr) (zl1 : Nat) (zl2 : Nat) (zp3 : Option Addr) (zl4 : Nat) (zl5 : Nat) (zn6 : Int) (n7 : Int) : Hp → Prop :=
  LOOPN [.i .i64] (fun ys next s => ∀ j : Tm, vc Pg W 30 rs_38 an_38 false (sub (bodyOf Try.f38) [1, 0, 1, 0, 0]) 0 (KLoop [8] [0, 1, 7, 30] [(.slice zp0 zl1 zl2), (.slice zp3 zl4 zl5), (.int .i64 zn6), (.tuple #[])] next (KBlk 0 (KS Pg W 30 rs_38 an_38 false (sub (bodyOf Try.f38) [1, 1]) 0 (fin Pg W 30 rv_38 R)))) (known [8] ys (known [0, 1, 7, 30] [(.slice zp0 zl1 zl2), (.slice zp3 zl4 zl5), (.int .i64 zn6), (.tuple #[])] j)) s) [(.int .i64 n7)]
def B_law03_LotOrder_c1_0 (W : World) (R : Ending → Hp → Prop) (zp0 : Option Addr) (zl1 : Nat) (zl2 : Nat) (zp3 : Option Addr) (zl4 : Nat) (zl5 : Nat) (zn6 : Int) (n7 : Int) (nx0 : List Value → Hp → Prop) : Hp → Prop :=
  BR (decide (n7 < zn6))
    (IXS zp0 zl1 n7 1 fun a8 =>
      RDI .i64 a8 fun n9 =>
        IXS zp3 zl4 n7 1 fun a10 =>
          RDI .i64 a10 fun n11 =>
            BR (n9 != n11)
              (IXS zp0 zl1 n7 1 fun a12 =>
                RDI .i64 a12 fun n13 =>
                  IXS zp3 zl4 n7 1 fun a14 =>
                    RDI .i64 a14 fun n15 =>
                      R (.returned (.bool (decide (n13 < n15)))))
              (NX [(.slice zp0 zl1 zl2), (.slice zp3 zl4 zl5), (.int .i64 zn6), (.tuple #[])] [(.slice zp0 zl1 zl2), (.slice zp3 zl4 zl5), (.int .i64 zn6), (.tuple #[])] (nx0 [(.int .i64 (IntKind.wrap .i64 (n7 + 1)))])))
    (R (.returned (.bool false)))
theorem B_law03_LotOrder_c1_0_eq (W : World) (R : Ending → Hp → Prop) (zp0 : Option Addr) (zl1 : Nat) (zl2 : Nat) (zp3 : Option Addr) (zl4 : Nat) (zl5 : Nat) (zn6 : Int) (n7 : Int) (nx0 : List Value → Hp → Prop) (j : Tm) : vc Pg W 30 rs_38 an_38 false (sub (bodyOf Try.f38) [1, 0, 1, 0, 0]) 0 (KLoop [8] [0, 1, 7, 30] [(.slice zp0 zl1 zl2), (.slice zp3 zl4 zl5), (.int .i64 zn6), (.tuple #[])] nx0 (KBlk 0 (KS Pg W 30 rs_38 an_38 false (sub (bodyOf Try.f38) [1, 1]) 0 (fin Pg W 30 rv_38 R)))) (known [8] [(.int .i64 n7)] (known [0, 1, 7, 30] [(.slice zp0 zl1 zl2), (.slice zp3 zl4 zl5), (.int .i64 zn6), (.tuple #[])] j)) = B_law03_LotOrder_c1_0 W R zp0 zl1 zl2 zp3 zl4 zl5 zn6 n7 nx0 := by kernel_rfl
def N_law03_LotOrder_c1_0 (I : Int → Hp → Prop) (μ : Int → Hp → Nat) (n70 : Int) (s : Hp) (vs : List Value) : Hp → Prop := fun s' => ∃ n7, vs = [(.int .i64 n7)] ∧ I n7 s' ∧ μ n7 s' < μ n70 s
theorem L_law03_LotOrder_c1_0_rule (W : World) (R : Ending → Hp → Prop) (zp0 : Option Addr) (zl1 : Nat) (zl2 : Nat) (zp3 : Option Addr) (zl4 : Nat) (zl5 : Nat) (zn6 : Int) (I : Int → Hp → Prop) (μ : Int → Hp → Nat) (n70 : Int) (s : Hp) (h0 : I n70 s)
    (hr : ∀ (n7 : Int) (s : Hp), I n7 s → B_law03_LotOrder_c1_0 W R zp0 zl1 zl2 zp3 zl4 zl5 zn6 n7 (fun vs => N_law03_LotOrder_c1_0 I μ n7 s vs) s) : L_law03_LotOrder_c1_0 W R zp0 zl1 zl2 zp3 zl4 zl5 zn6 n70 s := by
  refine ⟨fun vs s => ∃ n7, vs = [(.int .i64 n7)] ∧ I n7 s, fun vs s => (match vs with | [.int _ n7] => μ n7 s | _ => 0), ⟨⟨⟨_, rfl⟩, trivial⟩, ⟨_, rfl, h0⟩⟩, ?_⟩
  intro n7 s hI j
  obtain ⟨n7', hy, hI⟩ := hI
  have hI' : I n7 s := by cases hy; exact hI
  have hh := hr n7 s hI'
  rw [← B_law03_LotOrder_c1_0_eq W R zp0 zl1 zl2 zp3 zl4 zl5 zn6 n7 _ j] at hh
  refine vc_mono ?_ _ _ hh
  exact KLoop_mono (fun vs s' h => by obtain ⟨n71, rfl, h1, h2⟩ := h; exact ⟨⟨⟨_, rfl⟩, trivial⟩, ⟨_, rfl, h1⟩, h2⟩)
def T_law03_LotOrder_c1 (W : World) (x1 : Option Addr) (l2 : Nat) (c3 : Nat) (x4 : Option Addr) (l5 : Nat) (c6 : Nat) (R : Ending → Hp → Prop) : Hp → Prop :=
  L_law03_LotOrder_c1_0 W R x1 l2 c3 x4 l5 c6 (↑l2 : Int) 0
theorem T_law03_LotOrder_c1_eq (W : World) (x1 : Option Addr) (l2 : Nat) (c3 : Nat) (x4 : Option Addr) (l5 : Nat) (c6 : Nat) (R : Ending → Hp → Prop) : vfun Pg W an_38 Try.f38 [(.slice x1 l2 c3), (.slice x4 l5 c6)] R = T_law03_LotOrder_c1 W x1 l2 c3 x4 l5 c6 R := by kernel_rfl
theorem does_law03_LotOrder_c1 (W : World) (x1 : Option Addr) (l2 : Nat) (c3 : Nat) (x4 : Option Addr) (l5 : Nat) (c6 : Nat) (R : Ending → Hp → Prop) (s : Hp) (h : T_law03_LotOrder_c1 W x1 l2 c3 x4 l5 c6 R s) : Does Pg W F_law03_LotOrder_c1 #[(.slice x1 l2 c3), (.slice x4 l5 c6)] s R :=
  does_of_vfun Pg W an_38 Try.func38 rfl (by kernel_rfl) (by rw [T_law03_LotOrder_c1_eq]; exact h)
end Go.Proofs.Ytocnkdkgajdejaa.G

/- The statement LotOrder: the lawful draws are in order. -/
set_option linter.unusedSimpArgs false
set_option linter.unusedVariables false
set_option maxRecDepth 20000
namespace Go.Proofs.Ytocnkdkgajdejaa.G
open Go.V Go.Lot
section
variable {W : World} {K : VK} {E : List PanicEntry → Hp → Prop} {s : Hp} {L : Lts}
theorem row_at {y : Option Addr} {d : List Nat} {k : Nat} (hy : RowAt s y (vals d)) (hk : k < d.length) : ∃ a, y = some a ∧ cellAt s (a.add (k * 1)) = some (.int .i64 (d.getD k 0 : Nat)) := by
  have hget : d.getD k 0 = d[k] := by simp [List.getD, hk]
  have hkv : k < (vals d).length := by rw [vals_len]; exact hk
  obtain ⟨a, ha, g⟩ := hy k hkv
  rw [vals_get hkv] at g
  exact ⟨a, ha, by rw [hget]; exact g⟩
theorem c_before {x y : Option Addr} {c c' l l' : Nat} {a b : List Nat} (ha : RowAt s x (vals a)) (hb : RowAt s y (vals b)) (hl : l = a.length) (hl' : l' = b.length) (hab : a.length = b.length) (h8 : a.length ≤ 100) (h : K (.bool (ltB a b)) s) :
    CALLV Pg W (.func (.func 38) #[] #[]) [.slice x l c, .slice y l' c'] K E s := by
  subst hl; subst hl'
  refine CALLV_func ?_
  refine does_law03_LotOrder_c1 W x a.length c y b.length c' _ s ?_
  unfold T_law03_LotOrder_c1
  refine L_law03_LotOrder_c1_0_rule W _ x a.length c y b.length c' a.length (fun n t => t = s ∧ ∃ k : Nat, k ≤ a.length ∧ n = k ∧ ∀ j, j < k → a.getD j 0 = b.getD j 0) (fun n _ => (a.length - n).toNat) 0 s ⟨rfl, 0, by omega, rfl, fun j hj => by omega⟩ ?_
  rintro n t ⟨rfl, k, hk, rfl, heq⟩
  unfold B_law03_LotOrder_c1_0
  refine BR_dec (fun h1 => ?_) (fun h1 => ?_)
  · obtain ⟨p, hp, g⟩ := row_at ha (show k < a.length by omega)
    obtain ⟨q, hq, g'⟩ := row_at hb (show k < b.length by omega)
    have tk : ((k : Int)).toNat = k := by omega
    refine ⟨p, hp, ⟨by omega, by omega⟩, _, by rw [tk]; exact g, q, hq, ⟨by omega, by omega⟩, _, by rw [tk]; exact g', ?_⟩
    refine BR_ne (fun h2 => ?_) (fun h2 => ?_)
    · refine ⟨p, hp, ⟨by omega, by omega⟩, _, by rw [tk]; exact g, q, hq, ⟨by omega, by omega⟩, _, by rw [tk]; exact g', ?_⟩
      have h2' : a.getD k 0 ≠ b.getD k 0 := fun e => h2 (by rw [e])
      rw [ltB_drop a b k heq (by omega) (by omega) h2'] at h
      have e : decide (((a.getD k 0 : Nat) : Int) < ((b.getD k 0 : Nat) : Int)) = decide (a.getD k 0 < b.getD k 0) := by congr 1; apply propext; omega
      show K _ t
      rw [e]; exact h
    · have hw : IntKind.i64.wrap ((k : Int) + 1) = ((k + 1 : Nat) : Int) := by rw [wrap_i64 (by omega) (by omega)]; rfl
      refine ⟨rfl, _, rfl, ⟨rfl, k + 1, by omega, hw, fun j hj => ?_⟩, ?_⟩
      · by_cases hjk : j < k
        · exact heq j hjk
        · have : j = k := by omega
          subst this
          omega
      · show ((a.length : Int) - IntKind.i64.wrap ((k : Int) + 1)).toNat < ((a.length : Int) - k).toNat
        rw [hw]; omega
  · have : k = a.length := by omega
    subst this
    rw [ltB_same a b hab heq] at h
    exact h
/-- 'Nth' where there is one, and where there is none. -/
theorem c_Nth_some {x : Option Addr} {c k : Nat} (hm : MenAt s x L.men) (hv : valid L = true) (hk : k < cntAll L anyC) (h : ∀ s' d y c', Ext s s' → (allD L)[k]? = some d → RowAt s' y (vals d) → K (.tuple #[.slice y d.length c', .int .i64 0]) s') :
    CALL Pg W F_lot_Nth [.agg #[.slice x L.n c, .int .i64 L.worst], .int .i64 k] K E s := by
  have hn := (vd_iff.1 hv).hi
  obtain ⟨d, h1, h2⟩ := nthP_some hn hk
  refine c_Nth hm (fun s' d' v e _ hd ho => ?_) (fun s' e _ hd => ?_) (fun s' e hv' => by rw [hv] at hv'; cases hv')
  · rw [h1] at hd; cases hd
    obtain ⟨y, c', rfl, hr⟩ := ho
    exact h s' d y c' e h2 hr
  · rw [h1] at hd; cases hd
theorem c_Nth_none {x : Option Addr} {c : Nat} {n : Int} (hm : MenAt s x L.men) (hv : valid L = true) (hk : ¬ (0 ≤ n ∧ n < cntAll L anyC)) (h : ∀ s', Ext s s' → K (.tuple #[.slice none 0 0, .int .i64 4]) s') :
    CALL Pg W F_lot_Nth [.agg #[.slice x L.n c, .int .i64 L.worst], .int .i64 n] K E s := by
  have h1 := nthP_none hk
  refine c_Nth hm (fun s' d' v e _ hd ho => ?_) (fun s' e _ hd => h s' e) (fun s' e hv' => by rw [hv] at hv'; cases hv')
  rw [h1] at hd; cases hd
theorem f_FullN {x y : Option Addr} {c c' l : Nat} {d : List Nat} (hd : Perm0 L.n d) (hy : RowAt s y (vals d)) (hl : l = d.length) (hn : L.n ≤ 8) (h : ∀ s', Ext s s' → K (.bool true) s') :
    CALL Pg W F_ref03_Full [.agg #[.slice x L.n c, .int .i64 L.worst], .slice y l c'] K E s := by
  subst hl
  have hok := Perm0.ok hd
  have hlen : (d.map fun (n : Nat) => (n : Int)).length = d.length := by simp
  have := f_Full (W := W) (K := K) (E := E) (L := L) (x := x) (c := c) (c' := c') (ds := d.map fun (n : Nat) => (n : Int)) (y := y) (s := s) (by rw [ints_vals]; exact hy) hn (by rw [hlen, hd.len]; omega) (fun s' e => by rw [decide_eq_true hok]; exact h s' e)
  rw [hlen] at this
  exact this
theorem c_PlaceN {x y : Option Addr} {c c' l : Nat} {d : List Nat} (hm : MenAt s x L.men) (hv : valid L = true) (h1 : Perm0 L.n d) (h2 : wrong L d = none) (hy : RowAt s y (vals d)) (hl : l = d.length) (h : ∀ s' (k : Nat), Ext s s' → (allD L)[k]? = some d → K (.tuple #[.int .i64 k, .int .i64 0]) s') :
    CALL Pg W F_lot_Place [.agg #[.slice x L.n c, .int .i64 L.worst], .slice y l c'] K E s := by
  have hn := (vd_iff.1 hv).hi
  obtain ⟨k, hp, ha⟩ := placeP_all hn hv h1 h2
  refine c_Place' (ds := d.map fun (n : Nat) => (n : Int)) hm (by rw [ints_vals]; exact hy) (by rw [List.length_map, h1.len]; omega) (by rw [List.length_map]; exact hl) fun s' e => ?_
  rw [hp]
  exact h s' k e ha
theorem f_IntsV {x y : Option Addr} {c c' l l' : Nat} {a b : List Nat} (ha : RowAt s x (vals a)) (hb : RowAt s y (vals b)) (hla : a.length ≤ 100000) (hl : l = a.length) (hl' : l' = b.length) (h : K (.bool (decide (a = b))) s) :
    CALL Pg W F_ref03_Ints [.slice x l c, .slice y l' c'] K E s := by
  refine f_IntsN (a := a.map fun (n : Nat) => (n : Int)) (b := b.map fun (n : Nat) => (n : Int)) (by rw [ints_vals]; exact ha) (by rw [ints_vals]; exact hb) (by rw [List.length_map]; exact hla) (by rw [List.length_map]; exact hl) (by rw [List.length_map]; exact hl') ?_
  have : decide ((a.map fun (n : Nat) => (n : Int)) = (b.map fun (n : Nat) => (n : Int))) = decide (a = b) := by
    congr 1
    apply propext
    constructor
    · intro e
      have := congrArg (List.map Int.toNat) e
      rwa [map_back, map_back] at this
    · intro e; rw [e]
  rw [this]; exact h

theorem w_LotOrder {x y : Option Addr} {c w l c' : Nat} (hm : MenAt s x L.men) (hw : w ≤ 65535) (hy : U8At s y l) (h : ∀ s', Ext s s' → K (.bool true) s') :
    CALL Pg W F_law03_LotOrder [.agg #[.slice x L.n c, .int .i64 L.worst], .int .u16 w, .slice y l c'] K E s := by
  refine does_law03_LotOrder W x L.n c L.worst w y l c' _ s ?_
  unfold T_law03_LotOrder
  refine NEW_rule fun s1 e1 z1 n1 _ => ?_
  have c0 := (n1 0 _ rfl).cell
  have c1 := (n1 1 _ rfl).cell
  have aw : ∀ t, Ext s1 t → CALL Pg W F_law03_awake [] (fun v16 => TYB v16 fun b18 => (endK K E) (.returned (.bool b18))) (fun c17 => (endK K E) (.panicked c17)) t := fun t et => c_awake fun t' et' => h t' (e1.trans (et.trans et'))
  refine ⟨_, _, _, c0, _, c1, ?_⟩
  refine c_far (n := 8) (hm.ext e1) fun s2 bb e2 hb1 hb2 => ?_
  try simp only [TUP_mk, AGG_mk, HD_mk, NL_mk, TYI_mk, TYB_mk, TYP_mk, TYL_mk, TYS_mk, TYM_mk, SO_mk, NX_mk, endK_mk, endK_mk', add_0]
  unfold J_law03_LotOrder_1
  refine BR_bool (fun hbb => aw s2 e2) (fun hbb => ?_)
  obtain ⟨hn30, _, hn8'⟩ := hb2 hbb
  refine ⟨_, _, _, e2.cell c0, _, e2.cell c1, ?_⟩
  have e02 := e1.trans e2
  refine f_Lots (hm.ext e02) (by omega) fun s3 e3 => ?_
  try simp only [TUP_mk, AGG_mk, HD_mk, NL_mk, TYI_mk, TYB_mk, TYP_mk, TYL_mk, TYS_mk, TYM_mk, SO_mk, NX_mk, endK_mk, endK_mk', add_0]
  have e13 := e2.trans e3
  have e03 := e1.trans e13
  refine BR_not (fun hv => aw s3 e13) (fun hv => ?_)
  have v := vd_iff.1 hv
  have hn8 := v.hi
  have hlo := v.lo
  refine ⟨_, _, _, e13.cell c0, _, e13.cell c1, ?_⟩
  refine c_Count (hm.ext e03) fun s4 e4 => ?_
  try simp only [TUP_mk, AGG_mk, HD_mk, NL_mk, TYI_mk, TYB_mk, TYP_mk, TYL_mk, TYS_mk, TYM_mk, SO_mk, NX_mk, endK_mk, endK_mk', add_0]
  have hcp : countP L = (((cntAll L anyC : Nat) : Int), 0) := by unfold countP; rw [hv]; rfl
  rw [hcp]
  have e14 := e13.trans e4
  have hcl : cntAll L anyC ≤ 134217728 := cnt_le L anyC hn8 _ _
  refine BR_ne (fun hh => absurd rfl hh) (fun _ => ?_)
  unfold J_law03_LotOrder_0
  refine BR_dec (fun hh => by dsimp only at hh; omega) (fun _ => ?_)
  refine NEW_rule fun s5 e5 z5 n5 _ => ?_
  have e15 := e14.trans e5
  dsimp only
  generalize hcN : cntAll L anyC = N at *
  refine L_law03_LotOrder_0_rule W _ w y l c' ⟨s.size, 0, none⟩ N ⟨s4.size, 0, none⟩ (fun _ n t => Ext s5 t ∧ ∃ k : Nat, k ≤ 2 ∧ n = k) (fun _ n _ => (2 - n).toNat) false 0 s5 ⟨Ext.refl _, 0, by omega, rfl⟩ ?_
  rintro b43 n t ⟨e5t, k, hk, rfl⟩
  have et := e15.trans e5t
  unfold B_law03_LotOrder_0
  refine BR_dec (fun h1 => ?_) (fun h1 => ?_)
  · have tk : ((k : Int)).toNat = k := by omega
    have hwk : IntKind.i64.wrap ((k : Int) + 1) = ((k + 1 : Nat) : Int) := by rw [wrap_i64 (by omega) (by omega)]; rfl
    obtain ⟨z, hz, hzn⟩ : ∃ z : Int, cellAt t ((⟨s4.size, 0, none⟩ : Addr).add (k * 1)) = some (.int .i64 z) ∧ ¬ (0 ≤ z ∧ z < cntAll L anyC) := by
      rw [add_nil, Nat.mul_one, Nat.zero_add]
      match k, hk, h1 with
      | 0, _, _ => exact ⟨-1, e5t.cell (n5 0 _ rfl).cell, by omega⟩
      | 1, _, _ => exact ⟨N, e5t.cell (n5 1 _ rfl).cell, by rw [hcN]; omega⟩
      | 2, _, h1 => exact absurd h1 (by decide)
    refine ⟨_, rfl, ⟨by omega, by omega⟩, _, by rw [tk]; exact hz, _, _, _, et.cell c0, _, et.cell c1, ?_⟩
    refine c_Nth_none (hm.ext (e1.trans et)) hv hzn fun t2 f2 => ?_
    try simp only [TUP_mk, AGG_mk, HD_mk, NL_mk, TYI_mk, TYB_mk, TYP_mk, TYL_mk, TYS_mk, TYM_mk, SO_mk, NX_mk, endK_mk, endK_mk', add_0]
    refine BR_ne (fun hh => absurd rfl hh) (fun _ => ?_)
    unfold J_law03_LotOrder_2
    refine BR_ne (fun hh => absurd rfl hh) (fun _ => ?_)
    refine ⟨rfl, _, _, rfl, ⟨e5t.trans f2, k + 1, by omega, hwk⟩, ?_⟩
    show (2 - IntKind.i64.wrap ((k : Int) + 1)).toNat < (2 - (k : Int)).toNat
    rw [hwk]; omega
  · refine BR_eq (fun _ => aw t et) (fun hN0 => ?_)
    have hNp : 0 < N := by omega
    have hww : IntKind.wrap .i64 (w : Int) = (w : Int) := wrap_i64 (by omega) (by omega)
    refine NZI_pos (by omega) ⟨_, _, _, et.cell c0, _, et.cell c1, ?_⟩
    rw [hww, mod_nat]
    have hkN : w % N < N := Nat.mod_lt _ hNp
    obtain ⟨q, hq⟩ : ∃ q, w % N = q := ⟨_, rfl⟩
    rw [hq] at hkN ⊢
    refine c_Nth_some (hm.ext (e1.trans et)) hv (by omega) fun t2 d yd cd f2 hd rd => ?_
    try simp only [TUP_mk, AGG_mk, HD_mk, NL_mk, TYI_mk, TYB_mk, TYP_mk, TYL_mk, TYS_mk, TYM_mk, SO_mk, NX_mk, endK_mk, endK_mk', add_0]
    have et2 := et.trans f2
    obtain ⟨pd, wd, _⟩ := allD_at hn8 hd
    refine ⟨_, _, _, et2.cell c0, _, et2.cell c1, ?_⟩
    refine c_PlaceN (hm.ext (e1.trans et2)) hv pd wd rd rfl fun t3 q' f3 hq' => ?_
    have hqq : q = q' := (allD_inj hn8 hq' hd).symm
    subst hqq
    try simp only [TUP_mk, AGG_mk, HD_mk, NL_mk, TYI_mk, TYB_mk, TYP_mk, TYL_mk, TYS_mk, TYM_mk, SO_mk, NX_mk, endK_mk, endK_mk', add_0]
    have et3 := et2.trans f3
    refine BR_ne (fun hh => absurd rfl hh) (fun _ => ?_)
    refine ⟨_, _, _, et3.cell c0, _, et3.cell c1, ?_⟩
    refine f_FullN pd (rd.ext f3) rfl hn8 fun t4 f4 => ?_
    try simp only [TUP_mk, AGG_mk, HD_mk, NL_mk, TYI_mk, TYB_mk, TYP_mk, TYL_mk, TYS_mk, TYM_mk, SO_mk, NX_mk, endK_mk, endK_mk', add_0]
    have et4 := et3.trans f4
    have rd4 := (rd.ext f3).ext f4
    unfold J_law03_LotOrder_12
    refine BR_not (fun hh => by cases hh) (fun _ => ?_)
    refine ⟨_, _, _, et4.cell c0, _, et4.cell c1, ?_⟩
    refine c_lawful (hm.ext (e1.trans et4)) rd4 hv pd.lt rfl pd.len fun t5 f5 => ?_
    try simp only [TUP_mk, AGG_mk, HD_mk, NL_mk, TYI_mk, TYB_mk, TYP_mk, TYL_mk, TYS_mk, TYM_mk, SO_mk, NX_mk, endK_mk, endK_mk', add_0]
    have et5 := et4.trans f5
    have rd5 := rd4.ext f5
    rw [decide_eq_true wd]
    unfold J_law03_LotOrder_11
    refine BR_not (fun hh => by cases hh) (fun _ => ?_)
    unfold J_law03_LotOrder_10
    refine BR_ne (fun hh => absurd rfl hh) (fun _ => ?_)
    unfold J_law03_LotOrder_9
    rw [hww, mod_nat, hq]
    refine BR_ne (fun hh => absurd rfl hh) (fun _ => ?_)
    have dlen := pd.len
    have j6 : ∀ t, Ext s1 t → RowAt t yd (vals d) → J_law03_LotOrder_6 W (endK K E) ⟨s.size, 0, none⟩ y l c' N yd d.length cd w t := by
      intro t et rd
      unfold J_law03_LotOrder_6
      refine ⟨_, _, _, et.cell c0, ?_⟩
      refine c_made (hy.ext (e1.trans et)) (by omega) fun u1 a own g1 fr po bo => ?_
      try simp only [TUP_mk, AGG_mk, HD_mk, NL_mk, TYI_mk, TYB_mk, TYP_mk, TYL_mk, TYS_mk, TYM_mk, SO_mk, NX_mk, endK_mk, endK_mk', add_0]
      have eu1 := et.trans g1
      have ro : RowAt u1 (some a) (vals own) := bo.row
      refine ⟨_, _, _, eu1.cell c0, _, eu1.cell c1, ?_⟩
      refine c_lawful (hm.ext (e1.trans eu1)) ro hv po.lt po.len.symm po.len fun u2 g2 => ?_
      try simp only [TUP_mk, AGG_mk, HD_mk, NL_mk, TYI_mk, TYB_mk, TYP_mk, TYL_mk, TYS_mk, TYM_mk, SO_mk, NX_mk, endK_mk, endK_mk', add_0]
      have eu2 := eu1.trans g2
      refine BR_not (fun hh => aw u2 eu2) (fun hh => ?_)
      have wo : wrong L own = none := of_decide_eq_true hh
      refine ⟨_, _, _, eu2.cell c0, _, eu2.cell c1, ?_⟩
      refine c_PlaceN (hm.ext (e1.trans eu2)) hv po wo (ro.ext g2) po.len.symm fun u3 p g3 hp => ?_
      try simp only [TUP_mk, AGG_mk, HD_mk, NL_mk, TYI_mk, TYB_mk, TYP_mk, TYL_mk, TYS_mk, TYM_mk, SO_mk, NX_mk, endK_mk, endK_mk', add_0]
      have eu3 := eu2.trans g3
      have hpN : p < N := by rw [← hcN]; exact (allD_at hn8 hp).2.2
      have ro3 := (ro.ext g2).ext g3
      have rd3 := rd.ext (g1.trans (g2.trans g3))
      refine BR_eq (fun _ => ?_) (fun hh => absurd rfl hh)
      unfold J_law03_LotOrder_5
      refine BR_dec (fun _ => ?_) (fun hh => by omega)
      unfold J_law03_LotOrder_4
      refine BR_dec (fun _ => ?_) (fun hh => by omega)
      refine c_before ro3 rd3 po.len.symm rfl (by rw [po.len, dlen]) (by rw [po.len]; omega) ?_
      try simp only [TUP_mk, AGG_mk, HD_mk, NL_mk, TYI_mk, TYB_mk, TYP_mk, TYL_mk, TYS_mk, TYM_mk, SO_mk, NX_mk, endK_mk, endK_mk', add_0]
      unfold J_law03_LotOrder_3
      rw [hww, mod_nat, hq]
      have e1' : decide ((p : Int) < (q : Int)) = ltB own d := by
        rw [Bool.eq_iff_iff, ltB_iff, ← allD_lt hn8 hp hd]
        simp
      rw [e1']
      refine BR_eq (fun _ => ?_) (fun hh => absurd rfl hh)
      refine f_IntsV ro3 rd3 (by rw [po.len]; omega) po.len.symm rfl ?_
      try simp only [TUP_mk, AGG_mk, HD_mk, NL_mk, TYI_mk, TYB_mk, TYP_mk, TYL_mk, TYS_mk, TYM_mk, SO_mk, NX_mk, endK_mk, endK_mk', add_0]
      have e2' : ((p : Int) == (q : Int)) = decide (own = d) := by
        rw [Bool.eq_iff_iff]
        simp only [beq_iff_eq, decide_eq_true_eq]
        constructor
        · intro e
          have : p = q := by omega
          subst this
          rw [hp] at hd; exact Option.some.inj hd
        · intro e
          subst e
          have := allD_inj hn8 hp hd
          omega
      rw [e2']
      refine BR_eq (fun _ => ?_) (fun hh => absurd rfl hh)
      exact aw u3 eu3
    have hwq : IntKind.wrap .i64 ((q : Int) + 1) = ((q + 1 : Nat) : Int) := by rw [wrap_i64 (by omega) (by omega)]; rfl
    rw [hwq]
    refine BR_dec (fun hlt => ?_) (fun _ => j6 t5 et5 rd5)
    refine ⟨_, _, _, et5.cell c0, _, et5.cell c1, ?_⟩
    refine c_Nth_some (hm.ext (e1.trans et5)) hv (by omega) fun t6 d2 yd2 cd2 f6 hd2 rd2 => ?_
    try simp only [TUP_mk, AGG_mk, HD_mk, NL_mk, TYI_mk, TYB_mk, TYP_mk, TYL_mk, TYS_mk, TYM_mk, SO_mk, NX_mk, endK_mk, endK_mk', add_0]
    obtain ⟨pd2, _, _⟩ := allD_at hn8 hd2
    have et6 := et5.trans f6
    refine BR_ne (fun hh => absurd rfl hh) (fun _ => ?_)
    unfold J_law03_LotOrder_8
    refine BR_ne (fun hh => absurd (by rw [pd2.len, dlen]) hh) (fun _ => ?_)
    refine c_before (rd5.ext f6) rd2 rfl rfl (by rw [pd2.len, dlen]) (by rw [dlen]; omega) ?_
    try simp only [TUP_mk, AGG_mk, HD_mk, NL_mk, TYI_mk, TYB_mk, TYP_mk, TYL_mk, TYS_mk, TYM_mk, SO_mk, NX_mk, endK_mk, endK_mk', add_0]
    have hlt2 : ltB d d2 = true := (ltB_iff _ _).2 ((allD_lt hn8 hd hd2).1 (by omega))
    rw [hlt2]
    unfold J_law03_LotOrder_7
    refine BR_not (fun hh => by cases hh) (fun _ => ?_)
    exact j6 t6 et6 (rd5.ext f6)
end
end Go.Proofs.Ytocnkdkgajdejaa.G

/- Draws of plots, in plain Lean: what is drawn. -/
set_option linter.unusedSimpArgs false
set_option linter.unusedVariables false
namespace Go.Proofs.Ytocnkdkgajdejaa.G
open Go.V Go.Lot
/-- What is chosen goes on, and is lawful. -/
theorem run_law (L : Lts) (hn : L.n ≤ 8) : ∀ (f num left b : Nat), left < 2 ^ L.n → (menOf L.n left).length ≤ f → 0 < cnt L anyC left b → Law L (runC (drawN L) f num left b) left b
  | 0, num, left, b, hl, hf, h => by
    have : left = 0 := menOf_nil hl (by omega)
    subst this
    exact rfl
  | f + 1, num, left, b, hl, hf, h => by
    by_cases h0 : left = 0
    · subst h0
      exact rfl
    · have hc := cans_pos L hn hl h0 h
      have hlt := Nat.mod_lt (nextD num) hc
      have hget : (drawN L num left b).1 = (cans L left b)[nextD num % (cans L left b).length] := by
        unfold drawN; simp [List.getD, hlt]
      have hmem : (drawN L num left b).1 ∈ cans L left b := by rw [hget]; exact List.getElem_mem _
      obtain ⟨hm, hg⟩ := List.mem_filter.1 hmem
      obtain ⟨h1, h2⟩ := menOf_mem.1 hm
      unfold good at hg
      simp only [Bool.and_eq_true, decide_eq_true_eq] at hg
      have hclr := clr_len hn (lt256 hn hl) h1 h2
      have hrun : runC (drawN L) (f + 1) num left b = (drawN L num left b).1 :: runC (drawN L) f (drawN L num left b).2 (left - 2 ^ (drawN L num left b).1) (drawN L num left b).1 := by
        show (if left = 0 then [] else _) = _
        rw [if_neg h0]
      rw [hrun]
      exact ⟨h1, h2, hg.1, run_law L hn f _ _ _ (Nat.lt_of_le_of_lt (Nat.sub_le _ _) hl) (by omega) hg.2⟩
/-- The lawful draws that begin in some way lie behind one another. -/
structure Seg (L : Lts) (pre : List Nat) (left b lo : Nat) : Prop where
  lt : left < 2 ^ L.n
  plot : plotOf L.n left = pre.length
  at' : ∀ t e, (allL L left b)[t]? = some e → (allD L)[lo + t]? = some (pre ++ e)
theorem seg_start (L : Lts) : Seg L [] (full L.n) 8 0 := ⟨full_lt8, plot_full, fun t e h => by rw [Nat.zero_add]; exact h⟩
def off (L : Lts) (left b k : Nat) : Nat := ((manys L left b).take k).sum
theorem cans_at {L : Lts} {left b k : Nat} (h : k < (cans L left b).length) : (cans L left b)[k] < L.n ∧ left.testBit (cans L left b)[k] = true ∧ 0 < cnt L anyC (left - 2 ^ (cans L left b)[k]) (cans L left b)[k] := by
  obtain ⟨hm, hg⟩ := List.mem_filter.1 (List.getElem_mem h)
  obtain ⟨h1, h2⟩ := menOf_mem.1 hm
  unfold good at hg
  simp only [Bool.and_eq_true, decide_eq_true_eq] at hg
  exact ⟨h1, h2, hg.2⟩
theorem off_succ {L : Lts} {left b k : Nat} (h : k < (cans L left b).length) : off L left b (k + 1) = off L left b k + cnt L anyC (left - 2 ^ (cans L left b)[k]) (cans L left b)[k] := by
  unfold off
  have hl : k < (manys L left b).length := by unfold manys; rw [List.length_map]; exact h
  rw [List.take_add_one, List.getElem?_eq_getElem hl, List.sum_append]
  have e : (manys L left b)[k] = cnt L anyC (left - 2 ^ (cans L left b)[k]) (cans L left b)[k] := by
    unfold manys
    exact List.getElem_map _
  rw [e]; simp
theorem off_mono {L : Lts} {left b : Nat} : ∀ {j k : Nat}, j ≤ k → k ≤ (cans L left b).length → off L left b j ≤ off L left b k := by
  intro j k hjk
  induction k with
  | zero => intro _; have : j = 0 := by omega
            subst this; exact Nat.le_refl _
  | succ k ih =>
    intro hk
    by_cases e : j = k + 1
    · subst e; exact Nat.le_refl _
    · have := ih (by omega) (by omega)
      rw [off_succ (by omega)]; omega
theorem off_all {L : Lts} (hn : L.n ≤ 8) {left b : Nat} (hl : left < 2 ^ L.n) (h0 : left ≠ 0) : off L left b (cans L left b).length = (allL L left b).length := by
  unfold off
  have hl' : (manys L left b).length = (cans L left b).length := by unfold manys; rw [List.length_map]
  rw [← hl', List.take_length, ← cnt_manys L hn hl h0, cnt_len L hn hl]
/-- Somewhere each index lies. -/
theorem off_find {L : Lts} {left b : Nat} : ∀ (k t : Nat), k ≤ (cans L left b).length → t < off L left b k → ∃ j, ∃ h : j < (cans L left b).length, j < k ∧ off L left b j ≤ t ∧ t < off L left b (j + 1)
  | 0, t, _, h => by simp [off] at h
  | k + 1, t, hk, h => by
    by_cases h1 : t < off L left b k
    · obtain ⟨j, h2, h3, h4⟩ := off_find k t (by omega) h1
      exact ⟨j, h2, by omega, h4⟩
    · exact ⟨k, by omega, by omega, by omega, h⟩
theorem all_block {L : Lts} (hn : L.n ≤ 8) {left b k t : Nat} (hl : left < 2 ^ L.n) (h0 : left ≠ 0) (hk : k < (cans L left b).length) {e : List Nat} (he : (allL L (left - 2 ^ (cans L left b)[k]) (cans L left b)[k])[t]? = some e) :
    (allL L left b)[off L left b k + t]? = some ((cans L left b)[k] :: e) := by
  rw [allL_cans L hn hl h0]
  have hlt : t < ((fun m => (allL L (left - 2 ^ m) m).map (m :: ·)) (cans L left b)[k]).length := by
    simp only [List.length_map]
    exact (List.getElem?_eq_some_iff.1 he).1
  have hg := flat_get (fun m => (allL L (left - 2 ^ m) m).map (m :: ·)) (cans L left b) k hk t hlt
  rw [← manys_sum L hn hl k] at hg
  unfold off
  rw [hg]
  simp only [List.getElem?_map, he]
  rfl
theorem Seg.step {L : Lts} (hn : L.n ≤ 8) {pre : List Nat} {left b lo k : Nat} (h : Seg L pre left b lo) (h0 : left ≠ 0) (hk : k < (cans L left b).length) : Seg L (pre ++ [(cans L left b)[k]]) (left - 2 ^ (cans L left b)[k]) (cans L left b)[k] (lo + off L left b k) := by
  obtain ⟨h1, h2, h3⟩ := cans_at hk
  refine ⟨Nat.lt_of_le_of_lt (Nat.sub_le _ _) h.lt, ?_, fun t e he => ?_⟩
  · rw [plot_clr hn h.lt h1 h2, h.plot]; simp
  · have := h.at' _ _ (all_block hn h.lt h0 hk he)
    rw [Nat.add_assoc, this]; simp
/-- Which one has the plot, by the index. -/
theorem Seg.which {L : Lts} (hn : L.n ≤ 8) {pre : List Nat} {left b lo k t : Nat} (h : Seg L pre left b lo) (h0 : left ≠ 0) (hk : k < (cans L left b).length) (h1 : off L left b k ≤ t) (h2 : t < (allL L left b).length) {d : List Nat} (hd : (allD L)[lo + t]? = some d) :
    (d.getD pre.length 0 = (cans L left b)[k] ↔ t < off L left b (k + 1)) := by
  rw [← off_all hn h.lt h0] at h2
  obtain ⟨j, hj, _, h3, h4⟩ := off_find _ t (Nat.le_refl _) h2
  have hlt : t - off L left b j < (allL L (left - 2 ^ (cans L left b)[j]) (cans L left b)[j]).length := by
    rw [← cnt_len L hn (Nat.lt_of_le_of_lt (Nat.sub_le _ _) h.lt)]
    rw [off_succ hj] at h4; omega
  have hb := all_block hn h.lt h0 hj (List.getElem?_eq_getElem hlt)
  rw [show off L left b j + (t - off L left b j) = t by omega] at hb
  have hd' := h.at' _ _ hb
  rw [hd] at hd'
  have hde := Option.some.inj hd'
  have hget : d.getD pre.length 0 = (cans L left b)[j] := by rw [hde]; simp [List.getD]
  rw [hget]
  constructor
  · intro e
    have hjk : j = k := by
      have hnd : (cans L left b).Nodup := by unfold cans; exact List.Nodup.sublist List.filter_sublist (nodup_menOf _ _)
      have hp := List.pairwise_iff_getElem.1 hnd
      rcases Nat.lt_trichotomy j k with g | g | g
      · exact absurd e (hp j k hj hk g)
      · exact g
      · exact absurd e.symm (hp k j hk hj g)
    subst hjk; exact h4
  · intro ht
    have hjk : j = k := by
      rcases Nat.lt_trichotomy j k with g | g | g
      · have := off_mono (L := L) (left := left) (b := b) (show j + 1 ≤ k by omega) (by omega); omega
      · exact g
      · have := off_mono (L := L) (left := left) (b := b) (show k + 1 ≤ j by omega) (by omega); omega
    subst hjk; rfl
end Go.Proofs.Ytocnkdkgajdejaa.G

/- More of the functions' shallow texts, by gen.py. -/
set_option linter.unusedVariables false
set_option maxRecDepth 100000
namespace Go.Proofs.Ytocnkdkgajdejaa.G
open Go.V
def an_6 : Nat → Ann := fun b => match b with
  | 0 => { ms := [4, 9, 10, 11, 80], ks := [.b, .i .i64, .i .i64, .i .i64, .i .i64], us := [2, 5, 79, 193], rt := false, ex := [] }
  | 2 => { ms := [4, 13, 14, 15], ks := [.b, .l, .l, .i .i64], us := [2, 5, 9, 11, 12, 79, 80, 193], rt := false, ex := [] }
  | 4 => { ms := [4, 18, 19], ks := [.b, .i .i64, .i .i64], us := [2, 5, 9, 11, 12, 13, 14, 16, 79, 80, 193], rt := false, ex := [] }
  | _ => {}
abbrev rv_6 : List ResultVar := [.tmp 4]
abbrev rs_6 : List Nat := [193, 4]
def L_law03_LotDraws_0 (W : World) (R : Ending → Hp → Prop) (za0 : Addr) (zp1 : Option Addr) (zl2 : Nat) (zl3 : Nat) (zn4 : Int) (b72 : Bool) (n73 : Int) (n74 : Int) (n75 : Int) (n76 : Int) : Hp → Prop :=
  LOOPN [.b, .i .i64, .i .i64, .i .i64, .i .i64] (fun ys next s => ∀ j : Tm, vc Pg W 193 rs_6 an_6 false (sub (bodyOf Try.f6) [1, 1, 1, 1, 1, 1, 1, 1, 1, 0, 1, 0, 0]) 0 (KLoop [4, 9, 10, 11, 80] [2, 5, 79, 193] [(.pointer (some za0)), (.slice zp1 zl2 zl3), (.int .i64 zn4), (.tuple #[])] next (KBlk 0 (KS Pg W 193 rs_6 an_6 false (sub (bodyOf Try.f6) [1, 1, 1, 1, 1, 1, 1, 1, 1, 1]) 0 (fin Pg W 193 rv_6 R)))) (known [4, 9, 10, 11, 80] ys (known [2, 5, 79, 193] [(.pointer (some za0)), (.slice zp1 zl2 zl3), (.int .i64 zn4), (.tuple #[])] j)) s) [(.bool b72), (.int .i64 n73), (.int .i64 n74), (.int .i64 n75), (.int .i64 n76)]
def L_law03_LotDraws_1 (W : World) (R : Ending → Hp → Prop) (nx0 : List Value → Hp → Prop) (za0 : Addr) (zp1 : Option Addr) (zl2 : Nat) (zl3 : Nat) (zn4 : Int) (zn5 : Int) (zn6 : Int) (zn7 : Int) (b80 : Bool) (x81 : Option Addr) (l82 : Nat) (c83 : Nat) (x84 : Option Addr) (l85 : Nat) (c86 : Nat) (n87 : Int) : Hp → Prop :=
  LOOPN [.b, .l, .l, .i .i64] (fun ys next s => ∀ j : Tm, vc Pg W 193 rs_6 an_6 false (sub (bodyOf Try.f6) [1, 1, 1, 1, 1, 1, 1, 1, 1, 0, 1, 0, 0, 1, 1, 0, 0, 1, 1, 1, 0, 1, 0, 0]) 2 (KLoop [4, 13, 14, 15] [2, 5, 9, 11, 12, 79, 80, 193] [(.pointer (some za0)), (.slice zp1 zl2 zl3), (.int .i64 zn4), (.int .i64 zn5), (.int .i64 zn6), (.int .i64 zn7), (.int .i64 zn6), (.tuple #[])] next (KBlk 2 (KS Pg W 193 rs_6 an_6 false (sub (bodyOf Try.f6) [1, 1, 1, 1, 1, 1, 1, 1, 1, 0, 1, 0, 0, 1, 1, 0, 0, 1, 1, 1, 1]) 1 (KBlk 1 (KS Pg W 193 rs_6 an_6 false (sub (bodyOf Try.f6) [1, 1, 1, 1, 1, 1, 1, 1, 1, 0, 1, 0, 0, 1, 1, 1]) 0 (KLoop [4, 9, 10, 11, 80] [2, 5, 79, 193] [(.pointer (some za0)), (.slice zp1 zl2 zl3), (.int .i64 zn7), (.tuple #[])] nx0 (KBlk 0 (KS Pg W 193 rs_6 an_6 false (sub (bodyOf Try.f6) [1, 1, 1, 1, 1, 1, 1, 1, 1, 1]) 0 (fin Pg W 193 rv_6 R))))))))) (known [4, 13, 14, 15] ys (known [2, 5, 9, 11, 12, 79, 80, 193] [(.pointer (some za0)), (.slice zp1 zl2 zl3), (.int .i64 zn4), (.int .i64 zn5), (.int .i64 zn6), (.int .i64 zn7), (.int .i64 zn6), (.tuple #[])] j)) s) [(.bool b80), (.slice x81 l82 c83), (.slice x84 l85 c86), (.int .i64 n87)]
def L_law03_LotDraws_2 (W : World) (R : Ending → Hp → Prop) (nx0 : List Value → Hp → Prop) (nx1 : List Value → Hp → Prop) (za0 : Addr) (zp1 : Option Addr) (zl2 : Nat) (zl3 : Nat) (zn4 : Int) (zn5 : Int) (zn6 : Int) (zp7 : Option Addr) (zl8 : Nat) (zl9 : Nat) (zp10 : Option Addr) (zl11 : Nat) (zl12 : Nat) (zp13 : Option Addr) (zl14 : Nat) (zl15 : Nat) (zn16 : Int) (b122 : Bool) (n123 : Int) (n124 : Int) : Hp → Prop :=
  LOOPN [.b, .i .i64, .i .i64] (fun ys next s => ∀ j : Tm, vc Pg W 193 rs_6 an_6 false (sub (bodyOf Try.f6) [1, 1, 1, 1, 1, 1, 1, 1, 1, 0, 1, 0, 0, 1, 1, 0, 0, 1, 1, 1, 0, 1, 0, 0, 1, 0, 1, 1, 1, 1, 0, 0, 0]) 4 (KLoop [4, 18, 19] [2, 5, 9, 11, 12, 13, 14, 16, 79, 80, 193] [(.pointer (some za0)), (.slice zp1 zl2 zl3), (.int .i64 zn4), (.int .i64 zn5), (.int .i64 zn6), (.slice zp7 zl8 zl9), (.slice zp10 zl11 zl12), (.slice zp13 zl14 zl15), (.int .i64 zn16), (.int .i64 zn6), (.tuple #[])] next (KBlk 4 (KS Pg W 193 rs_6 an_6 false (sub (bodyOf Try.f6) [1, 1, 1, 1, 1, 1, 1, 1, 1, 0, 1, 0, 0, 1, 1, 0, 0, 1, 1, 1, 0, 1, 0, 0, 1, 0, 1, 1, 1, 1, 1]) 3 (KBlk 3 (KLoop [4, 13, 14, 15] [2, 5, 9, 11, 12, 79, 80, 193] [(.pointer (some za0)), (.slice zp1 zl2 zl3), (.int .i64 zn4), (.int .i64 zn5), (.int .i64 zn6), (.int .i64 zn16), (.int .i64 zn6), (.tuple #[])] nx1 (KBlk 2 (KS Pg W 193 rs_6 an_6 false (sub (bodyOf Try.f6) [1, 1, 1, 1, 1, 1, 1, 1, 1, 0, 1, 0, 0, 1, 1, 0, 0, 1, 1, 1, 1]) 1 (KBlk 1 (KS Pg W 193 rs_6 an_6 false (sub (bodyOf Try.f6) [1, 1, 1, 1, 1, 1, 1, 1, 1, 0, 1, 0, 0, 1, 1, 1]) 0 (KLoop [4, 9, 10, 11, 80] [2, 5, 79, 193] [(.pointer (some za0)), (.slice zp1 zl2 zl3), (.int .i64 zn16), (.tuple #[])] nx0 (KBlk 0 (KS Pg W 193 rs_6 an_6 false (sub (bodyOf Try.f6) [1, 1, 1, 1, 1, 1, 1, 1, 1, 1]) 0 (fin Pg W 193 rv_6 R))))))))))))) (known [4, 18, 19] ys (known [2, 5, 9, 11, 12, 13, 14, 16, 79, 80, 193] [(.pointer (some za0)), (.slice zp1 zl2 zl3), (.int .i64 zn4), (.int .i64 zn5), (.int .i64 zn6), (.slice zp7 zl8 zl9), (.slice zp10 zl11 zl12), (.slice zp13 zl14 zl15), (.int .i64 zn16), (.int .i64 zn6), (.tuple #[])] j)) s) [(.bool b122), (.int .i64 n123), (.int .i64 n124)]
def J_law03_LotDraws_0 (W : World) (R : Ending → Hp → Prop) (b57 : Bool) (B6 : Nat) (x27 : Option Addr) (l28 : Nat) (c29 : Nat) (n5 : Int) (n42 : Int) : Hp → Prop :=
  BR b57
    (R (.returned (.bool false)))
    (L_law03_LotDraws_0 W R ⟨B6, 0, none⟩ x27 l28 c29 (↑l28 : Int) false (IntKind.wrap .i64 n5) 0 n42 0)
def J_law03_LotDraws_1 (W : World) (R : Ending → Hp → Prop) (b46 : Bool) (n32 : Int) (l28 : Nat) (B6 : Nat) (x27 : Option Addr) (c29 : Nat) (n5 : Int) (n42 : Int) : Hp → Prop :=
  BR b46
    (R (.returned (.bool false)))
    (BR (n32 != 0)
      (BR (n32 == 4)
        (BR ((↑l28 : Int) == 0)
          (CALL Pg W F_law03_awake []
            (fun v47 => TYB v47 fun b49 =>
              R (.returned (.bool b49)))
              (fun e48 => R (.panicked e48)))
          (R (.returned (.bool false))))
        (R (.returned (.bool false))))
      (RDL (Addr.add ⟨B6, 0, none⟩ 0) fun x50 l51 c52 =>
        RDI .i64 (Addr.add ⟨B6, 0, none⟩ 1) fun n53 =>
          CALL Pg W F_ref03_Full [(.agg #[(.slice x50 l51 c52), (.int .i64 n53)]), (.slice x27 l28 c29)]
            (fun v54 => TYB v54 fun b56 =>
              BR (!b56)
                (J_law03_LotDraws_0 W R true B6 x27 l28 c29 n5 n42)
                (RDL (Addr.add ⟨B6, 0, none⟩ 0) fun x58 l59 c60 =>
                  RDI .i64 (Addr.add ⟨B6, 0, none⟩ 1) fun n61 =>
                    CALL Pg W F_law03_lawful [(.agg #[(.slice x58 l59 c60), (.int .i64 n61)]), (.slice x27 l28 c29)]
                      (fun v62 => TYB v62 fun b64 =>
                        J_law03_LotDraws_0 W R (!b64) B6 x27 l28 c29 n5 n42)
                        (fun e63 => R (.panicked e63))))
              (fun e55 => R (.panicked e55))))
def J_law03_LotDraws_2 (W : World) (R : Ending → Hp → Prop) (b14 : Bool) (B6 : Nat) (n5 : Int) : Hp → Prop :=
  BR b14
    (CALL Pg W F_law03_awake []
      (fun v15 => TYB v15 fun b17 =>
        R (.returned (.bool b17)))
        (fun e16 => R (.panicked e16)))
    (RDL (Addr.add ⟨B6, 0, none⟩ 0) fun x18 l19 c20 =>
      RDI .i64 (Addr.add ⟨B6, 0, none⟩ 1) fun n21 =>
        CALL Pg W F_lot_Draw [(.agg #[(.slice x18 l19 c20), (.int .i64 n21)]), (.int .i64 (IntKind.wrap .i64 n5))]
          (fun v22 => TUP v22 fun q24 => HD q24 fun v25 r26 => TYL v25 fun x27 l28 c29 =>
            HD r26 fun v30 r31 => TYI .i64 v30 fun n32 =>
              NL r31 <|
                RDL (Addr.add ⟨B6, 0, none⟩ 0) fun x33 l34 c35 =>
                  RDI .i64 (Addr.add ⟨B6, 0, none⟩ 1) fun n36 =>
                    CALL Pg W F_lot_Count [(.agg #[(.slice x33 l34 c35), (.int .i64 n36)])]
                      (fun v37 => TUP v37 fun q39 => HD q39 fun v40 r41 => TYI .i64 v40 fun n42 =>
                        HD r41 fun v43 r44 => TYI .i64 v43 fun n45 =>
                          NL r44 <|
                            BR (n45 != 0)
                              (J_law03_LotDraws_1 W R true n32 l28 B6 x27 c29 n5 n42)
                              (J_law03_LotDraws_1 W R (!((n32 == 0) == (decide (n42 > 0)))) n32 l28 B6 x27 c29 n5 n42))
                        (fun e38 => R (.panicked e38)))
            (fun e23 => R (.panicked e23)))
def J_law03_LotDraws_3 (W : World) (R : Ending → Hp → Prop) (b103 : Bool) (x97 : Option Addr) (l98 : Nat) (zn6 : Int) (x81 : Option Addr) (l82 : Nat) (c83 : Nat) (n87 : Int) (x84 : Option Addr) (l85 : Nat) (c86 : Nat) (nx0 : List Value → Hp → Prop) (nx1 : List Value → Hp → Prop) (za0 : Addr) (zp1 : Option Addr) (zl2 : Nat) (zl3 : Nat) (zn4 : Int) (zn5 : Int) (c99 : Nat) (zn7 : Int) (b80 : Bool) : Hp → Prop :=
  BR b103
    (R (.returned (.bool false)))
    (IXS x97 l98 zn6 1 fun a104 =>
      RDI .i64 a104 fun n105 =>
        NEW 3 [(.int .i64 n105)] fun B106 =>
          APP Pg 3 1 x81 l82 c83 (some ⟨B106, 0, none⟩) 1 fun x107 l108 c109 =>
            NEW 3 [(.int .i64 n87)] fun B110 =>
              APP Pg 3 1 x84 l85 c86 (some ⟨B110, 0, none⟩) 1 fun x111 l112 c113 =>
                L_law03_LotDraws_2 W R nx0 nx1 za0 zp1 zl2 zl3 zn4 zn5 zn6 x107 l108 c109 x111 l112 c113 x97 l98 c99 zn7 b80 (IntKind.wrap .i64 (n87 + 1)) zn5)
def J_law03_LotDraws_4 (W : World) (R : Ending → Hp → Prop) (b140 : Bool) (x134 : Option Addr) (l135 : Nat) (zn6 : Int) (zp13 : Option Addr) (zl14 : Nat) (za0 : Addr) (zp1 : Option Addr) (zl2 : Nat) (zl3 : Nat) (zn4 : Int) (zn5 : Int) (zp7 : Option Addr) (zl8 : Nat) (zl9 : Nat) (zp10 : Option Addr) (zl11 : Nat) (zl12 : Nat) (zl15 : Nat) (zn16 : Int) (nx2 : List Value → Hp → Prop) (b122 : Bool) (n123 : Int) (n124 : Int) : Hp → Prop :=
  BR b140
    (R (.returned (.bool false)))
    (IXS x134 l135 zn6 1 fun a141 =>
      RDI .i64 a141 fun n142 =>
        IXS zp13 zl14 zn6 1 fun a143 =>
          RDI .i64 a143 fun n144 =>
            BR (n142 == n144)
              (NX [(.pointer (some za0)), (.slice zp1 zl2 zl3), (.int .i64 zn4), (.int .i64 zn5), (.int .i64 zn6), (.slice zp7 zl8 zl9), (.slice zp10 zl11 zl12), (.slice zp13 zl14 zl15), (.int .i64 zn16), (.int .i64 zn6), (.tuple #[])] [(.pointer (some za0)), (.slice zp1 zl2 zl3), (.int .i64 zn4), (.int .i64 zn5), (.int .i64 zn6), (.slice zp7 zl8 zl9), (.slice zp10 zl11 zl12), (.slice zp13 zl14 zl15), (.int .i64 zn16), (.int .i64 zn6), (.tuple #[])] (nx2 [(.bool b122), (.int .i64 (IntKind.wrap .i64 ((IntKind.wrap .i64 (Int.tdiv (IntKind.wrap .i64 (n123 + n124)) 2)) + 1))), (.int .i64 n124)]))
              (NX [(.pointer (some za0)), (.slice zp1 zl2 zl3), (.int .i64 zn4), (.int .i64 zn5), (.int .i64 zn6), (.slice zp7 zl8 zl9), (.slice zp10 zl11 zl12), (.slice zp13 zl14 zl15), (.int .i64 zn16), (.int .i64 zn6), (.tuple #[])] [(.pointer (some za0)), (.slice zp1 zl2 zl3), (.int .i64 zn4), (.int .i64 zn5), (.int .i64 zn6), (.slice zp7 zl8 zl9), (.slice zp10 zl11 zl12), (.slice zp13 zl14 zl15), (.int .i64 zn16), (.int .i64 zn6), (.tuple #[])] (nx2 [(.bool b122), (.int .i64 n123), (.int .i64 (IntKind.wrap .i64 (Int.tdiv (IntKind.wrap .i64 (n123 + n124)) 2)))])))
def B_law03_LotDraws_0 (W : World) (R : Ending → Hp → Prop) (za0 : Addr) (zp1 : Option Addr) (zl2 : Nat) (zl3 : Nat) (zn4 : Int) (b72 : Bool) (n73 : Int) (n74 : Int) (n75 : Int) (n76 : Int) (nx0 : List Value → Hp → Prop) : Hp → Prop :=
  BR (decide (n76 < zn4))
    (L_law03_LotDraws_1 W R nx0 za0 zp1 zl2 zl3 (Int.tmod (IntKind.wrap .i64 ((IntKind.wrap .i64 (75 * n73)) + 74)) 65537) n75 n76 zn4 b72 none 0 0 none 0 0 n74)
    (BR ((IntKind.wrap .i64 (n75 - n74)) == 1)
      (CALL Pg W F_law03_awake []
        (fun v77 => TYB v77 fun b79 =>
          R (.returned (.bool b79)))
          (fun e78 => R (.panicked e78)))
      (R (.returned (.bool false))))
theorem B_law03_LotDraws_0_eq (W : World) (R : Ending → Hp → Prop) (za0 : Addr) (zp1 : Option Addr) (zl2 : Nat) (zl3 : Nat) (zn4 : Int) (b72 : Bool) (n73 : Int) (n74 : Int) (n75 : Int) (n76 : Int) (nx0 : List Value → Hp → Prop) (j : Tm) : vc Pg W 193 rs_6 an_6 false (sub (bodyOf Try.f6) [1, 1, 1, 1, 1, 1, 1, 1, 1, 0, 1, 0, 0]) 0 (KLoop [4, 9, 10, 11, 80] [2, 5, 79, 193] [(.pointer (some za0)), (.slice zp1 zl2 zl3), (.int .i64 zn4), (.tuple #[])] nx0 (KBlk 0 (KS Pg W 193 rs_6 an_6 false (sub (bodyOf Try.f6) [1, 1, 1, 1, 1, 1, 1, 1, 1, 1]) 0 (fin Pg W 193 rv_6 R)))) (known [4, 9, 10, 11, 80] [(.bool b72), (.int .i64 n73), (.int .i64 n74), (.int .i64 n75), (.int .i64 n76)] (known [2, 5, 79, 193] [(.pointer (some za0)), (.slice zp1 zl2 zl3), (.int .i64 zn4), (.tuple #[])] j)) = B_law03_LotDraws_0 W R za0 zp1 zl2 zl3 zn4 b72 n73 n74 n75 n76 nx0 := by kernel_rfl
def N_law03_LotDraws_0 (I : Bool → Int → Int → Int → Int → Hp → Prop) (μ : Bool → Int → Int → Int → Int → Hp → Nat) (b720 : Bool) (n730 : Int) (n740 : Int) (n750 : Int) (n760 : Int) (s : Hp) (vs : List Value) : Hp → Prop := fun s' => ∃ b72 n73 n74 n75 n76, vs = [(.bool b72), (.int .i64 n73), (.int .i64 n74), (.int .i64 n75), (.int .i64 n76)] ∧ I b72 n73 n74 n75 n76 s' ∧ μ b72 n73 n74 n75 n76 s' < μ b720 n730 n740 n750 n760 s
theorem L_law03_LotDraws_0_rule (W : World) (R : Ending → Hp → Prop) (za0 : Addr) (zp1 : Option Addr) (zl2 : Nat) (zl3 : Nat) (zn4 : Int) (I : Bool → Int → Int → Int → Int → Hp → Prop) (μ : Bool → Int → Int → Int → Int → Hp → Nat) (b720 : Bool) (n730 : Int) (n740 : Int) (n750 : Int) (n760 : Int) (s : Hp) (h0 : I b720 n730 n740 n750 n760 s)
    (hr : ∀ (b72 : Bool) (n73 : Int) (n74 : Int) (n75 : Int) (n76 : Int) (s : Hp), I b72 n73 n74 n75 n76 s → B_law03_LotDraws_0 W R za0 zp1 zl2 zl3 zn4 b72 n73 n74 n75 n76 (fun vs => N_law03_LotDraws_0 I μ b72 n73 n74 n75 n76 s vs) s) : L_law03_LotDraws_0 W R za0 zp1 zl2 zl3 zn4 b720 n730 n740 n750 n760 s := by
  refine ⟨fun vs s => ∃ b72 n73 n74 n75 n76, vs = [(.bool b72), (.int .i64 n73), (.int .i64 n74), (.int .i64 n75), (.int .i64 n76)] ∧ I b72 n73 n74 n75 n76 s, fun vs s => (match vs with | [.bool b72, .int _ n73, .int _ n74, .int _ n75, .int _ n76] => μ b72 n73 n74 n75 n76 s | _ => 0), ⟨⟨⟨_, rfl⟩, ⟨⟨_, rfl⟩, ⟨⟨_, rfl⟩, ⟨⟨_, rfl⟩, ⟨⟨_, rfl⟩, trivial⟩⟩⟩⟩⟩, ⟨_, _, _, _, _, rfl, h0⟩⟩, ?_⟩
  intro b72 n73 n74 n75 n76 s hI j
  obtain ⟨b72', n73', n74', n75', n76', hy, hI⟩ := hI
  have hI' : I b72 n73 n74 n75 n76 s := by cases hy; exact hI
  have hh := hr b72 n73 n74 n75 n76 s hI'
  rw [← B_law03_LotDraws_0_eq W R za0 zp1 zl2 zl3 zn4 b72 n73 n74 n75 n76 _ j] at hh
  refine vc_mono ?_ _ _ hh
  exact KLoop_mono (fun vs s' h => by obtain ⟨b721, n731, n741, n751, n761, rfl, h1, h2⟩ := h; exact ⟨⟨⟨_, rfl⟩, ⟨⟨_, rfl⟩, ⟨⟨_, rfl⟩, ⟨⟨_, rfl⟩, ⟨⟨_, rfl⟩, trivial⟩⟩⟩⟩⟩, ⟨_, _, _, _, _, rfl, h1⟩, h2⟩)
def B_law03_LotDraws_1 (W : World) (R : Ending → Hp → Prop) (nx0 : List Value → Hp → Prop) (za0 : Addr) (zp1 : Option Addr) (zl2 : Nat) (zl3 : Nat) (zn4 : Int) (zn5 : Int) (zn6 : Int) (zn7 : Int) (b80 : Bool) (x81 : Option Addr) (l82 : Nat) (c83 : Nat) (x84 : Option Addr) (l85 : Nat) (c86 : Nat) (n87 : Int) (nx1 : List Value → Hp → Prop) : Hp → Prop :=
  BR (decide (n87 < zn5))
    (RDL (Addr.add za0 0) fun x88 l89 c90 =>
      RDI .i64 (Addr.add za0 1) fun n91 =>
        CALL Pg W F_lot_Nth [(.agg #[(.slice x88 l89 c90), (.int .i64 n91)]), (.int .i64 n87)]
          (fun v92 => TUP v92 fun q94 => HD q94 fun v95 r96 => TYL v95 fun x97 l98 c99 =>
            HD r96 fun v100 r101 => TYI .i64 v100 fun n102 =>
              NL r101 <|
                BR (n102 != 0)
                  (J_law03_LotDraws_3 W R true x97 l98 zn6 x81 l82 c83 n87 x84 l85 c86 nx0 nx1 za0 zp1 zl2 zl3 zn4 zn5 c99 zn7 b80)
                  (J_law03_LotDraws_3 W R ((↑l98 : Int) != (↑zl2 : Int)) x97 l98 zn6 x81 l82 c83 n87 x84 l85 c86 nx0 nx1 za0 zp1 zl2 zl3 zn4 zn5 c99 zn7 b80))
            (fun e93 => R (.panicked e93)))
    (BR ((↑l82 : Int) == 0)
      (R (.returned (.bool false)))
      (NZI (↑l82 : Int) <|
        IXS x81 l82 (Int.tmod zn4 (↑l82 : Int)) 1 fun a114 =>
          RDI .i64 a114 fun n115 =>
            IXS zp1 zl2 zn6 1 fun a116 =>
              RDI .i64 a116 fun n117 =>
                BR (n115 != n117)
                  (R (.returned (.bool false)))
                  (IXS x84 l85 (Int.tmod zn4 (↑l82 : Int)) 1 fun a118 =>
                    RDI .i64 a118 fun n119 =>
                      BR (decide ((IntKind.wrap .i64 ((Int.tmod zn4 (↑l82 : Int)) + 1)) < (↑l85 : Int)))
                        (IXS x84 l85 (IntKind.wrap .i64 ((Int.tmod zn4 (↑l82 : Int)) + 1)) 1 fun a120 =>
                          RDI .i64 a120 fun n121 =>
                            NX [(.pointer (some za0)), (.slice zp1 zl2 zl3), (.int .i64 zn7), (.tuple #[])] [(.pointer (some za0)), (.slice zp1 zl2 zl3), (.int .i64 zn7), (.tuple #[])] (nx0 [(.bool b80), (.int .i64 zn4), (.int .i64 n119), (.int .i64 n121), (.int .i64 (IntKind.wrap .i64 (zn6 + 1)))]))
                        (NX [(.pointer (some za0)), (.slice zp1 zl2 zl3), (.int .i64 zn7), (.tuple #[])] [(.pointer (some za0)), (.slice zp1 zl2 zl3), (.int .i64 zn7), (.tuple #[])] (nx0 [(.bool b80), (.int .i64 zn4), (.int .i64 n119), (.int .i64 zn5), (.int .i64 (IntKind.wrap .i64 (zn6 + 1)))])))))
theorem B_law03_LotDraws_1_eq (W : World) (R : Ending → Hp → Prop) (nx0 : List Value → Hp → Prop) (za0 : Addr) (zp1 : Option Addr) (zl2 : Nat) (zl3 : Nat) (zn4 : Int) (zn5 : Int) (zn6 : Int) (zn7 : Int) (b80 : Bool) (x81 : Option Addr) (l82 : Nat) (c83 : Nat) (x84 : Option Addr) (l85 : Nat) (c86 : Nat) (n87 : Int) (nx1 : List Value → Hp → Prop) (j : Tm) : vc Pg W 193 rs_6 an_6 false (sub (bodyOf Try.f6) [1, 1, 1, 1, 1, 1, 1, 1, 1, 0, 1, 0, 0, 1, 1, 0, 0, 1, 1, 1, 0, 1, 0, 0]) 2 (KLoop [4, 13, 14, 15] [2, 5, 9, 11, 12, 79, 80, 193] [(.pointer (some za0)), (.slice zp1 zl2 zl3), (.int .i64 zn4), (.int .i64 zn5), (.int .i64 zn6), (.int .i64 zn7), (.int .i64 zn6), (.tuple #[])] nx1 (KBlk 2 (KS Pg W 193 rs_6 an_6 false (sub (bodyOf Try.f6) [1, 1, 1, 1, 1, 1, 1, 1, 1, 0, 1, 0, 0, 1, 1, 0, 0, 1, 1, 1, 1]) 1 (KBlk 1 (KS Pg W 193 rs_6 an_6 false (sub (bodyOf Try.f6) [1, 1, 1, 1, 1, 1, 1, 1, 1, 0, 1, 0, 0, 1, 1, 1]) 0 (KLoop [4, 9, 10, 11, 80] [2, 5, 79, 193] [(.pointer (some za0)), (.slice zp1 zl2 zl3), (.int .i64 zn7), (.tuple #[])] nx0 (KBlk 0 (KS Pg W 193 rs_6 an_6 false (sub (bodyOf Try.f6) [1, 1, 1, 1, 1, 1, 1, 1, 1, 1]) 0 (fin Pg W 193 rv_6 R))))))))) (known [4, 13, 14, 15] [(.bool b80), (.slice x81 l82 c83), (.slice x84 l85 c86), (.int .i64 n87)] (known [2, 5, 9, 11, 12, 79, 80, 193] [(.pointer (some za0)), (.slice zp1 zl2 zl3), (.int .i64 zn4), (.int .i64 zn5), (.int .i64 zn6), (.int .i64 zn7), (.int .i64 zn6), (.tuple #[])] j)) = B_law03_LotDraws_1 W R nx0 za0 zp1 zl2 zl3 zn4 zn5 zn6 zn7 b80 x81 l82 c83 x84 l85 c86 n87 nx1 := by kernel_rfl
def N_law03_LotDraws_1 (I : Bool → Option Addr → Nat → Nat → Option Addr → Nat → Nat → Int → Hp → Prop) (μ : Bool → Option Addr → Nat → Nat → Option Addr → Nat → Nat → Int → Hp → Nat) (b800 : Bool) (x810 : Option Addr) (l820 : Nat) (c830 : Nat) (x840 : Option Addr) (l850 : Nat) (c860 : Nat) (n870 : Int) (s : Hp) (vs : List Value) : Hp → Prop := fun s' => ∃ b80 x81 l82 c83 x84 l85 c86 n87, vs = [(.bool b80), (.slice x81 l82 c83), (.slice x84 l85 c86), (.int .i64 n87)] ∧ I b80 x81 l82 c83 x84 l85 c86 n87 s' ∧ μ b80 x81 l82 c83 x84 l85 c86 n87 s' < μ b800 x810 l820 c830 x840 l850 c860 n870 s
theorem L_law03_LotDraws_1_rule (W : World) (R : Ending → Hp → Prop) (nx0 : List Value → Hp → Prop) (za0 : Addr) (zp1 : Option Addr) (zl2 : Nat) (zl3 : Nat) (zn4 : Int) (zn5 : Int) (zn6 : Int) (zn7 : Int) (I : Bool → Option Addr → Nat → Nat → Option Addr → Nat → Nat → Int → Hp → Prop) (μ : Bool → Option Addr → Nat → Nat → Option Addr → Nat → Nat → Int → Hp → Nat) (b800 : Bool) (x810 : Option Addr) (l820 : Nat) (c830 : Nat) (x840 : Option Addr) (l850 : Nat) (c860 : Nat) (n870 : Int) (s : Hp) (h0 : I b800 x810 l820 c830 x840 l850 c860 n870 s)
    (hr : ∀ (b80 : Bool) (x81 : Option Addr) (l82 : Nat) (c83 : Nat) (x84 : Option Addr) (l85 : Nat) (c86 : Nat) (n87 : Int) (s : Hp), I b80 x81 l82 c83 x84 l85 c86 n87 s → B_law03_LotDraws_1 W R nx0 za0 zp1 zl2 zl3 zn4 zn5 zn6 zn7 b80 x81 l82 c83 x84 l85 c86 n87 (fun vs => N_law03_LotDraws_1 I μ b80 x81 l82 c83 x84 l85 c86 n87 s vs) s) : L_law03_LotDraws_1 W R nx0 za0 zp1 zl2 zl3 zn4 zn5 zn6 zn7 b800 x810 l820 c830 x840 l850 c860 n870 s := by
  refine ⟨fun vs s => ∃ b80 x81 l82 c83 x84 l85 c86 n87, vs = [(.bool b80), (.slice x81 l82 c83), (.slice x84 l85 c86), (.int .i64 n87)] ∧ I b80 x81 l82 c83 x84 l85 c86 n87 s, fun vs s => (match vs with | [.bool b80, .slice x81 l82 c83, .slice x84 l85 c86, .int _ n87] => μ b80 x81 l82 c83 x84 l85 c86 n87 s | _ => 0), ⟨⟨⟨_, rfl⟩, ⟨⟨_, _, _, rfl⟩, ⟨⟨_, _, _, rfl⟩, ⟨⟨_, rfl⟩, trivial⟩⟩⟩⟩, ⟨_, _, _, _, _, _, _, _, rfl, h0⟩⟩, ?_⟩
  intro b80 x81 l82 c83 x84 l85 c86 n87 s hI j
  obtain ⟨b80', x81', l82', c83', x84', l85', c86', n87', hy, hI⟩ := hI
  have hI' : I b80 x81 l82 c83 x84 l85 c86 n87 s := by cases hy; exact hI
  have hh := hr b80 x81 l82 c83 x84 l85 c86 n87 s hI'
  rw [← B_law03_LotDraws_1_eq W R nx0 za0 zp1 zl2 zl3 zn4 zn5 zn6 zn7 b80 x81 l82 c83 x84 l85 c86 n87 _ j] at hh
  refine vc_mono ?_ _ _ hh
  exact KLoop_mono (fun vs s' h => by obtain ⟨b801, x811, l821, c831, x841, l851, c861, n871, rfl, h1, h2⟩ := h; exact ⟨⟨⟨_, rfl⟩, ⟨⟨_, _, _, rfl⟩, ⟨⟨_, _, _, rfl⟩, ⟨⟨_, rfl⟩, trivial⟩⟩⟩⟩, ⟨_, _, _, _, _, _, _, _, rfl, h1⟩, h2⟩)
def B_law03_LotDraws_2 (W : World) (R : Ending → Hp → Prop) (nx0 : List Value → Hp → Prop) (nx1 : List Value → Hp → Prop) (za0 : Addr) (zp1 : Option Addr) (zl2 : Nat) (zl3 : Nat) (zn4 : Int) (zn5 : Int) (zn6 : Int) (zp7 : Option Addr) (zl8 : Nat) (zl9 : Nat) (zp10 : Option Addr) (zl11 : Nat) (zl12 : Nat) (zp13 : Option Addr) (zl14 : Nat) (zl15 : Nat) (zn16 : Int) (b122 : Bool) (n123 : Int) (n124 : Int) (nx2 : List Value → Hp → Prop) : Hp → Prop :=
  BR (decide (n123 < n124))
    (RDL (Addr.add za0 0) fun x125 l126 c127 =>
      RDI .i64 (Addr.add za0 1) fun n128 =>
        CALL Pg W F_lot_Nth [(.agg #[(.slice x125 l126 c127), (.int .i64 n128)]), (.int .i64 (IntKind.wrap .i64 (Int.tdiv (IntKind.wrap .i64 (n123 + n124)) 2)))]
          (fun v129 => TUP v129 fun q131 => HD q131 fun v132 r133 => TYL v132 fun x134 l135 c136 =>
            HD r133 fun v137 r138 => TYI .i64 v137 fun n139 =>
              NL r138 <|
                BR (n139 != 0)
                  (J_law03_LotDraws_4 W R true x134 l135 zn6 zp13 zl14 za0 zp1 zl2 zl3 zn4 zn5 zp7 zl8 zl9 zp10 zl11 zl12 zl15 zn16 nx2 b122 n123 n124)
                  (J_law03_LotDraws_4 W R ((↑l135 : Int) != (↑zl2 : Int)) x134 l135 zn6 zp13 zl14 za0 zp1 zl2 zl3 zn4 zn5 zp7 zl8 zl9 zp10 zl11 zl12 zl15 zn16 nx2 b122 n123 n124))
            (fun e130 => R (.panicked e130)))
    (NX [(.pointer (some za0)), (.slice zp1 zl2 zl3), (.int .i64 zn4), (.int .i64 zn5), (.int .i64 zn6), (.int .i64 zn16), (.int .i64 zn6), (.tuple #[])] [(.pointer (some za0)), (.slice zp1 zl2 zl3), (.int .i64 zn4), (.int .i64 zn5), (.int .i64 zn6), (.int .i64 zn16), (.int .i64 zn6), (.tuple #[])] (nx1 [(.bool b122), (.slice zp7 zl8 zl9), (.slice zp10 zl11 zl12), (.int .i64 n123)]))
theorem B_law03_LotDraws_2_eq (W : World) (R : Ending → Hp → Prop) (nx0 : List Value → Hp → Prop) (nx1 : List Value → Hp → Prop) (za0 : Addr) (zp1 : Option Addr) (zl2 : Nat) (zl3 : Nat) (zn4 : Int) (zn5 : Int) (zn6 : Int) (zp7 : Option Addr) (zl8 : Nat) (zl9 : Nat) (zp10 : Option Addr) (zl11 : Nat) (zl12 : Nat) (zp13 : Option Addr) (zl14 : Nat) (zl15 : Nat) (zn16 : Int) (b122 : Bool) (n123 : Int) (n124 : Int) (nx2 : List Value → Hp → Prop) (j : Tm) : vc Pg W 193 rs_6 an_6 false (sub (bodyOf Try.f6) [1, 1, 1, 1, 1, 1, 1, 1, 1, 0, 1, 0, 0, 1, 1, 0, 0, 1, 1, 1, 0, 1, 0, 0, 1, 0, 1, 1, 1, 1, 0, 0, 0]) 4 (KLoop [4, 18, 19] [2, 5, 9, 11, 12, 13, 14, 16, 79, 80, 193] [(.pointer (some za0)), (.slice zp1 zl2 zl3), (.int .i64 zn4), (.int .i64 zn5), (.int .i64 zn6), (.slice zp7 zl8 zl9), (.slice zp10 zl11 zl12), (.slice zp13 zl14 zl15), (.int .i64 zn16), (.int .i64 zn6), (.tuple #[])] nx2 (KBlk 4 (KS Pg W 193 rs_6 an_6 false (sub (bodyOf Try.f6) [1, 1, 1, 1, 1, 1, 1, 1, 1, 0, 1, 0, 0, 1, 1, 0, 0, 1, 1, 1, 0, 1, 0, 0, 1, 0, 1, 1, 1, 1, 1]) 3 (KBlk 3 (KLoop [4, 13, 14, 15] [2, 5, 9, 11, 12, 79, 80, 193] [(.pointer (some za0)), (.slice zp1 zl2 zl3), (.int .i64 zn4), (.int .i64 zn5), (.int .i64 zn6), (.int .i64 zn16), (.int .i64 zn6), (.tuple #[])] nx1 (KBlk 2 (KS Pg W 193 rs_6 an_6 false (sub (bodyOf Try.f6) [1, 1, 1, 1, 1, 1, 1, 1, 1, 0, 1, 0, 0, 1, 1, 0, 0, 1, 1, 1, 1]) 1 (KBlk 1 (KS Pg W 193 rs_6 an_6 false (sub (bodyOf Try.f6) [1, 1, 1, 1, 1, 1, 1, 1, 1, 0, 1, 0, 0, 1, 1, 1]) 0 (KLoop [4, 9, 10, 11, 80] [2, 5, 79, 193] [(.pointer (some za0)), (.slice zp1 zl2 zl3), (.int .i64 zn16), (.tuple #[])] nx0 (KBlk 0 (KS Pg W 193 rs_6 an_6 false (sub (bodyOf Try.f6) [1, 1, 1, 1, 1, 1, 1, 1, 1, 1]) 0 (fin Pg W 193 rv_6 R))))))))))))) (known [4, 18, 19] [(.bool b122), (.int .i64 n123), (.int .i64 n124)] (known [2, 5, 9, 11, 12, 13, 14, 16, 79, 80, 193] [(.pointer (some za0)), (.slice zp1 zl2 zl3), (.int .i64 zn4), (.int .i64 zn5), (.int .i64 zn6), (.slice zp7 zl8 zl9), (.slice zp10 zl11 zl12), (.slice zp13 zl14 zl15), (.int .i64 zn16), (.int .i64 zn6), (.tuple #[])] j)) = B_law03_LotDraws_2 W R nx0 nx1 za0 zp1 zl2 zl3 zn4 zn5 zn6 zp7 zl8 zl9 zp10 zl11 zl12 zp13 zl14 zl15 zn16 b122 n123 n124 nx2 := by kernel_rfl
def N_law03_LotDraws_2 (I : Bool → Int → Int → Hp → Prop) (μ : Bool → Int → Int → Hp → Nat) (b1220 : Bool) (n1230 : Int) (n1240 : Int) (s : Hp) (vs : List Value) : Hp → Prop := fun s' => ∃ b122 n123 n124, vs = [(.bool b122), (.int .i64 n123), (.int .i64 n124)] ∧ I b122 n123 n124 s' ∧ μ b122 n123 n124 s' < μ b1220 n1230 n1240 s
theorem L_law03_LotDraws_2_rule (W : World) (R : Ending → Hp → Prop) (nx0 : List Value → Hp → Prop) (nx1 : List Value → Hp → Prop) (za0 : Addr) (zp1 : Option Addr) (zl2 : Nat) (zl3 : Nat) (zn4 : Int) (zn5 : Int) (zn6 : Int) (zp7 : Option Addr) (zl8 : Nat) (zl9 : Nat) (zp10 : Option Addr) (zl11 : Nat) (zl12 : Nat) (zp13 : Option Addr) (zl14 : Nat) (zl15 : Nat) (zn16 : Int) (I : Bool → Int → Int → Hp → Prop) (μ : Bool → Int → Int → Hp → Nat) (b1220 : Bool) (n1230 : Int) (n1240 : Int) (s : Hp) (h0 : I b1220 n1230 n1240 s)
    (hr : ∀ (b122 : Bool) (n123 : Int) (n124 : Int) (s : Hp), I b122 n123 n124 s → B_law03_LotDraws_2 W R nx0 nx1 za0 zp1 zl2 zl3 zn4 zn5 zn6 zp7 zl8 zl9 zp10 zl11 zl12 zp13 zl14 zl15 zn16 b122 n123 n124 (fun vs => N_law03_LotDraws_2 I μ b122 n123 n124 s vs) s) : L_law03_LotDraws_2 W R nx0 nx1 za0 zp1 zl2 zl3 zn4 zn5 zn6 zp7 zl8 zl9 zp10 zl11 zl12 zp13 zl14 zl15 zn16 b1220 n1230 n1240 s := by
  refine ⟨fun vs s => ∃ b122 n123 n124, vs = [(.bool b122), (.int .i64 n123), (.int .i64 n124)] ∧ I b122 n123 n124 s, fun vs s => (match vs with | [.bool b122, .int _ n123, .int _ n124] => μ b122 n123 n124 s | _ => 0), ⟨⟨⟨_, rfl⟩, ⟨⟨_, rfl⟩, ⟨⟨_, rfl⟩, trivial⟩⟩⟩, ⟨_, _, _, rfl, h0⟩⟩, ?_⟩
  intro b122 n123 n124 s hI j
  obtain ⟨b122', n123', n124', hy, hI⟩ := hI
  have hI' : I b122 n123 n124 s := by cases hy; exact hI
  have hh := hr b122 n123 n124 s hI'
  rw [← B_law03_LotDraws_2_eq W R nx0 nx1 za0 zp1 zl2 zl3 zn4 zn5 zn6 zp7 zl8 zl9 zp10 zl11 zl12 zp13 zl14 zl15 zn16 b122 n123 n124 _ j] at hh
  refine vc_mono ?_ _ _ hh
  exact KLoop_mono (fun vs s' h => by obtain ⟨b1221, n1231, n1241, rfl, h1, h2⟩ := h; exact ⟨⟨⟨_, rfl⟩, ⟨⟨_, rfl⟩, ⟨⟨_, rfl⟩, trivial⟩⟩⟩, ⟨_, _, _, rfl, h1⟩, h2⟩)
def T_law03_LotDraws (W : World) (x1 : Option Addr) (l2 : Nat) (c3 : Nat) (n4 : Int) (n5 : Int) (R : Ending → Hp → Prop) : Hp → Prop :=
  NEW 24 [(.slice x1 l2 c3), (.int .i64 n4)] fun B6 =>
    RDL (Addr.add ⟨B6, 0, none⟩ 0) fun x7 l8 c9 =>
      RDI .i64 (Addr.add ⟨B6, 0, none⟩ 1) fun n10 =>
        CALL Pg W F_law03_far [(.agg #[(.slice x7 l8 c9), (.int .i64 n10)]), (.slice none 0 0), (.int .i64 8)]
          (fun v11 => TYB v11 fun b13 =>
            BR b13
              (J_law03_LotDraws_2 W R true B6 n5)
              (RDL (Addr.add ⟨B6, 0, none⟩ 0) fun x65 l66 c67 =>
                RDI .i64 (Addr.add ⟨B6, 0, none⟩ 1) fun n68 =>
                  CALL Pg W F_ref03_Lots [(.agg #[(.slice x65 l66 c67), (.int .i64 n68)])]
                    (fun v69 => TYB v69 fun b71 =>
                      J_law03_LotDraws_2 W R (!b71) B6 n5)
                      (fun e70 => R (.panicked e70))))
            (fun e12 => R (.panicked e12))
theorem T_law03_LotDraws_eq (W : World) (x1 : Option Addr) (l2 : Nat) (c3 : Nat) (n4 : Int) (n5 : Int) (R : Ending → Hp → Prop) : vfun Pg W an_6 Try.f6 [(.agg #[(.slice x1 l2 c3), (.int .i64 n4)]), (.int .u16 n5)] R = T_law03_LotDraws W x1 l2 c3 n4 n5 R := by kernel_rfl
theorem does_law03_LotDraws (W : World) (x1 : Option Addr) (l2 : Nat) (c3 : Nat) (n4 : Int) (n5 : Int) (R : Ending → Hp → Prop) (s : Hp) (h : T_law03_LotDraws W x1 l2 c3 n4 n5 R s) : Does Pg W F_law03_LotDraws #[(.agg #[(.slice x1 l2 c3), (.int .i64 n4)]), (.int .u16 n5)] s R :=
  does_of_vfun Pg W an_6 Try.func6 rfl (by kernel_rfl) (by rw [T_law03_LotDraws_eq]; exact h)
end Go.Proofs.Ytocnkdkgajdejaa.G

/- The statement LotDraws: what is drawn by a seed. -/
set_option linter.unusedSimpArgs false
set_option linter.unusedVariables false
set_option maxRecDepth 20000
namespace Go.Proofs.Ytocnkdkgajdejaa.G
open Go.V Go.Lot
section
variable {W : World} {K : VK} {E : List PanicEntry → Hp → Prop} {s : Hp} {L : Lts}
theorem c_Nth_someF {x : Option Addr} {c k : Nat} (hm : MenAt s x L.men) (hv : valid L = true) (hk : k < cntAll L anyC) (h : ∀ s' d y c', Ext s s' → (allD L)[k]? = some d → RowAt s' y (vals d) → (∀ a, y = some a → s.size ≤ a.block) → K (.tuple #[.slice y d.length c', .int .i64 0]) s') :
    CALL Pg W F_lot_Nth [.agg #[.slice x L.n c, .int .i64 L.worst], .int .i64 k] K E s := by
  have hn := (vd_iff.1 hv).hi
  obtain ⟨d, h1, h2⟩ := nthP_some hn hk
  refine c_NthF hm (fun s' d' v e _ hd ho => ?_) (fun s' e _ hd => ?_) (fun s' e hv' => by rw [hv] at hv'; cases hv')
  · rw [h1] at hd; cases hd
    obtain ⟨y, c', rfl, hr, hf⟩ := ho
    exact h s' d y c' e h2 hr hf
  · rw [h1] at hd; cases hd
/-- Where each one's draws begin. -/
def begs (L : Lts) (left b lo k : Nat) : List Nat := (List.range k).map fun j => lo + off L left b j
theorem begs_succ (L : Lts) (left b lo k : Nat) : begs L left b lo (k + 1) = begs L left b lo k ++ [lo + off L left b k] := by unfold begs; rw [List.range_succ]; simp
theorem begs_len (L : Lts) (left b lo k : Nat) : (begs L left b lo k).length = k := by unfold begs; simp
theorem begs_get (L : Lts) (left b lo k : Nat) {j : Nat} (hj : j < k) : (begs L left b lo k).getD j 0 = lo + off L left b j := by
  unfold begs; simp [List.getD, hj]
theorem next_eq {num : Nat} (h : num ≤ 65536) : Int.tmod (IntKind.wrap .i64 (IntKind.wrap .i64 (75 * (num : Int)) + 74)) 65537 = ((nextD num : Nat) : Int) := by
  have w1 : IntKind.wrap .i64 (75 * (num : Int)) = 75 * (num : Int) := wrap_i64 (by omega) (by omega)
  have w2 : IntKind.wrap .i64 (75 * (num : Int) + 74) = 75 * (num : Int) + 74 := wrap_i64 (by omega) (by omega)
  rw [w1, w2, Int.tmod_eq_emod_of_nonneg (by omega)]
  unfold nextD
  omega
theorem next_le (num : Nat) : nextD num ≤ 65536 := by unfold nextD; omega
/-- A list of one's own, and new; where it lies. -/
structure Ls (lo : Nat) (s : Hp) (x : Option Addr) (l c : Nat) (d : List Nat) : Prop where
  fr : Fr lo s x l c 1 (vals d)
  lt : ∀ b, x = some b → b.block < s.size
theorem Ls.ext {lo : Nat} {s s' : Hp} {x : Option Addr} {l c : Nat} {d : List Nat} (e : Ext s s') (h : Ls lo s x l c d) : Ls lo s' x l c d := ⟨h.fr.ext e, fun b hb => Nat.lt_of_lt_of_le (h.lt b hb) e.1⟩
theorem Ls.len {lo : Nat} {s : Hp} {x : Option Addr} {l c : Nat} {d : List Nat} (h : Ls lo s x l c d) : l = d.length := by have := h.fr.len; rw [vals_len] at this; omega
theorem Ls.kp {D : Nat → Prop} {lo : Nat} {s s' : Hp} {x : Option Addr} {l c : Nat} {d : List Nat} (k : Kp D s s') (hd : ∀ a, x = some a → ¬ D a.block) (h : Ls lo s x l c d) : Ls lo s' x l c d := ⟨h.fr.kp k hd, fun b hb => Nat.lt_of_lt_of_le (h.lt b hb) k.1⟩
/-- A number is put behind such a list. -/
theorem ls_add {lo l c n y : Nat} {x : Option Addr} {d : List Nat} {KK : Option Addr → Nat → Nat → Hp → Prop} (hx : Ls lo s x l c d) (hlo : lo ≤ s.size) (hy : cellAt s ⟨y, 0, none⟩ = some (.int .i64 (n : Nat))) (h8 : d.length ≤ 1000)
    (h : ∀ s' x' c', Kp (fun b => ∃ a, x = some a ∧ a.block = b) s s' → Ls lo s' x' (l + 1) c' (d ++ [n]) → (∀ a, x' = some a → (∃ a', x = some a' ∧ a'.block = a.block) ∨ s.size ≤ a.block) → KK x' (l + 1) c' s') :
    APP Pg 3 1 x l c (some ⟨y, 0, none⟩) 1 KK s := by
  have hl := hx.len
  refine APP_fr (ws := vals [n]) hx.fr hlo ?_ rfl zc_3 rfl (by omega) (by intro v hv; simp [vals] at hv; subst hv; rfl) (by omega) ?_
  · intro i hi
    refine ⟨_, rfl, ?_⟩
    match i, hi with
    | 0, _ => exact hy
  · intro s' x' c' k g f
    have e : vals d ++ vals [n] = vals (d ++ [n]) := by unfold vals; rw [List.map_append]
    rw [e] at f
    refine h s' x' c' k ⟨f, fun b hb => ?_⟩ g
    subst hb
    have hpos : 0 < (vals (d ++ [n])).length := by rw [vals_len]; simp
    exact (f.buf.at hpos).lt

theorem draws_end {s1 t1 : Hp} {x yd : Option Addr} {c B0 cd i num left b lo k low0 : Nat} {D d : List Nat} {x97 x107 x111 : Option Addr} {c98 c109 c113 l1 l2 : Nat} {b80 : Bool} {nx0 nx1 : List Value → Hp → Prop} {zn4 zn5 : Int} {R : Ending → Hp → Prop} (hv : valid L = true) (hm : MenAt s1 x L.men)
    (c0 : ∀ t, Ext s1 t → cellAt t ((⟨B0, 0, none⟩ : Addr).add 0) = some (.slice x L.n c)) (c1 : ∀ t, Ext s1 t → cellAt t ((⟨B0, 0, none⟩ : Addr).add 1) = some (.int .i64 L.worst)) (e1 : Ext s1 t1) (sg : Seg L (D.take i) left b lo) (h0 : left ≠ 0) (hk : k < (cans L left b).length) (hDl : D.length = L.n) (hi : i < L.n)
    (hd : (allD L)[lo + off L left b k]? = some d) (hrow : RowAt t1 x97 (vals d)) (hz5 : zn5 = ((lo + (allL L left b).length : Nat) : Int)) (hN : lo + (allL L left b).length ≤ cntAll L anyC)
    (h : ∀ t, Ext t1 t → nx1 [.bool b80, .slice x107 l1 c109, .slice x111 l2 c113, .int .i64 (lo + off L left b (k + 1) : Nat)] t) :
    L_law03_LotDraws_2 W R nx0 nx1 ⟨B0, 0, none⟩ yd L.n cd zn4 zn5 i x107 l1 c109 x111 l2 c113 x97 d.length c98 L.n b80 (lo + off L left b k + 1 : Nat) (lo + (allL L left b).length : Nat) t1 := by
  subst hz5
  have v := vd_iff.1 hv
  have hn8 := v.hi
  have hoff := off_succ hk
  have hcp := (cans_at hk).2.2
  have hall := off_all hn8 sg.lt h0 (b := b)
  have hmono := off_mono (L := L) (left := left) (b := b) (show k + 1 ≤ (cans L left b).length by omega) (Nat.le_refl _)
  have hN8 : cntAll L anyC ≤ 134217728 := cnt_le L anyC hn8 _ _
  obtain ⟨pd, _, _⟩ := allD_at hn8 hd
  have hpre : (D.take i).length = i := by rw [List.length_take]; omega
  have hdi : d.getD i 0 = (cans L left b)[k] := by
    have := (sg.which hn8 h0 hk (Nat.le_refl _) (by omega) hd).2 (by omega)
    rw [hpre] at this; exact this
  refine L_law03_LotDraws_2_rule W R nx0 nx1 ⟨B0, 0, none⟩ yd L.n cd zn4 _ i x107 l1 c109 x111 l2 c113 x97 d.length c98 L.n (fun bb n1 n2 t => bb = b80 ∧ Ext t1 t ∧ ∃ low high : Nat, n1 = low ∧ n2 = high ∧ lo + off L left b k + 1 ≤ low ∧ low ≤ lo + off L left b (k + 1) ∧ lo + off L left b (k + 1) ≤ high ∧ high ≤ lo + (allL L left b).length) (fun _ n1 n2 _ => (n2 - n1).toNat) b80 _ _ t1 ⟨rfl, Ext.refl _, _, _, rfl, rfl, Nat.le_refl _, by omega, by omega, Nat.le_refl _⟩ ?_
  rintro bb n1 n2 t ⟨rfl, et, low, high, rfl, rfl, g1, g2, g3, g4⟩
  have et1 := e1.trans et
  unfold B_law03_LotDraws_2
  refine BR_dec (fun h1 => ?_) (fun h1 => ?_)
  · have hmid : IntKind.wrap .i64 (Int.tdiv (IntKind.wrap .i64 ((low : Int) + (high : Int))) 2) = (((low + high) / 2 : Nat) : Int) := by
      rw [wrap_i64 (n := (low : Int) + (high : Int)) (by omega) (by omega)]
      have e : Int.tdiv ((low : Int) + (high : Int)) 2 = (((low + high) / 2 : Nat) : Int) := by rw [Int.tdiv_eq_ediv_of_nonneg (by omega)]; omega
      rw [e]
      exact wrap_i64 (by omega) (by omega)
    refine ⟨_, _, _, c0 t et1, _, c1 t et1, ?_⟩
    rw [hmid]
    have hlt : low < high := by omega
    have hmlt : (low + high) / 2 < high := by omega
    have hmge : low ≤ (low + high) / 2 := by omega
    generalize (low + high) / 2 = mid at *
    refine c_Nth_some (hm.ext et1) hv (by omega) fun t2 e ye ce f2 he re => ?_
    try simp only [TUP_mk, AGG_mk, HD_mk, NL_mk, TYI_mk, TYB_mk, TYP_mk, TYL_mk, TYS_mk, TYM_mk, SO_mk, NX_mk, endK_mk, endK_mk', add_0]
    obtain ⟨pe, _, _⟩ := allD_at hn8 he
    refine BR_ne (fun hh => absurd rfl hh) (fun _ => ?_)
    unfold J_law03_LotDraws_4
    rw [hmid]
    refine BR_ne (fun hh => absurd (by rw [pe.len]) hh) (fun _ => ?_)
    obtain ⟨p, hp, q1⟩ := row_at re (show i < e.length by rw [pe.len]; exact hi)
    obtain ⟨q, hq, q2⟩ := row_at (hrow.ext (et.trans f2)) (show i < d.length by rw [pd.len]; exact hi)
    have ti : ((i : Int)).toNat = i := by omega
    have hel := pe.len
    have hdl := pd.len
    refine ⟨p, hp, ⟨by omega, by omega⟩, _, by rw [ti]; exact q1, q, hq, ⟨by omega, by omega⟩, _, by rw [ti]; exact q2, ?_⟩
    have hw := sg.which hn8 h0 hk (t := mid - lo) (by omega) (by omega) (d := e) (by rw [show lo + (mid - lo) = mid by omega]; exact he)
    rw [hpre] at hw
    refine BR_eq (fun heq => ?_) (fun hne => ?_)
    · have : mid - lo < off L left b (k + 1) := hw.1 (by rw [← hdi]; omega)
      refine ⟨rfl, _, _, _, rfl, ⟨rfl, et.trans f2, mid + 1, high, ?_, rfl, by omega, by omega, g3, g4⟩, ?_⟩
      · rw [wrap_i64 (by omega) (by omega)]; rfl
      · show ((high : Int) - IntKind.wrap .i64 ((mid : Int) + 1)).toNat < ((high : Int) - (low : Int)).toNat
        rw [wrap_i64 (by omega) (by omega)]; omega
    · have : ¬ mid - lo < off L left b (k + 1) := fun hh => hne (by have := hw.2 hh; rw [← hdi] at this; omega)
      refine ⟨rfl, _, _, _, rfl, ⟨rfl, et.trans f2, low, mid, rfl, rfl, g1, g2, by omega, by omega⟩, ?_⟩
      show ((mid : Int) - (low : Int)).toNat < ((high : Int) - (low : Int)).toNat
      omega
  · have : low = lo + off L left b (k + 1) := by omega
    subst this
    exact ⟨rfl, h t et⟩
end
end Go.Proofs.Ytocnkdkgajdejaa.G

/- The statement LotDraws: what is drawn by a seed. -/
set_option linter.unusedSimpArgs false
set_option linter.unusedVariables false
set_option maxRecDepth 20000
namespace Go.Proofs.Ytocnkdkgajdejaa.G
open Go.V Go.Lot
section
variable {W : World} {K : VK} {E : List PanicEntry → Hp → Prop} {s : Hp} {L : Lts}
theorem cans_inj {left b : Nat} : (cans L left b).Nodup := by unfold cans; exact List.Nodup.sublist List.filter_sublist (nodup_menOf _ _)
theorem draws_plot {s1 t0 : Hp} {x yd : Option Addr} {c B0 cd i num left b lo q : Nat} {D : List Nat} {bz : Bool} {nx0 : List Value → Hp → Prop} {R : Ending → Hp → Prop} (hv : valid L = true) (hm : MenAt s1 x L.men)
    (c0 : ∀ t, Ext s1 t → cellAt t ((⟨B0, 0, none⟩ : Addr).add 0) = some (.slice x L.n c)) (c1 : ∀ t, Ext s1 t → cellAt t ((⟨B0, 0, none⟩ : Addr).add 1) = some (.int .i64 L.worst)) (e0 : Ext s1 t0) (sg : Seg L (D.take i) left b lo) (h0 : left ≠ 0) (hDl : D.length = L.n) (hi : i < L.n) (hrd : RowAt t0 yd (vals D))
    (hcl : 0 < (cans L left b).length) (hq : num % (cans L left b).length = q) (hDi : D.getD i 0 = (cans L left b).getD q 0) (hN : lo + (allL L left b).length ≤ cntAll L anyC)
    (h : ∀ t, Ext t0 t → nx0 [.bool bz, .int .i64 num, .int .i64 (lo + off L left b q : Nat), .int .i64 (lo + off L left b (q + 1) : Nat), .int .i64 (i + 1 : Nat)] t) :
    L_law03_LotDraws_1 W R nx0 ⟨B0, 0, none⟩ yd L.n cd num (lo + (allL L left b).length : Nat) i L.n bz none 0 0 none 0 0 (lo : Nat) t0 := by
  have v := vd_iff.1 hv
  have hn8 := v.hi
  have hall := off_all hn8 sg.lt h0 (b := b)
  have hN8 : cntAll L anyC ≤ 134217728 := cnt_le L anyC hn8 _ _
  have hcan8 : (cans L left b).length ≤ 8 := by rw [← cansK_all]; exact Nat.le_trans (cansK_len _ _ _ _) hn8
  have hpre : (D.take i).length = i := by rw [List.length_take]; omega
  have wi : IntKind.i64.wrap ((i : Int) + 1) = ((i + 1 : Nat) : Int) := by rw [wrap_i64 (by omega) (by omega)]; rfl
  refine L_law03_LotDraws_1_rule W R nx0 ⟨B0, 0, none⟩ yd L.n cd num (lo + (allL L left b).length : Nat) i L.n (fun bb x1 l1 c1 x2 l2 c2 n t => bb = bz ∧ Ext t0 t ∧ ∃ k : Nat, k ≤ (cans L left b).length ∧ n = (lo + off L left b k : Nat) ∧ Ls t0.size t x1 l1 c1 ((cans L left b).take k) ∧ Ls t0.size t x2 l2 c2 (begs L left b lo k) ∧ ∀ a1 a2, x1 = some a1 → x2 = some a2 → a1.block ≠ a2.block) (fun _ _ _ _ _ _ _ n _ => ((lo + (allL L left b).length : Nat) - n : Int).toNat) bz none 0 0 none 0 0 _ t0
    ⟨rfl, Ext.refl _, 0, by omega, by simp [off], ⟨Fr.nil _ _ _, fun b hb => by cases hb⟩, ⟨Fr.nil _ _ _, fun b hb => by cases hb⟩, fun a1 a2 h1 => by cases h1⟩ ?_
  rintro bb x1 l1 cc1 x2 l2 cc2 n t ⟨rfl, et, k, hk, rfl, ls1, ls2, hne⟩
  have et1 := e0.trans et
  have len1 := ls1.len
  have len2 := ls2.len
  rw [List.length_take, Nat.min_eq_left hk] at len1
  rw [begs_len] at len2
  unfold B_law03_LotDraws_1
  refine BR_dec (fun h1 => ?_) (fun h1 => ?_)
  · have hkl : k < (cans L left b).length := by
      rcases Nat.lt_or_ge k (cans L left b).length with h2 | h2
      · exact h2
      · have : k = (cans L left b).length := by omega
        subst this; omega
    have hoff := off_succ hkl
    have hcp := (cans_at hkl).2.2
    have hmono := off_mono (L := L) (left := left) (b := b) (show k + 1 ≤ (cans L left b).length by omega) (Nat.le_refl _)
    refine ⟨_, _, _, c0 t et1, _, c1 t et1, ?_⟩
    refine c_Nth_someF (hm.ext et1) hv (by omega) fun t2 d yd2 cd2 f2 hd rd fr2 => ?_
    try simp only [TUP_mk, AGG_mk, HD_mk, NL_mk, TYI_mk, TYB_mk, TYP_mk, TYL_mk, TYS_mk, TYM_mk, SO_mk, NX_mk, endK_mk, endK_mk', add_0]
    obtain ⟨pd, _, _⟩ := allD_at hn8 hd
    have hdl := pd.len
    refine BR_ne (fun hh => absurd rfl hh) (fun _ => ?_)
    unfold J_law03_LotDraws_3
    refine BR_ne (fun hh => absurd (by rw [hdl]) hh) (fun _ => ?_)
    have hdi : d.getD i 0 = (cans L left b)[k] := by
      have := (sg.which hn8 h0 hkl (Nat.le_refl _) (by omega) hd).2 (by omega)
      rw [hpre] at this; exact this
    obtain ⟨p, hp, q1⟩ := row_at rd (show i < d.length by omega)
    rw [hdi] at q1
    have ti : ((i : Int)).toNat = i := by omega
    refine ⟨p, hp, ⟨by omega, by omega⟩, _, by rw [ti]; exact q1, ?_⟩
    refine NEW_rule fun t3 e3 z3 n3 _ => ?_
    have ls1' := (ls1.ext f2).ext e3
    have ls2' := (ls2.ext f2).ext e3
    have et3 := et.trans (f2.trans e3)
    refine ls_add ls1' et3.1 (n3 0 _ rfl).cell (by rw [List.length_take]; omega) fun t4 x1' c1' k4 l4 g4 => ?_
    have kk4 : Kp (fun q => t0.size ≤ q) t3 t4 := k4.mono fun b ⟨a, h2, h3⟩ => by rw [← h3]; exact ls1'.fr.fr a h2
    have et4 : Ext t0 t4 := ⟨Nat.le_trans et3.1 kk4.1, fun q hq => (kk4.2 q (Nat.lt_of_lt_of_le hq et3.1) (by omega)).trans (et3.2 q hq)⟩
    have ls2'' : Ls t0.size t4 x2 l2 cc2 (begs L left b lo k) := ls2'.kp k4 (fun a ha ⟨a', h2, h3⟩ => hne a' a h2 ha h3)
    refine NEW_rule fun t5 e5 z5 n5 _ => ?_
    have et5 := et4.trans e5
    refine ls_add (ls2''.ext e5) et5.1 (n5 0 _ rfl).cell (by rw [begs_len]; omega) fun t6 x2' c2' k6 l6 g6 => ?_
    have kk6 : Kp (fun q => t0.size ≤ q) t5 t6 := k6.mono fun b ⟨a, h2, h3⟩ => by rw [← h3]; exact ls2.fr.fr a h2
    have et6 : Ext t0 t6 := ⟨Nat.le_trans et5.1 kk6.1, fun q hq => (kk6.2 q (Nat.lt_of_lt_of_le hq et5.1) (by omega)).trans (et5.2 q hq)⟩
    have hx1' : ∀ a, x1' = some a → a.block < t4.size := l4.lt
    -- the two lists lie apart
    have apart : ∀ a1 a2, x1' = some a1 → x2' = some a2 → a1.block ≠ a2.block := by
      intro a1 a2 ha1 ha2
      have h3 := hx1' a1 ha1
      rcases g6 a2 ha2 with ⟨a', h4, h5⟩ | h4
      · rcases g4 a1 ha1 with ⟨a'', h6, h7⟩ | h6
        · rw [← h5, ← h7]; exact hne a'' a' h6 h4
        · have := ls2'.lt a' h4
          rw [← h5]; omega
      · have := e5.1; omega
    have l4' : Ls t0.size t6 x1' (l1 + 1) c1' ((cans L left b).take k ++ [(cans L left b)[k]]) := (l4.ext e5).kp k6 (fun a ha ⟨a', h2, h3⟩ => by
      rcases g4 a ha with ⟨a'', h6, h7⟩ | h6
      · rw [← h7] at h3; exact hne a'' a' h6 h2 h3.symm
      · have := ls2'.lt a' h2; omega)
    have htake : (cans L left b).take (k + 1) = (cans L left b).take k ++ [(cans L left b)[k]] := by rw [List.take_add_one, List.getElem?_eq_getElem hkl]; rfl
    -- the draw that was found still lies there
    have rd6 : RowAt t6 yd2 (vals d) := by
      have r3 := rd.ext e3
      have r4 := r3.keep k4 (fun a ha ⟨a', h2, h3⟩ => by have := fr2 a ha; have := ls1.lt a' h2; omega)
      exact (r4.ext e5).keep k6 (fun a ha ⟨a', h2, h3⟩ => by have := fr2 a ha; have := ls2.lt a' h2; omega)
    have hwa : IntKind.i64.wrap (((lo + off L left b k : Nat) : Int) + 1) = ((lo + off L left b k + 1 : Nat) : Int) := by rw [wrap_i64 (by omega) (by omega)]; rfl
    rw [hwa]
    refine draws_end (num := num) (low0 := 0) (x := x) (c := c) hv hm c0 c1 (e0.trans et6) sg h0 hkl hDl hi hd rd6 rfl hN fun t7 e7 => ?_
    refine ⟨_, _, _, _, _, _, _, _, rfl, ⟨rfl, et6.trans e7, k + 1, hkl, rfl, by rw [htake]; exact l4'.ext e7, by rw [begs_succ]; exact l6.ext e7, apart⟩, ?_⟩
    show (((lo + (allL L left b).length : Nat) : Int) - ((lo + off L left b (k + 1) : Nat) : Int)).toNat < (((lo + (allL L left b).length : Nat) : Int) - ((lo + off L left b k : Nat) : Int)).toNat
    omega
  · have hkl : k = (cans L left b).length := by
      rcases Nat.lt_or_ge k (cans L left b).length with h2 | h2
      · have hoff := off_succ h2
        have hcp := (cans_at h2).2.2
        have hmono := off_mono (L := L) (left := left) (b := b) (show k + 1 ≤ (cans L left b).length by omega) (Nat.le_refl _)
        omega
      · omega
    subst hkl
    rw [List.take_length] at ls1
    refine BR_eq (fun hh => by omega) (fun _ => ?_)
    refine NZI_pos (by omega) ?_
    rw [len1, mod_nat, hq]
    have hql : q < (cans L left b).length := by rw [← hq]; exact Nat.mod_lt _ hcl
    obtain ⟨p, hp, q1⟩ := row_at ls1.fr.row hql
    obtain ⟨p', hp', q1'⟩ := row_at (hrd.ext et) (show i < D.length by omega)
    have tq : ((q : Int)).toNat = q := by omega
    have ti : ((i : Int)).toNat = i := by omega
    refine ⟨p, hp, ⟨by omega, by omega⟩, _, by rw [tq]; exact q1, p', hp', ⟨by omega, by omega⟩, _, by rw [ti]; exact q1', ?_⟩
    refine BR_ne (fun hh => absurd (by rw [hDi]) hh) (fun _ => ?_)
    obtain ⟨r, hr, q2⟩ := row_at ls2.fr.row (show q < (begs L left b lo (cans L left b).length).length by rw [begs_len]; exact hql)
    rw [begs_get L left b lo _ hql] at q2
    refine ⟨r, hr, ⟨by omega, by omega⟩, _, by rw [tq]; exact q2, ?_⟩
    have hwq : IntKind.i64.wrap ((q : Int) + 1) = ((q + 1 : Nat) : Int) := by rw [wrap_i64 (by omega) (by omega)]; rfl
    rw [hwq, wi]
    refine BR_dec (fun hlt => ?_) (fun hge => ?_)
    · obtain ⟨r', hr', q3⟩ := row_at ls2.fr.row (show q + 1 < (begs L left b lo (cans L left b).length).length by rw [begs_len]; omega)
      rw [begs_get L left b lo _ (show q + 1 < (cans L left b).length by omega)] at q3
      have tq1 : (((q + 1 : Nat) : Int)).toNat = q + 1 := by omega
      refine ⟨r', hr', ⟨by omega, by omega⟩, _, by rw [tq1]; exact q3, rfl, ?_⟩
      exact h t et
    · have hqe : q + 1 = (cans L left b).length := by omega
      have := h t et
      rw [hqe, hall] at this
      exact ⟨rfl, this⟩

theorem w_LotDraws {x : Option Addr} {c w : Nat} (hm : MenAt s x L.men) (hw : w ≤ 65535) (h : ∀ s', Ext s s' → K (.bool true) s') :
    CALL Pg W F_law03_LotDraws [.agg #[.slice x L.n c, .int .i64 L.worst], .int .u16 w] K E s := by
  refine does_law03_LotDraws W x L.n c L.worst w _ s ?_
  unfold T_law03_LotDraws
  refine NEW_rule fun s1 e1 z1 n1 _ => ?_
  have c0 := (n1 0 _ rfl).cell
  have c1 := (n1 1 _ rfl).cell
  have aw : ∀ t, Ext s1 t → CALL Pg W F_law03_awake [] (fun v16 => TYB v16 fun b18 => (endK K E) (.returned (.bool b18))) (fun c17 => (endK K E) (.panicked c17)) t := fun t et => c_awake fun t' et' => h t' (e1.trans (et.trans et'))
  refine ⟨_, _, _, c0, _, c1, ?_⟩
  refine c_far (n := 8) (hm.ext e1) fun s2 bb e2 hb1 hb2 => ?_
  try simp only [TUP_mk, AGG_mk, HD_mk, NL_mk, TYI_mk, TYB_mk, TYP_mk, TYL_mk, TYS_mk, TYM_mk, SO_mk, NX_mk, endK_mk, endK_mk', add_0]
  unfold J_law03_LotDraws_2
  refine BR_bool (fun hbb => aw s2 e2) (fun hbb => ?_)
  obtain ⟨hn30, _, hn8'⟩ := hb2 hbb
  refine ⟨_, _, _, e2.cell c0, _, e2.cell c1, ?_⟩
  have e02 := e1.trans e2
  refine f_Lots (hm.ext e02) (by omega) fun s3 e3 => ?_
  try simp only [TUP_mk, AGG_mk, HD_mk, NL_mk, TYI_mk, TYB_mk, TYP_mk, TYL_mk, TYS_mk, TYM_mk, SO_mk, NX_mk, endK_mk, endK_mk', add_0]
  have e13 := e2.trans e3
  have e03 := e1.trans e13
  refine BR_not (fun hv => aw s3 e13) (fun hv => ?_)
  have v := vd_iff.1 hv
  have hn8 := v.hi
  have hlo := v.lo
  have hww : IntKind.wrap .i64 (w : Int) = (w : Int) := wrap_i64 (by omega) (by omega)
  refine ⟨_, _, _, e13.cell c0, _, e13.cell c1, ?_⟩
  rw [hww]
  have hcp : countP L = (((cntAll L anyC : Nat) : Int), 0) := by unfold countP; rw [hv]; rfl
  have hca : cntAll L anyC = cnt L anyC (full L.n) 8 := rfl
  refine c_Draw (hm.ext e03) (fun s4 D v4 e4 _ _ hD ho => ?_) (fun s4 e4 _ _ hD => ?_) (fun s4 e4 _ hr => absurd ⟨by omega, by omega⟩ hr) (fun s4 e4 hv' => by rw [hv] at hv'; cases hv')
  · obtain ⟨yd, cd, rfl, rd⟩ := ho
    try simp only [TUP_mk, AGG_mk, HD_mk, NL_mk, TYI_mk, TYB_mk, TYP_mk, TYL_mk, TYS_mk, TYM_mk, SO_mk, NX_mk, endK_mk, endK_mk', add_0]
    have hpos : 0 < cnt L anyC (full L.n) 8 := by
      unfold drawP at hD
      split at hD
      · rename_i hh; exact hh
      · cases hD
    have hDe : D = runC (drawN L) L.n w (full L.n) 8 := by
      unfold drawP at hD
      rw [if_pos hpos] at hD
      exact (Option.some.inj hD).symm
    have hlaw := run_law L hn8 L.n w (full L.n) 8 full_lt8 (menOf_len_le _ _) hpos
    rw [← hDe] at hlaw
    obtain ⟨pd, wd⟩ := (mem_allD hn8).1 ((mem_all L hn8 D _ _ full_lt8).2 hlaw)
    have hDl := pd.len
    have e14 := e13.trans e4
    refine ⟨_, _, _, e14.cell c0, _, e14.cell c1, ?_⟩
    refine c_Count (hm.ext (e1.trans e14)) fun s5 e5 => ?_
    try simp only [TUP_mk, AGG_mk, HD_mk, NL_mk, TYI_mk, TYB_mk, TYP_mk, TYL_mk, TYS_mk, TYM_mk, SO_mk, NX_mk, endK_mk, endK_mk', add_0]
    rw [hcp]
    have e15 := e14.trans e5
    have rd5 := rd.ext e5
    refine BR_ne (fun hh => absurd rfl hh) (fun _ => ?_)
    unfold J_law03_LotDraws_1
    refine BR_not (fun hh => ?_) (fun _ => ?_)
    · exfalso
      have hd : decide (((cntAll L anyC : Nat) : Int) > 0) = true := decide_eq_true (by omega)
      dsimp only at hh
      rw [hd] at hh
      simp at hh
    refine BR_ne (fun hh => absurd rfl hh) (fun _ => ?_)
    refine ⟨_, _, _, e15.cell c0, _, e15.cell c1, ?_⟩
    refine f_FullN pd rd5 rfl hn8 fun s6 e6 => ?_
    try simp only [TUP_mk, AGG_mk, HD_mk, NL_mk, TYI_mk, TYB_mk, TYP_mk, TYL_mk, TYS_mk, TYM_mk, SO_mk, NX_mk, endK_mk, endK_mk', add_0]
    have e16 := e15.trans e6
    have rd6 := rd5.ext e6
    refine BR_not (fun hh => by cases hh) (fun _ => ?_)
    refine ⟨_, _, _, e16.cell c0, _, e16.cell c1, ?_⟩
    refine c_lawful (hm.ext (e1.trans e16)) rd6 hv pd.lt rfl pd.len fun s7 e7 => ?_
    try simp only [TUP_mk, AGG_mk, HD_mk, NL_mk, TYI_mk, TYB_mk, TYP_mk, TYL_mk, TYS_mk, TYM_mk, SO_mk, NX_mk, endK_mk, endK_mk', add_0]
    have e17 := e16.trans e7
    have rd7 := rd6.ext e7
    rw [decide_eq_true wd]
    unfold J_law03_LotDraws_0
    refine BR_not (fun hh => by cases hh) (fun _ => ?_)
    rw [hww]
    rw [hDl]
    refine L_law03_LotDraws_0_rule W _ ⟨s.size, 0, none⟩ yd L.n cd L.n (fun _ n1 n2 n3 n4 t => Ext s7 t ∧ ∃ i num left b lo : Nat, i ≤ L.n ∧ n4 = i ∧ n1 = num ∧ num ≤ 65536 ∧ n2 = lo ∧ n3 = (lo + (allL L left b).length : Nat) ∧ Seg L (D.take i) left b lo ∧ D.drop i = runC (drawN L) (L.n - i) num left b ∧ 0 < cnt L anyC left b ∧ (b = 8 ∨ b < L.n)) (fun _ _ _ _ n _ => (L.n - n).toNat) false w 0 _ 0 s7
      ⟨Ext.refl _, 0, w, full L.n, 8, 0, by omega, rfl, rfl, by omega, rfl, ?_, seg_start L, by rw [List.drop_zero, hDe]; rfl, hpos, .inl rfl⟩ ?_
    · rw [Nat.zero_add, ← cnt_len L hn8 full_lt8]; rfl
    rintro bz n1 n2 n3 n4 t ⟨et, i, num, left, b, lo, hi, rfl, rfl, hnum, rfl, rfl, sg, hdrop, hcnt, hb⟩
    have et1 := e17.trans et
    have hplot := sg.plot
    rw [List.length_take, Nat.min_eq_left (by omega)] at hplot
    have hml := menOf_len_le L.n left
    have hN : lo + (allL L left b).length ≤ cntAll L anyC := by
      rw [cnt_len L hn8 sg.lt] at hcnt
      have hl : (allL L left b).length - 1 < (allL L left b).length := by omega
      have := sg.at' _ _ (List.getElem?_eq_getElem hl)
      have := (allD_at hn8 this).2.2
      omega
    unfold B_law03_LotDraws_0
    refine BR_dec (fun h1 => ?_) (fun h1 => ?_)
    · have hil : i < L.n := by omega
      have h0 : left ≠ 0 := fun e => by
        subst e
        have : menOf L.n 0 = [] := by unfold menOf; simp
        unfold plotOf at hplot
        rw [this] at hplot
        simp at hplot
        omega
      have hcl := cans_pos L hn8 sg.lt h0 hcnt
      obtain ⟨f, hf⟩ : ∃ f, L.n - i = f + 1 := ⟨L.n - i - 1, by omega⟩
      have hrun : runC (drawN L) (L.n - i) num left b = (drawN L num left b).1 :: runC (drawN L) f (drawN L num left b).2 (left - 2 ^ (drawN L num left b).1) (drawN L num left b).1 := by
        rw [hf]
        show (if left = 0 then [] else _) = _
        rw [if_neg h0]
      rw [hrun] at hdrop
      have hDi : D.getD i 0 = (drawN L num left b).1 := by
        have h2 : (D.drop i)[0]? = some (drawN L num left b).1 := by rw [hdrop]; rfl
        rw [List.getElem?_drop, Nat.add_zero] at h2
        rw [List.getD, h2]; rfl
      have hq1 : (drawN L num left b).1 = (cans L left b).getD (nextD num % (cans L left b).length) 0 := rfl
      have hqlt := Nat.mod_lt (nextD num) hcl
      rw [next_eq hnum]
      generalize hqe : nextD num % (cans L left b).length = q at *
      have hget : (drawN L num left b).1 = (cans L left b)[q] := by rw [hq1]; simp [List.getD, hqlt]
      refine draws_plot (num := nextD num) (q := q) (x := x) (c := c) (L := L) (s1 := s1) hv (hm.ext e1) (fun t e => e.cell c0) (fun t e => e.cell c1) et1 sg h0 hDl hil (rd7.ext et) hcl hqe (by rw [hDi, hq1]) hN fun t2 e2' => ?_
      have hst := sg.step hn8 h0 hqlt
      have htk : D.take (i + 1) = D.take i ++ [(cans L left b)[q]] := by
        rw [List.take_add_one]
        have : D[i]? = some (cans L left b)[q] := by
          have h2 : (D.drop i)[0]? = some (drawN L num left b).1 := by rw [hdrop]; rfl
          rw [List.getElem?_drop, Nat.add_zero, hget] at h2
          exact h2
        rw [this]; rfl
      obtain ⟨g1, g2, g3⟩ := cans_at hqlt
      refine ⟨_, _, _, _, _, rfl, ⟨et.trans e2', i + 1, nextD num, left - 2 ^ (cans L left b)[q], (cans L left b)[q], lo + off L left b q, by omega, rfl, rfl, next_le _, rfl, ?_, by rw [htk]; exact hst, ?_, g3, .inr g1⟩, ?_⟩
      · rw [off_succ hqlt, cnt_len L hn8 hst.lt, Nat.add_assoc]
      · have h2 : D.drop (i + 1) = (D.drop i).drop 1 := by rw [List.drop_drop]
        rw [h2, hdrop, hget]
        show runC (drawN L) f (nextD num) _ _ = _
        congr 1
        omega
      · show ((L.n : Int) - ((i + 1 : Nat) : Int)).toNat < ((L.n : Int) - (i : Int)).toNat
        omega
    · have hil : i = L.n := by omega
      subst hil
      have h0 : left = 0 := menOf_nil sg.lt (by unfold plotOf at hplot; omega)
      subst h0
      rw [allL_zero]
      have hN8 : cntAll L anyC ≤ 134217728 := cnt_le L anyC hn8 _ _
      rw [allL_zero] at hN
      simp only [List.length_cons, List.length_nil] at hN ⊢
      rw [wrap_i64 (by omega) (by omega)]
      refine BR_eq (fun _ => aw t et1) (fun hh => absurd (by omega) hh)
  · try simp only [TUP_mk, AGG_mk, HD_mk, NL_mk, TYI_mk, TYB_mk, TYP_mk, TYL_mk, TYS_mk, TYM_mk, SO_mk, NX_mk, endK_mk, endK_mk', add_0]
    have hz : cntAll L anyC = 0 := by
      unfold drawP at hD
      split at hD
      · cases hD
      · omega
    have e14 := e13.trans e4
    refine ⟨_, _, _, e14.cell c0, _, e14.cell c1, ?_⟩
    refine c_Count (hm.ext (e1.trans e14)) fun s5 e5 => ?_
    try simp only [TUP_mk, AGG_mk, HD_mk, NL_mk, TYI_mk, TYB_mk, TYP_mk, TYL_mk, TYS_mk, TYM_mk, SO_mk, NX_mk, endK_mk, endK_mk', add_0]
    rw [hcp, hz]
    refine BR_ne (fun hh => absurd rfl hh) (fun _ => ?_)
    unfold J_law03_LotDraws_1
    refine BR_not (fun hh => by simp at hh) (fun _ => ?_)
    refine BR_ne (fun _ => ?_) (fun hh => absurd hh (by decide))
    refine BR_eq (fun _ => ?_) (fun hh => absurd rfl hh)
    refine BR_eq (fun _ => ?_) (fun hh => absurd rfl hh)
    exact aw s5 (e14.trans e5)
end
end Go.Proofs.Ytocnkdkgajdejaa.G

/- LotDraws, from any arguments. -/
namespace Go.Proofs.Ytocnkdkgajdejaa.G
open Go.V Go.Lot
theorem v_LotDraws {W : World} {s : Hp} {v0 v1 : Value} (k0 : RdV Pg s 24 v0) (k1 : RdV Pg s 53 v1) : CALL Pg W F_law03_LotDraws [v0, v1] (fun v s' => v = .bool true ∧ Ext s s') (fun _ _ => False) s := by
  obtain ⟨x, c, L, rfl, hm, _⟩ := lots_rd k0
  obtain ⟨a, rfl, a0, a1⟩ := u16_rd k1
  obtain ⟨a', rfl⟩ := Int.eq_ofNat_of_zero_le a0
  exact w_LotDraws hm (by omega) fun s' e => ⟨rfl, e⟩
end Go.Proofs.Ytocnkdkgajdejaa.G

/- The row of the statement LotDraws. -/
namespace Go.Proofs.Ytocnkdkgajdejaa.lotDraws
open Go.ChangeShapes Go.WideShapes Go.ChangeAt Go.RowKit Go.V
set_option linter.unusedVariables false
theorem own : ownKnob Try.prog.godebug = none := by kernel_rfl
theorem laidOut : laidOutB Try.prog = true := by kernel_rfl
set_option maxRecDepth 100000 in
theorem lifted (os : Os) (started : os.Started) (H : Type) (enc : TypeId × Value → H) :
    ReturnsInHanded {} Try.checked os 6 .any (Rows.lotDrawsSpec.pre6 enc Try.prog Try.f6 Rows.lotDrawsRow.domain false) (Rows.lotDrawsSpec.post enc Try.prog Try.f6 false true false false) := by
  refine returnsInHanded_of_change_sized (C := Try.checked) own started (by kernel_rfl) Try.func6
    (ChangeSpec.witness6 (enc := enc) (C := Try.checked) false ⟨#[], #[(.agg #[(.slice none 0 0), (.int .i64 0)]), (.int .u16 0)], []⟩ 8 (by kernel_rfl) (by kernel_rfl) (by kernel_rfl) (by kernel_rfl)) ?_
  intro W base args ds gs before hval0 hW hcnd hsz0 _
  have hsz : (DataW.weightsEach Try.prog (Try.f6.params.toList ++ Rows.lotDrawsSpec.plain.varTypes Try.prog) (ds ++ gs)).all (· ≤ reachBytes) = true := hsz0
  have hval : ∀ (j : Nat) t v, Try.f6.params[j]? = some t → args[j]? = some v → Value.okWide Try.prog W .any base t v := hval0
  have hW' := hW
  obtain ⟨p, q, hA0, hV, rfl, hfz, hnd⟩ := hW
  have hA : DataW.TrodAll enc Try.prog W 0 (fun _ => true) true Try.f6.params.toList args.toList ds p := hA0
  rw [Try.params6] at hA hval hsz
  obtain ⟨v0, vs0, d0, ds0, p0, q0, hargs, rfl, rfl, h0, r0⟩ := trodAll_cons hA
  obtain ⟨v1, vs1, d1, ds1, p1, q1, rfl, rfl, rfl, h1, r1⟩ := trodAll_cons r0
  obtain ⟨rfl, rfl, rfl⟩ := trodAll_nil r1
  obtain rfl : args = #[v0, v1] := by cases args; simp_all
  obtain ⟨rfl, rfl⟩ := trodVars_none hV
  have k0 := trod_rdV (hval 0 24 v0 rfl rfl) h0
  have lt0 : ∀ x ∈ p0, x.block < W.heap.size := by obtain ⟨m, hm⟩ := h0; exact DataW.trod_lt m _ _ _ hm
  have k1 := trod_rdV (hval 1 53 v1 rfl rfl) h1
  have lt1 : ∀ x ∈ p1, x.block < W.heap.size := by obtain ⟨m, hm⟩ := h1; exact DataW.trod_lt m _ _ _ hm
  refine (calls_of_does (does_of_call (G.v_LotDraws (W := W) (s := W.heap) k0 k1))).mono fun e W' ⟨he, bel⟩ => ?_
  subst he
  exact ⟨_, rfl, _, _, _, [], _, [], hW', trodAll_mk1 (shut_bool Try.underlying4 _), (trodAll_cons_mk (Below.trod laidOut (by kernel_rfl) (of_decide_eq_true (by kernel_rfl)) h0 bel lt0) (trodAll_cons_mk (Below.trod laidOut (by kernel_rfl) (of_decide_eq_true (by kernel_rfl)) h1 bel lt1) trodAll_mk0)), rfl, bel.frame _, fun h => by cases h⟩
theorem over : Rows.lotDrawsRow.holds Try.pinned (OpenSpec.ofChange Rows.lotDrawsSpec) :=
  OpenClaim.holds_of_wide 6 Try.f6 rfl rfl rfl rfl rfl rfl rfl ⟨rfl, rfl, rfl, rfl, rfl⟩ rfl rfl rfl rfl rfl (by kernel_rfl) Try.func6 (by kernel_rfl)
    (of_decide_eq_true (by kernel_rfl)) (by unfold Func.isWrapper; first | (rw [if_pos (by decide +kernel)]; kernel_rfl) | (rw [if_neg (by decide +kernel)]; exact ⟨rfl, rfl⟩))
    (fun os started H enc _ => lifted os started H enc)
theorem proved : Rows.LotDrawsSaid := over
end Go.Proofs.Ytocnkdkgajdejaa.lotDraws
namespace Go.Proofs.Ytocnkdkgajdejaa
/-- The row, under a short name. -/
theorem lotDraws_holds : Rows.LotDrawsSaid := lotDraws.proved
end Go.Proofs.Ytocnkdkgajdejaa
