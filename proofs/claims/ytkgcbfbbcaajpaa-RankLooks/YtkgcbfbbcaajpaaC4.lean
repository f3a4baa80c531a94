import Derived.Test.YtkgcbfbbcaajpaaC3
/- Lemmas: contracts over the visible heap, and that they are sound; no condition. -/
/- More of the functions' shallow texts, by gen.py. -/
set_option linter.unusedVariables false
set_option maxRecDepth 100000
namespace Go.Proofs.Ytkgcbfbbcaajpaa.G
open Go.V
def an_9 : Nat → Ann := fun b => match b with
  | 0 => { ms := [10, 137], ks := [.b, .i .i64], us := [5, 11, 12, 135, 136, 157], rt := false, ex := [] }
  | _ => {}
abbrev rv_9 : List ResultVar := [.tmp 10]
abbrev rs_9 : List Nat := [157, 10]
def L_law10_RankNeed_0 (W : World) (R : Ending → Hp → Prop) (za0 : Addr) (zp1 : Option Addr) (zp2 : Option Addr) (za3 : Addr) (b207 : Bool) (n208 : Int) : Hp → Prop :=
  LOOPN [.b, .i .i64] (fun ys next s => ∀ j : Tm, vc Pg W 157 rs_9 an_9 false (sub (bodyOf Try.f9) [1, 1, 1, 1, 1, 1, 1, 1, 0, 1, 0, 0]) 0 (KLoop [10, 137] [5, 11, 12, 135, 136, 157] [(.pointer (some za0)), (.pointer zp1), (.pointer zp2), (.slice (some za3) 2 2), (.int .i64 2), (.tuple #[])] next (KBlk 0 (KS Pg W 157 rs_9 an_9 false (sub (bodyOf Try.f9) [1, 1, 1, 1, 1, 1, 1, 1, 1]) 0 (fin Pg W 157 rv_9 R)))) (known [10, 137] ys (known [5, 11, 12, 135, 136, 157] [(.pointer (some za0)), (.pointer zp1), (.pointer zp2), (.slice (some za3) 2 2), (.int .i64 2), (.tuple #[])] j)) s) [(.bool b207), (.int .i64 n208)]
def J_law10_RankNeed_0 (W : World) (R : Ending → Hp → Prop) (b99 : Bool) (B71 : Nat) (B13 : Nat) (p47 : Option Addr) (p48 : Option Addr) (p49 : Option Addr) : Hp → Prop :=
  BR b99
    (RDI .i64 (Addr.add ⟨B71, 0, none⟩ 1) fun n100 =>
      CALLV Pg W (.func (.func 41) #[] #[(.pointer (some ⟨B13, 0, none⟩)), (.pointer p47), (.pointer p48), (.pointer p49)]) [(.int .i64 n100)]
        (fun v101 => TYB v101 fun b103 =>
          BR (!b103)
            (CALL Pg W F_law10_awake []
              (fun v104 => TYB v104 fun b106 =>
                R (.returned (.bool b106)))
                (fun e105 => R (.panicked e105)))
            (R (.returned (.bool false))))
          (fun e102 => R (.panicked e102)))
    (R (.returned (.bool false)))
def J_law10_RankNeed_1 (W : World) (R : Ending → Hp → Prop) (b95 : Bool) (p49 : Option Addr) (B13 : Nat) (B71 : Nat) (p47 : Option Addr) (p48 : Option Addr) : Hp → Prop :=
  BR b95
    (SO p49 fun a96 =>
      RDI .i64 a96 fun n97 =>
        RDI .i64 (Addr.add ⟨B13, 0, none⟩ 0) fun n98 =>
          J_law10_RankNeed_0 W R (decide (n97 < n98)) B71 B13 p47 p48 p49)
    (J_law10_RankNeed_0 W R false B71 B13 p47 p48 p49)
def J_law10_RankNeed_2 (W : World) (R : Ending → Hp → Prop) (b115 : Bool) (B13 : Nat) (p47 : Option Addr) (p48 : Option Addr) : Hp → Prop :=
  BR b115
    (R (.returned (.bool false)))
    (RDI .i64 (Addr.add ⟨B13, 0, none⟩ 0) fun n116 =>
      NEW 3 [(.int .i64 0), (.int .i64 (IntKind.wrap .i64 (n116 + 1)))] fun B117 =>
        L_law10_RankNeed_0 W R ⟨B13, 0, none⟩ p47 p48 ⟨B117, 0, none⟩ false 0)
def J_law10_RankNeed_3 (W : World) (R : Ending → Hp → Prop) (b114 : Bool) (B13 : Nat) (p47 : Option Addr) (p48 : Option Addr) (B71 : Nat) (n91 : Int) (p49 : Option Addr) (n12 : Int) : Hp → Prop :=
  BR b114
    (J_law10_RankNeed_2 W R true B13 p47 p48)
    (RDI .i64 (Addr.add ⟨B71, 0, none⟩ 1) fun n118 =>
      NZI (IntKind.wrap .i64 ((IntKind.wrap .i64 (n118 - n91)) + 1)) <|
        CALLV Pg W (.func (.func 41) #[] #[(.pointer (some ⟨B13, 0, none⟩)), (.pointer p47), (.pointer p48), (.pointer p49)]) [(.int .i64 (IntKind.wrap .i64 (n91 + (Int.tmod (IntKind.wrap .i64 n12) (IntKind.wrap .i64 ((IntKind.wrap .i64 (n118 - n91)) + 1))))))]
          (fun v119 => TYB v119 fun b121 =>
            J_law10_RankNeed_2 W R (!b121) B13 p47 p48)
            (fun e120 => R (.panicked e120)))
def J_law10_RankNeed_4 (W : World) (R : Ending → Hp → Prop) (b113 : Bool) (B13 : Nat) (p47 : Option Addr) (p48 : Option Addr) (B71 : Nat) (n91 : Int) (p49 : Option Addr) (n12 : Int) : Hp → Prop :=
  BR b113
    (J_law10_RankNeed_3 W R true B13 p47 p48 B71 n91 p49 n12)
    (SO p49 fun a122 =>
      RDI .i64 a122 fun n123 =>
        RDI .i64 (Addr.add ⟨B13, 0, none⟩ 0) fun n124 =>
          BR (n123 == n124)
            (RDI .i64 (Addr.add ⟨B71, 0, none⟩ 0) fun n125 =>
              J_law10_RankNeed_3 W R (n91 != n125) B13 p47 p48 B71 n91 p49 n12)
            (J_law10_RankNeed_3 W R false B13 p47 p48 B71 n91 p49 n12))
def J_law10_RankNeed_5 (W : World) (R : Ending → Hp → Prop) (b112 : Bool) (B13 : Nat) (p47 : Option Addr) (p48 : Option Addr) (B71 : Nat) (n91 : Int) (p49 : Option Addr) (n12 : Int) : Hp → Prop :=
  BR b112
    (J_law10_RankNeed_4 W R true B13 p47 p48 B71 n91 p49 n12)
    (RDI .i64 (Addr.add ⟨B71, 0, none⟩ 0) fun n126 =>
      BR (decide (n91 > n126))
        (CALLV Pg W (.func (.func 41) #[] #[(.pointer (some ⟨B13, 0, none⟩)), (.pointer p47), (.pointer p48), (.pointer p49)]) [(.int .i64 (IntKind.wrap .i64 (n91 - 1)))]
          (fun v127 => TYB v127 fun b129 =>
            J_law10_RankNeed_4 W R b129 B13 p47 p48 B71 n91 p49 n12)
            (fun e128 => R (.panicked e128)))
        (J_law10_RankNeed_4 W R false B13 p47 p48 B71 n91 p49 n12))
def J_law10_RankNeed_6 (W : World) (R : Ending → Hp → Prop) (B13 : Nat) (p47 : Option Addr) (p48 : Option Addr) (p49 : Option Addr) (n12 : Int) : Hp → Prop :=
  RDI .i64 (Addr.add ⟨B13, 0, none⟩ 0) fun n50 =>
    RDI .i64 (Addr.add ⟨B13, 0, none⟩ 1) fun n51 =>
      RDL (Addr.add ⟨B13, 0, none⟩ 2) fun x52 l53 c54 =>
        RDL (Addr.add ⟨B13, 0, none⟩ 3) fun x55 l56 c57 =>
          SO p47 fun a58 =>
            RDI .i64 a58 fun n59 =>
              SO p48 fun a60 =>
                RDI .i64 a60 fun n61 =>
                  CALL Pg W F_ref10_Points [(.agg #[(.int .i64 n50), (.int .i64 n51), (.slice x52 l53 c54), (.slice x55 l56 c57)]), (.int .i64 n59), (.int .i64 n61)]
                    (fun v62 => AGG v62 fun q64 => HD q64 fun v65 r66 => TYI .i64 v65 fun n67 =>
                      HD r66 fun v68 r69 => TYI .i64 v68 fun n70 =>
                        NL r69 <|
                          NEWZ Pg 29 fun B71 =>
                            WR (Addr.add ⟨B71, 0, none⟩ 0) (.int .i64 n67) <|
                              WR (Addr.add ⟨B71, 0, none⟩ 1) (.int .i64 n70) <|
                                RDI .i64 (Addr.add ⟨B13, 0, none⟩ 0) fun n72 =>
                                  RDI .i64 (Addr.add ⟨B13, 0, none⟩ 1) fun n73 =>
                                    RDL (Addr.add ⟨B13, 0, none⟩ 2) fun x74 l75 c76 =>
                                      RDL (Addr.add ⟨B13, 0, none⟩ 3) fun x77 l78 c79 =>
                                        SO p47 fun a80 =>
                                          RDI .i64 a80 fun n81 =>
                                            SO p48 fun a82 =>
                                              RDI .i64 a82 fun n83 =>
                                                SO p49 fun a84 =>
                                                  RDI .i64 a84 fun n85 =>
                                                    CALL Pg W F_rank_Need [(.agg #[(.int .i64 n72), (.int .i64 n73), (.slice x74 l75 c76), (.slice x77 l78 c79)]), (.int .i64 n81), (.int .i64 n83), (.int .i64 n85)]
                                                      (fun v86 => TUP v86 fun q88 => HD q88 fun v89 r90 => TYI .i64 v89 fun n91 =>
                                                        HD r90 fun v92 r93 => TYI .i64 v92 fun n94 =>
                                                          NL r93 <|
                                                            BR (n94 != 0)
                                                              (BR (n94 == 4)
                                                                (J_law10_RankNeed_1 W R (n91 == 0) p49 B13 B71 p47 p48)
                                                                (J_law10_RankNeed_1 W R false p49 B13 B71 p47 p48))
                                                              (RDI .i64 (Addr.add ⟨B71, 0, none⟩ 0) fun n107 =>
                                                                RDI .i64 (Addr.add ⟨B71, 0, none⟩ 1) fun n108 =>
                                                                  CALL Pg W F_law10_inside [(.agg #[(.int .i64 n107), (.int .i64 n108)]), (.int .i64 n91)]
                                                                    (fun v109 => TYB v109 fun b111 =>
                                                                      BR (!b111)
                                                                        (J_law10_RankNeed_5 W R true B13 p47 p48 B71 n91 p49 n12)
                                                                        (CALLV Pg W (.func (.func 41) #[] #[(.pointer (some ⟨B13, 0, none⟩)), (.pointer p47), (.pointer p48), (.pointer p49)]) [(.int .i64 n91)]
                                                                          (fun v130 => TYB v130 fun b132 =>
                                                                            J_law10_RankNeed_5 W R (!b132) B13 p47 p48 B71 n91 p49 n12)
                                                                            (fun e131 => R (.panicked e131))))
                                                                      (fun e110 => R (.panicked e110))))
                                                        (fun e87 => R (.panicked e87)))
                      (fun e63 => R (.panicked e63))
def J_law10_RankNeed_7 (W : World) (R : Ending → Hp → Prop) (b25 : Bool) (B13 : Nat) (n9 : Int) (n10 : Int) (n11 : Int) (n12 : Int) : Hp → Prop :=
  BR b25
    (CALL Pg W F_law10_awake []
      (fun v26 => TYB v26 fun b28 =>
        R (.returned (.bool b28)))
        (fun e27 => R (.panicked e27)))
    (RDI .i64 (Addr.add ⟨B13, 0, none⟩ 0) fun n29 =>
      NZI n29 <|
        RDI .i64 (Addr.add ⟨B13, 0, none⟩ 1) fun n30 =>
          NZI n30 <|
            RDI .i64 (Addr.add ⟨B13, 0, none⟩ 0) fun n31 =>
              NZI n31 <|
                CONJ [
                  NEWZ Pg 3 fun B32 =>
                    ANDS (RDI .i64 (Addr.add ⟨B13, 0, none⟩ 0) fun n33 =>
                      fun _ => ((.int .i64 n33) : Value) = (.int .i64 n31)) <|
                      ANDS (RDI .i64 (Addr.add ⟨B13, 0, none⟩ 1) fun n34 =>
                        fun _ => ((.int .i64 n34) : Value) = (.int .i64 n30)) <|
                        ANDS (RDI .i64 (Addr.add ⟨B13, 0, none⟩ 0) fun n35 =>
                          fun _ => ((.int .i64 n35) : Value) = (.int .i64 n29)) <|
                          CONJ [
                            NEWZ Pg 3 fun B36 =>
                              ANDS (RDI .i64 (Addr.add ⟨B13, 0, none⟩ 0) fun n37 =>
                                fun _ => ((.int .i64 n37) : Value) = (.int .i64 n31)) <|
                                ANDS (RDI .i64 (Addr.add ⟨B13, 0, none⟩ 1) fun n38 =>
                                  fun _ => ((.int .i64 n38) : Value) = (.int .i64 n30)) <|
                                  ANDS (RDI .i64 (Addr.add ⟨B13, 0, none⟩ 0) fun n39 =>
                                    fun _ => ((.int .i64 n39) : Value) = (.int .i64 n29)) <|
                                    NEWZ Pg 3 fun B40 =>
                                      ANDS (RDI .i64 (Addr.add ⟨B13, 0, none⟩ 0) fun n41 =>
                                        fun _ => ((.int .i64 n41) : Value) = (.int .i64 n31)) <|
                                        ANDS (RDI .i64 (Addr.add ⟨B13, 0, none⟩ 1) fun n42 =>
                                          fun _ => ((.int .i64 n42) : Value) = (.int .i64 n30)) <|
                                          ANDS (RDI .i64 (Addr.add ⟨B13, 0, none⟩ 0) fun n43 =>
                                            fun _ => ((.int .i64 n43) : Value) = (.int .i64 n29)) <|
                                            WR (Addr.add ⟨B32, 0, none⟩ 0) (.int .i64 (Int.tmod (IntKind.wrap .i64 n9) n29)) <|
                                              ANDS (RDI .i64 (Addr.add ⟨B13, 0, none⟩ 0) fun n44 =>
                                                fun _ => ((.int .i64 n44) : Value) = (.int .i64 n31)) <|
                                                ANDS (RDI .i64 (Addr.add ⟨B13, 0, none⟩ 1) fun n45 =>
                                                  fun _ => ((.int .i64 n45) : Value) = (.int .i64 n30)) <|
                                                  WR (Addr.add ⟨B36, 0, none⟩ 0) (.int .i64 (Int.tmod (IntKind.wrap .i64 n10) n30)) <|
                                                    ANDS (RDI .i64 (Addr.add ⟨B13, 0, none⟩ 0) fun n46 =>
                                                      fun _ => ((.int .i64 n46) : Value) = (.int .i64 n31)) <|
                                                      WR (Addr.add ⟨B40, 0, none⟩ 0) (.int .i64 (IntKind.wrap .i64 (1 + (Int.tmod (IntKind.wrap .i64 n11) n31)))) <|
                                                        J_law10_RankNeed_6 W R B13 (some ⟨B32, 0, none⟩) (some ⟨B36, 0, none⟩) (some ⟨B40, 0, none⟩) n12,
                            NEWZ Pg 3 fun B133 =>
                              ANDS (RDI .i64 (Addr.add ⟨B13, 0, none⟩ 0) fun n134 =>
                                fun _ => ((.int .i64 n134) : Value) = (.int .i64 n31)) <|
                                ANDS (RDI .i64 (Addr.add ⟨B13, 0, none⟩ 1) fun n135 =>
                                  fun _ => ((.int .i64 n135) : Value) = (.int .i64 n30)) <|
                                  ANDS (RDI .i64 (Addr.add ⟨B13, 0, none⟩ 0) fun n136 =>
                                    fun _ => ((.int .i64 n136) : Value) = (.int .i64 n29)) <|
                                    NEWZ Pg 3 fun B137 =>
                                      ANDS (RDI .i64 (Addr.add ⟨B13, 0, none⟩ 0) fun n138 =>
                                        fun _ => ((.int .i64 n138) : Value) = (.int .i64 n31)) <|
                                        ANDS (RDI .i64 (Addr.add ⟨B13, 0, none⟩ 1) fun n139 =>
                                          fun _ => ((.int .i64 n139) : Value) = (.int .i64 n30)) <|
                                          ANDS (RDI .i64 (Addr.add ⟨B13, 0, none⟩ 0) fun n140 =>
                                            fun _ => ((.int .i64 n140) : Value) = (.int .i64 n29)) <|
                                            WR (Addr.add ⟨B32, 0, none⟩ 0) (.int .i64 (Int.tmod (IntKind.wrap .i64 n9) n29)) <|
                                              ANDS (RDI .i64 (Addr.add ⟨B13, 0, none⟩ 0) fun n141 =>
                                                fun _ => ((.int .i64 n141) : Value) = (.int .i64 n31)) <|
                                                ANDS (RDI .i64 (Addr.add ⟨B13, 0, none⟩ 1) fun n142 =>
                                                  fun _ => ((.int .i64 n142) : Value) = (.int .i64 n30)) <|
                                                  WR (Addr.add ⟨B137, 0, none⟩ 0) (.int .i64 (Int.tmod (IntKind.wrap .i64 n10) n30)) <|
                                                    ANDS (RDI .i64 (Addr.add ⟨B13, 0, none⟩ 0) fun n143 =>
                                                      fun _ => ((.int .i64 n143) : Value) = (.int .i64 n31)) <|
                                                      WR (Addr.add ⟨B133, 0, none⟩ 0) (.int .i64 (IntKind.wrap .i64 (1 + (Int.tmod (IntKind.wrap .i64 n11) n31)))) <|
                                                        J_law10_RankNeed_6 W R B13 (some ⟨B32, 0, none⟩) (some ⟨B137, 0, none⟩) (some ⟨B133, 0, none⟩) n12],
                  NEWZ Pg 3 fun B144 =>
                    ANDS (RDI .i64 (Addr.add ⟨B13, 0, none⟩ 0) fun n145 =>
                      fun _ => ((.int .i64 n145) : Value) = (.int .i64 n31)) <|
                      ANDS (RDI .i64 (Addr.add ⟨B13, 0, none⟩ 1) fun n146 =>
                        fun _ => ((.int .i64 n146) : Value) = (.int .i64 n30)) <|
                        ANDS (RDI .i64 (Addr.add ⟨B13, 0, none⟩ 0) fun n147 =>
                          fun _ => ((.int .i64 n147) : Value) = (.int .i64 n29)) <|
                          CONJ [
                            NEWZ Pg 3 fun B148 =>
                              ANDS (RDI .i64 (Addr.add ⟨B13, 0, none⟩ 0) fun n149 =>
                                fun _ => ((.int .i64 n149) : Value) = (.int .i64 n31)) <|
                                ANDS (RDI .i64 (Addr.add ⟨B13, 0, none⟩ 1) fun n150 =>
                                  fun _ => ((.int .i64 n150) : Value) = (.int .i64 n30)) <|
                                  ANDS (RDI .i64 (Addr.add ⟨B13, 0, none⟩ 0) fun n151 =>
                                    fun _ => ((.int .i64 n151) : Value) = (.int .i64 n29)) <|
                                    NEWZ Pg 3 fun B152 =>
                                      ANDS (RDI .i64 (Addr.add ⟨B13, 0, none⟩ 0) fun n153 =>
                                        fun _ => ((.int .i64 n153) : Value) = (.int .i64 n31)) <|
                                        ANDS (RDI .i64 (Addr.add ⟨B13, 0, none⟩ 1) fun n154 =>
                                          fun _ => ((.int .i64 n154) : Value) = (.int .i64 n30)) <|
                                          ANDS (RDI .i64 (Addr.add ⟨B13, 0, none⟩ 0) fun n155 =>
                                            fun _ => ((.int .i64 n155) : Value) = (.int .i64 n29)) <|
                                            WR (Addr.add ⟨B148, 0, none⟩ 0) (.int .i64 (Int.tmod (IntKind.wrap .i64 n9) n29)) <|
                                              ANDS (RDI .i64 (Addr.add ⟨B13, 0, none⟩ 0) fun n156 =>
                                                fun _ => ((.int .i64 n156) : Value) = (.int .i64 n31)) <|
                                                ANDS (RDI .i64 (Addr.add ⟨B13, 0, none⟩ 1) fun n157 =>
                                                  fun _ => ((.int .i64 n157) : Value) = (.int .i64 n30)) <|
                                                  WR (Addr.add ⟨B144, 0, none⟩ 0) (.int .i64 (Int.tmod (IntKind.wrap .i64 n10) n30)) <|
                                                    ANDS (RDI .i64 (Addr.add ⟨B13, 0, none⟩ 0) fun n158 =>
                                                      fun _ => ((.int .i64 n158) : Value) = (.int .i64 n31)) <|
                                                      WR (Addr.add ⟨B152, 0, none⟩ 0) (.int .i64 (IntKind.wrap .i64 (1 + (Int.tmod (IntKind.wrap .i64 n11) n31)))) <|
                                                        J_law10_RankNeed_6 W R B13 (some ⟨B148, 0, none⟩) (some ⟨B144, 0, none⟩) (some ⟨B152, 0, none⟩) n12,
                            NEWZ Pg 3 fun B159 =>
                              ANDS (RDI .i64 (Addr.add ⟨B13, 0, none⟩ 0) fun n160 =>
                                fun _ => ((.int .i64 n160) : Value) = (.int .i64 n31)) <|
                                ANDS (RDI .i64 (Addr.add ⟨B13, 0, none⟩ 1) fun n161 =>
                                  fun _ => ((.int .i64 n161) : Value) = (.int .i64 n30)) <|
                                  ANDS (RDI .i64 (Addr.add ⟨B13, 0, none⟩ 0) fun n162 =>
                                    fun _ => ((.int .i64 n162) : Value) = (.int .i64 n29)) <|
                                    NEWZ Pg 3 fun B163 =>
                                      ANDS (RDI .i64 (Addr.add ⟨B13, 0, none⟩ 0) fun n164 =>
                                        fun _ => ((.int .i64 n164) : Value) = (.int .i64 n31)) <|
                                        ANDS (RDI .i64 (Addr.add ⟨B13, 0, none⟩ 1) fun n165 =>
                                          fun _ => ((.int .i64 n165) : Value) = (.int .i64 n30)) <|
                                          ANDS (RDI .i64 (Addr.add ⟨B13, 0, none⟩ 0) fun n166 =>
                                            fun _ => ((.int .i64 n166) : Value) = (.int .i64 n29)) <|
                                            WR (Addr.add ⟨B163, 0, none⟩ 0) (.int .i64 (Int.tmod (IntKind.wrap .i64 n9) n29)) <|
                                              ANDS (RDI .i64 (Addr.add ⟨B13, 0, none⟩ 0) fun n167 =>
                                                fun _ => ((.int .i64 n167) : Value) = (.int .i64 n31)) <|
                                                ANDS (RDI .i64 (Addr.add ⟨B13, 0, none⟩ 1) fun n168 =>
                                                  fun _ => ((.int .i64 n168) : Value) = (.int .i64 n30)) <|
                                                  WR (Addr.add ⟨B144, 0, none⟩ 0) (.int .i64 (Int.tmod (IntKind.wrap .i64 n10) n30)) <|
                                                    ANDS (RDI .i64 (Addr.add ⟨B13, 0, none⟩ 0) fun n169 =>
                                                      fun _ => ((.int .i64 n169) : Value) = (.int .i64 n31)) <|
                                                      WR (Addr.add ⟨B159, 0, none⟩ 0) (.int .i64 (IntKind.wrap .i64 (1 + (Int.tmod (IntKind.wrap .i64 n11) n31)))) <|
                                                        J_law10_RankNeed_6 W R B13 (some ⟨B163, 0, none⟩) (some ⟨B144, 0, none⟩) (some ⟨B159, 0, none⟩) n12],
                  NEWZ Pg 3 fun B170 =>
                    ANDS (RDI .i64 (Addr.add ⟨B13, 0, none⟩ 0) fun n171 =>
                      fun _ => ((.int .i64 n171) : Value) = (.int .i64 n31)) <|
                      ANDS (RDI .i64 (Addr.add ⟨B13, 0, none⟩ 1) fun n172 =>
                        fun _ => ((.int .i64 n172) : Value) = (.int .i64 n30)) <|
                        ANDS (RDI .i64 (Addr.add ⟨B13, 0, none⟩ 0) fun n173 =>
                          fun _ => ((.int .i64 n173) : Value) = (.int .i64 n29)) <|
                          CONJ [
                            NEWZ Pg 3 fun B174 =>
                              ANDS (RDI .i64 (Addr.add ⟨B13, 0, none⟩ 0) fun n175 =>
                                fun _ => ((.int .i64 n175) : Value) = (.int .i64 n31)) <|
                                ANDS (RDI .i64 (Addr.add ⟨B13, 0, none⟩ 1) fun n176 =>
                                  fun _ => ((.int .i64 n176) : Value) = (.int .i64 n30)) <|
                                  ANDS (RDI .i64 (Addr.add ⟨B13, 0, none⟩ 0) fun n177 =>
                                    fun _ => ((.int .i64 n177) : Value) = (.int .i64 n29)) <|
                                    NEWZ Pg 3 fun B178 =>
                                      ANDS (RDI .i64 (Addr.add ⟨B13, 0, none⟩ 0) fun n179 =>
                                        fun _ => ((.int .i64 n179) : Value) = (.int .i64 n31)) <|
                                        ANDS (RDI .i64 (Addr.add ⟨B13, 0, none⟩ 1) fun n180 =>
                                          fun _ => ((.int .i64 n180) : Value) = (.int .i64 n30)) <|
                                          ANDS (RDI .i64 (Addr.add ⟨B13, 0, none⟩ 0) fun n181 =>
                                            fun _ => ((.int .i64 n181) : Value) = (.int .i64 n29)) <|
                                            WR (Addr.add ⟨B174, 0, none⟩ 0) (.int .i64 (Int.tmod (IntKind.wrap .i64 n9) n29)) <|
                                              ANDS (RDI .i64 (Addr.add ⟨B13, 0, none⟩ 0) fun n182 =>
                                                fun _ => ((.int .i64 n182) : Value) = (.int .i64 n31)) <|
                                                ANDS (RDI .i64 (Addr.add ⟨B13, 0, none⟩ 1) fun n183 =>
                                                  fun _ => ((.int .i64 n183) : Value) = (.int .i64 n30)) <|
                                                  WR (Addr.add ⟨B178, 0, none⟩ 0) (.int .i64 (Int.tmod (IntKind.wrap .i64 n10) n30)) <|
                                                    ANDS (RDI .i64 (Addr.add ⟨B13, 0, none⟩ 0) fun n184 =>
                                                      fun _ => ((.int .i64 n184) : Value) = (.int .i64 n31)) <|
                                                      WR (Addr.add ⟨B170, 0, none⟩ 0) (.int .i64 (IntKind.wrap .i64 (1 + (Int.tmod (IntKind.wrap .i64 n11) n31)))) <|
                                                        J_law10_RankNeed_6 W R B13 (some ⟨B174, 0, none⟩) (some ⟨B178, 0, none⟩) (some ⟨B170, 0, none⟩) n12,
                            NEWZ Pg 3 fun B185 =>
                              ANDS (RDI .i64 (Addr.add ⟨B13, 0, none⟩ 0) fun n186 =>
                                fun _ => ((.int .i64 n186) : Value) = (.int .i64 n31)) <|
                                ANDS (RDI .i64 (Addr.add ⟨B13, 0, none⟩ 1) fun n187 =>
                                  fun _ => ((.int .i64 n187) : Value) = (.int .i64 n30)) <|
                                  ANDS (RDI .i64 (Addr.add ⟨B13, 0, none⟩ 0) fun n188 =>
                                    fun _ => ((.int .i64 n188) : Value) = (.int .i64 n29)) <|
                                    NEWZ Pg 3 fun B189 =>
                                      ANDS (RDI .i64 (Addr.add ⟨B13, 0, none⟩ 0) fun n190 =>
                                        fun _ => ((.int .i64 n190) : Value) = (.int .i64 n31)) <|
                                        ANDS (RDI .i64 (Addr.add ⟨B13, 0, none⟩ 1) fun n191 =>
                                          fun _ => ((.int .i64 n191) : Value) = (.int .i64 n30)) <|
                                          ANDS (RDI .i64 (Addr.add ⟨B13, 0, none⟩ 0) fun n192 =>
                                            fun _ => ((.int .i64 n192) : Value) = (.int .i64 n29)) <|
                                            WR (Addr.add ⟨B189, 0, none⟩ 0) (.int .i64 (Int.tmod (IntKind.wrap .i64 n9) n29)) <|
                                              ANDS (RDI .i64 (Addr.add ⟨B13, 0, none⟩ 0) fun n193 =>
                                                fun _ => ((.int .i64 n193) : Value) = (.int .i64 n31)) <|
                                                ANDS (RDI .i64 (Addr.add ⟨B13, 0, none⟩ 1) fun n194 =>
                                                  fun _ => ((.int .i64 n194) : Value) = (.int .i64 n30)) <|
                                                  WR (Addr.add ⟨B185, 0, none⟩ 0) (.int .i64 (Int.tmod (IntKind.wrap .i64 n10) n30)) <|
                                                    ANDS (RDI .i64 (Addr.add ⟨B13, 0, none⟩ 0) fun n195 =>
                                                      fun _ => ((.int .i64 n195) : Value) = (.int .i64 n31)) <|
                                                      WR (Addr.add ⟨B170, 0, none⟩ 0) (.int .i64 (IntKind.wrap .i64 (1 + (Int.tmod (IntKind.wrap .i64 n11) n31)))) <|
                                                        J_law10_RankNeed_6 W R B13 (some ⟨B189, 0, none⟩) (some ⟨B185, 0, none⟩) (some ⟨B170, 0, none⟩) n12]])
def J_law10_RankNeed_8 (W : World) (R : Ending → Hp → Prop) (b232 : Bool) (za0 : Addr) (zp1 : Option Addr) (zp2 : Option Addr) (za3 : Addr) (nx0 : List Value → Hp → Prop) (b207 : Bool) (n208 : Int) : Hp → Prop :=
  BR b232
    (R (.returned (.bool false)))
    (NX [(.pointer (some za0)), (.pointer zp1), (.pointer zp2), (.slice (some za3) 2 2), (.int .i64 2), (.tuple #[])] [(.pointer (some za0)), (.pointer zp1), (.pointer zp2), (.slice (some za3) 2 2), (.int .i64 2), (.tuple #[])] (nx0 [(.bool b207), (.int .i64 (IntKind.wrap .i64 (n208 + 1)))]))
def B_law10_RankNeed_0 (W : World) (R : Ending → Hp → Prop) (za0 : Addr) (zp1 : Option Addr) (zp2 : Option Addr) (za3 : Addr) (b207 : Bool) (n208 : Int) (nx0 : List Value → Hp → Prop) : Hp → Prop :=
  BR (decide (n208 < 2))
    (IXS (some za3) 2 n208 1 fun a209 =>
      RDI .i64 a209 fun n210 =>
        RDI .i64 (Addr.add za0 0) fun n211 =>
          RDI .i64 (Addr.add za0 1) fun n212 =>
            RDL (Addr.add za0 2) fun x213 l214 c215 =>
              RDL (Addr.add za0 3) fun x216 l217 c218 =>
                SO zp1 fun a219 =>
                  RDI .i64 a219 fun n220 =>
                    SO zp2 fun a221 =>
                      RDI .i64 a221 fun n222 =>
                        CALL Pg W F_rank_Need [(.agg #[(.int .i64 n211), (.int .i64 n212), (.slice x213 l214 c215), (.slice x216 l217 c218)]), (.int .i64 n220), (.int .i64 n222), (.int .i64 n210)]
                          (fun v223 => TUP v223 fun q225 => HD q225 fun v226 r227 => TYI .i64 v226 fun n228 =>
                            HD r227 fun v229 r230 => TYI .i64 v229 fun n231 =>
                              NL r230 <|
                                BR (n228 != 0)
                                  (J_law10_RankNeed_8 W R true za0 zp1 zp2 za3 nx0 b207 n208)
                                  (J_law10_RankNeed_8 W R (n231 != 2) za0 zp1 zp2 za3 nx0 b207 n208))
                            (fun e224 => R (.panicked e224)))
    (CALL Pg W F_law10_awake []
      (fun v233 => TYB v233 fun b235 =>
        R (.returned (.bool b235)))
        (fun e234 => R (.panicked e234)))
theorem B_law10_RankNeed_0_eq (W : World) (R : Ending → Hp → Prop) (za0 : Addr) (zp1 : Option Addr) (zp2 : Option Addr) (za3 : Addr) (b207 : Bool) (n208 : Int) (nx0 : List Value → Hp → Prop) (j : Tm) : vc Pg W 157 rs_9 an_9 false (sub (bodyOf Try.f9) [1, 1, 1, 1, 1, 1, 1, 1, 0, 1, 0, 0]) 0 (KLoop [10, 137] [5, 11, 12, 135, 136, 157] [(.pointer (some za0)), (.pointer zp1), (.pointer zp2), (.slice (some za3) 2 2), (.int .i64 2), (.tuple #[])] nx0 (KBlk 0 (KS Pg W 157 rs_9 an_9 false (sub (bodyOf Try.f9) [1, 1, 1, 1, 1, 1, 1, 1, 1]) 0 (fin Pg W 157 rv_9 R)))) (known [10, 137] [(.bool b207), (.int .i64 n208)] (known [5, 11, 12, 135, 136, 157] [(.pointer (some za0)), (.pointer zp1), (.pointer zp2), (.slice (some za3) 2 2), (.int .i64 2), (.tuple #[])] j)) = B_law10_RankNeed_0 W R za0 zp1 zp2 za3 b207 n208 nx0 := by kernel_rfl
def N_law10_RankNeed_0 (I : Bool → Int → Hp → Prop) (μ : Bool → Int → Hp → Nat) (b2070 : Bool) (n2080 : Int) (s : Hp) (vs : List Value) : Hp → Prop := fun s' => ∃ b207 n208, vs = [(.bool b207), (.int .i64 n208)] ∧ I b207 n208 s' ∧ μ b207 n208 s' < μ b2070 n2080 s
theorem L_law10_RankNeed_0_rule (W : World) (R : Ending → Hp → Prop) (za0 : Addr) (zp1 : Option Addr) (zp2 : Option Addr) (za3 : Addr) (I : Bool → Int → Hp → Prop) (μ : Bool → Int → Hp → Nat) (b2070 : Bool) (n2080 : Int) (s : Hp) (h0 : I b2070 n2080 s)
    (hr : ∀ (b207 : Bool) (n208 : Int) (s : Hp), I b207 n208 s → B_law10_RankNeed_0 W R za0 zp1 zp2 za3 b207 n208 (fun vs => N_law10_RankNeed_0 I μ b207 n208 s vs) s) : L_law10_RankNeed_0 W R za0 zp1 zp2 za3 b2070 n2080 s := by
  refine ⟨fun vs s => ∃ b207 n208, vs = [(.bool b207), (.int .i64 n208)] ∧ I b207 n208 s, fun vs s => (match vs with | [.bool b207, .int _ n208] => μ b207 n208 s | _ => 0), ⟨⟨⟨_, rfl⟩, ⟨⟨_, rfl⟩, trivial⟩⟩, ⟨_, _, rfl, h0⟩⟩, ?_⟩
  intro b207 n208 s hI j
  obtain ⟨b207', n208', hy, hI⟩ := hI
  have hI' : I b207 n208 s := by cases hy; exact hI
  have hh := hr b207 n208 s hI'
  rw [← B_law10_RankNeed_0_eq W R za0 zp1 zp2 za3 b207 n208 _ j] at hh
  refine vc_mono ?_ _ _ hh
  exact KLoop_mono (fun vs s' h => by obtain ⟨b2071, n2081, rfl, h1, h2⟩ := h; exact ⟨⟨⟨_, rfl⟩, ⟨⟨_, rfl⟩, trivial⟩⟩, ⟨_, _, rfl, h1⟩, h2⟩)
def T_law10_RankNeed (W : World) (n1 : Int) (n2 : Int) (x3 : Option Addr) (l4 : Nat) (c5 : Nat) (x6 : Option Addr) (l7 : Nat) (c8 : Nat) (n9 : Int) (n10 : Int) (n11 : Int) (n12 : Int) (R : Ending → Hp → Prop) : Hp → Prop :=
  NEW 25 [(.int .i64 n1), (.int .i64 n2), (.slice x3 l4 c5), (.slice x6 l7 c8)] fun B13 =>
    RDI .i64 (Addr.add ⟨B13, 0, none⟩ 0) fun n14 =>
      RDI .i64 (Addr.add ⟨B13, 0, none⟩ 1) fun n15 =>
        RDL (Addr.add ⟨B13, 0, none⟩ 2) fun x16 l17 c18 =>
          RDL (Addr.add ⟨B13, 0, none⟩ 3) fun x19 l20 c21 =>
            CALL Pg W F_law10_far [(.agg #[(.int .i64 n14), (.int .i64 n15), (.slice x16 l17 c18), (.slice x19 l20 c21)])]
              (fun v22 => TYB v22 fun b24 =>
                BR b24
                  (J_law10_RankNeed_7 W R true B13 n9 n10 n11 n12)
                  (RDI .i64 (Addr.add ⟨B13, 0, none⟩ 0) fun n196 =>
                    RDI .i64 (Addr.add ⟨B13, 0, none⟩ 1) fun n197 =>
                      RDL (Addr.add ⟨B13, 0, none⟩ 2) fun x198 l199 c200 =>
                        RDL (Addr.add ⟨B13, 0, none⟩ 3) fun x201 l202 c203 =>
                          CALL Pg W F_ref10_Table [(.agg #[(.int .i64 n196), (.int .i64 n197), (.slice x198 l199 c200), (.slice x201 l202 c203)])]
                            (fun v204 => TYB v204 fun b206 =>
                              J_law10_RankNeed_7 W R (!b206) B13 n9 n10 n11 n12)
                              (fun e205 => R (.panicked e205))))
                (fun e23 => R (.panicked e23))
theorem T_law10_RankNeed_eq (W : World) (n1 : Int) (n2 : Int) (x3 : Option Addr) (l4 : Nat) (c5 : Nat) (x6 : Option Addr) (l7 : Nat) (c8 : Nat) (n9 : Int) (n10 : Int) (n11 : Int) (n12 : Int) (R : Ending → Hp → Prop) : vfun Pg W an_9 Try.f9 [(.agg #[(.int .i64 n1), (.int .i64 n2), (.slice x3 l4 c5), (.slice x6 l7 c8)]), (.int .u8 n9), (.int .u8 n10), (.int .u8 n11), (.int .u8 n12)] R = T_law10_RankNeed W n1 n2 x3 l4 c5 x6 l7 c8 n9 n10 n11 n12 R := by kernel_rfl
theorem does_law10_RankNeed (W : World) (n1 : Int) (n2 : Int) (x3 : Option Addr) (l4 : Nat) (c5 : Nat) (x6 : Option Addr) (l7 : Nat) (c8 : Nat) (n9 : Int) (n10 : Int) (n11 : Int) (n12 : Int) (R : Ending → Hp → Prop) (s : Hp) (h : T_law10_RankNeed W n1 n2 x3 l4 c5 x6 l7 c8 n9 n10 n11 n12 R s) : Does Pg W F_law10_RankNeed #[(.agg #[(.int .i64 n1), (.int .i64 n2), (.slice x3 l4 c5), (.slice x6 l7 c8)]), (.int .u8 n9), (.int .u8 n10), (.int .u8 n11), (.int .u8 n12)] s R :=
  does_of_vfun Pg W an_9 Try.func9 rfl (by kernel_rfl) (by rw [T_law10_RankNeed_eq]; exact h)
def an_41 : Nat → Ann := fun b => match b with
  | _ => {}
abbrev rv_41 : List ResultVar := [.tmp 6]
abbrev rs_41 : List Nat := [27, 6]
def T_law10_RankNeed_c1 (W : World) (n1 : Int) (a2 : Addr) (a3 : Addr) (a4 : Addr) (a5 : Addr) (R : Ending → Hp → Prop) : Hp → Prop :=
  RDI .i64 (Addr.add a2 0) fun n6 =>
    RDI .i64 (Addr.add a2 1) fun n7 =>
      RDL (Addr.add a2 2) fun x8 l9 c10 =>
        RDL (Addr.add a2 3) fun x11 l12 c13 =>
          RDI .i64 a3 fun n14 =>
            RDI .i64 a4 fun n15 =>
              RDI .i64 a3 fun n16 =>
                CONJ [
                  CALL Pg W F_ref10_With [(.agg #[(.int .i64 n6), (.int .i64 n7), (.slice x8 l9 c10), (.slice x11 l12 c13)]), (.int .i64 n14), (.int .i64 n15), (.int .i64 n1)]
                    (fun v17 => AGG v17 fun q19 => HD q19 fun v20 r21 => TYI .i64 v20 fun n22 =>
                      HD r21 fun v23 r24 => TYI .i64 v23 fun n25 =>
                        HD r24 fun v26 r27 => TYL v26 fun x28 l29 c30 =>
                          HD r27 fun v31 r32 => TYL v31 fun x33 l34 c35 =>
                            NL r32 <|
                              ANDS (RDI .i64 a3 fun n36 =>
                                fun _ => ((.int .i64 n36) : Value) = (.int .i64 n16)) <|
                                CONJ [
                                  CALL Pg W F_rank_Place [(.agg #[(.int .i64 n22), (.int .i64 n25), (.slice x28 l29 c30), (.slice x33 l34 c35)]), (.int .i64 n16)]
                                    (fun v37 => TUP v37 fun q39 => HD q39 fun v40 r41 => AGG v40 fun q42 => HD q42 fun v43 r44 => TYI .i64 v43 fun n45 =>
                                      HD r44 fun v46 r47 => TYI .i64 v46 fun n48 =>
                                        NL r47 <|
                                          HD r41 fun v49 r50 => TYI .i64 v49 fun n51 =>
                                            NL r50 <|
                                              NEWZ Pg 29 fun B52 =>
                                                ANDS (RDI .i64 a3 fun n53 =>
                                                  fun _ => ((.int .i64 n53) : Value) = (.int .i64 n16)) <|
                                                  ANDS (RDI .i64 a4 fun n54 =>
                                                    fun _ => ((.int .i64 n54) : Value) = (.int .i64 n15)) <|
                                                    ANDS (RDI .i64 a3 fun n55 =>
                                                      fun _ => ((.int .i64 n55) : Value) = (.int .i64 n14)) <|
                                                      ANDS (RDI .i64 (Addr.add a2 0) fun n56 =>
                                                        RDI .i64 (Addr.add a2 1) fun n57 =>
                                                          RDL (Addr.add a2 2) fun x58 l59 c60 =>
                                                            RDL (Addr.add a2 3) fun x61 l62 c63 =>
                                                              fun _ => ((.agg #[(.int .i64 n56), (.int .i64 n57), (.slice x58 l59 c60), (.slice x61 l62 c63)]) : Value) = (.agg #[(.int .i64 n6), (.int .i64 n7), (.slice x8 l9 c10), (.slice x11 l12 c13)])) <|
                                                        WR (Addr.add ⟨B52, 0, none⟩ 0) (.int .i64 n45) <|
                                                          WR (Addr.add ⟨B52, 0, none⟩ 1) (.int .i64 n48) <|
                                                            BR (n51 == 0)
                                                              (RDI .i64 (Addr.add ⟨B52, 0, none⟩ 1) fun n64 =>
                                                                RDI .i64 a5 fun n65 =>
                                                                  R (.returned (.bool (decide (n64 ≤ n65)))))
                                                              (R (.returned (.bool false))))
                                      (fun e38 => R (.panicked e38)),
                                  NEWZ Pg 29 fun B66 =>
                                    ANDS (RDI .i64 a3 fun n67 =>
                                      fun _ => ((.int .i64 n67) : Value) = (.int .i64 n16)) <|
                                      ANDS (RDI .i64 a4 fun n68 =>
                                        fun _ => ((.int .i64 n68) : Value) = (.int .i64 n15)) <|
                                        ANDS (RDI .i64 a3 fun n69 =>
                                          fun _ => ((.int .i64 n69) : Value) = (.int .i64 n14)) <|
                                          ANDS (RDI .i64 (Addr.add a2 0) fun n70 =>
                                            RDI .i64 (Addr.add a2 1) fun n71 =>
                                              RDL (Addr.add a2 2) fun x72 l73 c74 =>
                                                RDL (Addr.add a2 3) fun x75 l76 c77 =>
                                                  fun _ => ((.agg #[(.int .i64 n70), (.int .i64 n71), (.slice x72 l73 c74), (.slice x75 l76 c77)]) : Value) = (.agg #[(.int .i64 n6), (.int .i64 n7), (.slice x8 l9 c10), (.slice x11 l12 c13)])) <|
                                            CALL Pg W F_rank_Place [(.agg #[(.int .i64 n22), (.int .i64 n25), (.slice x28 l29 c30), (.slice x33 l34 c35)]), (.int .i64 n16)]
                                              (fun v78 => TUP v78 fun q80 => HD q80 fun v81 r82 => AGG v81 fun q83 => HD q83 fun v84 r85 => TYI .i64 v84 fun n86 =>
                                                HD r85 fun v87 r88 => TYI .i64 v87 fun n89 =>
                                                  NL r88 <|
                                                    HD r82 fun v90 r91 => TYI .i64 v90 fun n92 =>
                                                      NL r91 <|
                                                        WR (Addr.add ⟨B66, 0, none⟩ 0) (.int .i64 n86) <|
                                                          WR (Addr.add ⟨B66, 0, none⟩ 1) (.int .i64 n89) <|
                                                            BR (n92 == 0)
                                                              (RDI .i64 (Addr.add ⟨B66, 0, none⟩ 1) fun n93 =>
                                                                RDI .i64 a5 fun n94 =>
                                                                  R (.returned (.bool (decide (n93 ≤ n94)))))
                                                              (R (.returned (.bool false))))
                                                (fun e79 => R (.panicked e79))])
                      (fun e18 => R (.panicked e18)),
                  NEWZ Pg 29 fun B95 =>
                    ANDS (RDI .i64 a3 fun n96 =>
                      fun _ => ((.int .i64 n96) : Value) = (.int .i64 n16)) <|
                      ANDS (RDI .i64 a4 fun n97 =>
                        fun _ => ((.int .i64 n97) : Value) = (.int .i64 n15)) <|
                        ANDS (RDI .i64 a3 fun n98 =>
                          fun _ => ((.int .i64 n98) : Value) = (.int .i64 n14)) <|
                          ANDS (RDI .i64 (Addr.add a2 0) fun n99 =>
                            RDI .i64 (Addr.add a2 1) fun n100 =>
                              RDL (Addr.add a2 2) fun x101 l102 c103 =>
                                RDL (Addr.add a2 3) fun x104 l105 c106 =>
                                  fun _ => ((.agg #[(.int .i64 n99), (.int .i64 n100), (.slice x101 l102 c103), (.slice x104 l105 c106)]) : Value) = (.agg #[(.int .i64 n6), (.int .i64 n7), (.slice x8 l9 c10), (.slice x11 l12 c13)])) <|
                            CALL Pg W F_ref10_With [(.agg #[(.int .i64 n6), (.int .i64 n7), (.slice x8 l9 c10), (.slice x11 l12 c13)]), (.int .i64 n14), (.int .i64 n15), (.int .i64 n1)]
                              (fun v107 => AGG v107 fun q109 => HD q109 fun v110 r111 => TYI .i64 v110 fun n112 =>
                                HD r111 fun v113 r114 => TYI .i64 v113 fun n115 =>
                                  HD r114 fun v116 r117 => TYL v116 fun x118 l119 c120 =>
                                    HD r117 fun v121 r122 => TYL v121 fun x123 l124 c125 =>
                                      NL r122 <|
                                        ANDS (RDI .i64 a3 fun n126 =>
                                          fun _ => ((.int .i64 n126) : Value) = (.int .i64 n16)) <|
                                          CALL Pg W F_rank_Place [(.agg #[(.int .i64 n112), (.int .i64 n115), (.slice x118 l119 c120), (.slice x123 l124 c125)]), (.int .i64 n16)]
                                            (fun v127 => TUP v127 fun q129 => HD q129 fun v130 r131 => AGG v130 fun q132 => HD q132 fun v133 r134 => TYI .i64 v133 fun n135 =>
                                              HD r134 fun v136 r137 => TYI .i64 v136 fun n138 =>
                                                NL r137 <|
                                                  HD r131 fun v139 r140 => TYI .i64 v139 fun n141 =>
                                                    NL r140 <|
                                                      WR (Addr.add ⟨B95, 0, none⟩ 0) (.int .i64 n135) <|
                                                        WR (Addr.add ⟨B95, 0, none⟩ 1) (.int .i64 n138) <|
                                                          BR (n141 == 0)
                                                            (RDI .i64 (Addr.add ⟨B95, 0, none⟩ 1) fun n142 =>
                                                              RDI .i64 a5 fun n143 =>
                                                                R (.returned (.bool (decide (n142 ≤ n143)))))
                                                            (R (.returned (.bool false))))
                                              (fun e128 => R (.panicked e128)))
                                (fun e108 => R (.panicked e108))]
theorem T_law10_RankNeed_c1_eq (W : World) (n1 : Int) (a2 : Addr) (a3 : Addr) (a4 : Addr) (a5 : Addr) (R : Ending → Hp → Prop) : vfun Pg W an_41 Try.f41 [(.int .i64 n1), (.pointer (some a2)), (.pointer (some a3)), (.pointer (some a4)), (.pointer (some a5))] R = T_law10_RankNeed_c1 W n1 a2 a3 a4 a5 R := by kernel_rfl
theorem does_law10_RankNeed_c1 (W : World) (n1 : Int) (a2 : Addr) (a3 : Addr) (a4 : Addr) (a5 : Addr) (R : Ending → Hp → Prop) (s : Hp) (h : T_law10_RankNeed_c1 W n1 a2 a3 a4 a5 R s) : Does Pg W F_law10_RankNeed_c1 #[(.int .i64 n1), (.pointer (some a2)), (.pointer (some a3)), (.pointer (some a4)), (.pointer (some a5))] s R :=
  does_of_vfun Pg W an_41 Try.func41 rfl (by kernel_rfl) (by rw [T_law10_RankNeed_c1_eq]; exact h)
end Go.Proofs.Ytkgcbfbbcaajpaa.G

/- Rank: how many points are enough. -/
set_option linter.unusedSimpArgs false
set_option linter.unusedVariables false
set_option maxRecDepth 20000
namespace Go.Proofs.Ytkgcbfbbcaajpaa.G
open Go.V
theorem findA_put_ne {k x : Int × Int} (hx : x ≠ k) {v : Int × Int} : ∀ (l : List Pr), (findA x (l ++ [(k, v)]) 0).map (·.2) = (findA x l 0).map (·.2) := by
  intro l
  rw [findA_find, findA_find, List.find?_append]
  have : ([(k, v)] : List Pr).find? (fun y => decide (y.1 = x)) = none := by simp; exact fun h => hx h.symm
  rw [this]; simp
theorem find_set_ne {k x : Int × Int} (hx : x ≠ k) {v : Int × Int} : ∀ (l : List Pr) (i : Nat) (h : i < l.length), l[i].1 = k → (l.set i (k, v)).find? (fun y => decide (y.1 = x)) = l.find? (fun y => decide (y.1 = x))
  | [], i, h, _ => by simp at h
  | y :: l, 0, h, e => by
    have e' : y.1 = k := e
    rw [List.set_cons_zero, List.find?_cons, List.find?_cons, show decide (((k, v) : Pr).1 = x) = false from decide_eq_false fun hh => hx hh.symm, show decide (y.1 = x) = false from decide_eq_false fun hh => hx (hh.symm.trans e')]
  | y :: l, i + 1, h, e => by
    rw [List.set_cons_succ, List.find?_cons, List.find?_cons, find_set_ne hx l i (by simpa using h) (by simpa using e)]
theorem pts_put {l : List Pr} {k v : Int × Int} (x : Int × Int) : pts (put l k v) x = if x = k then v else pts l x := by
  by_cases e : x = k
  · subst e
    rw [if_pos rfl]
    obtain ⟨i, h, _⟩ := findA_put (l := l) (k := x) (v := v)
    unfold pts; rw [h]
  · rw [if_neg e]
    unfold put
    cases h : findA k l 0 with
    | none =>
      show pts (l ++ [(k, v)]) x = pts l x
      rw [pts_find, pts_find, ← findA_find _ 0, ← findA_find _ 0, findA_put_ne e]
    | some p =>
      obtain ⟨j, w⟩ := p
      obtain ⟨i, hi, hj, hx⟩ := findA_some l 0 j w h
      show pts (l.set j (k, v)) x = pts l x
      have : j = i := by omega
      subst this
      rw [pts_find, pts_find, find_set_ne e l j hi (by rw [hx])]
theorem with_put {T : Tb} (hok : okT T = true) {a k n : Int} : pts (put (prs T) (a, k) (n, n)) = pts (prs (withT T a k n)) := by
  funext x
  rw [pts_put, withT_pts hok]
theorem enough_eq {T : Tb} (hok : okT T = true) (i k : Nat) (pl q : Int) : enough T i k pl q = decide ((plcT (withT T i k q) i).2 ≤ pl) := by
  unfold enough
  rw [with_put hok]; rfl
theorem with_lo {T : Tb} (hok : okT T = true) {a k : Nat} {n : Int} (o j : Nat) : loP (withT T a k n) o j = (if o = a ∧ j = k then n else loP T o j) ∧ hiP (withT T a k n) o j = (if o = a ∧ j = k then n else hiP T o j) := by
  unfold loP hiP
  rw [withT_pts hok]
  by_cases e : o = a ∧ j = k
  · obtain ⟨rfl, rfl⟩ := e
    rw [if_pos rfl, if_pos ⟨rfl, rfl⟩, if_pos ⟨rfl, rfl⟩]; exact ⟨rfl, rfl⟩
  · rw [if_neg e, if_neg e, if_neg fun h => e (by injection h with h1 h2; omega)]; exact ⟨rfl, rfl⟩
theorem with_top {T : Tb} (hok : okT T = true) {a k : Nat} {n : Int} {o : Nat} (ho : o ≠ a) : topR (withT T a k n) o = topR T o ∧ lowR (withT T a k n) o = lowR T o := by
  rw [topR_hiP, topR_hiP, lowR_loP, lowR_loP]
  exact ⟨rowG_congr fun j _ => by rw [(with_lo hok o j).2, if_neg fun h => ho h.1], rowG_congr fun j _ => by rw [(with_lo hok o j).1, if_neg fun h => ho h.1]⟩
/-- More points are enough, too. -/
theorem enough_more {T : Tb} (hok : okT T = true) {a k : Nat} {p q : Int} (hpq : p ≤ q) : (plcT (withT T a k q) a).2 ≤ (plcT (withT T a k p) a).2 := by
  rw [plcT_eq, plcT_eq]
  have := cntB_mono (f := fun o => canT (withT T a k q) o a) (g := fun o => canT (withT T a k p) o a) T.n fun o _ ho => by
    obtain ⟨h1, h2⟩ := canT_iff.1 ho
    refine canT_iff.2 ⟨h1, ?_⟩
    rw [(with_top hok h1).1] at h2 ⊢
    refine gt_le (by rw [lowR_len, lowR_len]; rfl) h2 ?_
    rw [lowR_loP, lowR_loP]
    refine rowG_le (fun j _ => ?_) (Int.le_refl _)
    rw [(with_lo hok a j).1, (with_lo hok a j).1]
    split <;> omega
  show (1 : Int) + _ ≤ 1 + _
  have e : (withT T a k q).n = T.n := rfl
  have e' : (withT T a k p).n = T.n := rfl
  rw [e, e']
  omega
theorem needG_some {f : Int → Bool} : ∀ (c : Nat) (q r : Int), needG f c q = some r → q ≤ r ∧ r < q + c ∧ f r = true ∧ ∀ j, q ≤ j → j < r → f j = false
  | 0, q, r, h => by cases h
  | c + 1, q, r, h => by
    unfold needG at h
    by_cases hf : f q = true
    · rw [if_pos hf] at h
      injection h with h
      subst h
      exact ⟨by omega, by omega, hf, fun j h1 h2 => by omega⟩
    · rw [if_neg hf] at h
      obtain ⟨h1, h2, h3, h4⟩ := needG_some c (q + 1) r h
      refine ⟨by omega, by omega, h3, fun j g1 g2 => ?_⟩
      by_cases e : j = q
      · subst e; simpa using hf
      · exact h4 j (by omega) g2
theorem needG_none {f : Int → Bool} : ∀ (c : Nat) (q : Int), needG f c q = none → ∀ j, q ≤ j → j < q + c → f j = false
  | 0, q, h, j, h1, h2 => by omega
  | c + 1, q, h, j, h1, h2 => by
    unfold needG at h
    by_cases hf : f q = true
    · rw [if_pos hf] at h; cases h
    · rw [if_neg hf] at h
      by_cases e : j = q
      · subst e; simpa using hf
      · exact needG_none c (q + 1) h j (by omega) (by omega)
section
variable {W : World} {K : VK} {E : List PanicEntry → Hp → Prop} {s : Hp} {T : Tb}
theorem c_enough {za zm zs zp : Addr} {a k : Nat} {pl n : Int} (hok : okT T = true) (ha : a < T.n) (hk : k < T.m) (h0 : 0 ≤ n) (h40 : n ≤ 40) (hlo : T.off.length ≤ 100000) (ta : TbA s za T) (hm : cellAt s zm = some (.int .i64 a)) (hs : cellAt s zs = some (.int .i64 k)) (hp : cellAt s zp = some (.int .i64 pl))
    (h : ∀ s', Ext s s' → K (.bool (decide ((plcT (withT T a k n) a).2 ≤ pl))) s') :
    CALLV Pg W (.func (.func 41) #[] #[.pointer (some za), .pointer (some zm), .pointer (some zs), .pointer (some zp)]) [.int .i64 n] K E s := by
  refine CALLV_func ?_
  refine does_law10_RankNeed_c1 W n za zm zs zp _ s ?_
  unfold T_law10_RankNeed_c1
  obtain ⟨x, c, y, c', g1, g2, g3, g4, hx, hy⟩ := ta.all
  refine ⟨_, g1, _, g2, _, _, _, g3, _, _, _, g4, _, hm, _, hs, _, hm, ?_⟩
  refine CONJ_more ?_ (CONJ_one ?_)
  · refine f_WithN hok ha hk h0 h40 hx hy fun s1 y1 c1' e1 hok1 hx1 hy1 _ => ?_
    try simp only [TUP_mk, AGG_mk, HD_mk, NL_mk, TYI_mk, TYB_mk, TYP_mk, TYL_mk, TYS_mk, TYM_mk, SO_mk, NX_mk, endK_mk, endK_mk', add_0]
    refine ⟨⟨_, e1.cell hm, rfl⟩, CONJ_more ?_ (CONJ_one ?_)⟩
    · refine c_PlaceN hok1 ha hlo hx1 hy1 fun s2 e2 => ?_
      try simp only [TUP_mk, AGG_mk, HD_mk, NL_mk, TYI_mk, TYB_mk, TYP_mk, TYL_mk, TYS_mk, TYM_mk, SO_mk, NX_mk, endK_mk, endK_mk', add_0]
      refine nz2 zc_29 fun s3 e3 z3 o0 o1 => ?_
      have e13 := e1.trans (e2.trans e3)
      refine ⟨⟨_, e13.cell hm, rfl⟩, ⟨⟨_, e13.cell hs, rfl⟩, ⟨⟨_, e13.cell hm, rfl⟩, ⟨⟨_, e13.cell g1, _, e13.cell g2, _, _, _, e13.cell g3, _, _, _, e13.cell g4, rfl⟩, ?_⟩⟩⟩⟩
      refine wr2 rfl rfl (new2' o0 o1) fun s4 k4 z4 p0 p1 => ?_
      have e4 := ext_kp e13 (Nat.le_trans e1.1 e2.1) k4
      refine BR_tt (beq_self_eq_true _) ?_
      exact ⟨_, p1.cell, _, e4.cell hp, h s4 e4⟩
    · refine nz2 zc_29 fun s3 e3 z3 o0 o1 => ?_
      have e13 := e1.trans e3
      refine ⟨⟨_, e13.cell hm, rfl⟩, ⟨⟨_, e13.cell hs, rfl⟩, ⟨⟨_, e13.cell hm, rfl⟩, ⟨⟨_, e13.cell g1, _, e13.cell g2, _, _, _, e13.cell g3, _, _, _, e13.cell g4, rfl⟩, ?_⟩⟩⟩⟩
      refine c_PlaceN hok1 ha hlo (hx1.ext e3) (hy1.ext e3) fun s2 e2 => ?_
      try simp only [TUP_mk, AGG_mk, HD_mk, NL_mk, TYI_mk, TYB_mk, TYP_mk, TYL_mk, TYS_mk, TYM_mk, SO_mk, NX_mk, endK_mk, endK_mk', add_0]
      refine wr2 rfl rfl (new2' (e2.own o0) (e2.own o1)) fun s4 k4 z4 p0 p1 => ?_
      have e4 := ext_kp (e13.trans e2) e1.1 k4
      refine BR_tt (beq_self_eq_true _) ?_
      exact ⟨_, p1.cell, _, e4.cell hp, h s4 e4⟩
  · refine nz2 zc_29 fun s3 e3 z3 o0 o1 => ?_
    refine ⟨⟨_, e3.cell hm, rfl⟩, ⟨⟨_, e3.cell hs, rfl⟩, ⟨⟨_, e3.cell hm, rfl⟩, ⟨⟨_, e3.cell g1, _, e3.cell g2, _, _, _, e3.cell g3, _, _, _, e3.cell g4, rfl⟩, ?_⟩⟩⟩⟩
    refine f_WithN hok ha hk h0 h40 (hx.ext e3) (hy.ext e3) fun s1 y1 c1' e1 hok1 hx1 hy1 _ => ?_
    try simp only [TUP_mk, AGG_mk, HD_mk, NL_mk, TYI_mk, TYB_mk, TYP_mk, TYL_mk, TYS_mk, TYM_mk, SO_mk, NX_mk, endK_mk, endK_mk', add_0]
    refine ⟨⟨_, e1.cell (e3.cell hm), rfl⟩, ?_⟩
    refine c_PlaceN hok1 ha hlo hx1 hy1 fun s2 e2 => ?_
    try simp only [TUP_mk, AGG_mk, HD_mk, NL_mk, TYI_mk, TYB_mk, TYP_mk, TYL_mk, TYS_mk, TYM_mk, SO_mk, NX_mk, endK_mk, endK_mk', add_0]
    have e12 := e1.trans e2
    refine wr2 rfl rfl (new2' (e12.own o0) (e12.own o1)) fun s4 k4 z4 p0 p1 => ?_
    have e4 := ext_kp (e3.trans e12) (Nat.le_refl _) k4
    refine BR_tt (beq_self_eq_true _) ?_
    exact ⟨_, p1.cell, _, e4.cell hp, h s4 e4⟩
end
end Go.Proofs.Ytkgcbfbbcaajpaa.G

/- Rank: a table with some scores of two ploughmen read. -/
set_option linter.unusedSimpArgs false
set_option linter.unusedVariables false
set_option maxRecDepth 20000
namespace Go.Proofs.Ytkgcbfbbcaajpaa.G
open Go.V
theorem has_i : ∀ w : Nat, w < 1024 → ∀ k : Nat, k < 10 → (andv .i64 (shrv .i64 (w : Int) (k : Int)) 1 == 1) = w.testBit k := by
  have h : ((List.range 1024).all fun (l : Nat) => (List.range 10).all fun (m : Nat) => decide ((andv .i64 (shrv .i64 (l : Int) (m : Int)) 1 == 1) = l.testBit m)) = true := by decide +kernel
  intro w hl m hm
  have h1 := List.all_eq_true.1 h w (by simpa using hl)
  have h2 := List.all_eq_true.1 h1 m (by simpa using hm)
  exact of_decide_eq_true h2
def put1 (X : Tb) (a k : Nat) (f : Option Int) : Tb := match f with | some n => withT X a k n | none => X
/-- Scores of 'a' by 'f', and of 'b' by 'g', one after the other. -/
def readG (T : Tb) (a b : Nat) (f g : Nat → Option Int) : Nat → Tb
  | 0 => T
  | j + 1 => put1 (put1 (readG T a b f g j) a j (f j)) b j (g j)
theorem put1_same (X : Tb) (a k : Nat) (f : Option Int) : (put1 X a k f).men = X.men ∧ (put1 X a k f).sheets = X.sheets ∧ (put1 X a k f).off = X.off := by cases f <;> exact ⟨rfl, rfl, rfl⟩
theorem readG_same (T : Tb) (a b : Nat) (f g : Nat → Option Int) : ∀ j, (readG T a b f g j).men = T.men ∧ (readG T a b f g j).sheets = T.sheets ∧ (readG T a b f g j).off = T.off
  | 0 => ⟨rfl, rfl, rfl⟩
  | j + 1 => by
    obtain ⟨h1, h2, h3⟩ := readG_same T a b f g j
    unfold readG
    obtain ⟨g1, g2, g3⟩ := put1_same (put1 (readG T a b f g j) a j (f j)) b j (g j)
    obtain ⟨k1, k2, k3⟩ := put1_same (readG T a b f g j) a j (f j)
    exact ⟨by rw [g1, k1, h1], by rw [g2, k2, h2], by rw [g3, k3, h3]⟩
theorem same_n {X T : Tb} (h : X.men = T.men) : X.n = T.n := by unfold Tb.n; rw [h]
theorem same_m {X T : Tb} (h : X.sheets = T.sheets) : X.m = T.m := by unfold Tb.m; rw [h]
theorem same_off {X T : Tb} (h : X.off = T.off) (i : Nat) : offT X i = offT T i := by unfold offT; rw [h]
theorem put1_ok {X : Tb} (hok : okT X = true) {a k : Nat} (ha : a < X.n) (hk : k < X.m) {f : Option Int} (hf : ∀ n, f = some n → 0 ≤ n ∧ n ≤ 40) : okT (put1 X a k f) = true := by
  cases f with
  | none => exact hok
  | some n =>
    have hm := sheets_m hok
    have hs : isS X (k : Int) := ⟨by omega, by omega⟩
    exact withT_ok hok (isM_nat hok ha) hs (hf n rfl).1 (hf n rfl).2
theorem put1_lo {X : Tb} (hok : okT X = true) (a k : Nat) (f : Option Int) (o j : Nat) : loP (put1 X a k f) o j = (if o = a ∧ j = k then f.getD (loP X o j) else loP X o j) ∧ hiP (put1 X a k f) o j = (if o = a ∧ j = k then f.getD (hiP X o j) else hiP X o j) := by
  cases f with
  | none => simp [put1]
  | some n => exact with_lo hok o j
section
variable {T : Tb} {a b : Nat} {f g : Nat → Option Int} (hok : okT T = true) (ha : a < T.n) (hb : b < T.n) (hf : ∀ j n, j < T.m → f j = some n → 0 ≤ n ∧ n ≤ 40) (hg : ∀ j n, j < T.m → g j = some n → 0 ≤ n ∧ n ≤ 40)
include hok ha hb hf hg
theorem readG_ok : ∀ j, j ≤ T.m → okT (readG T a b f g j) = true
  | 0, _ => hok
  | j + 1, h => by
    have ih := readG_ok j (by omega)
    obtain ⟨h1, h2, h3⟩ := readG_same T a b f g j
    obtain ⟨k1, k2, k3⟩ := put1_same (readG T a b f g j) a j (f j)
    have i1 := put1_ok ih (a := a) (k := j) (by rw [same_n h1]; exact ha) (by rw [same_m h2]; omega) (f := f j) fun n hn => hf j n (by omega) hn
    exact put1_ok i1 (a := b) (k := j) (by rw [same_n (k1.trans h1)]; exact hb) (by rw [same_m (k2.trans h2)]; omega) fun n hn => hg j n (by omega) hn
theorem readG_lo (hab : a ≠ b) : ∀ j, j ≤ T.m → ∀ o k, loP (readG T a b f g j) o k = (if o = a ∧ k < j then (f k).getD (loP T o k) else if o = b ∧ k < j then (g k).getD (loP T o k) else loP T o k) ∧ hiP (readG T a b f g j) o k = (if o = a ∧ k < j then (f k).getD (hiP T o k) else if o = b ∧ k < j then (g k).getD (hiP T o k) else hiP T o k)
  | 0, _, o, k => by simp [readG]
  | j + 1, h, o, k => by
    have ih := readG_lo hab j (by omega)
    have o0 := readG_ok hok ha hb hf hg j (by omega)
    obtain ⟨h1, h2, h3⟩ := readG_same T a b f g j
    have i1 := put1_ok o0 (a := a) (k := j) (by rw [same_n h1]; exact ha) (by rw [same_m h2]; omega) (f := f j) fun n hn => hf j n (by omega) hn
    obtain ⟨p1, p2⟩ := put1_lo i1 b j (g j) o k
    obtain ⟨q1, q2⟩ := put1_lo o0 a j (f j) o k
    obtain ⟨r1, r2⟩ := ih o k
    unfold readG
    rw [p1, p2, q1, q2, r1, r2]
    by_cases e1 : o = a
    · subst e1
      have hb' : ¬ o = b := hab
      by_cases e2 : k = j
      · subst e2; simp [hb']
      · by_cases e3 : k < j
        · simp [hb', e2, e3, show k < j + 1 by omega]
        · simp [hb', e2, e3, show ¬ k < j + 1 by omega]
    · by_cases e4 : o = b
      · subst e4
        by_cases e2 : k = j
        · subst e2; simp [e1]
        · by_cases e3 : k < j
          · simp [e1, e2, e3, show k < j + 1 by omega]
          · simp [e1, e2, e3, show ¬ k < j + 1 by omega]
      · simp [e1, e4]
end
/-! ### A table in a variable -/
structure TbV (s1 s : Hp) (B : Nat) (X : Tb) (xo : Option Addr × Nat) : Prop where
  ext : Ext s1 s
  blk : s1.size ≤ B
  men : Own s ⟨B, 0, none⟩ (.int .i64 X.men)
  sheets : Own s ⟨B, 1, none⟩ (.int .i64 X.sheets)
  off : Own s ⟨B, 2, none⟩ (.slice xo.1 X.off.length xo.2) ∧ RowAt s1 xo.1 (ints X.off)
  sc : ∃ y c, Own s ⟨B, 3, none⟩ (.slice y X.sc.length c) ∧ ScAt s y X.sc
theorem TbV.after {s1 s s' : Hp} {B : Nat} {X : Tb} {xo : Option Addr × Nat} (e : Ext s s') (h : TbV s1 s B X xo) : TbV s1 s' B X xo :=
  ⟨h.ext.trans e, h.blk, e.own h.men, e.own h.sheets, ⟨e.own h.off.1, h.off.2⟩, by obtain ⟨y, c, h1, h2⟩ := h.sc; exact ⟨y, c, e.own h1, h2.ext e⟩⟩
theorem TbV.tbA {s1 s : Hp} {B : Nat} {X : Tb} {xo : Option Addr × Nat} (h : TbV s1 s B X xo) : TbA s ⟨B, 0, none⟩ X :=
  ⟨h.men.cell, h.sheets.cell, ⟨xo.1, xo.2, h.off.1.cell, h.off.2.ext h.ext⟩, by obtain ⟨y, c, h1, h2⟩ := h.sc; exact ⟨y, c, h1.cell, h2⟩⟩
theorem TbV.put {s1 s : Hp} {B c : Nat} {X X' : Tb} {xo : Option Addr × Nat} {y : Option Addr} {K : Hp → Prop} (h : TbV s1 s B X xo) (hox : RowAt s1 xo.1 (ints X'.off)) (hy : ScAt s y X'.sc) (hf : ∀ a, y = some a → a.block ≠ B) (hK : ∀ s', Kp (· = B) s s' → TbV s1 s' B X' xo → K s') :
    (WR (Addr.add ⟨B, 0, none⟩ 0) (.int .i64 X'.men) <| WR (Addr.add ⟨B, 0, none⟩ 1) (.int .i64 X'.sheets) <| WR (Addr.add ⟨B, 0, none⟩ 2) (.slice xo.1 X'.off.length xo.2) <| WR (Addr.add ⟨B, 0, none⟩ 3) (.slice y X'.sc.length c) K) s := by
  obtain ⟨y0, c0, h1, _⟩ := h.sc
  refine wr4 rfl rfl rfl rfl (a := ⟨B, 0, none⟩) (fun j hj => ?_) fun s' k z o0 o1 o2 o3 => ?_
  · match j, hj with
    | 0, _ => exact ⟨_, h.men⟩
    | 1, _ => exact ⟨_, h.sheets⟩
    | 2, _ => exact ⟨_, h.off.1⟩
    | 3, _ => exact ⟨_, h1⟩
  · refine hK s' k ⟨ext_kp h.ext h.blk k, h.blk, o0, o1, ⟨o2, hox⟩, y, c, o3, fun i hi => ?_⟩
    obtain ⟨a, ha, g0, g1, g2, g3⟩ := hy i hi
    have hd : ∀ j, ¬ (((a.add (i * 4)).add j).block = B) := fun j => by rw [add_blk, add_blk]; exact hf a ha
    exact ⟨a, ha, k.cell (hd 0) g0, k.cell (hd 1) g1, k.cell (hd 2) g2, k.cell (hd 3) g3⟩
/-- A copy of a table. -/
theorem tbV_new {s1 s : Hp} {T : Tb} {x y : Option Addr} {c c' : Nat} {K : Nat → Hp → Prop} (e : Ext s1 s) (hx : RowAt s1 x (ints T.off)) (hy : ScAt s y T.sc) (h : ∀ s' B, Ext s s' → s'.size = s.size + 1 → B = s.size → cellAt s' ⟨B, 3, none⟩ = some (.slice y T.sc.length c') → TbV s1 s' B T (x, c) → K B s') :
    NEWZ Pg 25 (fun B => WR (Addr.add ⟨B, 0, none⟩ 0) (.int .i64 T.men) (WR (Addr.add ⟨B, 0, none⟩ 1) (.int .i64 T.sheets) (WR (Addr.add ⟨B, 0, none⟩ 2) (.slice x T.off.length c) (WR (Addr.add ⟨B, 0, none⟩ 3) (.slice y T.sc.length c') (K B))))) s := by
  refine nw4 zc_25 rfl rfl rfl rfl fun s1' e1 z1 o0 o1 o2 o3 => ?_
  exact h s1' s.size e1 z1 rfl o3.cell ⟨e.trans e1, e.1, o0, o1, ⟨o2, hx⟩, y, c', o3, hy.ext e1⟩
section
variable {W : World} {K : VK} {E : List PanicEntry → Hp → Prop} {s s1 : Hp} {T X : Tb} {xo : Option Addr × Nat} {B : Nat}
/-- 'x = With(x, ..)'. -/
theorem with_var {a k : Nat} {n : Int} {y : Option Addr} {c : Nat} {KK : Hp → Prop} {R : Ending → Hp → Prop} (hok : okT X = true) (ha : a < X.n) (hk : k < X.m) (h0 : 0 ≤ n) (h1 : n ≤ 40) (v : TbV s1 s B X xo) (hy : ScAt s y X.sc)
    (hK : ∀ s' t, Ext s t → Kp (· = B) t s' → TbV s1 s' B (withT X a k n) xo → KK s') :
    CALL Pg W F_ref10_With [.agg #[.int .i64 X.men, .int .i64 X.sheets, .slice xo.1 X.off.length xo.2, .slice y X.sc.length c], .int .i64 a, .int .i64 k, .int .i64 n]
      (fun v118 => AGG v118 fun q120 => HD q120 fun v121 r122 => TYI .i64 v121 fun n123 => HD r122 fun v124 r125 => TYI .i64 v124 fun n126 => HD r125 fun v127 r128 => TYL v127 fun x129 l130 c131 => HD r128 fun v132 r133 => TYL v132 fun x134 l135 c136 => NL r133 <|
        WR (Addr.add ⟨B, 0, none⟩ 0) (.int .i64 n123) <| WR (Addr.add ⟨B, 0, none⟩ 1) (.int .i64 n126) <| WR (Addr.add ⟨B, 0, none⟩ 2) (.slice x129 l130 c131) <| WR (Addr.add ⟨B, 0, none⟩ 3) (.slice x134 l135 c136) KK) (fun e => R (.panicked e)) s := by
  refine f_WithN hok ha hk h0 h1 (v.off.2.ext v.ext) hy fun t y' c' e hok' hx' hy' hf => ?_
  try simp only [TUP_mk, AGG_mk, HD_mk, NL_mk, TYI_mk, TYB_mk, TYP_mk, TYL_mk, TYS_mk, TYM_mk, SO_mk, NX_mk, endK_mk, endK_mk', add_0]
  have hBl : B < s.size := v.men.lt
  exact (v.after e).put (X' := withT X a k n) v.off.2 hy' (fun a ha => by have := (hf a ha).1; omega) fun s' k' v' => hK s' t e k' v'
end
end Go.Proofs.Ytkgcbfbbcaajpaa.G

/- Rank: read. -/
set_option linter.unusedSimpArgs false
set_option linter.unusedVariables false
set_option maxRecDepth 20000
namespace Go.Proofs.Ytkgcbfbbcaajpaa.G
open Go.V
def bitO (w j : Nat) (n : Int) : Option Int := if w.testBit j then some n else none
/-- With the scores of a set read, as good for 'a', and as bad for 'b', as can be. -/
def readL (T : Tb) (a b w : Nat) : Nat → Tb := readG T a b (fun j => bitO w j (hiP T a j)) (fun j => bitO w (T.m + j) (loP T b j))
theorem bitO_some {w j : Nat} {n m : Int} (h : bitO w j n = some m) : m = n := by
  unfold bitO at h
  split at h
  · injection h with h; exact h.symm
  · cases h
section
variable {s1 s : Hp} {T : Tb}
theorem TbV.ret {B C : Nat} {X : Tb} {xo : Option Addr × Nat} {R : Ending → Hp → Prop} (h : TbV s1 s B X xo) (hC : s1.size ≤ C) (hk : ∀ p ∈ z4 C, Own s p.1 p.2) (hf : ∀ y c, cellAt s ⟨B, 3, none⟩ = some (.slice y X.sc.length c) → ∀ i, i < X.sc.length → ∀ a, y = some a → a.block ≠ C)
    (hR : ∀ s' y c', Ext s1 s' → ScAt s' y X.sc → R (.returned (.agg #[.int .i64 X.men, .int .i64 X.sheets, .slice xo.1 X.off.length xo.2, .slice y X.sc.length c'])) s') :
    (RDI .i64 (Addr.add ⟨B, 0, none⟩ 0) fun n17 => RDI .i64 (Addr.add ⟨B, 0, none⟩ 1) fun n18 => RDL (Addr.add ⟨B, 0, none⟩ 2) fun x19 l20 c21 => RDL (Addr.add ⟨B, 0, none⟩ 3) fun x22 l23 c24 =>
      WR (Addr.add ⟨C, 0, none⟩ 0) (.int .i64 n17) <| WR (Addr.add ⟨C, 0, none⟩ 1) (.int .i64 n18) <| WR (Addr.add ⟨C, 0, none⟩ 2) (.slice x19 l20 c21) <| WR (Addr.add ⟨C, 0, none⟩ 3) (.slice x22 l23 c24) <|
      RDI .i64 (Addr.add ⟨C, 0, none⟩ 0) fun n25 => RDI .i64 (Addr.add ⟨C, 0, none⟩ 1) fun n26 => RDL (Addr.add ⟨C, 0, none⟩ 2) fun x27 l28 c29 => RDL (Addr.add ⟨C, 0, none⟩ 3) fun x30 l31 c32 =>
      R (.returned (.agg #[(.int .i64 n25), (.int .i64 n26), (.slice x27 l28 c29), (.slice x30 l31 c32)]))) s := by
  obtain ⟨y, cy, h1, h2⟩ := h.sc
  refine ⟨_, h.men.cell, _, h.sheets.cell, _, _, _, h.off.1.cell, _, _, _, h1.cell, ?_⟩
  refine wr4 rfl rfl rfl rfl (a := ⟨C, 0, none⟩) (fun j hj => ?_) fun s' k z o0 o1 o2 o3 => ?_
  · match j, hj with
    | 0, _ => exact ⟨_, hk (⟨C, 0, none⟩, .int .i64 0) (by simp [z4])⟩
    | 1, _ => exact ⟨_, hk (⟨C, 1, none⟩, .int .i64 0) (by simp [z4])⟩
    | 2, _ => exact ⟨_, hk (⟨C, 2, none⟩, .slice none 0 0) (by simp [z4])⟩
    | 3, _ => exact ⟨_, hk (⟨C, 3, none⟩, .slice none 0 0) (by simp [z4])⟩
  · refine ⟨_, o0.cell, _, o1.cell, _, _, _, o2.cell, _, _, _, o3.cell, ?_⟩
    refine hR s' y cy (ext_kp h.ext hC k) fun i hi => ?_
    obtain ⟨a, ha, g0, g1, g2, g3⟩ := h2 i hi
    have hd : ∀ j, ¬ (((a.add (i * 4)).add j).block = C) := fun j => by rw [add_blk, add_blk]; exact hf y cy h1.cell i hi a ha
    exact ⟨a, ha, k.cell (hd 0) g0, k.cell (hd 1) g1, k.cell (hd 2) g2, k.cell (hd 3) g3⟩
/-- The scores of a table in a variable do not lie in some block. -/
def ScN (s : Hp) (B : Nat) (X : Tb) (C : Nat) : Prop := ∀ y c, cellAt s ⟨B, 3, none⟩ = some (.slice y X.sc.length c) → ∀ i, i < X.sc.length → ∀ a, y = some a → a.block ≠ C
theorem ScN.after {s s' : Hp} {B C : Nat} {X : Tb} {xo : Option Addr × Nat} (v : TbV s1 s B X xo) (e : Ext s s') (h : ScN s B X C) : ScN s' B X C := fun y c hc => by
  obtain ⟨y0, c0, h1, _⟩ := v.sc
  have := e.cell h1.cell
  rw [hc] at this
  injection this with this
  injection this with g1 g2 g3
  subst g1; subst g3
  exact h y c h1.cell
end
section
variable {W : World} {K : VK} {E : List PanicEntry → Hp → Prop} {s : Hp} {T : Tb}
/-- One step: if a score is read, the variable has the table with it. -/
theorem read_step {R : Ending → Hp → Prop} {s1 u : Hp} {B C za a k : Nat} {X : Tb} {xo : Option Addr × Nat} {e : Bool} {KK : Hp → Prop} (hok : okT T = true) (hokX : okT X = true) (haX : a < X.n) (hkX : k < X.m) (ta : TbA s1 ⟨za, 0, none⟩ T) (v : TbV s1 u B X xo) (hC : C < u.size) (hCB : C ≠ B) (hk : ∀ p ∈ z4 C, Own u p.1 p.2)
    (hK : ∀ s', TbV s1 s' B (withT X a k (sel e (loP T a k, hiP T a k))) xo → (∀ p ∈ z4 C, Own s' p.1 p.2) → ScN s' B (withT X a k (sel e (loP T a k, hiP T a k))) C → u.size ≤ s'.size → KK s') :
    (RDI .i64 (Addr.add ⟨B, 0, none⟩ 0) fun n25 => RDI .i64 (Addr.add ⟨B, 0, none⟩ 1) fun n26 => RDL (Addr.add ⟨B, 0, none⟩ 2) fun x27 l28 c29 => RDL (Addr.add ⟨B, 0, none⟩ 3) fun x30 l31 c32 =>
      RDI .i64 (Addr.add ⟨za, 0, none⟩ 0) fun n33 => RDI .i64 (Addr.add ⟨za, 0, none⟩ 1) fun n34 => RDL (Addr.add ⟨za, 0, none⟩ 2) fun x35 l36 c37 => RDL (Addr.add ⟨za, 0, none⟩ 3) fun x38 l39 c40 =>
      CALL Pg W F_ref10_Points [(.agg #[(.int .i64 n33), (.int .i64 n34), (.slice x35 l36 c37), (.slice x38 l39 c40)]), (.int .i64 a), (.int .i64 k)]
        (fun v41 => AGG v41 fun q43 => HD q43 fun v44 r45 => TYI .i64 v44 fun n46 => HD r45 fun v47 r48 => TYI .i64 v47 fun n49 => NL r48 <|
          ANDS (RDI .i64 (Addr.add ⟨B, 0, none⟩ 0) fun n50 => RDI .i64 (Addr.add ⟨B, 0, none⟩ 1) fun n51 => RDL (Addr.add ⟨B, 0, none⟩ 2) fun x52 l53 c54 => RDL (Addr.add ⟨B, 0, none⟩ 3) fun x55 l56 c57 => fun _ => ((.agg #[(.int .i64 n50), (.int .i64 n51), (.slice x52 l53 c54), (.slice x55 l56 c57)]) : Value) = (.agg #[(.int .i64 n25), (.int .i64 n26), (.slice x27 l28 c29), (.slice x30 l31 c32)])) <|
          ANDS (RDI .i64 (Addr.add ⟨B, 0, none⟩ 0) fun n58 => RDI .i64 (Addr.add ⟨B, 0, none⟩ 1) fun n59 => RDL (Addr.add ⟨B, 0, none⟩ 2) fun x60 l61 c62 => RDL (Addr.add ⟨B, 0, none⟩ 3) fun x63 l64 c65 => fun _ => ((.agg #[(.int .i64 n58), (.int .i64 n59), (.slice x60 l61 c62), (.slice x63 l64 c65)]) : Value) = (.agg #[(.int .i64 n25), (.int .i64 n26), (.slice x27 l28 c29), (.slice x30 l31 c32)])) <|
          CALL Pg W F_ref10_With [(.agg #[(.int .i64 n25), (.int .i64 n26), (.slice x27 l28 c29), (.slice x30 l31 c32)]), (.int .i64 a), (.int .i64 k), (.int .i64 (sel e (n46, n49)))]
            (fun v66 => AGG v66 fun q68 => HD q68 fun v69 r70 => TYI .i64 v69 fun n71 => HD r70 fun v72 r73 => TYI .i64 v72 fun n74 => HD r73 fun v75 r76 => TYL v75 fun x77 l78 c79 => HD r76 fun v80 r81 => TYL v80 fun x82 l83 c84 => NL r81 <|
              WR (Addr.add ⟨B, 0, none⟩ 0) (.int .i64 n71) <| WR (Addr.add ⟨B, 0, none⟩ 1) (.int .i64 n74) <| WR (Addr.add ⟨B, 0, none⟩ 2) (.slice x77 l78 c79) <| WR (Addr.add ⟨B, 0, none⟩ 3) (.slice x82 l83 c84) <| KK)
            (fun e67 => R (.panicked e67)))
        (fun e42 => R (.panicked e42))) u := by
  obtain ⟨_, _, _, _, h30, _⟩ := okT_iff.1 hok
  have hlh := lo_hi hok a k
  have hsel : 0 ≤ sel e (loP T a k, hiP T a k) ∧ sel e (loP T a k, hiP T a k) ≤ 40 := by cases e <;> simp only [sel] <;> first | (simp; omega) | omega
  obtain ⟨y, cy, h1, h2⟩ := v.sc
  refine ⟨_, v.men.cell, _, v.sheets.cell, _, _, _, v.off.1.cell, _, _, _, h1.cell, ?_⟩
  refine rdT (ta.ext v.ext) fun x c y' c' hx hy => ?_
  refine f_Points hx hy (by omega) fun t f => ?_
  unfold spanV
  try simp only [TUP_mk, AGG_mk, HD_mk, NL_mk, TYI_mk, TYB_mk, TYP_mk, TYL_mk, TYS_mk, TYM_mk, SO_mk, NX_mk, endK_mk, endK_mk', add_0]
  have vt := v.after f
  have h1t := f.cell h1.cell
  refine ⟨⟨_, vt.men.cell, _, vt.sheets.cell, _, _, _, vt.off.1.cell, _, _, _, h1t, rfl⟩, ⟨⟨_, vt.men.cell, _, vt.sheets.cell, _, _, _, vt.off.1.cell, _, _, _, h1t, rfl⟩, ?_⟩⟩
  have hs : sel e ((pts (prs T) ((a : Int), (k : Int))).1, (pts (prs T) ((a : Int), (k : Int))).2) = sel e (loP T a k, hiP T a k) := rfl
  rw [hs]
  refine f_WithN hokX haX hkX hsel.1 hsel.2 (v.off.2.ext vt.ext) (h2.ext f) fun t2 y2 c2 f2 hok2 hx2 hy2 hfr => ?_
  try simp only [TUP_mk, AGG_mk, HD_mk, NL_mk, TYI_mk, TYB_mk, TYP_mk, TYL_mk, TYS_mk, TYM_mk, SO_mk, NX_mk, endK_mk, endK_mk', add_0]
  have hBl : B < t.size := vt.men.lt
  have hs1 := f.1
  have hs2 := f2.1
  obtain ⟨y3, c3, g1, g2⟩ := (vt.after f2).sc
  refine wr4 rfl rfl rfl rfl (a := ⟨B, 0, none⟩) (fun j hj => ?_) fun s' k' z o0 o1 o2 o3 => ?_
  · match j, hj with
    | 0, _ => exact ⟨_, (vt.after f2).men⟩
    | 1, _ => exact ⟨_, (vt.after f2).sheets⟩
    | 2, _ => exact ⟨_, (vt.after f2).off.1⟩
    | 3, _ => exact ⟨_, g1⟩
  · refine hK s' ⟨ext_kp (vt.after f2).ext v.blk k', v.blk, o0, o1, ⟨o2, v.off.2⟩, y2, c2, o3, fun i hi => ?_⟩ (fun p hp => ?_) (fun y5 c5 hc5 i hi a' ha' => ?_) (by have := k'.1; omega)
    · obtain ⟨ad, had, g0, g1, g2, g3⟩ := hy2 i hi
      have hd : ∀ j, ¬ (((ad.add (i * 4)).add j).block = B) := fun j => by rw [add_blk, add_blk]; have := (hfr ad had).1; omega
      exact ⟨ad, had, k'.cell (hd 0) g0, k'.cell (hd 1) g1, k'.cell (hd 2) g2, k'.cell (hd 3) g3⟩
    · have hpC : p.1.block = C := by
        unfold z4 at hp
        simp only [List.mem_cons, List.not_mem_nil, or_false] at hp
        rcases hp with rfl | rfl | rfl | rfl <;> rfl
      exact k'.own (by rw [hpC]; exact hCB) (f2.own (f.own (hk p hp)))
    · have hc6 : cellAt s' ⟨B, 3, none⟩ = _ := o3.cell
      rw [hc6] at hc5
      injection hc5 with hc5
      injection hc5 with e1 e2 e3
      subst e1
      have := (hfr a' ha').1; omega
end
end Go.Proofs.Ytkgcbfbbcaajpaa.G

/- Rank: read, in the statements; what the fewest scores are. -/
set_option linter.unusedSimpArgs false
set_option linter.unusedVariables false
set_option maxRecDepth 20000
namespace Go.Proofs.Ytkgcbfbbcaajpaa.G
open Go.V
section
variable {T : Tb} {a b w : Nat}
theorem readL_same (j : Nat) : (readL T a b w j).men = T.men ∧ (readL T a b w j).sheets = T.sheets ∧ (readL T a b w j).off = T.off := readG_same T a b _ _ j
theorem readL_ok (hok : okT T = true) (ha : a < T.n) (hb : b < T.n) {j : Nat} (hj : j ≤ T.m) : okT (readL T a b w j) = true :=
  readG_ok hok ha hb (fun k n _ h => by have := lo_hi hok a k; rw [bitO_some h]; omega) (fun k n _ h => by have := lo_hi hok b k; rw [bitO_some h]; omega) j hj
theorem put1_none (X : Tb) (a k : Nat) : put1 X a k none = X := rfl
/-- Between two scores of one sheet. -/
def readH (T : Tb) (a b w j : Nat) : Tb := put1 (readL T a b w j) a j (bitO w j (hiP T a j))
theorem readH_ok (hok : okT T = true) (ha : a < T.n) (hb : b < T.n) {j : Nat} (hj : j < T.m) : okT (readH T a b w j) = true := by
  obtain ⟨h1, h2, h3⟩ := readL_same (T := T) (a := a) (b := b) (w := w) j
  exact put1_ok (readL_ok hok ha hb (by omega)) (by rw [same_n h1]; exact ha) (by rw [same_m h2]; exact hj) fun n h => by have := lo_hi hok a j; rw [bitO_some h]; omega
theorem readH_same (j : Nat) : (readH T a b w j).men = T.men ∧ (readH T a b w j).sheets = T.sheets ∧ (readH T a b w j).off = T.off := by
  obtain ⟨h1, h2, h3⟩ := readL_same (T := T) (a := a) (b := b) (w := w) j
  obtain ⟨k1, k2, k3⟩ := put1_same (readL T a b w j) a j (bitO w j (hiP T a j))
  exact ⟨k1.trans h1, k2.trans h2, k3.trans h3⟩
theorem readL_succ (j : Nat) : readL T a b w (j + 1) = put1 (readH T a b w j) b j (bitO w (T.m + j) (loP T b j)) := rfl
theorem bitO_t {w j : Nat} {n : Int} (h : w.testBit j = true) : bitO w j n = some n := by unfold bitO; rw [if_pos h]
theorem bitO_f {w j : Nat} {n : Int} (h : w.testBit j = false) : bitO w j n = none := by unfold bitO; rw [if_neg (by rw [h]; simp)]
end
section
variable {W : World} {K : VK} {E : List PanicEntry → Hp → Prop} {s : Hp} {T : Tb}
theorem f_read {x y : Option Addr} {c c' a b w : Nat} (hok : okT T = true) (ha : a < T.n) (hb : b < T.n) (hw : w < 1024) (hx : RowAt s x (ints T.off)) (hy : ScAt s y T.sc)
    (h : ∀ s' x y c c', Ext s s' → RowAt s' x (ints (readL T a b w T.m).off) → ScAt s' y (readL T a b w T.m).sc → K (.agg #[.int .i64 (readL T a b w T.m).men, .int .i64 (readL T a b w T.m).sheets, .slice x (readL T a b w T.m).off.length c, .slice y (readL T a b w T.m).sc.length c']) s') :
    CALL Pg W F_law10_read [.agg #[.int .i64 T.men, .int .i64 T.sheets, .slice x T.off.length c, .slice y T.sc.length c'], .int .i64 a, .int .i64 b, .int .i64 w] K E s := by
  have hn := men_n hok
  have hm := sheets_m hok
  obtain ⟨_, n6, _, m5⟩ := n_lim hok
  refine does_law10_read W T.men T.sheets x T.off.length c y T.sc.length c' a b w _ s ?_
  unfold T_law10_read
  refine NEW_rule fun s1 e1 z1 n1 _ => ?_
  have ta := tbA_new e1 hx hy n1
  refine nz4 zc_25 fun s2 e2 z2 r0 r1 r2 r3 => ?_
  obtain ⟨x0, c0, y0, c0', g1, g2, g3, g4, hx1, hy1⟩ := ta.all
  refine ⟨_, e2.cell g1, _, e2.cell g2, _, _, _, e2.cell g3, _, _, _, e2.cell g4, ?_⟩
  refine tbV_new e2 hx1 (hy1.ext e2) fun s3 B e3 z3 hB c3 v3 => ?_
  generalize hC : s1.size = C at *
  have hk3 : ∀ p ∈ z4 C, Own s3 p.1 p.2 := fun p hp => e3.own (z4_own r0 r1 r2 r3 p hp)
  have hCB : C ≠ B := by omega
  refine ⟨_, (ta.ext v3.ext).sheets, ?_⟩
  have hsc0 : ScN s3 B T C := fun y5 c5 hc5 i hi a' ha' => by
    rw [c3] at hc5
    injection hc5 with hc5
    injection hc5 with e1' e2' e3'
    subst e1'
    obtain ⟨ad, had, d0, _⟩ := hy1 i hi
    rw [ha'] at had
    cases had
    have hlt := cell_lt d0
    rw [add_blk, add_blk] at hlt
    omega
  refine L_law10_read_0_rule W _ a b w ⟨s.size, 0, none⟩ ⟨C, 0, none⟩ ⟨B, 0, none⟩ T.sheets (fun n u => ∃ j : Nat, j ≤ T.m ∧ n = j ∧ TbV s1 u B (readL T a b w j) (x0, c0) ∧ (∀ p ∈ z4 C, Own u p.1 p.2) ∧ ScN u B (readL T a b w j) C) (fun n _ => (T.m - n).toNat) 0 s3 ⟨0, by omega, rfl, v3, hk3, hsc0⟩ ?_
  rintro n24 u ⟨j, hj, rfl, vu, hku, hsu⟩
  obtain ⟨l1, l2, l3⟩ := readL_same (T := T) (a := a) (b := b) (w := w) j
  unfold B_law10_read_0
  refine BR_dec (fun h1 => ?_) (fun h1 => ?_)
  · have hjm : j < T.m := by omega
    have okL := readL_ok (w := w) hok ha hb hj
    have okH := readH_ok (w := w) hok ha hb hjm
    obtain ⟨q1, q2, q3⟩ := readH_same (T := T) (a := a) (b := b) (w := w) j
    refine NNI_nat ?_
    rw [has_i w hw j (by omega)]
    have hkC : ∀ {u'}, (∀ p ∈ z4 C, Own u' p.1 p.2) → C < u'.size := fun hk => (hk (⟨C, 0, none⟩, .int .i64 0) (by simp [z4])).lt
    have j0 : ∀ u', TbV s1 u' B (readL T a b w (j + 1)) (x0, c0) → (∀ p ∈ z4 C, Own u' p.1 p.2) → ScN u' B (readL T a b w (j + 1)) C → J_law10_read_0 W (endK K E) a b w ⟨s.size, 0, none⟩ ⟨C, 0, none⟩ ⟨B, 0, none⟩ T.sheets (fun vs => N_law10_read_0 (fun n u => ∃ j : Nat, j ≤ T.m ∧ n = j ∧ TbV s1 u B (readL T a b w j) (x0, c0) ∧ (∀ p ∈ z4 C, Own u p.1 p.2) ∧ ScN u B (readL T a b w j) C) (fun n _ => (T.m - n).toNat) j u vs) j u' := by
      intro u' v' hk' hs'
      unfold J_law10_read_0
      exact ⟨rfl, _, rfl, ⟨j + 1, by omega, wrap_succ (by omega), v', hk', hs'⟩, ms_succ hjm (by omega)⟩
    have j1 : ∀ u', TbV s1 u' B (readH T a b w j) (x0, c0) → (∀ p ∈ z4 C, Own u' p.1 p.2) → ScN u' B (readH T a b w j) C → J_law10_read_1 W (endK K E) ⟨s.size, 0, none⟩ j w ⟨B, 0, none⟩ b a ⟨C, 0, none⟩ T.sheets (fun vs => N_law10_read_0 (fun n u => ∃ j : Nat, j ≤ T.m ∧ n = j ∧ TbV s1 u B (readL T a b w j) (x0, c0) ∧ (∀ p ∈ z4 C, Own u p.1 p.2) ∧ ScN u B (readL T a b w j) C) (fun n _ => (T.m - n).toNat) j u vs) u' := by
      intro u' v' hk' hs'
      unfold J_law10_read_1
      refine ⟨_, (ta.ext v'.ext).sheets, ?_⟩
      have hwj : IntKind.wrap .i64 (T.sheets + (j : Int)) = ((T.m + j : Nat) : Int) := by rw [wrap_i64 (by omega) (by omega)]; omega
      dsimp only
      rw [hwj]
      refine NNI_nat ?_
      rw [has_i w hw (T.m + j) (by omega)]
      refine BR_bool (fun hb1 => ?_) (fun hb1 => ?_)
      · refine read_step (e := false) (X := readH T a b w j) hok okH (by rw [same_n q1]; exact hb) (by rw [same_m q2]; exact hjm) ta v' (hkC hk') hCB hk' fun u2 v2 hk2 hs2 _ => ?_
        have he : readL T a b w (j + 1) = withT (readH T a b w j) b j (loP T b j) := by rw [readL_succ, bitO_t hb1]; rfl
        exact j0 u2 (by rw [he]; exact v2) hk2 (by rw [he]; exact hs2)
      · have he : readL T a b w (j + 1) = readH T a b w j := by rw [readL_succ, bitO_f hb1]; rfl
        exact j0 u' (by rw [he]; exact v') hk' (by rw [he]; exact hs')
    refine BR_bool (fun hb1 => ?_) (fun hb1 => ?_)
    · refine read_step (e := true) (X := readL T a b w j) hok okL (by rw [same_n l1]; exact ha) (by rw [same_m l2]; exact hjm) ta vu (hkC hku) hCB hku fun u2 v2 hk2 hs2 _ => ?_
      have he : readH T a b w j = withT (readL T a b w j) a j (hiP T a j) := by unfold readH; rw [bitO_t hb1]; rfl
      exact j1 u2 (by rw [he]; exact v2) hk2 (by rw [he]; exact hs2)
    · have he : readH T a b w j = readL T a b w j := by unfold readH; rw [bitO_f hb1]; rfl
      exact j1 u (by rw [he]; exact vu) hku (by rw [he]; exact hsu)
  · have hjm : j = T.m := by omega
    subst hjm
    refine vu.ret (Nat.le_of_eq hC) hku hsu fun s' y c' e hy => ?_
    exact h s' x0 y c0 c' (e1.trans e) (vu.off.2.ext e) hy
end
end Go.Proofs.Ytkgcbfbbcaajpaa.G

/- Rank, in plain Lean: the fewest scores that prove it. -/
set_option linter.unusedSimpArgs false
set_option linter.unusedVariables false
set_option maxRecDepth 20000
namespace Go.Proofs.Ytkgcbfbbcaajpaa.G
open Go.V
/-! ### The order of sets -/
def setLt (x y : Nat) : Prop := popN x < popN y ∨ (popN x = popN y ∧ x < y)
theorem lay_mem {M z x : Nat} : x ∈ lay M z ↔ x < 2 ^ M ∧ popN x = z := by unfold lay; simp
theorem sets_sorted (M : Nat) : (setsL M).Pairwise setLt := by
  unfold setsL
  rw [List.pairwise_flatMap]
  constructor
  · intro z hz
    unfold lay
    have h : (List.range (2 ^ M)).Pairwise (· < ·) := List.pairwise_lt_range
    refine List.Pairwise.imp_of_mem ?_ (h.filter _)
    intro x y hx hy hlt
    have h1 := (List.mem_filter.1 hx).2
    have h2 := (List.mem_filter.1 hy).2
    simp at h1 h2
    exact .inr ⟨by omega, hlt⟩
  · have h : (List.range (M + 1)).Pairwise (· < ·) := List.pairwise_lt_range
    refine h.imp ?_
    intro z z' hlt x hx y hy
    exact .inl (by rw [(lay_mem.1 hx).2, (lay_mem.1 hy).2]; exact hlt)
theorem popN_le (x : Nat) : popN x ≤ 10 := by unfold popN; exact Nat.le_trans (List.length_filter_le _ _) (by simp)
theorem pop_small : ∀ M : Nat, M ≤ 10 → ∀ x : Nat, x < 2 ^ M → popN x ≤ M := by
  intro M hM x hx
  unfold popN
  have hb : ∀ i, M ≤ i → x.testBit i = false := fun i hi => Nat.testBit_lt_two_pow (Nat.lt_of_lt_of_le hx (Nat.pow_le_pow_right (by omega) hi))
  have : (List.range 10).filter (fun i => x.testBit i) = (List.range M).filter (fun i => x.testBit i) := by
    have : List.range 10 = List.range M ++ (List.range (10 - M)).map (M + ·) := by rw [← List.range_add]; congr 1; omega
    rw [this, List.filter_append]
    have : ((List.range (10 - M)).map (M + ·)).filter (fun i => x.testBit i) = [] := List.filter_eq_nil_iff.2 fun i hi => by
      obtain ⟨j, _, rfl⟩ := List.mem_map.1 hi
      rw [hb _ (by omega)]; simp
    rw [this, List.append_nil]
  rw [this]
  exact Nat.le_trans (List.length_filter_le _ _) (by simp)
theorem sets_mem {M : Nat} (hM : M ≤ 10) {x : Nat} (hx : x < 2 ^ M) : x ∈ setsL M := by
  unfold setsL
  have := pop_small M hM x hx
  exact List.mem_flatMap.2 ⟨popN x, List.mem_range.2 (by omega), lay_mem.2 ⟨hx, rfl⟩⟩
theorem sets_first {M : Nat} (hM : M ≤ 10) {p : Nat → Bool} {w x : Nat} (h : (setsL M).find? p = some w) (hx : x < 2 ^ M) (hp : p x = true) : ¬ setLt x w := by
  obtain ⟨h1, l1, l2, h2, h3⟩ := List.find?_eq_some_iff_append.1 h
  have hs := sets_sorted M
  have hm := sets_mem hM hx
  rw [h2] at hs hm
  rcases List.mem_append.1 hm with hm | hm
  · have := h3 x hm; rw [hp] at this; cases this
  · rcases List.mem_cons.1 hm with rfl | hm
    · rintro (h | ⟨_, h⟩) <;> omega
    · have := (List.pairwise_append.1 hs).2.1
      have := List.rel_of_pairwise_cons this hm
      rintro (h | ⟨h4, h5⟩)
      · rcases this with h6 | ⟨h6, h7⟩ <;> omega
      · rcases this with h6 | ⟨h6, h7⟩ <;> omega
/-! ### Size, all -/
def popA : Nat → Nat → Nat
  | 0, _ => 0
  | f + 1, n => n % 2 + popA f (n / 2)
theorem popA_pop : ∀ n : Nat, n < 1024 → popA 10 n = popN n := by
  have h : ((List.range 1024).all fun n => decide (popA 10 n = popN n)) = true := by decide +kernel
  intro n hn
  exact of_decide_eq_true (List.all_eq_true.1 h n (by simpa using hn))
theorem shl_all : ∀ M : Nat, M ≤ 5 → IntKind.wrap .i64 (shlv .i64 1 (IntKind.wrap .i64 (2 * (M : Int))) - 1) = ((2 ^ (2 * M) - 1 : Nat) : Int) := by decide +kernel
theorem and_all {x n : Nat} (hx : x < 65536) (hn : n ≤ 10) : andv .i64 (x : Int) ((2 ^ n - 1 : Nat) : Int) = ((x % 2 ^ n : Nat) : Int) := by
  have h1 : 2 ^ n ≤ 2 ^ 10 := Nat.pow_le_pow_right (by omega) hn
  unfold andv
  have e1 : (BitVec.ofInt IntKind.i64.bits (x : Int)).toNat = x := by
    show (BitVec.ofInt 64 (x : Int)).toNat = x
    rw [BitVec.ofInt_natCast, BitVec.toNat_ofNat, Nat.mod_eq_of_lt (by omega)]
  have e2 : (BitVec.ofInt IntKind.i64.bits ((2 ^ n - 1 : Nat) : Int)).toNat = 2 ^ n - 1 := by
    show (BitVec.ofInt 64 ((2 ^ n - 1 : Nat) : Int)).toNat = 2 ^ n - 1
    rw [BitVec.ofInt_natCast, BitVec.toNat_ofNat, Nat.mod_eq_of_lt (by omega)]
  rw [BitVec.toNat_and, e1, e2, Nat.and_two_pow_sub_one_eq_mod]
  have := Nat.mod_lt x (show 2 ^ n > 0 from Nat.pow_pos (by omega))
  exact wrap_i64 (by omega) (by omega)
/-! ### What is proved -/
section
variable {T : Tb} {a b w : Nat}
theorem readV_rows {V : Nat → Nat → Int} (hok : okT T = true) (ha : a < T.n) (hb : b < T.n) (hab : a ≠ b) (hv : ∀ i k, i < T.n → k < T.m → 0 ≤ V i k ∧ V i k ≤ 40) {X : Tb} (hX : X = readG T a b (fun j => bitO w j (V a j)) (fun j => bitO w (T.m + j) (V b j)) T.m) :
    lowR X a = rowG (fun k => if w.testBit k then V a k else loP T a k) T.m (offT T a) ∧ topR X b = rowG (fun k => if w.testBit (T.m + k) then V b k else hiP T b k) T.m (offT T b) := by
  obtain ⟨h1, h2, h3⟩ := readG_same T a b (fun j => bitO w j (V a j)) (fun j => bitO w (T.m + j) (V b j)) T.m
  rw [← hX] at h1 h2 h3
  have key := readG_lo (f := fun j => bitO w j (V a j)) (g := fun j => bitO w (T.m + j) (V b j)) hok ha hb (fun j n hj h => by rw [bitO_some h]; exact hv a j ha hj) (fun j n hj h => by rw [bitO_some h]; exact hv b j hb hj) hab T.m (Nat.le_refl _)
  rw [← hX] at key
  rw [lowR_loP, topR_hiP, same_m h2, same_off h3, same_off h3]
  constructor
  · refine rowG_congr fun k hk => ?_
    rw [(key a k).1, if_pos ⟨rfl, hk⟩]
    unfold bitO; split <;> rfl
  · refine rowG_congr fun k hk => ?_
    rw [(key b k).2, if_neg (fun h => hab h.1.symm), if_pos ⟨rfl, hk⟩]
    unfold bitO; split <;> rfl
def hl (T : Tb) (a b : Nat) (i k : Nat) : Int := if i = a then hiP T i k else loP T i k
theorem readL_rows (hok : okT T = true) (ha : a < T.n) (hb : b < T.n) (hab : a ≠ b) :
    lowR (readL T a b w T.m) a = rowG (fun k => if w.testBit k then hiP T a k else loP T a k) T.m (offT T a) ∧ topR (readL T a b w T.m) b = rowG (fun k => if w.testBit (T.m + k) then loP T b k else hiP T b k) T.m (offT T b) := by
  have hb' : ¬ b = a := fun h => hab h.symm
  have := readV_rows (w := w) (V := hl T a b) hok ha hb hab (fun i k _ _ => by have := lo_hi hok i k; unfold hl; split <;> omega) (X := readL T a b w T.m) (by unfold readL hl; simp [hb'])
  simpa [hl, hb'] using this
theorem proves_rows (hab : a ≠ b) : provesB T a b w = aheadL (rowG (fun k => if w.testBit k then hiP T a k else loP T a k) T.m (offT T a)) (rowG (fun k => if w.testBit (T.m + k) then loP T b k else hiP T b k) T.m (offT T b)) := by
  unfold provesB befP
  rw [decide_eq_true hab, Bool.true_and]
  congr 1
  · show rowG (fun k => (bet (pts (prs T)) T.m a b w ((a : Int), (k : Int))).1) T.m (offT T a) = _
    refine rowG_congr fun k hk => ?_
    unfold bet
    simp only [Int.toNat_natCast, true_and]
    cases w.testBit k
    · by_cases e : (a : Int) = (b : Int) ∧ w.testBit (T.m + k) = true
      · exact absurd (by omega : a = b) hab
      · simp only [Bool.false_eq_true, if_false, if_neg e]; rfl
    · rfl
  · show rowG (fun k => (bet (pts (prs T)) T.m a b w ((b : Int), (k : Int))).2) T.m (offT T b) = _
    refine rowG_congr fun k hk => ?_
    unfold bet
    have hb' : ¬ (b : Int) = (a : Int) := fun h => hab (by omega)
    simp only [Int.toNat_natCast, hb', false_and, if_false, true_and]
    cases w.testBit (T.m + k) <;> rfl
theorem proves_sur (hok : okT T = true) (ha : a < T.n) (hb : b < T.n) (hab : a ≠ b) : surT (readL T a b w T.m) a b = provesB T a b w := by
  obtain ⟨h1, h2⟩ := readL_rows (w := w) hok ha hb hab
  rw [surT_eq, h1, h2, proves_rows hab, decide_eq_true hab, Bool.true_and]
theorem proves_self : provesB T a a w = false := by unfold provesB befP; simp
theorem proves_can (hok : okT T = true) (h : provesB T a b w = true) : canT T a b = true := by
  by_cases hab : a = b
  · subst hab; rw [proves_self] at h; cases h
  rw [proves_rows hab] at h
  refine canT_iff.2 ⟨hab, ?_⟩
  rw [topR_hiP, lowR_loP]
  refine le_gt (by rw [rowG_len, rowG_len]) (rowG_le (fun k _ => ?_) (Int.le_refl _)) (gt_le (by rw [rowG_len, rowG_len]) h (rowG_le (fun k _ => ?_) (Int.le_refl _)))
  · have := lo_hi hok a k
    show (if w.testBit k then hiP T a k else loP T a k) ≤ _
    split <;> omega
  · have := lo_hi hok b k
    show _ ≤ (if w.testBit (T.m + k) then loP T b k else hiP T b k)
    split <;> omega
theorem proves_all (hok : okT T = true) (h : canT T a b = true) : provesB T a b (2 ^ (2 * T.m) - 1) = true := by
  obtain ⟨hab, h2⟩ := canT_iff.1 h
  have hb : ∀ k, k < 2 * T.m → (2 ^ (2 * T.m) - 1).testBit k = true := fun k hk => by rw [Nat.testBit_two_pow_sub_one]; exact decide_eq_true hk
  rw [proves_rows hab]
  refine Eq.trans ?_ h2
  rw [topR_hiP, lowR_loP]
  congr 1
  · exact rowG_congr fun k hk => by rw [hb k (by omega), if_pos rfl]
  · exact rowG_congr fun k hk => by rw [hb (T.m + k) (by omega), if_pos rfl]
theorem proves_none (T : Tb) (a b : Nat) : provesB T a b 0 = surT T a b := by
  by_cases hab : a = b
  · subst hab; rw [proves_self, surT_self]
  rw [proves_rows hab, surT_eq, decide_eq_true hab, Bool.true_and, lowR_loP, topR_hiP]
  congr 1
  · exact rowG_congr fun k _ => by simp
  · exact rowG_congr fun k _ => by simp
/-- With any numbers none of fewer prove it. -/
theorem any_numbers {V : Nat → Nat → Int} (hok : okT T = true) (ha : a < T.n) (hb : b < T.n) (hv : ∀ i k, i < T.n → k < T.m → loP T i k ≤ V i k ∧ V i k ≤ hiP T i k) {X : Tb} (hX : X = readG T a b (fun j => bitO w j (V a j)) (fun j => bitO w (T.m + j) (V b j)) T.m) (h : surT X a b = true) : provesB T a b w = true := by
  by_cases hab : a = b
  · subst hab; rw [surT_self] at h; cases h
  obtain ⟨h1, h2⟩ := readV_rows hok ha hb hab (fun i k hi hk => by have := hv i k hi hk; have := lo_hi hok i k; omega) hX
  rw [surT_eq, h1, h2, decide_eq_true hab, Bool.true_and] at h
  rw [proves_rows hab]
  refine le_gt (by rw [rowG_len, rowG_len]) (rowG_le (fun k hk => ?_) (Int.le_refl _)) (gt_le (by rw [rowG_len, rowG_len]) h (rowG_le (fun k hk => ?_) (Int.le_refl _)))
  · have := hv a k ha hk
    show (if w.testBit k then V a k else loP T a k) ≤ (if w.testBit k then hiP T a k else loP T a k)
    split <;> omega
  · have := hv b k hb hk
    show (if w.testBit (T.m + k) then loP T b k else hiP T b k) ≤ (if w.testBit (T.m + k) then V b k else hiP T b k)
    split <;> omega
theorem could_some (hok : okT T = true) (hc : canT T a b = true) : ∃ w, couldN T a b = some w ∧ w < 2 ^ (2 * T.m) ∧ provesB T a b w = true ∧ (∀ x, x < 2 ^ (2 * T.m) → provesB T a b x = true → ¬ setLt x w) ∧ (w = 0 ↔ surT T a b = true) := by
  obtain ⟨_, _, _, m5⟩ := n_lim hok
  have hp : 0 < 2 ^ (2 * T.m) := Nat.pow_pos (by omega)
  cases h : couldN T a b with
  | none =>
    have := List.find?_eq_none.1 h (2 ^ (2 * T.m) - 1) (sets_mem (by omega) (by omega))
    exact absurd (proves_all hok hc) this
  | some w =>
    have hw : w < 2 ^ (2 * T.m) := by
      have := List.mem_of_find?_eq_some h
      unfold setsL at this
      obtain ⟨z, _, hz⟩ := List.mem_flatMap.1 this
      exact (lay_mem.1 hz).1
    have hpw : provesB T a b w = true := List.find?_some h
    have hfirst := fun x hx hpx => sets_first (M := 2 * T.m) (by omega) (p := provesB T a b) (w := w) (x := x) h hx hpx
    refine ⟨w, rfl, hw, hpw, hfirst, ⟨fun e => ?_, fun hs => ?_⟩⟩
    · subst e; rw [← proves_none]; exact hpw
    · have := hfirst 0 hp (by rw [proves_none]; exact hs)
      rcases Nat.eq_zero_or_pos w with h0 | h0
      · exact h0
      · have hz : popN 0 = 0 := by decide
        exact absurd (show setLt 0 w by unfold setLt; rw [hz]; omega) this
end
section
variable {W : World} {K : VK} {E : List PanicEntry → Hp → Prop} {s : Hp}
theorem f_Size {n : Nat} (hn : n < 1024) (h : K (.int .i64 (popN n : Nat)) s) : CALL Pg W F_ref10_Size [.int .i64 (n : Nat)] K E s := by
  refine does_ref10_Size W n _ s ?_
  unfold T_ref10_Size
  refine L_ref10_Size_0_rule W _ (fun x c t => t = s ∧ ∃ f m k : Nat, f ≤ 10 ∧ m < 2 ^ f ∧ x = m ∧ c = k ∧ k ≤ 10 - f ∧ k + popA f m = popN n) (fun x _ _ => x.toNat) n 0 s ⟨rfl, 10, n, 0, by omega, by omega, rfl, rfl, by omega, by rw [popA_pop n hn]; omega⟩ ?_
  rintro n2 n3 t ⟨rfl, f, m, k, hf, hm, rfl, rfl, hk, he⟩
  have hm2 : m < 1024 := Nat.lt_of_lt_of_le hm (show 2 ^ f ≤ 2 ^ 10 from Nat.pow_le_pow_right (by omega) hf)
  unfold B_ref10_Size_0
  refine BR_dec (fun h1 => ?_) (fun h1 => ?_)
  · have hmp : 0 < m := by omega
    cases f with
    | zero => simp at hm; omega
    | succ f =>
      have hd : IntKind.wrap .i64 (Int.tdiv (m : Int) 2) = ((m / 2 : Nat) : Int) := by
        have : Int.tdiv (m : Int) 2 = ((m / 2 : Nat) : Int) := rfl
        rw [this, wrap_i64 (by omega) (by omega)]
      have hr : Int.tmod (m : Int) 2 = ((m % 2 : Nat) : Int) := rfl
      have hml := Nat.mod_lt m (show 2 > 0 by omega)
      unfold popA at he
      refine ⟨rfl, _, _, rfl, ⟨rfl, f, m / 2, k + m % 2, by omega, by rw [Nat.pow_succ] at hm; omega, hd, ?_, by omega, by omega⟩, ?_⟩
      · rw [hr, wrap_i64 (by omega) (by omega)]; rfl
      · show (IntKind.wrap .i64 (Int.tdiv (m : Int) 2)).toNat < (m : Int).toNat
        rw [hd]; omega
  · have hm0 : m = 0 := by omega
    subst hm0
    have hz : popA f 0 = 0 := by
      clear he hm hm2
      induction f with
      | zero => rfl
      | succ f ih => unfold popA; simp [ih (by omega) (by omega)]
    rw [hz, Nat.add_zero] at he
    rw [he]; exact h
end
end Go.Proofs.Ytkgcbfbbcaajpaa.G

/- More of the functions' shallow texts, by gen.py. -/
set_option linter.unusedVariables false
set_option maxRecDepth 100000
namespace Go.Proofs.Ytkgcbfbbcaajpaa.G
open Go.V
def an_15 : Nat → Ann := fun b => match b with
  | _ => {}
abbrev rv_15 : List ResultVar := [.cell 4 29, .tmp 5]
abbrev rs_15 : List Nat := [27, 4, 5]
def T_ref10_Sum (W : World) (n1 : Int) (n2 : Int) (x3 : Option Addr) (l4 : Nat) (c5 : Nat) (x6 : Option Addr) (l7 : Nat) (c8 : Nat) (n9 : Int) (R : Ending → Hp → Prop) : Hp → Prop :=
  NEW 25 [(.int .i64 n1), (.int .i64 n2), (.slice x3 l4 c5), (.slice x6 l7 c8)] fun B10 =>
    NEWZ Pg 29 fun B11 =>
      RDI .i64 (Addr.add ⟨B10, 0, none⟩ 0) fun n12 =>
        RDI .i64 (Addr.add ⟨B10, 0, none⟩ 1) fun n13 =>
          RDL (Addr.add ⟨B10, 0, none⟩ 2) fun x14 l15 c16 =>
            RDL (Addr.add ⟨B10, 0, none⟩ 3) fun x17 l18 c19 =>
              RDI .i64 (Addr.add ⟨B10, 0, none⟩ 0) fun n20 =>
                RDI .i64 (Addr.add ⟨B10, 0, none⟩ 1) fun n21 =>
                  RDL (Addr.add ⟨B10, 0, none⟩ 2) fun x22 l23 c24 =>
                    RDL (Addr.add ⟨B10, 0, none⟩ 3) fun x25 l26 c27 =>
                      CALL Pg W F_ref10_Man [(.agg #[(.int .i64 n20), (.int .i64 n21), (.slice x22 l23 c24), (.slice x25 l26 c27)]), (.int .i64 n9)]
                        (fun v28 => TYB v28 fun b30 =>
                          ANDS (RDI .i64 (Addr.add ⟨B10, 0, none⟩ 0) fun n31 =>
                            RDI .i64 (Addr.add ⟨B10, 0, none⟩ 1) fun n32 =>
                              RDL (Addr.add ⟨B10, 0, none⟩ 2) fun x33 l34 c35 =>
                                RDL (Addr.add ⟨B10, 0, none⟩ 3) fun x36 l37 c38 =>
                                  fun _ => ((.agg #[(.int .i64 n31), (.int .i64 n32), (.slice x33 l34 c35), (.slice x36 l37 c38)]) : Value) = (.agg #[(.int .i64 n12), (.int .i64 n13), (.slice x14 l15 c16), (.slice x17 l18 c19)])) <|
                            CALL Pg W F_ref10_check [(.agg #[(.int .i64 n12), (.int .i64 n13), (.slice x14 l15 c16), (.slice x17 l18 c19)]), (.bool b30)]
                              (fun v39 => TYI .i64 v39 fun n41 =>
                                BR (n41 != 0)
                                  (WR (Addr.add ⟨B11, 0, none⟩ 0) (.int .i64 0) <|
                                    WR (Addr.add ⟨B11, 0, none⟩ 1) (.int .i64 0) <|
                                      RDI .i64 (Addr.add ⟨B11, 0, none⟩ 0) fun n42 =>
                                        RDI .i64 (Addr.add ⟨B11, 0, none⟩ 1) fun n43 =>
                                          R (.returned (.tuple #[(.agg #[(.int .i64 n42), (.int .i64 n43)]), (.int .i64 n41)])))
                                  (RDI .i64 (Addr.add ⟨B10, 0, none⟩ 0) fun n44 =>
                                    RDI .i64 (Addr.add ⟨B10, 0, none⟩ 1) fun n45 =>
                                      RDL (Addr.add ⟨B10, 0, none⟩ 2) fun x46 l47 c48 =>
                                        RDL (Addr.add ⟨B10, 0, none⟩ 3) fun x49 l50 c51 =>
                                          RDI .i64 (Addr.add ⟨B10, 0, none⟩ 0) fun n52 =>
                                            RDI .i64 (Addr.add ⟨B10, 0, none⟩ 1) fun n53 =>
                                              RDL (Addr.add ⟨B10, 0, none⟩ 2) fun x54 l55 c56 =>
                                                RDL (Addr.add ⟨B10, 0, none⟩ 3) fun x57 l58 c59 =>
                                                  CALL Pg W F_ref10_least [(.agg #[(.int .i64 n44), (.int .i64 n45), (.slice x46 l47 c48), (.slice x49 l50 c51)]), (.int .i64 n9)]
                                                    (fun v60 => TYL v60 fun x62 l63 c64 =>
                                                      ANDS (RDI .i64 (Addr.add ⟨B10, 0, none⟩ 0) fun n65 =>
                                                        RDI .i64 (Addr.add ⟨B10, 0, none⟩ 1) fun n66 =>
                                                          RDL (Addr.add ⟨B10, 0, none⟩ 2) fun x67 l68 c69 =>
                                                            RDL (Addr.add ⟨B10, 0, none⟩ 3) fun x70 l71 c72 =>
                                                              fun _ => ((.agg #[(.int .i64 n65), (.int .i64 n66), (.slice x67 l68 c69), (.slice x70 l71 c72)]) : Value) = (.agg #[(.int .i64 n52), (.int .i64 n53), (.slice x54 l55 c56), (.slice x57 l58 c59)])) <|
                                                        IXS x62 l63 0 1 fun a73 =>
                                                          RDI .i64 a73 fun n74 =>
                                                            CALL Pg W F_ref10_most [(.agg #[(.int .i64 n52), (.int .i64 n53), (.slice x54 l55 c56), (.slice x57 l58 c59)]), (.int .i64 n9)]
                                                              (fun v75 => TYL v75 fun x77 l78 c79 =>
                                                                ANDS (RDI .i64 a73 fun n80 =>
                                                                  fun _ => ((.int .i64 n80) : Value) = (.int .i64 n74)) <|
                                                                  IXS x77 l78 0 1 fun a81 =>
                                                                    RDI .i64 a81 fun n82 =>
                                                                      WR (Addr.add ⟨B11, 0, none⟩ 0) (.int .i64 n74) <|
                                                                        WR (Addr.add ⟨B11, 0, none⟩ 1) (.int .i64 n82) <|
                                                                          RDI .i64 (Addr.add ⟨B11, 0, none⟩ 0) fun n83 =>
                                                                            RDI .i64 (Addr.add ⟨B11, 0, none⟩ 1) fun n84 =>
                                                                              R (.returned (.tuple #[(.agg #[(.int .i64 n83), (.int .i64 n84)]), (.int .i64 0)])))
                                                                (fun e76 => R (.panicked e76)))
                                                      (fun e61 => R (.panicked e61))))
                                (fun e40 => R (.panicked e40)))
                          (fun e29 => R (.panicked e29))
theorem T_ref10_Sum_eq (W : World) (n1 : Int) (n2 : Int) (x3 : Option Addr) (l4 : Nat) (c5 : Nat) (x6 : Option Addr) (l7 : Nat) (c8 : Nat) (n9 : Int) (R : Ending → Hp → Prop) : vfun Pg W an_15 Try.f15 [(.agg #[(.int .i64 n1), (.int .i64 n2), (.slice x3 l4 c5), (.slice x6 l7 c8)]), (.int .i64 n9)] R = T_ref10_Sum W n1 n2 x3 l4 c5 x6 l7 c8 n9 R := by kernel_rfl
theorem does_ref10_Sum (W : World) (n1 : Int) (n2 : Int) (x3 : Option Addr) (l4 : Nat) (c5 : Nat) (x6 : Option Addr) (l7 : Nat) (c8 : Nat) (n9 : Int) (R : Ending → Hp → Prop) (s : Hp) (h : T_ref10_Sum W n1 n2 x3 l4 c5 x6 l7 c8 n9 R s) : Does Pg W F_ref10_Sum #[(.agg #[(.int .i64 n1), (.int .i64 n2), (.slice x3 l4 c5), (.slice x6 l7 c8)]), (.int .i64 n9)] s R :=
  does_of_vfun Pg W an_15 Try.func15 rfl (by kernel_rfl) (by rw [T_ref10_Sum_eq]; exact h)
def an_17 : Nat → Ann := fun b => match b with
  | _ => {}
abbrev rv_17 : List ResultVar := [.tmp 6, .tmp 7]
abbrev rs_17 : List Nat := [30, 6, 7]
def J_ref10_Before_0 (W : World) (R : Ending → Hp → Prop) (n58 : Int) (n59 : Int) (x60 : Option Addr) (l61 : Nat) (c62 : Nat) (x63 : Option Addr) (l64 : Nat) (c65 : Nat) (b83 : Bool) (B11 : Nat) (n9 : Int) (n10 : Int) : Hp → Prop :=
  CALL Pg W F_ref10_check [(.agg #[(.int .i64 n58), (.int .i64 n59), (.slice x60 l61 c62), (.slice x63 l64 c65)]), (.bool b83)]
    (fun v84 => TYI .i64 v84 fun n86 =>
      BR (n86 != 0)
        (R (.returned (.tuple #[(.int .i64 0), (.int .i64 n86)])))
        (RDI .i64 (Addr.add ⟨B11, 0, none⟩ 0) fun n87 =>
          RDI .i64 (Addr.add ⟨B11, 0, none⟩ 1) fun n88 =>
            RDL (Addr.add ⟨B11, 0, none⟩ 2) fun x89 l90 c91 =>
              RDL (Addr.add ⟨B11, 0, none⟩ 3) fun x92 l93 c94 =>
                CALL Pg W F_ref10_surely [(.agg #[(.int .i64 n87), (.int .i64 n88), (.slice x89 l90 c91), (.slice x92 l93 c94)]), (.int .i64 n9), (.int .i64 n10)]
                  (fun v95 => TYB v95 fun b97 =>
                    BR b97
                      (R (.returned (.tuple #[(.int .i64 2), (.int .i64 0)])))
                      (RDI .i64 (Addr.add ⟨B11, 0, none⟩ 0) fun n98 =>
                        RDI .i64 (Addr.add ⟨B11, 0, none⟩ 1) fun n99 =>
                          RDL (Addr.add ⟨B11, 0, none⟩ 2) fun x100 l101 c102 =>
                            RDL (Addr.add ⟨B11, 0, none⟩ 3) fun x103 l104 c105 =>
                              CALL Pg W F_ref10_can [(.agg #[(.int .i64 n98), (.int .i64 n99), (.slice x100 l101 c102), (.slice x103 l104 c105)]), (.int .i64 n9), (.int .i64 n10)]
                                (fun v106 => TYB v106 fun b108 =>
                                  BR b108
                                    (R (.returned (.tuple #[(.int .i64 1), (.int .i64 0)])))
                                    (R (.returned (.tuple #[(.int .i64 0), (.int .i64 0)]))))
                                  (fun e107 => R (.panicked e107))))
                    (fun e96 => R (.panicked e96))))
      (fun e85 => R (.panicked e85))
def T_ref10_Before (W : World) (n1 : Int) (n2 : Int) (x3 : Option Addr) (l4 : Nat) (c5 : Nat) (x6 : Option Addr) (l7 : Nat) (c8 : Nat) (n9 : Int) (n10 : Int) (R : Ending → Hp → Prop) : Hp → Prop :=
  NEW 25 [(.int .i64 n1), (.int .i64 n2), (.slice x3 l4 c5), (.slice x6 l7 c8)] fun B11 =>
    RDI .i64 (Addr.add ⟨B11, 0, none⟩ 0) fun n12 =>
      RDI .i64 (Addr.add ⟨B11, 0, none⟩ 1) fun n13 =>
        RDL (Addr.add ⟨B11, 0, none⟩ 2) fun x14 l15 c16 =>
          RDL (Addr.add ⟨B11, 0, none⟩ 3) fun x17 l18 c19 =>
            RDI .i64 (Addr.add ⟨B11, 0, none⟩ 0) fun n20 =>
              RDI .i64 (Addr.add ⟨B11, 0, none⟩ 1) fun n21 =>
                RDL (Addr.add ⟨B11, 0, none⟩ 2) fun x22 l23 c24 =>
                  RDL (Addr.add ⟨B11, 0, none⟩ 3) fun x25 l26 c27 =>
                    CALL Pg W F_ref10_Man [(.agg #[(.int .i64 n20), (.int .i64 n21), (.slice x22 l23 c24), (.slice x25 l26 c27)]), (.int .i64 n9)]
                      (fun v28 => TYB v28 fun b30 =>
                        ANDS (RDI .i64 (Addr.add ⟨B11, 0, none⟩ 0) fun n31 =>
                          RDI .i64 (Addr.add ⟨B11, 0, none⟩ 1) fun n32 =>
                            RDL (Addr.add ⟨B11, 0, none⟩ 2) fun x33 l34 c35 =>
                              RDL (Addr.add ⟨B11, 0, none⟩ 3) fun x36 l37 c38 =>
                                fun _ => ((.agg #[(.int .i64 n31), (.int .i64 n32), (.slice x33 l34 c35), (.slice x36 l37 c38)]) : Value) = (.agg #[(.int .i64 n12), (.int .i64 n13), (.slice x14 l15 c16), (.slice x17 l18 c19)])) <|
                          BR b30
                            (RDI .i64 (Addr.add ⟨B11, 0, none⟩ 0) fun n39 =>
                              RDI .i64 (Addr.add ⟨B11, 0, none⟩ 1) fun n40 =>
                                RDL (Addr.add ⟨B11, 0, none⟩ 2) fun x41 l42 c43 =>
                                  RDL (Addr.add ⟨B11, 0, none⟩ 3) fun x44 l45 c46 =>
                                    CALL Pg W F_ref10_Man [(.agg #[(.int .i64 n39), (.int .i64 n40), (.slice x41 l42 c43), (.slice x44 l45 c46)]), (.int .i64 n10)]
                                      (fun v47 => TYB v47 fun b49 =>
                                        ANDS (RDI .i64 (Addr.add ⟨B11, 0, none⟩ 0) fun n50 =>
                                          RDI .i64 (Addr.add ⟨B11, 0, none⟩ 1) fun n51 =>
                                            RDL (Addr.add ⟨B11, 0, none⟩ 2) fun x52 l53 c54 =>
                                              RDL (Addr.add ⟨B11, 0, none⟩ 3) fun x55 l56 c57 =>
                                                fun _ => ((.agg #[(.int .i64 n50), (.int .i64 n51), (.slice x52 l53 c54), (.slice x55 l56 c57)]) : Value) = (.agg #[(.int .i64 n12), (.int .i64 n13), (.slice x14 l15 c16), (.slice x17 l18 c19)])) <|
                                          J_ref10_Before_0 W R n12 n13 x14 l15 c16 x17 l18 c19 b49 B11 n9 n10)
                                        (fun e48 => R (.panicked e48)))
                            (J_ref10_Before_0 W R n12 n13 x14 l15 c16 x17 l18 c19 false B11 n9 n10))
                        (fun e29 => R (.panicked e29))
theorem T_ref10_Before_eq (W : World) (n1 : Int) (n2 : Int) (x3 : Option Addr) (l4 : Nat) (c5 : Nat) (x6 : Option Addr) (l7 : Nat) (c8 : Nat) (n9 : Int) (n10 : Int) (R : Ending → Hp → Prop) : vfun Pg W an_17 Try.f17 [(.agg #[(.int .i64 n1), (.int .i64 n2), (.slice x3 l4 c5), (.slice x6 l7 c8)]), (.int .i64 n9), (.int .i64 n10)] R = T_ref10_Before W n1 n2 x3 l4 c5 x6 l7 c8 n9 n10 R := by kernel_rfl
theorem does_ref10_Before (W : World) (n1 : Int) (n2 : Int) (x3 : Option Addr) (l4 : Nat) (c5 : Nat) (x6 : Option Addr) (l7 : Nat) (c8 : Nat) (n9 : Int) (n10 : Int) (R : Ending → Hp → Prop) (s : Hp) (h : T_ref10_Before W n1 n2 x3 l4 c5 x6 l7 c8 n9 n10 R s) : Does Pg W F_ref10_Before #[(.agg #[(.int .i64 n1), (.int .i64 n2), (.slice x3 l4 c5), (.slice x6 l7 c8)]), (.int .i64 n9), (.int .i64 n10)] s R :=
  does_of_vfun Pg W an_17 Try.func17 rfl (by kernel_rfl) (by rw [T_ref10_Before_eq]; exact h)
def an_19 : Nat → Ann := fun b => match b with
  | _ => {}
abbrev rv_19 : List ResultVar := [.cell 4 29, .tmp 5]
abbrev rs_19 : List Nat := [19, 4, 5]
def T_ref10_Place (W : World) (n1 : Int) (n2 : Int) (x3 : Option Addr) (l4 : Nat) (c5 : Nat) (x6 : Option Addr) (l7 : Nat) (c8 : Nat) (n9 : Int) (R : Ending → Hp → Prop) : Hp → Prop :=
  NEW 25 [(.int .i64 n1), (.int .i64 n2), (.slice x3 l4 c5), (.slice x6 l7 c8)] fun B10 =>
    NEWZ Pg 29 fun B11 =>
      RDI .i64 (Addr.add ⟨B10, 0, none⟩ 0) fun n12 =>
        RDI .i64 (Addr.add ⟨B10, 0, none⟩ 1) fun n13 =>
          RDL (Addr.add ⟨B10, 0, none⟩ 2) fun x14 l15 c16 =>
            RDL (Addr.add ⟨B10, 0, none⟩ 3) fun x17 l18 c19 =>
              RDI .i64 (Addr.add ⟨B10, 0, none⟩ 0) fun n20 =>
                RDI .i64 (Addr.add ⟨B10, 0, none⟩ 1) fun n21 =>
                  RDL (Addr.add ⟨B10, 0, none⟩ 2) fun x22 l23 c24 =>
                    RDL (Addr.add ⟨B10, 0, none⟩ 3) fun x25 l26 c27 =>
                      CALL Pg W F_ref10_Man [(.agg #[(.int .i64 n20), (.int .i64 n21), (.slice x22 l23 c24), (.slice x25 l26 c27)]), (.int .i64 n9)]
                        (fun v28 => TYB v28 fun b30 =>
                          ANDS (RDI .i64 (Addr.add ⟨B10, 0, none⟩ 0) fun n31 =>
                            RDI .i64 (Addr.add ⟨B10, 0, none⟩ 1) fun n32 =>
                              RDL (Addr.add ⟨B10, 0, none⟩ 2) fun x33 l34 c35 =>
                                RDL (Addr.add ⟨B10, 0, none⟩ 3) fun x36 l37 c38 =>
                                  fun _ => ((.agg #[(.int .i64 n31), (.int .i64 n32), (.slice x33 l34 c35), (.slice x36 l37 c38)]) : Value) = (.agg #[(.int .i64 n12), (.int .i64 n13), (.slice x14 l15 c16), (.slice x17 l18 c19)])) <|
                            CALL Pg W F_ref10_check [(.agg #[(.int .i64 n12), (.int .i64 n13), (.slice x14 l15 c16), (.slice x17 l18 c19)]), (.bool b30)]
                              (fun v39 => TYI .i64 v39 fun n41 =>
                                BR (n41 != 0)
                                  (WR (Addr.add ⟨B11, 0, none⟩ 0) (.int .i64 0) <|
                                    WR (Addr.add ⟨B11, 0, none⟩ 1) (.int .i64 0) <|
                                      RDI .i64 (Addr.add ⟨B11, 0, none⟩ 0) fun n42 =>
                                        RDI .i64 (Addr.add ⟨B11, 0, none⟩ 1) fun n43 =>
                                          R (.returned (.tuple #[(.agg #[(.int .i64 n42), (.int .i64 n43)]), (.int .i64 n41)])))
                                  (RDI .i64 (Addr.add ⟨B10, 0, none⟩ 0) fun n44 =>
                                    RDI .i64 (Addr.add ⟨B10, 0, none⟩ 1) fun n45 =>
                                      RDL (Addr.add ⟨B10, 0, none⟩ 2) fun x46 l47 c48 =>
                                        RDL (Addr.add ⟨B10, 0, none⟩ 3) fun x49 l50 c51 =>
                                          CALL Pg W F_ref10_place [(.agg #[(.int .i64 n44), (.int .i64 n45), (.slice x46 l47 c48), (.slice x49 l50 c51)]), (.int .i64 n9)]
                                            (fun v52 => AGG v52 fun q54 => HD q54 fun v55 r56 => TYI .i64 v55 fun n57 =>
                                              HD r56 fun v58 r59 => TYI .i64 v58 fun n60 =>
                                                NL r59 <|
                                                  WR (Addr.add ⟨B11, 0, none⟩ 0) (.int .i64 n57) <|
                                                    WR (Addr.add ⟨B11, 0, none⟩ 1) (.int .i64 n60) <|
                                                      RDI .i64 (Addr.add ⟨B11, 0, none⟩ 0) fun n61 =>
                                                        RDI .i64 (Addr.add ⟨B11, 0, none⟩ 1) fun n62 =>
                                                          R (.returned (.tuple #[(.agg #[(.int .i64 n61), (.int .i64 n62)]), (.int .i64 0)])))
                                              (fun e53 => R (.panicked e53))))
                                (fun e40 => R (.panicked e40)))
                          (fun e29 => R (.panicked e29))
theorem T_ref10_Place_eq (W : World) (n1 : Int) (n2 : Int) (x3 : Option Addr) (l4 : Nat) (c5 : Nat) (x6 : Option Addr) (l7 : Nat) (c8 : Nat) (n9 : Int) (R : Ending → Hp → Prop) : vfun Pg W an_19 Try.f19 [(.agg #[(.int .i64 n1), (.int .i64 n2), (.slice x3 l4 c5), (.slice x6 l7 c8)]), (.int .i64 n9)] R = T_ref10_Place W n1 n2 x3 l4 c5 x6 l7 c8 n9 R := by kernel_rfl
theorem does_ref10_Place (W : World) (n1 : Int) (n2 : Int) (x3 : Option Addr) (l4 : Nat) (c5 : Nat) (x6 : Option Addr) (l7 : Nat) (c8 : Nat) (n9 : Int) (R : Ending → Hp → Prop) (s : Hp) (h : T_ref10_Place W n1 n2 x3 l4 c5 x6 l7 c8 n9 R s) : Does Pg W F_ref10_Place #[(.agg #[(.int .i64 n1), (.int .i64 n2), (.slice x3 l4 c5), (.slice x6 l7 c8)]), (.int .i64 n9)] s R :=
  does_of_vfun Pg W an_19 Try.func19 rfl (by kernel_rfl) (by rw [T_ref10_Place_eq]; exact h)
def an_21 : Nat → Ann := fun b => match b with
  | 0 => { ms := [5, 6, 7], ks := [.i .i64, .i .i64, .i .i64], us := [1, 2, 3, 4, 37], rt := false, ex := [] }
  | _ => {}
abbrev rv_21 : List ResultVar := [.tmp 2, .tmp 3, .tmp 4]
abbrev rs_21 : List Nat := [37, 2, 3, 4]
def L_ref10_Winners_0 (W : World) (R : Ending → Hp → Prop) (za0 : Addr) (n21 : Int) (n22 : Int) (n23 : Int) : Hp → Prop :=
  LOOPN [.i .i64, .i .i64, .i .i64] (fun ys next s => ∀ j : Tm, vc Pg W 37 rs_21 an_21 false (sub (bodyOf Try.f21) [1, 1, 1, 0, 1, 0, 0]) 0 (KLoop [5, 6, 7] [1, 2, 3, 4, 37] [(.pointer (some za0)), (.int .i64 0), (.int .i64 0), (.int .i64 0), (.tuple #[])] next (KBlk 0 (KS Pg W 37 rs_21 an_21 false (sub (bodyOf Try.f21) [1, 1, 1, 1]) 0 (fin Pg W 37 rv_21 R)))) (known [5, 6, 7] ys (known [1, 2, 3, 4, 37] [(.pointer (some za0)), (.int .i64 0), (.int .i64 0), (.int .i64 0), (.tuple #[])] j)) s) [(.int .i64 n21), (.int .i64 n22), (.int .i64 n23)]
def J_ref10_Winners_0 (W : World) (R : Ending → Hp → Prop) (za0 : Addr) (nx0 : List Value → Hp → Prop) (n52 : Int) (n53 : Int) (n23 : Int) : Hp → Prop :=
  NX [(.pointer (some za0)), (.int .i64 0), (.int .i64 0), (.int .i64 0), (.tuple #[])] [(.pointer (some za0)), (.int .i64 0), (.int .i64 0), (.int .i64 0), (.tuple #[])] (nx0 [(.int .i64 n52), (.int .i64 n53), (.int .i64 (IntKind.wrap .i64 (n23 + 1)))])
def J_ref10_Winners_1 (W : World) (R : Ending → Hp → Prop) (B42 : Nat) (n23 : Int) (za0 : Addr) (nx0 : List Value → Hp → Prop) (n47 : Int) (n22 : Int) : Hp → Prop :=
  RDI .i64 (Addr.add ⟨B42, 0, none⟩ 0) fun n48 =>
    BR (n48 == 1)
      (CALL Pg W F_ref10_power [(.int .i64 n23)]
        (fun v49 => TYI .i64 v49 fun n51 =>
          J_ref10_Winners_0 W R za0 nx0 n47 (IntKind.wrap .i64 (n22 + n51)) n23)
          (fun e50 => R (.panicked e50)))
      (J_ref10_Winners_0 W R za0 nx0 n47 n22 n23)
def B_ref10_Winners_0 (W : World) (R : Ending → Hp → Prop) (za0 : Addr) (n21 : Int) (n22 : Int) (n23 : Int) (nx0 : List Value → Hp → Prop) : Hp → Prop :=
  RDI .i64 (Addr.add za0 0) fun n24 =>
    BR (decide (n23 < n24))
      (RDI .i64 (Addr.add za0 0) fun n25 =>
        RDI .i64 (Addr.add za0 1) fun n26 =>
          RDL (Addr.add za0 2) fun x27 l28 c29 =>
            RDL (Addr.add za0 3) fun x30 l31 c32 =>
              CALL Pg W F_ref10_place [(.agg #[(.int .i64 n25), (.int .i64 n26), (.slice x27 l28 c29), (.slice x30 l31 c32)]), (.int .i64 n23)]
                (fun v33 => AGG v33 fun q35 => HD q35 fun v36 r37 => TYI .i64 v36 fun n38 =>
                  HD r37 fun v39 r40 => TYI .i64 v39 fun n41 =>
                    NL r40 <|
                      NEWZ Pg 29 fun B42 =>
                        WR (Addr.add ⟨B42, 0, none⟩ 0) (.int .i64 n38) <|
                          WR (Addr.add ⟨B42, 0, none⟩ 1) (.int .i64 n41) <|
                            RDI .i64 (Addr.add ⟨B42, 0, none⟩ 1) fun n43 =>
                              BR (n43 == 1)
                                (CALL Pg W F_ref10_power [(.int .i64 n23)]
                                  (fun v44 => TYI .i64 v44 fun n46 =>
                                    J_ref10_Winners_1 W R B42 n23 za0 nx0 (IntKind.wrap .i64 (n21 + n46)) n22)
                                    (fun e45 => R (.panicked e45)))
                                (J_ref10_Winners_1 W R B42 n23 za0 nx0 n21 n22))
                  (fun e34 => R (.panicked e34)))
      (R (.returned (.tuple #[(.int .i64 n21), (.int .i64 n22), (.int .i64 0)])))
theorem B_ref10_Winners_0_eq (W : World) (R : Ending → Hp → Prop) (za0 : Addr) (n21 : Int) (n22 : Int) (n23 : Int) (nx0 : List Value → Hp → Prop) (j : Tm) : vc Pg W 37 rs_21 an_21 false (sub (bodyOf Try.f21) [1, 1, 1, 0, 1, 0, 0]) 0 (KLoop [5, 6, 7] [1, 2, 3, 4, 37] [(.pointer (some za0)), (.int .i64 0), (.int .i64 0), (.int .i64 0), (.tuple #[])] nx0 (KBlk 0 (KS Pg W 37 rs_21 an_21 false (sub (bodyOf Try.f21) [1, 1, 1, 1]) 0 (fin Pg W 37 rv_21 R)))) (known [5, 6, 7] [(.int .i64 n21), (.int .i64 n22), (.int .i64 n23)] (known [1, 2, 3, 4, 37] [(.pointer (some za0)), (.int .i64 0), (.int .i64 0), (.int .i64 0), (.tuple #[])] j)) = B_ref10_Winners_0 W R za0 n21 n22 n23 nx0 := by kernel_rfl
def N_ref10_Winners_0 (I : Int → Int → Int → Hp → Prop) (μ : Int → Int → Int → Hp → Nat) (n210 : Int) (n220 : Int) (n230 : Int) (s : Hp) (vs : List Value) : Hp → Prop := fun s' => ∃ n21 n22 n23, vs = [(.int .i64 n21), (.int .i64 n22), (.int .i64 n23)] ∧ I n21 n22 n23 s' ∧ μ n21 n22 n23 s' < μ n210 n220 n230 s
theorem L_ref10_Winners_0_rule (W : World) (R : Ending → Hp → Prop) (za0 : Addr) (I : Int → Int → Int → Hp → Prop) (μ : Int → Int → Int → Hp → Nat) (n210 : Int) (n220 : Int) (n230 : Int) (s : Hp) (h0 : I n210 n220 n230 s)
    (hr : ∀ (n21 : Int) (n22 : Int) (n23 : Int) (s : Hp), I n21 n22 n23 s → B_ref10_Winners_0 W R za0 n21 n22 n23 (fun vs => N_ref10_Winners_0 I μ n21 n22 n23 s vs) s) : L_ref10_Winners_0 W R za0 n210 n220 n230 s := by
  refine ⟨fun vs s => ∃ n21 n22 n23, vs = [(.int .i64 n21), (.int .i64 n22), (.int .i64 n23)] ∧ I n21 n22 n23 s, fun vs s => (match vs with | [.int _ n21, .int _ n22, .int _ n23] => μ n21 n22 n23 s | _ => 0), ⟨⟨⟨_, rfl⟩, ⟨⟨_, rfl⟩, ⟨⟨_, rfl⟩, trivial⟩⟩⟩, ⟨_, _, _, rfl, h0⟩⟩, ?_⟩
  intro n21 n22 n23 s hI j
  obtain ⟨n21', n22', n23', hy, hI⟩ := hI
  have hI' : I n21 n22 n23 s := by cases hy; exact hI
  have hh := hr n21 n22 n23 s hI'
  rw [← B_ref10_Winners_0_eq W R za0 n21 n22 n23 _ j] at hh
  refine vc_mono ?_ _ _ hh
  exact KLoop_mono (fun vs s' h => by obtain ⟨n211, n221, n231, rfl, h1, h2⟩ := h; exact ⟨⟨⟨_, rfl⟩, ⟨⟨_, rfl⟩, ⟨⟨_, rfl⟩, trivial⟩⟩⟩, ⟨_, _, _, rfl, h1⟩, h2⟩)
def T_ref10_Winners (W : World) (n1 : Int) (n2 : Int) (x3 : Option Addr) (l4 : Nat) (c5 : Nat) (x6 : Option Addr) (l7 : Nat) (c8 : Nat) (R : Ending → Hp → Prop) : Hp → Prop :=
  NEW 25 [(.int .i64 n1), (.int .i64 n2), (.slice x3 l4 c5), (.slice x6 l7 c8)] fun B9 =>
    RDI .i64 (Addr.add ⟨B9, 0, none⟩ 0) fun n10 =>
      RDI .i64 (Addr.add ⟨B9, 0, none⟩ 1) fun n11 =>
        RDL (Addr.add ⟨B9, 0, none⟩ 2) fun x12 l13 c14 =>
          RDL (Addr.add ⟨B9, 0, none⟩ 3) fun x15 l16 c17 =>
            CALL Pg W F_ref10_Table [(.agg #[(.int .i64 n10), (.int .i64 n11), (.slice x12 l13 c14), (.slice x15 l16 c17)])]
              (fun v18 => TYB v18 fun b20 =>
                BR (!b20)
                  (R (.returned (.tuple #[(.int .i64 0), (.int .i64 0), (.int .i64 1)])))
                  (L_ref10_Winners_0 W R ⟨B9, 0, none⟩ 0 0 0))
                (fun e19 => R (.panicked e19))
theorem T_ref10_Winners_eq (W : World) (n1 : Int) (n2 : Int) (x3 : Option Addr) (l4 : Nat) (c5 : Nat) (x6 : Option Addr) (l7 : Nat) (c8 : Nat) (R : Ending → Hp → Prop) : vfun Pg W an_21 Try.f21 [(.agg #[(.int .i64 n1), (.int .i64 n2), (.slice x3 l4 c5), (.slice x6 l7 c8)])] R = T_ref10_Winners W n1 n2 x3 l4 c5 x6 l7 c8 R := by kernel_rfl
theorem does_ref10_Winners (W : World) (n1 : Int) (n2 : Int) (x3 : Option Addr) (l4 : Nat) (c5 : Nat) (x6 : Option Addr) (l7 : Nat) (c8 : Nat) (R : Ending → Hp → Prop) (s : Hp) (h : T_ref10_Winners W n1 n2 x3 l4 c5 x6 l7 c8 R s) : Does Pg W F_ref10_Winners #[(.agg #[(.int .i64 n1), (.int .i64 n2), (.slice x3 l4 c5), (.slice x6 l7 c8)])] s R :=
  does_of_vfun Pg W an_21 Try.func21 rfl (by kernel_rfl) (by rw [T_ref10_Winners_eq]; exact h)
def an_23 : Nat → Ann := fun b => match b with
  | 0 => { ms := [9, 10], ks := [.b, .i .i64], us := [1, 2, 3, 6, 7, 71], rt := false, ex := [] }
  | _ => {}
abbrev rv_23 : List ResultVar := [.tmp 6, .tmp 7]
abbrev rs_23 : List Nat := [71, 6, 7]
def L_ref10_Equal_0 (W : World) (R : Ending → Hp → Prop) (zn0 : Int) (zn1 : Int) (za2 : Addr) (b97 : Bool) (n98 : Int) : Hp → Prop :=
  LOOPN [.b, .i .i64] (fun ys next s => ∀ j : Tm, vc Pg W 71 rs_23 an_23 false (sub (bodyOf Try.f23) [1, 1, 1, 1, 0, 1, 0, 0]) 0 (KLoop [9, 10] [1, 2, 3, 6, 7, 71] [(.int .i64 zn0), (.int .i64 zn1), (.pointer (some za2)), (.bool false), (.int .i64 0), (.tuple #[])] next (KBlk 0 (KS Pg W 71 rs_23 an_23 false (sub (bodyOf Try.f23) [1, 1, 1, 1, 1]) 0 (fin Pg W 71 rv_23 R)))) (known [9, 10] ys (known [1, 2, 3, 6, 7, 71] [(.int .i64 zn0), (.int .i64 zn1), (.pointer (some za2)), (.bool false), (.int .i64 0), (.tuple #[])] j)) s) [(.bool b97), (.int .i64 n98)]
def J_ref10_Equal_0 (W : World) (R : Ending → Hp → Prop) (n58 : Int) (n59 : Int) (x60 : Option Addr) (l61 : Nat) (c62 : Nat) (x63 : Option Addr) (l64 : Nat) (c65 : Nat) (b83 : Bool) (B11 : Nat) (n9 : Int) (n10 : Int) : Hp → Prop :=
  CALL Pg W F_ref10_check [(.agg #[(.int .i64 n58), (.int .i64 n59), (.slice x60 l61 c62), (.slice x63 l64 c65)]), (.bool b83)]
    (fun v84 => TYI .i64 v84 fun n86 =>
      BR (n86 != 0)
        (R (.returned (.tuple #[(.bool false), (.int .i64 n86)])))
        (RDL (Addr.add ⟨B11, 0, none⟩ 2) fun x87 l88 c89 =>
          IXS x87 l88 n9 1 fun a90 =>
            RDI .i64 a90 fun n91 =>
              RDL (Addr.add ⟨B11, 0, none⟩ 2) fun x92 l93 c94 =>
                IXS x92 l93 n10 1 fun a95 =>
                  RDI .i64 a95 fun n96 =>
                    L_ref10_Equal_0 W R n9 n10 ⟨B11, 0, none⟩ (n91 == n96) 0))
      (fun e85 => R (.panicked e85))
def J_ref10_Equal_1 (W : World) (R : Ending → Hp → Prop) (zn0 : Int) (zn1 : Int) (za2 : Addr) (nx0 : List Value → Hp → Prop) (b186 : Bool) (n98 : Int) : Hp → Prop :=
  NX [(.int .i64 zn0), (.int .i64 zn1), (.pointer (some za2)), (.bool false), (.int .i64 0), (.tuple #[])] [(.int .i64 zn0), (.int .i64 zn1), (.pointer (some za2)), (.bool false), (.int .i64 0), (.tuple #[])] (nx0 [(.bool b186), (.int .i64 (IntKind.wrap .i64 (n98 + 1)))])
def J_ref10_Equal_2 (W : World) (R : Ending → Hp → Prop) (b97 : Bool) (p176 : Option Addr) (p177 : Option Addr) (zn0 : Int) (zn1 : Int) (za2 : Addr) (nx0 : List Value → Hp → Prop) (n98 : Int) : Hp → Prop :=
  BR b97
    (SO p176 fun a178 =>
      RDI .i64 (Addr.add a178 0) fun n179 =>
        SO p177 fun a180 =>
          RDI .i64 (Addr.add a180 0) fun n181 =>
            SO p176 fun a182 =>
              RDI .i64 (Addr.add a182 1) fun n183 =>
                SO p177 fun a184 =>
                  RDI .i64 (Addr.add a184 1) fun n185 =>
                    J_ref10_Equal_1 W R zn0 zn1 za2 nx0 (decide ((if n181 > n179 then n181 else n179) ≤ (if n185 < n183 then n185 else n183))) n98)
    (J_ref10_Equal_1 W R zn0 zn1 za2 nx0 false n98)
def B_ref10_Equal_0 (W : World) (R : Ending → Hp → Prop) (zn0 : Int) (zn1 : Int) (za2 : Addr) (b97 : Bool) (n98 : Int) (nx0 : List Value → Hp → Prop) : Hp → Prop :=
  RDI .i64 (Addr.add za2 1) fun n99 =>
    BR (decide (n98 < n99))
      (RDI .i64 (Addr.add za2 0) fun n100 =>
        RDI .i64 (Addr.add za2 1) fun n101 =>
          RDL (Addr.add za2 2) fun x102 l103 c104 =>
            RDL (Addr.add za2 3) fun x105 l106 c107 =>
              RDI .i64 (Addr.add za2 0) fun n108 =>
                RDI .i64 (Addr.add za2 1) fun n109 =>
                  RDL (Addr.add za2 2) fun x110 l111 c112 =>
                    RDL (Addr.add za2 3) fun x113 l114 c115 =>
                      CONJ [
                        CALL Pg W F_ref10_Points [(.agg #[(.int .i64 n100), (.int .i64 n101), (.slice x102 l103 c104), (.slice x105 l106 c107)]), (.int .i64 zn0), (.int .i64 n98)]
                          (fun v116 => AGG v116 fun q118 => HD q118 fun v119 r120 => TYI .i64 v119 fun n121 =>
                            HD r120 fun v122 r123 => TYI .i64 v122 fun n124 =>
                              NL r123 <|
                                ANDS (RDI .i64 (Addr.add za2 0) fun n125 =>
                                  RDI .i64 (Addr.add za2 1) fun n126 =>
                                    RDL (Addr.add za2 2) fun x127 l128 c129 =>
                                      RDL (Addr.add za2 3) fun x130 l131 c132 =>
                                        fun _ => ((.agg #[(.int .i64 n125), (.int .i64 n126), (.slice x127 l128 c129), (.slice x130 l131 c132)]) : Value) = (.agg #[(.int .i64 n108), (.int .i64 n109), (.slice x110 l111 c112), (.slice x113 l114 c115)])) <|
                                  CONJ [
                                    CALL Pg W F_ref10_Points [(.agg #[(.int .i64 n108), (.int .i64 n109), (.slice x110 l111 c112), (.slice x113 l114 c115)]), (.int .i64 zn1), (.int .i64 n98)]
                                      (fun v133 => AGG v133 fun q135 => HD q135 fun v136 r137 => TYI .i64 v136 fun n138 =>
                                        HD r137 fun v139 r140 => TYI .i64 v139 fun n141 =>
                                          NL r140 <|
                                            CONJ [
                                              NEWZ Pg 29 fun B142 =>
                                                ANDS (RDI .i64 (Addr.add za2 0) fun n143 =>
                                                  RDI .i64 (Addr.add za2 1) fun n144 =>
                                                    RDL (Addr.add za2 2) fun x145 l146 c147 =>
                                                      RDL (Addr.add za2 3) fun x148 l149 c150 =>
                                                        fun _ => ((.agg #[(.int .i64 n143), (.int .i64 n144), (.slice x145 l146 c147), (.slice x148 l149 c150)]) : Value) = (.agg #[(.int .i64 n108), (.int .i64 n109), (.slice x110 l111 c112), (.slice x113 l114 c115)])) <|
                                                  ANDS (RDI .i64 (Addr.add za2 0) fun n151 =>
                                                    RDI .i64 (Addr.add za2 1) fun n152 =>
                                                      RDL (Addr.add za2 2) fun x153 l154 c155 =>
                                                        RDL (Addr.add za2 3) fun x156 l157 c158 =>
                                                          fun _ => ((.agg #[(.int .i64 n151), (.int .i64 n152), (.slice x153 l154 c155), (.slice x156 l157 c158)]) : Value) = (.agg #[(.int .i64 n100), (.int .i64 n101), (.slice x102 l103 c104), (.slice x105 l106 c107)])) <|
                                                    NEWZ Pg 29 fun B159 =>
                                                      ANDS (RDI .i64 (Addr.add za2 0) fun n160 =>
                                                        RDI .i64 (Addr.add za2 1) fun n161 =>
                                                          RDL (Addr.add za2 2) fun x162 l163 c164 =>
                                                            RDL (Addr.add za2 3) fun x165 l166 c167 =>
                                                              fun _ => ((.agg #[(.int .i64 n160), (.int .i64 n161), (.slice x162 l163 c164), (.slice x165 l166 c167)]) : Value) = (.agg #[(.int .i64 n108), (.int .i64 n109), (.slice x110 l111 c112), (.slice x113 l114 c115)])) <|
                                                        ANDS (RDI .i64 (Addr.add za2 0) fun n168 =>
                                                          RDI .i64 (Addr.add za2 1) fun n169 =>
                                                            RDL (Addr.add za2 2) fun x170 l171 c172 =>
                                                              RDL (Addr.add za2 3) fun x173 l174 c175 =>
                                                                fun _ => ((.agg #[(.int .i64 n168), (.int .i64 n169), (.slice x170 l171 c172), (.slice x173 l174 c175)]) : Value) = (.agg #[(.int .i64 n100), (.int .i64 n101), (.slice x102 l103 c104), (.slice x105 l106 c107)])) <|
                                                          WR (Addr.add ⟨B142, 0, none⟩ 0) (.int .i64 n121) <|
                                                            WR (Addr.add ⟨B142, 0, none⟩ 1) (.int .i64 n124) <|
                                                              WR (Addr.add ⟨B159, 0, none⟩ 0) (.int .i64 n138) <|
                                                                WR (Addr.add ⟨B159, 0, none⟩ 1) (.int .i64 n141) <|
                                                                  J_ref10_Equal_2 W R b97 (some ⟨B142, 0, none⟩) (some ⟨B159, 0, none⟩) zn0 zn1 za2 nx0 n98,
                                              NEWZ Pg 29 fun B187 =>
                                                ANDS (RDI .i64 (Addr.add za2 0) fun n188 =>
                                                  RDI .i64 (Addr.add za2 1) fun n189 =>
                                                    RDL (Addr.add za2 2) fun x190 l191 c192 =>
                                                      RDL (Addr.add za2 3) fun x193 l194 c195 =>
                                                        fun _ => ((.agg #[(.int .i64 n188), (.int .i64 n189), (.slice x190 l191 c192), (.slice x193 l194 c195)]) : Value) = (.agg #[(.int .i64 n108), (.int .i64 n109), (.slice x110 l111 c112), (.slice x113 l114 c115)])) <|
                                                  ANDS (RDI .i64 (Addr.add za2 0) fun n196 =>
                                                    RDI .i64 (Addr.add za2 1) fun n197 =>
                                                      RDL (Addr.add za2 2) fun x198 l199 c200 =>
                                                        RDL (Addr.add za2 3) fun x201 l202 c203 =>
                                                          fun _ => ((.agg #[(.int .i64 n196), (.int .i64 n197), (.slice x198 l199 c200), (.slice x201 l202 c203)]) : Value) = (.agg #[(.int .i64 n100), (.int .i64 n101), (.slice x102 l103 c104), (.slice x105 l106 c107)])) <|
                                                    NEWZ Pg 29 fun B204 =>
                                                      ANDS (RDI .i64 (Addr.add za2 0) fun n205 =>
                                                        RDI .i64 (Addr.add za2 1) fun n206 =>
                                                          RDL (Addr.add za2 2) fun x207 l208 c209 =>
                                                            RDL (Addr.add za2 3) fun x210 l211 c212 =>
                                                              fun _ => ((.agg #[(.int .i64 n205), (.int .i64 n206), (.slice x207 l208 c209), (.slice x210 l211 c212)]) : Value) = (.agg #[(.int .i64 n108), (.int .i64 n109), (.slice x110 l111 c112), (.slice x113 l114 c115)])) <|
                                                        ANDS (RDI .i64 (Addr.add za2 0) fun n213 =>
                                                          RDI .i64 (Addr.add za2 1) fun n214 =>
                                                            RDL (Addr.add za2 2) fun x215 l216 c217 =>
                                                              RDL (Addr.add za2 3) fun x218 l219 c220 =>
                                                                fun _ => ((.agg #[(.int .i64 n213), (.int .i64 n214), (.slice x215 l216 c217), (.slice x218 l219 c220)]) : Value) = (.agg #[(.int .i64 n100), (.int .i64 n101), (.slice x102 l103 c104), (.slice x105 l106 c107)])) <|
                                                          WR (Addr.add ⟨B204, 0, none⟩ 0) (.int .i64 n121) <|
                                                            WR (Addr.add ⟨B204, 0, none⟩ 1) (.int .i64 n124) <|
                                                              WR (Addr.add ⟨B187, 0, none⟩ 0) (.int .i64 n138) <|
                                                                WR (Addr.add ⟨B187, 0, none⟩ 1) (.int .i64 n141) <|
                                                                  J_ref10_Equal_2 W R b97 (some ⟨B204, 0, none⟩) (some ⟨B187, 0, none⟩) zn0 zn1 za2 nx0 n98])
                                        (fun e134 => R (.panicked e134)),
                                    NEWZ Pg 29 fun B221 =>
                                      ANDS (RDI .i64 (Addr.add za2 0) fun n222 =>
                                        RDI .i64 (Addr.add za2 1) fun n223 =>
                                          RDL (Addr.add za2 2) fun x224 l225 c226 =>
                                            RDL (Addr.add za2 3) fun x227 l228 c229 =>
                                              fun _ => ((.agg #[(.int .i64 n222), (.int .i64 n223), (.slice x224 l225 c226), (.slice x227 l228 c229)]) : Value) = (.agg #[(.int .i64 n108), (.int .i64 n109), (.slice x110 l111 c112), (.slice x113 l114 c115)])) <|
                                        ANDS (RDI .i64 (Addr.add za2 0) fun n230 =>
                                          RDI .i64 (Addr.add za2 1) fun n231 =>
                                            RDL (Addr.add za2 2) fun x232 l233 c234 =>
                                              RDL (Addr.add za2 3) fun x235 l236 c237 =>
                                                fun _ => ((.agg #[(.int .i64 n230), (.int .i64 n231), (.slice x232 l233 c234), (.slice x235 l236 c237)]) : Value) = (.agg #[(.int .i64 n100), (.int .i64 n101), (.slice x102 l103 c104), (.slice x105 l106 c107)])) <|
                                          CONJ [
                                            CALL Pg W F_ref10_Points [(.agg #[(.int .i64 n108), (.int .i64 n109), (.slice x110 l111 c112), (.slice x113 l114 c115)]), (.int .i64 zn1), (.int .i64 n98)]
                                              (fun v238 => AGG v238 fun q240 => HD q240 fun v241 r242 => TYI .i64 v241 fun n243 =>
                                                HD r242 fun v244 r245 => TYI .i64 v244 fun n246 =>
                                                  NL r245 <|
                                                    NEWZ Pg 29 fun B247 =>
                                                      ANDS (RDI .i64 (Addr.add za2 0) fun n248 =>
                                                        RDI .i64 (Addr.add za2 1) fun n249 =>
                                                          RDL (Addr.add za2 2) fun x250 l251 c252 =>
                                                            RDL (Addr.add za2 3) fun x253 l254 c255 =>
                                                              fun _ => ((.agg #[(.int .i64 n248), (.int .i64 n249), (.slice x250 l251 c252), (.slice x253 l254 c255)]) : Value) = (.agg #[(.int .i64 n108), (.int .i64 n109), (.slice x110 l111 c112), (.slice x113 l114 c115)])) <|
                                                        ANDS (RDI .i64 (Addr.add za2 0) fun n256 =>
                                                          RDI .i64 (Addr.add za2 1) fun n257 =>
                                                            RDL (Addr.add za2 2) fun x258 l259 c260 =>
                                                              RDL (Addr.add za2 3) fun x261 l262 c263 =>
                                                                fun _ => ((.agg #[(.int .i64 n256), (.int .i64 n257), (.slice x258 l259 c260), (.slice x261 l262 c263)]) : Value) = (.agg #[(.int .i64 n100), (.int .i64 n101), (.slice x102 l103 c104), (.slice x105 l106 c107)])) <|
                                                          WR (Addr.add ⟨B221, 0, none⟩ 0) (.int .i64 n121) <|
                                                            WR (Addr.add ⟨B221, 0, none⟩ 1) (.int .i64 n124) <|
                                                              WR (Addr.add ⟨B247, 0, none⟩ 0) (.int .i64 n243) <|
                                                                WR (Addr.add ⟨B247, 0, none⟩ 1) (.int .i64 n246) <|
                                                                  J_ref10_Equal_2 W R b97 (some ⟨B221, 0, none⟩) (some ⟨B247, 0, none⟩) zn0 zn1 za2 nx0 n98)
                                                (fun e239 => R (.panicked e239)),
                                            NEWZ Pg 29 fun B264 =>
                                              ANDS (RDI .i64 (Addr.add za2 0) fun n265 =>
                                                RDI .i64 (Addr.add za2 1) fun n266 =>
                                                  RDL (Addr.add za2 2) fun x267 l268 c269 =>
                                                    RDL (Addr.add za2 3) fun x270 l271 c272 =>
                                                      fun _ => ((.agg #[(.int .i64 n265), (.int .i64 n266), (.slice x267 l268 c269), (.slice x270 l271 c272)]) : Value) = (.agg #[(.int .i64 n108), (.int .i64 n109), (.slice x110 l111 c112), (.slice x113 l114 c115)])) <|
                                                ANDS (RDI .i64 (Addr.add za2 0) fun n273 =>
                                                  RDI .i64 (Addr.add za2 1) fun n274 =>
                                                    RDL (Addr.add za2 2) fun x275 l276 c277 =>
                                                      RDL (Addr.add za2 3) fun x278 l279 c280 =>
                                                        fun _ => ((.agg #[(.int .i64 n273), (.int .i64 n274), (.slice x275 l276 c277), (.slice x278 l279 c280)]) : Value) = (.agg #[(.int .i64 n100), (.int .i64 n101), (.slice x102 l103 c104), (.slice x105 l106 c107)])) <|
                                                  CALL Pg W F_ref10_Points [(.agg #[(.int .i64 n108), (.int .i64 n109), (.slice x110 l111 c112), (.slice x113 l114 c115)]), (.int .i64 zn1), (.int .i64 n98)]
                                                    (fun v281 => AGG v281 fun q283 => HD q283 fun v284 r285 => TYI .i64 v284 fun n286 =>
                                                      HD r285 fun v287 r288 => TYI .i64 v287 fun n289 =>
                                                        NL r288 <|
                                                          WR (Addr.add ⟨B221, 0, none⟩ 0) (.int .i64 n121) <|
                                                            WR (Addr.add ⟨B221, 0, none⟩ 1) (.int .i64 n124) <|
                                                              WR (Addr.add ⟨B264, 0, none⟩ 0) (.int .i64 n286) <|
                                                                WR (Addr.add ⟨B264, 0, none⟩ 1) (.int .i64 n289) <|
                                                                  J_ref10_Equal_2 W R b97 (some ⟨B221, 0, none⟩) (some ⟨B264, 0, none⟩) zn0 zn1 za2 nx0 n98)
                                                      (fun e282 => R (.panicked e282))],
                                    NEWZ Pg 29 fun B290 =>
                                      ANDS (RDI .i64 (Addr.add za2 0) fun n291 =>
                                        RDI .i64 (Addr.add za2 1) fun n292 =>
                                          RDL (Addr.add za2 2) fun x293 l294 c295 =>
                                            RDL (Addr.add za2 3) fun x296 l297 c298 =>
                                              fun _ => ((.agg #[(.int .i64 n291), (.int .i64 n292), (.slice x293 l294 c295), (.slice x296 l297 c298)]) : Value) = (.agg #[(.int .i64 n108), (.int .i64 n109), (.slice x110 l111 c112), (.slice x113 l114 c115)])) <|
                                        ANDS (RDI .i64 (Addr.add za2 0) fun n299 =>
                                          RDI .i64 (Addr.add za2 1) fun n300 =>
                                            RDL (Addr.add za2 2) fun x301 l302 c303 =>
                                              RDL (Addr.add za2 3) fun x304 l305 c306 =>
                                                fun _ => ((.agg #[(.int .i64 n299), (.int .i64 n300), (.slice x301 l302 c303), (.slice x304 l305 c306)]) : Value) = (.agg #[(.int .i64 n100), (.int .i64 n101), (.slice x102 l103 c104), (.slice x105 l106 c107)])) <|
                                          CONJ [
                                            CALL Pg W F_ref10_Points [(.agg #[(.int .i64 n108), (.int .i64 n109), (.slice x110 l111 c112), (.slice x113 l114 c115)]), (.int .i64 zn1), (.int .i64 n98)]
                                              (fun v307 => AGG v307 fun q309 => HD q309 fun v310 r311 => TYI .i64 v310 fun n312 =>
                                                HD r311 fun v313 r314 => TYI .i64 v313 fun n315 =>
                                                  NL r314 <|
                                                    NEWZ Pg 29 fun B316 =>
                                                      ANDS (RDI .i64 (Addr.add za2 0) fun n317 =>
                                                        RDI .i64 (Addr.add za2 1) fun n318 =>
                                                          RDL (Addr.add za2 2) fun x319 l320 c321 =>
                                                            RDL (Addr.add za2 3) fun x322 l323 c324 =>
                                                              fun _ => ((.agg #[(.int .i64 n317), (.int .i64 n318), (.slice x319 l320 c321), (.slice x322 l323 c324)]) : Value) = (.agg #[(.int .i64 n108), (.int .i64 n109), (.slice x110 l111 c112), (.slice x113 l114 c115)])) <|
                                                        ANDS (RDI .i64 (Addr.add za2 0) fun n325 =>
                                                          RDI .i64 (Addr.add za2 1) fun n326 =>
                                                            RDL (Addr.add za2 2) fun x327 l328 c329 =>
                                                              RDL (Addr.add za2 3) fun x330 l331 c332 =>
                                                                fun _ => ((.agg #[(.int .i64 n325), (.int .i64 n326), (.slice x327 l328 c329), (.slice x330 l331 c332)]) : Value) = (.agg #[(.int .i64 n100), (.int .i64 n101), (.slice x102 l103 c104), (.slice x105 l106 c107)])) <|
                                                          WR (Addr.add ⟨B316, 0, none⟩ 0) (.int .i64 n121) <|
                                                            WR (Addr.add ⟨B316, 0, none⟩ 1) (.int .i64 n124) <|
                                                              WR (Addr.add ⟨B290, 0, none⟩ 0) (.int .i64 n312) <|
                                                                WR (Addr.add ⟨B290, 0, none⟩ 1) (.int .i64 n315) <|
                                                                  J_ref10_Equal_2 W R b97 (some ⟨B316, 0, none⟩) (some ⟨B290, 0, none⟩) zn0 zn1 za2 nx0 n98)
                                                (fun e308 => R (.panicked e308)),
                                            NEWZ Pg 29 fun B333 =>
                                              ANDS (RDI .i64 (Addr.add za2 0) fun n334 =>
                                                RDI .i64 (Addr.add za2 1) fun n335 =>
                                                  RDL (Addr.add za2 2) fun x336 l337 c338 =>
                                                    RDL (Addr.add za2 3) fun x339 l340 c341 =>
                                                      fun _ => ((.agg #[(.int .i64 n334), (.int .i64 n335), (.slice x336 l337 c338), (.slice x339 l340 c341)]) : Value) = (.agg #[(.int .i64 n108), (.int .i64 n109), (.slice x110 l111 c112), (.slice x113 l114 c115)])) <|
                                                ANDS (RDI .i64 (Addr.add za2 0) fun n342 =>
                                                  RDI .i64 (Addr.add za2 1) fun n343 =>
                                                    RDL (Addr.add za2 2) fun x344 l345 c346 =>
                                                      RDL (Addr.add za2 3) fun x347 l348 c349 =>
                                                        fun _ => ((.agg #[(.int .i64 n342), (.int .i64 n343), (.slice x344 l345 c346), (.slice x347 l348 c349)]) : Value) = (.agg #[(.int .i64 n100), (.int .i64 n101), (.slice x102 l103 c104), (.slice x105 l106 c107)])) <|
                                                  CALL Pg W F_ref10_Points [(.agg #[(.int .i64 n108), (.int .i64 n109), (.slice x110 l111 c112), (.slice x113 l114 c115)]), (.int .i64 zn1), (.int .i64 n98)]
                                                    (fun v350 => AGG v350 fun q352 => HD q352 fun v353 r354 => TYI .i64 v353 fun n355 =>
                                                      HD r354 fun v356 r357 => TYI .i64 v356 fun n358 =>
                                                        NL r357 <|
                                                          WR (Addr.add ⟨B333, 0, none⟩ 0) (.int .i64 n121) <|
                                                            WR (Addr.add ⟨B333, 0, none⟩ 1) (.int .i64 n124) <|
                                                              WR (Addr.add ⟨B290, 0, none⟩ 0) (.int .i64 n355) <|
                                                                WR (Addr.add ⟨B290, 0, none⟩ 1) (.int .i64 n358) <|
                                                                  J_ref10_Equal_2 W R b97 (some ⟨B333, 0, none⟩) (some ⟨B290, 0, none⟩) zn0 zn1 za2 nx0 n98)
                                                      (fun e351 => R (.panicked e351))]])
                            (fun e117 => R (.panicked e117)),
                        NEWZ Pg 29 fun B359 =>
                          ANDS (RDI .i64 (Addr.add za2 0) fun n360 =>
                            RDI .i64 (Addr.add za2 1) fun n361 =>
                              RDL (Addr.add za2 2) fun x362 l363 c364 =>
                                RDL (Addr.add za2 3) fun x365 l366 c367 =>
                                  fun _ => ((.agg #[(.int .i64 n360), (.int .i64 n361), (.slice x362 l363 c364), (.slice x365 l366 c367)]) : Value) = (.agg #[(.int .i64 n108), (.int .i64 n109), (.slice x110 l111 c112), (.slice x113 l114 c115)])) <|
                            ANDS (RDI .i64 (Addr.add za2 0) fun n368 =>
                              RDI .i64 (Addr.add za2 1) fun n369 =>
                                RDL (Addr.add za2 2) fun x370 l371 c372 =>
                                  RDL (Addr.add za2 3) fun x373 l374 c375 =>
                                    fun _ => ((.agg #[(.int .i64 n368), (.int .i64 n369), (.slice x370 l371 c372), (.slice x373 l374 c375)]) : Value) = (.agg #[(.int .i64 n100), (.int .i64 n101), (.slice x102 l103 c104), (.slice x105 l106 c107)])) <|
                              CONJ [
                                CALL Pg W F_ref10_Points [(.agg #[(.int .i64 n100), (.int .i64 n101), (.slice x102 l103 c104), (.slice x105 l106 c107)]), (.int .i64 zn0), (.int .i64 n98)]
                                  (fun v376 => AGG v376 fun q378 => HD q378 fun v379 r380 => TYI .i64 v379 fun n381 =>
                                    HD r380 fun v382 r383 => TYI .i64 v382 fun n384 =>
                                      NL r383 <|
                                        ANDS (RDI .i64 (Addr.add za2 0) fun n385 =>
                                          RDI .i64 (Addr.add za2 1) fun n386 =>
                                            RDL (Addr.add za2 2) fun x387 l388 c389 =>
                                              RDL (Addr.add za2 3) fun x390 l391 c392 =>
                                                fun _ => ((.agg #[(.int .i64 n385), (.int .i64 n386), (.slice x387 l388 c389), (.slice x390 l391 c392)]) : Value) = (.agg #[(.int .i64 n108), (.int .i64 n109), (.slice x110 l111 c112), (.slice x113 l114 c115)])) <|
                                          CONJ [
                                            CALL Pg W F_ref10_Points [(.agg #[(.int .i64 n108), (.int .i64 n109), (.slice x110 l111 c112), (.slice x113 l114 c115)]), (.int .i64 zn1), (.int .i64 n98)]
                                              (fun v393 => AGG v393 fun q395 => HD q395 fun v396 r397 => TYI .i64 v396 fun n398 =>
                                                HD r397 fun v399 r400 => TYI .i64 v399 fun n401 =>
                                                  NL r400 <|
                                                    NEWZ Pg 29 fun B402 =>
                                                      ANDS (RDI .i64 (Addr.add za2 0) fun n403 =>
                                                        RDI .i64 (Addr.add za2 1) fun n404 =>
                                                          RDL (Addr.add za2 2) fun x405 l406 c407 =>
                                                            RDL (Addr.add za2 3) fun x408 l409 c410 =>
                                                              fun _ => ((.agg #[(.int .i64 n403), (.int .i64 n404), (.slice x405 l406 c407), (.slice x408 l409 c410)]) : Value) = (.agg #[(.int .i64 n108), (.int .i64 n109), (.slice x110 l111 c112), (.slice x113 l114 c115)])) <|
                                                        ANDS (RDI .i64 (Addr.add za2 0) fun n411 =>
                                                          RDI .i64 (Addr.add za2 1) fun n412 =>
                                                            RDL (Addr.add za2 2) fun x413 l414 c415 =>
                                                              RDL (Addr.add za2 3) fun x416 l417 c418 =>
                                                                fun _ => ((.agg #[(.int .i64 n411), (.int .i64 n412), (.slice x413 l414 c415), (.slice x416 l417 c418)]) : Value) = (.agg #[(.int .i64 n100), (.int .i64 n101), (.slice x102 l103 c104), (.slice x105 l106 c107)])) <|
                                                          WR (Addr.add ⟨B359, 0, none⟩ 0) (.int .i64 n381) <|
                                                            WR (Addr.add ⟨B359, 0, none⟩ 1) (.int .i64 n384) <|
                                                              WR (Addr.add ⟨B402, 0, none⟩ 0) (.int .i64 n398) <|
                                                                WR (Addr.add ⟨B402, 0, none⟩ 1) (.int .i64 n401) <|
                                                                  J_ref10_Equal_2 W R b97 (some ⟨B359, 0, none⟩) (some ⟨B402, 0, none⟩) zn0 zn1 za2 nx0 n98)
                                                (fun e394 => R (.panicked e394)),
                                            NEWZ Pg 29 fun B419 =>
                                              ANDS (RDI .i64 (Addr.add za2 0) fun n420 =>
                                                RDI .i64 (Addr.add za2 1) fun n421 =>
                                                  RDL (Addr.add za2 2) fun x422 l423 c424 =>
                                                    RDL (Addr.add za2 3) fun x425 l426 c427 =>
                                                      fun _ => ((.agg #[(.int .i64 n420), (.int .i64 n421), (.slice x422 l423 c424), (.slice x425 l426 c427)]) : Value) = (.agg #[(.int .i64 n108), (.int .i64 n109), (.slice x110 l111 c112), (.slice x113 l114 c115)])) <|
                                                ANDS (RDI .i64 (Addr.add za2 0) fun n428 =>
                                                  RDI .i64 (Addr.add za2 1) fun n429 =>
                                                    RDL (Addr.add za2 2) fun x430 l431 c432 =>
                                                      RDL (Addr.add za2 3) fun x433 l434 c435 =>
                                                        fun _ => ((.agg #[(.int .i64 n428), (.int .i64 n429), (.slice x430 l431 c432), (.slice x433 l434 c435)]) : Value) = (.agg #[(.int .i64 n100), (.int .i64 n101), (.slice x102 l103 c104), (.slice x105 l106 c107)])) <|
                                                  CALL Pg W F_ref10_Points [(.agg #[(.int .i64 n108), (.int .i64 n109), (.slice x110 l111 c112), (.slice x113 l114 c115)]), (.int .i64 zn1), (.int .i64 n98)]
                                                    (fun v436 => AGG v436 fun q438 => HD q438 fun v439 r440 => TYI .i64 v439 fun n441 =>
                                                      HD r440 fun v442 r443 => TYI .i64 v442 fun n444 =>
                                                        NL r443 <|
                                                          WR (Addr.add ⟨B359, 0, none⟩ 0) (.int .i64 n381) <|
                                                            WR (Addr.add ⟨B359, 0, none⟩ 1) (.int .i64 n384) <|
                                                              WR (Addr.add ⟨B419, 0, none⟩ 0) (.int .i64 n441) <|
                                                                WR (Addr.add ⟨B419, 0, none⟩ 1) (.int .i64 n444) <|
                                                                  J_ref10_Equal_2 W R b97 (some ⟨B359, 0, none⟩) (some ⟨B419, 0, none⟩) zn0 zn1 za2 nx0 n98)
                                                      (fun e437 => R (.panicked e437))])
                                    (fun e377 => R (.panicked e377)),
                                NEWZ Pg 29 fun B445 =>
                                  ANDS (RDI .i64 (Addr.add za2 0) fun n446 =>
                                    RDI .i64 (Addr.add za2 1) fun n447 =>
                                      RDL (Addr.add za2 2) fun x448 l449 c450 =>
                                        RDL (Addr.add za2 3) fun x451 l452 c453 =>
                                          fun _ => ((.agg #[(.int .i64 n446), (.int .i64 n447), (.slice x448 l449 c450), (.slice x451 l452 c453)]) : Value) = (.agg #[(.int .i64 n108), (.int .i64 n109), (.slice x110 l111 c112), (.slice x113 l114 c115)])) <|
                                    ANDS (RDI .i64 (Addr.add za2 0) fun n454 =>
                                      RDI .i64 (Addr.add za2 1) fun n455 =>
                                        RDL (Addr.add za2 2) fun x456 l457 c458 =>
                                          RDL (Addr.add za2 3) fun x459 l460 c461 =>
                                            fun _ => ((.agg #[(.int .i64 n454), (.int .i64 n455), (.slice x456 l457 c458), (.slice x459 l460 c461)]) : Value) = (.agg #[(.int .i64 n100), (.int .i64 n101), (.slice x102 l103 c104), (.slice x105 l106 c107)])) <|
                                      CALL Pg W F_ref10_Points [(.agg #[(.int .i64 n100), (.int .i64 n101), (.slice x102 l103 c104), (.slice x105 l106 c107)]), (.int .i64 zn0), (.int .i64 n98)]
                                        (fun v462 => AGG v462 fun q464 => HD q464 fun v465 r466 => TYI .i64 v465 fun n467 =>
                                          HD r466 fun v468 r469 => TYI .i64 v468 fun n470 =>
                                            NL r469 <|
                                              ANDS (RDI .i64 (Addr.add za2 0) fun n471 =>
                                                RDI .i64 (Addr.add za2 1) fun n472 =>
                                                  RDL (Addr.add za2 2) fun x473 l474 c475 =>
                                                    RDL (Addr.add za2 3) fun x476 l477 c478 =>
                                                      fun _ => ((.agg #[(.int .i64 n471), (.int .i64 n472), (.slice x473 l474 c475), (.slice x476 l477 c478)]) : Value) = (.agg #[(.int .i64 n108), (.int .i64 n109), (.slice x110 l111 c112), (.slice x113 l114 c115)])) <|
                                                CALL Pg W F_ref10_Points [(.agg #[(.int .i64 n108), (.int .i64 n109), (.slice x110 l111 c112), (.slice x113 l114 c115)]), (.int .i64 zn1), (.int .i64 n98)]
                                                  (fun v479 => AGG v479 fun q481 => HD q481 fun v482 r483 => TYI .i64 v482 fun n484 =>
                                                    HD r483 fun v485 r486 => TYI .i64 v485 fun n487 =>
                                                      NL r486 <|
                                                        WR (Addr.add ⟨B359, 0, none⟩ 0) (.int .i64 n467) <|
                                                          WR (Addr.add ⟨B359, 0, none⟩ 1) (.int .i64 n470) <|
                                                            WR (Addr.add ⟨B445, 0, none⟩ 0) (.int .i64 n484) <|
                                                              WR (Addr.add ⟨B445, 0, none⟩ 1) (.int .i64 n487) <|
                                                                J_ref10_Equal_2 W R b97 (some ⟨B359, 0, none⟩) (some ⟨B445, 0, none⟩) zn0 zn1 za2 nx0 n98)
                                                    (fun e480 => R (.panicked e480)))
                                          (fun e463 => R (.panicked e463))],
                        NEWZ Pg 29 fun B488 =>
                          ANDS (RDI .i64 (Addr.add za2 0) fun n489 =>
                            RDI .i64 (Addr.add za2 1) fun n490 =>
                              RDL (Addr.add za2 2) fun x491 l492 c493 =>
                                RDL (Addr.add za2 3) fun x494 l495 c496 =>
                                  fun _ => ((.agg #[(.int .i64 n489), (.int .i64 n490), (.slice x491 l492 c493), (.slice x494 l495 c496)]) : Value) = (.agg #[(.int .i64 n108), (.int .i64 n109), (.slice x110 l111 c112), (.slice x113 l114 c115)])) <|
                            ANDS (RDI .i64 (Addr.add za2 0) fun n497 =>
                              RDI .i64 (Addr.add za2 1) fun n498 =>
                                RDL (Addr.add za2 2) fun x499 l500 c501 =>
                                  RDL (Addr.add za2 3) fun x502 l503 c504 =>
                                    fun _ => ((.agg #[(.int .i64 n497), (.int .i64 n498), (.slice x499 l500 c501), (.slice x502 l503 c504)]) : Value) = (.agg #[(.int .i64 n100), (.int .i64 n101), (.slice x102 l103 c104), (.slice x105 l106 c107)])) <|
                              CONJ [
                                CALL Pg W F_ref10_Points [(.agg #[(.int .i64 n100), (.int .i64 n101), (.slice x102 l103 c104), (.slice x105 l106 c107)]), (.int .i64 zn0), (.int .i64 n98)]
                                  (fun v505 => AGG v505 fun q507 => HD q507 fun v508 r509 => TYI .i64 v508 fun n510 =>
                                    HD r509 fun v511 r512 => TYI .i64 v511 fun n513 =>
                                      NL r512 <|
                                        ANDS (RDI .i64 (Addr.add za2 0) fun n514 =>
                                          RDI .i64 (Addr.add za2 1) fun n515 =>
                                            RDL (Addr.add za2 2) fun x516 l517 c518 =>
                                              RDL (Addr.add za2 3) fun x519 l520 c521 =>
                                                fun _ => ((.agg #[(.int .i64 n514), (.int .i64 n515), (.slice x516 l517 c518), (.slice x519 l520 c521)]) : Value) = (.agg #[(.int .i64 n108), (.int .i64 n109), (.slice x110 l111 c112), (.slice x113 l114 c115)])) <|
                                          CONJ [
                                            CALL Pg W F_ref10_Points [(.agg #[(.int .i64 n108), (.int .i64 n109), (.slice x110 l111 c112), (.slice x113 l114 c115)]), (.int .i64 zn1), (.int .i64 n98)]
                                              (fun v522 => AGG v522 fun q524 => HD q524 fun v525 r526 => TYI .i64 v525 fun n527 =>
                                                HD r526 fun v528 r529 => TYI .i64 v528 fun n530 =>
                                                  NL r529 <|
                                                    NEWZ Pg 29 fun B531 =>
                                                      ANDS (RDI .i64 (Addr.add za2 0) fun n532 =>
                                                        RDI .i64 (Addr.add za2 1) fun n533 =>
                                                          RDL (Addr.add za2 2) fun x534 l535 c536 =>
                                                            RDL (Addr.add za2 3) fun x537 l538 c539 =>
                                                              fun _ => ((.agg #[(.int .i64 n532), (.int .i64 n533), (.slice x534 l535 c536), (.slice x537 l538 c539)]) : Value) = (.agg #[(.int .i64 n108), (.int .i64 n109), (.slice x110 l111 c112), (.slice x113 l114 c115)])) <|
                                                        ANDS (RDI .i64 (Addr.add za2 0) fun n540 =>
                                                          RDI .i64 (Addr.add za2 1) fun n541 =>
                                                            RDL (Addr.add za2 2) fun x542 l543 c544 =>
                                                              RDL (Addr.add za2 3) fun x545 l546 c547 =>
                                                                fun _ => ((.agg #[(.int .i64 n540), (.int .i64 n541), (.slice x542 l543 c544), (.slice x545 l546 c547)]) : Value) = (.agg #[(.int .i64 n100), (.int .i64 n101), (.slice x102 l103 c104), (.slice x105 l106 c107)])) <|
                                                          WR (Addr.add ⟨B531, 0, none⟩ 0) (.int .i64 n510) <|
                                                            WR (Addr.add ⟨B531, 0, none⟩ 1) (.int .i64 n513) <|
                                                              WR (Addr.add ⟨B488, 0, none⟩ 0) (.int .i64 n527) <|
                                                                WR (Addr.add ⟨B488, 0, none⟩ 1) (.int .i64 n530) <|
                                                                  J_ref10_Equal_2 W R b97 (some ⟨B531, 0, none⟩) (some ⟨B488, 0, none⟩) zn0 zn1 za2 nx0 n98)
                                                (fun e523 => R (.panicked e523)),
                                            NEWZ Pg 29 fun B548 =>
                                              ANDS (RDI .i64 (Addr.add za2 0) fun n549 =>
                                                RDI .i64 (Addr.add za2 1) fun n550 =>
                                                  RDL (Addr.add za2 2) fun x551 l552 c553 =>
                                                    RDL (Addr.add za2 3) fun x554 l555 c556 =>
                                                      fun _ => ((.agg #[(.int .i64 n549), (.int .i64 n550), (.slice x551 l552 c553), (.slice x554 l555 c556)]) : Value) = (.agg #[(.int .i64 n108), (.int .i64 n109), (.slice x110 l111 c112), (.slice x113 l114 c115)])) <|
                                                ANDS (RDI .i64 (Addr.add za2 0) fun n557 =>
                                                  RDI .i64 (Addr.add za2 1) fun n558 =>
                                                    RDL (Addr.add za2 2) fun x559 l560 c561 =>
                                                      RDL (Addr.add za2 3) fun x562 l563 c564 =>
                                                        fun _ => ((.agg #[(.int .i64 n557), (.int .i64 n558), (.slice x559 l560 c561), (.slice x562 l563 c564)]) : Value) = (.agg #[(.int .i64 n100), (.int .i64 n101), (.slice x102 l103 c104), (.slice x105 l106 c107)])) <|
                                                  CALL Pg W F_ref10_Points [(.agg #[(.int .i64 n108), (.int .i64 n109), (.slice x110 l111 c112), (.slice x113 l114 c115)]), (.int .i64 zn1), (.int .i64 n98)]
                                                    (fun v565 => AGG v565 fun q567 => HD q567 fun v568 r569 => TYI .i64 v568 fun n570 =>
                                                      HD r569 fun v571 r572 => TYI .i64 v571 fun n573 =>
                                                        NL r572 <|
                                                          WR (Addr.add ⟨B548, 0, none⟩ 0) (.int .i64 n510) <|
                                                            WR (Addr.add ⟨B548, 0, none⟩ 1) (.int .i64 n513) <|
                                                              WR (Addr.add ⟨B488, 0, none⟩ 0) (.int .i64 n570) <|
                                                                WR (Addr.add ⟨B488, 0, none⟩ 1) (.int .i64 n573) <|
                                                                  J_ref10_Equal_2 W R b97 (some ⟨B548, 0, none⟩) (some ⟨B488, 0, none⟩) zn0 zn1 za2 nx0 n98)
                                                      (fun e566 => R (.panicked e566))])
                                    (fun e506 => R (.panicked e506)),
                                NEWZ Pg 29 fun B574 =>
                                  ANDS (RDI .i64 (Addr.add za2 0) fun n575 =>
                                    RDI .i64 (Addr.add za2 1) fun n576 =>
                                      RDL (Addr.add za2 2) fun x577 l578 c579 =>
                                        RDL (Addr.add za2 3) fun x580 l581 c582 =>
                                          fun _ => ((.agg #[(.int .i64 n575), (.int .i64 n576), (.slice x577 l578 c579), (.slice x580 l581 c582)]) : Value) = (.agg #[(.int .i64 n108), (.int .i64 n109), (.slice x110 l111 c112), (.slice x113 l114 c115)])) <|
                                    ANDS (RDI .i64 (Addr.add za2 0) fun n583 =>
                                      RDI .i64 (Addr.add za2 1) fun n584 =>
                                        RDL (Addr.add za2 2) fun x585 l586 c587 =>
                                          RDL (Addr.add za2 3) fun x588 l589 c590 =>
                                            fun _ => ((.agg #[(.int .i64 n583), (.int .i64 n584), (.slice x585 l586 c587), (.slice x588 l589 c590)]) : Value) = (.agg #[(.int .i64 n100), (.int .i64 n101), (.slice x102 l103 c104), (.slice x105 l106 c107)])) <|
                                      CALL Pg W F_ref10_Points [(.agg #[(.int .i64 n100), (.int .i64 n101), (.slice x102 l103 c104), (.slice x105 l106 c107)]), (.int .i64 zn0), (.int .i64 n98)]
                                        (fun v591 => AGG v591 fun q593 => HD q593 fun v594 r595 => TYI .i64 v594 fun n596 =>
                                          HD r595 fun v597 r598 => TYI .i64 v597 fun n599 =>
                                            NL r598 <|
                                              ANDS (RDI .i64 (Addr.add za2 0) fun n600 =>
                                                RDI .i64 (Addr.add za2 1) fun n601 =>
                                                  RDL (Addr.add za2 2) fun x602 l603 c604 =>
                                                    RDL (Addr.add za2 3) fun x605 l606 c607 =>
                                                      fun _ => ((.agg #[(.int .i64 n600), (.int .i64 n601), (.slice x602 l603 c604), (.slice x605 l606 c607)]) : Value) = (.agg #[(.int .i64 n108), (.int .i64 n109), (.slice x110 l111 c112), (.slice x113 l114 c115)])) <|
                                                CALL Pg W F_ref10_Points [(.agg #[(.int .i64 n108), (.int .i64 n109), (.slice x110 l111 c112), (.slice x113 l114 c115)]), (.int .i64 zn1), (.int .i64 n98)]
                                                  (fun v608 => AGG v608 fun q610 => HD q610 fun v611 r612 => TYI .i64 v611 fun n613 =>
                                                    HD r612 fun v614 r615 => TYI .i64 v614 fun n616 =>
                                                      NL r615 <|
                                                        WR (Addr.add ⟨B574, 0, none⟩ 0) (.int .i64 n596) <|
                                                          WR (Addr.add ⟨B574, 0, none⟩ 1) (.int .i64 n599) <|
                                                            WR (Addr.add ⟨B488, 0, none⟩ 0) (.int .i64 n613) <|
                                                              WR (Addr.add ⟨B488, 0, none⟩ 1) (.int .i64 n616) <|
                                                                J_ref10_Equal_2 W R b97 (some ⟨B574, 0, none⟩) (some ⟨B488, 0, none⟩) zn0 zn1 za2 nx0 n98)
                                                    (fun e609 => R (.panicked e609)))
                                          (fun e592 => R (.panicked e592))]])
      (BR b97
        (R (.returned (.tuple #[(.bool true), (.int .i64 0)])))
        (R (.returned (.tuple #[(.bool (zn0 == zn1)), (.int .i64 0)]))))
theorem B_ref10_Equal_0_eq (W : World) (R : Ending → Hp → Prop) (zn0 : Int) (zn1 : Int) (za2 : Addr) (b97 : Bool) (n98 : Int) (nx0 : List Value → Hp → Prop) (j : Tm) : vc Pg W 71 rs_23 an_23 false (sub (bodyOf Try.f23) [1, 1, 1, 1, 0, 1, 0, 0]) 0 (KLoop [9, 10] [1, 2, 3, 6, 7, 71] [(.int .i64 zn0), (.int .i64 zn1), (.pointer (some za2)), (.bool false), (.int .i64 0), (.tuple #[])] nx0 (KBlk 0 (KS Pg W 71 rs_23 an_23 false (sub (bodyOf Try.f23) [1, 1, 1, 1, 1]) 0 (fin Pg W 71 rv_23 R)))) (known [9, 10] [(.bool b97), (.int .i64 n98)] (known [1, 2, 3, 6, 7, 71] [(.int .i64 zn0), (.int .i64 zn1), (.pointer (some za2)), (.bool false), (.int .i64 0), (.tuple #[])] j)) = B_ref10_Equal_0 W R zn0 zn1 za2 b97 n98 nx0 := by kernel_rfl
def N_ref10_Equal_0 (I : Bool → Int → Hp → Prop) (μ : Bool → Int → Hp → Nat) (b970 : Bool) (n980 : Int) (s : Hp) (vs : List Value) : Hp → Prop := fun s' => ∃ b97 n98, vs = [(.bool b97), (.int .i64 n98)] ∧ I b97 n98 s' ∧ μ b97 n98 s' < μ b970 n980 s
theorem L_ref10_Equal_0_rule (W : World) (R : Ending → Hp → Prop) (zn0 : Int) (zn1 : Int) (za2 : Addr) (I : Bool → Int → Hp → Prop) (μ : Bool → Int → Hp → Nat) (b970 : Bool) (n980 : Int) (s : Hp) (h0 : I b970 n980 s)
    (hr : ∀ (b97 : Bool) (n98 : Int) (s : Hp), I b97 n98 s → B_ref10_Equal_0 W R zn0 zn1 za2 b97 n98 (fun vs => N_ref10_Equal_0 I μ b97 n98 s vs) s) : L_ref10_Equal_0 W R zn0 zn1 za2 b970 n980 s := by
  refine ⟨fun vs s => ∃ b97 n98, vs = [(.bool b97), (.int .i64 n98)] ∧ I b97 n98 s, fun vs s => (match vs with | [.bool b97, .int _ n98] => μ b97 n98 s | _ => 0), ⟨⟨⟨_, rfl⟩, ⟨⟨_, rfl⟩, trivial⟩⟩, ⟨_, _, rfl, h0⟩⟩, ?_⟩
  intro b97 n98 s hI j
  obtain ⟨b97', n98', hy, hI⟩ := hI
  have hI' : I b97 n98 s := by cases hy; exact hI
  have hh := hr b97 n98 s hI'
  rw [← B_ref10_Equal_0_eq W R zn0 zn1 za2 b97 n98 _ j] at hh
  refine vc_mono ?_ _ _ hh
  exact KLoop_mono (fun vs s' h => by obtain ⟨b971, n981, rfl, h1, h2⟩ := h; exact ⟨⟨⟨_, rfl⟩, ⟨⟨_, rfl⟩, trivial⟩⟩, ⟨_, _, rfl, h1⟩, h2⟩)
def T_ref10_Equal (W : World) (n1 : Int) (n2 : Int) (x3 : Option Addr) (l4 : Nat) (c5 : Nat) (x6 : Option Addr) (l7 : Nat) (c8 : Nat) (n9 : Int) (n10 : Int) (R : Ending → Hp → Prop) : Hp → Prop :=
  NEW 25 [(.int .i64 n1), (.int .i64 n2), (.slice x3 l4 c5), (.slice x6 l7 c8)] fun B11 =>
    RDI .i64 (Addr.add ⟨B11, 0, none⟩ 0) fun n12 =>
      RDI .i64 (Addr.add ⟨B11, 0, none⟩ 1) fun n13 =>
        RDL (Addr.add ⟨B11, 0, none⟩ 2) fun x14 l15 c16 =>
          RDL (Addr.add ⟨B11, 0, none⟩ 3) fun x17 l18 c19 =>
            RDI .i64 (Addr.add ⟨B11, 0, none⟩ 0) fun n20 =>
              RDI .i64 (Addr.add ⟨B11, 0, none⟩ 1) fun n21 =>
                RDL (Addr.add ⟨B11, 0, none⟩ 2) fun x22 l23 c24 =>
                  RDL (Addr.add ⟨B11, 0, none⟩ 3) fun x25 l26 c27 =>
                    CALL Pg W F_ref10_Man [(.agg #[(.int .i64 n20), (.int .i64 n21), (.slice x22 l23 c24), (.slice x25 l26 c27)]), (.int .i64 n9)]
                      (fun v28 => TYB v28 fun b30 =>
                        ANDS (RDI .i64 (Addr.add ⟨B11, 0, none⟩ 0) fun n31 =>
                          RDI .i64 (Addr.add ⟨B11, 0, none⟩ 1) fun n32 =>
                            RDL (Addr.add ⟨B11, 0, none⟩ 2) fun x33 l34 c35 =>
                              RDL (Addr.add ⟨B11, 0, none⟩ 3) fun x36 l37 c38 =>
                                fun _ => ((.agg #[(.int .i64 n31), (.int .i64 n32), (.slice x33 l34 c35), (.slice x36 l37 c38)]) : Value) = (.agg #[(.int .i64 n12), (.int .i64 n13), (.slice x14 l15 c16), (.slice x17 l18 c19)])) <|
                          BR b30
                            (RDI .i64 (Addr.add ⟨B11, 0, none⟩ 0) fun n39 =>
                              RDI .i64 (Addr.add ⟨B11, 0, none⟩ 1) fun n40 =>
                                RDL (Addr.add ⟨B11, 0, none⟩ 2) fun x41 l42 c43 =>
                                  RDL (Addr.add ⟨B11, 0, none⟩ 3) fun x44 l45 c46 =>
                                    CALL Pg W F_ref10_Man [(.agg #[(.int .i64 n39), (.int .i64 n40), (.slice x41 l42 c43), (.slice x44 l45 c46)]), (.int .i64 n10)]
                                      (fun v47 => TYB v47 fun b49 =>
                                        ANDS (RDI .i64 (Addr.add ⟨B11, 0, none⟩ 0) fun n50 =>
                                          RDI .i64 (Addr.add ⟨B11, 0, none⟩ 1) fun n51 =>
                                            RDL (Addr.add ⟨B11, 0, none⟩ 2) fun x52 l53 c54 =>
                                              RDL (Addr.add ⟨B11, 0, none⟩ 3) fun x55 l56 c57 =>
                                                fun _ => ((.agg #[(.int .i64 n50), (.int .i64 n51), (.slice x52 l53 c54), (.slice x55 l56 c57)]) : Value) = (.agg #[(.int .i64 n12), (.int .i64 n13), (.slice x14 l15 c16), (.slice x17 l18 c19)])) <|
                                          J_ref10_Equal_0 W R n12 n13 x14 l15 c16 x17 l18 c19 b49 B11 n9 n10)
                                        (fun e48 => R (.panicked e48)))
                            (J_ref10_Equal_0 W R n12 n13 x14 l15 c16 x17 l18 c19 false B11 n9 n10))
                        (fun e29 => R (.panicked e29))
theorem T_ref10_Equal_eq (W : World) (n1 : Int) (n2 : Int) (x3 : Option Addr) (l4 : Nat) (c5 : Nat) (x6 : Option Addr) (l7 : Nat) (c8 : Nat) (n9 : Int) (n10 : Int) (R : Ending → Hp → Prop) : vfun Pg W an_23 Try.f23 [(.agg #[(.int .i64 n1), (.int .i64 n2), (.slice x3 l4 c5), (.slice x6 l7 c8)]), (.int .i64 n9), (.int .i64 n10)] R = T_ref10_Equal W n1 n2 x3 l4 c5 x6 l7 c8 n9 n10 R := by kernel_rfl
theorem does_ref10_Equal (W : World) (n1 : Int) (n2 : Int) (x3 : Option Addr) (l4 : Nat) (c5 : Nat) (x6 : Option Addr) (l7 : Nat) (c8 : Nat) (n9 : Int) (n10 : Int) (R : Ending → Hp → Prop) (s : Hp) (h : T_ref10_Equal W n1 n2 x3 l4 c5 x6 l7 c8 n9 n10 R s) : Does Pg W F_ref10_Equal #[(.agg #[(.int .i64 n1), (.int .i64 n2), (.slice x3 l4 c5), (.slice x6 l7 c8)]), (.int .i64 n9), (.int .i64 n10)] s R :=
  does_of_vfun Pg W an_23 Try.func23 rfl (by kernel_rfl) (by rw [T_ref10_Equal_eq]; exact h)
def an_26 : Nat → Ann := fun b => match b with
  | 0 => { ms := [10, 11], ks := [.i .i64, .i .i64], us := [1, 2, 3, 6, 7, 9, 58], rt := false, ex := [] }
  | _ => {}
abbrev rv_26 : List ResultVar := [.tmp 6, .tmp 7]
abbrev rs_26 : List Nat := [58, 6, 7]
def L_ref10_Could_0 (W : World) (R : Ending → Hp → Prop) (zn0 : Int) (zn1 : Int) (za2 : Addr) (zn3 : Int) (n102 : Int) (n103 : Int) : Hp → Prop :=
  LOOPN [.i .i64, .i .i64] (fun ys next s => ∀ j : Tm, vc Pg W 58 rs_26 an_26 false (sub (bodyOf Try.f26) [1, 1, 1, 1, 1, 1, 0, 1, 0, 0]) 0 (KLoop [10, 11] [1, 2, 3, 6, 7, 9, 58] [(.int .i64 zn0), (.int .i64 zn1), (.pointer (some za2)), (.int .i64 0), (.int .i64 0), (.int .i64 zn3), (.tuple #[])] next (KBlk 0 (KS Pg W 58 rs_26 an_26 false (sub (bodyOf Try.f26) [1, 1, 1, 1, 1, 1, 1]) 0 (fin Pg W 58 rv_26 R)))) (known [10, 11] ys (known [1, 2, 3, 6, 7, 9, 58] [(.int .i64 zn0), (.int .i64 zn1), (.pointer (some za2)), (.int .i64 0), (.int .i64 0), (.int .i64 zn3), (.tuple #[])] j)) s) [(.int .i64 n102), (.int .i64 n103)]
def J_ref10_Could_0 (W : World) (R : Ending → Hp → Prop) (n58 : Int) (n59 : Int) (x60 : Option Addr) (l61 : Nat) (c62 : Nat) (x63 : Option Addr) (l64 : Nat) (c65 : Nat) (b83 : Bool) (B11 : Nat) (n9 : Int) (n10 : Int) : Hp → Prop :=
  CALL Pg W F_ref10_check [(.agg #[(.int .i64 n58), (.int .i64 n59), (.slice x60 l61 c62), (.slice x63 l64 c65)]), (.bool b83)]
    (fun v84 => TYI .i64 v84 fun n86 =>
      BR (n86 != 0)
        (R (.returned (.tuple #[(.int .i64 0), (.int .i64 n86)])))
        (RDI .i64 (Addr.add ⟨B11, 0, none⟩ 0) fun n87 =>
          RDI .i64 (Addr.add ⟨B11, 0, none⟩ 1) fun n88 =>
            RDL (Addr.add ⟨B11, 0, none⟩ 2) fun x89 l90 c91 =>
              RDL (Addr.add ⟨B11, 0, none⟩ 3) fun x92 l93 c94 =>
                CALL Pg W F_ref10_can [(.agg #[(.int .i64 n87), (.int .i64 n88), (.slice x89 l90 c91), (.slice x92 l93 c94)]), (.int .i64 n9), (.int .i64 n10)]
                  (fun v95 => TYB v95 fun b97 =>
                    BR (!b97)
                      (R (.returned (.tuple #[(.int .i64 0), (.int .i64 4)])))
                      (RDI .i64 (Addr.add ⟨B11, 0, none⟩ 1) fun n98 =>
                        CALL Pg W F_ref10_power [(.int .i64 (IntKind.wrap .i64 (2 * n98)))]
                          (fun v99 => TYI .i64 v99 fun n101 =>
                            L_ref10_Could_0 W R n9 n10 ⟨B11, 0, none⟩ (IntKind.wrap .i64 (n101 - 1)) (IntKind.wrap .i64 (n101 - 1)) 0)
                            (fun e100 => R (.panicked e100))))
                    (fun e96 => R (.panicked e96))))
      (fun e85 => R (.panicked e85))
def J_ref10_Could_1 (W : World) (R : Ending → Hp → Prop) (zn0 : Int) (zn1 : Int) (za2 : Addr) (zn3 : Int) (nx0 : List Value → Hp → Prop) (n141 : Int) (n103 : Int) : Hp → Prop :=
  NX [(.int .i64 zn0), (.int .i64 zn1), (.pointer (some za2)), (.int .i64 0), (.int .i64 0), (.int .i64 zn3), (.tuple #[])] [(.int .i64 zn0), (.int .i64 zn1), (.pointer (some za2)), (.int .i64 0), (.int .i64 0), (.int .i64 zn3), (.tuple #[])] (nx0 [(.int .i64 n141), (.int .i64 (IntKind.wrap .i64 (n103 + 1)))])
def J_ref10_Could_2 (W : World) (R : Ending → Hp → Prop) (b140 : Bool) (zn0 : Int) (zn1 : Int) (za2 : Addr) (zn3 : Int) (nx0 : List Value → Hp → Prop) (n103 : Int) (n102 : Int) : Hp → Prop :=
  BR b140
    (J_ref10_Could_1 W R zn0 zn1 za2 zn3 nx0 n103 n103)
    (J_ref10_Could_1 W R zn0 zn1 za2 zn3 nx0 n102 n103)
def B_ref10_Could_0 (W : World) (R : Ending → Hp → Prop) (zn0 : Int) (zn1 : Int) (za2 : Addr) (zn3 : Int) (n102 : Int) (n103 : Int) (nx0 : List Value → Hp → Prop) : Hp → Prop :=
  BR (decide (n103 ≤ zn3))
    (CALL Pg W F_ref10_Size [(.int .i64 n103)]
      (fun v104 => TYI .i64 v104 fun n106 =>
        CALL Pg W F_ref10_Size [(.int .i64 n102)]
          (fun v107 => TYI .i64 v107 fun n109 =>
            BR (decide (n106 < n109))
              (RDI .i64 (Addr.add za2 0) fun n110 =>
                RDI .i64 (Addr.add za2 1) fun n111 =>
                  RDL (Addr.add za2 2) fun x112 l113 c114 =>
                    RDL (Addr.add za2 3) fun x115 l116 c117 =>
                      CALL Pg W F_ref10_read [(.agg #[(.int .i64 n110), (.int .i64 n111), (.slice x112 l113 c114), (.slice x115 l116 c117)]), (.int .i64 zn0), (.int .i64 zn1), (.int .i64 n103)]
                        (fun v118 => AGG v118 fun q120 => HD q120 fun v121 r122 => TYI .i64 v121 fun n123 =>
                          HD r122 fun v124 r125 => TYI .i64 v124 fun n126 =>
                            HD r125 fun v127 r128 => TYL v127 fun x129 l130 c131 =>
                              HD r128 fun v132 r133 => TYL v132 fun x134 l135 c136 =>
                                NL r133 <|
                                  CALL Pg W F_ref10_surely [(.agg #[(.int .i64 n123), (.int .i64 n126), (.slice x129 l130 c131), (.slice x134 l135 c136)]), (.int .i64 zn0), (.int .i64 zn1)]
                                    (fun v137 => TYB v137 fun b139 =>
                                      J_ref10_Could_2 W R b139 zn0 zn1 za2 zn3 nx0 n103 n102)
                                      (fun e138 => R (.panicked e138)))
                          (fun e119 => R (.panicked e119)))
              (J_ref10_Could_2 W R false zn0 zn1 za2 zn3 nx0 n103 n102))
            (fun e108 => R (.panicked e108)))
        (fun e105 => R (.panicked e105)))
    (R (.returned (.tuple #[(.int .i64 n102), (.int .i64 0)])))
theorem B_ref10_Could_0_eq (W : World) (R : Ending → Hp → Prop) (zn0 : Int) (zn1 : Int) (za2 : Addr) (zn3 : Int) (n102 : Int) (n103 : Int) (nx0 : List Value → Hp → Prop) (j : Tm) : vc Pg W 58 rs_26 an_26 false (sub (bodyOf Try.f26) [1, 1, 1, 1, 1, 1, 0, 1, 0, 0]) 0 (KLoop [10, 11] [1, 2, 3, 6, 7, 9, 58] [(.int .i64 zn0), (.int .i64 zn1), (.pointer (some za2)), (.int .i64 0), (.int .i64 0), (.int .i64 zn3), (.tuple #[])] nx0 (KBlk 0 (KS Pg W 58 rs_26 an_26 false (sub (bodyOf Try.f26) [1, 1, 1, 1, 1, 1, 1]) 0 (fin Pg W 58 rv_26 R)))) (known [10, 11] [(.int .i64 n102), (.int .i64 n103)] (known [1, 2, 3, 6, 7, 9, 58] [(.int .i64 zn0), (.int .i64 zn1), (.pointer (some za2)), (.int .i64 0), (.int .i64 0), (.int .i64 zn3), (.tuple #[])] j)) = B_ref10_Could_0 W R zn0 zn1 za2 zn3 n102 n103 nx0 := by kernel_rfl
def N_ref10_Could_0 (I : Int → Int → Hp → Prop) (μ : Int → Int → Hp → Nat) (n1020 : Int) (n1030 : Int) (s : Hp) (vs : List Value) : Hp → Prop := fun s' => ∃ n102 n103, vs = [(.int .i64 n102), (.int .i64 n103)] ∧ I n102 n103 s' ∧ μ n102 n103 s' < μ n1020 n1030 s
theorem L_ref10_Could_0_rule (W : World) (R : Ending → Hp → Prop) (zn0 : Int) (zn1 : Int) (za2 : Addr) (zn3 : Int) (I : Int → Int → Hp → Prop) (μ : Int → Int → Hp → Nat) (n1020 : Int) (n1030 : Int) (s : Hp) (h0 : I n1020 n1030 s)
    (hr : ∀ (n102 : Int) (n103 : Int) (s : Hp), I n102 n103 s → B_ref10_Could_0 W R zn0 zn1 za2 zn3 n102 n103 (fun vs => N_ref10_Could_0 I μ n102 n103 s vs) s) : L_ref10_Could_0 W R zn0 zn1 za2 zn3 n1020 n1030 s := by
  refine ⟨fun vs s => ∃ n102 n103, vs = [(.int .i64 n102), (.int .i64 n103)] ∧ I n102 n103 s, fun vs s => (match vs with | [.int _ n102, .int _ n103] => μ n102 n103 s | _ => 0), ⟨⟨⟨_, rfl⟩, ⟨⟨_, rfl⟩, trivial⟩⟩, ⟨_, _, rfl, h0⟩⟩, ?_⟩
  intro n102 n103 s hI j
  obtain ⟨n102', n103', hy, hI⟩ := hI
  have hI' : I n102 n103 s := by cases hy; exact hI
  have hh := hr n102 n103 s hI'
  rw [← B_ref10_Could_0_eq W R zn0 zn1 za2 zn3 n102 n103 _ j] at hh
  refine vc_mono ?_ _ _ hh
  exact KLoop_mono (fun vs s' h => by obtain ⟨n1021, n1031, rfl, h1, h2⟩ := h; exact ⟨⟨⟨_, rfl⟩, ⟨⟨_, rfl⟩, trivial⟩⟩, ⟨_, _, rfl, h1⟩, h2⟩)
def T_ref10_Could (W : World) (n1 : Int) (n2 : Int) (x3 : Option Addr) (l4 : Nat) (c5 : Nat) (x6 : Option Addr) (l7 : Nat) (c8 : Nat) (n9 : Int) (n10 : Int) (R : Ending → Hp → Prop) : Hp → Prop :=
  NEW 25 [(.int .i64 n1), (.int .i64 n2), (.slice x3 l4 c5), (.slice x6 l7 c8)] fun B11 =>
    RDI .i64 (Addr.add ⟨B11, 0, none⟩ 0) fun n12 =>
      RDI .i64 (Addr.add ⟨B11, 0, none⟩ 1) fun n13 =>
        RDL (Addr.add ⟨B11, 0, none⟩ 2) fun x14 l15 c16 =>
          RDL (Addr.add ⟨B11, 0, none⟩ 3) fun x17 l18 c19 =>
            RDI .i64 (Addr.add ⟨B11, 0, none⟩ 0) fun n20 =>
              RDI .i64 (Addr.add ⟨B11, 0, none⟩ 1) fun n21 =>
                RDL (Addr.add ⟨B11, 0, none⟩ 2) fun x22 l23 c24 =>
                  RDL (Addr.add ⟨B11, 0, none⟩ 3) fun x25 l26 c27 =>
                    CALL Pg W F_ref10_Man [(.agg #[(.int .i64 n20), (.int .i64 n21), (.slice x22 l23 c24), (.slice x25 l26 c27)]), (.int .i64 n9)]
                      (fun v28 => TYB v28 fun b30 =>
                        ANDS (RDI .i64 (Addr.add ⟨B11, 0, none⟩ 0) fun n31 =>
                          RDI .i64 (Addr.add ⟨B11, 0, none⟩ 1) fun n32 =>
                            RDL (Addr.add ⟨B11, 0, none⟩ 2) fun x33 l34 c35 =>
                              RDL (Addr.add ⟨B11, 0, none⟩ 3) fun x36 l37 c38 =>
                                fun _ => ((.agg #[(.int .i64 n31), (.int .i64 n32), (.slice x33 l34 c35), (.slice x36 l37 c38)]) : Value) = (.agg #[(.int .i64 n12), (.int .i64 n13), (.slice x14 l15 c16), (.slice x17 l18 c19)])) <|
                          BR b30
                            (RDI .i64 (Addr.add ⟨B11, 0, none⟩ 0) fun n39 =>
                              RDI .i64 (Addr.add ⟨B11, 0, none⟩ 1) fun n40 =>
                                RDL (Addr.add ⟨B11, 0, none⟩ 2) fun x41 l42 c43 =>
                                  RDL (Addr.add ⟨B11, 0, none⟩ 3) fun x44 l45 c46 =>
                                    CALL Pg W F_ref10_Man [(.agg #[(.int .i64 n39), (.int .i64 n40), (.slice x41 l42 c43), (.slice x44 l45 c46)]), (.int .i64 n10)]
                                      (fun v47 => TYB v47 fun b49 =>
                                        ANDS (RDI .i64 (Addr.add ⟨B11, 0, none⟩ 0) fun n50 =>
                                          RDI .i64 (Addr.add ⟨B11, 0, none⟩ 1) fun n51 =>
                                            RDL (Addr.add ⟨B11, 0, none⟩ 2) fun x52 l53 c54 =>
                                              RDL (Addr.add ⟨B11, 0, none⟩ 3) fun x55 l56 c57 =>
                                                fun _ => ((.agg #[(.int .i64 n50), (.int .i64 n51), (.slice x52 l53 c54), (.slice x55 l56 c57)]) : Value) = (.agg #[(.int .i64 n12), (.int .i64 n13), (.slice x14 l15 c16), (.slice x17 l18 c19)])) <|
                                          J_ref10_Could_0 W R n12 n13 x14 l15 c16 x17 l18 c19 b49 B11 n9 n10)
                                        (fun e48 => R (.panicked e48)))
                            (J_ref10_Could_0 W R n12 n13 x14 l15 c16 x17 l18 c19 false B11 n9 n10))
                        (fun e29 => R (.panicked e29))
theorem T_ref10_Could_eq (W : World) (n1 : Int) (n2 : Int) (x3 : Option Addr) (l4 : Nat) (c5 : Nat) (x6 : Option Addr) (l7 : Nat) (c8 : Nat) (n9 : Int) (n10 : Int) (R : Ending → Hp → Prop) : vfun Pg W an_26 Try.f26 [(.agg #[(.int .i64 n1), (.int .i64 n2), (.slice x3 l4 c5), (.slice x6 l7 c8)]), (.int .i64 n9), (.int .i64 n10)] R = T_ref10_Could W n1 n2 x3 l4 c5 x6 l7 c8 n9 n10 R := by kernel_rfl
theorem does_ref10_Could (W : World) (n1 : Int) (n2 : Int) (x3 : Option Addr) (l4 : Nat) (c5 : Nat) (x6 : Option Addr) (l7 : Nat) (c8 : Nat) (n9 : Int) (n10 : Int) (R : Ending → Hp → Prop) (s : Hp) (h : T_ref10_Could W n1 n2 x3 l4 c5 x6 l7 c8 n9 n10 R s) : Does Pg W F_ref10_Could #[(.agg #[(.int .i64 n1), (.int .i64 n2), (.slice x3 l4 c5), (.slice x6 l7 c8)]), (.int .i64 n9), (.int .i64 n10)] s R :=
  does_of_vfun Pg W an_26 Try.func26 rfl (by kernel_rfl) (by rw [T_ref10_Could_eq]; exact h)
def an_28 : Nat → Ann := fun b => match b with
  | 0 => { ms := [8, 9, 12], ks := [.i .i64, .i .i64, .i .i64], us := [1, 2, 3, 4, 11, 55], rt := false, ex := [] }
  | _ => {}
abbrev rv_28 : List ResultVar := [.tmp 8, .tmp 9]
abbrev rs_28 : List Nat := [55, 8, 9]
def L_ref10_Need_0 (W : World) (R : Ending → Hp → Prop) (zn0 : Int) (zn1 : Int) (zn2 : Int) (za3 : Addr) (za4 : Addr) (n148 : Int) (n149 : Int) (n150 : Int) : Hp → Prop :=
  LOOPN [.i .i64, .i .i64, .i .i64] (fun ys next s => ∀ j : Tm, vc Pg W 55 rs_28 an_28 false (sub (bodyOf Try.f28) [1, 1, 1, 1, 0, 1, 0, 0]) 0 (KLoop [8, 9, 12] [1, 2, 3, 4, 11, 55] [(.int .i64 zn0), (.int .i64 zn1), (.int .i64 zn2), (.pointer (some za3)), (.pointer (some za4)), (.tuple #[])] next (KBlk 0 (KS Pg W 55 rs_28 an_28 false (sub (bodyOf Try.f28) [1, 1, 1, 1, 1]) 0 (fin Pg W 55 rv_28 R)))) (known [8, 9, 12] ys (known [1, 2, 3, 4, 11, 55] [(.int .i64 zn0), (.int .i64 zn1), (.int .i64 zn2), (.pointer (some za3)), (.pointer (some za4)), (.tuple #[])] j)) s) [(.int .i64 n148), (.int .i64 n149), (.int .i64 n150)]
def J_ref10_Need_0 (W : World) (R : Ending → Hp → Prop) (n97 : Int) (n98 : Int) (x99 : Option Addr) (l100 : Nat) (c101 : Nat) (x102 : Option Addr) (l103 : Nat) (c104 : Nat) (b125 : Bool) (B12 : Nat) (n9 : Int) (n10 : Int) (n11 : Int) : Hp → Prop :=
  CALL Pg W F_ref10_check [(.agg #[(.int .i64 n97), (.int .i64 n98), (.slice x99 l100 c101), (.slice x102 l103 c104)]), (.bool b125)]
    (fun v126 => TYI .i64 v126 fun n128 =>
      BR (n128 != 0)
        (R (.returned (.tuple #[(.int .i64 0), (.int .i64 n128)])))
        (RDI .i64 (Addr.add ⟨B12, 0, none⟩ 0) fun n129 =>
          RDI .i64 (Addr.add ⟨B12, 0, none⟩ 1) fun n130 =>
            RDL (Addr.add ⟨B12, 0, none⟩ 2) fun x131 l132 c133 =>
              RDL (Addr.add ⟨B12, 0, none⟩ 3) fun x134 l135 c136 =>
                CALL Pg W F_ref10_Points [(.agg #[(.int .i64 n129), (.int .i64 n130), (.slice x131 l132 c133), (.slice x134 l135 c136)]), (.int .i64 n9), (.int .i64 n10)]
                  (fun v137 => AGG v137 fun q139 => HD q139 fun v140 r141 => TYI .i64 v140 fun n142 =>
                    HD r141 fun v143 r144 => TYI .i64 v143 fun n145 =>
                      NL r144 <|
                        NEWZ Pg 29 fun B146 =>
                          WR (Addr.add ⟨B146, 0, none⟩ 0) (.int .i64 n142) <|
                            WR (Addr.add ⟨B146, 0, none⟩ 1) (.int .i64 n145) <|
                              RDI .i64 (Addr.add ⟨B146, 0, none⟩ 0) fun n147 =>
                                L_ref10_Need_0 W R n9 n10 n11 ⟨B12, 0, none⟩ ⟨B146, 0, none⟩ 0 0 n147)
                    (fun e138 => R (.panicked e138))))
      (fun e127 => R (.panicked e127))
def J_ref10_Need_1 (W : World) (R : Ending → Hp → Prop) (b84 : Bool) (B12 : Nat) (n11 : Int) (n59 : Int) (n60 : Int) (x61 : Option Addr) (l62 : Nat) (c63 : Nat) (x64 : Option Addr) (l65 : Nat) (c66 : Nat) (n9 : Int) (n10 : Int) : Hp → Prop :=
  BR b84
    (RDI .i64 (Addr.add ⟨B12, 0, none⟩ 0) fun n85 =>
      CALL Pg W F_ref10_in [(.int .i64 n11), (.int .i64 1), (.int .i64 n85)]
        (fun v86 => TYB v86 fun b88 =>
          ANDS (RDI .i64 (Addr.add ⟨B12, 0, none⟩ 0) fun n89 =>
            RDI .i64 (Addr.add ⟨B12, 0, none⟩ 1) fun n90 =>
              RDL (Addr.add ⟨B12, 0, none⟩ 2) fun x91 l92 c93 =>
                RDL (Addr.add ⟨B12, 0, none⟩ 3) fun x94 l95 c96 =>
                  fun _ => ((.agg #[(.int .i64 n89), (.int .i64 n90), (.slice x91 l92 c93), (.slice x94 l95 c96)]) : Value) = (.agg #[(.int .i64 n59), (.int .i64 n60), (.slice x61 l62 c63), (.slice x64 l65 c66)])) <|
            J_ref10_Need_0 W R n59 n60 x61 l62 c63 x64 l65 c66 b88 B12 n9 n10 n11)
          (fun e87 => R (.panicked e87)))
    (J_ref10_Need_0 W R n59 n60 x61 l62 c63 x64 l65 c66 false B12 n9 n10 n11)
def B_ref10_Need_0 (W : World) (R : Ending → Hp → Prop) (zn0 : Int) (zn1 : Int) (zn2 : Int) (za3 : Addr) (za4 : Addr) (n148 : Int) (n149 : Int) (n150 : Int) (nx0 : List Value → Hp → Prop) : Hp → Prop :=
  RDI .i64 (Addr.add za4 1) fun n151 =>
    BR (decide (n150 ≤ n151))
      (RDI .i64 (Addr.add za3 0) fun n152 =>
        RDI .i64 (Addr.add za3 1) fun n153 =>
          RDL (Addr.add za3 2) fun x154 l155 c156 =>
            RDL (Addr.add za3 3) fun x157 l158 c159 =>
              CALL Pg W F_ref10_With [(.agg #[(.int .i64 n152), (.int .i64 n153), (.slice x154 l155 c156), (.slice x157 l158 c159)]), (.int .i64 zn0), (.int .i64 zn1), (.int .i64 n150)]
                (fun v160 => AGG v160 fun q162 => HD q162 fun v163 r164 => TYI .i64 v163 fun n165 =>
                  HD r164 fun v166 r167 => TYI .i64 v166 fun n168 =>
                    HD r167 fun v169 r170 => TYL v169 fun x171 l172 c173 =>
                      HD r170 fun v174 r175 => TYL v174 fun x176 l177 c178 =>
                        NL r175 <|
                          CALL Pg W F_ref10_place [(.agg #[(.int .i64 n165), (.int .i64 n168), (.slice x171 l172 c173), (.slice x176 l177 c178)]), (.int .i64 zn0)]
                            (fun v179 => AGG v179 fun q181 => HD q181 fun v182 r183 => TYI .i64 v182 fun n184 =>
                              HD r183 fun v185 r186 => TYI .i64 v185 fun n187 =>
                                NL r186 <|
                                  BR (decide (n187 ≤ zn2))
                                    (R (.returned (.tuple #[(.int .i64 n150), (.int .i64 0)])))
                                    (NX [(.int .i64 zn0), (.int .i64 zn1), (.int .i64 zn2), (.pointer (some za3)), (.pointer (some za4)), (.tuple #[])] [(.int .i64 zn0), (.int .i64 zn1), (.int .i64 zn2), (.pointer (some za3)), (.pointer (some za4)), (.tuple #[])] (nx0 [(.int .i64 n148), (.int .i64 n149), (.int .i64 (IntKind.wrap .i64 (n150 + 1)))])))
                              (fun e180 => R (.panicked e180)))
                  (fun e161 => R (.panicked e161)))
      (R (.returned (.tuple #[(.int .i64 0), (.int .i64 4)])))
theorem B_ref10_Need_0_eq (W : World) (R : Ending → Hp → Prop) (zn0 : Int) (zn1 : Int) (zn2 : Int) (za3 : Addr) (za4 : Addr) (n148 : Int) (n149 : Int) (n150 : Int) (nx0 : List Value → Hp → Prop) (j : Tm) : vc Pg W 55 rs_28 an_28 false (sub (bodyOf Try.f28) [1, 1, 1, 1, 0, 1, 0, 0]) 0 (KLoop [8, 9, 12] [1, 2, 3, 4, 11, 55] [(.int .i64 zn0), (.int .i64 zn1), (.int .i64 zn2), (.pointer (some za3)), (.pointer (some za4)), (.tuple #[])] nx0 (KBlk 0 (KS Pg W 55 rs_28 an_28 false (sub (bodyOf Try.f28) [1, 1, 1, 1, 1]) 0 (fin Pg W 55 rv_28 R)))) (known [8, 9, 12] [(.int .i64 n148), (.int .i64 n149), (.int .i64 n150)] (known [1, 2, 3, 4, 11, 55] [(.int .i64 zn0), (.int .i64 zn1), (.int .i64 zn2), (.pointer (some za3)), (.pointer (some za4)), (.tuple #[])] j)) = B_ref10_Need_0 W R zn0 zn1 zn2 za3 za4 n148 n149 n150 nx0 := by kernel_rfl
def N_ref10_Need_0 (I : Int → Int → Int → Hp → Prop) (μ : Int → Int → Int → Hp → Nat) (n1480 : Int) (n1490 : Int) (n1500 : Int) (s : Hp) (vs : List Value) : Hp → Prop := fun s' => ∃ n148 n149 n150, vs = [(.int .i64 n148), (.int .i64 n149), (.int .i64 n150)] ∧ I n148 n149 n150 s' ∧ μ n148 n149 n150 s' < μ n1480 n1490 n1500 s
theorem L_ref10_Need_0_rule (W : World) (R : Ending → Hp → Prop) (zn0 : Int) (zn1 : Int) (zn2 : Int) (za3 : Addr) (za4 : Addr) (I : Int → Int → Int → Hp → Prop) (μ : Int → Int → Int → Hp → Nat) (n1480 : Int) (n1490 : Int) (n1500 : Int) (s : Hp) (h0 : I n1480 n1490 n1500 s)
    (hr : ∀ (n148 : Int) (n149 : Int) (n150 : Int) (s : Hp), I n148 n149 n150 s → B_ref10_Need_0 W R zn0 zn1 zn2 za3 za4 n148 n149 n150 (fun vs => N_ref10_Need_0 I μ n148 n149 n150 s vs) s) : L_ref10_Need_0 W R zn0 zn1 zn2 za3 za4 n1480 n1490 n1500 s := by
  refine ⟨fun vs s => ∃ n148 n149 n150, vs = [(.int .i64 n148), (.int .i64 n149), (.int .i64 n150)] ∧ I n148 n149 n150 s, fun vs s => (match vs with | [.int _ n148, .int _ n149, .int _ n150] => μ n148 n149 n150 s | _ => 0), ⟨⟨⟨_, rfl⟩, ⟨⟨_, rfl⟩, ⟨⟨_, rfl⟩, trivial⟩⟩⟩, ⟨_, _, _, rfl, h0⟩⟩, ?_⟩
  intro n148 n149 n150 s hI j
  obtain ⟨n148', n149', n150', hy, hI⟩ := hI
  have hI' : I n148 n149 n150 s := by cases hy; exact hI
  have hh := hr n148 n149 n150 s hI'
  rw [← B_ref10_Need_0_eq W R zn0 zn1 zn2 za3 za4 n148 n149 n150 _ j] at hh
  refine vc_mono ?_ _ _ hh
  exact KLoop_mono (fun vs s' h => by obtain ⟨n1481, n1491, n1501, rfl, h1, h2⟩ := h; exact ⟨⟨⟨_, rfl⟩, ⟨⟨_, rfl⟩, ⟨⟨_, rfl⟩, trivial⟩⟩⟩, ⟨_, _, _, rfl, h1⟩, h2⟩)
def T_ref10_Need (W : World) (n1 : Int) (n2 : Int) (x3 : Option Addr) (l4 : Nat) (c5 : Nat) (x6 : Option Addr) (l7 : Nat) (c8 : Nat) (n9 : Int) (n10 : Int) (n11 : Int) (R : Ending → Hp → Prop) : Hp → Prop :=
  NEW 25 [(.int .i64 n1), (.int .i64 n2), (.slice x3 l4 c5), (.slice x6 l7 c8)] fun B12 =>
    RDI .i64 (Addr.add ⟨B12, 0, none⟩ 0) fun n13 =>
      RDI .i64 (Addr.add ⟨B12, 0, none⟩ 1) fun n14 =>
        RDL (Addr.add ⟨B12, 0, none⟩ 2) fun x15 l16 c17 =>
          RDL (Addr.add ⟨B12, 0, none⟩ 3) fun x18 l19 c20 =>
            RDI .i64 (Addr.add ⟨B12, 0, none⟩ 0) fun n21 =>
              RDI .i64 (Addr.add ⟨B12, 0, none⟩ 1) fun n22 =>
                RDL (Addr.add ⟨B12, 0, none⟩ 2) fun x23 l24 c25 =>
                  RDL (Addr.add ⟨B12, 0, none⟩ 3) fun x26 l27 c28 =>
                    CALL Pg W F_ref10_Man [(.agg #[(.int .i64 n21), (.int .i64 n22), (.slice x23 l24 c25), (.slice x26 l27 c28)]), (.int .i64 n9)]
                      (fun v29 => TYB v29 fun b31 =>
                        ANDS (RDI .i64 (Addr.add ⟨B12, 0, none⟩ 0) fun n32 =>
                          RDI .i64 (Addr.add ⟨B12, 0, none⟩ 1) fun n33 =>
                            RDL (Addr.add ⟨B12, 0, none⟩ 2) fun x34 l35 c36 =>
                              RDL (Addr.add ⟨B12, 0, none⟩ 3) fun x37 l38 c39 =>
                                fun _ => ((.agg #[(.int .i64 n32), (.int .i64 n33), (.slice x34 l35 c36), (.slice x37 l38 c39)]) : Value) = (.agg #[(.int .i64 n13), (.int .i64 n14), (.slice x15 l16 c17), (.slice x18 l19 c20)])) <|
                          BR b31
                            (RDI .i64 (Addr.add ⟨B12, 0, none⟩ 0) fun n40 =>
                              RDI .i64 (Addr.add ⟨B12, 0, none⟩ 1) fun n41 =>
                                RDL (Addr.add ⟨B12, 0, none⟩ 2) fun x42 l43 c44 =>
                                  RDL (Addr.add ⟨B12, 0, none⟩ 3) fun x45 l46 c47 =>
                                    CALL Pg W F_ref10_Sheet [(.agg #[(.int .i64 n40), (.int .i64 n41), (.slice x42 l43 c44), (.slice x45 l46 c47)]), (.int .i64 n10)]
                                      (fun v48 => TYB v48 fun b50 =>
                                        ANDS (RDI .i64 (Addr.add ⟨B12, 0, none⟩ 0) fun n51 =>
                                          RDI .i64 (Addr.add ⟨B12, 0, none⟩ 1) fun n52 =>
                                            RDL (Addr.add ⟨B12, 0, none⟩ 2) fun x53 l54 c55 =>
                                              RDL (Addr.add ⟨B12, 0, none⟩ 3) fun x56 l57 c58 =>
                                                fun _ => ((.agg #[(.int .i64 n51), (.int .i64 n52), (.slice x53 l54 c55), (.slice x56 l57 c58)]) : Value) = (.agg #[(.int .i64 n13), (.int .i64 n14), (.slice x15 l16 c17), (.slice x18 l19 c20)])) <|
                                          J_ref10_Need_1 W R b50 B12 n11 n13 n14 x15 l16 c17 x18 l19 c20 n9 n10)
                                        (fun e49 => R (.panicked e49)))
                            (J_ref10_Need_1 W R false B12 n11 n13 n14 x15 l16 c17 x18 l19 c20 n9 n10))
                        (fun e30 => R (.panicked e30))
theorem T_ref10_Need_eq (W : World) (n1 : Int) (n2 : Int) (x3 : Option Addr) (l4 : Nat) (c5 : Nat) (x6 : Option Addr) (l7 : Nat) (c8 : Nat) (n9 : Int) (n10 : Int) (n11 : Int) (R : Ending → Hp → Prop) : vfun Pg W an_28 Try.f28 [(.agg #[(.int .i64 n1), (.int .i64 n2), (.slice x3 l4 c5), (.slice x6 l7 c8)]), (.int .i64 n9), (.int .i64 n10), (.int .i64 n11)] R = T_ref10_Need W n1 n2 x3 l4 c5 x6 l7 c8 n9 n10 n11 R := by kernel_rfl
theorem does_ref10_Need (W : World) (n1 : Int) (n2 : Int) (x3 : Option Addr) (l4 : Nat) (c5 : Nat) (x6 : Option Addr) (l7 : Nat) (c8 : Nat) (n9 : Int) (n10 : Int) (n11 : Int) (R : Ending → Hp → Prop) (s : Hp) (h : T_ref10_Need W n1 n2 x3 l4 c5 x6 l7 c8 n9 n10 n11 R s) : Does Pg W F_ref10_Need #[(.agg #[(.int .i64 n1), (.int .i64 n2), (.slice x3 l4 c5), (.slice x6 l7 c8)]), (.int .i64 n9), (.int .i64 n10), (.int .i64 n11)] s R :=
  does_of_vfun Pg W an_28 Try.func28 rfl (by kernel_rfl) (by rw [T_ref10_Need_eq]; exact h)
def an_30 : Nat → Ann := fun b => match b with
  | 0 => { ms := [4, 5], ks := [.l, .i .i64], us := [1, 2, 3, 62], rt := false, ex := [] }
  | 2 => { ms := [6, 7], ks := [.i .i64, .i .i64], us := [1, 2, 3, 4, 5, 62], rt := false, ex := [] }
  | 4 => { ms := [8, 9], ks := [.b, .i .i64], us := [1, 2, 3, 4, 5, 6, 7, 62], rt := false, ex := [] }
  | _ => {}
abbrev rv_30 : List ResultVar := [.tmp 2, .tmp 3]
abbrev rs_30 : List Nat := [62, 2, 3]
def L_ref10_Order_0 (W : World) (R : Ending → Hp → Prop) (za0 : Addr) (x25 : Option Addr) (l26 : Nat) (c27 : Nat) (n28 : Int) : Hp → Prop :=
  LOOPN [.l, .i .i64] (fun ys next s => ∀ j : Tm, vc Pg W 62 rs_30 an_30 false (sub (bodyOf Try.f30) [1, 1, 1, 1, 0, 0, 0]) 0 (KLoop [4, 5] [1, 2, 3, 62] [(.pointer (some za0)), (.slice none 0 0), (.int .i64 0), (.tuple #[])] next (KBlk 0 (KS Pg W 62 rs_30 an_30 false (sub (bodyOf Try.f30) [1, 1, 1, 1, 1]) 0 (fin Pg W 62 rv_30 R)))) (known [4, 5] ys (known [1, 2, 3, 62] [(.pointer (some za0)), (.slice none 0 0), (.int .i64 0), (.tuple #[])] j)) s) [(.slice x25 l26 c27), (.int .i64 n28)]
def L_ref10_Order_1 (W : World) (R : Ending → Hp → Prop) (nx0 : List Value → Hp → Prop) (za0 : Addr) (zp1 : Option Addr) (zl2 : Nat) (zl3 : Nat) (zn4 : Int) (n29 : Int) (n30 : Int) : Hp → Prop :=
  LOOPN [.i .i64, .i .i64] (fun ys next s => ∀ j : Tm, vc Pg W 62 rs_30 an_30 false (sub (bodyOf Try.f30) [1, 1, 1, 1, 0, 0, 0, 1, 0, 1, 0, 1, 0, 0]) 2 (KLoop [6, 7] [1, 2, 3, 4, 5, 62] [(.pointer (some za0)), (.slice none 0 0), (.int .i64 0), (.slice zp1 zl2 zl3), (.int .i64 zn4), (.tuple #[])] next (KBlk 2 (KS Pg W 62 rs_30 an_30 false (sub (bodyOf Try.f30) [1, 1, 1, 1, 0, 0, 0, 1, 0, 1, 1]) 1 (KBlk 1 (KLoop [4, 5] [1, 2, 3, 62] [(.pointer (some za0)), (.slice none 0 0), (.int .i64 0), (.tuple #[])] nx0 (KBlk 0 (KS Pg W 62 rs_30 an_30 false (sub (bodyOf Try.f30) [1, 1, 1, 1, 1]) 0 (fin Pg W 62 rv_30 R)))))))) (known [6, 7] ys (known [1, 2, 3, 4, 5, 62] [(.pointer (some za0)), (.slice none 0 0), (.int .i64 0), (.slice zp1 zl2 zl3), (.int .i64 zn4), (.tuple #[])] j)) s) [(.int .i64 n29), (.int .i64 n30)]
def L_ref10_Order_2 (W : World) (R : Ending → Hp → Prop) (nx0 : List Value → Hp → Prop) (nx1 : List Value → Hp → Prop) (za0 : Addr) (zp1 : Option Addr) (zl2 : Nat) (zl3 : Nat) (zn4 : Int) (zn5 : Int) (zn6 : Int) (b43 : Bool) (n44 : Int) : Hp → Prop :=
  LOOPN [.b, .i .i64] (fun ys next s => ∀ j : Tm, vc Pg W 62 rs_30 an_30 false (sub (bodyOf Try.f30) [1, 1, 1, 1, 0, 0, 0, 1, 0, 1, 0, 1, 0, 0, 1, 0, 0, 1, 0, 1, 0, 0]) 4 (KLoop [8, 9] [1, 2, 3, 4, 5, 6, 7, 62] [(.pointer (some za0)), (.slice none 0 0), (.int .i64 0), (.slice zp1 zl2 zl3), (.int .i64 zn4), (.int .i64 zn5), (.int .i64 zn6), (.tuple #[])] next (KBlk 4 (KS Pg W 62 rs_30 an_30 false (sub (bodyOf Try.f30) [1, 1, 1, 1, 0, 0, 0, 1, 0, 1, 0, 1, 0, 0, 1, 0, 0, 1, 1]) 3 (KBlk 3 (KS Pg W 62 rs_30 an_30 false (sub (bodyOf Try.f30) [1, 1, 1, 1, 0, 0, 0, 1, 0, 1, 0, 1, 0, 0, 1, 1]) 2 (KLoop [6, 7] [1, 2, 3, 4, 5, 62] [(.pointer (some za0)), (.slice none 0 0), (.int .i64 0), (.slice zp1 zl2 zl3), (.int .i64 zn4), (.tuple #[])] nx1 (KBlk 2 (KS Pg W 62 rs_30 an_30 false (sub (bodyOf Try.f30) [1, 1, 1, 1, 0, 0, 0, 1, 0, 1, 1]) 1 (KBlk 1 (KLoop [4, 5] [1, 2, 3, 62] [(.pointer (some za0)), (.slice none 0 0), (.int .i64 0), (.tuple #[])] nx0 (KBlk 0 (KS Pg W 62 rs_30 an_30 false (sub (bodyOf Try.f30) [1, 1, 1, 1, 1]) 0 (fin Pg W 62 rv_30 R))))))))))))) (known [8, 9] ys (known [1, 2, 3, 4, 5, 6, 7, 62] [(.pointer (some za0)), (.slice none 0 0), (.int .i64 0), (.slice zp1 zl2 zl3), (.int .i64 zn4), (.int .i64 zn5), (.int .i64 zn6), (.tuple #[])] j)) s) [(.bool b43), (.int .i64 n44)]
def J_ref10_Order_0 (W : World) (R : Ending → Hp → Prop) (b32 : Bool) (zn4 : Int) (n30 : Int) (nx0 : List Value → Hp → Prop) (nx1 : List Value → Hp → Prop) (za0 : Addr) (zp1 : Option Addr) (zl2 : Nat) (zl3 : Nat) (n29 : Int) : Hp → Prop :=
  BR b32
    (CALL Pg W F_ref10_Has [(.int .i64 zn4), (.int .i64 n30)]
      (fun v33 => TYB v33 fun b35 =>
        L_ref10_Order_2 W R nx0 nx1 za0 zp1 zl2 zl3 zn4 n29 n30 b35 0)
        (fun e34 => R (.panicked e34)))
    (NEW 3 [(.int .i64 n29)] fun B36 =>
      APP Pg 3 1 zp1 zl2 zl3 (some ⟨B36, 0, none⟩) 1 fun x37 l38 c39 =>
        CALL Pg W F_ref10_power [(.int .i64 n29)]
          (fun v40 => TYI .i64 v40 fun n42 =>
            NX [(.pointer (some za0)), (.slice none 0 0), (.int .i64 0), (.tuple #[])] [(.pointer (some za0)), (.slice none 0 0), (.int .i64 0), (.tuple #[])] (nx0 [(.slice x37 l38 c39), (.int .i64 (IntKind.wrap .i64 (zn4 - n42)))]))
            (fun e41 => R (.panicked e41)))
def J_ref10_Order_1 (W : World) (R : Ending → Hp → Prop) (za0 : Addr) (zp1 : Option Addr) (zl2 : Nat) (zl3 : Nat) (zn4 : Int) (zn5 : Int) (zn6 : Int) (nx2 : List Value → Hp → Prop) (b60 : Bool) (n44 : Int) : Hp → Prop :=
  NX [(.pointer (some za0)), (.slice none 0 0), (.int .i64 0), (.slice zp1 zl2 zl3), (.int .i64 zn4), (.int .i64 zn5), (.int .i64 zn6), (.tuple #[])] [(.pointer (some za0)), (.slice none 0 0), (.int .i64 0), (.slice zp1 zl2 zl3), (.int .i64 zn4), (.int .i64 zn5), (.int .i64 zn6), (.tuple #[])] (nx2 [(.bool b60), (.int .i64 (IntKind.wrap .i64 (n44 + 1)))])
def B_ref10_Order_0 (W : World) (R : Ending → Hp → Prop) (za0 : Addr) (x25 : Option Addr) (l26 : Nat) (c27 : Nat) (n28 : Int) (nx0 : List Value → Hp → Prop) : Hp → Prop :=
  BR (decide (n28 > 0))
    (L_ref10_Order_1 W R nx0 za0 x25 l26 c27 n28 (-1) 0)
    (R (.returned (.tuple #[(.slice x25 l26 c27), (.int .i64 0)])))
theorem B_ref10_Order_0_eq (W : World) (R : Ending → Hp → Prop) (za0 : Addr) (x25 : Option Addr) (l26 : Nat) (c27 : Nat) (n28 : Int) (nx0 : List Value → Hp → Prop) (j : Tm) : vc Pg W 62 rs_30 an_30 false (sub (bodyOf Try.f30) [1, 1, 1, 1, 0, 0, 0]) 0 (KLoop [4, 5] [1, 2, 3, 62] [(.pointer (some za0)), (.slice none 0 0), (.int .i64 0), (.tuple #[])] nx0 (KBlk 0 (KS Pg W 62 rs_30 an_30 false (sub (bodyOf Try.f30) [1, 1, 1, 1, 1]) 0 (fin Pg W 62 rv_30 R)))) (known [4, 5] [(.slice x25 l26 c27), (.int .i64 n28)] (known [1, 2, 3, 62] [(.pointer (some za0)), (.slice none 0 0), (.int .i64 0), (.tuple #[])] j)) = B_ref10_Order_0 W R za0 x25 l26 c27 n28 nx0 := by kernel_rfl
def N_ref10_Order_0 (I : Option Addr → Nat → Nat → Int → Hp → Prop) (μ : Option Addr → Nat → Nat → Int → Hp → Nat) (x250 : Option Addr) (l260 : Nat) (c270 : Nat) (n280 : Int) (s : Hp) (vs : List Value) : Hp → Prop := fun s' => ∃ x25 l26 c27 n28, vs = [(.slice x25 l26 c27), (.int .i64 n28)] ∧ I x25 l26 c27 n28 s' ∧ μ x25 l26 c27 n28 s' < μ x250 l260 c270 n280 s
theorem L_ref10_Order_0_rule (W : World) (R : Ending → Hp → Prop) (za0 : Addr) (I : Option Addr → Nat → Nat → Int → Hp → Prop) (μ : Option Addr → Nat → Nat → Int → Hp → Nat) (x250 : Option Addr) (l260 : Nat) (c270 : Nat) (n280 : Int) (s : Hp) (h0 : I x250 l260 c270 n280 s)
    (hr : ∀ (x25 : Option Addr) (l26 : Nat) (c27 : Nat) (n28 : Int) (s : Hp), I x25 l26 c27 n28 s → B_ref10_Order_0 W R za0 x25 l26 c27 n28 (fun vs => N_ref10_Order_0 I μ x25 l26 c27 n28 s vs) s) : L_ref10_Order_0 W R za0 x250 l260 c270 n280 s := by
  refine ⟨fun vs s => ∃ x25 l26 c27 n28, vs = [(.slice x25 l26 c27), (.int .i64 n28)] ∧ I x25 l26 c27 n28 s, fun vs s => (match vs with | [.slice x25 l26 c27, .int _ n28] => μ x25 l26 c27 n28 s | _ => 0), ⟨⟨⟨_, _, _, rfl⟩, ⟨⟨_, rfl⟩, trivial⟩⟩, ⟨_, _, _, _, rfl, h0⟩⟩, ?_⟩
  intro x25 l26 c27 n28 s hI j
  obtain ⟨x25', l26', c27', n28', hy, hI⟩ := hI
  have hI' : I x25 l26 c27 n28 s := by cases hy; exact hI
  have hh := hr x25 l26 c27 n28 s hI'
  rw [← B_ref10_Order_0_eq W R za0 x25 l26 c27 n28 _ j] at hh
  refine vc_mono ?_ _ _ hh
  exact KLoop_mono (fun vs s' h => by obtain ⟨x251, l261, c271, n281, rfl, h1, h2⟩ := h; exact ⟨⟨⟨_, _, _, rfl⟩, ⟨⟨_, rfl⟩, trivial⟩⟩, ⟨_, _, _, _, rfl, h1⟩, h2⟩)
def B_ref10_Order_1 (W : World) (R : Ending → Hp → Prop) (nx0 : List Value → Hp → Prop) (za0 : Addr) (zp1 : Option Addr) (zl2 : Nat) (zl3 : Nat) (zn4 : Int) (n29 : Int) (n30 : Int) (nx1 : List Value → Hp → Prop) : Hp → Prop :=
  RDI .i64 (Addr.add za0 0) fun n31 =>
    BR (decide (n30 < n31))
      (J_ref10_Order_0 W R (decide (n29 < 0)) zn4 n30 nx0 nx1 za0 zp1 zl2 zl3 n29)
      (J_ref10_Order_0 W R false zn4 n30 nx0 nx1 za0 zp1 zl2 zl3 n29)
theorem B_ref10_Order_1_eq (W : World) (R : Ending → Hp → Prop) (nx0 : List Value → Hp → Prop) (za0 : Addr) (zp1 : Option Addr) (zl2 : Nat) (zl3 : Nat) (zn4 : Int) (n29 : Int) (n30 : Int) (nx1 : List Value → Hp → Prop) (j : Tm) : vc Pg W 62 rs_30 an_30 false (sub (bodyOf Try.f30) [1, 1, 1, 1, 0, 0, 0, 1, 0, 1, 0, 1, 0, 0]) 2 (KLoop [6, 7] [1, 2, 3, 4, 5, 62] [(.pointer (some za0)), (.slice none 0 0), (.int .i64 0), (.slice zp1 zl2 zl3), (.int .i64 zn4), (.tuple #[])] nx1 (KBlk 2 (KS Pg W 62 rs_30 an_30 false (sub (bodyOf Try.f30) [1, 1, 1, 1, 0, 0, 0, 1, 0, 1, 1]) 1 (KBlk 1 (KLoop [4, 5] [1, 2, 3, 62] [(.pointer (some za0)), (.slice none 0 0), (.int .i64 0), (.tuple #[])] nx0 (KBlk 0 (KS Pg W 62 rs_30 an_30 false (sub (bodyOf Try.f30) [1, 1, 1, 1, 1]) 0 (fin Pg W 62 rv_30 R)))))))) (known [6, 7] [(.int .i64 n29), (.int .i64 n30)] (known [1, 2, 3, 4, 5, 62] [(.pointer (some za0)), (.slice none 0 0), (.int .i64 0), (.slice zp1 zl2 zl3), (.int .i64 zn4), (.tuple #[])] j)) = B_ref10_Order_1 W R nx0 za0 zp1 zl2 zl3 zn4 n29 n30 nx1 := by kernel_rfl
def N_ref10_Order_1 (I : Int → Int → Hp → Prop) (μ : Int → Int → Hp → Nat) (n290 : Int) (n300 : Int) (s : Hp) (vs : List Value) : Hp → Prop := fun s' => ∃ n29 n30, vs = [(.int .i64 n29), (.int .i64 n30)] ∧ I n29 n30 s' ∧ μ n29 n30 s' < μ n290 n300 s
theorem L_ref10_Order_1_rule (W : World) (R : Ending → Hp → Prop) (nx0 : List Value → Hp → Prop) (za0 : Addr) (zp1 : Option Addr) (zl2 : Nat) (zl3 : Nat) (zn4 : Int) (I : Int → Int → Hp → Prop) (μ : Int → Int → Hp → Nat) (n290 : Int) (n300 : Int) (s : Hp) (h0 : I n290 n300 s)
    (hr : ∀ (n29 : Int) (n30 : Int) (s : Hp), I n29 n30 s → B_ref10_Order_1 W R nx0 za0 zp1 zl2 zl3 zn4 n29 n30 (fun vs => N_ref10_Order_1 I μ n29 n30 s vs) s) : L_ref10_Order_1 W R nx0 za0 zp1 zl2 zl3 zn4 n290 n300 s := by
  refine ⟨fun vs s => ∃ n29 n30, vs = [(.int .i64 n29), (.int .i64 n30)] ∧ I n29 n30 s, fun vs s => (match vs with | [.int _ n29, .int _ n30] => μ n29 n30 s | _ => 0), ⟨⟨⟨_, rfl⟩, ⟨⟨_, rfl⟩, trivial⟩⟩, ⟨_, _, rfl, h0⟩⟩, ?_⟩
  intro n29 n30 s hI j
  obtain ⟨n29', n30', hy, hI⟩ := hI
  have hI' : I n29 n30 s := by cases hy; exact hI
  have hh := hr n29 n30 s hI'
  rw [← B_ref10_Order_1_eq W R nx0 za0 zp1 zl2 zl3 zn4 n29 n30 _ j] at hh
  refine vc_mono ?_ _ _ hh
  exact KLoop_mono (fun vs s' h => by obtain ⟨n291, n301, rfl, h1, h2⟩ := h; exact ⟨⟨⟨_, rfl⟩, ⟨⟨_, rfl⟩, trivial⟩⟩, ⟨_, _, rfl, h1⟩, h2⟩)
def B_ref10_Order_2 (W : World) (R : Ending → Hp → Prop) (nx0 : List Value → Hp → Prop) (nx1 : List Value → Hp → Prop) (za0 : Addr) (zp1 : Option Addr) (zl2 : Nat) (zl3 : Nat) (zn4 : Int) (zn5 : Int) (zn6 : Int) (b43 : Bool) (n44 : Int) (nx2 : List Value → Hp → Prop) : Hp → Prop :=
  RDI .i64 (Addr.add za0 0) fun n45 =>
    BR (decide (n44 < n45))
      (BR b43
        (CALL Pg W F_ref10_Has [(.int .i64 zn4), (.int .i64 n44)]
          (fun v46 => TYB v46 fun b48 =>
            BR b48
              (RDI .i64 (Addr.add za0 0) fun n49 =>
                RDI .i64 (Addr.add za0 1) fun n50 =>
                  RDL (Addr.add za0 2) fun x51 l52 c53 =>
                    RDL (Addr.add za0 3) fun x54 l55 c56 =>
                      CALL Pg W F_ref10_surely [(.agg #[(.int .i64 n49), (.int .i64 n50), (.slice x51 l52 c53), (.slice x54 l55 c56)]), (.int .i64 n44), (.int .i64 zn6)]
                        (fun v57 => TYB v57 fun b59 =>
                          J_ref10_Order_1 W R za0 zp1 zl2 zl3 zn4 zn5 zn6 nx2 (!b59) n44)
                          (fun e58 => R (.panicked e58)))
              (J_ref10_Order_1 W R za0 zp1 zl2 zl3 zn4 zn5 zn6 nx2 true n44))
            (fun e47 => R (.panicked e47)))
        (J_ref10_Order_1 W R za0 zp1 zl2 zl3 zn4 zn5 zn6 nx2 false n44))
      (BR b43
        (NX [(.pointer (some za0)), (.slice none 0 0), (.int .i64 0), (.slice zp1 zl2 zl3), (.int .i64 zn4), (.tuple #[])] [(.pointer (some za0)), (.slice none 0 0), (.int .i64 0), (.slice zp1 zl2 zl3), (.int .i64 zn4), (.tuple #[])] (nx1 [(.int .i64 zn6), (.int .i64 (IntKind.wrap .i64 (zn6 + 1)))]))
        (NX [(.pointer (some za0)), (.slice none 0 0), (.int .i64 0), (.slice zp1 zl2 zl3), (.int .i64 zn4), (.tuple #[])] [(.pointer (some za0)), (.slice none 0 0), (.int .i64 0), (.slice zp1 zl2 zl3), (.int .i64 zn4), (.tuple #[])] (nx1 [(.int .i64 zn5), (.int .i64 (IntKind.wrap .i64 (zn6 + 1)))])))
theorem B_ref10_Order_2_eq (W : World) (R : Ending → Hp → Prop) (nx0 : List Value → Hp → Prop) (nx1 : List Value → Hp → Prop) (za0 : Addr) (zp1 : Option Addr) (zl2 : Nat) (zl3 : Nat) (zn4 : Int) (zn5 : Int) (zn6 : Int) (b43 : Bool) (n44 : Int) (nx2 : List Value → Hp → Prop) (j : Tm) : vc Pg W 62 rs_30 an_30 false (sub (bodyOf Try.f30) [1, 1, 1, 1, 0, 0, 0, 1, 0, 1, 0, 1, 0, 0, 1, 0, 0, 1, 0, 1, 0, 0]) 4 (KLoop [8, 9] [1, 2, 3, 4, 5, 6, 7, 62] [(.pointer (some za0)), (.slice none 0 0), (.int .i64 0), (.slice zp1 zl2 zl3), (.int .i64 zn4), (.int .i64 zn5), (.int .i64 zn6), (.tuple #[])] nx2 (KBlk 4 (KS Pg W 62 rs_30 an_30 false (sub (bodyOf Try.f30) [1, 1, 1, 1, 0, 0, 0, 1, 0, 1, 0, 1, 0, 0, 1, 0, 0, 1, 1]) 3 (KBlk 3 (KS Pg W 62 rs_30 an_30 false (sub (bodyOf Try.f30) [1, 1, 1, 1, 0, 0, 0, 1, 0, 1, 0, 1, 0, 0, 1, 1]) 2 (KLoop [6, 7] [1, 2, 3, 4, 5, 62] [(.pointer (some za0)), (.slice none 0 0), (.int .i64 0), (.slice zp1 zl2 zl3), (.int .i64 zn4), (.tuple #[])] nx1 (KBlk 2 (KS Pg W 62 rs_30 an_30 false (sub (bodyOf Try.f30) [1, 1, 1, 1, 0, 0, 0, 1, 0, 1, 1]) 1 (KBlk 1 (KLoop [4, 5] [1, 2, 3, 62] [(.pointer (some za0)), (.slice none 0 0), (.int .i64 0), (.tuple #[])] nx0 (KBlk 0 (KS Pg W 62 rs_30 an_30 false (sub (bodyOf Try.f30) [1, 1, 1, 1, 1]) 0 (fin Pg W 62 rv_30 R))))))))))))) (known [8, 9] [(.bool b43), (.int .i64 n44)] (known [1, 2, 3, 4, 5, 6, 7, 62] [(.pointer (some za0)), (.slice none 0 0), (.int .i64 0), (.slice zp1 zl2 zl3), (.int .i64 zn4), (.int .i64 zn5), (.int .i64 zn6), (.tuple #[])] j)) = B_ref10_Order_2 W R nx0 nx1 za0 zp1 zl2 zl3 zn4 zn5 zn6 b43 n44 nx2 := by kernel_rfl
def N_ref10_Order_2 (I : Bool → Int → Hp → Prop) (μ : Bool → Int → Hp → Nat) (b430 : Bool) (n440 : Int) (s : Hp) (vs : List Value) : Hp → Prop := fun s' => ∃ b43 n44, vs = [(.bool b43), (.int .i64 n44)] ∧ I b43 n44 s' ∧ μ b43 n44 s' < μ b430 n440 s
theorem L_ref10_Order_2_rule (W : World) (R : Ending → Hp → Prop) (nx0 : List Value → Hp → Prop) (nx1 : List Value → Hp → Prop) (za0 : Addr) (zp1 : Option Addr) (zl2 : Nat) (zl3 : Nat) (zn4 : Int) (zn5 : Int) (zn6 : Int) (I : Bool → Int → Hp → Prop) (μ : Bool → Int → Hp → Nat) (b430 : Bool) (n440 : Int) (s : Hp) (h0 : I b430 n440 s)
    (hr : ∀ (b43 : Bool) (n44 : Int) (s : Hp), I b43 n44 s → B_ref10_Order_2 W R nx0 nx1 za0 zp1 zl2 zl3 zn4 zn5 zn6 b43 n44 (fun vs => N_ref10_Order_2 I μ b43 n44 s vs) s) : L_ref10_Order_2 W R nx0 nx1 za0 zp1 zl2 zl3 zn4 zn5 zn6 b430 n440 s := by
  refine ⟨fun vs s => ∃ b43 n44, vs = [(.bool b43), (.int .i64 n44)] ∧ I b43 n44 s, fun vs s => (match vs with | [.bool b43, .int _ n44] => μ b43 n44 s | _ => 0), ⟨⟨⟨_, rfl⟩, ⟨⟨_, rfl⟩, trivial⟩⟩, ⟨_, _, rfl, h0⟩⟩, ?_⟩
  intro b43 n44 s hI j
  obtain ⟨b43', n44', hy, hI⟩ := hI
  have hI' : I b43 n44 s := by cases hy; exact hI
  have hh := hr b43 n44 s hI'
  rw [← B_ref10_Order_2_eq W R nx0 nx1 za0 zp1 zl2 zl3 zn4 zn5 zn6 b43 n44 _ j] at hh
  refine vc_mono ?_ _ _ hh
  exact KLoop_mono (fun vs s' h => by obtain ⟨b431, n441, rfl, h1, h2⟩ := h; exact ⟨⟨⟨_, rfl⟩, ⟨⟨_, rfl⟩, trivial⟩⟩, ⟨_, _, rfl, h1⟩, h2⟩)
def T_ref10_Order (W : World) (n1 : Int) (n2 : Int) (x3 : Option Addr) (l4 : Nat) (c5 : Nat) (x6 : Option Addr) (l7 : Nat) (c8 : Nat) (R : Ending → Hp → Prop) : Hp → Prop :=
  NEW 25 [(.int .i64 n1), (.int .i64 n2), (.slice x3 l4 c5), (.slice x6 l7 c8)] fun B9 =>
    RDI .i64 (Addr.add ⟨B9, 0, none⟩ 0) fun n10 =>
      RDI .i64 (Addr.add ⟨B9, 0, none⟩ 1) fun n11 =>
        RDL (Addr.add ⟨B9, 0, none⟩ 2) fun x12 l13 c14 =>
          RDL (Addr.add ⟨B9, 0, none⟩ 3) fun x15 l16 c17 =>
            CALL Pg W F_ref10_Table [(.agg #[(.int .i64 n10), (.int .i64 n11), (.slice x12 l13 c14), (.slice x15 l16 c17)])]
              (fun v18 => TYB v18 fun b20 =>
                BR (!b20)
                  (R (.returned (.tuple #[(.slice none 0 0), (.int .i64 1)])))
                  (RDI .i64 (Addr.add ⟨B9, 0, none⟩ 0) fun n21 =>
                    CALL Pg W F_ref10_power [(.int .i64 n21)]
                      (fun v22 => TYI .i64 v22 fun n24 =>
                        L_ref10_Order_0 W R ⟨B9, 0, none⟩ none 0 0 (IntKind.wrap .i64 (n24 - 1)))
                        (fun e23 => R (.panicked e23))))
                (fun e19 => R (.panicked e19))
theorem T_ref10_Order_eq (W : World) (n1 : Int) (n2 : Int) (x3 : Option Addr) (l4 : Nat) (c5 : Nat) (x6 : Option Addr) (l7 : Nat) (c8 : Nat) (R : Ending → Hp → Prop) : vfun Pg W an_30 Try.f30 [(.agg #[(.int .i64 n1), (.int .i64 n2), (.slice x3 l4 c5), (.slice x6 l7 c8)])] R = T_ref10_Order W n1 n2 x3 l4 c5 x6 l7 c8 R := by kernel_rfl
theorem does_ref10_Order (W : World) (n1 : Int) (n2 : Int) (x3 : Option Addr) (l4 : Nat) (c5 : Nat) (x6 : Option Addr) (l7 : Nat) (c8 : Nat) (R : Ending → Hp → Prop) (s : Hp) (h : T_ref10_Order W n1 n2 x3 l4 c5 x6 l7 c8 R s) : Does Pg W F_ref10_Order #[(.agg #[(.int .i64 n1), (.int .i64 n2), (.slice x3 l4 c5), (.slice x6 l7 c8)])] s R :=
  does_of_vfun Pg W an_30 Try.func30 rfl (by kernel_rfl) (by rw [T_ref10_Order_eq]; exact h)
def an_51 : Nat → Ann := fun b => match b with
  | _ => {}
abbrev rv_51 : List ResultVar := [.tmp 4]
abbrev rs_51 : List Nat := [10, 4]
def T_ref10_check (W : World) (n1 : Int) (n2 : Int) (x3 : Option Addr) (l4 : Nat) (c5 : Nat) (x6 : Option Addr) (l7 : Nat) (c8 : Nat) (b9 : Bool) (R : Ending → Hp → Prop) : Hp → Prop :=
  NEW 25 [(.int .i64 n1), (.int .i64 n2), (.slice x3 l4 c5), (.slice x6 l7 c8)] fun B10 =>
    RDI .i64 (Addr.add ⟨B10, 0, none⟩ 0) fun n11 =>
      RDI .i64 (Addr.add ⟨B10, 0, none⟩ 1) fun n12 =>
        RDL (Addr.add ⟨B10, 0, none⟩ 2) fun x13 l14 c15 =>
          RDL (Addr.add ⟨B10, 0, none⟩ 3) fun x16 l17 c18 =>
            CALL Pg W F_ref10_Table [(.agg #[(.int .i64 n11), (.int .i64 n12), (.slice x13 l14 c15), (.slice x16 l17 c18)])]
              (fun v19 => TYB v19 fun b21 =>
                BR (!b21)
                  (R (.returned (.int .i64 1)))
                  (BR (!b9)
                    (R (.returned (.int .i64 2)))
                    (R (.returned (.int .i64 0)))))
                (fun e20 => R (.panicked e20))
theorem T_ref10_check_eq (W : World) (n1 : Int) (n2 : Int) (x3 : Option Addr) (l4 : Nat) (c5 : Nat) (x6 : Option Addr) (l7 : Nat) (c8 : Nat) (b9 : Bool) (R : Ending → Hp → Prop) : vfun Pg W an_51 Try.f51 [(.agg #[(.int .i64 n1), (.int .i64 n2), (.slice x3 l4 c5), (.slice x6 l7 c8)]), (.bool b9)] R = T_ref10_check W n1 n2 x3 l4 c5 x6 l7 c8 b9 R := by kernel_rfl
theorem does_ref10_check (W : World) (n1 : Int) (n2 : Int) (x3 : Option Addr) (l4 : Nat) (c5 : Nat) (x6 : Option Addr) (l7 : Nat) (c8 : Nat) (b9 : Bool) (R : Ending → Hp → Prop) (s : Hp) (h : T_ref10_check W n1 n2 x3 l4 c5 x6 l7 c8 b9 R s) : Does Pg W F_ref10_check #[(.agg #[(.int .i64 n1), (.int .i64 n2), (.slice x3 l4 c5), (.slice x6 l7 c8)]), (.bool b9)] s R :=
  does_of_vfun Pg W an_51 Try.func51 rfl (by kernel_rfl) (by rw [T_ref10_check_eq]; exact h)
def an_52 : Nat → Ann := fun b => match b with
  | _ => {}
abbrev rv_52 : List ResultVar := [.tmp 4]
abbrev rs_52 : List Nat := [10, 4]
def T_ref10_Man (W : World) (n1 : Int) (n2 : Int) (x3 : Option Addr) (l4 : Nat) (c5 : Nat) (x6 : Option Addr) (l7 : Nat) (c8 : Nat) (n9 : Int) (R : Ending → Hp → Prop) : Hp → Prop :=
  NEW 25 [(.int .i64 n1), (.int .i64 n2), (.slice x3 l4 c5), (.slice x6 l7 c8)] fun B10 =>
    RDI .i64 (Addr.add ⟨B10, 0, none⟩ 0) fun n11 =>
      CALL Pg W F_ref10_in [(.int .i64 n9), (.int .i64 0), (.int .i64 (IntKind.wrap .i64 (n11 - 1)))]
        (fun v12 => TYB v12 fun b14 =>
          R (.returned (.bool b14)))
          (fun e13 => R (.panicked e13))
theorem T_ref10_Man_eq (W : World) (n1 : Int) (n2 : Int) (x3 : Option Addr) (l4 : Nat) (c5 : Nat) (x6 : Option Addr) (l7 : Nat) (c8 : Nat) (n9 : Int) (R : Ending → Hp → Prop) : vfun Pg W an_52 Try.f52 [(.agg #[(.int .i64 n1), (.int .i64 n2), (.slice x3 l4 c5), (.slice x6 l7 c8)]), (.int .i64 n9)] R = T_ref10_Man W n1 n2 x3 l4 c5 x6 l7 c8 n9 R := by kernel_rfl
theorem does_ref10_Man (W : World) (n1 : Int) (n2 : Int) (x3 : Option Addr) (l4 : Nat) (c5 : Nat) (x6 : Option Addr) (l7 : Nat) (c8 : Nat) (n9 : Int) (R : Ending → Hp → Prop) (s : Hp) (h : T_ref10_Man W n1 n2 x3 l4 c5 x6 l7 c8 n9 R s) : Does Pg W F_ref10_Man #[(.agg #[(.int .i64 n1), (.int .i64 n2), (.slice x3 l4 c5), (.slice x6 l7 c8)]), (.int .i64 n9)] s R :=
  does_of_vfun Pg W an_52 Try.func52 rfl (by kernel_rfl) (by rw [T_ref10_Man_eq]; exact h)
def an_53 : Nat → Ann := fun b => match b with
  | 0 => { ms := [5, 6], ks := [.l, .i .i64], us := [1, 2, 4, 25], rt := false, ex := [] }
  | _ => {}
abbrev rv_53 : List ResultVar := [.tmp 4]
abbrev rs_53 : List Nat := [25, 4]
def L_ref10_least_0 (W : World) (R : Ending → Hp → Prop) (zn0 : Int) (za1 : Addr) (x11 : Option Addr) (l12 : Nat) (c13 : Nat) (n14 : Int) : Hp → Prop :=
  LOOPN [.l, .i .i64] (fun ys next s => ∀ j : Tm, vc Pg W 25 rs_53 an_53 false (sub (bodyOf Try.f53) [1, 1, 0, 1, 0, 0]) 0 (KLoop [5, 6] [1, 2, 4, 25] [(.int .i64 zn0), (.pointer (some za1)), (.slice none 0 0), (.tuple #[])] next (KBlk 0 (KS Pg W 25 rs_53 an_53 false (sub (bodyOf Try.f53) [1, 1, 1]) 0 (fin Pg W 25 rv_53 R)))) (known [5, 6] ys (known [1, 2, 4, 25] [(.int .i64 zn0), (.pointer (some za1)), (.slice none 0 0), (.tuple #[])] j)) s) [(.slice x11 l12 c13), (.int .i64 n14)]
def B_ref10_least_0 (W : World) (R : Ending → Hp → Prop) (zn0 : Int) (za1 : Addr) (x11 : Option Addr) (l12 : Nat) (c13 : Nat) (n14 : Int) (nx0 : List Value → Hp → Prop) : Hp → Prop :=
  RDI .i64 (Addr.add za1 1) fun n15 =>
    BR (decide (n14 < n15))
      (RDI .i64 (Addr.add za1 0) fun n16 =>
        RDI .i64 (Addr.add za1 1) fun n17 =>
          RDL (Addr.add za1 2) fun x18 l19 c20 =>
            RDL (Addr.add za1 3) fun x21 l22 c23 =>
              CALL Pg W F_ref10_Points [(.agg #[(.int .i64 n16), (.int .i64 n17), (.slice x18 l19 c20), (.slice x21 l22 c23)]), (.int .i64 zn0), (.int .i64 n14)]
                (fun v24 => AGG v24 fun q26 => HD q26 fun v27 r28 => TYI .i64 v27 fun n29 =>
                  HD r28 fun v30 r31 => TYI .i64 v30 fun n32 =>
                    NL r31 <|
                      NEW 3 [(.int .i64 n29)] fun B33 =>
                        APP Pg 3 1 x11 l12 c13 (some ⟨B33, 0, none⟩) 1 fun x34 l35 c36 =>
                          NX [(.int .i64 zn0), (.pointer (some za1)), (.slice none 0 0), (.tuple #[])] [(.int .i64 zn0), (.pointer (some za1)), (.slice none 0 0), (.tuple #[])] (nx0 [(.slice x34 l35 c36), (.int .i64 (IntKind.wrap .i64 (n14 + 1)))]))
                  (fun e25 => R (.panicked e25)))
      (RDI .i64 (Addr.add za1 0) fun n37 =>
        RDI .i64 (Addr.add za1 1) fun n38 =>
          RDL (Addr.add za1 2) fun x39 l40 c41 =>
            RDL (Addr.add za1 3) fun x42 l43 c44 =>
              CALL Pg W F_ref10_row [(.agg #[(.int .i64 n37), (.int .i64 n38), (.slice x39 l40 c41), (.slice x42 l43 c44)]), (.int .i64 zn0), (.slice x11 l12 c13)]
                (fun v45 => TYL v45 fun x47 l48 c49 =>
                  R (.returned (.slice x47 l48 c49)))
                  (fun e46 => R (.panicked e46)))
theorem B_ref10_least_0_eq (W : World) (R : Ending → Hp → Prop) (zn0 : Int) (za1 : Addr) (x11 : Option Addr) (l12 : Nat) (c13 : Nat) (n14 : Int) (nx0 : List Value → Hp → Prop) (j : Tm) : vc Pg W 25 rs_53 an_53 false (sub (bodyOf Try.f53) [1, 1, 0, 1, 0, 0]) 0 (KLoop [5, 6] [1, 2, 4, 25] [(.int .i64 zn0), (.pointer (some za1)), (.slice none 0 0), (.tuple #[])] nx0 (KBlk 0 (KS Pg W 25 rs_53 an_53 false (sub (bodyOf Try.f53) [1, 1, 1]) 0 (fin Pg W 25 rv_53 R)))) (known [5, 6] [(.slice x11 l12 c13), (.int .i64 n14)] (known [1, 2, 4, 25] [(.int .i64 zn0), (.pointer (some za1)), (.slice none 0 0), (.tuple #[])] j)) = B_ref10_least_0 W R zn0 za1 x11 l12 c13 n14 nx0 := by kernel_rfl
def N_ref10_least_0 (I : Option Addr → Nat → Nat → Int → Hp → Prop) (μ : Option Addr → Nat → Nat → Int → Hp → Nat) (x110 : Option Addr) (l120 : Nat) (c130 : Nat) (n140 : Int) (s : Hp) (vs : List Value) : Hp → Prop := fun s' => ∃ x11 l12 c13 n14, vs = [(.slice x11 l12 c13), (.int .i64 n14)] ∧ I x11 l12 c13 n14 s' ∧ μ x11 l12 c13 n14 s' < μ x110 l120 c130 n140 s
theorem L_ref10_least_0_rule (W : World) (R : Ending → Hp → Prop) (zn0 : Int) (za1 : Addr) (I : Option Addr → Nat → Nat → Int → Hp → Prop) (μ : Option Addr → Nat → Nat → Int → Hp → Nat) (x110 : Option Addr) (l120 : Nat) (c130 : Nat) (n140 : Int) (s : Hp) (h0 : I x110 l120 c130 n140 s)
    (hr : ∀ (x11 : Option Addr) (l12 : Nat) (c13 : Nat) (n14 : Int) (s : Hp), I x11 l12 c13 n14 s → B_ref10_least_0 W R zn0 za1 x11 l12 c13 n14 (fun vs => N_ref10_least_0 I μ x11 l12 c13 n14 s vs) s) : L_ref10_least_0 W R zn0 za1 x110 l120 c130 n140 s := by
  refine ⟨fun vs s => ∃ x11 l12 c13 n14, vs = [(.slice x11 l12 c13), (.int .i64 n14)] ∧ I x11 l12 c13 n14 s, fun vs s => (match vs with | [.slice x11 l12 c13, .int _ n14] => μ x11 l12 c13 n14 s | _ => 0), ⟨⟨⟨_, _, _, rfl⟩, ⟨⟨_, rfl⟩, trivial⟩⟩, ⟨_, _, _, _, rfl, h0⟩⟩, ?_⟩
  intro x11 l12 c13 n14 s hI j
  obtain ⟨x11', l12', c13', n14', hy, hI⟩ := hI
  have hI' : I x11 l12 c13 n14 s := by cases hy; exact hI
  have hh := hr x11 l12 c13 n14 s hI'
  rw [← B_ref10_least_0_eq W R zn0 za1 x11 l12 c13 n14 _ j] at hh
  refine vc_mono ?_ _ _ hh
  exact KLoop_mono (fun vs s' h => by obtain ⟨x111, l121, c131, n141, rfl, h1, h2⟩ := h; exact ⟨⟨⟨_, _, _, rfl⟩, ⟨⟨_, rfl⟩, trivial⟩⟩, ⟨_, _, _, _, rfl, h1⟩, h2⟩)
def T_ref10_least (W : World) (n1 : Int) (n2 : Int) (x3 : Option Addr) (l4 : Nat) (c5 : Nat) (x6 : Option Addr) (l7 : Nat) (c8 : Nat) (n9 : Int) (R : Ending → Hp → Prop) : Hp → Prop :=
  NEW 25 [(.int .i64 n1), (.int .i64 n2), (.slice x3 l4 c5), (.slice x6 l7 c8)] fun B10 =>
    L_ref10_least_0 W R n9 ⟨B10, 0, none⟩ none 0 0 0
theorem T_ref10_least_eq (W : World) (n1 : Int) (n2 : Int) (x3 : Option Addr) (l4 : Nat) (c5 : Nat) (x6 : Option Addr) (l7 : Nat) (c8 : Nat) (n9 : Int) (R : Ending → Hp → Prop) : vfun Pg W an_53 Try.f53 [(.agg #[(.int .i64 n1), (.int .i64 n2), (.slice x3 l4 c5), (.slice x6 l7 c8)]), (.int .i64 n9)] R = T_ref10_least W n1 n2 x3 l4 c5 x6 l7 c8 n9 R := by kernel_rfl
theorem does_ref10_least (W : World) (n1 : Int) (n2 : Int) (x3 : Option Addr) (l4 : Nat) (c5 : Nat) (x6 : Option Addr) (l7 : Nat) (c8 : Nat) (n9 : Int) (R : Ending → Hp → Prop) (s : Hp) (h : T_ref10_least W n1 n2 x3 l4 c5 x6 l7 c8 n9 R s) : Does Pg W F_ref10_least #[(.agg #[(.int .i64 n1), (.int .i64 n2), (.slice x3 l4 c5), (.slice x6 l7 c8)]), (.int .i64 n9)] s R :=
  does_of_vfun Pg W an_53 Try.func53 rfl (by kernel_rfl) (by rw [T_ref10_least_eq]; exact h)
def an_54 : Nat → Ann := fun b => match b with
  | 0 => { ms := [5, 6], ks := [.l, .i .i64], us := [1, 2, 4, 25], rt := false, ex := [] }
  | _ => {}
abbrev rv_54 : List ResultVar := [.tmp 4]
abbrev rs_54 : List Nat := [25, 4]
def L_ref10_most_0 (W : World) (R : Ending → Hp → Prop) (zn0 : Int) (za1 : Addr) (x11 : Option Addr) (l12 : Nat) (c13 : Nat) (n14 : Int) : Hp → Prop :=
  LOOPN [.l, .i .i64] (fun ys next s => ∀ j : Tm, vc Pg W 25 rs_54 an_54 false (sub (bodyOf Try.f54) [1, 1, 0, 1, 0, 0]) 0 (KLoop [5, 6] [1, 2, 4, 25] [(.int .i64 zn0), (.pointer (some za1)), (.slice none 0 0), (.tuple #[])] next (KBlk 0 (KS Pg W 25 rs_54 an_54 false (sub (bodyOf Try.f54) [1, 1, 1]) 0 (fin Pg W 25 rv_54 R)))) (known [5, 6] ys (known [1, 2, 4, 25] [(.int .i64 zn0), (.pointer (some za1)), (.slice none 0 0), (.tuple #[])] j)) s) [(.slice x11 l12 c13), (.int .i64 n14)]
def B_ref10_most_0 (W : World) (R : Ending → Hp → Prop) (zn0 : Int) (za1 : Addr) (x11 : Option Addr) (l12 : Nat) (c13 : Nat) (n14 : Int) (nx0 : List Value → Hp → Prop) : Hp → Prop :=
  RDI .i64 (Addr.add za1 1) fun n15 =>
    BR (decide (n14 < n15))
      (RDI .i64 (Addr.add za1 0) fun n16 =>
        RDI .i64 (Addr.add za1 1) fun n17 =>
          RDL (Addr.add za1 2) fun x18 l19 c20 =>
            RDL (Addr.add za1 3) fun x21 l22 c23 =>
              CALL Pg W F_ref10_Points [(.agg #[(.int .i64 n16), (.int .i64 n17), (.slice x18 l19 c20), (.slice x21 l22 c23)]), (.int .i64 zn0), (.int .i64 n14)]
                (fun v24 => AGG v24 fun q26 => HD q26 fun v27 r28 => TYI .i64 v27 fun n29 =>
                  HD r28 fun v30 r31 => TYI .i64 v30 fun n32 =>
                    NL r31 <|
                      NEW 3 [(.int .i64 n32)] fun B33 =>
                        APP Pg 3 1 x11 l12 c13 (some ⟨B33, 0, none⟩) 1 fun x34 l35 c36 =>
                          NX [(.int .i64 zn0), (.pointer (some za1)), (.slice none 0 0), (.tuple #[])] [(.int .i64 zn0), (.pointer (some za1)), (.slice none 0 0), (.tuple #[])] (nx0 [(.slice x34 l35 c36), (.int .i64 (IntKind.wrap .i64 (n14 + 1)))]))
                  (fun e25 => R (.panicked e25)))
      (RDI .i64 (Addr.add za1 0) fun n37 =>
        RDI .i64 (Addr.add za1 1) fun n38 =>
          RDL (Addr.add za1 2) fun x39 l40 c41 =>
            RDL (Addr.add za1 3) fun x42 l43 c44 =>
              CALL Pg W F_ref10_row [(.agg #[(.int .i64 n37), (.int .i64 n38), (.slice x39 l40 c41), (.slice x42 l43 c44)]), (.int .i64 zn0), (.slice x11 l12 c13)]
                (fun v45 => TYL v45 fun x47 l48 c49 =>
                  R (.returned (.slice x47 l48 c49)))
                  (fun e46 => R (.panicked e46)))
theorem B_ref10_most_0_eq (W : World) (R : Ending → Hp → Prop) (zn0 : Int) (za1 : Addr) (x11 : Option Addr) (l12 : Nat) (c13 : Nat) (n14 : Int) (nx0 : List Value → Hp → Prop) (j : Tm) : vc Pg W 25 rs_54 an_54 false (sub (bodyOf Try.f54) [1, 1, 0, 1, 0, 0]) 0 (KLoop [5, 6] [1, 2, 4, 25] [(.int .i64 zn0), (.pointer (some za1)), (.slice none 0 0), (.tuple #[])] nx0 (KBlk 0 (KS Pg W 25 rs_54 an_54 false (sub (bodyOf Try.f54) [1, 1, 1]) 0 (fin Pg W 25 rv_54 R)))) (known [5, 6] [(.slice x11 l12 c13), (.int .i64 n14)] (known [1, 2, 4, 25] [(.int .i64 zn0), (.pointer (some za1)), (.slice none 0 0), (.tuple #[])] j)) = B_ref10_most_0 W R zn0 za1 x11 l12 c13 n14 nx0 := by kernel_rfl
def N_ref10_most_0 (I : Option Addr → Nat → Nat → Int → Hp → Prop) (μ : Option Addr → Nat → Nat → Int → Hp → Nat) (x110 : Option Addr) (l120 : Nat) (c130 : Nat) (n140 : Int) (s : Hp) (vs : List Value) : Hp → Prop := fun s' => ∃ x11 l12 c13 n14, vs = [(.slice x11 l12 c13), (.int .i64 n14)] ∧ I x11 l12 c13 n14 s' ∧ μ x11 l12 c13 n14 s' < μ x110 l120 c130 n140 s
theorem L_ref10_most_0_rule (W : World) (R : Ending → Hp → Prop) (zn0 : Int) (za1 : Addr) (I : Option Addr → Nat → Nat → Int → Hp → Prop) (μ : Option Addr → Nat → Nat → Int → Hp → Nat) (x110 : Option Addr) (l120 : Nat) (c130 : Nat) (n140 : Int) (s : Hp) (h0 : I x110 l120 c130 n140 s)
    (hr : ∀ (x11 : Option Addr) (l12 : Nat) (c13 : Nat) (n14 : Int) (s : Hp), I x11 l12 c13 n14 s → B_ref10_most_0 W R zn0 za1 x11 l12 c13 n14 (fun vs => N_ref10_most_0 I μ x11 l12 c13 n14 s vs) s) : L_ref10_most_0 W R zn0 za1 x110 l120 c130 n140 s := by
  refine ⟨fun vs s => ∃ x11 l12 c13 n14, vs = [(.slice x11 l12 c13), (.int .i64 n14)] ∧ I x11 l12 c13 n14 s, fun vs s => (match vs with | [.slice x11 l12 c13, .int _ n14] => μ x11 l12 c13 n14 s | _ => 0), ⟨⟨⟨_, _, _, rfl⟩, ⟨⟨_, rfl⟩, trivial⟩⟩, ⟨_, _, _, _, rfl, h0⟩⟩, ?_⟩
  intro x11 l12 c13 n14 s hI j
  obtain ⟨x11', l12', c13', n14', hy, hI⟩ := hI
  have hI' : I x11 l12 c13 n14 s := by cases hy; exact hI
  have hh := hr x11 l12 c13 n14 s hI'
  rw [← B_ref10_most_0_eq W R zn0 za1 x11 l12 c13 n14 _ j] at hh
  refine vc_mono ?_ _ _ hh
  exact KLoop_mono (fun vs s' h => by obtain ⟨x111, l121, c131, n141, rfl, h1, h2⟩ := h; exact ⟨⟨⟨_, _, _, rfl⟩, ⟨⟨_, rfl⟩, trivial⟩⟩, ⟨_, _, _, _, rfl, h1⟩, h2⟩)
def T_ref10_most (W : World) (n1 : Int) (n2 : Int) (x3 : Option Addr) (l4 : Nat) (c5 : Nat) (x6 : Option Addr) (l7 : Nat) (c8 : Nat) (n9 : Int) (R : Ending → Hp → Prop) : Hp → Prop :=
  NEW 25 [(.int .i64 n1), (.int .i64 n2), (.slice x3 l4 c5), (.slice x6 l7 c8)] fun B10 =>
    L_ref10_most_0 W R n9 ⟨B10, 0, none⟩ none 0 0 0
theorem T_ref10_most_eq (W : World) (n1 : Int) (n2 : Int) (x3 : Option Addr) (l4 : Nat) (c5 : Nat) (x6 : Option Addr) (l7 : Nat) (c8 : Nat) (n9 : Int) (R : Ending → Hp → Prop) : vfun Pg W an_54 Try.f54 [(.agg #[(.int .i64 n1), (.int .i64 n2), (.slice x3 l4 c5), (.slice x6 l7 c8)]), (.int .i64 n9)] R = T_ref10_most W n1 n2 x3 l4 c5 x6 l7 c8 n9 R := by kernel_rfl
theorem does_ref10_most (W : World) (n1 : Int) (n2 : Int) (x3 : Option Addr) (l4 : Nat) (c5 : Nat) (x6 : Option Addr) (l7 : Nat) (c8 : Nat) (n9 : Int) (R : Ending → Hp → Prop) (s : Hp) (h : T_ref10_most W n1 n2 x3 l4 c5 x6 l7 c8 n9 R s) : Does Pg W F_ref10_most #[(.agg #[(.int .i64 n1), (.int .i64 n2), (.slice x3 l4 c5), (.slice x6 l7 c8)]), (.int .i64 n9)] s R :=
  does_of_vfun Pg W an_54 Try.func54 rfl (by kernel_rfl) (by rw [T_ref10_most_eq]; exact h)
def an_57 : Nat → Ann := fun b => match b with
  | _ => {}
abbrev rv_57 : List ResultVar := [.tmp 6]
abbrev rs_57 : List Nat := [19, 6]
def T_ref10_surely (W : World) (n1 : Int) (n2 : Int) (x3 : Option Addr) (l4 : Nat) (c5 : Nat) (x6 : Option Addr) (l7 : Nat) (c8 : Nat) (n9 : Int) (n10 : Int) (R : Ending → Hp → Prop) : Hp → Prop :=
  NEW 25 [(.int .i64 n1), (.int .i64 n2), (.slice x3 l4 c5), (.slice x6 l7 c8)] fun B11 =>
    BR (n9 != n10)
      (RDI .i64 (Addr.add ⟨B11, 0, none⟩ 0) fun n12 =>
        RDI .i64 (Addr.add ⟨B11, 0, none⟩ 1) fun n13 =>
          RDL (Addr.add ⟨B11, 0, none⟩ 2) fun x14 l15 c16 =>
            RDL (Addr.add ⟨B11, 0, none⟩ 3) fun x17 l18 c19 =>
              RDI .i64 (Addr.add ⟨B11, 0, none⟩ 0) fun n20 =>
                RDI .i64 (Addr.add ⟨B11, 0, none⟩ 1) fun n21 =>
                  RDL (Addr.add ⟨B11, 0, none⟩ 2) fun x22 l23 c24 =>
                    RDL (Addr.add ⟨B11, 0, none⟩ 3) fun x25 l26 c27 =>
                      CALL Pg W F_ref10_least [(.agg #[(.int .i64 n12), (.int .i64 n13), (.slice x14 l15 c16), (.slice x17 l18 c19)]), (.int .i64 n9)]
                        (fun v28 => TYL v28 fun x30 l31 c32 =>
                          ANDS (RDI .i64 (Addr.add ⟨B11, 0, none⟩ 0) fun n41 =>
                            RDI .i64 (Addr.add ⟨B11, 0, none⟩ 1) fun n42 =>
                              RDL (Addr.add ⟨B11, 0, none⟩ 2) fun x43 l44 c45 =>
                                RDL (Addr.add ⟨B11, 0, none⟩ 3) fun x46 l47 c48 =>
                                  fun _ => ((.agg #[(.int .i64 n41), (.int .i64 n42), (.slice x43 l44 c45), (.slice x46 l47 c48)]) : Value) = (.agg #[(.int .i64 n20), (.int .i64 n21), (.slice x22 l23 c24), (.slice x25 l26 c27)])) <|
                            CALL Pg W F_ref10_most [(.agg #[(.int .i64 n20), (.int .i64 n21), (.slice x22 l23 c24), (.slice x25 l26 c27)]), (.int .i64 n10)]
                              (fun v49 => TYL v49 fun x51 l52 c53 =>
                                CALL Pg W F_ref10_ahead [(.slice x30 l31 c32), (.slice x51 l52 c53)]
                                  (fun v54 => TYB v54 fun b56 =>
                                    R (.returned (.bool b56)))
                                    (fun e55 => R (.panicked e55)))
                                (fun e50 => R (.panicked e50)))
                          (fun e29 => R (.panicked e29)))
      (R (.returned (.bool false)))
theorem T_ref10_surely_eq (W : World) (n1 : Int) (n2 : Int) (x3 : Option Addr) (l4 : Nat) (c5 : Nat) (x6 : Option Addr) (l7 : Nat) (c8 : Nat) (n9 : Int) (n10 : Int) (R : Ending → Hp → Prop) : vfun Pg W an_57 Try.f57 [(.agg #[(.int .i64 n1), (.int .i64 n2), (.slice x3 l4 c5), (.slice x6 l7 c8)]), (.int .i64 n9), (.int .i64 n10)] R = T_ref10_surely W n1 n2 x3 l4 c5 x6 l7 c8 n9 n10 R := by kernel_rfl
theorem does_ref10_surely (W : World) (n1 : Int) (n2 : Int) (x3 : Option Addr) (l4 : Nat) (c5 : Nat) (x6 : Option Addr) (l7 : Nat) (c8 : Nat) (n9 : Int) (n10 : Int) (R : Ending → Hp → Prop) (s : Hp) (h : T_ref10_surely W n1 n2 x3 l4 c5 x6 l7 c8 n9 n10 R s) : Does Pg W F_ref10_surely #[(.agg #[(.int .i64 n1), (.int .i64 n2), (.slice x3 l4 c5), (.slice x6 l7 c8)]), (.int .i64 n9), (.int .i64 n10)] s R :=
  does_of_vfun Pg W an_57 Try.func57 rfl (by kernel_rfl) (by rw [T_ref10_surely_eq]; exact h)
def an_58 : Nat → Ann := fun b => match b with
  | _ => {}
abbrev rv_58 : List ResultVar := [.tmp 6]
abbrev rs_58 : List Nat := [19, 6]
def T_ref10_can (W : World) (n1 : Int) (n2 : Int) (x3 : Option Addr) (l4 : Nat) (c5 : Nat) (x6 : Option Addr) (l7 : Nat) (c8 : Nat) (n9 : Int) (n10 : Int) (R : Ending → Hp → Prop) : Hp → Prop :=
  NEW 25 [(.int .i64 n1), (.int .i64 n2), (.slice x3 l4 c5), (.slice x6 l7 c8)] fun B11 =>
    BR (n9 != n10)
      (RDI .i64 (Addr.add ⟨B11, 0, none⟩ 0) fun n12 =>
        RDI .i64 (Addr.add ⟨B11, 0, none⟩ 1) fun n13 =>
          RDL (Addr.add ⟨B11, 0, none⟩ 2) fun x14 l15 c16 =>
            RDL (Addr.add ⟨B11, 0, none⟩ 3) fun x17 l18 c19 =>
              RDI .i64 (Addr.add ⟨B11, 0, none⟩ 0) fun n20 =>
                RDI .i64 (Addr.add ⟨B11, 0, none⟩ 1) fun n21 =>
                  RDL (Addr.add ⟨B11, 0, none⟩ 2) fun x22 l23 c24 =>
                    RDL (Addr.add ⟨B11, 0, none⟩ 3) fun x25 l26 c27 =>
                      CALL Pg W F_ref10_most [(.agg #[(.int .i64 n12), (.int .i64 n13), (.slice x14 l15 c16), (.slice x17 l18 c19)]), (.int .i64 n9)]
                        (fun v28 => TYL v28 fun x30 l31 c32 =>
                          ANDS (RDI .i64 (Addr.add ⟨B11, 0, none⟩ 0) fun n41 =>
                            RDI .i64 (Addr.add ⟨B11, 0, none⟩ 1) fun n42 =>
                              RDL (Addr.add ⟨B11, 0, none⟩ 2) fun x43 l44 c45 =>
                                RDL (Addr.add ⟨B11, 0, none⟩ 3) fun x46 l47 c48 =>
                                  fun _ => ((.agg #[(.int .i64 n41), (.int .i64 n42), (.slice x43 l44 c45), (.slice x46 l47 c48)]) : Value) = (.agg #[(.int .i64 n20), (.int .i64 n21), (.slice x22 l23 c24), (.slice x25 l26 c27)])) <|
                            CALL Pg W F_ref10_least [(.agg #[(.int .i64 n20), (.int .i64 n21), (.slice x22 l23 c24), (.slice x25 l26 c27)]), (.int .i64 n10)]
                              (fun v49 => TYL v49 fun x51 l52 c53 =>
                                CALL Pg W F_ref10_ahead [(.slice x30 l31 c32), (.slice x51 l52 c53)]
                                  (fun v54 => TYB v54 fun b56 =>
                                    R (.returned (.bool b56)))
                                    (fun e55 => R (.panicked e55)))
                                (fun e50 => R (.panicked e50)))
                          (fun e29 => R (.panicked e29)))
      (R (.returned (.bool false)))
theorem T_ref10_can_eq (W : World) (n1 : Int) (n2 : Int) (x3 : Option Addr) (l4 : Nat) (c5 : Nat) (x6 : Option Addr) (l7 : Nat) (c8 : Nat) (n9 : Int) (n10 : Int) (R : Ending → Hp → Prop) : vfun Pg W an_58 Try.f58 [(.agg #[(.int .i64 n1), (.int .i64 n2), (.slice x3 l4 c5), (.slice x6 l7 c8)]), (.int .i64 n9), (.int .i64 n10)] R = T_ref10_can W n1 n2 x3 l4 c5 x6 l7 c8 n9 n10 R := by kernel_rfl
theorem does_ref10_can (W : World) (n1 : Int) (n2 : Int) (x3 : Option Addr) (l4 : Nat) (c5 : Nat) (x6 : Option Addr) (l7 : Nat) (c8 : Nat) (n9 : Int) (n10 : Int) (R : Ending → Hp → Prop) (s : Hp) (h : T_ref10_can W n1 n2 x3 l4 c5 x6 l7 c8 n9 n10 R s) : Does Pg W F_ref10_can #[(.agg #[(.int .i64 n1), (.int .i64 n2), (.slice x3 l4 c5), (.slice x6 l7 c8)]), (.int .i64 n9), (.int .i64 n10)] s R :=
  does_of_vfun Pg W an_58 Try.func58 rfl (by kernel_rfl) (by rw [T_ref10_can_eq]; exact h)
def an_60 : Nat → Ann := fun b => match b with
  | 0 => { ms := [6], ks := [.i .i64], us := [1, 2, 4, 5, 40], rt := false, ex := [] }
  | _ => {}
abbrev rv_60 : List ResultVar := [.cell 4 29]
abbrev rs_60 : List Nat := [40, 4]
def L_ref10_place_0 (W : World) (R : Ending → Hp → Prop) (zn0 : Int) (za1 : Addr) (za2 : Addr) (za3 : Addr) (n13 : Int) : Hp → Prop :=
  LOOPN [.i .i64] (fun ys next s => ∀ j : Tm, vc Pg W 40 rs_60 an_60 false (sub (bodyOf Try.f60) [1, 1, 0, 1, 0, 0]) 0 (KLoop [6] [1, 2, 4, 5, 40] [(.int .i64 zn0), (.pointer (some za1)), (.pointer (some za2)), (.pointer (some za3)), (.tuple #[])] next (KBlk 0 (KS Pg W 40 rs_60 an_60 false (sub (bodyOf Try.f60) [1, 1, 1]) 0 (fin Pg W 40 rv_60 R)))) (known [6] ys (known [1, 2, 4, 5, 40] [(.int .i64 zn0), (.pointer (some za1)), (.pointer (some za2)), (.pointer (some za3)), (.tuple #[])] j)) s) [(.int .i64 n13)]
def J_ref10_place_0 (W : World) (R : Ending → Hp → Prop) (zn0 : Int) (za1 : Addr) (za2 : Addr) (za3 : Addr) (nx0 : List Value → Hp → Prop) (n13 : Int) : Hp → Prop :=
  NX [(.int .i64 zn0), (.pointer (some za1)), (.pointer (some za2)), (.pointer (some za3)), (.tuple #[])] [(.int .i64 zn0), (.pointer (some za1)), (.pointer (some za2)), (.pointer (some za3)), (.tuple #[])] (nx0 [(.int .i64 (IntKind.wrap .i64 (n13 + 1)))])
def J_ref10_place_1 (W : World) (R : Ending → Hp → Prop) (za1 : Addr) (n13 : Int) (zn0 : Int) (za3 : Addr) (za2 : Addr) (nx0 : List Value → Hp → Prop) : Hp → Prop :=
  RDI .i64 (Addr.add za1 0) fun n53 =>
    RDI .i64 (Addr.add za1 1) fun n54 =>
      RDL (Addr.add za1 2) fun x55 l56 c57 =>
        RDL (Addr.add za1 3) fun x58 l59 c60 =>
          RDI .i64 (Addr.add za1 0) fun n61 =>
            RDI .i64 (Addr.add za1 1) fun n62 =>
              RDL (Addr.add za1 2) fun x63 l64 c65 =>
                RDL (Addr.add za1 3) fun x66 l67 c68 =>
                  CALL Pg W F_ref10_most [(.agg #[(.int .i64 n53), (.int .i64 n54), (.slice x55 l56 c57), (.slice x58 l59 c60)]), (.int .i64 n13)]
                    (fun v69 => TYL v69 fun x71 l72 c73 =>
                      ANDS (RDI .i64 (Addr.add za1 0) fun n74 =>
                        RDI .i64 (Addr.add za1 1) fun n75 =>
                          RDL (Addr.add za1 2) fun x76 l77 c78 =>
                            RDL (Addr.add za1 3) fun x79 l80 c81 =>
                              fun _ => ((.agg #[(.int .i64 n74), (.int .i64 n75), (.slice x76 l77 c78), (.slice x79 l80 c81)]) : Value) = (.agg #[(.int .i64 n61), (.int .i64 n62), (.slice x63 l64 c65), (.slice x66 l67 c68)])) <|
                        CALL Pg W F_ref10_least [(.agg #[(.int .i64 n61), (.int .i64 n62), (.slice x63 l64 c65), (.slice x66 l67 c68)]), (.int .i64 zn0)]
                          (fun v82 => TYL v82 fun x84 l85 c86 =>
                            CALL Pg W F_ref10_ahead [(.slice x71 l72 c73), (.slice x84 l85 c86)]
                              (fun v87 => TYB v87 fun b89 =>
                                BR b89
                                  (RDI .i64 (Addr.add za3 1) fun n90 =>
                                    WR (Addr.add (Addr.add za3 1) 0) (.int .i64 (IntKind.wrap .i64 (n90 + 1))) <|
                                      J_ref10_place_0 W R zn0 za1 za2 za3 nx0 n13)
                                  (J_ref10_place_0 W R zn0 za1 za2 za3 nx0 n13))
                                (fun e88 => R (.panicked e88)))
                            (fun e83 => R (.panicked e83)))
                      (fun e70 => R (.panicked e70))
def B_ref10_place_0 (W : World) (R : Ending → Hp → Prop) (zn0 : Int) (za1 : Addr) (za2 : Addr) (za3 : Addr) (n13 : Int) (nx0 : List Value → Hp → Prop) : Hp → Prop :=
  RDI .i64 (Addr.add za1 0) fun n14 =>
    BR (decide (n13 < n14))
      (BR (n13 == zn0)
        (J_ref10_place_0 W R zn0 za1 za2 za3 nx0 n13)
        (RDI .i64 (Addr.add za1 0) fun n15 =>
          RDI .i64 (Addr.add za1 1) fun n16 =>
            RDL (Addr.add za1 2) fun x17 l18 c19 =>
              RDL (Addr.add za1 3) fun x20 l21 c22 =>
                RDI .i64 (Addr.add za1 0) fun n23 =>
                  RDI .i64 (Addr.add za1 1) fun n24 =>
                    RDL (Addr.add za1 2) fun x25 l26 c27 =>
                      RDL (Addr.add za1 3) fun x28 l29 c30 =>
                        CALL Pg W F_ref10_least [(.agg #[(.int .i64 n15), (.int .i64 n16), (.slice x17 l18 c19), (.slice x20 l21 c22)]), (.int .i64 n13)]
                          (fun v31 => TYL v31 fun x33 l34 c35 =>
                            ANDS (RDI .i64 (Addr.add za1 0) fun n36 =>
                              RDI .i64 (Addr.add za1 1) fun n37 =>
                                RDL (Addr.add za1 2) fun x38 l39 c40 =>
                                  RDL (Addr.add za1 3) fun x41 l42 c43 =>
                                    fun _ => ((.agg #[(.int .i64 n36), (.int .i64 n37), (.slice x38 l39 c40), (.slice x41 l42 c43)]) : Value) = (.agg #[(.int .i64 n23), (.int .i64 n24), (.slice x25 l26 c27), (.slice x28 l29 c30)])) <|
                              CALL Pg W F_ref10_most [(.agg #[(.int .i64 n23), (.int .i64 n24), (.slice x25 l26 c27), (.slice x28 l29 c30)]), (.int .i64 zn0)]
                                (fun v44 => TYL v44 fun x46 l47 c48 =>
                                  CALL Pg W F_ref10_ahead [(.slice x33 l34 c35), (.slice x46 l47 c48)]
                                    (fun v49 => TYB v49 fun b51 =>
                                      BR b51
                                        (RDI .i64 (Addr.add za3 0) fun n52 =>
                                          WR (Addr.add (Addr.add za3 0) 0) (.int .i64 (IntKind.wrap .i64 (n52 + 1))) <|
                                            J_ref10_place_1 W R za1 n13 zn0 za3 za2 nx0)
                                        (J_ref10_place_1 W R za1 n13 zn0 za3 za2 nx0))
                                      (fun e50 => R (.panicked e50)))
                                  (fun e45 => R (.panicked e45)))
                            (fun e32 => R (.panicked e32))))
      (RDI .i64 (Addr.add za3 0) fun n91 =>
        RDI .i64 (Addr.add za3 1) fun n92 =>
          WR (Addr.add za2 0) (.int .i64 n91) <|
            WR (Addr.add za2 1) (.int .i64 n92) <|
              RDI .i64 (Addr.add za2 0) fun n93 =>
                RDI .i64 (Addr.add za2 1) fun n94 =>
                  R (.returned (.agg #[(.int .i64 n93), (.int .i64 n94)])))
theorem B_ref10_place_0_eq (W : World) (R : Ending → Hp → Prop) (zn0 : Int) (za1 : Addr) (za2 : Addr) (za3 : Addr) (n13 : Int) (nx0 : List Value → Hp → Prop) (j : Tm) : vc Pg W 40 rs_60 an_60 false (sub (bodyOf Try.f60) [1, 1, 0, 1, 0, 0]) 0 (KLoop [6] [1, 2, 4, 5, 40] [(.int .i64 zn0), (.pointer (some za1)), (.pointer (some za2)), (.pointer (some za3)), (.tuple #[])] nx0 (KBlk 0 (KS Pg W 40 rs_60 an_60 false (sub (bodyOf Try.f60) [1, 1, 1]) 0 (fin Pg W 40 rv_60 R)))) (known [6] [(.int .i64 n13)] (known [1, 2, 4, 5, 40] [(.int .i64 zn0), (.pointer (some za1)), (.pointer (some za2)), (.pointer (some za3)), (.tuple #[])] j)) = B_ref10_place_0 W R zn0 za1 za2 za3 n13 nx0 := by kernel_rfl
def N_ref10_place_0 (I : Int → Hp → Prop) (μ : Int → Hp → Nat) (n130 : Int) (s : Hp) (vs : List Value) : Hp → Prop := fun s' => ∃ n13, vs = [(.int .i64 n13)] ∧ I n13 s' ∧ μ n13 s' < μ n130 s
theorem L_ref10_place_0_rule (W : World) (R : Ending → Hp → Prop) (zn0 : Int) (za1 : Addr) (za2 : Addr) (za3 : Addr) (I : Int → Hp → Prop) (μ : Int → Hp → Nat) (n130 : Int) (s : Hp) (h0 : I n130 s)
    (hr : ∀ (n13 : Int) (s : Hp), I n13 s → B_ref10_place_0 W R zn0 za1 za2 za3 n13 (fun vs => N_ref10_place_0 I μ n13 s vs) s) : L_ref10_place_0 W R zn0 za1 za2 za3 n130 s := by
  refine ⟨fun vs s => ∃ n13, vs = [(.int .i64 n13)] ∧ I n13 s, fun vs s => (match vs with | [.int _ n13] => μ n13 s | _ => 0), ⟨⟨⟨_, rfl⟩, trivial⟩, ⟨_, rfl, h0⟩⟩, ?_⟩
  intro n13 s hI j
  obtain ⟨n13', hy, hI⟩ := hI
  have hI' : I n13 s := by cases hy; exact hI
  have hh := hr n13 s hI'
  rw [← B_ref10_place_0_eq W R zn0 za1 za2 za3 n13 _ j] at hh
  refine vc_mono ?_ _ _ hh
  exact KLoop_mono (fun vs s' h => by obtain ⟨n131, rfl, h1, h2⟩ := h; exact ⟨⟨⟨_, rfl⟩, trivial⟩, ⟨_, rfl, h1⟩, h2⟩)
def T_ref10_place (W : World) (n1 : Int) (n2 : Int) (x3 : Option Addr) (l4 : Nat) (c5 : Nat) (x6 : Option Addr) (l7 : Nat) (c8 : Nat) (n9 : Int) (R : Ending → Hp → Prop) : Hp → Prop :=
  NEW 25 [(.int .i64 n1), (.int .i64 n2), (.slice x3 l4 c5), (.slice x6 l7 c8)] fun B10 =>
    NEWZ Pg 29 fun B11 =>
      NEWZ Pg 29 fun B12 =>
        WR (Addr.add ⟨B12, 0, none⟩ 0) (.int .i64 1) <|
          WR (Addr.add ⟨B12, 0, none⟩ 1) (.int .i64 1) <|
            L_ref10_place_0 W R n9 ⟨B10, 0, none⟩ ⟨B11, 0, none⟩ ⟨B12, 0, none⟩ 0
theorem T_ref10_place_eq (W : World) (n1 : Int) (n2 : Int) (x3 : Option Addr) (l4 : Nat) (c5 : Nat) (x6 : Option Addr) (l7 : Nat) (c8 : Nat) (n9 : Int) (R : Ending → Hp → Prop) : vfun Pg W an_60 Try.f60 [(.agg #[(.int .i64 n1), (.int .i64 n2), (.slice x3 l4 c5), (.slice x6 l7 c8)]), (.int .i64 n9)] R = T_ref10_place W n1 n2 x3 l4 c5 x6 l7 c8 n9 R := by kernel_rfl
theorem does_ref10_place (W : World) (n1 : Int) (n2 : Int) (x3 : Option Addr) (l4 : Nat) (c5 : Nat) (x6 : Option Addr) (l7 : Nat) (c8 : Nat) (n9 : Int) (R : Ending → Hp → Prop) (s : Hp) (h : T_ref10_place W n1 n2 x3 l4 c5 x6 l7 c8 n9 R s) : Does Pg W F_ref10_place #[(.agg #[(.int .i64 n1), (.int .i64 n2), (.slice x3 l4 c5), (.slice x6 l7 c8)]), (.int .i64 n9)] s R :=
  does_of_vfun Pg W an_60 Try.func60 rfl (by kernel_rfl) (by rw [T_ref10_place_eq]; exact h)
def an_65 : Nat → Ann := fun b => match b with
  | 0 => { ms := [10], ks := [.i .i64], us := [1, 2, 3, 4, 8, 9, 46], rt := false, ex := [] }
  | _ => {}
abbrev rv_65 : List ResultVar := [.cell 8 25]
abbrev rs_65 : List Nat := [46, 8]
def L_ref10_read_0 (W : World) (R : Ending → Hp → Prop) (zn0 : Int) (zn1 : Int) (zn2 : Int) (za3 : Addr) (za4 : Addr) (za5 : Addr) (n23 : Int) : Hp → Prop :=
  LOOPN [.i .i64] (fun ys next s => ∀ j : Tm, vc Pg W 46 rs_65 an_65 false (sub (bodyOf Try.f65) [1, 1, 0, 1, 0, 0]) 0 (KLoop [10] [1, 2, 3, 4, 8, 9, 46] [(.int .i64 zn0), (.int .i64 zn1), (.int .i64 zn2), (.pointer (some za3)), (.pointer (some za4)), (.pointer (some za5)), (.tuple #[])] next (KBlk 0 (KS Pg W 46 rs_65 an_65 false (sub (bodyOf Try.f65) [1, 1, 1]) 0 (fin Pg W 46 rv_65 R)))) (known [10] ys (known [1, 2, 3, 4, 8, 9, 46] [(.int .i64 zn0), (.int .i64 zn1), (.int .i64 zn2), (.pointer (some za3)), (.pointer (some za4)), (.pointer (some za5)), (.tuple #[])] j)) s) [(.int .i64 n23)]
def J_ref10_read_0 (W : World) (R : Ending → Hp → Prop) (zn0 : Int) (zn1 : Int) (zn2 : Int) (za3 : Addr) (za4 : Addr) (za5 : Addr) (nx0 : List Value → Hp → Prop) (n23 : Int) : Hp → Prop :=
  NX [(.int .i64 zn0), (.int .i64 zn1), (.int .i64 zn2), (.pointer (some za3)), (.pointer (some za4)), (.pointer (some za5)), (.tuple #[])] [(.int .i64 zn0), (.int .i64 zn1), (.int .i64 zn2), (.pointer (some za3)), (.pointer (some za4)), (.pointer (some za5)), (.tuple #[])] (nx0 [(.int .i64 (IntKind.wrap .i64 (n23 + 1)))])
def J_ref10_read_1 (W : World) (R : Ending → Hp → Prop) (za3 : Addr) (zn2 : Int) (n23 : Int) (za5 : Addr) (zn1 : Int) (zn0 : Int) (za4 : Addr) (nx0 : List Value → Hp → Prop) : Hp → Prop :=
  RDI .i64 (Addr.add za3 1) fun n88 =>
    CALL Pg W F_ref10_Has [(.int .i64 zn2), (.int .i64 (IntKind.wrap .i64 (n88 + n23)))]
      (fun v89 => TYB v89 fun b91 =>
        BR b91
          (RDI .i64 (Addr.add za5 0) fun n92 =>
            RDI .i64 (Addr.add za5 1) fun n93 =>
              RDL (Addr.add za5 2) fun x94 l95 c96 =>
                RDL (Addr.add za5 3) fun x97 l98 c99 =>
                  RDI .i64 (Addr.add za3 0) fun n100 =>
                    RDI .i64 (Addr.add za3 1) fun n101 =>
                      RDL (Addr.add za3 2) fun x102 l103 c104 =>
                        RDL (Addr.add za3 3) fun x105 l106 c107 =>
                          CALL Pg W F_ref10_Points [(.agg #[(.int .i64 n100), (.int .i64 n101), (.slice x102 l103 c104), (.slice x105 l106 c107)]), (.int .i64 zn1), (.int .i64 n23)]
                            (fun v108 => AGG v108 fun q110 => HD q110 fun v111 r112 => TYI .i64 v111 fun n113 =>
                              HD r112 fun v114 r115 => TYI .i64 v114 fun n116 =>
                                NL r115 <|
                                  ANDS (RDI .i64 (Addr.add za5 0) fun n117 =>
                                    RDI .i64 (Addr.add za5 1) fun n118 =>
                                      RDL (Addr.add za5 2) fun x119 l120 c121 =>
                                        RDL (Addr.add za5 3) fun x122 l123 c124 =>
                                          fun _ => ((.agg #[(.int .i64 n117), (.int .i64 n118), (.slice x119 l120 c121), (.slice x122 l123 c124)]) : Value) = (.agg #[(.int .i64 n92), (.int .i64 n93), (.slice x94 l95 c96), (.slice x97 l98 c99)])) <|
                                    ANDS (RDI .i64 (Addr.add za5 0) fun n125 =>
                                      RDI .i64 (Addr.add za5 1) fun n126 =>
                                        RDL (Addr.add za5 2) fun x127 l128 c129 =>
                                          RDL (Addr.add za5 3) fun x130 l131 c132 =>
                                            fun _ => ((.agg #[(.int .i64 n125), (.int .i64 n126), (.slice x127 l128 c129), (.slice x130 l131 c132)]) : Value) = (.agg #[(.int .i64 n92), (.int .i64 n93), (.slice x94 l95 c96), (.slice x97 l98 c99)])) <|
                                      CALL Pg W F_ref10_With [(.agg #[(.int .i64 n92), (.int .i64 n93), (.slice x94 l95 c96), (.slice x97 l98 c99)]), (.int .i64 zn1), (.int .i64 n23), (.int .i64 n113)]
                                        (fun v133 => AGG v133 fun q135 => HD q135 fun v136 r137 => TYI .i64 v136 fun n138 =>
                                          HD r137 fun v139 r140 => TYI .i64 v139 fun n141 =>
                                            HD r140 fun v142 r143 => TYL v142 fun x144 l145 c146 =>
                                              HD r143 fun v147 r148 => TYL v147 fun x149 l150 c151 =>
                                                NL r148 <|
                                                  WR (Addr.add za5 0) (.int .i64 n138) <|
                                                    WR (Addr.add za5 1) (.int .i64 n141) <|
                                                      WR (Addr.add za5 2) (.slice x144 l145 c146) <|
                                                        WR (Addr.add za5 3) (.slice x149 l150 c151) <|
                                                          J_ref10_read_0 W R zn0 zn1 zn2 za3 za4 za5 nx0 n23)
                                          (fun e134 => R (.panicked e134)))
                              (fun e109 => R (.panicked e109)))
          (J_ref10_read_0 W R zn0 zn1 zn2 za3 za4 za5 nx0 n23))
        (fun e90 => R (.panicked e90))
def B_ref10_read_0 (W : World) (R : Ending → Hp → Prop) (zn0 : Int) (zn1 : Int) (zn2 : Int) (za3 : Addr) (za4 : Addr) (za5 : Addr) (n23 : Int) (nx0 : List Value → Hp → Prop) : Hp → Prop :=
  RDI .i64 (Addr.add za3 1) fun n24 =>
    BR (decide (n23 < n24))
      (CALL Pg W F_ref10_Has [(.int .i64 zn2), (.int .i64 n23)]
        (fun v25 => TYB v25 fun b27 =>
          BR b27
            (RDI .i64 (Addr.add za5 0) fun n28 =>
              RDI .i64 (Addr.add za5 1) fun n29 =>
                RDL (Addr.add za5 2) fun x30 l31 c32 =>
                  RDL (Addr.add za5 3) fun x33 l34 c35 =>
                    RDI .i64 (Addr.add za3 0) fun n36 =>
                      RDI .i64 (Addr.add za3 1) fun n37 =>
                        RDL (Addr.add za3 2) fun x38 l39 c40 =>
                          RDL (Addr.add za3 3) fun x41 l42 c43 =>
                            CALL Pg W F_ref10_Points [(.agg #[(.int .i64 n36), (.int .i64 n37), (.slice x38 l39 c40), (.slice x41 l42 c43)]), (.int .i64 zn0), (.int .i64 n23)]
                              (fun v44 => AGG v44 fun q46 => HD q46 fun v47 r48 => TYI .i64 v47 fun n49 =>
                                HD r48 fun v50 r51 => TYI .i64 v50 fun n52 =>
                                  NL r51 <|
                                    ANDS (RDI .i64 (Addr.add za5 0) fun n53 =>
                                      RDI .i64 (Addr.add za5 1) fun n54 =>
                                        RDL (Addr.add za5 2) fun x55 l56 c57 =>
                                          RDL (Addr.add za5 3) fun x58 l59 c60 =>
                                            fun _ => ((.agg #[(.int .i64 n53), (.int .i64 n54), (.slice x55 l56 c57), (.slice x58 l59 c60)]) : Value) = (.agg #[(.int .i64 n28), (.int .i64 n29), (.slice x30 l31 c32), (.slice x33 l34 c35)])) <|
                                      ANDS (RDI .i64 (Addr.add za5 0) fun n61 =>
                                        RDI .i64 (Addr.add za5 1) fun n62 =>
                                          RDL (Addr.add za5 2) fun x63 l64 c65 =>
                                            RDL (Addr.add za5 3) fun x66 l67 c68 =>
                                              fun _ => ((.agg #[(.int .i64 n61), (.int .i64 n62), (.slice x63 l64 c65), (.slice x66 l67 c68)]) : Value) = (.agg #[(.int .i64 n28), (.int .i64 n29), (.slice x30 l31 c32), (.slice x33 l34 c35)])) <|
                                        CALL Pg W F_ref10_With [(.agg #[(.int .i64 n28), (.int .i64 n29), (.slice x30 l31 c32), (.slice x33 l34 c35)]), (.int .i64 zn0), (.int .i64 n23), (.int .i64 n52)]
                                          (fun v69 => AGG v69 fun q71 => HD q71 fun v72 r73 => TYI .i64 v72 fun n74 =>
                                            HD r73 fun v75 r76 => TYI .i64 v75 fun n77 =>
                                              HD r76 fun v78 r79 => TYL v78 fun x80 l81 c82 =>
                                                HD r79 fun v83 r84 => TYL v83 fun x85 l86 c87 =>
                                                  NL r84 <|
                                                    WR (Addr.add za5 0) (.int .i64 n74) <|
                                                      WR (Addr.add za5 1) (.int .i64 n77) <|
                                                        WR (Addr.add za5 2) (.slice x80 l81 c82) <|
                                                          WR (Addr.add za5 3) (.slice x85 l86 c87) <|
                                                            J_ref10_read_1 W R za3 zn2 n23 za5 zn1 zn0 za4 nx0)
                                            (fun e70 => R (.panicked e70)))
                                (fun e45 => R (.panicked e45)))
            (J_ref10_read_1 W R za3 zn2 n23 za5 zn1 zn0 za4 nx0))
          (fun e26 => R (.panicked e26)))
      (RDI .i64 (Addr.add za5 0) fun n152 =>
        RDI .i64 (Addr.add za5 1) fun n153 =>
          RDL (Addr.add za5 2) fun x154 l155 c156 =>
            RDL (Addr.add za5 3) fun x157 l158 c159 =>
              WR (Addr.add za4 0) (.int .i64 n152) <|
                WR (Addr.add za4 1) (.int .i64 n153) <|
                  WR (Addr.add za4 2) (.slice x154 l155 c156) <|
                    WR (Addr.add za4 3) (.slice x157 l158 c159) <|
                      RDI .i64 (Addr.add za4 0) fun n160 =>
                        RDI .i64 (Addr.add za4 1) fun n161 =>
                          RDL (Addr.add za4 2) fun x162 l163 c164 =>
                            RDL (Addr.add za4 3) fun x165 l166 c167 =>
                              R (.returned (.agg #[(.int .i64 n160), (.int .i64 n161), (.slice x162 l163 c164), (.slice x165 l166 c167)])))
theorem B_ref10_read_0_eq (W : World) (R : Ending → Hp → Prop) (zn0 : Int) (zn1 : Int) (zn2 : Int) (za3 : Addr) (za4 : Addr) (za5 : Addr) (n23 : Int) (nx0 : List Value → Hp → Prop) (j : Tm) : vc Pg W 46 rs_65 an_65 false (sub (bodyOf Try.f65) [1, 1, 0, 1, 0, 0]) 0 (KLoop [10] [1, 2, 3, 4, 8, 9, 46] [(.int .i64 zn0), (.int .i64 zn1), (.int .i64 zn2), (.pointer (some za3)), (.pointer (some za4)), (.pointer (some za5)), (.tuple #[])] nx0 (KBlk 0 (KS Pg W 46 rs_65 an_65 false (sub (bodyOf Try.f65) [1, 1, 1]) 0 (fin Pg W 46 rv_65 R)))) (known [10] [(.int .i64 n23)] (known [1, 2, 3, 4, 8, 9, 46] [(.int .i64 zn0), (.int .i64 zn1), (.int .i64 zn2), (.pointer (some za3)), (.pointer (some za4)), (.pointer (some za5)), (.tuple #[])] j)) = B_ref10_read_0 W R zn0 zn1 zn2 za3 za4 za5 n23 nx0 := by kernel_rfl
def N_ref10_read_0 (I : Int → Hp → Prop) (μ : Int → Hp → Nat) (n230 : Int) (s : Hp) (vs : List Value) : Hp → Prop := fun s' => ∃ n23, vs = [(.int .i64 n23)] ∧ I n23 s' ∧ μ n23 s' < μ n230 s
theorem L_ref10_read_0_rule (W : World) (R : Ending → Hp → Prop) (zn0 : Int) (zn1 : Int) (zn2 : Int) (za3 : Addr) (za4 : Addr) (za5 : Addr) (I : Int → Hp → Prop) (μ : Int → Hp → Nat) (n230 : Int) (s : Hp) (h0 : I n230 s)
    (hr : ∀ (n23 : Int) (s : Hp), I n23 s → B_ref10_read_0 W R zn0 zn1 zn2 za3 za4 za5 n23 (fun vs => N_ref10_read_0 I μ n23 s vs) s) : L_ref10_read_0 W R zn0 zn1 zn2 za3 za4 za5 n230 s := by
  refine ⟨fun vs s => ∃ n23, vs = [(.int .i64 n23)] ∧ I n23 s, fun vs s => (match vs with | [.int _ n23] => μ n23 s | _ => 0), ⟨⟨⟨_, rfl⟩, trivial⟩, ⟨_, rfl, h0⟩⟩, ?_⟩
  intro n23 s hI j
  obtain ⟨n23', hy, hI⟩ := hI
  have hI' : I n23 s := by cases hy; exact hI
  have hh := hr n23 s hI'
  rw [← B_ref10_read_0_eq W R zn0 zn1 zn2 za3 za4 za5 n23 _ j] at hh
  refine vc_mono ?_ _ _ hh
  exact KLoop_mono (fun vs s' h => by obtain ⟨n231, rfl, h1, h2⟩ := h; exact ⟨⟨⟨_, rfl⟩, trivial⟩, ⟨_, rfl, h1⟩, h2⟩)
def T_ref10_read (W : World) (n1 : Int) (n2 : Int) (x3 : Option Addr) (l4 : Nat) (c5 : Nat) (x6 : Option Addr) (l7 : Nat) (c8 : Nat) (n9 : Int) (n10 : Int) (n11 : Int) (R : Ending → Hp → Prop) : Hp → Prop :=
  NEW 25 [(.int .i64 n1), (.int .i64 n2), (.slice x3 l4 c5), (.slice x6 l7 c8)] fun B12 =>
    NEWZ Pg 25 fun B13 =>
      RDI .i64 (Addr.add ⟨B12, 0, none⟩ 0) fun n14 =>
        RDI .i64 (Addr.add ⟨B12, 0, none⟩ 1) fun n15 =>
          RDL (Addr.add ⟨B12, 0, none⟩ 2) fun x16 l17 c18 =>
            RDL (Addr.add ⟨B12, 0, none⟩ 3) fun x19 l20 c21 =>
              NEWZ Pg 25 fun B22 =>
                WR (Addr.add ⟨B22, 0, none⟩ 0) (.int .i64 n14) <|
                  WR (Addr.add ⟨B22, 0, none⟩ 1) (.int .i64 n15) <|
                    WR (Addr.add ⟨B22, 0, none⟩ 2) (.slice x16 l17 c18) <|
                      WR (Addr.add ⟨B22, 0, none⟩ 3) (.slice x19 l20 c21) <|
                        L_ref10_read_0 W R n9 n10 n11 ⟨B12, 0, none⟩ ⟨B13, 0, none⟩ ⟨B22, 0, none⟩ 0
theorem T_ref10_read_eq (W : World) (n1 : Int) (n2 : Int) (x3 : Option Addr) (l4 : Nat) (c5 : Nat) (x6 : Option Addr) (l7 : Nat) (c8 : Nat) (n9 : Int) (n10 : Int) (n11 : Int) (R : Ending → Hp → Prop) : vfun Pg W an_65 Try.f65 [(.agg #[(.int .i64 n1), (.int .i64 n2), (.slice x3 l4 c5), (.slice x6 l7 c8)]), (.int .i64 n9), (.int .i64 n10), (.int .i64 n11)] R = T_ref10_read W n1 n2 x3 l4 c5 x6 l7 c8 n9 n10 n11 R := by kernel_rfl
theorem does_ref10_read (W : World) (n1 : Int) (n2 : Int) (x3 : Option Addr) (l4 : Nat) (c5 : Nat) (x6 : Option Addr) (l7 : Nat) (c8 : Nat) (n9 : Int) (n10 : Int) (n11 : Int) (R : Ending → Hp → Prop) (s : Hp) (h : T_ref10_read W n1 n2 x3 l4 c5 x6 l7 c8 n9 n10 n11 R s) : Does Pg W F_ref10_read #[(.agg #[(.int .i64 n1), (.int .i64 n2), (.slice x3 l4 c5), (.slice x6 l7 c8)]), (.int .i64 n9), (.int .i64 n10), (.int .i64 n11)] s R :=
  does_of_vfun Pg W an_65 Try.func65 rfl (by kernel_rfl) (by rw [T_ref10_read_eq]; exact h)
def an_68 : Nat → Ann := fun b => match b with
  | _ => {}
abbrev rv_68 : List ResultVar := [.tmp 4]
abbrev rs_68 : List Nat := [10, 4]
def T_ref10_Sheet (W : World) (n1 : Int) (n2 : Int) (x3 : Option Addr) (l4 : Nat) (c5 : Nat) (x6 : Option Addr) (l7 : Nat) (c8 : Nat) (n9 : Int) (R : Ending → Hp → Prop) : Hp → Prop :=
  NEW 25 [(.int .i64 n1), (.int .i64 n2), (.slice x3 l4 c5), (.slice x6 l7 c8)] fun B10 =>
    RDI .i64 (Addr.add ⟨B10, 0, none⟩ 1) fun n11 =>
      CALL Pg W F_ref10_in [(.int .i64 n9), (.int .i64 0), (.int .i64 (IntKind.wrap .i64 (n11 - 1)))]
        (fun v12 => TYB v12 fun b14 =>
          R (.returned (.bool b14)))
          (fun e13 => R (.panicked e13))
theorem T_ref10_Sheet_eq (W : World) (n1 : Int) (n2 : Int) (x3 : Option Addr) (l4 : Nat) (c5 : Nat) (x6 : Option Addr) (l7 : Nat) (c8 : Nat) (n9 : Int) (R : Ending → Hp → Prop) : vfun Pg W an_68 Try.f68 [(.agg #[(.int .i64 n1), (.int .i64 n2), (.slice x3 l4 c5), (.slice x6 l7 c8)]), (.int .i64 n9)] R = T_ref10_Sheet W n1 n2 x3 l4 c5 x6 l7 c8 n9 R := by kernel_rfl
theorem does_ref10_Sheet (W : World) (n1 : Int) (n2 : Int) (x3 : Option Addr) (l4 : Nat) (c5 : Nat) (x6 : Option Addr) (l7 : Nat) (c8 : Nat) (n9 : Int) (R : Ending → Hp → Prop) (s : Hp) (h : T_ref10_Sheet W n1 n2 x3 l4 c5 x6 l7 c8 n9 R s) : Does Pg W F_ref10_Sheet #[(.agg #[(.int .i64 n1), (.int .i64 n2), (.slice x3 l4 c5), (.slice x6 l7 c8)]), (.int .i64 n9)] s R :=
  does_of_vfun Pg W an_68 Try.func68 rfl (by kernel_rfl) (by rw [T_ref10_Sheet_eq]; exact h)
def an_77 : Nat → Ann := fun b => match b with
  | 0 => { ms := [7, 8], ks := [.i .i64, .i .i64], us := [2, 6, 31], rt := false, ex := [] }
  | _ => {}
abbrev rv_77 : List ResultVar := [.tmp 6]
abbrev rs_77 : List Nat := [31, 6]
def L_ref10_row_0 (W : World) (R : Ending → Hp → Prop) (zp0 : Option Addr) (zl1 : Nat) (zl2 : Nat) (n19 : Int) (n20 : Int) : Hp → Prop :=
  LOOPN [.i .i64, .i .i64] (fun ys next s => ∀ j : Tm, vc Pg W 31 rs_77 an_77 false (sub (bodyOf Try.f77) [1, 1, 0, 1, 0, 0]) 0 (KLoop [7, 8] [2, 6, 31] [(.slice zp0 zl1 zl2), (.slice none 0 0), (.tuple #[])] next (KBlk 0 (KS Pg W 31 rs_77 an_77 false (sub (bodyOf Try.f77) [1, 1, 1]) 0 (fin Pg W 31 rv_77 R)))) (known [7, 8] ys (known [2, 6, 31] [(.slice zp0 zl1 zl2), (.slice none 0 0), (.tuple #[])] j)) s) [(.int .i64 n19), (.int .i64 n20)]
def B_ref10_row_0 (W : World) (R : Ending → Hp → Prop) (zp0 : Option Addr) (zl1 : Nat) (zl2 : Nat) (n19 : Int) (n20 : Int) (nx0 : List Value → Hp → Prop) : Hp → Prop :=
  BR (decide (n20 < (↑zl1 : Int)))
    (IXS zp0 zl1 n20 1 fun a21 =>
      RDI .i64 a21 fun n22 =>
        NX [(.slice zp0 zl1 zl2), (.slice none 0 0), (.tuple #[])] [(.slice zp0 zl1 zl2), (.slice none 0 0), (.tuple #[])] (nx0 [(.int .i64 (IntKind.wrap .i64 (n19 + n22))), (.int .i64 (IntKind.wrap .i64 (n20 + 1)))]))
    (NEW 3 [(.int .i64 n19)] fun B23 =>
      APP Pg 3 1 (some ⟨B23, 0, none⟩) 1 1 zp0 zl1 fun x24 l25 c26 =>
        R (.returned (.slice x24 l25 c26)))
theorem B_ref10_row_0_eq (W : World) (R : Ending → Hp → Prop) (zp0 : Option Addr) (zl1 : Nat) (zl2 : Nat) (n19 : Int) (n20 : Int) (nx0 : List Value → Hp → Prop) (j : Tm) : vc Pg W 31 rs_77 an_77 false (sub (bodyOf Try.f77) [1, 1, 0, 1, 0, 0]) 0 (KLoop [7, 8] [2, 6, 31] [(.slice zp0 zl1 zl2), (.slice none 0 0), (.tuple #[])] nx0 (KBlk 0 (KS Pg W 31 rs_77 an_77 false (sub (bodyOf Try.f77) [1, 1, 1]) 0 (fin Pg W 31 rv_77 R)))) (known [7, 8] [(.int .i64 n19), (.int .i64 n20)] (known [2, 6, 31] [(.slice zp0 zl1 zl2), (.slice none 0 0), (.tuple #[])] j)) = B_ref10_row_0 W R zp0 zl1 zl2 n19 n20 nx0 := by kernel_rfl
def N_ref10_row_0 (I : Int → Int → Hp → Prop) (μ : Int → Int → Hp → Nat) (n190 : Int) (n200 : Int) (s : Hp) (vs : List Value) : Hp → Prop := fun s' => ∃ n19 n20, vs = [(.int .i64 n19), (.int .i64 n20)] ∧ I n19 n20 s' ∧ μ n19 n20 s' < μ n190 n200 s
theorem L_ref10_row_0_rule (W : World) (R : Ending → Hp → Prop) (zp0 : Option Addr) (zl1 : Nat) (zl2 : Nat) (I : Int → Int → Hp → Prop) (μ : Int → Int → Hp → Nat) (n190 : Int) (n200 : Int) (s : Hp) (h0 : I n190 n200 s)
    (hr : ∀ (n19 : Int) (n20 : Int) (s : Hp), I n19 n20 s → B_ref10_row_0 W R zp0 zl1 zl2 n19 n20 (fun vs => N_ref10_row_0 I μ n19 n20 s vs) s) : L_ref10_row_0 W R zp0 zl1 zl2 n190 n200 s := by
  refine ⟨fun vs s => ∃ n19 n20, vs = [(.int .i64 n19), (.int .i64 n20)] ∧ I n19 n20 s, fun vs s => (match vs with | [.int _ n19, .int _ n20] => μ n19 n20 s | _ => 0), ⟨⟨⟨_, rfl⟩, ⟨⟨_, rfl⟩, trivial⟩⟩, ⟨_, _, rfl, h0⟩⟩, ?_⟩
  intro n19 n20 s hI j
  obtain ⟨n19', n20', hy, hI⟩ := hI
  have hI' : I n19 n20 s := by cases hy; exact hI
  have hh := hr n19 n20 s hI'
  rw [← B_ref10_row_0_eq W R zp0 zl1 zl2 n19 n20 _ j] at hh
  refine vc_mono ?_ _ _ hh
  exact KLoop_mono (fun vs s' h => by obtain ⟨n191, n201, rfl, h1, h2⟩ := h; exact ⟨⟨⟨_, rfl⟩, ⟨⟨_, rfl⟩, trivial⟩⟩, ⟨_, _, rfl, h1⟩, h2⟩)
def T_ref10_row (W : World) (n1 : Int) (n2 : Int) (x3 : Option Addr) (l4 : Nat) (c5 : Nat) (x6 : Option Addr) (l7 : Nat) (c8 : Nat) (n9 : Int) (x10 : Option Addr) (l11 : Nat) (c12 : Nat) (R : Ending → Hp → Prop) : Hp → Prop :=
  NEW 25 [(.int .i64 n1), (.int .i64 n2), (.slice x3 l4 c5), (.slice x6 l7 c8)] fun B13 =>
    RDL (Addr.add ⟨B13, 0, none⟩ 2) fun x14 l15 c16 =>
      IXS x14 l15 n9 1 fun a17 =>
        RDI .i64 a17 fun n18 =>
          L_ref10_row_0 W R x10 l11 c12 (IntKind.wrap .i64 (0 - n18)) 0
theorem T_ref10_row_eq (W : World) (n1 : Int) (n2 : Int) (x3 : Option Addr) (l4 : Nat) (c5 : Nat) (x6 : Option Addr) (l7 : Nat) (c8 : Nat) (n9 : Int) (x10 : Option Addr) (l11 : Nat) (c12 : Nat) (R : Ending → Hp → Prop) : vfun Pg W an_77 Try.f77 [(.agg #[(.int .i64 n1), (.int .i64 n2), (.slice x3 l4 c5), (.slice x6 l7 c8)]), (.int .i64 n9), (.slice x10 l11 c12)] R = T_ref10_row W n1 n2 x3 l4 c5 x6 l7 c8 n9 x10 l11 c12 R := by kernel_rfl
theorem does_ref10_row (W : World) (n1 : Int) (n2 : Int) (x3 : Option Addr) (l4 : Nat) (c5 : Nat) (x6 : Option Addr) (l7 : Nat) (c8 : Nat) (n9 : Int) (x10 : Option Addr) (l11 : Nat) (c12 : Nat) (R : Ending → Hp → Prop) (s : Hp) (h : T_ref10_row W n1 n2 x3 l4 c5 x6 l7 c8 n9 x10 l11 c12 R s) : Does Pg W F_ref10_row #[(.agg #[(.int .i64 n1), (.int .i64 n2), (.slice x3 l4 c5), (.slice x6 l7 c8)]), (.int .i64 n9), (.slice x10 l11 c12)] s R :=
  does_of_vfun Pg W an_77 Try.func77 rfl (by kernel_rfl) (by rw [T_ref10_row_eq]; exact h)
def an_79 : Nat → Ann := fun b => match b with
  | 0 => { ms := [4, 5], ks := [.b, .i .i64], us := [0, 1, 30], rt := false, ex := [] }
  | _ => {}
abbrev rv_79 : List ResultVar := [.tmp 4]
abbrev rs_79 : List Nat := [30, 4]
def L_ref10_ahead_0 (W : World) (R : Ending → Hp → Prop) (zp0 : Option Addr) (zl1 : Nat) (zl2 : Nat) (zp3 : Option Addr) (zl4 : Nat) (zl5 : Nat) (b7 : Bool) (n8 : Int) : Hp → Prop :=
  LOOPN [.b, .i .i64] (fun ys next s => ∀ j : Tm, vc Pg W 30 rs_79 an_79 false (sub (bodyOf Try.f79) [1, 0, 1, 0, 0]) 0 (KLoop [4, 5] [0, 1, 30] [(.slice zp0 zl1 zl2), (.slice zp3 zl4 zl5), (.tuple #[])] next (KBlk 0 (KS Pg W 30 rs_79 an_79 false (sub (bodyOf Try.f79) [1, 1]) 0 (fin Pg W 30 rv_79 R)))) (known [4, 5] ys (known [0, 1, 30] [(.slice zp0 zl1 zl2), (.slice zp3 zl4 zl5), (.tuple #[])] j)) s) [(.bool b7), (.int .i64 n8)]
def B_ref10_ahead_0 (W : World) (R : Ending → Hp → Prop) (zp0 : Option Addr) (zl1 : Nat) (zl2 : Nat) (zp3 : Option Addr) (zl4 : Nat) (zl5 : Nat) (b7 : Bool) (n8 : Int) (nx0 : List Value → Hp → Prop) : Hp → Prop :=
  BR (decide (n8 < (↑zl1 : Int)))
    (IXS zp0 zl1 n8 1 fun a9 =>
      RDI .i64 a9 fun n10 =>
        IXS zp3 zl4 n8 1 fun a11 =>
          RDI .i64 a11 fun n12 =>
            BR (n10 != n12)
              (IXS zp0 zl1 n8 1 fun a13 =>
                RDI .i64 a13 fun n14 =>
                  IXS zp3 zl4 n8 1 fun a15 =>
                    RDI .i64 a15 fun n16 =>
                      R (.returned (.bool (decide (n14 > n16)))))
              (NX [(.slice zp0 zl1 zl2), (.slice zp3 zl4 zl5), (.tuple #[])] [(.slice zp0 zl1 zl2), (.slice zp3 zl4 zl5), (.tuple #[])] (nx0 [(.bool b7), (.int .i64 (IntKind.wrap .i64 (n8 + 1)))])))
    (R (.returned (.bool false)))
theorem B_ref10_ahead_0_eq (W : World) (R : Ending → Hp → Prop) (zp0 : Option Addr) (zl1 : Nat) (zl2 : Nat) (zp3 : Option Addr) (zl4 : Nat) (zl5 : Nat) (b7 : Bool) (n8 : Int) (nx0 : List Value → Hp → Prop) (j : Tm) : vc Pg W 30 rs_79 an_79 false (sub (bodyOf Try.f79) [1, 0, 1, 0, 0]) 0 (KLoop [4, 5] [0, 1, 30] [(.slice zp0 zl1 zl2), (.slice zp3 zl4 zl5), (.tuple #[])] nx0 (KBlk 0 (KS Pg W 30 rs_79 an_79 false (sub (bodyOf Try.f79) [1, 1]) 0 (fin Pg W 30 rv_79 R)))) (known [4, 5] [(.bool b7), (.int .i64 n8)] (known [0, 1, 30] [(.slice zp0 zl1 zl2), (.slice zp3 zl4 zl5), (.tuple #[])] j)) = B_ref10_ahead_0 W R zp0 zl1 zl2 zp3 zl4 zl5 b7 n8 nx0 := by kernel_rfl
def N_ref10_ahead_0 (I : Bool → Int → Hp → Prop) (μ : Bool → Int → Hp → Nat) (b70 : Bool) (n80 : Int) (s : Hp) (vs : List Value) : Hp → Prop := fun s' => ∃ b7 n8, vs = [(.bool b7), (.int .i64 n8)] ∧ I b7 n8 s' ∧ μ b7 n8 s' < μ b70 n80 s
theorem L_ref10_ahead_0_rule (W : World) (R : Ending → Hp → Prop) (zp0 : Option Addr) (zl1 : Nat) (zl2 : Nat) (zp3 : Option Addr) (zl4 : Nat) (zl5 : Nat) (I : Bool → Int → Hp → Prop) (μ : Bool → Int → Hp → Nat) (b70 : Bool) (n80 : Int) (s : Hp) (h0 : I b70 n80 s)
    (hr : ∀ (b7 : Bool) (n8 : Int) (s : Hp), I b7 n8 s → B_ref10_ahead_0 W R zp0 zl1 zl2 zp3 zl4 zl5 b7 n8 (fun vs => N_ref10_ahead_0 I μ b7 n8 s vs) s) : L_ref10_ahead_0 W R zp0 zl1 zl2 zp3 zl4 zl5 b70 n80 s := by
  refine ⟨fun vs s => ∃ b7 n8, vs = [(.bool b7), (.int .i64 n8)] ∧ I b7 n8 s, fun vs s => (match vs with | [.bool b7, .int _ n8] => μ b7 n8 s | _ => 0), ⟨⟨⟨_, rfl⟩, ⟨⟨_, rfl⟩, trivial⟩⟩, ⟨_, _, rfl, h0⟩⟩, ?_⟩
  intro b7 n8 s hI j
  obtain ⟨b7', n8', hy, hI⟩ := hI
  have hI' : I b7 n8 s := by cases hy; exact hI
  have hh := hr b7 n8 s hI'
  rw [← B_ref10_ahead_0_eq W R zp0 zl1 zl2 zp3 zl4 zl5 b7 n8 _ j] at hh
  refine vc_mono ?_ _ _ hh
  exact KLoop_mono (fun vs s' h => by obtain ⟨b71, n81, rfl, h1, h2⟩ := h; exact ⟨⟨⟨_, rfl⟩, ⟨⟨_, rfl⟩, trivial⟩⟩, ⟨_, _, rfl, h1⟩, h2⟩)
def T_ref10_ahead (W : World) (x1 : Option Addr) (l2 : Nat) (c3 : Nat) (x4 : Option Addr) (l5 : Nat) (c6 : Nat) (R : Ending → Hp → Prop) : Hp → Prop :=
  L_ref10_ahead_0 W R x1 l2 c3 x4 l5 c6 false 0
theorem T_ref10_ahead_eq (W : World) (x1 : Option Addr) (l2 : Nat) (c3 : Nat) (x4 : Option Addr) (l5 : Nat) (c6 : Nat) (R : Ending → Hp → Prop) : vfun Pg W an_79 Try.f79 [(.slice x1 l2 c3), (.slice x4 l5 c6)] R = T_ref10_ahead W x1 l2 c3 x4 l5 c6 R := by kernel_rfl
theorem does_ref10_ahead (W : World) (x1 : Option Addr) (l2 : Nat) (c3 : Nat) (x4 : Option Addr) (l5 : Nat) (c6 : Nat) (R : Ending → Hp → Prop) (s : Hp) (h : T_ref10_ahead W x1 l2 c3 x4 l5 c6 R s) : Does Pg W F_ref10_ahead #[(.slice x1 l2 c3), (.slice x4 l5 c6)] s R :=
  does_of_vfun Pg W an_79 Try.func79 rfl (by kernel_rfl) (by rw [T_ref10_ahead_eq]; exact h)
end Go.Proofs.Ytkgcbfbbcaajpaa.G
