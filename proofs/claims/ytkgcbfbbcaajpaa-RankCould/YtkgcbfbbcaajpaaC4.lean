import Derived.Test.YtkgcbfbbcaajpaaC3
/- With the scores that are told read this one surely is before the other one, and no others that prove it are fewer, or as many and a lesser set: the statement RankCould holds for every input, with no condition. -/
/- More of the functions' shallow texts, by gen.py. -/
set_option linter.unusedVariables false
set_option maxRecDepth 100000
namespace Go.Proofs.Ytkgcbfbbcaajpaa.G
open Go.V
def an_9 : Nat → Ann := fun b => match b with
  | 0 => { ms := [10, 137], ks := [.b, .i .i64], us := [5, 11, 12, 135, 136, 157], rt := false, ex := [] }
  | _ => {}
abbrev rv_9 : List ResultVar := [.tmp 10]
abbrev rs_9 : List Nat := [157, 10]
def L_law10_RankNeed_0 (W : World) (R : Ending → Hp → Prop) (za0 : Addr) (zp1 : Option Addr) (zp2 : Option Addr) (za3 : Addr) (b207 : Bool) (n208 : Int) : Hp → Prop :=
  LOOPN [.b, .i .i64] (fun ys next s => ∀ j : Tm, vc Pg W 157 rs_9 an_9 false (sub (bodyOf Try.f9) [1, 1, 1, 1, 1, 1, 1, 1, 0, 1, 0, 0]) 0 (KLoop [10, 137] [5, 11, 12, 135, 136, 157] [(.pointer (some za0)), (.pointer zp1), (.pointer zp2), (.slice (some za3) 2 2), (.int .i64 2), (.tuple #[])] next (KBlk 0 (KS Pg W 157 rs_9 an_9 false (sub (bodyOf Try.f9) [1, 1, 1, 1, 1, 1, 1, 1, 1]) 0 (fin Pg W 157 rv_9 R)))) (known [10, 137] ys (known [5, 11, 12, 135, 136, 157] [(.pointer (some za0)), (.pointer zp1), (.pointer zp2), (.slice (some za3) 2 2), (.int .i64 2), (.tuple #[])] j)) s) [(.bool b207), (.int .i64 n208)]
def J_law10_RankNeed_0 (W : World) (R : Ending → Hp → Prop) (b99 : Bool) (B71 : Nat) (B13 : Nat) (p47 : Option Addr) (p48 : Option Addr) (p49 : Option Addr) : Hp → Prop :=
  BR b99
    (RDI .i64 (Addr.add ⟨B71, 0, none⟩ 1) fun n100 =>
      CALLV Pg W (.func (.func 41) #[] #[(.pointer (some ⟨B13, 0, none⟩)), (.pointer p47), (.pointer p48), (.pointer p49)]) [(.int .i64 n100)]
        (fun v101 => TYB v101 fun b103 =>
          BR (!b103)
            (CALL Pg W F_law10_awake []
              (fun v104 => TYB v104 fun b106 =>
                R (.returned (.bool b106)))
                (fun e105 => R (.panicked e105)))
            (R (.returned (.bool false))))
          (fun e102 => R (.panicked e102)))
    (R (.returned (.bool false)))
def J_law10_RankNeed_1 (W : World) (R : Ending → Hp → Prop) (b95 : Bool) (p49 : Option Addr) (B13 : Nat) (B71 : Nat) (p47 : Option Addr) (p48 : Option Addr) : Hp → Prop :=
  BR b95
    (SO p49 fun a96 =>
      RDI .i64 a96 fun n97 =>
        RDI .i64 (Addr.add ⟨B13, 0, none⟩ 0) fun n98 =>
          J_law10_RankNeed_0 W R (decide (n97 < n98)) B71 B13 p47 p48 p49)
    (J_law10_RankNeed_0 W R false B71 B13 p47 p48 p49)
def J_law10_RankNeed_2 (W : World) (R : Ending → Hp → Prop) (b115 : Bool) (B13 : Nat) (p47 : Option Addr) (p48 : Option Addr) : Hp → Prop :=
  BR b115
    (R (.returned (.bool false)))
    (RDI .i64 (Addr.add ⟨B13, 0, none⟩ 0) fun n116 =>
      NEW 3 [(.int .i64 0), (.int .i64 (IntKind.wrap .i64 (n116 + 1)))] fun B117 =>
        L_law10_RankNeed_0 W R ⟨B13, 0, none⟩ p47 p48 ⟨B117, 0, none⟩ false 0)
def J_law10_RankNeed_3 (W : World) (R : Ending → Hp → Prop) (b114 : Bool) (B13 : Nat) (p47 : Option Addr) (p48 : Option Addr) (B71 : Nat) (n91 : Int) (p49 : Option Addr) (n12 : Int) : Hp → Prop :=
  BR b114
    (J_law10_RankNeed_2 W R true B13 p47 p48)
    (RDI .i64 (Addr.add ⟨B71, 0, none⟩ 1) fun n118 =>
      NZI (IntKind.wrap .i64 ((IntKind.wrap .i64 (n118 - n91)) + 1)) <|
        CALLV Pg W (.func (.func 41) #[] #[(.pointer (some ⟨B13, 0, none⟩)), (.pointer p47), (.pointer p48), (.pointer p49)]) [(.int .i64 (IntKind.wrap .i64 (n91 + (Int.tmod (IntKind.wrap .i64 n12) (IntKind.wrap .i64 ((IntKind.wrap .i64 (n118 - n91)) + 1))))))]
          (fun v119 => TYB v119 fun b121 =>
            J_law10_RankNeed_2 W R (!b121) B13 p47 p48)
            (fun e120 => R (.panicked e120)))
def J_law10_RankNeed_4 (W : World) (R : Ending → Hp → Prop) (b113 : Bool) (B13 : Nat) (p47 : Option Addr) (p48 : Option Addr) (B71 : Nat) (n91 : Int) (p49 : Option Addr) (n12 : Int) : Hp → Prop :=
  BR b113
    (J_law10_RankNeed_3 W R true B13 p47 p48 B71 n91 p49 n12)
    (SO p49 fun a122 =>
      RDI .i64 a122 fun n123 =>
        RDI .i64 (Addr.add ⟨B13, 0, none⟩ 0) fun n124 =>
          BR (n123 == n124)
            (RDI .i64 (Addr.add ⟨B71, 0, none⟩ 0) fun n125 =>
              J_law10_RankNeed_3 W R (n91 != n125) B13 p47 p48 B71 n91 p49 n12)
            (J_law10_RankNeed_3 W R false B13 p47 p48 B71 n91 p49 n12))
def J_law10_RankNeed_5 (W : World) (R : Ending → Hp → Prop) (b112 : Bool) (B13 : Nat) (p47 : Option Addr) (p48 : Option Addr) (B71 : Nat) (n91 : Int) (p49 : Option Addr) (n12 : Int) : Hp → Prop :=
  BR b112
    (J_law10_RankNeed_4 W R true B13 p47 p48 B71 n91 p49 n12)
    (RDI .i64 (Addr.add ⟨B71, 0, none⟩ 0) fun n126 =>
      BR (decide (n91 > n126))
        (CALLV Pg W (.func (.func 41) #[] #[(.pointer (some ⟨B13, 0, none⟩)), (.pointer p47), (.pointer p48), (.pointer p49)]) [(.int .i64 (IntKind.wrap .i64 (n91 - 1)))]
          (fun v127 => TYB v127 fun b129 =>
            J_law10_RankNeed_4 W R b129 B13 p47 p48 B71 n91 p49 n12)
            (fun e128 => R (.panicked e128)))
        (J_law10_RankNeed_4 W R false B13 p47 p48 B71 n91 p49 n12))
def J_law10_RankNeed_6 (W : World) (R : Ending → Hp → Prop) (B13 : Nat) (p47 : Option Addr) (p48 : Option Addr) (p49 : Option Addr) (n12 : Int) : Hp → Prop :=
  RDI .i64 (Addr.add ⟨B13, 0, none⟩ 0) fun n50 =>
    RDI .i64 (Addr.add ⟨B13, 0, none⟩ 1) fun n51 =>
      RDL (Addr.add ⟨B13, 0, none⟩ 2) fun x52 l53 c54 =>
        RDL (Addr.add ⟨B13, 0, none⟩ 3) fun x55 l56 c57 =>
          SO p47 fun a58 =>
            RDI .i64 a58 fun n59 =>
              SO p48 fun a60 =>
                RDI .i64 a60 fun n61 =>
                  CALL Pg W F_ref10_Points [(.agg #[(.int .i64 n50), (.int .i64 n51), (.slice x52 l53 c54), (.slice x55 l56 c57)]), (.int .i64 n59), (.int .i64 n61)]
                    (fun v62 => AGG v62 fun q64 => HD q64 fun v65 r66 => TYI .i64 v65 fun n67 =>
                      HD r66 fun v68 r69 => TYI .i64 v68 fun n70 =>
                        NL r69 <|
                          NEWZ Pg 29 fun B71 =>
                            WR (Addr.add ⟨B71, 0, none⟩ 0) (.int .i64 n67) <|
                              WR (Addr.add ⟨B71, 0, none⟩ 1) (.int .i64 n70) <|
                                RDI .i64 (Addr.add ⟨B13, 0, none⟩ 0) fun n72 =>
                                  RDI .i64 (Addr.add ⟨B13, 0, none⟩ 1) fun n73 =>
                                    RDL (Addr.add ⟨B13, 0, none⟩ 2) fun x74 l75 c76 =>
                                      RDL (Addr.add ⟨B13, 0, none⟩ 3) fun x77 l78 c79 =>
                                        SO p47 fun a80 =>
                                          RDI .i64 a80 fun n81 =>
                                            SO p48 fun a82 =>
                                              RDI .i64 a82 fun n83 =>
                                                SO p49 fun a84 =>
                                                  RDI .i64 a84 fun n85 =>
                                                    CALL Pg W F_rank_Need [(.agg #[(.int .i64 n72), (.int .i64 n73), (.slice x74 l75 c76), (.slice x77 l78 c79)]), (.int .i64 n81), (.int .i64 n83), (.int .i64 n85)]
                                                      (fun v86 => TUP v86 fun q88 => HD q88 fun v89 r90 => TYI .i64 v89 fun n91 =>
                                                        HD r90 fun v92 r93 => TYI .i64 v92 fun n94 =>
                                                          NL r93 <|
                                                            BR (n94 != 0)
                                                              (BR (n94 == 4)
                                                                (J_law10_RankNeed_1 W R (n91 == 0) p49 B13 B71 p47 p48)
                                                                (J_law10_RankNeed_1 W R false p49 B13 B71 p47 p48))
                                                              (RDI .i64 (Addr.add ⟨B71, 0, none⟩ 0) fun n107 =>
                                                                RDI .i64 (Addr.add ⟨B71, 0, none⟩ 1) fun n108 =>
                                                                  CALL Pg W F_law10_inside [(.agg #[(.int .i64 n107), (.int .i64 n108)]), (.int .i64 n91)]
                                                                    (fun v109 => TYB v109 fun b111 =>
                                                                      BR (!b111)
                                                                        (J_law10_RankNeed_5 W R true B13 p47 p48 B71 n91 p49 n12)
                                                                        (CALLV Pg W (.func (.func 41) #[] #[(.pointer (some ⟨B13, 0, none⟩)), (.pointer p47), (.pointer p48), (.pointer p49)]) [(.int .i64 n91)]
                                                                          (fun v130 => TYB v130 fun b132 =>
                                                                            J_law10_RankNeed_5 W R (!b132) B13 p47 p48 B71 n91 p49 n12)
                                                                            (fun e131 => R (.panicked e131))))
                                                                      (fun e110 => R (.panicked e110))))
                                                        (fun e87 => R (.panicked e87)))
                      (fun e63 => R (.panicked e63))
def J_law10_RankNeed_7 (W : World) (R : Ending → Hp → Prop) (b25 : Bool) (B13 : Nat) (n9 : Int) (n10 : Int) (n11 : Int) (n12 : Int) : Hp → Prop :=
  BR b25
    (CALL Pg W F_law10_awake []
      (fun v26 => TYB v26 fun b28 =>
        R (.returned (.bool b28)))
        (fun e27 => R (.panicked e27)))
    (RDI .i64 (Addr.add ⟨B13, 0, none⟩ 0) fun n29 =>
      NZI n29 <|
        RDI .i64 (Addr.add ⟨B13, 0, none⟩ 1) fun n30 =>
          NZI n30 <|
            RDI .i64 (Addr.add ⟨B13, 0, none⟩ 0) fun n31 =>
              NZI n31 <|
                CONJ [
                  NEWZ Pg 3 fun B32 =>
                    ANDS (RDI .i64 (Addr.add ⟨B13, 0, none⟩ 0) fun n33 =>
                      fun _ => ((.int .i64 n33) : Value) = (.int .i64 n31)) <|
                      ANDS (RDI .i64 (Addr.add ⟨B13, 0, none⟩ 1) fun n34 =>
                        fun _ => ((.int .i64 n34) : Value) = (.int .i64 n30)) <|
                        ANDS (RDI .i64 (Addr.add ⟨B13, 0, none⟩ 0) fun n35 =>
                          fun _ => ((.int .i64 n35) : Value) = (.int .i64 n29)) <|
                          CONJ [
                            NEWZ Pg 3 fun B36 =>
                              ANDS (RDI .i64 (Addr.add ⟨B13, 0, none⟩ 0) fun n37 =>
                                fun _ => ((.int .i64 n37) : Value) = (.int .i64 n31)) <|
                                ANDS (RDI .i64 (Addr.add ⟨B13, 0, none⟩ 1) fun n38 =>
                                  fun _ => ((.int .i64 n38) : Value) = (.int .i64 n30)) <|
                                  ANDS (RDI .i64 (Addr.add ⟨B13, 0, none⟩ 0) fun n39 =>
                                    fun _ => ((.int .i64 n39) : Value) = (.int .i64 n29)) <|
                                    NEWZ Pg 3 fun B40 =>
                                      ANDS (RDI .i64 (Addr.add ⟨B13, 0, none⟩ 0) fun n41 =>
                                        fun _ => ((.int .i64 n41) : Value) = (.int .i64 n31)) <|
                                        ANDS (RDI .i64 (Addr.add ⟨B13, 0, none⟩ 1) fun n42 =>
                                          fun _ => ((.int .i64 n42) : Value) = (.int .i64 n30)) <|
                                          ANDS (RDI .i64 (Addr.add ⟨B13, 0, none⟩ 0) fun n43 =>
                                            fun _ => ((.int .i64 n43) : Value) = (.int .i64 n29)) <|
                                            WR (Addr.add ⟨B32, 0, none⟩ 0) (.int .i64 (Int.tmod (IntKind.wrap .i64 n9) n29)) <|
                                              ANDS (RDI .i64 (Addr.add ⟨B13, 0, none⟩ 0) fun n44 =>
                                                fun _ => ((.int .i64 n44) : Value) = (.int .i64 n31)) <|
                                                ANDS (RDI .i64 (Addr.add ⟨B13, 0, none⟩ 1) fun n45 =>
                                                  fun _ => ((.int .i64 n45) : Value) = (.int .i64 n30)) <|
                                                  WR (Addr.add ⟨B36, 0, none⟩ 0) (.int .i64 (Int.tmod (IntKind.wrap .i64 n10) n30)) <|
                                                    ANDS (RDI .i64 (Addr.add ⟨B13, 0, none⟩ 0) fun n46 =>
                                                      fun _ => ((.int .i64 n46) : Value) = (.int .i64 n31)) <|
                                                      WR (Addr.add ⟨B40, 0, none⟩ 0) (.int .i64 (IntKind.wrap .i64 (1 + (Int.tmod (IntKind.wrap .i64 n11) n31)))) <|
                                                        J_law10_RankNeed_6 W R B13 (some ⟨B32, 0, none⟩) (some ⟨B36, 0, none⟩) (some ⟨B40, 0, none⟩) n12,
                            NEWZ Pg 3 fun B133 =>
                              ANDS (RDI .i64 (Addr.add ⟨B13, 0, none⟩ 0) fun n134 =>
                                fun _ => ((.int .i64 n134) : Value) = (.int .i64 n31)) <|
                                ANDS (RDI .i64 (Addr.add ⟨B13, 0, none⟩ 1) fun n135 =>
                                  fun _ => ((.int .i64 n135) : Value) = (.int .i64 n30)) <|
                                  ANDS (RDI .i64 (Addr.add ⟨B13, 0, none⟩ 0) fun n136 =>
                                    fun _ => ((.int .i64 n136) : Value) = (.int .i64 n29)) <|
                                    NEWZ Pg 3 fun B137 =>
                                      ANDS (RDI .i64 (Addr.add ⟨B13, 0, none⟩ 0) fun n138 =>
                                        fun _ => ((.int .i64 n138) : Value) = (.int .i64 n31)) <|
                                        ANDS (RDI .i64 (Addr.add ⟨B13, 0, none⟩ 1) fun n139 =>
                                          fun _ => ((.int .i64 n139) : Value) = (.int .i64 n30)) <|
                                          ANDS (RDI .i64 (Addr.add ⟨B13, 0, none⟩ 0) fun n140 =>
                                            fun _ => ((.int .i64 n140) : Value) = (.int .i64 n29)) <|
                                            WR (Addr.add ⟨B32, 0, none⟩ 0) (.int .i64 (Int.tmod (IntKind.wrap .i64 n9) n29)) <|
                                              ANDS (RDI .i64 (Addr.add ⟨B13, 0, none⟩ 0) fun n141 =>
                                                fun _ => ((.int .i64 n141) : Value) = (.int .i64 n31)) <|
                                                ANDS (RDI .i64 (Addr.add ⟨B13, 0, none⟩ 1) fun n142 =>
                                                  fun _ => ((.int .i64 n142) : Value) = (.int .i64 n30)) <|
                                                  WR (Addr.add ⟨B137, 0, none⟩ 0) (.int .i64 (Int.tmod (IntKind.wrap .i64 n10) n30)) <|
                                                    ANDS (RDI .i64 (Addr.add ⟨B13, 0, none⟩ 0) fun n143 =>
                                                      fun _ => ((.int .i64 n143) : Value) = (.int .i64 n31)) <|
                                                      WR (Addr.add ⟨B133, 0, none⟩ 0) (.int .i64 (IntKind.wrap .i64 (1 + (Int.tmod (IntKind.wrap .i64 n11) n31)))) <|
                                                        J_law10_RankNeed_6 W R B13 (some ⟨B32, 0, none⟩) (some ⟨B137, 0, none⟩) (some ⟨B133, 0, none⟩) n12],
                  NEWZ Pg 3 fun B144 =>
                    ANDS (RDI .i64 (Addr.add ⟨B13, 0, none⟩ 0) fun n145 =>
                      fun _ => ((.int .i64 n145) : Value) = (.int .i64 n31)) <|
                      ANDS (RDI .i64 (Addr.add ⟨B13, 0, none⟩ 1) fun n146 =>
                        fun _ => ((.int .i64 n146) : Value) = (.int .i64 n30)) <|
                        ANDS (RDI .i64 (Addr.add ⟨B13, 0, none⟩ 0) fun n147 =>
                          fun _ => ((.int .i64 n147) : Value) = (.int .i64 n29)) <|
                          CONJ [
                            NEWZ Pg 3 fun B148 =>
                              ANDS (RDI .i64 (Addr.add ⟨B13, 0, none⟩ 0) fun n149 =>
                                fun _ => ((.int .i64 n149) : Value) = (.int .i64 n31)) <|
                                ANDS (RDI .i64 (Addr.add ⟨B13, 0, none⟩ 1) fun n150 =>
                                  fun _ => ((.int .i64 n150) : Value) = (.int .i64 n30)) <|
                                  ANDS (RDI .i64 (Addr.add ⟨B13, 0, none⟩ 0) fun n151 =>
                                    fun _ => ((.int .i64 n151) : Value) = (.int .i64 n29)) <|
                                    NEWZ Pg 3 fun B152 =>
                                      ANDS (RDI .i64 (Addr.add ⟨B13, 0, none⟩ 0) fun n153 =>
                                        fun _ => ((.int .i64 n153) : Value) = (.int .i64 n31)) <|
                                        ANDS (RDI .i64 (Addr.add ⟨B13, 0, none⟩ 1) fun n154 =>
                                          fun _ => ((.int .i64 n154) : Value) = (.int .i64 n30)) <|
                                          ANDS (RDI .i64 (Addr.add ⟨B13, 0, none⟩ 0) fun n155 =>
                                            fun _ => ((.int .i64 n155) : Value) = (.int .i64 n29)) <|
                                            WR (Addr.add ⟨B148, 0, none⟩ 0) (.int .i64 (Int.tmod (IntKind.wrap .i64 n9) n29)) <|
                                              ANDS (RDI .i64 (Addr.add ⟨B13, 0, none⟩ 0) fun n156 =>
                                                fun _ => ((.int .i64 n156) : Value) = (.int .i64 n31)) <|
                                                ANDS (RDI .i64 (Addr.add ⟨B13, 0, none⟩ 1) fun n157 =>
                                                  fun _ => ((.int .i64 n157) : Value) = (.int .i64 n30)) <|
                                                  WR (Addr.add ⟨B144, 0, none⟩ 0) (.int .i64 (Int.tmod (IntKind.wrap .i64 n10) n30)) <|
                                                    ANDS (RDI .i64 (Addr.add ⟨B13, 0, none⟩ 0) fun n158 =>
                                                      fun _ => ((.int .i64 n158) : Value) = (.int .i64 n31)) <|
                                                      WR (Addr.add ⟨B152, 0, none⟩ 0) (.int .i64 (IntKind.wrap .i64 (1 + (Int.tmod (IntKind.wrap .i64 n11) n31)))) <|
                                                        J_law10_RankNeed_6 W R B13 (some ⟨B148, 0, none⟩) (some ⟨B144, 0, none⟩) (some ⟨B152, 0, none⟩) n12,
                            NEWZ Pg 3 fun B159 =>
                              ANDS (RDI .i64 (Addr.add ⟨B13, 0, none⟩ 0) fun n160 =>
                                fun _ => ((.int .i64 n160) : Value) = (.int .i64 n31)) <|
                                ANDS (RDI .i64 (Addr.add ⟨B13, 0, none⟩ 1) fun n161 =>
                                  fun _ => ((.int .i64 n161) : Value) = (.int .i64 n30)) <|
                                  ANDS (RDI .i64 (Addr.add ⟨B13, 0, none⟩ 0) fun n162 =>
                                    fun _ => ((.int .i64 n162) : Value) = (.int .i64 n29)) <|
                                    NEWZ Pg 3 fun B163 =>
                                      ANDS (RDI .i64 (Addr.add ⟨B13, 0, none⟩ 0) fun n164 =>
                                        fun _ => ((.int .i64 n164) : Value) = (.int .i64 n31)) <|
                                        ANDS (RDI .i64 (Addr.add ⟨B13, 0, none⟩ 1) fun n165 =>
                                          fun _ => ((.int .i64 n165) : Value) = (.int .i64 n30)) <|
                                          ANDS (RDI .i64 (Addr.add ⟨B13, 0, none⟩ 0) fun n166 =>
                                            fun _ => ((.int .i64 n166) : Value) = (.int .i64 n29)) <|
                                            WR (Addr.add ⟨B163, 0, none⟩ 0) (.int .i64 (Int.tmod (IntKind.wrap .i64 n9) n29)) <|
                                              ANDS (RDI .i64 (Addr.add ⟨B13, 0, none⟩ 0) fun n167 =>
                                                fun _ => ((.int .i64 n167) : Value) = (.int .i64 n31)) <|
                                                ANDS (RDI .i64 (Addr.add ⟨B13, 0, none⟩ 1) fun n168 =>
                                                  fun _ => ((.int .i64 n168) : Value) = (.int .i64 n30)) <|
                                                  WR (Addr.add ⟨B144, 0, none⟩ 0) (.int .i64 (Int.tmod (IntKind.wrap .i64 n10) n30)) <|
                                                    ANDS (RDI .i64 (Addr.add ⟨B13, 0, none⟩ 0) fun n169 =>
                                                      fun _ => ((.int .i64 n169) : Value) = (.int .i64 n31)) <|
                                                      WR (Addr.add ⟨B159, 0, none⟩ 0) (.int .i64 (IntKind.wrap .i64 (1 + (Int.tmod (IntKind.wrap .i64 n11) n31)))) <|
                                                        J_law10_RankNeed_6 W R B13 (some ⟨B163, 0, none⟩) (some ⟨B144, 0, none⟩) (some ⟨B159, 0, none⟩) n12],
                  NEWZ Pg 3 fun B170 =>
                    ANDS (RDI .i64 (Addr.add ⟨B13, 0, none⟩ 0) fun n171 =>
                      fun _ => ((.int .i64 n171) : Value) = (.int .i64 n31)) <|
                      ANDS (RDI .i64 (Addr.add ⟨B13, 0, none⟩ 1) fun n172 =>
                        fun _ => ((.int .i64 n172) : Value) = (.int .i64 n30)) <|
                        ANDS (RDI .i64 (Addr.add ⟨B13, 0, none⟩ 0) fun n173 =>
                          fun _ => ((.int .i64 n173) : Value) = (.int .i64 n29)) <|
                          CONJ [
                            NEWZ Pg 3 fun B174 =>
                              ANDS (RDI .i64 (Addr.add ⟨B13, 0, none⟩ 0) fun n175 =>
                                fun _ => ((.int .i64 n175) : Value) = (.int .i64 n31)) <|
                                ANDS (RDI .i64 (Addr.add ⟨B13, 0, none⟩ 1) fun n176 =>
                                  fun _ => ((.int .i64 n176) : Value) = (.int .i64 n30)) <|
                                  ANDS (RDI .i64 (Addr.add ⟨B13, 0, none⟩ 0) fun n177 =>
                                    fun _ => ((.int .i64 n177) : Value) = (.int .i64 n29)) <|
                                    NEWZ Pg 3 fun B178 =>
                                      ANDS (RDI .i64 (Addr.add ⟨B13, 0, none⟩ 0) fun n179 =>
                                        fun _ => ((.int .i64 n179) : Value) = (.int .i64 n31)) <|
                                        ANDS (RDI .i64 (Addr.add ⟨B13, 0, none⟩ 1) fun n180 =>
                                          fun _ => ((.int .i64 n180) : Value) = (.int .i64 n30)) <|
                                          ANDS (RDI .i64 (Addr.add ⟨B13, 0, none⟩ 0) fun n181 =>
                                            fun _ => ((.int .i64 n181) : Value) = (.int .i64 n29)) <|
                                            WR (Addr.add ⟨B174, 0, none⟩ 0) (.int .i64 (Int.tmod (IntKind.wrap .i64 n9) n29)) <|
                                              ANDS (RDI .i64 (Addr.add ⟨B13, 0, none⟩ 0) fun n182 =>
                                                fun _ => ((.int .i64 n182) : Value) = (.int .i64 n31)) <|
                                                ANDS (RDI .i64 (Addr.add ⟨B13, 0, none⟩ 1) fun n183 =>
                                                  fun _ => ((.int .i64 n183) : Value) = (.int .i64 n30)) <|
                                                  WR (Addr.add ⟨B178, 0, none⟩ 0) (.int .i64 (Int.tmod (IntKind.wrap .i64 n10) n30)) <|
                                                    ANDS (RDI .i64 (Addr.add ⟨B13, 0, none⟩ 0) fun n184 =>
                                                      fun _ => ((.int .i64 n184) : Value) = (.int .i64 n31)) <|
                                                      WR (Addr.add ⟨B170, 0, none⟩ 0) (.int .i64 (IntKind.wrap .i64 (1 + (Int.tmod (IntKind.wrap .i64 n11) n31)))) <|
                                                        J_law10_RankNeed_6 W R B13 (some ⟨B174, 0, none⟩) (some ⟨B178, 0, none⟩) (some ⟨B170, 0, none⟩) n12,
                            NEWZ Pg 3 fun B185 =>
                              ANDS (RDI .i64 (Addr.add ⟨B13, 0, none⟩ 0) fun n186 =>
                                fun _ => ((.int .i64 n186) : Value) = (.int .i64 n31)) <|
                                ANDS (RDI .i64 (Addr.add ⟨B13, 0, none⟩ 1) fun n187 =>
                                  fun _ => ((.int .i64 n187) : Value) = (.int .i64 n30)) <|
                                  ANDS (RDI .i64 (Addr.add ⟨B13, 0, none⟩ 0) fun n188 =>
                                    fun _ => ((.int .i64 n188) : Value) = (.int .i64 n29)) <|
                                    NEWZ Pg 3 fun B189 =>
                                      ANDS (RDI .i64 (Addr.add ⟨B13, 0, none⟩ 0) fun n190 =>
                                        fun _ => ((.int .i64 n190) : Value) = (.int .i64 n31)) <|
                                        ANDS (RDI .i64 (Addr.add ⟨B13, 0, none⟩ 1) fun n191 =>
                                          fun _ => ((.int .i64 n191) : Value) = (.int .i64 n30)) <|
                                          ANDS (RDI .i64 (Addr.add ⟨B13, 0, none⟩ 0) fun n192 =>
                                            fun _ => ((.int .i64 n192) : Value) = (.int .i64 n29)) <|
                                            WR (Addr.add ⟨B189, 0, none⟩ 0) (.int .i64 (Int.tmod (IntKind.wrap .i64 n9) n29)) <|
                                              ANDS (RDI .i64 (Addr.add ⟨B13, 0, none⟩ 0) fun n193 =>
                                                fun _ => ((.int .i64 n193) : Value) = (.int .i64 n31)) <|
                                                ANDS (RDI .i64 (Addr.add ⟨B13, 0, none⟩ 1) fun n194 =>
                                                  fun _ => ((.int .i64 n194) : Value) = (.int .i64 n30)) <|
                                                  WR (Addr.add ⟨B185, 0, none⟩ 0) (.int .i64 (Int.tmod (IntKind.wrap .i64 n10) n30)) <|
                                                    ANDS (RDI .i64 (Addr.add ⟨B13, 0, none⟩ 0) fun n195 =>
                                                      fun _ => ((.int .i64 n195) : Value) = (.int .i64 n31)) <|
                                                      WR (Addr.add ⟨B170, 0, none⟩ 0) (.int .i64 (IntKind.wrap .i64 (1 + (Int.tmod (IntKind.wrap .i64 n11) n31)))) <|
                                                        J_law10_RankNeed_6 W R B13 (some ⟨B189, 0, none⟩) (some ⟨B185, 0, none⟩) (some ⟨B170, 0, none⟩) n12]])
def J_law10_RankNeed_8 (W : World) (R : Ending → Hp → Prop) (b232 : Bool) (za0 : Addr) (zp1 : Option Addr) (zp2 : Option Addr) (za3 : Addr) (nx0 : List Value → Hp → Prop) (b207 : Bool) (n208 : Int) : Hp → Prop :=
  BR b232
    (R (.returned (.bool false)))
    (NX [(.pointer (some za0)), (.pointer zp1), (.pointer zp2), (.slice (some za3) 2 2), (.int .i64 2), (.tuple #[])] [(.pointer (some za0)), (.pointer zp1), (.pointer zp2), (.slice (some za3) 2 2), (.int .i64 2), (.tuple #[])] (nx0 [(.bool b207), (.int .i64 (IntKind.wrap .i64 (n208 + 1)))]))
def B_law10_RankNeed_0 (W : World) (R : Ending → Hp → Prop) (za0 : Addr) (zp1 : Option Addr) (zp2 : Option Addr) (za3 : Addr) (b207 : Bool) (n208 : Int) (nx0 : List Value → Hp → Prop) : Hp → Prop :=
  BR (decide (n208 < 2))
    (IXS (some za3) 2 n208 1 fun a209 =>
      RDI .i64 a209 fun n210 =>
        RDI .i64 (Addr.add za0 0) fun n211 =>
          RDI .i64 (Addr.add za0 1) fun n212 =>
            RDL (Addr.add za0 2) fun x213 l214 c215 =>
              RDL (Addr.add za0 3) fun x216 l217 c218 =>
                SO zp1 fun a219 =>
                  RDI .i64 a219 fun n220 =>
                    SO zp2 fun a221 =>
                      RDI .i64 a221 fun n222 =>
                        CALL Pg W F_rank_Need [(.agg #[(.int .i64 n211), (.int .i64 n212), (.slice x213 l214 c215), (.slice x216 l217 c218)]), (.int .i64 n220), (.int .i64 n222), (.int .i64 n210)]
                          (fun v223 => TUP v223 fun q225 => HD q225 fun v226 r227 => TYI .i64 v226 fun n228 =>
                            HD r227 fun v229 r230 => TYI .i64 v229 fun n231 =>
                              NL r230 <|
                                BR (n228 != 0)
                                  (J_law10_RankNeed_8 W R true za0 zp1 zp2 za3 nx0 b207 n208)
                                  (J_law10_RankNeed_8 W R (n231 != 2) za0 zp1 zp2 za3 nx0 b207 n208))
                            (fun e224 => R (.panicked e224)))
    (CALL Pg W F_law10_awake []
      (fun v233 => TYB v233 fun b235 =>
        R (.returned (.bool b235)))
        (fun e234 => R (.panicked e234)))
theorem B_law10_RankNeed_0_eq (W : World) (R : Ending → Hp → Prop) (za0 : Addr) (zp1 : Option Addr) (zp2 : Option Addr) (za3 : Addr) (b207 : Bool) (n208 : Int) (nx0 : List Value → Hp → Prop) (j : Tm) : vc Pg W 157 rs_9 an_9 false (sub (bodyOf Try.f9) [1, 1, 1, 1, 1, 1, 1, 1, 0, 1, 0, 0]) 0 (KLoop [10, 137] [5, 11, 12, 135, 136, 157] [(.pointer (some za0)), (.pointer zp1), (.pointer zp2), (.slice (some za3) 2 2), (.int .i64 2), (.tuple #[])] nx0 (KBlk 0 (KS Pg W 157 rs_9 an_9 false (sub (bodyOf Try.f9) [1, 1, 1, 1, 1, 1, 1, 1, 1]) 0 (fin Pg W 157 rv_9 R)))) (known [10, 137] [(.bool b207), (.int .i64 n208)] (known [5, 11, 12, 135, 136, 157] [(.pointer (some za0)), (.pointer zp1), (.pointer zp2), (.slice (some za3) 2 2), (.int .i64 2), (.tuple #[])] j)) = B_law10_RankNeed_0 W R za0 zp1 zp2 za3 b207 n208 nx0 := by kernel_rfl
def N_law10_RankNeed_0 (I : Bool → Int → Hp → Prop) (μ : Bool → Int → Hp → Nat) (b2070 : Bool) (n2080 : Int) (s : Hp) (vs : List Value) : Hp → Prop := fun s' => ∃ b207 n208, vs = [(.bool b207), (.int .i64 n208)] ∧ I b207 n208 s' ∧ μ b207 n208 s' < μ b2070 n2080 s
theorem L_law10_RankNeed_0_rule (W : World) (R : Ending → Hp → Prop) (za0 : Addr) (zp1 : Option Addr) (zp2 : Option Addr) (za3 : Addr) (I : Bool → Int → Hp → Prop) (μ : Bool → Int → Hp → Nat) (b2070 : Bool) (n2080 : Int) (s : Hp) (h0 : I b2070 n2080 s)
    (hr : ∀ (b207 : Bool) (n208 : Int) (s : Hp), I b207 n208 s → B_law10_RankNeed_0 W R za0 zp1 zp2 za3 b207 n208 (fun vs => N_law10_RankNeed_0 I μ b207 n208 s vs) s) : L_law10_RankNeed_0 W R za0 zp1 zp2 za3 b2070 n2080 s := by
  refine ⟨fun vs s => ∃ b207 n208, vs = [(.bool b207), (.int .i64 n208)] ∧ I b207 n208 s, fun vs s => (match vs with | [.bool b207, .int _ n208] => μ b207 n208 s | _ => 0), ⟨⟨⟨_, rfl⟩, ⟨⟨_, rfl⟩, trivial⟩⟩, ⟨_, _, rfl, h0⟩⟩, ?_⟩
  intro b207 n208 s hI j
  obtain ⟨b207', n208', hy, hI⟩ := hI
  have hI' : I b207 n208 s := by cases hy; exact hI
  have hh := hr b207 n208 s hI'
  rw [← B_law10_RankNeed_0_eq W R za0 zp1 zp2 za3 b207 n208 _ j] at hh
  refine vc_mono ?_ _ _ hh
  exact KLoop_mono (fun vs s' h => by obtain ⟨b2071, n2081, rfl, h1, h2⟩ := h; exact ⟨⟨⟨_, rfl⟩, ⟨⟨_, rfl⟩, trivial⟩⟩, ⟨_, _, rfl, h1⟩, h2⟩)
def T_law10_RankNeed (W : World) (n1 : Int) (n2 : Int) (x3 : Option Addr) (l4 : Nat) (c5 : Nat) (x6 : Option Addr) (l7 : Nat) (c8 : Nat) (n9 : Int) (n10 : Int) (n11 : Int) (n12 : Int) (R : Ending → Hp → Prop) : Hp → Prop :=
  NEW 25 [(.int .i64 n1), (.int .i64 n2), (.slice x3 l4 c5), (.slice x6 l7 c8)] fun B13 =>
    RDI .i64 (Addr.add ⟨B13, 0, none⟩ 0) fun n14 =>
      RDI .i64 (Addr.add ⟨B13, 0, none⟩ 1) fun n15 =>
        RDL (Addr.add ⟨B13, 0, none⟩ 2) fun x16 l17 c18 =>
          RDL (Addr.add ⟨B13, 0, none⟩ 3) fun x19 l20 c21 =>
            CALL Pg W F_law10_far [(.agg #[(.int .i64 n14), (.int .i64 n15), (.slice x16 l17 c18), (.slice x19 l20 c21)])]
              (fun v22 => TYB v22 fun b24 =>
                BR b24
                  (J_law10_RankNeed_7 W R true B13 n9 n10 n11 n12)
                  (RDI .i64 (Addr.add ⟨B13, 0, none⟩ 0) fun n196 =>
                    RDI .i64 (Addr.add ⟨B13, 0, none⟩ 1) fun n197 =>
                      RDL (Addr.add ⟨B13, 0, none⟩ 2) fun x198 l199 c200 =>
                        RDL (Addr.add ⟨B13, 0, none⟩ 3) fun x201 l202 c203 =>
                          CALL Pg W F_ref10_Table [(.agg #[(.int .i64 n196), (.int .i64 n197), (.slice x198 l199 c200), (.slice x201 l202 c203)])]
                            (fun v204 => TYB v204 fun b206 =>
                              J_law10_RankNeed_7 W R (!b206) B13 n9 n10 n11 n12)
                              (fun e205 => R (.panicked e205))))
                (fun e23 => R (.panicked e23))
theorem T_law10_RankNeed_eq (W : World) (n1 : Int) (n2 : Int) (x3 : Option Addr) (l4 : Nat) (c5 : Nat) (x6 : Option Addr) (l7 : Nat) (c8 : Nat) (n9 : Int) (n10 : Int) (n11 : Int) (n12 : Int) (R : Ending → Hp → Prop) : vfun Pg W an_9 Try.f9 [(.agg #[(.int .i64 n1), (.int .i64 n2), (.slice x3 l4 c5), (.slice x6 l7 c8)]), (.int .u8 n9), (.int .u8 n10), (.int .u8 n11), (.int .u8 n12)] R = T_law10_RankNeed W n1 n2 x3 l4 c5 x6 l7 c8 n9 n10 n11 n12 R := by kernel_rfl
theorem does_law10_RankNeed (W : World) (n1 : Int) (n2 : Int) (x3 : Option Addr) (l4 : Nat) (c5 : Nat) (x6 : Option Addr) (l7 : Nat) (c8 : Nat) (n9 : Int) (n10 : Int) (n11 : Int) (n12 : Int) (R : Ending → Hp → Prop) (s : Hp) (h : T_law10_RankNeed W n1 n2 x3 l4 c5 x6 l7 c8 n9 n10 n11 n12 R s) : Does Pg W F_law10_RankNeed #[(.agg #[(.int .i64 n1), (.int .i64 n2), (.slice x3 l4 c5), (.slice x6 l7 c8)]), (.int .u8 n9), (.int .u8 n10), (.int .u8 n11), (.int .u8 n12)] s R :=
  does_of_vfun Pg W an_9 Try.func9 rfl (by kernel_rfl) (by rw [T_law10_RankNeed_eq]; exact h)
def an_41 : Nat → Ann := fun b => match b with
  | _ => {}
abbrev rv_41 : List ResultVar := [.tmp 6]
abbrev rs_41 : List Nat := [27, 6]
def T_law10_RankNeed_c1 (W : World) (n1 : Int) (a2 : Addr) (a3 : Addr) (a4 : Addr) (a5 : Addr) (R : Ending → Hp → Prop) : Hp → Prop :=
  RDI .i64 (Addr.add a2 0) fun n6 =>
    RDI .i64 (Addr.add a2 1) fun n7 =>
      RDL (Addr.add a2 2) fun x8 l9 c10 =>
        RDL (Addr.add a2 3) fun x11 l12 c13 =>
          RDI .i64 a3 fun n14 =>
            RDI .i64 a4 fun n15 =>
              RDI .i64 a3 fun n16 =>
                CONJ [
                  CALL Pg W F_ref10_With [(.agg #[(.int .i64 n6), (.int .i64 n7), (.slice x8 l9 c10), (.slice x11 l12 c13)]), (.int .i64 n14), (.int .i64 n15), (.int .i64 n1)]
                    (fun v17 => AGG v17 fun q19 => HD q19 fun v20 r21 => TYI .i64 v20 fun n22 =>
                      HD r21 fun v23 r24 => TYI .i64 v23 fun n25 =>
                        HD r24 fun v26 r27 => TYL v26 fun x28 l29 c30 =>
                          HD r27 fun v31 r32 => TYL v31 fun x33 l34 c35 =>
                            NL r32 <|
                              ANDS (RDI .i64 a3 fun n36 =>
                                fun _ => ((.int .i64 n36) : Value) = (.int .i64 n16)) <|
                                CONJ [
                                  CALL Pg W F_rank_Place [(.agg #[(.int .i64 n22), (.int .i64 n25), (.slice x28 l29 c30), (.slice x33 l34 c35)]), (.int .i64 n16)]
                                    (fun v37 => TUP v37 fun q39 => HD q39 fun v40 r41 => AGG v40 fun q42 => HD q42 fun v43 r44 => TYI .i64 v43 fun n45 =>
                                      HD r44 fun v46 r47 => TYI .i64 v46 fun n48 =>
                                        NL r47 <|
                                          HD r41 fun v49 r50 => TYI .i64 v49 fun n51 =>
                                            NL r50 <|
                                              NEWZ Pg 29 fun B52 =>
                                                ANDS (RDI .i64 a3 fun n53 =>
                                                  fun _ => ((.int .i64 n53) : Value) = (.int .i64 n16)) <|
                                                  ANDS (RDI .i64 a4 fun n54 =>
                                                    fun _ => ((.int .i64 n54) : Value) = (.int .i64 n15)) <|
                                                    ANDS (RDI .i64 a3 fun n55 =>
                                                      fun _ => ((.int .i64 n55) : Value) = (.int .i64 n14)) <|
                                                      ANDS (RDI .i64 (Addr.add a2 0) fun n56 =>
                                                        RDI .i64 (Addr.add a2 1) fun n57 =>
                                                          RDL (Addr.add a2 2) fun x58 l59 c60 =>
                                                            RDL (Addr.add a2 3) fun x61 l62 c63 =>
                                                              fun _ => ((.agg #[(.int .i64 n56), (.int .i64 n57), (.slice x58 l59 c60), (.slice x61 l62 c63)]) : Value) = (.agg #[(.int .i64 n6), (.int .i64 n7), (.slice x8 l9 c10), (.slice x11 l12 c13)])) <|
                                                        WR (Addr.add ⟨B52, 0, none⟩ 0) (.int .i64 n45) <|
                                                          WR (Addr.add ⟨B52, 0, none⟩ 1) (.int .i64 n48) <|
                                                            BR (n51 == 0)
                                                              (RDI .i64 (Addr.add ⟨B52, 0, none⟩ 1) fun n64 =>
                                                                RDI .i64 a5 fun n65 =>
                                                                  R (.returned (.bool (decide (n64 ≤ n65)))))
                                                              (R (.returned (.bool false))))
                                      (fun e38 => R (.panicked e38)),
                                  NEWZ Pg 29 fun B66 =>
                                    ANDS (RDI .i64 a3 fun n67 =>
                                      fun _ => ((.int .i64 n67) : Value) = (.int .i64 n16)) <|
                                      ANDS (RDI .i64 a4 fun n68 =>
                                        fun _ => ((.int .i64 n68) : Value) = (.int .i64 n15)) <|
                                        ANDS (RDI .i64 a3 fun n69 =>
                                          fun _ => ((.int .i64 n69) : Value) = (.int .i64 n14)) <|
                                          ANDS (RDI .i64 (Addr.add a2 0) fun n70 =>
                                            RDI .i64 (Addr.add a2 1) fun n71 =>
                                              RDL (Addr.add a2 2) fun x72 l73 c74 =>
                                                RDL (Addr.add a2 3) fun x75 l76 c77 =>
                                                  fun _ => ((.agg #[(.int .i64 n70), (.int .i64 n71), (.slice x72 l73 c74), (.slice x75 l76 c77)]) : Value) = (.agg #[(.int .i64 n6), (.int .i64 n7), (.slice x8 l9 c10), (.slice x11 l12 c13)])) <|
                                            CALL Pg W F_rank_Place [(.agg #[(.int .i64 n22), (.int .i64 n25), (.slice x28 l29 c30), (.slice x33 l34 c35)]), (.int .i64 n16)]
                                              (fun v78 => TUP v78 fun q80 => HD q80 fun v81 r82 => AGG v81 fun q83 => HD q83 fun v84 r85 => TYI .i64 v84 fun n86 =>
                                                HD r85 fun v87 r88 => TYI .i64 v87 fun n89 =>
                                                  NL r88 <|
                                                    HD r82 fun v90 r91 => TYI .i64 v90 fun n92 =>
                                                      NL r91 <|
                                                        WR (Addr.add ⟨B66, 0, none⟩ 0) (.int .i64 n86) <|
                                                          WR (Addr.add ⟨B66, 0, none⟩ 1) (.int .i64 n89) <|
                                                            BR (n92 == 0)
                                                              (RDI .i64 (Addr.add ⟨B66, 0, none⟩ 1) fun n93 =>
                                                                RDI .i64 a5 fun n94 =>
                                                                  R (.returned (.bool (decide (n93 ≤ n94)))))
                                                              (R (.returned (.bool false))))
                                                (fun e79 => R (.panicked e79))])
                      (fun e18 => R (.panicked e18)),
                  NEWZ Pg 29 fun B95 =>
                    ANDS (RDI .i64 a3 fun n96 =>
                      fun _ => ((.int .i64 n96) : Value) = (.int .i64 n16)) <|
                      ANDS (RDI .i64 a4 fun n97 =>
                        fun _ => ((.int .i64 n97) : Value) = (.int .i64 n15)) <|
                        ANDS (RDI .i64 a3 fun n98 =>
                          fun _ => ((.int .i64 n98) : Value) = (.int .i64 n14)) <|
                          ANDS (RDI .i64 (Addr.add a2 0) fun n99 =>
                            RDI .i64 (Addr.add a2 1) fun n100 =>
                              RDL (Addr.add a2 2) fun x101 l102 c103 =>
                                RDL (Addr.add a2 3) fun x104 l105 c106 =>
                                  fun _ => ((.agg #[(.int .i64 n99), (.int .i64 n100), (.slice x101 l102 c103), (.slice x104 l105 c106)]) : Value) = (.agg #[(.int .i64 n6), (.int .i64 n7), (.slice x8 l9 c10), (.slice x11 l12 c13)])) <|
                            CALL Pg W F_ref10_With [(.agg #[(.int .i64 n6), (.int .i64 n7), (.slice x8 l9 c10), (.slice x11 l12 c13)]), (.int .i64 n14), (.int .i64 n15), (.int .i64 n1)]
                              (fun v107 => AGG v107 fun q109 => HD q109 fun v110 r111 => TYI .i64 v110 fun n112 =>
                                HD r111 fun v113 r114 => TYI .i64 v113 fun n115 =>
                                  HD r114 fun v116 r117 => TYL v116 fun x118 l119 c120 =>
                                    HD r117 fun v121 r122 => TYL v121 fun x123 l124 c125 =>
                                      NL r122 <|
                                        ANDS (RDI .i64 a3 fun n126 =>
                                          fun _ => ((.int .i64 n126) : Value) = (.int .i64 n16)) <|
                                          CALL Pg W F_rank_Place [(.agg #[(.int .i64 n112), (.int .i64 n115), (.slice x118 l119 c120), (.slice x123 l124 c125)]), (.int .i64 n16)]
                                            (fun v127 => TUP v127 fun q129 => HD q129 fun v130 r131 => AGG v130 fun q132 => HD q132 fun v133 r134 => TYI .i64 v133 fun n135 =>
                                              HD r134 fun v136 r137 => TYI .i64 v136 fun n138 =>
                                                NL r137 <|
                                                  HD r131 fun v139 r140 => TYI .i64 v139 fun n141 =>
                                                    NL r140 <|
                                                      WR (Addr.add ⟨B95, 0, none⟩ 0) (.int .i64 n135) <|
                                                        WR (Addr.add ⟨B95, 0, none⟩ 1) (.int .i64 n138) <|
                                                          BR (n141 == 0)
                                                            (RDI .i64 (Addr.add ⟨B95, 0, none⟩ 1) fun n142 =>
                                                              RDI .i64 a5 fun n143 =>
                                                                R (.returned (.bool (decide (n142 ≤ n143)))))
                                                            (R (.returned (.bool false))))
                                              (fun e128 => R (.panicked e128)))
                                (fun e108 => R (.panicked e108))]
theorem T_law10_RankNeed_c1_eq (W : World) (n1 : Int) (a2 : Addr) (a3 : Addr) (a4 : Addr) (a5 : Addr) (R : Ending → Hp → Prop) : vfun Pg W an_41 Try.f41 [(.int .i64 n1), (.pointer (some a2)), (.pointer (some a3)), (.pointer (some a4)), (.pointer (some a5))] R = T_law10_RankNeed_c1 W n1 a2 a3 a4 a5 R := by kernel_rfl
theorem does_law10_RankNeed_c1 (W : World) (n1 : Int) (a2 : Addr) (a3 : Addr) (a4 : Addr) (a5 : Addr) (R : Ending → Hp → Prop) (s : Hp) (h : T_law10_RankNeed_c1 W n1 a2 a3 a4 a5 R s) : Does Pg W F_law10_RankNeed_c1 #[(.int .i64 n1), (.pointer (some a2)), (.pointer (some a3)), (.pointer (some a4)), (.pointer (some a5))] s R :=
  does_of_vfun Pg W an_41 Try.func41 rfl (by kernel_rfl) (by rw [T_law10_RankNeed_c1_eq]; exact h)
end Go.Proofs.Ytkgcbfbbcaajpaa.G

/- Rank: how many points are enough. -/
set_option linter.unusedSimpArgs false
set_option linter.unusedVariables false
set_option maxRecDepth 20000
namespace Go.Proofs.Ytkgcbfbbcaajpaa.G
open Go.V
theorem findA_put_ne {k x : Int × Int} (hx : x ≠ k) {v : Int × Int} : ∀ (l : List Pr), (findA x (l ++ [(k, v)]) 0).map (·.2) = (findA x l 0).map (·.2) := by
  intro l
  rw [findA_find, findA_find, List.find?_append]
  have : ([(k, v)] : List Pr).find? (fun y => decide (y.1 = x)) = none := by simp; exact fun h => hx h.symm
  rw [this]; simp
theorem find_set_ne {k x : Int × Int} (hx : x ≠ k) {v : Int × Int} : ∀ (l : List Pr) (i : Nat) (h : i < l.length), l[i].1 = k → (l.set i (k, v)).find? (fun y => decide (y.1 = x)) = l.find? (fun y => decide (y.1 = x))
  | [], i, h, _ => by simp at h
  | y :: l, 0, h, e => by
    have e' : y.1 = k := e
    rw [List.set_cons_zero, List.find?_cons, List.find?_cons, show decide (((k, v) : Pr).1 = x) = false from decide_eq_false fun hh => hx hh.symm, show decide (y.1 = x) = false from decide_eq_false fun hh => hx (hh.symm.trans e')]
  | y :: l, i + 1, h, e => by
    rw [List.set_cons_succ, List.find?_cons, List.find?_cons, find_set_ne hx l i (by simpa using h) (by simpa using e)]
theorem pts_put {l : List Pr} {k v : Int × Int} (x : Int × Int) : pts (put l k v) x = if x = k then v else pts l x := by
  by_cases e : x = k
  · subst e
    rw [if_pos rfl]
    obtain ⟨i, h, _⟩ := findA_put (l := l) (k := x) (v := v)
    unfold pts; rw [h]
  · rw [if_neg e]
    unfold put
    cases h : findA k l 0 with
    | none =>
      show pts (l ++ [(k, v)]) x = pts l x
      rw [pts_find, pts_find, ← findA_find _ 0, ← findA_find _ 0, findA_put_ne e]
    | some p =>
      obtain ⟨j, w⟩ := p
      obtain ⟨i, hi, hj, hx⟩ := findA_some l 0 j w h
      show pts (l.set j (k, v)) x = pts l x
      have : j = i := by omega
      subst this
      rw [pts_find, pts_find, find_set_ne e l j hi (by rw [hx])]
theorem with_put {T : Tb} (hok : okT T = true) {a k n : Int} : pts (put (prs T) (a, k) (n, n)) = pts (prs (withT T a k n)) := by
  funext x
  rw [pts_put, withT_pts hok]
theorem enough_eq {T : Tb} (hok : okT T = true) (i k : Nat) (pl q : Int) : enough T i k pl q = decide ((plcT (withT T i k q) i).2 ≤ pl) := by
  unfold enough
  rw [with_put hok]; rfl
theorem with_lo {T : Tb} (hok : okT T = true) {a k : Nat} {n : Int} (o j : Nat) : loP (withT T a k n) o j = (if o = a ∧ j = k then n else loP T o j) ∧ hiP (withT T a k n) o j = (if o = a ∧ j = k then n else hiP T o j) := by
  unfold loP hiP
  rw [withT_pts hok]
  by_cases e : o = a ∧ j = k
  · obtain ⟨rfl, rfl⟩ := e
    rw [if_pos rfl, if_pos ⟨rfl, rfl⟩, if_pos ⟨rfl, rfl⟩]; exact ⟨rfl, rfl⟩
  · rw [if_neg e, if_neg e, if_neg fun h => e (by injection h with h1 h2; omega)]; exact ⟨rfl, rfl⟩
theorem with_top {T : Tb} (hok : okT T = true) {a k : Nat} {n : Int} {o : Nat} (ho : o ≠ a) : topR (withT T a k n) o = topR T o ∧ lowR (withT T a k n) o = lowR T o := by
  rw [topR_hiP, topR_hiP, lowR_loP, lowR_loP]
  exact ⟨rowG_congr fun j _ => by rw [(with_lo hok o j).2, if_neg fun h => ho h.1], rowG_congr fun j _ => by rw [(with_lo hok o j).1, if_neg fun h => ho h.1]⟩
/-- More points are enough, too. -/
theorem enough_more {T : Tb} (hok : okT T = true) {a k : Nat} {p q : Int} (hpq : p ≤ q) : (plcT (withT T a k q) a).2 ≤ (plcT (withT T a k p) a).2 := by
  rw [plcT_eq, plcT_eq]
  have := cntB_mono (f := fun o => canT (withT T a k q) o a) (g := fun o => canT (withT T a k p) o a) T.n fun o _ ho => by
    obtain ⟨h1, h2⟩ := canT_iff.1 ho
    refine canT_iff.2 ⟨h1, ?_⟩
    rw [(with_top hok h1).1] at h2 ⊢
    refine gt_le (by rw [lowR_len, lowR_len]; rfl) h2 ?_
    rw [lowR_loP, lowR_loP]
    refine rowG_le (fun j _ => ?_) (Int.le_refl _)
    rw [(with_lo hok a j).1, (with_lo hok a j).1]
    split <;> omega
  show (1 : Int) + _ ≤ 1 + _
  have e : (withT T a k q).n = T.n := rfl
  have e' : (withT T a k p).n = T.n := rfl
  rw [e, e']
  omega
theorem needG_some {f : Int → Bool} : ∀ (c : Nat) (q r : Int), needG f c q = some r → q ≤ r ∧ r < q + c ∧ f r = true ∧ ∀ j, q ≤ j → j < r → f j = false
  | 0, q, r, h => by cases h
  | c + 1, q, r, h => by
    unfold needG at h
    by_cases hf : f q = true
    · rw [if_pos hf] at h
      injection h with h
      subst h
      exact ⟨by omega, by omega, hf, fun j h1 h2 => by omega⟩
    · rw [if_neg hf] at h
      obtain ⟨h1, h2, h3, h4⟩ := needG_some c (q + 1) r h
      refine ⟨by omega, by omega, h3, fun j g1 g2 => ?_⟩
      by_cases e : j = q
      · subst e; simpa using hf
      · exact h4 j (by omega) g2
theorem needG_none {f : Int → Bool} : ∀ (c : Nat) (q : Int), needG f c q = none → ∀ j, q ≤ j → j < q + c → f j = false
  | 0, q, h, j, h1, h2 => by omega
  | c + 1, q, h, j, h1, h2 => by
    unfold needG at h
    by_cases hf : f q = true
    · rw [if_pos hf] at h; cases h
    · rw [if_neg hf] at h
      by_cases e : j = q
      · subst e; simpa using hf
      · exact needG_none c (q + 1) h j (by omega) (by omega)
section
variable {W : World} {K : VK} {E : List PanicEntry → Hp → Prop} {s : Hp} {T : Tb}
theorem c_enough {za zm zs zp : Addr} {a k : Nat} {pl n : Int} (hok : okT T = true) (ha : a < T.n) (hk : k < T.m) (h0 : 0 ≤ n) (h40 : n ≤ 40) (hlo : T.off.length ≤ 100000) (ta : TbA s za T) (hm : cellAt s zm = some (.int .i64 a)) (hs : cellAt s zs = some (.int .i64 k)) (hp : cellAt s zp = some (.int .i64 pl))
    (h : ∀ s', Ext s s' → K (.bool (decide ((plcT (withT T a k n) a).2 ≤ pl))) s') :
    CALLV Pg W (.func (.func 41) #[] #[.pointer (some za), .pointer (some zm), .pointer (some zs), .pointer (some zp)]) [.int .i64 n] K E s := by
  refine CALLV_func ?_
  refine does_law10_RankNeed_c1 W n za zm zs zp _ s ?_
  unfold T_law10_RankNeed_c1
  obtain ⟨x, c, y, c', g1, g2, g3, g4, hx, hy⟩ := ta.all
  refine ⟨_, g1, _, g2, _, _, _, g3, _, _, _, g4, _, hm, _, hs, _, hm, ?_⟩
  refine CONJ_more ?_ (CONJ_one ?_)
  · refine f_WithN hok ha hk h0 h40 hx hy fun s1 y1 c1' e1 hok1 hx1 hy1 _ => ?_
    try simp only [TUP_mk, AGG_mk, HD_mk, NL_mk, TYI_mk, TYB_mk, TYP_mk, TYL_mk, TYS_mk, TYM_mk, SO_mk, NX_mk, endK_mk, endK_mk', add_0]
    refine ⟨⟨_, e1.cell hm, rfl⟩, CONJ_more ?_ (CONJ_one ?_)⟩
    · refine c_PlaceN hok1 ha hlo hx1 hy1 fun s2 e2 => ?_
      try simp only [TUP_mk, AGG_mk, HD_mk, NL_mk, TYI_mk, TYB_mk, TYP_mk, TYL_mk, TYS_mk, TYM_mk, SO_mk, NX_mk, endK_mk, endK_mk', add_0]
      refine nz2 zc_29 fun s3 e3 z3 o0 o1 => ?_
      have e13 := e1.trans (e2.trans e3)
      refine ⟨⟨_, e13.cell hm, rfl⟩, ⟨⟨_, e13.cell hs, rfl⟩, ⟨⟨_, e13.cell hm, rfl⟩, ⟨⟨_, e13.cell g1, _, e13.cell g2, _, _, _, e13.cell g3, _, _, _, e13.cell g4, rfl⟩, ?_⟩⟩⟩⟩
      refine wr2 rfl rfl (new2' o0 o1) fun s4 k4 z4 p0 p1 => ?_
      have e4 := ext_kp e13 (Nat.le_trans e1.1 e2.1) k4
      refine BR_tt (beq_self_eq_true _) ?_
      exact ⟨_, p1.cell, _, e4.cell hp, h s4 e4⟩
    · refine nz2 zc_29 fun s3 e3 z3 o0 o1 => ?_
      have e13 := e1.trans e3
      refine ⟨⟨_, e13.cell hm, rfl⟩, ⟨⟨_, e13.cell hs, rfl⟩, ⟨⟨_, e13.cell hm, rfl⟩, ⟨⟨_, e13.cell g1, _, e13.cell g2, _, _, _, e13.cell g3, _, _, _, e13.cell g4, rfl⟩, ?_⟩⟩⟩⟩
      refine c_PlaceN hok1 ha hlo (hx1.ext e3) (hy1.ext e3) fun s2 e2 => ?_
      try simp only [TUP_mk, AGG_mk, HD_mk, NL_mk, TYI_mk, TYB_mk, TYP_mk, TYL_mk, TYS_mk, TYM_mk, SO_mk, NX_mk, endK_mk, endK_mk', add_0]
      refine wr2 rfl rfl (new2' (e2.own o0) (e2.own o1)) fun s4 k4 z4 p0 p1 => ?_
      have e4 := ext_kp (e13.trans e2) e1.1 k4
      refine BR_tt (beq_self_eq_true _) ?_
      exact ⟨_, p1.cell, _, e4.cell hp, h s4 e4⟩
  · refine nz2 zc_29 fun s3 e3 z3 o0 o1 => ?_
    refine ⟨⟨_, e3.cell hm, rfl⟩, ⟨⟨_, e3.cell hs, rfl⟩, ⟨⟨_, e3.cell hm, rfl⟩, ⟨⟨_, e3.cell g1, _, e3.cell g2, _, _, _, e3.cell g3, _, _, _, e3.cell g4, rfl⟩, ?_⟩⟩⟩⟩
    refine f_WithN hok ha hk h0 h40 (hx.ext e3) (hy.ext e3) fun s1 y1 c1' e1 hok1 hx1 hy1 _ => ?_
    try simp only [TUP_mk, AGG_mk, HD_mk, NL_mk, TYI_mk, TYB_mk, TYP_mk, TYL_mk, TYS_mk, TYM_mk, SO_mk, NX_mk, endK_mk, endK_mk', add_0]
    refine ⟨⟨_, e1.cell (e3.cell hm), rfl⟩, ?_⟩
    refine c_PlaceN hok1 ha hlo hx1 hy1 fun s2 e2 => ?_
    try simp only [TUP_mk, AGG_mk, HD_mk, NL_mk, TYI_mk, TYB_mk, TYP_mk, TYL_mk, TYS_mk, TYM_mk, SO_mk, NX_mk, endK_mk, endK_mk', add_0]
    have e12 := e1.trans e2
    refine wr2 rfl rfl (new2' (e12.own o0) (e12.own o1)) fun s4 k4 z4 p0 p1 => ?_
    have e4 := ext_kp (e3.trans e12) (Nat.le_refl _) k4
    refine BR_tt (beq_self_eq_true _) ?_
    exact ⟨_, p1.cell, _, e4.cell hp, h s4 e4⟩
end
end Go.Proofs.Ytkgcbfbbcaajpaa.G

/- Rank: a table with some scores of two ploughmen read. -/
set_option linter.unusedSimpArgs false
set_option linter.unusedVariables false
set_option maxRecDepth 20000
namespace Go.Proofs.Ytkgcbfbbcaajpaa.G
open Go.V
theorem has_i : ∀ w : Nat, w < 1024 → ∀ k : Nat, k < 10 → (andv .i64 (shrv .i64 (w : Int) (k : Int)) 1 == 1) = w.testBit k := by
  have h : ((List.range 1024).all fun (l : Nat) => (List.range 10).all fun (m : Nat) => decide ((andv .i64 (shrv .i64 (l : Int) (m : Int)) 1 == 1) = l.testBit m)) = true := by decide +kernel
  intro w hl m hm
  have h1 := List.all_eq_true.1 h w (by simpa using hl)
  have h2 := List.all_eq_true.1 h1 m (by simpa using hm)
  exact of_decide_eq_true h2
def put1 (X : Tb) (a k : Nat) (f : Option Int) : Tb := match f with | some n => withT X a k n | none => X
/-- Scores of 'a' by 'f', and of 'b' by 'g', one after the other. -/
def readG (T : Tb) (a b : Nat) (f g : Nat → Option Int) : Nat → Tb
  | 0 => T
  | j + 1 => put1 (put1 (readG T a b f g j) a j (f j)) b j (g j)
theorem put1_same (X : Tb) (a k : Nat) (f : Option Int) : (put1 X a k f).men = X.men ∧ (put1 X a k f).sheets = X.sheets ∧ (put1 X a k f).off = X.off := by cases f <;> exact ⟨rfl, rfl, rfl⟩
theorem readG_same (T : Tb) (a b : Nat) (f g : Nat → Option Int) : ∀ j, (readG T a b f g j).men = T.men ∧ (readG T a b f g j).sheets = T.sheets ∧ (readG T a b f g j).off = T.off
  | 0 => ⟨rfl, rfl, rfl⟩
  | j + 1 => by
    obtain ⟨h1, h2, h3⟩ := readG_same T a b f g j
    unfold readG
    obtain ⟨g1, g2, g3⟩ := put1_same (put1 (readG T a b f g j) a j (f j)) b j (g j)
    obtain ⟨k1, k2, k3⟩ := put1_same (readG T a b f g j) a j (f j)
    exact ⟨by rw [g1, k1, h1], by rw [g2, k2, h2], by rw [g3, k3, h3]⟩
theorem same_n {X T : Tb} (h : X.men = T.men) : X.n = T.n := by unfold Tb.n; rw [h]
theorem same_m {X T : Tb} (h : X.sheets = T.sheets) : X.m = T.m := by unfold Tb.m; rw [h]
theorem same_off {X T : Tb} (h : X.off = T.off) (i : Nat) : offT X i = offT T i := by unfold offT; rw [h]
theorem put1_ok {X : Tb} (hok : okT X = true) {a k : Nat} (ha : a < X.n) (hk : k < X.m) {f : Option Int} (hf : ∀ n, f = some n → 0 ≤ n ∧ n ≤ 40) : okT (put1 X a k f) = true := by
  cases f with
  | none => exact hok
  | some n =>
    have hm := sheets_m hok
    have hs : isS X (k : Int) := ⟨by omega, by omega⟩
    exact withT_ok hok (isM_nat hok ha) hs (hf n rfl).1 (hf n rfl).2
theorem put1_lo {X : Tb} (hok : okT X = true) (a k : Nat) (f : Option Int) (o j : Nat) : loP (put1 X a k f) o j = (if o = a ∧ j = k then f.getD (loP X o j) else loP X o j) ∧ hiP (put1 X a k f) o j = (if o = a ∧ j = k then f.getD (hiP X o j) else hiP X o j) := by
  cases f with
  | none => simp [put1]
  | some n => exact with_lo hok o j
section
variable {T : Tb} {a b : Nat} {f g : Nat → Option Int} (hok : okT T = true) (ha : a < T.n) (hb : b < T.n) (hf : ∀ j n, j < T.m → f j = some n → 0 ≤ n ∧ n ≤ 40) (hg : ∀ j n, j < T.m → g j = some n → 0 ≤ n ∧ n ≤ 40)
include hok ha hb hf hg
theorem readG_ok : ∀ j, j ≤ T.m → okT (readG T a b f g j) = true
  | 0, _ => hok
  | j + 1, h => by
    have ih := readG_ok j (by omega)
    obtain ⟨h1, h2, h3⟩ := readG_same T a b f g j
    obtain ⟨k1, k2, k3⟩ := put1_same (readG T a b f g j) a j (f j)
    have i1 := put1_ok ih (a := a) (k := j) (by rw [same_n h1]; exact ha) (by rw [same_m h2]; omega) (f := f j) fun n hn => hf j n (by omega) hn
    exact put1_ok i1 (a := b) (k := j) (by rw [same_n (k1.trans h1)]; exact hb) (by rw [same_m (k2.trans h2)]; omega) fun n hn => hg j n (by omega) hn
theorem readG_lo (hab : a ≠ b) : ∀ j, j ≤ T.m → ∀ o k, loP (readG T a b f g j) o k = (if o = a ∧ k < j then (f k).getD (loP T o k) else if o = b ∧ k < j then (g k).getD (loP T o k) else loP T o k) ∧ hiP (readG T a b f g j) o k = (if o = a ∧ k < j then (f k).getD (hiP T o k) else if o = b ∧ k < j then (g k).getD (hiP T o k) else hiP T o k)
  | 0, _, o, k => by simp [readG]
  | j + 1, h, o, k => by
    have ih := readG_lo hab j (by omega)
    have o0 := readG_ok hok ha hb hf hg j (by omega)
    obtain ⟨h1, h2, h3⟩ := readG_same T a b f g j
    have i1 := put1_ok o0 (a := a) (k := j) (by rw [same_n h1]; exact ha) (by rw [same_m h2]; omega) (f := f j) fun n hn => hf j n (by omega) hn
    obtain ⟨p1, p2⟩ := put1_lo i1 b j (g j) o k
    obtain ⟨q1, q2⟩ := put1_lo o0 a j (f j) o k
    obtain ⟨r1, r2⟩ := ih o k
    unfold readG
    rw [p1, p2, q1, q2, r1, r2]
    by_cases e1 : o = a
    · subst e1
      have hb' : ¬ o = b := hab
      by_cases e2 : k = j
      · subst e2; simp [hb']
      · by_cases e3 : k < j
        · simp [hb', e2, e3, show k < j + 1 by omega]
        · simp [hb', e2, e3, show ¬ k < j + 1 by omega]
    · by_cases e4 : o = b
      · subst e4
        by_cases e2 : k = j
        · subst e2; simp [e1]
        · by_cases e3 : k < j
          · simp [e1, e2, e3, show k < j + 1 by omega]
          · simp [e1, e2, e3, show ¬ k < j + 1 by omega]
      · simp [e1, e4]
end
/-! ### A table in a variable -/
structure TbV (s1 s : Hp) (B : Nat) (X : Tb) (xo : Option Addr × Nat) : Prop where
  ext : Ext s1 s
  blk : s1.size ≤ B
  men : Own s ⟨B, 0, none⟩ (.int .i64 X.men)
  sheets : Own s ⟨B, 1, none⟩ (.int .i64 X.sheets)
  off : Own s ⟨B, 2, none⟩ (.slice xo.1 X.off.length xo.2) ∧ RowAt s1 xo.1 (ints X.off)
  sc : ∃ y c, Own s ⟨B, 3, none⟩ (.slice y X.sc.length c) ∧ ScAt s y X.sc
theorem TbV.after {s1 s s' : Hp} {B : Nat} {X : Tb} {xo : Option Addr × Nat} (e : Ext s s') (h : TbV s1 s B X xo) : TbV s1 s' B X xo :=
  ⟨h.ext.trans e, h.blk, e.own h.men, e.own h.sheets, ⟨e.own h.off.1, h.off.2⟩, by obtain ⟨y, c, h1, h2⟩ := h.sc; exact ⟨y, c, e.own h1, h2.ext e⟩⟩
theorem TbV.tbA {s1 s : Hp} {B : Nat} {X : Tb} {xo : Option Addr × Nat} (h : TbV s1 s B X xo) : TbA s ⟨B, 0, none⟩ X :=
  ⟨h.men.cell, h.sheets.cell, ⟨xo.1, xo.2, h.off.1.cell, h.off.2.ext h.ext⟩, by obtain ⟨y, c, h1, h2⟩ := h.sc; exact ⟨y, c, h1.cell, h2⟩⟩
theorem TbV.put {s1 s : Hp} {B c : Nat} {X X' : Tb} {xo : Option Addr × Nat} {y : Option Addr} {K : Hp → Prop} (h : TbV s1 s B X xo) (hox : RowAt s1 xo.1 (ints X'.off)) (hy : ScAt s y X'.sc) (hf : ∀ a, y = some a → a.block ≠ B) (hK : ∀ s', Kp (· = B) s s' → TbV s1 s' B X' xo → K s') :
    (WR (Addr.add ⟨B, 0, none⟩ 0) (.int .i64 X'.men) <| WR (Addr.add ⟨B, 0, none⟩ 1) (.int .i64 X'.sheets) <| WR (Addr.add ⟨B, 0, none⟩ 2) (.slice xo.1 X'.off.length xo.2) <| WR (Addr.add ⟨B, 0, none⟩ 3) (.slice y X'.sc.length c) K) s := by
  obtain ⟨y0, c0, h1, _⟩ := h.sc
  refine wr4 rfl rfl rfl rfl (a := ⟨B, 0, none⟩) (fun j hj => ?_) fun s' k z o0 o1 o2 o3 => ?_
  · match j, hj with
    | 0, _ => exact ⟨_, h.men⟩
    | 1, _ => exact ⟨_, h.sheets⟩
    | 2, _ => exact ⟨_, h.off.1⟩
    | 3, _ => exact ⟨_, h1⟩
  · refine hK s' k ⟨ext_kp h.ext h.blk k, h.blk, o0, o1, ⟨o2, hox⟩, y, c, o3, fun i hi => ?_⟩
    obtain ⟨a, ha, g0, g1, g2, g3⟩ := hy i hi
    have hd : ∀ j, ¬ (((a.add (i * 4)).add j).block = B) := fun j => by rw [add_blk, add_blk]; exact hf a ha
    exact ⟨a, ha, k.cell (hd 0) g0, k.cell (hd 1) g1, k.cell (hd 2) g2, k.cell (hd 3) g3⟩
/-- A copy of a table. -/
theorem tbV_new {s1 s : Hp} {T : Tb} {x y : Option Addr} {c c' : Nat} {K : Nat → Hp → Prop} (e : Ext s1 s) (hx : RowAt s1 x (ints T.off)) (hy : ScAt s y T.sc) (h : ∀ s' B, Ext s s' → s'.size = s.size + 1 → B = s.size → cellAt s' ⟨B, 3, none⟩ = some (.slice y T.sc.length c') → TbV s1 s' B T (x, c) → K B s') :
    NEWZ Pg 25 (fun B => WR (Addr.add ⟨B, 0, none⟩ 0) (.int .i64 T.men) (WR (Addr.add ⟨B, 0, none⟩ 1) (.int .i64 T.sheets) (WR (Addr.add ⟨B, 0, none⟩ 2) (.slice x T.off.length c) (WR (Addr.add ⟨B, 0, none⟩ 3) (.slice y T.sc.length c') (K B))))) s := by
  refine nw4 zc_25 rfl rfl rfl rfl fun s1' e1 z1 o0 o1 o2 o3 => ?_
  exact h s1' s.size e1 z1 rfl o3.cell ⟨e.trans e1, e.1, o0, o1, ⟨o2, hx⟩, y, c', o3, hy.ext e1⟩
section
variable {W : World} {K : VK} {E : List PanicEntry → Hp → Prop} {s s1 : Hp} {T X : Tb} {xo : Option Addr × Nat} {B : Nat}
/-- 'x = With(x, ..)'. -/
theorem with_var {a k : Nat} {n : Int} {y : Option Addr} {c : Nat} {KK : Hp → Prop} {R : Ending → Hp → Prop} (hok : okT X = true) (ha : a < X.n) (hk : k < X.m) (h0 : 0 ≤ n) (h1 : n ≤ 40) (v : TbV s1 s B X xo) (hy : ScAt s y X.sc)
    (hK : ∀ s' t, Ext s t → Kp (· = B) t s' → TbV s1 s' B (withT X a k n) xo → KK s') :
    CALL Pg W F_ref10_With [.agg #[.int .i64 X.men, .int .i64 X.sheets, .slice xo.1 X.off.length xo.2, .slice y X.sc.length c], .int .i64 a, .int .i64 k, .int .i64 n]
      (fun v118 => AGG v118 fun q120 => HD q120 fun v121 r122 => TYI .i64 v121 fun n123 => HD r122 fun v124 r125 => TYI .i64 v124 fun n126 => HD r125 fun v127 r128 => TYL v127 fun x129 l130 c131 => HD r128 fun v132 r133 => TYL v132 fun x134 l135 c136 => NL r133 <|
        WR (Addr.add ⟨B, 0, none⟩ 0) (.int .i64 n123) <| WR (Addr.add ⟨B, 0, none⟩ 1) (.int .i64 n126) <| WR (Addr.add ⟨B, 0, none⟩ 2) (.slice x129 l130 c131) <| WR (Addr.add ⟨B, 0, none⟩ 3) (.slice x134 l135 c136) KK) (fun e => R (.panicked e)) s := by
  refine f_WithN hok ha hk h0 h1 (v.off.2.ext v.ext) hy fun t y' c' e hok' hx' hy' hf => ?_
  try simp only [TUP_mk, AGG_mk, HD_mk, NL_mk, TYI_mk, TYB_mk, TYP_mk, TYL_mk, TYS_mk, TYM_mk, SO_mk, NX_mk, endK_mk, endK_mk', add_0]
  have hBl : B < s.size := v.men.lt
  exact (v.after e).put (X' := withT X a k n) v.off.2 hy' (fun a ha => by have := (hf a ha).1; omega) fun s' k' v' => hK s' t e k' v'
end
end Go.Proofs.Ytkgcbfbbcaajpaa.G

/- Rank: read. -/
set_option linter.unusedSimpArgs false
set_option linter.unusedVariables false
set_option maxRecDepth 20000
namespace Go.Proofs.Ytkgcbfbbcaajpaa.G
open Go.V
def bitO (w j : Nat) (n : Int) : Option Int := if w.testBit j then some n else none
/-- With the scores of a set read, as good for 'a', and as bad for 'b', as can be. -/
def readL (T : Tb) (a b w : Nat) : Nat → Tb := readG T a b (fun j => bitO w j (hiP T a j)) (fun j => bitO w (T.m + j) (loP T b j))
theorem bitO_some {w j : Nat} {n m : Int} (h : bitO w j n = some m) : m = n := by
  unfold bitO at h
  split at h
  · injection h with h; exact h.symm
  · cases h
section
variable {s1 s : Hp} {T : Tb}
theorem TbV.ret {B C : Nat} {X : Tb} {xo : Option Addr × Nat} {R : Ending → Hp → Prop} (h : TbV s1 s B X xo) (hC : s1.size ≤ C) (hk : ∀ p ∈ z4 C, Own s p.1 p.2) (hf : ∀ y c, cellAt s ⟨B, 3, none⟩ = some (.slice y X.sc.length c) → ∀ i, i < X.sc.length → ∀ a, y = some a → a.block ≠ C)
    (hR : ∀ s' y c', Ext s1 s' → ScAt s' y X.sc → R (.returned (.agg #[.int .i64 X.men, .int .i64 X.sheets, .slice xo.1 X.off.length xo.2, .slice y X.sc.length c'])) s') :
    (RDI .i64 (Addr.add ⟨B, 0, none⟩ 0) fun n17 => RDI .i64 (Addr.add ⟨B, 0, none⟩ 1) fun n18 => RDL (Addr.add ⟨B, 0, none⟩ 2) fun x19 l20 c21 => RDL (Addr.add ⟨B, 0, none⟩ 3) fun x22 l23 c24 =>
      WR (Addr.add ⟨C, 0, none⟩ 0) (.int .i64 n17) <| WR (Addr.add ⟨C, 0, none⟩ 1) (.int .i64 n18) <| WR (Addr.add ⟨C, 0, none⟩ 2) (.slice x19 l20 c21) <| WR (Addr.add ⟨C, 0, none⟩ 3) (.slice x22 l23 c24) <|
      RDI .i64 (Addr.add ⟨C, 0, none⟩ 0) fun n25 => RDI .i64 (Addr.add ⟨C, 0, none⟩ 1) fun n26 => RDL (Addr.add ⟨C, 0, none⟩ 2) fun x27 l28 c29 => RDL (Addr.add ⟨C, 0, none⟩ 3) fun x30 l31 c32 =>
      R (.returned (.agg #[(.int .i64 n25), (.int .i64 n26), (.slice x27 l28 c29), (.slice x30 l31 c32)]))) s := by
  obtain ⟨y, cy, h1, h2⟩ := h.sc
  refine ⟨_, h.men.cell, _, h.sheets.cell, _, _, _, h.off.1.cell, _, _, _, h1.cell, ?_⟩
  refine wr4 rfl rfl rfl rfl (a := ⟨C, 0, none⟩) (fun j hj => ?_) fun s' k z o0 o1 o2 o3 => ?_
  · match j, hj with
    | 0, _ => exact ⟨_, hk (⟨C, 0, none⟩, .int .i64 0) (by simp [z4])⟩
    | 1, _ => exact ⟨_, hk (⟨C, 1, none⟩, .int .i64 0) (by simp [z4])⟩
    | 2, _ => exact ⟨_, hk (⟨C, 2, none⟩, .slice none 0 0) (by simp [z4])⟩
    | 3, _ => exact ⟨_, hk (⟨C, 3, none⟩, .slice none 0 0) (by simp [z4])⟩
  · refine ⟨_, o0.cell, _, o1.cell, _, _, _, o2.cell, _, _, _, o3.cell, ?_⟩
    refine hR s' y cy (ext_kp h.ext hC k) fun i hi => ?_
    obtain ⟨a, ha, g0, g1, g2, g3⟩ := h2 i hi
    have hd : ∀ j, ¬ (((a.add (i * 4)).add j).block = C) := fun j => by rw [add_blk, add_blk]; exact hf y cy h1.cell i hi a ha
    exact ⟨a, ha, k.cell (hd 0) g0, k.cell (hd 1) g1, k.cell (hd 2) g2, k.cell (hd 3) g3⟩
/-- The scores of a table in a variable do not lie in some block. -/
def ScN (s : Hp) (B : Nat) (X : Tb) (C : Nat) : Prop := ∀ y c, cellAt s ⟨B, 3, none⟩ = some (.slice y X.sc.length c) → ∀ i, i < X.sc.length → ∀ a, y = some a → a.block ≠ C
theorem ScN.after {s s' : Hp} {B C : Nat} {X : Tb} {xo : Option Addr × Nat} (v : TbV s1 s B X xo) (e : Ext s s') (h : ScN s B X C) : ScN s' B X C := fun y c hc => by
  obtain ⟨y0, c0, h1, _⟩ := v.sc
  have := e.cell h1.cell
  rw [hc] at this
  injection this with this
  injection this with g1 g2 g3
  subst g1; subst g3
  exact h y c h1.cell
end
section
variable {W : World} {K : VK} {E : List PanicEntry → Hp → Prop} {s : Hp} {T : Tb}
/-- One step: if a score is read, the variable has the table with it. -/
theorem read_step {R : Ending → Hp → Prop} {s1 u : Hp} {B C za a k : Nat} {X : Tb} {xo : Option Addr × Nat} {e : Bool} {KK : Hp → Prop} (hok : okT T = true) (hokX : okT X = true) (haX : a < X.n) (hkX : k < X.m) (ta : TbA s1 ⟨za, 0, none⟩ T) (v : TbV s1 u B X xo) (hC : C < u.size) (hCB : C ≠ B) (hk : ∀ p ∈ z4 C, Own u p.1 p.2)
    (hK : ∀ s', TbV s1 s' B (withT X a k (sel e (loP T a k, hiP T a k))) xo → (∀ p ∈ z4 C, Own s' p.1 p.2) → ScN s' B (withT X a k (sel e (loP T a k, hiP T a k))) C → u.size ≤ s'.size → KK s') :
    (RDI .i64 (Addr.add ⟨B, 0, none⟩ 0) fun n25 => RDI .i64 (Addr.add ⟨B, 0, none⟩ 1) fun n26 => RDL (Addr.add ⟨B, 0, none⟩ 2) fun x27 l28 c29 => RDL (Addr.add ⟨B, 0, none⟩ 3) fun x30 l31 c32 =>
      RDI .i64 (Addr.add ⟨za, 0, none⟩ 0) fun n33 => RDI .i64 (Addr.add ⟨za, 0, none⟩ 1) fun n34 => RDL (Addr.add ⟨za, 0, none⟩ 2) fun x35 l36 c37 => RDL (Addr.add ⟨za, 0, none⟩ 3) fun x38 l39 c40 =>
      CALL Pg W F_ref10_Points [(.agg #[(.int .i64 n33), (.int .i64 n34), (.slice x35 l36 c37), (.slice x38 l39 c40)]), (.int .i64 a), (.int .i64 k)]
        (fun v41 => AGG v41 fun q43 => HD q43 fun v44 r45 => TYI .i64 v44 fun n46 => HD r45 fun v47 r48 => TYI .i64 v47 fun n49 => NL r48 <|
          ANDS (RDI .i64 (Addr.add ⟨B, 0, none⟩ 0) fun n50 => RDI .i64 (Addr.add ⟨B, 0, none⟩ 1) fun n51 => RDL (Addr.add ⟨B, 0, none⟩ 2) fun x52 l53 c54 => RDL (Addr.add ⟨B, 0, none⟩ 3) fun x55 l56 c57 => fun _ => ((.agg #[(.int .i64 n50), (.int .i64 n51), (.slice x52 l53 c54), (.slice x55 l56 c57)]) : Value) = (.agg #[(.int .i64 n25), (.int .i64 n26), (.slice x27 l28 c29), (.slice x30 l31 c32)])) <|
          ANDS (RDI .i64 (Addr.add ⟨B, 0, none⟩ 0) fun n58 => RDI .i64 (Addr.add ⟨B, 0, none⟩ 1) fun n59 => RDL (Addr.add ⟨B, 0, none⟩ 2) fun x60 l61 c62 => RDL (Addr.add ⟨B, 0, none⟩ 3) fun x63 l64 c65 => fun _ => ((.agg #[(.int .i64 n58), (.int .i64 n59), (.slice x60 l61 c62), (.slice x63 l64 c65)]) : Value) = (.agg #[(.int .i64 n25), (.int .i64 n26), (.slice x27 l28 c29), (.slice x30 l31 c32)])) <|
          CALL Pg W F_ref10_With [(.agg #[(.int .i64 n25), (.int .i64 n26), (.slice x27 l28 c29), (.slice x30 l31 c32)]), (.int .i64 a), (.int .i64 k), (.int .i64 (sel e (n46, n49)))]
            (fun v66 => AGG v66 fun q68 => HD q68 fun v69 r70 => TYI .i64 v69 fun n71 => HD r70 fun v72 r73 => TYI .i64 v72 fun n74 => HD r73 fun v75 r76 => TYL v75 fun x77 l78 c79 => HD r76 fun v80 r81 => TYL v80 fun x82 l83 c84 => NL r81 <|
              WR (Addr.add ⟨B, 0, none⟩ 0) (.int .i64 n71) <| WR (Addr.add ⟨B, 0, none⟩ 1) (.int .i64 n74) <| WR (Addr.add ⟨B, 0, none⟩ 2) (.slice x77 l78 c79) <| WR (Addr.add ⟨B, 0, none⟩ 3) (.slice x82 l83 c84) <| KK)
            (fun e67 => R (.panicked e67)))
        (fun e42 => R (.panicked e42))) u := by
  obtain ⟨_, _, _, _, h30, _⟩ := okT_iff.1 hok
  have hlh := lo_hi hok a k
  have hsel : 0 ≤ sel e (loP T a k, hiP T a k) ∧ sel e (loP T a k, hiP T a k) ≤ 40 := by cases e <;> simp only [sel] <;> first | (simp; omega) | omega
  obtain ⟨y, cy, h1, h2⟩ := v.sc
  refine ⟨_, v.men.cell, _, v.sheets.cell, _, _, _, v.off.1.cell, _, _, _, h1.cell, ?_⟩
  refine rdT (ta.ext v.ext) fun x c y' c' hx hy => ?_
  refine f_Points hx hy (by omega) fun t f => ?_
  unfold spanV
  try simp only [TUP_mk, AGG_mk, HD_mk, NL_mk, TYI_mk, TYB_mk, TYP_mk, TYL_mk, TYS_mk, TYM_mk, SO_mk, NX_mk, endK_mk, endK_mk', add_0]
  have vt := v.after f
  have h1t := f.cell h1.cell
  refine ⟨⟨_, vt.men.cell, _, vt.sheets.cell, _, _, _, vt.off.1.cell, _, _, _, h1t, rfl⟩, ⟨⟨_, vt.men.cell, _, vt.sheets.cell, _, _, _, vt.off.1.cell, _, _, _, h1t, rfl⟩, ?_⟩⟩
  have hs : sel e ((pts (prs T) ((a : Int), (k : Int))).1, (pts (prs T) ((a : Int), (k : Int))).2) = sel e (loP T a k, hiP T a k) := rfl
  rw [hs]
  refine f_WithN hokX haX hkX hsel.1 hsel.2 (v.off.2.ext vt.ext) (h2.ext f) fun t2 y2 c2 f2 hok2 hx2 hy2 hfr => ?_
  try simp only [TUP_mk, AGG_mk, HD_mk, NL_mk, TYI_mk, TYB_mk, TYP_mk, TYL_mk, TYS_mk, TYM_mk, SO_mk, NX_mk, endK_mk, endK_mk', add_0]
  have hBl : B < t.size := vt.men.lt
  have hs1 := f.1
  have hs2 := f2.1
  obtain ⟨y3, c3, g1, g2⟩ := (vt.after f2).sc
  refine wr4 rfl rfl rfl rfl (a := ⟨B, 0, none⟩) (fun j hj => ?_) fun s' k' z o0 o1 o2 o3 => ?_
  · match j, hj with
    | 0, _ => exact ⟨_, (vt.after f2).men⟩
    | 1, _ => exact ⟨_, (vt.after f2).sheets⟩
    | 2, _ => exact ⟨_, (vt.after f2).off.1⟩
    | 3, _ => exact ⟨_, g1⟩
  · refine hK s' ⟨ext_kp (vt.after f2).ext v.blk k', v.blk, o0, o1, ⟨o2, v.off.2⟩, y2, c2, o3, fun i hi => ?_⟩ (fun p hp => ?_) (fun y5 c5 hc5 i hi a' ha' => ?_) (by have := k'.1; omega)
    · obtain ⟨ad, had, g0, g1, g2, g3⟩ := hy2 i hi
      have hd : ∀ j, ¬ (((ad.add (i * 4)).add j).block = B) := fun j => by rw [add_blk, add_blk]; have := (hfr ad had).1; omega
      exact ⟨ad, had, k'.cell (hd 0) g0, k'.cell (hd 1) g1, k'.cell (hd 2) g2, k'.cell (hd 3) g3⟩
    · have hpC : p.1.block = C := by
        unfold z4 at hp
        simp only [List.mem_cons, List.not_mem_nil, or_false] at hp
        rcases hp with rfl | rfl | rfl | rfl <;> rfl
      exact k'.own (by rw [hpC]; exact hCB) (f2.own (f.own (hk p hp)))
    · have hc6 : cellAt s' ⟨B, 3, none⟩ = _ := o3.cell
      rw [hc6] at hc5
      injection hc5 with hc5
      injection hc5 with e1 e2 e3
      subst e1
      have := (hfr a' ha').1; omega
end
end Go.Proofs.Ytkgcbfbbcaajpaa.G

/- Rank: read, in the statements; what the fewest scores are. -/
set_option linter.unusedSimpArgs false
set_option linter.unusedVariables false
set_option maxRecDepth 20000
namespace Go.Proofs.Ytkgcbfbbcaajpaa.G
open Go.V
section
variable {T : Tb} {a b w : Nat}
theorem readL_same (j : Nat) : (readL T a b w j).men = T.men ∧ (readL T a b w j).sheets = T.sheets ∧ (readL T a b w j).off = T.off := readG_same T a b _ _ j
theorem readL_ok (hok : okT T = true) (ha : a < T.n) (hb : b < T.n) {j : Nat} (hj : j ≤ T.m) : okT (readL T a b w j) = true :=
  readG_ok hok ha hb (fun k n _ h => by have := lo_hi hok a k; rw [bitO_some h]; omega) (fun k n _ h => by have := lo_hi hok b k; rw [bitO_some h]; omega) j hj
theorem put1_none (X : Tb) (a k : Nat) : put1 X a k none = X := rfl
/-- Between two scores of one sheet. -/
def readH (T : Tb) (a b w j : Nat) : Tb := put1 (readL T a b w j) a j (bitO w j (hiP T a j))
theorem readH_ok (hok : okT T = true) (ha : a < T.n) (hb : b < T.n) {j : Nat} (hj : j < T.m) : okT (readH T a b w j) = true := by
  obtain ⟨h1, h2, h3⟩ := readL_same (T := T) (a := a) (b := b) (w := w) j
  exact put1_ok (readL_ok hok ha hb (by omega)) (by rw [same_n h1]; exact ha) (by rw [same_m h2]; exact hj) fun n h => by have := lo_hi hok a j; rw [bitO_some h]; omega
theorem readH_same (j : Nat) : (readH T a b w j).men = T.men ∧ (readH T a b w j).sheets = T.sheets ∧ (readH T a b w j).off = T.off := by
  obtain ⟨h1, h2, h3⟩ := readL_same (T := T) (a := a) (b := b) (w := w) j
  obtain ⟨k1, k2, k3⟩ := put1_same (readL T a b w j) a j (bitO w j (hiP T a j))
  exact ⟨k1.trans h1, k2.trans h2, k3.trans h3⟩
theorem readL_succ (j : Nat) : readL T a b w (j + 1) = put1 (readH T a b w j) b j (bitO w (T.m + j) (loP T b j)) := rfl
theorem bitO_t {w j : Nat} {n : Int} (h : w.testBit j = true) : bitO w j n = some n := by unfold bitO; rw [if_pos h]
theorem bitO_f {w j : Nat} {n : Int} (h : w.testBit j = false) : bitO w j n = none := by unfold bitO; rw [if_neg (by rw [h]; simp)]
end
section
variable {W : World} {K : VK} {E : List PanicEntry → Hp → Prop} {s : Hp} {T : Tb}
theorem f_read {x y : Option Addr} {c c' a b w : Nat} (hok : okT T = true) (ha : a < T.n) (hb : b < T.n) (hw : w < 1024) (hx : RowAt s x (ints T.off)) (hy : ScAt s y T.sc)
    (h : ∀ s' x y c c', Ext s s' → RowAt s' x (ints (readL T a b w T.m).off) → ScAt s' y (readL T a b w T.m).sc → K (.agg #[.int .i64 (readL T a b w T.m).men, .int .i64 (readL T a b w T.m).sheets, .slice x (readL T a b w T.m).off.length c, .slice y (readL T a b w T.m).sc.length c']) s') :
    CALL Pg W F_law10_read [.agg #[.int .i64 T.men, .int .i64 T.sheets, .slice x T.off.length c, .slice y T.sc.length c'], .int .i64 a, .int .i64 b, .int .i64 w] K E s := by
  have hn := men_n hok
  have hm := sheets_m hok
  obtain ⟨_, n6, _, m5⟩ := n_lim hok
  refine does_law10_read W T.men T.sheets x T.off.length c y T.sc.length c' a b w _ s ?_
  unfold T_law10_read
  refine NEW_rule fun s1 e1 z1 n1 _ => ?_
  have ta := tbA_new e1 hx hy n1
  refine nz4 zc_25 fun s2 e2 z2 r0 r1 r2 r3 => ?_
  obtain ⟨x0, c0, y0, c0', g1, g2, g3, g4, hx1, hy1⟩ := ta.all
  refine ⟨_, e2.cell g1, _, e2.cell g2, _, _, _, e2.cell g3, _, _, _, e2.cell g4, ?_⟩
  refine tbV_new e2 hx1 (hy1.ext e2) fun s3 B e3 z3 hB c3 v3 => ?_
  generalize hC : s1.size = C at *
  have hk3 : ∀ p ∈ z4 C, Own s3 p.1 p.2 := fun p hp => e3.own (z4_own r0 r1 r2 r3 p hp)
  have hCB : C ≠ B := by omega
  refine ⟨_, (ta.ext v3.ext).sheets, ?_⟩
  have hsc0 : ScN s3 B T C := fun y5 c5 hc5 i hi a' ha' => by
    rw [c3] at hc5
    injection hc5 with hc5
    injection hc5 with e1' e2' e3'
    subst e1'
    obtain ⟨ad, had, d0, _⟩ := hy1 i hi
    rw [ha'] at had
    cases had
    have hlt := cell_lt d0
    rw [add_blk, add_blk] at hlt
    omega
  refine L_law10_read_0_rule W _ a b w ⟨s.size, 0, none⟩ ⟨C, 0, none⟩ ⟨B, 0, none⟩ T.sheets (fun n u => ∃ j : Nat, j ≤ T.m ∧ n = j ∧ TbV s1 u B (readL T a b w j) (x0, c0) ∧ (∀ p ∈ z4 C, Own u p.1 p.2) ∧ ScN u B (readL T a b w j) C) (fun n _ => (T.m - n).toNat) 0 s3 ⟨0, by omega, rfl, v3, hk3, hsc0⟩ ?_
  rintro n24 u ⟨j, hj, rfl, vu, hku, hsu⟩
  obtain ⟨l1, l2, l3⟩ := readL_same (T := T) (a := a) (b := b) (w := w) j
  unfold B_law10_read_0
  refine BR_dec (fun h1 => ?_) (fun h1 => ?_)
  · have hjm : j < T.m := by omega
    have okL := readL_ok (w := w) hok ha hb hj
    have okH := readH_ok (w := w) hok ha hb hjm
    obtain ⟨q1, q2, q3⟩ := readH_same (T := T) (a := a) (b := b) (w := w) j
    refine NNI_nat ?_
    rw [has_i w hw j (by omega)]
    have hkC : ∀ {u'}, (∀ p ∈ z4 C, Own u' p.1 p.2) → C < u'.size := fun hk => (hk (⟨C, 0, none⟩, .int .i64 0) (by simp [z4])).lt
    have j0 : ∀ u', TbV s1 u' B (readL T a b w (j + 1)) (x0, c0) → (∀ p ∈ z4 C, Own u' p.1 p.2) → ScN u' B (readL T a b w (j + 1)) C → J_law10_read_0 W (endK K E) a b w ⟨s.size, 0, none⟩ ⟨C, 0, none⟩ ⟨B, 0, none⟩ T.sheets (fun vs => N_law10_read_0 (fun n u => ∃ j : Nat, j ≤ T.m ∧ n = j ∧ TbV s1 u B (readL T a b w j) (x0, c0) ∧ (∀ p ∈ z4 C, Own u p.1 p.2) ∧ ScN u B (readL T a b w j) C) (fun n _ => (T.m - n).toNat) j u vs) j u' := by
      intro u' v' hk' hs'
      unfold J_law10_read_0
      exact ⟨rfl, _, rfl, ⟨j + 1, by omega, wrap_succ (by omega), v', hk', hs'⟩, ms_succ hjm (by omega)⟩
    have j1 : ∀ u', TbV s1 u' B (readH T a b w j) (x0, c0) → (∀ p ∈ z4 C, Own u' p.1 p.2) → ScN u' B (readH T a b w j) C → J_law10_read_1 W (endK K E) ⟨s.size, 0, none⟩ j w ⟨B, 0, none⟩ b a ⟨C, 0, none⟩ T.sheets (fun vs => N_law10_read_0 (fun n u => ∃ j : Nat, j ≤ T.m ∧ n = j ∧ TbV s1 u B (readL T a b w j) (x0, c0) ∧ (∀ p ∈ z4 C, Own u p.1 p.2) ∧ ScN u B (readL T a b w j) C) (fun n _ => (T.m - n).toNat) j u vs) u' := by
      intro u' v' hk' hs'
      unfold J_law10_read_1
      refine ⟨_, (ta.ext v'.ext).sheets, ?_⟩
      have hwj : IntKind.wrap .i64 (T.sheets + (j : Int)) = ((T.m + j : Nat) : Int) := by rw [wrap_i64 (by omega) (by omega)]; omega
      dsimp only
      rw [hwj]
      refine NNI_nat ?_
      rw [has_i w hw (T.m + j) (by omega)]
      refine BR_bool (fun hb1 => ?_) (fun hb1 => ?_)
      · refine read_step (e := false) (X := readH T a b w j) hok okH (by rw [same_n q1]; exact hb) (by rw [same_m q2]; exact hjm) ta v' (hkC hk') hCB hk' fun u2 v2 hk2 hs2 _ => ?_
        have he : readL T a b w (j + 1) = withT (readH T a b w j) b j (loP T b j) := by rw [readL_succ, bitO_t hb1]; rfl
        exact j0 u2 (by rw [he]; exact v2) hk2 (by rw [he]; exact hs2)
      · have he : readL T a b w (j + 1) = readH T a b w j := by rw [readL_succ, bitO_f hb1]; rfl
        exact j0 u' (by rw [he]; exact v') hk' (by rw [he]; exact hs')
    refine BR_bool (fun hb1 => ?_) (fun hb1 => ?_)
    · refine read_step (e := true) (X := readL T a b w j) hok okL (by rw [same_n l1]; exact ha) (by rw [same_m l2]; exact hjm) ta vu (hkC hku) hCB hku fun u2 v2 hk2 hs2 _ => ?_
      have he : readH T a b w j = withT (readL T a b w j) a j (hiP T a j) := by unfold readH; rw [bitO_t hb1]; rfl
      exact j1 u2 (by rw [he]; exact v2) hk2 (by rw [he]; exact hs2)
    · have he : readH T a b w j = readL T a b w j := by unfold readH; rw [bitO_f hb1]; rfl
      exact j1 u (by rw [he]; exact vu) hku (by rw [he]; exact hsu)
  · have hjm : j = T.m := by omega
    subst hjm
    refine vu.ret (Nat.le_of_eq hC) hku hsu fun s' y c' e hy => ?_
    exact h s' x0 y c0 c' (e1.trans e) (vu.off.2.ext e) hy
end
end Go.Proofs.Ytkgcbfbbcaajpaa.G

/- Rank, in plain Lean: the fewest scores that prove it. -/
set_option linter.unusedSimpArgs false
set_option linter.unusedVariables false
set_option maxRecDepth 20000
namespace Go.Proofs.Ytkgcbfbbcaajpaa.G
open Go.V
/-! ### The order of sets -/
def setLt (x y : Nat) : Prop := popN x < popN y ∨ (popN x = popN y ∧ x < y)
theorem lay_mem {M z x : Nat} : x ∈ lay M z ↔ x < 2 ^ M ∧ popN x = z := by unfold lay; simp
theorem sets_sorted (M : Nat) : (setsL M).Pairwise setLt := by
  unfold setsL
  rw [List.pairwise_flatMap]
  constructor
  · intro z hz
    unfold lay
    have h : (List.range (2 ^ M)).Pairwise (· < ·) := List.pairwise_lt_range
    refine List.Pairwise.imp_of_mem ?_ (h.filter _)
    intro x y hx hy hlt
    have h1 := (List.mem_filter.1 hx).2
    have h2 := (List.mem_filter.1 hy).2
    simp at h1 h2
    exact .inr ⟨by omega, hlt⟩
  · have h : (List.range (M + 1)).Pairwise (· < ·) := List.pairwise_lt_range
    refine h.imp ?_
    intro z z' hlt x hx y hy
    exact .inl (by rw [(lay_mem.1 hx).2, (lay_mem.1 hy).2]; exact hlt)
theorem popN_le (x : Nat) : popN x ≤ 10 := by unfold popN; exact Nat.le_trans (List.length_filter_le _ _) (by simp)
theorem pop_small : ∀ M : Nat, M ≤ 10 → ∀ x : Nat, x < 2 ^ M → popN x ≤ M := by
  intro M hM x hx
  unfold popN
  have hb : ∀ i, M ≤ i → x.testBit i = false := fun i hi => Nat.testBit_lt_two_pow (Nat.lt_of_lt_of_le hx (Nat.pow_le_pow_right (by omega) hi))
  have : (List.range 10).filter (fun i => x.testBit i) = (List.range M).filter (fun i => x.testBit i) := by
    have : List.range 10 = List.range M ++ (List.range (10 - M)).map (M + ·) := by rw [← List.range_add]; congr 1; omega
    rw [this, List.filter_append]
    have : ((List.range (10 - M)).map (M + ·)).filter (fun i => x.testBit i) = [] := List.filter_eq_nil_iff.2 fun i hi => by
      obtain ⟨j, _, rfl⟩ := List.mem_map.1 hi
      rw [hb _ (by omega)]; simp
    rw [this, List.append_nil]
  rw [this]
  exact Nat.le_trans (List.length_filter_le _ _) (by simp)
theorem sets_mem {M : Nat} (hM : M ≤ 10) {x : Nat} (hx : x < 2 ^ M) : x ∈ setsL M := by
  unfold setsL
  have := pop_small M hM x hx
  exact List.mem_flatMap.2 ⟨popN x, List.mem_range.2 (by omega), lay_mem.2 ⟨hx, rfl⟩⟩
theorem sets_first {M : Nat} (hM : M ≤ 10) {p : Nat → Bool} {w x : Nat} (h : (setsL M).find? p = some w) (hx : x < 2 ^ M) (hp : p x = true) : ¬ setLt x w := by
  obtain ⟨h1, l1, l2, h2, h3⟩ := List.find?_eq_some_iff_append.1 h
  have hs := sets_sorted M
  have hm := sets_mem hM hx
  rw [h2] at hs hm
  rcases List.mem_append.1 hm with hm | hm
  · have := h3 x hm; rw [hp] at this; cases this
  · rcases List.mem_cons.1 hm with rfl | hm
    · rintro (h | ⟨_, h⟩) <;> omega
    · have := (List.pairwise_append.1 hs).2.1
      have := List.rel_of_pairwise_cons this hm
      rintro (h | ⟨h4, h5⟩)
      · rcases this with h6 | ⟨h6, h7⟩ <;> omega
      · rcases this with h6 | ⟨h6, h7⟩ <;> omega
/-! ### Size, all -/
def popA : Nat → Nat → Nat
  | 0, _ => 0
  | f + 1, n => n % 2 + popA f (n / 2)
theorem popA_pop : ∀ n : Nat, n < 1024 → popA 10 n = popN n := by
  have h : ((List.range 1024).all fun n => decide (popA 10 n = popN n)) = true := by decide +kernel
  intro n hn
  exact of_decide_eq_true (List.all_eq_true.1 h n (by simpa using hn))
theorem shl_all : ∀ M : Nat, M ≤ 5 → IntKind.wrap .i64 (shlv .i64 1 (IntKind.wrap .i64 (2 * (M : Int))) - 1) = ((2 ^ (2 * M) - 1 : Nat) : Int) := by decide +kernel
theorem and_all {x n : Nat} (hx : x < 65536) (hn : n ≤ 10) : andv .i64 (x : Int) ((2 ^ n - 1 : Nat) : Int) = ((x % 2 ^ n : Nat) : Int) := by
  have h1 : 2 ^ n ≤ 2 ^ 10 := Nat.pow_le_pow_right (by omega) hn
  unfold andv
  have e1 : (BitVec.ofInt IntKind.i64.bits (x : Int)).toNat = x := by
    show (BitVec.ofInt 64 (x : Int)).toNat = x
    rw [BitVec.ofInt_natCast, BitVec.toNat_ofNat, Nat.mod_eq_of_lt (by omega)]
  have e2 : (BitVec.ofInt IntKind.i64.bits ((2 ^ n - 1 : Nat) : Int)).toNat = 2 ^ n - 1 := by
    show (BitVec.ofInt 64 ((2 ^ n - 1 : Nat) : Int)).toNat = 2 ^ n - 1
    rw [BitVec.ofInt_natCast, BitVec.toNat_ofNat, Nat.mod_eq_of_lt (by omega)]
  rw [BitVec.toNat_and, e1, e2, Nat.and_two_pow_sub_one_eq_mod]
  have := Nat.mod_lt x (show 2 ^ n > 0 from Nat.pow_pos (by omega))
  exact wrap_i64 (by omega) (by omega)
/-! ### What is proved -/
section
variable {T : Tb} {a b w : Nat}
theorem readV_rows {V : Nat → Nat → Int} (hok : okT T = true) (ha : a < T.n) (hb : b < T.n) (hab : a ≠ b) (hv : ∀ i k, i < T.n → k < T.m → 0 ≤ V i k ∧ V i k ≤ 40) {X : Tb} (hX : X = readG T a b (fun j => bitO w j (V a j)) (fun j => bitO w (T.m + j) (V b j)) T.m) :
    lowR X a = rowG (fun k => if w.testBit k then V a k else loP T a k) T.m (offT T a) ∧ topR X b = rowG (fun k => if w.testBit (T.m + k) then V b k else hiP T b k) T.m (offT T b) := by
  obtain ⟨h1, h2, h3⟩ := readG_same T a b (fun j => bitO w j (V a j)) (fun j => bitO w (T.m + j) (V b j)) T.m
  rw [← hX] at h1 h2 h3
  have key := readG_lo (f := fun j => bitO w j (V a j)) (g := fun j => bitO w (T.m + j) (V b j)) hok ha hb (fun j n hj h => by rw [bitO_some h]; exact hv a j ha hj) (fun j n hj h => by rw [bitO_some h]; exact hv b j hb hj) hab T.m (Nat.le_refl _)
  rw [← hX] at key
  rw [lowR_loP, topR_hiP, same_m h2, same_off h3, same_off h3]
  constructor
  · refine rowG_congr fun k hk => ?_
    rw [(key a k).1, if_pos ⟨rfl, hk⟩]
    unfold bitO; split <;> rfl
  · refine rowG_congr fun k hk => ?_
    rw [(key b k).2, if_neg (fun h => hab h.1.symm), if_pos ⟨rfl, hk⟩]
    unfold bitO; split <;> rfl
def hl (T : Tb) (a b : Nat) (i k : Nat) : Int := if i = a then hiP T i k else loP T i k
theorem readL_rows (hok : okT T = true) (ha : a < T.n) (hb : b < T.n) (hab : a ≠ b) :
    lowR (readL T a b w T.m) a = rowG (fun k => if w.testBit k then hiP T a k else loP T a k) T.m (offT T a) ∧ topR (readL T a b w T.m) b = rowG (fun k => if w.testBit (T.m + k) then loP T b k else hiP T b k) T.m (offT T b) := by
  have hb' : ¬ b = a := fun h => hab h.symm
  have := readV_rows (w := w) (V := hl T a b) hok ha hb hab (fun i k _ _ => by have := lo_hi hok i k; unfold hl; split <;> omega) (X := readL T a b w T.m) (by unfold readL hl; simp [hb'])
  simpa [hl, hb'] using this
theorem proves_rows (hab : a ≠ b) : provesB T a b w = aheadL (rowG (fun k => if w.testBit k then hiP T a k else loP T a k) T.m (offT T a)) (rowG (fun k => if w.testBit (T.m + k) then loP T b k else hiP T b k) T.m (offT T b)) := by
  unfold provesB befP
  rw [decide_eq_true hab, Bool.true_and]
  congr 1
  · show rowG (fun k => (bet (pts (prs T)) T.m a b w ((a : Int), (k : Int))).1) T.m (offT T a) = _
    refine rowG_congr fun k hk => ?_
    unfold bet
    simp only [Int.toNat_natCast, true_and]
    cases w.testBit k
    · by_cases e : (a : Int) = (b : Int) ∧ w.testBit (T.m + k) = true
      · exact absurd (by omega : a = b) hab
      · simp only [Bool.false_eq_true, if_false, if_neg e]; rfl
    · rfl
  · show rowG (fun k => (bet (pts (prs T)) T.m a b w ((b : Int), (k : Int))).2) T.m (offT T b) = _
    refine rowG_congr fun k hk => ?_
    unfold bet
    have hb' : ¬ (b : Int) = (a : Int) := fun h => hab (by omega)
    simp only [Int.toNat_natCast, hb', false_and, if_false, true_and]
    cases w.testBit (T.m + k) <;> rfl
theorem proves_sur (hok : okT T = true) (ha : a < T.n) (hb : b < T.n) (hab : a ≠ b) : surT (readL T a b w T.m) a b = provesB T a b w := by
  obtain ⟨h1, h2⟩ := readL_rows (w := w) hok ha hb hab
  rw [surT_eq, h1, h2, proves_rows hab, decide_eq_true hab, Bool.true_and]
theorem proves_self : provesB T a a w = false := by unfold provesB befP; simp
theorem proves_can (hok : okT T = true) (h : provesB T a b w = true) : canT T a b = true := by
  by_cases hab : a = b
  · subst hab; rw [proves_self] at h; cases h
  rw [proves_rows hab] at h
  refine canT_iff.2 ⟨hab, ?_⟩
  rw [topR_hiP, lowR_loP]
  refine le_gt (by rw [rowG_len, rowG_len]) (rowG_le (fun k _ => ?_) (Int.le_refl _)) (gt_le (by rw [rowG_len, rowG_len]) h (rowG_le (fun k _ => ?_) (Int.le_refl _)))
  · have := lo_hi hok a k
    show (if w.testBit k then hiP T a k else loP T a k) ≤ _
    split <;> omega
  · have := lo_hi hok b k
    show _ ≤ (if w.testBit (T.m + k) then loP T b k else hiP T b k)
    split <;> omega
theorem proves_all (hok : okT T = true) (h : canT T a b = true) : provesB T a b (2 ^ (2 * T.m) - 1) = true := by
  obtain ⟨hab, h2⟩ := canT_iff.1 h
  have hb : ∀ k, k < 2 * T.m → (2 ^ (2 * T.m) - 1).testBit k = true := fun k hk => by rw [Nat.testBit_two_pow_sub_one]; exact decide_eq_true hk
  rw [proves_rows hab]
  refine Eq.trans ?_ h2
  rw [topR_hiP, lowR_loP]
  congr 1
  · exact rowG_congr fun k hk => by rw [hb k (by omega), if_pos rfl]
  · exact rowG_congr fun k hk => by rw [hb (T.m + k) (by omega), if_pos rfl]
theorem proves_none (T : Tb) (a b : Nat) : provesB T a b 0 = surT T a b := by
  by_cases hab : a = b
  · subst hab; rw [proves_self, surT_self]
  rw [proves_rows hab, surT_eq, decide_eq_true hab, Bool.true_and, lowR_loP, topR_hiP]
  congr 1
  · exact rowG_congr fun k _ => by simp
  · exact rowG_congr fun k _ => by simp
/-- With any numbers none of fewer prove it. -/
theorem any_numbers {V : Nat → Nat → Int} (hok : okT T = true) (ha : a < T.n) (hb : b < T.n) (hv : ∀ i k, i < T.n → k < T.m → loP T i k ≤ V i k ∧ V i k ≤ hiP T i k) {X : Tb} (hX : X = readG T a b (fun j => bitO w j (V a j)) (fun j => bitO w (T.m + j) (V b j)) T.m) (h : surT X a b = true) : provesB T a b w = true := by
  by_cases hab : a = b
  · subst hab; rw [surT_self] at h; cases h
  obtain ⟨h1, h2⟩ := readV_rows hok ha hb hab (fun i k hi hk => by have := hv i k hi hk; have := lo_hi hok i k; omega) hX
  rw [surT_eq, h1, h2, decide_eq_true hab, Bool.true_and] at h
  rw [proves_rows hab]
  refine le_gt (by rw [rowG_len, rowG_len]) (rowG_le (fun k hk => ?_) (Int.le_refl _)) (gt_le (by rw [rowG_len, rowG_len]) h (rowG_le (fun k hk => ?_) (Int.le_refl _)))
  · have := hv a k ha hk
    show (if w.testBit k then V a k else loP T a k) ≤ (if w.testBit k then hiP T a k else loP T a k)
    split <;> omega
  · have := hv b k hb hk
    show (if w.testBit (T.m + k) then loP T b k else hiP T b k) ≤ (if w.testBit (T.m + k) then V b k else hiP T b k)
    split <;> omega
theorem could_some (hok : okT T = true) (hc : canT T a b = true) : ∃ w, couldN T a b = some w ∧ w < 2 ^ (2 * T.m) ∧ provesB T a b w = true ∧ (∀ x, x < 2 ^ (2 * T.m) → provesB T a b x = true → ¬ setLt x w) ∧ (w = 0 ↔ surT T a b = true) := by
  obtain ⟨_, _, _, m5⟩ := n_lim hok
  have hp : 0 < 2 ^ (2 * T.m) := Nat.pow_pos (by omega)
  cases h : couldN T a b with
  | none =>
    have := List.find?_eq_none.1 h (2 ^ (2 * T.m) - 1) (sets_mem (by omega) (by omega))
    exact absurd (proves_all hok hc) this
  | some w =>
    have hw : w < 2 ^ (2 * T.m) := by
      have := List.mem_of_find?_eq_some h
      unfold setsL at this
      obtain ⟨z, _, hz⟩ := List.mem_flatMap.1 this
      exact (lay_mem.1 hz).1
    have hpw : provesB T a b w = true := List.find?_some h
    have hfirst := fun x hx hpx => sets_first (M := 2 * T.m) (by omega) (p := provesB T a b) (w := w) (x := x) h hx hpx
    refine ⟨w, rfl, hw, hpw, hfirst, ⟨fun e => ?_, fun hs => ?_⟩⟩
    · subst e; rw [← proves_none]; exact hpw
    · have := hfirst 0 hp (by rw [proves_none]; exact hs)
      rcases Nat.eq_zero_or_pos w with h0 | h0
      · exact h0
      · have hz : popN 0 = 0 := by decide
        exact absurd (show setLt 0 w by unfold setLt; rw [hz]; omega) this
end
section
variable {W : World} {K : VK} {E : List PanicEntry → Hp → Prop} {s : Hp}
theorem f_Size {n : Nat} (hn : n < 1024) (h : K (.int .i64 (popN n : Nat)) s) : CALL Pg W F_ref10_Size [.int .i64 (n : Nat)] K E s := by
  refine does_ref10_Size W n _ s ?_
  unfold T_ref10_Size
  refine L_ref10_Size_0_rule W _ (fun x c t => t = s ∧ ∃ f m k : Nat, f ≤ 10 ∧ m < 2 ^ f ∧ x = m ∧ c = k ∧ k ≤ 10 - f ∧ k + popA f m = popN n) (fun x _ _ => x.toNat) n 0 s ⟨rfl, 10, n, 0, by omega, by omega, rfl, rfl, by omega, by rw [popA_pop n hn]; omega⟩ ?_
  rintro n2 n3 t ⟨rfl, f, m, k, hf, hm, rfl, rfl, hk, he⟩
  have hm2 : m < 1024 := Nat.lt_of_lt_of_le hm (show 2 ^ f ≤ 2 ^ 10 from Nat.pow_le_pow_right (by omega) hf)
  unfold B_ref10_Size_0
  refine BR_dec (fun h1 => ?_) (fun h1 => ?_)
  · have hmp : 0 < m := by omega
    cases f with
    | zero => simp at hm; omega
    | succ f =>
      have hd : IntKind.wrap .i64 (Int.tdiv (m : Int) 2) = ((m / 2 : Nat) : Int) := by
        have : Int.tdiv (m : Int) 2 = ((m / 2 : Nat) : Int) := rfl
        rw [this, wrap_i64 (by omega) (by omega)]
      have hr : Int.tmod (m : Int) 2 = ((m % 2 : Nat) : Int) := rfl
      have hml := Nat.mod_lt m (show 2 > 0 by omega)
      unfold popA at he
      refine ⟨rfl, _, _, rfl, ⟨rfl, f, m / 2, k + m % 2, by omega, by rw [Nat.pow_succ] at hm; omega, hd, ?_, by omega, by omega⟩, ?_⟩
      · rw [hr, wrap_i64 (by omega) (by omega)]; rfl
      · show (IntKind.wrap .i64 (Int.tdiv (m : Int) 2)).toNat < (m : Int).toNat
        rw [hd]; omega
  · have hm0 : m = 0 := by omega
    subst hm0
    have hz : popA f 0 = 0 := by
      clear he hm hm2
      induction f with
      | zero => rfl
      | succ f ih => unfold popA; simp [ih (by omega) (by omega)]
    rw [hz, Nat.add_zero] at he
    rw [he]; exact h
end
end Go.Proofs.Ytkgcbfbbcaajpaa.G

/- Rank, in plain Lean: whatever scores truly are. -/
set_option linter.unusedSimpArgs false
set_option linter.unusedVariables false
set_option maxRecDepth 20000
namespace Go.Proofs.Ytkgcbfbbcaajpaa.G
open Go.V
section
variable {T : Tb} {v : Nat → Nat → Int} {a b : Nat}
/-- What somebody has. -/
def rowV' (T : Tb) (v : Nat → Nat → Int) (a : Nat) : List Int := rowG (v a) T.m (offT T a)
theorem ordP_eq : ordP T v a b = if aheadL (rowV' T v a) (rowV' T v b) then 1 else if aheadL (rowV' T v b) (rowV' T v a) then -1 else 0 := rfl
theorem ordP_lim : ordP T v a b = 1 ∨ ordP T v a b = -1 ∨ ordP T v a b = 0 := by
  rw [ordP_eq]; split
  · simp
  · split <;> simp
theorem ord_one : ordP T v a b = 1 ↔ aheadL (rowV' T v a) (rowV' T v b) = true := by
  rw [ordP_eq]; constructor
  · intro h; split at h
    · assumption
    · split at h <;> omega
  · intro h; rw [if_pos h]
theorem ord_neg : ordP T v a b < 0 ↔ aheadL (rowV' T v b) (rowV' T v a) = true := by
  rw [ordP_eq]; constructor
  · intro h; split at h
    · omega
    · split at h
      · assumption
      · omega
  · intro h; rw [if_neg (by rw [gt_asym h]; simp), if_pos h]; omega
theorem ord_zero : ordP T v a b = 0 ↔ rowV' T v a = rowV' T v b := by
  constructor
  · intro h
    refine ahead_tri _ _ (by unfold rowV'; rw [rowG_len, rowG_len]) ?_ ?_
    · cases h2 : aheadL (rowV' T v a) (rowV' T v b) with
      | false => rfl
      | true => rw [ord_one.2 h2] at h; omega
    · cases h2 : aheadL (rowV' T v b) (rowV' T v a) with
      | false => rfl
      | true => have := (ord_neg (T := T) (v := v) (a := a)).2 h2; omega
  · intro h; rw [ordP_eq, h, ahead_same, if_neg (by simp), if_neg (by simp)]
theorem fill_sur (ha : a < T.n) (hb : b < T.n) : surT (fillT T v) a b = aheadL (rowV' T v a) (rowV' T v b) := by
  rw [surT_eq, fill_low ha, fill_top hb]
  by_cases e : a = b
  · subst e; rw [show aheadL (rowV' T v a) (rowV' T v a) = false from ahead_same _]; simp
  · rw [decide_eq_true e, Bool.true_and]; rfl
theorem fill_can (ha : a < T.n) (hb : b < T.n) : canT (fillT T v) a b = aheadL (rowV' T v a) (rowV' T v b) := by
  rw [canT_eq, fill_low hb, fill_top ha]
  by_cases e : a = b
  · subst e; rw [show aheadL (rowV' T v a) (rowV' T v a) = false from ahead_same _]; simp
  · rw [decide_eq_true e, Bool.true_and]; rfl
theorem fill_bef (ha : a < T.n) (hb : b < T.n) : befN (fillT T v) a b = if ordP T v a b = 1 then 2 else 0 := by
  rw [befN_eq, fill_sur ha hb, fill_can ha hb]
  cases h : aheadL (rowV' T v a) (rowV' T v b) with
  | true => rw [if_pos rfl, if_pos (ord_one.2 h)]
  | false => rw [if_neg (by simp), if_neg (by simp), if_neg fun hh => by rw [ord_one.1 hh] at h; cases h]
theorem fill_eq (ha : a < T.n) (hb : b < T.n) : eqP (fillT T v) a b = decide (ordP T v a b = 0) := by
  have hp : ∀ i k, i < T.n → k < T.m → loP (fillT T v) i k = v i k ∧ hiP (fillT T v) i k = v i k := fun i k hi hk => by
    unfold loP hiP; rw [fillT_pts hi hk]; exact ⟨rfl, rfl⟩
  have : eqP (fillT T v) a b = true ↔ ordP T v a b = 0 := by
    rw [eqP_iff, ord_zero]
    constructor
    · rintro ⟨h1, h2⟩
      have h3 : offT T a = offT T b := h2
      unfold rowV'
      rw [h3]
      refine rowG_congr fun k hk => ?_
      have h4 := h1 k hk
      rw [(hp a k ha hk).1, (hp a k ha hk).2, (hp b k hb hk).1, (hp b k hb hk).2] at h4
      omega
    · intro h
      obtain ⟨h1, h2⟩ := rowG_inj h
      refine ⟨fun k hk => ?_, h1⟩
      rw [(hp a k ha hk).1, (hp a k ha hk).2, (hp b k hb hk).1, (hp b k hb hk).2, h2 k hk]
      omega
  cases h : eqP (fillT T v) a b with
  | true => exact (decide_eq_true (this.1 h)).symm
  | false => exact (decide_eq_false fun hh => by rw [this.2 hh] at h; cases h).symm
/-- The true place. -/
def plcV (T : Tb) (v : Nat → Nat → Int) (a : Nat) : Int := 1 + ((cntB (fun o => aheadL (rowV' T v o) (rowV' T v a)) T.n : Nat) : Int)
theorem fill_plc (ha : a < T.n) : plcT (fillT T v) a = (plcV T v a, plcV T v a) := by
  rw [plcT_eq]
  have e1 : cntB (fun o => surT (fillT T v) o a) (fillT T v).n = cntB (fun o => aheadL (rowV' T v o) (rowV' T v a)) T.n := cntB_ext fun o ho => fill_sur ho ha
  have e2 : cntB (fun o => canT (fillT T v) o a) (fillT T v).n = cntB (fun o => aheadL (rowV' T v o) (rowV' T v a)) T.n := cntB_ext fun o ho => fill_can ho ha
  rw [e1, e2]; rfl
theorem setOf_congr {f g : Nat → Bool} : ∀ n, (∀ i, i < n → f i = g i) → setOf' f n = setOf' g n := fun n h => by
  apply Nat.eq_of_testBit_eq
  intro i
  rw [setOf_bit, setOf_bit]
  by_cases hi : i < n
  · rw [h i hi]
  · simp [hi]
theorem fill_win : setOf' (surF (fillT T v)) T.n = setOf' (canF (fillT T v)) T.n := setOf_congr _ fun i hi => by
  show decide ((plcT (fillT T v) i).2 = 1) = decide ((plcT (fillT T v) i).1 = 1)
  rw [fill_plc hi]
theorem fill_first (ha : a < T.n) : surF (fillT T v) a = (plcV T v a == 1) := by
  show decide ((plcT (fillT T v) a).2 = 1) = _
  rw [fill_plc ha, Bool.beq_eq_decide_eq]
section
variable (hv : ∀ i k, i < T.n → k < T.m → loP T i k ≤ v i k ∧ v i k ≤ hiP T i k)
include hv
theorem low_row (ha : a < T.n) : aheadL (lowR T a) (rowV' T v a) = false := rowG_le (fun k hk => (hv a k ha hk).1) (Int.le_refl _)
theorem row_top (ha : a < T.n) : aheadL (rowV' T v a) (topR T a) = false := rowG_le (fun k hk => (hv a k ha hk).2) (Int.le_refl _)
theorem sur_ord (ha : a < T.n) (hb : b < T.n) (h : surT T a b = true) : ordP T v a b = 1 := by
  have h1 := (surT_iff.1 h).2
  exact ord_one.2 (le_gt (by unfold rowV'; rw [rowG_len, lowR_len]) (low_row hv ha) (gt_le (by unfold rowV'; rw [rowG_len, topR_len]) h1 (row_top hv hb)))
theorem ord_can (ha : a < T.n) (hb : b < T.n) (h : ordP T v a b = 1) : canT T a b = true := by
  have h1 := ord_one.1 h
  refine canT_iff.2 ⟨fun e => ?_, le_gt (by unfold rowV'; rw [rowG_len, topR_len]) (row_top hv ha) (gt_le (by unfold rowV'; rw [rowG_len, lowR_len]) h1 (low_row hv hb))⟩
  subst e
  rw [ahead_same] at h1; cases h1
theorem ord_eq (ha : a < T.n) (hb : b < T.n) (h : ordP T v a b = 0) : eqP T a b = true := by
  obtain ⟨h1, h2⟩ := rowG_inj (ord_zero.1 h)
  refine eqP_iff.2 ⟨fun k hk => ?_, h1⟩
  have := hv a k ha hk
  have := hv b k hb hk
  have := h2 k hk
  omega
theorem plcV_in (ha : a < T.n) : (plcT T a).1 ≤ plcV T v a ∧ plcV T v a ≤ (plcT T a).2 := by
  rw [plcT_eq]
  have h1 := cntB_mono (f := fun o => surT T o a) (g := fun o => aheadL (rowV' T v o) (rowV' T v a)) T.n fun o ho h => ord_one.1 (sur_ord hv ho ha h)
  have h2 := cntB_mono (f := fun o => aheadL (rowV' T v o) (rowV' T v a)) (g := fun o => canT T o a) T.n fun o ho h => ord_can hv ho ha (ord_one.2 h)
  unfold plcV
  constructor
  · show (1 : Int) + _ ≤ 1 + _; omega
  · show (1 : Int) + _ ≤ 1 + _; omega
theorem sumV_in (ha : a < T.n) : (sumT T a).1 ≤ sumK (v a) T.m - offT T a ∧ sumK (v a) T.m - offT T a ≤ (sumT T a).2 := by
  have key : ∀ f g : Nat → Int, (∀ k, k < T.m → f k ≤ g k) → sumK f T.m ≤ sumK g T.m := fun f g h => by
    refine sum_le _ _ (by simp) fun j => ?_
    by_cases hj : j < T.m
    · simp [List.getD, hj, h j hj]
    · simp [List.getD, hj]
  have h1 := key (loP T a) (v a) fun k hk => (hv a k ha hk).1
  have h2 := key (v a) (hiP T a) fun k hk => (hv a k ha hk).2
  have e1 : (sumT T a).1 = sumK (loP T a) T.m - offT T a := rfl
  have e2 : (sumT T a).2 = sumK (hiP T a) T.m - offT T a := rfl
  rw [e1, e2]; omega
end
theorem plcV_lim (ha : a < T.n) : 1 ≤ plcV T v a ∧ plcV T v a ≤ T.n := by
  have := cntB_lt (f := fun o => aheadL (rowV' T v o) (rowV' T v a)) (g := fun _ => true) (ahead_same (rowV' T v a)) rfl T.n ha fun _ _ _ => rfl
  have h2 := cntB_le (fun _ => true) T.n
  unfold plcV
  omega
end
end Go.Proofs.Ytkgcbfbbcaajpaa.G

/- Rank: filled. -/
set_option linter.unusedSimpArgs false
set_option linter.unusedVariables false
set_option maxRecDepth 20000
namespace Go.Proofs.Ytkgcbfbbcaajpaa.G
open Go.V
def fillV0 (T : Tb) (bs : List Nat) (i k : Nat) (j : Nat) (k' : Nat) : Int := if j < i then fillV T bs j k' else if j = i ∧ k' < k then fillV T bs j k' else 0
section
variable {W : World} {K : VK} {E : List PanicEntry → Hp → Prop} {s : Hp} {T : Tb}
theorem f_filled {x y z : Option Addr} {c c' cz : Nat} {bs : List Nat} (hok : okT T = true) (hx : RowAt s x (ints T.off)) (hy : ScAt s y T.sc) (hz : RowAt s z (bytes bs)) (hbs : ∀ b ∈ bs, b < 256)
    (h : ∀ s' x c y c' p cp, Ext s s' → RowAt s' x (ints T.off) → ScAt s' y (fillT T (fillV T bs)).sc → PtA s' p T.n T.m (fillV T bs) → K (.tuple #[.agg #[.int .i64 T.men, .int .i64 T.sheets, .slice x T.off.length c, .slice y (fillT T (fillV T bs)).sc.length c'], .slice p T.n cp]) s') :
    CALL Pg W F_law10_filled [.agg #[.int .i64 T.men, .int .i64 T.sheets, .slice x T.off.length c, .slice y T.sc.length c'], .slice z bs.length cz] K E s := by
  have hn := men_n hok
  have hm := sheets_m hok
  obtain ⟨_, n6, _, m5⟩ := n_lim hok
  obtain ⟨_, _, _, _, h30, _⟩ := okT_iff.1 hok
  refine does_law10_filled W T.men T.sheets x T.off.length c y T.sc.length c' z bs.length cz _ s ?_
  unfold T_law10_filled
  refine NEW_rule fun s1 e1 z1 n1 _ => ?_
  have ta := tbA_new e1 hx hy n1
  -- the result
  refine nz4 zc_25 fun s2 e2 z2 r0 r1 r2 r3 => ?_
  obtain ⟨x0, c0, y, c', g1, g2, g3, g4, hx1, hy1⟩ := ta.all
  refine ⟨_, e2.cell g1, _, e2.cell g2, _, _, _, e2.cell g3, _, _, _, e2.cell g4, ?_⟩
  generalize hB : s1.size = B at *
  refine wr4 rfl rfl rfl rfl (a := ⟨B, 0, none⟩) (fun j hj => ?_) fun s3 k3 z3 o0 o1 o2 o3 => ?_
  · match j, hj with
    | 0, _ => exact ⟨_, r0⟩
    | 1, _ => exact ⟨_, r1⟩
    | 2, _ => exact ⟨_, r2⟩
    | 3, _ => exact ⟨_, r3⟩
  refine WR_own (a := ⟨B, 3, none⟩) o3 rfl ?_
  generalize hs4 : setC s3 ⟨B, 3, none⟩ (.slice none 0 0) = s4
  have e14 : Ext s1 s4 := by rw [← hs4]; exact (ext_kp e2 (Nat.le_of_eq hB) k3).setC (Nat.le_of_eq hB)
  have tb : TbB s1 s4 B T [] [] noD (x0, c0) := by
    rw [← hs4]
    refine ⟨by rw [hs4]; exact e14, by omega, own_set_ne (.inr (by show (0 : Nat) ≠ 3; decide)) o0, own_set_ne (.inr (by show (1 : Nat) ≠ 3; decide)) o1, ⟨own_set_ne (.inr (by show (2 : Nat) ≠ 3; decide)) o2, hx1⟩, ⟨none, 0, own_set o3, Fr.nil _ _ _, (fun a ha => by cases ha), (fun p hp => by cases hp), fun q hq => hq.elim⟩⟩
  refine ⟨_, (ta.ext e14).men, ?_⟩
  have hz1 := hz.ext e1
  let I : Hp → Nat → Nat → Option Addr → Nat → Nat → Prop := fun u i k xx ll cc => ∃ blk, TbB s1 u B T (fillL (fillV T bs) i T.m ++ fillR (fillV T bs) i k) [] (PtD xx ll blk) (x0, c0) ∧ PtB s1.size u xx ll cc T.m blk (fillV0 T bs i k)
  refine L_law10_filled_0_rule W _ z bs.length cz ⟨s.size, 0, none⟩ ⟨B, 0, none⟩ T.men (fun xx ll cc n26 n27 u => ∃ i : Nat, i ≤ T.n ∧ n27 = i ∧ n26 = (i * T.m : Nat) ∧ ll = i ∧ I u i 0 xx ll cc) (fun _ _ _ _ n27 _ => (T.n - n27).toNat) none 0 0 0 0 s4
    ⟨0, by omega, rfl, by simp, rfl, fun _ => 0, ?_, ⟨Fr.nil _ _ _, (fun a ha => by cases ha), fun i hi => by omega⟩⟩ ?_
  · exact tb.step (D := noD) (Kp.refl _) fun q hq => by
      rcases hq with ⟨a, ha, _⟩ | ⟨i, hi, _⟩
      · cases ha
      · omega
  rintro xx ll cc n26 n27 u ⟨i, hi, rfl, rfl, rfl, blk0, tbu, ptu⟩
  rw [show fillR (fillV T bs) ll 0 = [] from rfl, List.append_nil] at tbu
  unfold B_law10_filled_0
  refine BR_dec (fun h1 => ?_) (fun h1 => ?_)
  · have hin : ll < T.n := by omega
    have hmul : ll * T.m ≤ 30 := Nat.mul_le_mul (show ll ≤ 6 by omega) m5
    refine ⟨_, (ta.ext tbu.ext).sheets, ?_⟩
    rw [← hm]
    refine MKS_rule zc_3 (by omega) fun u1 f1 y1 hz0 => ?_
    rw [Int.toNat_natCast]
    refine ne1 fun u2 f2 y2 oC => ?_
    have f12 := f1.trans f2
    generalize hb : u.size = b at *
    -- the blocks, with the new one
    let blk : Nat → Nat := fun j => if j = ll then b else blk0 j
    have hbk : ∀ j, j < ll → blk0 j = blk j := fun j hj => by show blk0 j = if j = ll then b else blk0 j; rw [if_neg (by omega)]
    have hbl : blk ll = b := by show (if ll = ll then b else blk0 ll) = b; rw [if_pos rfl]
    have pt2 := (ptu.ext f12).congr hbk (v' := fillV0 T bs ll 0) (fun _ _ _ _ => rfl)
    have tb2 : TbB s1 u2 B T (fillL (fillV T bs) ll T.m) [] (PtD xx ll blk) (x0, c0) := tbu.step f12.kp fun q hq => by
      have hq' := PtD.congr (fun i hi => (hbk i hi).symm) hq
      exact ⟨Nat.lt_of_lt_of_le (ptu.dlt hq').1 f12.1, .inl hq'⟩
    have hlt : s1.size ≤ b := by have := tbu.ext.1; omega
    refine pt2.add (b := b) (C := u1.size) tb2.ext.1 (fun k hk => ?_) hbl hlt (fun hd => ?_) (by have := f2.1; omega) (fun k hk => f2.own (hz0 k hk)) oC.cell (by omega) fun u3 x3 c3 k3' hD3 pt3 => ?_
    · unfold fillV0; rw [if_neg (by omega), if_neg (by omega)]
    · have := (ptu.dlt (PtD.congr (fun i hi => (hbk i hi).symm) hd)).1; omega
    have tb3 : TbB s1 u3 B T (fillL (fillV T bs) ll T.m) [] (PtD x3 (ll + 1) blk) (x0, c0) := by
      have tb2b : TbB s1 u2 B T (fillL (fillV T bs) ll T.m) [] (fun q => PtD xx ll blk q ∨ q = b) (x0, c0) := tbu.step f12.kp fun q hq => by
        rcases hq with hq | hq
        · have hq' := PtD.congr (fun i hi => (hbk i hi).symm) hq
          exact ⟨Nat.lt_of_lt_of_le (ptu.dlt hq').1 f12.1, .inl hq'⟩
        · have := f12.1; have := f2.1; exact ⟨by omega, .inr (by omega)⟩
      refine tb2b.step (k3'.mono fun q hq => .inl hq) fun q hq => ⟨(pt3.dlt hq).1, ?_⟩
      rcases hD3 q hq with h | h | h
      · exact .inl (.inl h)
      · exact .inl (.inr h)
      · exact .inr h
    refine ⟨_, (ta.ext tb3.ext).sheets, ?_⟩
    generalize hnx0 : (fun vs => N_law10_filled_0 (fun xx ll cc n26 n27 u => ∃ i : Nat, i ≤ T.n ∧ n27 = i ∧ n26 = (i * T.m : Nat) ∧ ll = i ∧ I u i 0 xx ll cc) (fun _ _ _ _ n27 _ => (T.n - n27).toNat) xx ll cc ((ll * T.m : Nat) : Int) ll u vs) = nx0
    refine L_law10_filled_1_rule W _ nx0 z bs.length cz ⟨s.size, 0, none⟩ ⟨B, 0, none⟩ x3 (ll + 1) c3 ll T.men T.sheets (fun n51 n52 w => ∃ k : Nat, k ≤ T.m ∧ n52 = k ∧ n51 = (ll * T.m + k : Nat) ∧ I w ll k x3 (ll + 1) c3) (fun _ n52 _ => (T.m - n52).toNat) _ 0 u3
      ⟨0, by omega, rfl, rfl, blk, by rw [show fillR (fillV T bs) ll 0 = [] from rfl, List.append_nil]; exact tb3, pt3⟩ ?_
    rintro n51 n52 w ⟨k, hk, rfl, rfl, blk', tbw, ptw⟩
    unfold B_law10_filled_1
    refine BR_dec (fun h2 => ?_) (fun h2 => ?_)
    · have hkm : k < T.m := by omega
      refine rdT (ta.ext tbw.ext) fun x c y c' hx hy => ?_
      refine f_Points hx hy (by omega) fun w1 q1 => ?_
      unfold spanV
      try simp only [TUP_mk, AGG_mk, HD_mk, NL_mk, TYI_mk, TYB_mk, TYP_mk, TYL_mk, TYS_mk, TYM_mk, SO_mk, NX_mk, endK_mk, endK_mk', add_0]
      refine nw2 zc_29 rfl rfl fun w2 q2 y2 p0 p1 => ?_
      have q12 := q1.trans q2
      have tbw2 := tbw.after q12
      have ptw2 := ptw.ext q12
      have j0 : ∀ n, n = fillV T bs ll k → J_law10_filled_0 W (endK K E) x3 (ll + 1) ll k n ⟨B, 0, none⟩ z bs.length cz ⟨s.size, 0, none⟩ c3 T.men T.sheets (fun vs => N_law10_filled_1 (fun n51 n52 w => ∃ k : Nat, k ≤ T.m ∧ n52 = k ∧ n51 = (ll * T.m + k : Nat) ∧ I w ll k x3 (ll + 1) c3) (fun _ n52 _ => (T.m - n52).toNat) ((ll * T.m + k : Nat) : Int) k w vs) ((ll * T.m + k : Nat) : Int) w2 := by
        rintro n rfl
        unfold J_law10_filled_0
        refine ptw2.set (by omega) hkm fun w3 k4 y4 pt4 => ?_
        have tb4 : TbB s1 w3 B T (fillL (fillV T bs) ll T.m ++ fillR (fillV T bs) ll k) [] (PtD x3 (ll + 1) blk') (x0, c0) := tbw2.step k4 fun q hq => ⟨(pt4.dlt hq).1, .inl hq⟩
        obtain ⟨yy, cy, g1, _⟩ := tb4.sc
        refine ⟨_, _, _, g1.cell, ?_⟩
        refine c_span fun w4 q4 => ?_
        unfold spanV
        try simp only [TUP_mk, AGG_mk, HD_mk, NL_mk, TYI_mk, TYB_mk, TYP_mk, TYL_mk, TYS_mk, TYM_mk, SO_mk, NX_mk, endK_mk, endK_mk', add_0]
        refine ⟨⟨_, _, _, q4.cell g1.cell, rfl⟩, ?_⟩
        refine ne4 fun w5 q5 y5 d0 d1 d2 d3 => ?_
        have g5 := q5.cell (q4.cell g1.cell)
        have q45 := q4.trans q5
        refine ⟨⟨_, _, _, g5, rfl⟩, ?_⟩
        have hll : (fillL (fillV T bs) ll T.m ++ fillR (fillV T bs) ll k).length ≤ 1000 := by rw [List.length_append, fillL_len, fillR_len]; omega
        refine (tb4.after q45).app (q := ⟨(ll : Nat), (k : Nat), fillV T bs ll k, fillV T bs ll k⟩) g5 d0.cell d1.cell d2.cell d3.cell hll fun w6 k6 tb6 => ?_
        have pt6 := (pt4.ext q45).kp k6 fun q hq hh => hh.1 hq
        refine ⟨_, _, rfl, ⟨k + 1, by omega, wrap_succ (by omega), ?_, blk', ?_, ?_⟩, ms_succ hkm (by omega)⟩
        · rw [wrap_succ (by omega)]; rfl
        · rw [fillR_succ, ← List.append_assoc]; exact tb6
        · refine pt6.congr (fun _ _ => rfl) fun i' k' hi' hk' => ?_
          unfold fillV0
          by_cases e1 : i' = ll ∧ k' = k
          · obtain ⟨e1, e2⟩ := e1
            subst e1; subst e2
            rw [if_pos ⟨rfl, rfl⟩, if_neg (by omega), if_pos ⟨rfl, by omega⟩]
          · rw [if_neg e1]
            by_cases e2 : i' < ll
            · rw [if_pos e2, if_pos e2]
            · rw [if_neg e2, if_neg e2]
              by_cases e3 : i' = ll ∧ k' < k
              · rw [if_pos e3, if_pos ⟨e3.1, by omega⟩]
              · rw [if_neg e3, if_neg (fun hh => e3 ⟨hh.1, by have : k' ≠ k := fun hk => e1 ⟨hh.1, hk⟩; omega⟩)]
      have hlh := lo_hi hok ll k
      have hlo' : loP T ll k = (pts (prs T) ((ll : Int), (k : Int))).1 := rfl
      have hhi' : hiP T ll k = (pts (prs T) ((ll : Int), (k : Int))).2 := rfl
      refine ⟨_, p0.cell, ?_⟩
      refine BR_dec (fun h3 => ?_) (fun h3 => ?_)
      · have hpos : 0 < bs.length := by omega
        refine NZI_pos (by omega) ?_
        have hmod : (ll * T.m + k) % bs.length < bs.length := Nat.mod_lt _ hpos
        obtain ⟨ad, had, g⟩ := row_byte (hz1.ext ((tbw2.ext))) hmod
        subst had
        have hbyte : bs.getD ((ll * T.m + k) % bs.length) 0 < 256 := by
          rw [show bs.getD ((ll * T.m + k) % bs.length) 0 = bs[(ll * T.m + k) % bs.length] by simp [List.getD, hmod]]
          exact hbs _ (List.getElem_mem _)
        generalize hbv : bs.getD ((ll * T.m + k) % bs.length) 0 = bv at *
        refine IXS_nat (i := (ll * T.m + k) % bs.length) hmod ⟨_, g, ?_⟩
        have hw : IntKind.wrap .i64 (IntKind.wrap .i64 (bv : Int) + IntKind.wrap .i64 (11 * ((ll * T.m + k : Nat) : Int))) = ((bv + 11 * (ll * T.m + k) : Nat) : Int) := by
          rw [wrap_i64 (n := (bv : Int)) (by omega) (by omega), wrap_i64 (n := 11 * _) (by omega) (by omega), wrap_i64 (by omega) (by omega)]; omega
        dsimp only
        rw [hw]
        have hfv : fillV T bs ll k = if (bv + 11 * (ll * T.m + k)) % 3 = 0 then hiP T ll k else if (bv + 11 * (ll * T.m + k)) % 3 = 1 then loP T ll k + ((((bv + 11 * (ll * T.m + k)) / 3) % (hiP T ll k - loP T ll k + 1).toNat : Nat) : Int) else loP T ll k := by
          unfold fillV; rw [if_neg (by omega), hbv]
        generalize hkv : bv + 11 * (ll * T.m + k) = kv at *
        have hkl : kv ≤ 1000 := by omega
        have ht : Int.tmod ((kv : Nat) : Int) 3 = ((kv % 3 : Nat) : Int) := rfl
        rw [ht]
        refine BR_eq (fun h4 => ?_) (fun h4 => ?_)
        · refine ⟨_, p1.cell, j0 _ ?_⟩
          rw [hfv, if_pos (by omega)]; rfl
        · refine BR_eq (fun h5 => ?_) (fun h5 => ?_)
          · refine ⟨_, p0.cell, _, p1.cell, _, p0.cell, ?_⟩
            have w1' : IntKind.wrap .i64 (IntKind.wrap .i64 (hiP T ll k - loP T ll k) + 1) = (((hiP T ll k - loP T ll k + 1).toNat : Nat) : Int) := by
              rw [wrap_i64 (n := hiP T ll k - loP T ll k) (by omega) (by omega), wrap_i64 (by omega) (by omega)]; omega
            rw [← hlo', ← hhi']
            dsimp only
            rw [w1']
            refine NZI_pos (by omega) (j0 _ ?_)
            have hd : IntKind.wrap .i64 (Int.tdiv ((kv : Nat) : Int) 3) = ((kv / 3 : Nat) : Int) := by
              have : Int.tdiv ((kv : Nat) : Int) 3 = ((kv / 3 : Nat) : Int) := rfl
              rw [this, wrap_i64 (by omega) (by omega)]
            rw [hd, hfv, if_neg (by omega), if_pos (by omega)]
            have : Int.tmod ((kv / 3 : Nat) : Int) (((hiP T ll k - loP T ll k + 1).toNat : Nat) : Int) = ((kv / 3 % (hiP T ll k - loP T ll k + 1).toNat : Nat) : Int) := rfl
            rw [this]
            have hml := Nat.mod_lt (kv / 3) (show (hiP T ll k - loP T ll k + 1).toNat > 0 by omega)
            exact wrap_i64 (by omega) (by omega)
          · refine j0 _ ?_
            rw [hfv, if_neg (by omega), if_neg (by omega)]; rfl
      · refine j0 _ ?_
        unfold fillV
        rw [if_pos (by omega)]; rfl
    · have hkm : k = T.m := by omega
      subst hkm
      refine ⟨rfl, ?_⟩
      rw [← hnx0]
      refine ⟨_, _, _, _, _, rfl, ⟨ll + 1, by omega, wrap_succ (by omega), by rw [Nat.add_mul, Nat.one_mul], rfl, blk', ?_, ?_⟩, ms_succ hin (by omega)⟩
      · rw [show fillR (fillV T bs) (ll + 1) 0 = [] from rfl, List.append_nil, fillL_succ]; exact tbw
      · refine ptw.congr (fun _ _ => rfl) fun i' k' hi' hk' => ?_
        unfold fillV0
        by_cases e2 : i' < ll
        · rw [if_pos e2, if_pos (by omega)]
        · rw [if_neg e2, if_pos (by omega), if_pos (by omega)]
  · have hin : ll = T.n := by omega
    subst hin
    refine tbu.ret_same fun s' y c' k e hy => ?_
    refine h s' x0 c0 y c' xx cc (e1.trans e) (hx1.ext e) hy ?_
    have pt' := ptu.kp k fun q hq hh => by
      obtain ⟨_, _, _, _, _, _, h5⟩ := tbu.sc
      exact (h5 q hq).1 hh
    exact (pt'.congr (fun _ _ => rfl) (v' := fillV T bs) fun i' k' hi' hk' => by unfold fillV0; rw [if_pos hi']).ptA
end
end Go.Proofs.Ytkgcbfbbcaajpaa.G

/- More of the functions' shallow texts, by gen.py. -/
set_option linter.unusedVariables false
set_option maxRecDepth 100000
namespace Go.Proofs.Ytkgcbfbbcaajpaa.G
open Go.V
def an_8 : Nat → Ann := fun b => match b with
  | 0 => { ms := [170], ks := [.i .i64], us := [5, 10, 11, 12, 13, 14, 19, 20, 23, 24, 169, 249], rt := false, ex := [] }
  | _ => {}
abbrev rv_8 : List ResultVar := [.tmp 10]
abbrev rs_8 : List Nat := [249, 10]
def L_law10_RankCould_0 (W : World) (R : Ending → Hp → Prop) (za0 : Addr) (zn1 : Int) (zn2 : Int) (zn3 : Int) (zn4 : Int) (zn5 : Int) (zn6 : Int) (zp7 : Option Addr) (zl8 : Nat) (zl9 : Nat) (za10 : Addr) (zn11 : Int) (n180 : Int) : Hp → Prop :=
  LOOPN [.i .i64] (fun ys next s => ∀ j : Tm, vc Pg W 249 rs_8 an_8 false (sub (bodyOf Try.f8) [1, 1, 1, 1, 1, 1, 1, 1, 1, 1, 1, 1, 1, 0, 1, 0, 0]) 0 (KLoop [170] [5, 10, 11, 12, 13, 14, 19, 20, 23, 24, 169, 249] [(.pointer (some za0)), (.bool false), (.int .i64 zn1), (.int .i64 zn2), (.int .i64 zn3), (.int .i64 zn4), (.int .i64 zn5), (.int .i64 zn6), (.slice zp7 zl8 zl9), (.pointer (some za10)), (.int .i64 zn11), (.tuple #[])] next (KBlk 0 (KS Pg W 249 rs_8 an_8 false (sub (bodyOf Try.f8) [1, 1, 1, 1, 1, 1, 1, 1, 1, 1, 1, 1, 1, 1]) 0 (fin Pg W 249 rv_8 R)))) (known [170] ys (known [5, 10, 11, 12, 13, 14, 19, 20, 23, 24, 169, 249] [(.pointer (some za0)), (.bool false), (.int .i64 zn1), (.int .i64 zn2), (.int .i64 zn3), (.int .i64 zn4), (.int .i64 zn5), (.int .i64 zn6), (.slice zp7 zl8 zl9), (.pointer (some za10)), (.int .i64 zn11), (.tuple #[])] j)) s) [(.int .i64 n180)]
def J_law10_RankCould_0 (W : World) (R : Ending → Hp → Prop) (b110 : Bool) (B15 : Nat) (x12 : Option Addr) (l13 : Nat) (c14 : Nat) (n9 : Int) (n31 : Int) (n10 : Int) (n32 : Int) (n47 : Int) (n50 : Int) (n11 : Int) (n68 : Int) (n106 : Int) : Hp → Prop :=
  BR b110
    (R (.returned (.bool false)))
    (RDI .i64 (Addr.add ⟨B15, 0, none⟩ 0) fun n111 =>
      RDI .i64 (Addr.add ⟨B15, 0, none⟩ 1) fun n112 =>
        RDL (Addr.add ⟨B15, 0, none⟩ 2) fun x113 l114 c115 =>
          RDL (Addr.add ⟨B15, 0, none⟩ 3) fun x116 l117 c118 =>
            CALL Pg W F_law10_filled [(.agg #[(.int .i64 n111), (.int .i64 n112), (.slice x113 l114 c115), (.slice x116 l117 c118)]), (.slice x12 l13 c14)]
              (fun v119 => TUP v119 fun q121 => HD q121 fun v122 r123 => AGG v122 fun q124 => HD q124 fun v125 r126 => TYI .i64 v125 fun n127 =>
                HD r126 fun v128 r129 => TYI .i64 v128 fun n130 =>
                  HD r129 fun v131 r132 => TYL v131 fun x133 l134 c135 =>
                    HD r132 fun v136 r137 => TYL v136 fun x138 l139 c140 =>
                      NL r137 <|
                        HD r123 fun v141 r142 => TYL v141 fun x143 l144 c145 =>
                          NL r142 <|
                            NEWZ Pg 25 fun B146 =>
                              WR (Addr.add ⟨B146, 0, none⟩ 0) (.int .i64 n127) <|
                                WR (Addr.add ⟨B146, 0, none⟩ 1) (.int .i64 n130) <|
                                  WR (Addr.add ⟨B146, 0, none⟩ 2) (.slice x133 l134 c135) <|
                                    WR (Addr.add ⟨B146, 0, none⟩ 3) (.slice x138 l139 c140) <|
                                      RDI .i64 (Addr.add ⟨B15, 0, none⟩ 0) fun n147 =>
                                        RDI .i64 (Addr.add ⟨B15, 0, none⟩ 1) fun n148 =>
                                          RDL (Addr.add ⟨B15, 0, none⟩ 2) fun x149 l150 c151 =>
                                            RDL (Addr.add ⟨B15, 0, none⟩ 3) fun x152 l153 c154 =>
                                              NEWZ Pg 25 fun B155 =>
                                                WR (Addr.add ⟨B155, 0, none⟩ 0) (.int .i64 n147) <|
                                                  WR (Addr.add ⟨B155, 0, none⟩ 1) (.int .i64 n148) <|
                                                    WR (Addr.add ⟨B155, 0, none⟩ 2) (.slice x149 l150 c151) <|
                                                      WR (Addr.add ⟨B155, 0, none⟩ 3) (.slice x152 l153 c154) <|
                                                        RDI .i64 (Addr.add ⟨B15, 0, none⟩ 1) fun n156 =>
                                                          L_law10_RankCould_0 W R ⟨B15, 0, none⟩ (Int.tmod (IntKind.wrap .i64 n9) n31) (Int.tmod (IntKind.wrap .i64 n10) n32) n47 n50 (andv .i64 (IntKind.wrap .i64 n11) (IntKind.wrap .i64 ((shlv .i64 1 (IntKind.wrap .i64 (2 * n68))) - 1))) n106 x143 l144 c145 ⟨B155, 0, none⟩ n156 0)
                (fun e120 => R (.panicked e120)))
def J_law10_RankCould_1 (W : World) (R : Ending → Hp → Prop) (b73 : Bool) (B15 : Nat) (n9 : Int) (n31 : Int) (n10 : Int) (n32 : Int) (n11 : Int) (n68 : Int) (x12 : Option Addr) (l13 : Nat) (c14 : Nat) (n47 : Int) (n50 : Int) : Hp → Prop :=
  BR b73
    (R (.returned (.bool false)))
    (RDI .i64 (Addr.add ⟨B15, 0, none⟩ 0) fun n74 =>
      RDI .i64 (Addr.add ⟨B15, 0, none⟩ 1) fun n75 =>
        RDL (Addr.add ⟨B15, 0, none⟩ 2) fun x76 l77 c78 =>
          RDL (Addr.add ⟨B15, 0, none⟩ 3) fun x79 l80 c81 =>
            CALL Pg W F_law10_read [(.agg #[(.int .i64 n74), (.int .i64 n75), (.slice x76 l77 c78), (.slice x79 l80 c81)]), (.int .i64 (Int.tmod (IntKind.wrap .i64 n9) n31)), (.int .i64 (Int.tmod (IntKind.wrap .i64 n10) n32)), (.int .i64 (andv .i64 (IntKind.wrap .i64 n11) (IntKind.wrap .i64 ((shlv .i64 1 (IntKind.wrap .i64 (2 * n68))) - 1))))]
              (fun v82 => AGG v82 fun q84 => HD q84 fun v85 r86 => TYI .i64 v85 fun n87 =>
                HD r86 fun v88 r89 => TYI .i64 v88 fun n90 =>
                  HD r89 fun v91 r92 => TYL v91 fun x93 l94 c95 =>
                    HD r92 fun v96 r97 => TYL v96 fun x98 l99 c100 =>
                      NL r97 <|
                        CALL Pg W F_rank_Before [(.agg #[(.int .i64 n87), (.int .i64 n90), (.slice x93 l94 c95), (.slice x98 l99 c100)]), (.int .i64 (Int.tmod (IntKind.wrap .i64 n9) n31)), (.int .i64 (Int.tmod (IntKind.wrap .i64 n10) n32))]
                          (fun v101 => TUP v101 fun q103 => HD q103 fun v104 r105 => TYI .i64 v104 fun n106 =>
                            HD r105 fun v107 r108 => TYI .i64 v107 fun n109 =>
                              NL r108 <|
                                BR (n109 != 0)
                                  (J_law10_RankCould_0 W R true B15 x12 l13 c14 n9 n31 n10 n32 n47 n50 n11 n68 n106)
                                  (BR (n106 == 2)
                                    (BR ((Int.tmod (IntKind.wrap .i64 n9) n31) != (Int.tmod (IntKind.wrap .i64 n10) n32))
                                      (BR (n50 != 0)
                                        (J_law10_RankCould_0 W R true B15 x12 l13 c14 n9 n31 n10 n32 n47 n50 n11 n68 n106)
                                        (CALLV Pg W (.func (.func 38) #[] #[]) [(.int .i64 (andv .i64 (IntKind.wrap .i64 n11) (IntKind.wrap .i64 ((shlv .i64 1 (IntKind.wrap .i64 (2 * n68))) - 1))))]
                                          (fun v157 => TYI .i64 v157 fun n159 =>
                                            CALLV Pg W (.func (.func 38) #[] #[]) [(.int .i64 n47)]
                                              (fun v160 => TYI .i64 v160 fun n162 =>
                                                BR (decide (n159 < n162))
                                                  (J_law10_RankCould_0 W R true B15 x12 l13 c14 n9 n31 n10 n32 n47 n50 n11 n68 n106)
                                                  (CALLV Pg W (.func (.func 38) #[] #[]) [(.int .i64 (andv .i64 (IntKind.wrap .i64 n11) (IntKind.wrap .i64 ((shlv .i64 1 (IntKind.wrap .i64 (2 * n68))) - 1))))]
                                                    (fun v163 => TYI .i64 v163 fun n165 =>
                                                      CALLV Pg W (.func (.func 38) #[] #[]) [(.int .i64 n47)]
                                                        (fun v166 => TYI .i64 v166 fun n168 =>
                                                          BR (n165 == n168)
                                                            (J_law10_RankCould_0 W R (decide ((andv .i64 (IntKind.wrap .i64 n11) (IntKind.wrap .i64 ((shlv .i64 1 (IntKind.wrap .i64 (2 * n68))) - 1))) < n47)) B15 x12 l13 c14 n9 n31 n10 n32 n47 n50 n11 n68 n106)
                                                            (J_law10_RankCould_0 W R false B15 x12 l13 c14 n9 n31 n10 n32 n47 n50 n11 n68 n106))
                                                          (fun e167 => R (.panicked e167)))
                                                      (fun e164 => R (.panicked e164))))
                                                (fun e161 => R (.panicked e161)))
                                            (fun e158 => R (.panicked e158))))
                                      (J_law10_RankCould_0 W R false B15 x12 l13 c14 n9 n31 n10 n32 n47 n50 n11 n68 n106))
                                    (J_law10_RankCould_0 W R false B15 x12 l13 c14 n9 n31 n10 n32 n47 n50 n11 n68 n106)))
                            (fun e102 => R (.panicked e102)))
                (fun e83 => R (.panicked e83)))
def J_law10_RankCould_2 (W : World) (R : Ending → Hp → Prop) (b72 : Bool) (B15 : Nat) (n9 : Int) (n31 : Int) (n10 : Int) (n32 : Int) (n11 : Int) (n68 : Int) (x12 : Option Addr) (l13 : Nat) (c14 : Nat) (n47 : Int) (n50 : Int) (n64 : Int) : Hp → Prop :=
  BR b72
    (J_law10_RankCould_1 W R true B15 n9 n31 n10 n32 n11 n68 x12 l13 c14 n47 n50)
    (BR (n50 == 0)
      (J_law10_RankCould_1 W R (!((n47 == 0) == (n64 == 2))) B15 n9 n31 n10 n32 n11 n68 x12 l13 c14 n47 n50)
      (J_law10_RankCould_1 W R false B15 n9 n31 n10 n32 n11 n68 x12 l13 c14 n47 n50))
def J_law10_RankCould_3 (W : World) (R : Ending → Hp → Prop) (b71 : Bool) (B15 : Nat) (n9 : Int) (n31 : Int) (n10 : Int) (n32 : Int) (n11 : Int) (n68 : Int) (x12 : Option Addr) (l13 : Nat) (c14 : Nat) (n47 : Int) (n50 : Int) (n64 : Int) : Hp → Prop :=
  BR b71
    (J_law10_RankCould_2 W R true B15 n9 n31 n10 n32 n11 n68 x12 l13 c14 n47 n50 n64)
    (J_law10_RankCould_2 W R (decide (n47 > (IntKind.wrap .i64 ((shlv .i64 1 (IntKind.wrap .i64 (2 * n68))) - 1)))) B15 n9 n31 n10 n32 n11 n68 x12 l13 c14 n47 n50 n64)
def J_law10_RankCould_4 (W : World) (R : Ending → Hp → Prop) (b70 : Bool) (B15 : Nat) (n9 : Int) (n31 : Int) (n10 : Int) (n32 : Int) (n11 : Int) (n68 : Int) (x12 : Option Addr) (l13 : Nat) (c14 : Nat) (n47 : Int) (n50 : Int) (n64 : Int) : Hp → Prop :=
  BR b70
    (J_law10_RankCould_3 W R true B15 n9 n31 n10 n32 n11 n68 x12 l13 c14 n47 n50 n64)
    (J_law10_RankCould_3 W R (decide (n47 < 0)) B15 n9 n31 n10 n32 n11 n68 x12 l13 c14 n47 n50 n64)
def J_law10_RankCould_5 (W : World) (R : Ending → Hp → Prop) (b69 : Bool) (B15 : Nat) (n9 : Int) (n31 : Int) (n10 : Int) (n32 : Int) (n11 : Int) (n68 : Int) (x12 : Option Addr) (l13 : Nat) (c14 : Nat) (n47 : Int) (n50 : Int) (n64 : Int) : Hp → Prop :=
  BR b69
    (J_law10_RankCould_4 W R true B15 n9 n31 n10 n32 n11 n68 x12 l13 c14 n47 n50 n64)
    (BR (n50 != 0)
      (BR (n50 != 4)
        (J_law10_RankCould_4 W R true B15 n9 n31 n10 n32 n11 n68 x12 l13 c14 n47 n50 n64)
        (J_law10_RankCould_4 W R (n47 != 0) B15 n9 n31 n10 n32 n11 n68 x12 l13 c14 n47 n50 n64))
      (J_law10_RankCould_4 W R false B15 n9 n31 n10 n32 n11 n68 x12 l13 c14 n47 n50 n64))
def J_law10_RankCould_6 (W : World) (R : Ending → Hp → Prop) (b27 : Bool) (B15 : Nat) (n9 : Int) (n10 : Int) (n11 : Int) (x12 : Option Addr) (l13 : Nat) (c14 : Nat) : Hp → Prop :=
  BR b27
    (CALL Pg W F_law10_awake []
      (fun v28 => TYB v28 fun b30 =>
        R (.returned (.bool b30)))
        (fun e29 => R (.panicked e29)))
    (RDI .i64 (Addr.add ⟨B15, 0, none⟩ 0) fun n31 =>
      NZI n31 <|
        RDI .i64 (Addr.add ⟨B15, 0, none⟩ 0) fun n32 =>
          NZI n32 <|
            ANDS (RDI .i64 (Addr.add ⟨B15, 0, none⟩ 0) fun n33 =>
              fun _ => ((.int .i64 n33) : Value) = (.int .i64 n32)) <|
              RDI .i64 (Addr.add ⟨B15, 0, none⟩ 0) fun n34 =>
                RDI .i64 (Addr.add ⟨B15, 0, none⟩ 1) fun n35 =>
                  RDL (Addr.add ⟨B15, 0, none⟩ 2) fun x36 l37 c38 =>
                    RDL (Addr.add ⟨B15, 0, none⟩ 3) fun x39 l40 c41 =>
                      CALL Pg W F_rank_Could [(.agg #[(.int .i64 n34), (.int .i64 n35), (.slice x36 l37 c38), (.slice x39 l40 c41)]), (.int .i64 (Int.tmod (IntKind.wrap .i64 n9) n31)), (.int .i64 (Int.tmod (IntKind.wrap .i64 n10) n32))]
                        (fun v42 => TUP v42 fun q44 => HD q44 fun v45 r46 => TYI .i64 v45 fun n47 =>
                          HD r46 fun v48 r49 => TYI .i64 v48 fun n50 =>
                            NL r49 <|
                              RDI .i64 (Addr.add ⟨B15, 0, none⟩ 0) fun n51 =>
                                RDI .i64 (Addr.add ⟨B15, 0, none⟩ 1) fun n52 =>
                                  RDL (Addr.add ⟨B15, 0, none⟩ 2) fun x53 l54 c55 =>
                                    RDL (Addr.add ⟨B15, 0, none⟩ 3) fun x56 l57 c58 =>
                                      CALL Pg W F_rank_Before [(.agg #[(.int .i64 n51), (.int .i64 n52), (.slice x53 l54 c55), (.slice x56 l57 c58)]), (.int .i64 (Int.tmod (IntKind.wrap .i64 n9) n31)), (.int .i64 (Int.tmod (IntKind.wrap .i64 n10) n32))]
                                        (fun v59 => TUP v59 fun q61 => HD q61 fun v62 r63 => TYI .i64 v62 fun n64 =>
                                          HD r63 fun v65 r66 => TYI .i64 v65 fun n67 =>
                                            NL r66 <|
                                              RDI .i64 (Addr.add ⟨B15, 0, none⟩ 1) fun n68 =>
                                                NNI (IntKind.wrap .i64 (2 * n68)) <|
                                                  BR (n67 != 0)
                                                    (J_law10_RankCould_5 W R true B15 n9 n31 n10 n32 n11 n68 x12 l13 c14 n47 n50 n64)
                                                    (J_law10_RankCould_5 W R (!((n50 == 0) == (n64 != 0))) B15 n9 n31 n10 n32 n11 n68 x12 l13 c14 n47 n50 n64))
                                          (fun e60 => R (.panicked e60)))
                          (fun e43 => R (.panicked e43)))
def J_law10_RankCould_7 (W : World) (R : Ending → Hp → Prop) (za0 : Addr) (zn1 : Int) (zn2 : Int) (zn3 : Int) (zn4 : Int) (zn5 : Int) (zn6 : Int) (zp7 : Option Addr) (zl8 : Nat) (zl9 : Nat) (za10 : Addr) (zn11 : Int) (nx0 : List Value → Hp → Prop) (n180 : Int) : Hp → Prop :=
  NX [(.pointer (some za0)), (.bool false), (.int .i64 zn1), (.int .i64 zn2), (.int .i64 zn3), (.int .i64 zn4), (.int .i64 zn5), (.int .i64 zn6), (.slice zp7 zl8 zl9), (.pointer (some za10)), (.int .i64 zn11), (.tuple #[])] [(.pointer (some za0)), (.bool false), (.int .i64 zn1), (.int .i64 zn2), (.int .i64 zn3), (.int .i64 zn4), (.int .i64 zn5), (.int .i64 zn6), (.slice zp7 zl8 zl9), (.pointer (some za10)), (.int .i64 zn11), (.tuple #[])] (nx0 [(.int .i64 (IntKind.wrap .i64 (n180 + 1)))])
def J_law10_RankCould_8 (W : World) (R : Ending → Hp → Prop) (za0 : Addr) (n180 : Int) (zn5 : Int) (za10 : Addr) (zp7 : Option Addr) (zl8 : Nat) (zn2 : Int) (zn1 : Int) (zn3 : Int) (zn4 : Int) (zn6 : Int) (zl9 : Nat) (zn11 : Int) (nx0 : List Value → Hp → Prop) : Hp → Prop :=
  RDI .i64 (Addr.add za0 1) fun n214 =>
    NNI (IntKind.wrap .i64 (n214 + n180)) <|
      BR ((andv .i64 (shrv .i64 zn5 (IntKind.wrap .i64 (n214 + n180))) 1) == 1)
        (RDI .i64 (Addr.add za10 0) fun n215 =>
          RDI .i64 (Addr.add za10 1) fun n216 =>
            RDL (Addr.add za10 2) fun x217 l218 c219 =>
              RDL (Addr.add za10 3) fun x220 l221 c222 =>
                IXS zp7 zl8 zn2 1 fun a223 =>
                  RDL a223 fun x224 l225 c226 =>
                    IXS x224 l225 n180 1 fun a227 =>
                      RDI .i64 a227 fun n228 =>
                        CALL Pg W F_ref10_With [(.agg #[(.int .i64 n215), (.int .i64 n216), (.slice x217 l218 c219), (.slice x220 l221 c222)]), (.int .i64 zn2), (.int .i64 n180), (.int .i64 n228)]
                          (fun v229 => AGG v229 fun q231 => HD q231 fun v232 r233 => TYI .i64 v232 fun n234 =>
                            HD r233 fun v235 r236 => TYI .i64 v235 fun n237 =>
                              HD r236 fun v238 r239 => TYL v238 fun x240 l241 c242 =>
                                HD r239 fun v243 r244 => TYL v243 fun x245 l246 c247 =>
                                  NL r244 <|
                                    WR (Addr.add za10 0) (.int .i64 n234) <|
                                      WR (Addr.add za10 1) (.int .i64 n237) <|
                                        WR (Addr.add za10 2) (.slice x240 l241 c242) <|
                                          WR (Addr.add za10 3) (.slice x245 l246 c247) <|
                                            J_law10_RankCould_7 W R za0 zn1 zn2 zn3 zn4 zn5 zn6 zp7 zl8 zl9 za10 zn11 nx0 n180)
                            (fun e230 => R (.panicked e230)))
        (J_law10_RankCould_7 W R za0 zn1 zn2 zn3 zn4 zn5 zn6 zp7 zl8 zl9 za10 zn11 nx0 n180)
def J_law10_RankCould_9 (W : World) (R : Ending → Hp → Prop) (b265 : Bool) (zn4 : Int) (za0 : Addr) (zn1 : Int) (zn2 : Int) (zn3 : Int) : Hp → Prop :=
  BR b265
    (R (.returned (.bool false)))
    (BR (zn4 != 0)
      (CALL Pg W F_law10_awake []
        (fun v266 => TYB v266 fun b268 =>
          R (.returned (.bool b268)))
          (fun e267 => R (.panicked e267)))
      (RDI .i64 (Addr.add za0 0) fun n269 =>
        RDI .i64 (Addr.add za0 1) fun n270 =>
          RDL (Addr.add za0 2) fun x271 l272 c273 =>
            RDL (Addr.add za0 3) fun x274 l275 c276 =>
              CALL Pg W F_law10_read [(.agg #[(.int .i64 n269), (.int .i64 n270), (.slice x271 l272 c273), (.slice x274 l275 c276)]), (.int .i64 zn1), (.int .i64 zn2), (.int .i64 zn3)]
                (fun v277 => AGG v277 fun q279 => HD q279 fun v280 r281 => TYI .i64 v280 fun n282 =>
                  HD r281 fun v283 r284 => TYI .i64 v283 fun n285 =>
                    HD r284 fun v286 r287 => TYL v286 fun x288 l289 c290 =>
                      HD r287 fun v291 r292 => TYL v291 fun x293 l294 c295 =>
                        NL r292 <|
                          CALL Pg W F_rank_Before [(.agg #[(.int .i64 n282), (.int .i64 n285), (.slice x288 l289 c290), (.slice x293 l294 c295)]), (.int .i64 zn1), (.int .i64 zn2)]
                            (fun v296 => TUP v296 fun q298 => HD q298 fun v299 r300 => TYI .i64 v299 fun n301 =>
                              HD r300 fun v302 r303 => TYI .i64 v302 fun n304 =>
                                NL r303 <|
                                  BR (n304 == 0)
                                    (BR (n301 == 2)
                                      (CALL Pg W F_law10_awake []
                                        (fun v305 => TYB v305 fun b307 =>
                                          R (.returned (.bool b307)))
                                          (fun e306 => R (.panicked e306)))
                                      (R (.returned (.bool false))))
                                    (R (.returned (.bool false))))
                              (fun e297 => R (.panicked e297)))
                  (fun e278 => R (.panicked e278))))
def B_law10_RankCould_0 (W : World) (R : Ending → Hp → Prop) (za0 : Addr) (zn1 : Int) (zn2 : Int) (zn3 : Int) (zn4 : Int) (zn5 : Int) (zn6 : Int) (zp7 : Option Addr) (zl8 : Nat) (zl9 : Nat) (za10 : Addr) (zn11 : Int) (n180 : Int) (nx0 : List Value → Hp → Prop) : Hp → Prop :=
  BR (decide (n180 < zn11))
    (NNI n180 <|
      BR ((andv .i64 (shrv .i64 zn5 n180) 1) == 1)
        (RDI .i64 (Addr.add za10 0) fun n181 =>
          RDI .i64 (Addr.add za10 1) fun n182 =>
            RDL (Addr.add za10 2) fun x183 l184 c185 =>
              RDL (Addr.add za10 3) fun x186 l187 c188 =>
                IXS zp7 zl8 zn1 1 fun a189 =>
                  RDL a189 fun x190 l191 c192 =>
                    IXS x190 l191 n180 1 fun a193 =>
                      RDI .i64 a193 fun n194 =>
                        CALL Pg W F_ref10_With [(.agg #[(.int .i64 n181), (.int .i64 n182), (.slice x183 l184 c185), (.slice x186 l187 c188)]), (.int .i64 zn1), (.int .i64 n180), (.int .i64 n194)]
                          (fun v195 => AGG v195 fun q197 => HD q197 fun v198 r199 => TYI .i64 v198 fun n200 =>
                            HD r199 fun v201 r202 => TYI .i64 v201 fun n203 =>
                              HD r202 fun v204 r205 => TYL v204 fun x206 l207 c208 =>
                                HD r205 fun v209 r210 => TYL v209 fun x211 l212 c213 =>
                                  NL r210 <|
                                    WR (Addr.add za10 0) (.int .i64 n200) <|
                                      WR (Addr.add za10 1) (.int .i64 n203) <|
                                        WR (Addr.add za10 2) (.slice x206 l207 c208) <|
                                          WR (Addr.add za10 3) (.slice x211 l212 c213) <|
                                            J_law10_RankCould_8 W R za0 n180 zn5 za10 zp7 zl8 zn2 zn1 zn3 zn4 zn6 zl9 zn11 nx0)
                            (fun e196 => R (.panicked e196)))
        (J_law10_RankCould_8 W R za0 n180 zn5 za10 zp7 zl8 zn2 zn1 zn3 zn4 zn6 zl9 zn11 nx0))
    (RDI .i64 (Addr.add za10 0) fun n248 =>
      RDI .i64 (Addr.add za10 1) fun n249 =>
        RDL (Addr.add za10 2) fun x250 l251 c252 =>
          RDL (Addr.add za10 3) fun x253 l254 c255 =>
            CALL Pg W F_rank_Before [(.agg #[(.int .i64 n248), (.int .i64 n249), (.slice x250 l251 c252), (.slice x253 l254 c255)]), (.int .i64 zn1), (.int .i64 zn2)]
              (fun v256 => TUP v256 fun q258 => HD q258 fun v259 r260 => TYI .i64 v259 fun n261 =>
                HD r260 fun v262 r263 => TYI .i64 v262 fun n264 =>
                  NL r263 <|
                    BR (n264 != 0)
                      (J_law10_RankCould_9 W R true zn4 za0 zn1 zn2 zn3)
                      (BR (n261 == 2)
                        (J_law10_RankCould_9 W R (zn6 != 2) zn4 za0 zn1 zn2 zn3)
                        (J_law10_RankCould_9 W R false zn4 za0 zn1 zn2 zn3)))
                (fun e257 => R (.panicked e257)))
theorem B_law10_RankCould_0_eq (W : World) (R : Ending → Hp → Prop) (za0 : Addr) (zn1 : Int) (zn2 : Int) (zn3 : Int) (zn4 : Int) (zn5 : Int) (zn6 : Int) (zp7 : Option Addr) (zl8 : Nat) (zl9 : Nat) (za10 : Addr) (zn11 : Int) (n180 : Int) (nx0 : List Value → Hp → Prop) (j : Tm) : vc Pg W 249 rs_8 an_8 false (sub (bodyOf Try.f8) [1, 1, 1, 1, 1, 1, 1, 1, 1, 1, 1, 1, 1, 0, 1, 0, 0]) 0 (KLoop [170] [5, 10, 11, 12, 13, 14, 19, 20, 23, 24, 169, 249] [(.pointer (some za0)), (.bool false), (.int .i64 zn1), (.int .i64 zn2), (.int .i64 zn3), (.int .i64 zn4), (.int .i64 zn5), (.int .i64 zn6), (.slice zp7 zl8 zl9), (.pointer (some za10)), (.int .i64 zn11), (.tuple #[])] nx0 (KBlk 0 (KS Pg W 249 rs_8 an_8 false (sub (bodyOf Try.f8) [1, 1, 1, 1, 1, 1, 1, 1, 1, 1, 1, 1, 1, 1]) 0 (fin Pg W 249 rv_8 R)))) (known [170] [(.int .i64 n180)] (known [5, 10, 11, 12, 13, 14, 19, 20, 23, 24, 169, 249] [(.pointer (some za0)), (.bool false), (.int .i64 zn1), (.int .i64 zn2), (.int .i64 zn3), (.int .i64 zn4), (.int .i64 zn5), (.int .i64 zn6), (.slice zp7 zl8 zl9), (.pointer (some za10)), (.int .i64 zn11), (.tuple #[])] j)) = B_law10_RankCould_0 W R za0 zn1 zn2 zn3 zn4 zn5 zn6 zp7 zl8 zl9 za10 zn11 n180 nx0 := by kernel_rfl
def N_law10_RankCould_0 (I : Int → Hp → Prop) (μ : Int → Hp → Nat) (n1800 : Int) (s : Hp) (vs : List Value) : Hp → Prop := fun s' => ∃ n180, vs = [(.int .i64 n180)] ∧ I n180 s' ∧ μ n180 s' < μ n1800 s
theorem L_law10_RankCould_0_rule (W : World) (R : Ending → Hp → Prop) (za0 : Addr) (zn1 : Int) (zn2 : Int) (zn3 : Int) (zn4 : Int) (zn5 : Int) (zn6 : Int) (zp7 : Option Addr) (zl8 : Nat) (zl9 : Nat) (za10 : Addr) (zn11 : Int) (I : Int → Hp → Prop) (μ : Int → Hp → Nat) (n1800 : Int) (s : Hp) (h0 : I n1800 s)
    (hr : ∀ (n180 : Int) (s : Hp), I n180 s → B_law10_RankCould_0 W R za0 zn1 zn2 zn3 zn4 zn5 zn6 zp7 zl8 zl9 za10 zn11 n180 (fun vs => N_law10_RankCould_0 I μ n180 s vs) s) : L_law10_RankCould_0 W R za0 zn1 zn2 zn3 zn4 zn5 zn6 zp7 zl8 zl9 za10 zn11 n1800 s := by
  refine ⟨fun vs s => ∃ n180, vs = [(.int .i64 n180)] ∧ I n180 s, fun vs s => (match vs with | [.int _ n180] => μ n180 s | _ => 0), ⟨⟨⟨_, rfl⟩, trivial⟩, ⟨_, rfl, h0⟩⟩, ?_⟩
  intro n180 s hI j
  obtain ⟨n180', hy, hI⟩ := hI
  have hI' : I n180 s := by cases hy; exact hI
  have hh := hr n180 s hI'
  rw [← B_law10_RankCould_0_eq W R za0 zn1 zn2 zn3 zn4 zn5 zn6 zp7 zl8 zl9 za10 zn11 n180 _ j] at hh
  refine vc_mono ?_ _ _ hh
  exact KLoop_mono (fun vs s' h => by obtain ⟨n1801, rfl, h1, h2⟩ := h; exact ⟨⟨⟨_, rfl⟩, trivial⟩, ⟨_, rfl, h1⟩, h2⟩)
def T_law10_RankCould (W : World) (n1 : Int) (n2 : Int) (x3 : Option Addr) (l4 : Nat) (c5 : Nat) (x6 : Option Addr) (l7 : Nat) (c8 : Nat) (n9 : Int) (n10 : Int) (n11 : Int) (x12 : Option Addr) (l13 : Nat) (c14 : Nat) (R : Ending → Hp → Prop) : Hp → Prop :=
  NEW 25 [(.int .i64 n1), (.int .i64 n2), (.slice x3 l4 c5), (.slice x6 l7 c8)] fun B15 =>
    RDI .i64 (Addr.add ⟨B15, 0, none⟩ 0) fun n16 =>
      RDI .i64 (Addr.add ⟨B15, 0, none⟩ 1) fun n17 =>
        RDL (Addr.add ⟨B15, 0, none⟩ 2) fun x18 l19 c20 =>
          RDL (Addr.add ⟨B15, 0, none⟩ 3) fun x21 l22 c23 =>
            CALL Pg W F_law10_far [(.agg #[(.int .i64 n16), (.int .i64 n17), (.slice x18 l19 c20), (.slice x21 l22 c23)])]
              (fun v24 => TYB v24 fun b26 =>
                BR b26
                  (J_law10_RankCould_6 W R true B15 n9 n10 n11 x12 l13 c14)
                  (RDI .i64 (Addr.add ⟨B15, 0, none⟩ 0) fun n169 =>
                    RDI .i64 (Addr.add ⟨B15, 0, none⟩ 1) fun n170 =>
                      RDL (Addr.add ⟨B15, 0, none⟩ 2) fun x171 l172 c173 =>
                        RDL (Addr.add ⟨B15, 0, none⟩ 3) fun x174 l175 c176 =>
                          CALL Pg W F_ref10_Table [(.agg #[(.int .i64 n169), (.int .i64 n170), (.slice x171 l172 c173), (.slice x174 l175 c176)])]
                            (fun v177 => TYB v177 fun b179 =>
                              J_law10_RankCould_6 W R (!b179) B15 n9 n10 n11 x12 l13 c14)
                              (fun e178 => R (.panicked e178))))
                (fun e25 => R (.panicked e25))
theorem T_law10_RankCould_eq (W : World) (n1 : Int) (n2 : Int) (x3 : Option Addr) (l4 : Nat) (c5 : Nat) (x6 : Option Addr) (l7 : Nat) (c8 : Nat) (n9 : Int) (n10 : Int) (n11 : Int) (x12 : Option Addr) (l13 : Nat) (c14 : Nat) (R : Ending → Hp → Prop) : vfun Pg W an_8 Try.f8 [(.agg #[(.int .i64 n1), (.int .i64 n2), (.slice x3 l4 c5), (.slice x6 l7 c8)]), (.int .u8 n9), (.int .u8 n10), (.int .u16 n11), (.slice x12 l13 c14)] R = T_law10_RankCould W n1 n2 x3 l4 c5 x6 l7 c8 n9 n10 n11 x12 l13 c14 R := by kernel_rfl
theorem does_law10_RankCould (W : World) (n1 : Int) (n2 : Int) (x3 : Option Addr) (l4 : Nat) (c5 : Nat) (x6 : Option Addr) (l7 : Nat) (c8 : Nat) (n9 : Int) (n10 : Int) (n11 : Int) (x12 : Option Addr) (l13 : Nat) (c14 : Nat) (R : Ending → Hp → Prop) (s : Hp) (h : T_law10_RankCould W n1 n2 x3 l4 c5 x6 l7 c8 n9 n10 n11 x12 l13 c14 R s) : Does Pg W F_law10_RankCould #[(.agg #[(.int .i64 n1), (.int .i64 n2), (.slice x3 l4 c5), (.slice x6 l7 c8)]), (.int .u8 n9), (.int .u8 n10), (.int .u16 n11), (.slice x12 l13 c14)] s R :=
  does_of_vfun Pg W an_8 Try.func8 rfl (by kernel_rfl) (by rw [T_law10_RankCould_eq]; exact h)
end Go.Proofs.Ytkgcbfbbcaajpaa.G

/- The statement RankCould. -/
set_option linter.unusedSimpArgs false
set_option linter.unusedVariables false
set_option maxRecDepth 20000
namespace Go.Proofs.Ytkgcbfbbcaajpaa.G
open Go.V
section
variable {W : World} {K : VK} {E : List PanicEntry → Hp → Prop} {s : Hp} {T : Tb}
theorem tm_mod {z n : Nat} (hz : z < 256) (hn : 0 < n) : Int.tmod (IntKind.wrap .i64 (z : Int)) (n : Int) = ((z % n : Nat) : Int) := by rw [wrap_i64 (by omega) (by omega)]; rfl
theorem couldR_t (hok : okT T = true) {a b w : Nat} (ha : a < T.n) (hb : b < T.n) (hc : canT T a b = true) (hw : couldN T a b = some w) : couldR T a b = (((w : Nat) : Int), 0) := by
  unfold couldR
  rw [if_pos hok, if_pos ⟨isM_nat hok ha, isM_nat hok hb⟩]
  show (if canT T a b then (match couldN T a b with | some w => (((w : Nat) : Int), (0 : Int)) | none => (0, 4)) else (0, 4)) = _
  rw [hc, if_pos rfl, hw]
theorem couldR_f (hok : okT T = true) {a b : Nat} (ha : a < T.n) (hb : b < T.n) (hc : canT T a b = false) : couldR T a b = (0, 4) := by
  unfold couldR
  rw [if_pos hok, if_pos ⟨isM_nat hok ha, isM_nat hok hb⟩]
  show (if canT T a b then (match couldN T a b with | some w => (((w : Nat) : Int), (0 : Int)) | none => (0, 4)) else (0, 4)) = _
  rw [hc, if_neg (by simp)]
theorem w_RankCould {x y z : Option Addr} {c c' cz u v q : Nat} {bs : List Nat} (hu : u < 256) (hv : v < 256) (hq : q < 65536) (hx : RowAt s x (ints T.off)) (hy : ScAt s y T.sc) (hz : RowAt s z (bytes bs)) (hbs : ∀ b ∈ bs, b < 256) (h : ∀ s', Ext s s' → K (.bool true) s') :
    CALL Pg W F_law10_RankCould [.agg #[.int .i64 T.men, .int .i64 T.sheets, .slice x T.off.length c, .slice y T.sc.length c'], .int .u8 u, .int .u8 v, .int .u16 q, .slice z bs.length cz] K E s := by
  refine does_law10_RankCould W T.men T.sheets x T.off.length c y T.sc.length c' u v q z bs.length cz _ s ?_
  unfold T_law10_RankCould
  refine NEW_rule fun s1 e1 z1 n1 _ => ?_
  have ta := tbA_new e1 hx hy n1
  refine rdT ta fun x c y c' hx hy => ?_
  refine c_far fun s2 b e2 hb => ?_
  try simp only [TUP_mk, AGG_mk, HD_mk, NL_mk, TYI_mk, TYB_mk, TYP_mk, TYL_mk, TYS_mk, TYM_mk, SO_mk, NX_mk, endK_mk, endK_mk', add_0]
  have aw : ∀ t, Ext s1 t → CALL Pg W F_law10_awake [] (fun v => TYB v fun b => endK K E (.returned (.bool b))) (fun e => endK K E (.panicked e)) t := fun t et => c_awake' et fun t2 e => h t2 (e1.trans e)
  have fin : ∀ t, Ext s1 t → J_law10_RankCould_6 W (endK K E) true s.size u v q z bs.length cz t := fun t et => by
    unfold J_law10_RankCould_6
    rw [BR_t]
    exact aw t et
  refine BR_bool (fun _ => fin s2 e2) (fun hf => ?_)
  have hlo : T.off.length ≤ 100000 := by have := hb hf; omega
  refine rdT (ta.ext e2) fun x c y c' hx hy => ?_
  refine f_Table hx hy hlo fun s3 e3 => ?_
  try simp only [TUP_mk, AGG_mk, HD_mk, NL_mk, TYI_mk, TYB_mk, TYP_mk, TYL_mk, TYS_mk, TYM_mk, SO_mk, NX_mk, endK_mk, endK_mk', add_0]
  have e13 := e2.trans e3
  cases hok : okT T with
  | false => exact fin s3 e13
  | true =>
    have hn := men_n hok
    have hm := sheets_m hok
    obtain ⟨np, n6, mp, m5⟩ := n_lim hok
    obtain ⟨a, ha⟩ : ∃ a, a = u % T.n := ⟨_, rfl⟩
    obtain ⟨b, hb'⟩ : ∃ b, b = v % T.n := ⟨_, rfl⟩
    obtain ⟨own, how⟩ : ∃ own, own = q % 2 ^ (2 * T.m) := ⟨_, rfl⟩
    have han : a < T.n := by rw [ha]; exact Nat.mod_lt _ np
    have hbn : b < T.n := by rw [hb']; exact Nat.mod_lt _ np
    have h2p : 2 ^ (2 * T.m) ≤ 2 ^ 10 := Nat.pow_le_pow_right (by omega) (by omega)
    have hol : own < 2 ^ (2 * T.m) := by rw [how]; exact Nat.mod_lt _ (Nat.pow_pos (by omega))
    have ho1 : own < 1024 := by omega
    have cm : ∀ {t}, Ext s1 t → cellAt t (Addr.add ⟨s.size, 0, none⟩ 0) = some (.int .i64 (T.n : Nat)) := fun e => by rw [hn]; exact (ta.ext e).men
    have cs : ∀ {t}, Ext s1 t → cellAt t (Addr.add ⟨s.size, 0, none⟩ 1) = some (.int .i64 (T.m : Nat)) := fun e => by rw [hm]; exact (ta.ext e).sheets
    unfold J_law10_RankCould_6
    rw [Bool.not_true, BR_f]
    refine ⟨_, cm e13, NZI_pos (by omega) ?_⟩
    refine ⟨_, cm e13, NZI_pos (by omega) ?_⟩
    refine ⟨⟨_, cm e13, rfl⟩, ?_⟩
    have ua : Int.tmod (IntKind.wrap .i64 (u : Int)) ((T.n : Nat) : Int) = ((a : Nat) : Int) := by rw [tm_mod hu np, ha]
    have vb : Int.tmod (IntKind.wrap .i64 (v : Int)) ((T.n : Nat) : Int) = ((b : Nat) : Int) := by rw [tm_mod hv np, hb']
    rw [ua, vb]
    refine rdT (ta.ext e13) fun x c y c' hx hy => ?_
    refine c_Could hx hy hlo fun s4 e4 => ?_
    try simp only [TUP_mk, AGG_mk, HD_mk, NL_mk, TYI_mk, TYB_mk, TYP_mk, TYL_mk, TYS_mk, TYM_mk, SO_mk, NX_mk, endK_mk, endK_mk', add_0]
    have e14 := e13.trans e4
    refine rdT (ta.ext e14) fun x c y c' hx hy => ?_
    refine c_BeforeN hok han hbn hlo hx hy fun s5 e5 => ?_
    try simp only [TUP_mk, AGG_mk, HD_mk, NL_mk, TYI_mk, TYB_mk, TYP_mk, TYL_mk, TYS_mk, TYM_mk, SO_mk, NX_mk, endK_mk, endK_mk', add_0]
    have e15 := e14.trans e5
    refine ⟨_, cs e15, ?_⟩
    have hw2 : IntKind.wrap .i64 (2 * ((T.m : Nat) : Int)) = ((2 * T.m : Nat) : Int) := by rw [wrap_i64 (by omega) (by omega)]; omega
    have hal := shl_all T.m m5
    have hown : andv .i64 (IntKind.wrap .i64 (q : Int)) (IntKind.wrap .i64 (shlv .i64 1 (IntKind.wrap .i64 (2 * ((T.m : Nat) : Int))) - 1)) = ((own : Nat) : Int) := by
      rw [hal, wrap_i64 (by omega) (by omega), and_all hq (by omega), how]
    refine NNI_of (by rw [hw2]; omega) ?_
    obtain ⟨ce, he, cw, hcr, hset⟩ : ∃ (ce : Int) (he : (ce = 0 ∧ canT T a b = true) ∨ (ce = 4 ∧ canT T a b = false)) (cw : Nat), couldR T a b = (((cw : Nat) : Int), ce) ∧ (ce = 4 → cw = 0) ∧ (ce = 0 → cw < 2 ^ (2 * T.m) ∧ provesB T a b cw = true ∧ (∀ x, x < 2 ^ (2 * T.m) → provesB T a b x = true → ¬ setLt x cw) ∧ (cw = 0 ↔ surT T a b = true)) := by
      cases hc : canT T a b with
      | true =>
        obtain ⟨w, g1, g2, g3, g4, g5⟩ := could_some hok hc
        exact ⟨0, .inl ⟨rfl, rfl⟩, w, couldR_t hok han hbn hc g1, fun h => by omega, fun _ => ⟨g2, g3, g4, g5⟩⟩
      | false => exact ⟨4, .inr ⟨rfl, rfl⟩, 0, couldR_f hok han hbn hc, fun _ => rfl, fun h => by omega⟩
    rw [hcr]
    dsimp only
    have hce : (ce == 0) = canT T a b := by rcases he with ⟨rfl, h2⟩ | ⟨rfl, h2⟩ <;> rw [h2] <;> rfl
    have hbz : (befN T a b != 0) = canT T a b := by
      cases hc : canT T a b with
      | true => rw [bne_iff_ne.2 fun h0 => by rw [(befN_zero hok).1 h0] at hc; cases hc]
      | false => rw [(befN_zero hok).2 hc]; rfl
    have hb2 : (befN T a b == 2) = surT T a b := by
      cases hc : surT T a b with
      | true => rw [befN_two.2 hc]; rfl
      | false => rw [beq_eq_false_iff_ne.2 fun hh => by rw [befN_two.1 hh] at hc; cases hc]
    have hcw : cw < 2 ^ (2 * T.m) := by
      rcases he with ⟨h0, _⟩ | ⟨h0, _⟩
      · exact (hset.2 h0).1
      · rw [hset.1 h0]; exact Nat.pow_pos (by omega)
    refine BR_ff rfl ?_
    rw [hce, hbz, beq_self_eq_true]
    unfold J_law10_RankCould_5
    refine BR_ff rfl ?_
    -- the rules of what is told
    have j4 : J_law10_RankCould_4 W (endK K E) false s.size u T.n v T.n q T.m z bs.length cz cw ce (befN T a b) s5 := by
      unfold J_law10_RankCould_4
      rw [BR_f]
      unfold J_law10_RankCould_3
      refine BR_ff (decide_eq_false (by omega)) ?_
      unfold J_law10_RankCould_2
      refine BR_ff (decide_eq_false (by rw [hal]; omega)) ?_
      have j1 : J_law10_RankCould_1 W (endK K E) false s.size u T.n v T.n q T.m z bs.length cz cw ce s5 := by
        unfold J_law10_RankCould_1
        rw [BR_f]
        refine rdT (ta.ext e15) fun x c y c' hx hy => ?_
        rw [ua, vb, hown]
        refine f_read hok han hbn ho1 hx hy fun s6 x6 y6 c6 c6' e6 hx6 hy6 => ?_
        try simp only [TUP_mk, AGG_mk, HD_mk, NL_mk, TYI_mk, TYB_mk, TYP_mk, TYL_mk, TYS_mk, TYM_mk, SO_mk, NX_mk, endK_mk, endK_mk', add_0]
        have okR := readL_ok (w := own) hok han hbn (Nat.le_refl T.m)
        obtain ⟨r1, r2, r3⟩ := readL_same (T := T) (a := a) (b := b) (w := own) T.m
        have rn := same_n r1
        refine c_BeforeN okR (by rw [rn]; exact han) (by rw [rn]; exact hbn) (by rw [r3]; exact hlo) hx6 hy6 fun s7 e7 => ?_
        try simp only [TUP_mk, AGG_mk, HD_mk, NL_mk, TYI_mk, TYB_mk, TYP_mk, TYL_mk, TYS_mk, TYM_mk, SO_mk, NX_mk, endK_mk, endK_mk', add_0]
        have e17 := e15.trans (e6.trans e7)
        refine BR_ff rfl ?_
        -- and with any numbers
        have j0 : ∀ t, Ext s1 t → J_law10_RankCould_0 W (endK K E) false s.size z bs.length cz u T.n v T.n cw ce q T.m (befN (readL T a b own T.m) a b) t := by
          intro t et
          unfold J_law10_RankCould_0
          rw [BR_f]
          refine rdT (ta.ext et) fun x c y c' hx hy => ?_
          refine f_filled hok hx hy (hz.ext (e1.trans et)) hbs fun t1 x1 c1 y1 c1' p cp f1 hx1 hy1 hp1 => ?_
          try simp only [TUP_mk, AGG_mk, HD_mk, NL_mk, TYI_mk, TYB_mk, TYP_mk, TYL_mk, TYS_mk, TYM_mk, SO_mk, NX_mk, endK_mk, endK_mk', add_0]
          have hvi : ∀ i k, i < T.n → k < T.m → loP T i k ≤ fillV T bs i k ∧ fillV T bs i k ≤ hiP T i k := fun i k _ _ => fillV_in hok bs i k
          have hvl : ∀ i k, i < T.n → k < T.m → 0 ≤ fillV T bs i k ∧ fillV T bs i k ≤ 40 := fun i k hi hk => by have := hvi i k hi hk; have := lo_hi hok i k; omega
          generalize fillV T bs = V at *
          refine nw4 zc_25 rfl rfl rfl rfl fun t2 f2 z2 _ _ _ _ => ?_
          have f12 := f1.trans f2
          have hp2 := hp1.ext f2
          have et2 := et.trans f12
          obtain ⟨x0, c0, y0, c0', g1, g2, g3, g4, hx0, hy0⟩ := (ta.ext et2).all
          refine ⟨_, g1, _, g2, _, _, _, g3, _, _, _, g4, ?_⟩
          refine tbV_new (Ext.refl t2) hx0 hy0 fun t3 B f3 z3 hB _ v3 => ?_
          refine ⟨_, cs (et2.trans f3), ?_⟩
          rw [ua, vb, hown]
          let X : Nat → Tb := readG T a b (fun j => bitO own j (V a j)) (fun j => bitO own (T.m + j) (V b j))
          have hfa : ∀ j n, j < T.m → (fun j => bitO own j (V a j)) j = some n → 0 ≤ n ∧ n ≤ 40 := fun j n hj h => by rw [bitO_some h]; exact hvl a j han hj
          have hfb : ∀ j n, j < T.m → (fun j => bitO own (T.m + j) (V b j)) j = some n → 0 ≤ n ∧ n ≤ 40 := fun j n hj h => by rw [bitO_some h]; exact hvl b j hbn hj
          have okX : ∀ j, j ≤ T.m → okT (X j) = true := fun j hj => readG_ok hok han hbn hfa hfb j hj
          have smX : ∀ j, (X j).men = T.men ∧ (X j).sheets = T.sheets ∧ (X j).off = T.off := fun j => readG_same T a b _ _ j
          let Y : Nat → Tb := fun j => put1 (X j) a j (bitO own j (V a j))
          have okY : ∀ j, j < T.m → okT (Y j) = true := fun j hj => put1_ok (okX j (by omega)) (by rw [same_n (smX j).1]; exact han) (by rw [same_m (smX j).2.1]; exact hj) fun n h => hfa j n hj h
          have smY : ∀ j, (Y j).men = T.men ∧ (Y j).sheets = T.sheets ∧ (Y j).off = T.off := fun j => by
            obtain ⟨q1, q2, q3⟩ := put1_same (X j) a j (bitO own j (V a j))
            obtain ⟨p1, p2, p3⟩ := smX j
            exact ⟨q1.trans p1, q2.trans p2, q3.trans p3⟩
          have hXs : ∀ j, X (j + 1) = put1 (Y j) b j (bitO own (T.m + j) (V b j)) := fun j => rfl
          refine L_law10_RankCould_0_rule W _ ⟨s.size, 0, none⟩ a b cw ce own (befN (readL T a b own T.m) a b) p T.n cp ⟨B, 0, none⟩ T.m (fun n w => ∃ j : Nat, j ≤ T.m ∧ n = j ∧ TbV t2 w B (X j) (x0, c0)) (fun n _ => (T.m - n).toNat) 0 t3 ⟨0, by omega, rfl, v3⟩ ?_
          rintro n180 w ⟨j, hj, rfl, vw⟩
          have ew := et2.trans vw.ext
          unfold B_law10_RankCould_0
          refine BR_dec (fun h1 => ?_) (fun h1 => ?_)
          · have hjm : j < T.m := by omega
            refine NNI_nat ?_
            rw [has_i own ho1 j (by omega)]
            have j7 : ∀ w', TbV t2 w' B (X (j + 1)) (x0, c0) → J_law10_RankCould_7 W (endK K E) ⟨s.size, 0, none⟩ a b cw ce own (befN (readL T a b own T.m) a b) p T.n cp ⟨B, 0, none⟩ T.m (fun vs => N_law10_RankCould_0 (fun n w => ∃ j : Nat, j ≤ T.m ∧ n = j ∧ TbV t2 w B (X j) (x0, c0)) (fun n _ => (T.m - n).toNat) j w vs) j w' := by
              intro w' v'
              unfold J_law10_RankCould_7
              exact ⟨rfl, _, rfl, ⟨j + 1, by omega, wrap_succ (by omega), v'⟩, ms_succ hjm (by omega)⟩
            have j8 : ∀ w', TbV t2 w' B (Y j) (x0, c0) → J_law10_RankCould_8 W (endK K E) ⟨s.size, 0, none⟩ j own ⟨B, 0, none⟩ p T.n b a cw ce (befN (readL T a b own T.m) a b) cp T.m (fun vs => N_law10_RankCould_0 (fun n w => ∃ j : Nat, j ≤ T.m ∧ n = j ∧ TbV t2 w B (X j) (x0, c0)) (fun n _ => (T.m - n).toNat) j w vs) w' := by
              intro w' v'
              unfold J_law10_RankCould_8
              refine ⟨_, cs (et2.trans v'.ext), ?_⟩
              have hwj : IntKind.wrap .i64 (((T.m : Nat) : Int) + (j : Int)) = ((T.m + j : Nat) : Int) := by rw [wrap_i64 (by omega) (by omega)]; omega
              dsimp only
              rw [hwj]
              refine NNI_nat ?_
              rw [has_i own ho1 (T.m + j) (by omega)]
              refine BR_bool (fun hb1 => ?_) (fun hb1 => ?_)
              · obtain ⟨yy, cy, q1, q2⟩ := v'.sc
                refine ⟨_, v'.men.cell, _, v'.sheets.cell, _, _, _, v'.off.1.cell, _, _, _, q1.cell, ?_⟩
                refine (hp2.ext v'.ext).rd hbn hjm ?_
                obtain ⟨l0, l1⟩ := hvl b j hbn hjm
                refine with_var (okY j hjm) (by rw [same_n (smY j).1]; exact hbn) (by rw [same_m (smY j).2.1]; exact hjm) l0 l1 v' q2 fun w2 t' _ _ v2 => j7 w2 ?_
                rw [hXs, bitO_t hb1]; exact v2
              · refine j7 w' ?_
                rw [hXs, bitO_f hb1]; exact v'
            refine BR_bool (fun hb1 => ?_) (fun hb1 => ?_)
            · obtain ⟨yy, cy, q1, q2⟩ := vw.sc
              refine ⟨_, vw.men.cell, _, vw.sheets.cell, _, _, _, vw.off.1.cell, _, _, _, q1.cell, ?_⟩
              refine (hp2.ext vw.ext).rd han hjm ?_
              obtain ⟨l0, l1⟩ := hvl a j han hjm
              refine with_var (okX j hj) (by rw [same_n (smX j).1]; exact han) (by rw [same_m (smX j).2.1]; exact hjm) l0 l1 vw q2 fun w2 t' _ _ v2 => j8 w2 ?_
              show TbV t2 w2 B (put1 (X j) a j (bitO own j (V a j))) (x0, c0)
              rw [bitO_t hb1]; exact v2
            · refine j8 w ?_
              show TbV t2 w B (put1 (X j) a j (bitO own j (V a j))) (x0, c0)
              rw [bitO_f hb1]; exact vw
          · have hjm : j = T.m := by omega
            subst hjm
            refine rdT vw.tbA fun x c y c' hx hy => ?_
            obtain ⟨p1, p2, p3⟩ := smX T.m
            refine c_BeforeN (okX _ (Nat.le_refl _)) (by rw [same_n p1]; exact han) (by rw [same_n p1]; exact hbn) (by rw [p3]; exact hlo) hx hy fun w2 g2 => ?_
            try simp only [TUP_mk, AGG_mk, HD_mk, NL_mk, TYI_mk, TYB_mk, TYP_mk, TYL_mk, TYS_mk, TYM_mk, SO_mk, NX_mk, endK_mk, endK_mk', add_0]
            refine BR_ff rfl ?_
            have ew2 := ew.trans g2
            have j9 : J_law10_RankCould_9 W (endK K E) false ce ⟨s.size, 0, none⟩ a b cw w2 := by
              unfold J_law10_RankCould_9
              rw [BR_f]
              refine BR_ne (fun _ => aw w2 ew2) (fun h0 => ?_)
              obtain ⟨s1', s2', s3', s4'⟩ := hset.2 h0
              refine rdT (ta.ext ew2) fun x c y c' hx hy => ?_
              refine f_read hok han hbn (by omega) hx hy fun s6 x6 y6 c6 c6' e6 hx6 hy6 => ?_
              try simp only [TUP_mk, AGG_mk, HD_mk, NL_mk, TYI_mk, TYB_mk, TYP_mk, TYL_mk, TYS_mk, TYM_mk, SO_mk, NX_mk, endK_mk, endK_mk', add_0]
              have okR' := readL_ok (w := cw) hok han hbn (Nat.le_refl T.m)
              obtain ⟨r1', r2', r3'⟩ := readL_same (T := T) (a := a) (b := b) (w := cw) T.m
              refine c_BeforeN okR' (by rw [same_n r1']; exact han) (by rw [same_n r1']; exact hbn) (by rw [r3']; exact hlo) hx6 hy6 fun s7 e7 => ?_
              try simp only [TUP_mk, AGG_mk, HD_mk, NL_mk, TYI_mk, TYB_mk, TYP_mk, TYL_mk, TYS_mk, TYM_mk, SO_mk, NX_mk, endK_mk, endK_mk', add_0]
              have hab : a ≠ b := fun e => by subst e; rw [proves_self] at s2'; cases s2'
              have hsr : surT (readL T a b cw T.m) a b = true := by rw [proves_sur hok han hbn hab]; exact s2'
              refine BR_tt rfl ?_
              rw [befN_two.2 hsr]
              exact BR_tt rfl (aw _ (ew2.trans (e6.trans e7)))
            refine BR_eq (fun h4 => ?_) (fun _ => j9)
            have hp := any_numbers hok han hbn hvi (X := X T.m) rfl (befN_two.1 h4)
            have hab : a ≠ b := fun e => by subst e; rw [proves_self] at hp; cases hp
            have : befN (readL T a b own T.m) a b = 2 := befN_two.2 (by rw [proves_sur hok han hbn hab]; exact hp)
            have hbn2 : (befN (readL T a b own T.m) a b != 2) = false := by rw [this]; rfl
            rw [hbn2]; exact j9
        refine BR_eq (fun h4 => ?_) (fun _ => j0 s7 e17)
        refine BR_ne (fun hne => ?_) (fun _ => j0 s7 e17)
        have hab : a ≠ b := fun e => hne (by rw [e])
        have hpo : provesB T a b own = true := by rw [← proves_sur hok han hbn hab]; exact befN_two.1 h4
        have hc := proves_can hok hpo
        have h0 : ce = 0 := by rcases he with ⟨h0, _⟩ | ⟨_, h0⟩; exact h0; rw [hc] at h0; cases h0
        obtain ⟨s1', s2', s3', s4'⟩ := hset.2 h0
        have hnl := s3' own hol hpo
        refine BR_ff (by rw [h0]; rfl) ?_
        have sz : ∀ {n : Nat} (t : Hp) (KK : VK) (EE : List PanicEntry → Hp → Prop), n < 1024 → KK (.int .i64 (popN n : Nat)) t → CALLV Pg W (.func (.func 38) #[] #[]) [.int .i64 (n : Nat)] KK EE t := fun t KK EE hn hh => CALLV_func (f_Size hn hh)
        refine sz _ _ _ ho1 ?_
        try simp only [TUP_mk, AGG_mk, HD_mk, NL_mk, TYI_mk, TYB_mk, TYP_mk, TYL_mk, TYS_mk, TYM_mk, SO_mk, NX_mk, endK_mk, endK_mk', add_0]
        refine sz _ _ _ (by omega) ?_
        try simp only [TUP_mk, AGG_mk, HD_mk, NL_mk, TYI_mk, TYB_mk, TYP_mk, TYL_mk, TYS_mk, TYM_mk, SO_mk, NX_mk, endK_mk, endK_mk', add_0]
        refine BR_ff (decide_eq_false fun hh => hnl (.inl (by omega))) ?_
        refine sz _ _ _ ho1 ?_
        try simp only [TUP_mk, AGG_mk, HD_mk, NL_mk, TYI_mk, TYB_mk, TYP_mk, TYL_mk, TYS_mk, TYM_mk, SO_mk, NX_mk, endK_mk, endK_mk', add_0]
        refine sz _ _ _ (by omega) ?_
        try simp only [TUP_mk, AGG_mk, HD_mk, NL_mk, TYI_mk, TYB_mk, TYP_mk, TYL_mk, TYS_mk, TYM_mk, SO_mk, NX_mk, endK_mk, endK_mk', add_0]
        refine BR_eq (fun heq => ?_) (fun _ => j0 s7 e17)
        have : decide (((own : Nat) : Int) < ((cw : Nat) : Int)) = false := decide_eq_false fun hh => hnl (.inr ⟨by omega, by omega⟩)
        rw [this]; exact j0 s7 e17
      refine BR_eq (fun h0 => ?_) (fun _ => j1)
      have hh : (!((((cw : Nat) : Int) == 0) == (befN T a b == 2))) = false := by
        rw [hb2]
        have := (hset.2 h0).2.2.2
        cases hs : surT T a b with
        | true => rw [this.2 hs]; rfl
        | false => rw [beq_eq_false_iff_ne.2 (show ((cw : Nat) : Int) ≠ 0 from fun hh => by rw [this.1 (by omega)] at hs; cases hs)]; rfl
      rw [hh]; exact j1
    refine BR_ne (fun h0 => ?_) (fun _ => j4)
    have h4 : ce = 4 := by rcases he with ⟨h, _⟩ | ⟨h, _⟩; exact absurd h h0; exact h
    refine BR_ff (by rw [h4]; rfl) ?_
    have hz0 : (((cw : Nat) : Int) != 0) = false := by rw [hset.1 h4]; rfl
    rw [hz0]; exact j4
end
end Go.Proofs.Ytkgcbfbbcaajpaa.G

/- RankCould, from any arguments. -/
namespace Go.Proofs.Ytkgcbfbbcaajpaa.G
open Go.V
theorem v_RankCould {W : World} {s : Hp} {v0 v1 v2 v3 v4 : Value} (k0 : RdV Pg s 25 v0) (k1 : RdV Pg s 5 v1) (k2 : RdV Pg s 5 v2) (k3 : RdV Pg s 58 v3) (k4 : RdV Pg s 45 v4) : CALL Pg W F_law10_RankCould [v0, v1, v2, v3, v4] (fun v s' => v = .bool true ∧ Ext s s') (fun _ _ => False) s := by
  obtain ⟨x, c, y, c', T, rfl, hx, hy⟩ := table_rd k0
  obtain ⟨u, rfl, hu⟩ := u8_rd k1
  obtain ⟨v, rfl, hv⟩ := u8_rd k2
  obtain ⟨q, rfl, hq⟩ := u16_rd k3
  obtain ⟨z, cz, bs, rfl, hz, hbs, _⟩ := u8s_rd k4
  exact w_RankCould hu hv hq hx hy hz hbs fun s' e => ⟨rfl, e⟩
end Go.Proofs.Ytkgcbfbbcaajpaa.G

/- The row of the statement RankCould. -/
namespace Go.Proofs.Ytkgcbfbbcaajpaa.rankCould
open Go.ChangeShapes Go.WideShapes Go.ChangeAt Go.RowKit Go.V
set_option linter.unusedVariables false
theorem own : ownKnob Try.prog.godebug = none := by kernel_rfl
theorem laidOut : laidOutB Try.prog = true := by kernel_rfl
set_option maxRecDepth 100000 in
theorem lifted (os : Os) (started : os.Started) (H : Type) (enc : TypeId × Value → H) :
    ReturnsInHanded {} Try.checked os 8 .any (Rows.rankCouldSpec.pre6 enc Try.prog Try.f8 Rows.rankCouldRow.domain false) (Rows.rankCouldSpec.post enc Try.prog Try.f8 false true false false) := by
  refine returnsInHanded_of_change_sized (C := Try.checked) own started (by kernel_rfl) Try.func8
    (ChangeSpec.witness6 (enc := enc) (C := Try.checked) false ⟨#[], #[(.agg #[(.int .i64 0), (.int .i64 0), (.slice none 0 0), (.slice none 0 0)]), (.int .u8 0), (.int .u8 0), (.int .u16 0), (.slice none 0 0)], []⟩ 8 (by kernel_rfl) (by kernel_rfl) (by kernel_rfl) (by kernel_rfl)) ?_
  intro W base args ds gs before hval0 hW hcnd hsz0 _
  have hsz : (DataW.weightsEach Try.prog (Try.f8.params.toList ++ Rows.rankCouldSpec.plain.varTypes Try.prog) (ds ++ gs)).all (· ≤ reachBytes) = true := hsz0
  have hval : ∀ (j : Nat) t v, Try.f8.params[j]? = some t → args[j]? = some v → Value.okWide Try.prog W .any base t v := hval0
  have hW' := hW
  obtain ⟨p, q, hA0, hV, rfl, hfz, hnd⟩ := hW
  have hA : DataW.TrodAll enc Try.prog W 0 (fun _ => true) true Try.f8.params.toList args.toList ds p := hA0
  rw [Try.params8] at hA hval hsz
  obtain ⟨v0, vs0, d0, ds0, p0, q0, hargs, rfl, rfl, h0, r0⟩ := trodAll_cons hA
  obtain ⟨v1, vs1, d1, ds1, p1, q1, rfl, rfl, rfl, h1, r1⟩ := trodAll_cons r0
  obtain ⟨v2, vs2, d2, ds2, p2, q2, rfl, rfl, rfl, h2, r2⟩ := trodAll_cons r1
  obtain ⟨v3, vs3, d3, ds3, p3, q3, rfl, rfl, rfl, h3, r3⟩ := trodAll_cons r2
  obtain ⟨v4, vs4, d4, ds4, p4, q4, rfl, rfl, rfl, h4, r4⟩ := trodAll_cons r3
  obtain ⟨rfl, rfl, rfl⟩ := trodAll_nil r4
  obtain rfl : args = #[v0, v1, v2, v3, v4] := by cases args; simp_all
  obtain ⟨rfl, rfl⟩ := trodVars_none hV
  have k0 := trod_rdV (hval 0 25 v0 rfl rfl) h0
  have lt0 : ∀ x ∈ p0, x.block < W.heap.size := by obtain ⟨m, hm⟩ := h0; exact DataW.trod_lt m _ _ _ hm
  have k1 := trod_rdV (hval 1 5 v1 rfl rfl) h1
  have lt1 : ∀ x ∈ p1, x.block < W.heap.size := by obtain ⟨m, hm⟩ := h1; exact DataW.trod_lt m _ _ _ hm
  have k2 := trod_rdV (hval 2 5 v2 rfl rfl) h2
  have lt2 : ∀ x ∈ p2, x.block < W.heap.size := by obtain ⟨m, hm⟩ := h2; exact DataW.trod_lt m _ _ _ hm
  have k3 := trod_rdV (hval 3 58 v3 rfl rfl) h3
  have lt3 : ∀ x ∈ p3, x.block < W.heap.size := by obtain ⟨m, hm⟩ := h3; exact DataW.trod_lt m _ _ _ hm
  have k4 := trod_rdV (hval 4 45 v4 rfl rfl) h4
  have lt4 : ∀ x ∈ p4, x.block < W.heap.size := by obtain ⟨m, hm⟩ := h4; exact DataW.trod_lt m _ _ _ hm
  refine (calls_of_does (does_of_call (G.v_RankCould (W := W) (s := W.heap) k0 k1 k2 k3 k4))).mono fun e W' ⟨he, bel⟩ => ?_
  subst he
  exact ⟨_, rfl, _, _, _, [], _, [], hW', trodAll_mk1 (shut_bool Try.underlying4 _), (trodAll_cons_mk (Below.trod laidOut (by kernel_rfl) (of_decide_eq_true (by kernel_rfl)) h0 bel lt0) (trodAll_cons_mk (Below.trod laidOut (by kernel_rfl) (of_decide_eq_true (by kernel_rfl)) h1 bel lt1) (trodAll_cons_mk (Below.trod laidOut (by kernel_rfl) (of_decide_eq_true (by kernel_rfl)) h2 bel lt2) (trodAll_cons_mk (Below.trod laidOut (by kernel_rfl) (of_decide_eq_true (by kernel_rfl)) h3 bel lt3) (trodAll_cons_mk (Below.trod laidOut (by kernel_rfl) (of_decide_eq_true (by kernel_rfl)) h4 bel lt4) trodAll_mk0))))), rfl, bel.frame _, fun h => by cases h⟩
theorem over : Rows.rankCouldRow.holds Try.pinned (OpenSpec.ofChange Rows.rankCouldSpec) :=
  OpenClaim.holds_of_wide 8 Try.f8 rfl rfl rfl rfl rfl rfl rfl ⟨rfl, rfl, rfl, rfl, rfl⟩ rfl rfl rfl rfl rfl (by kernel_rfl) Try.func8 (by kernel_rfl)
    (of_decide_eq_true (by kernel_rfl)) (by unfold Func.isWrapper; first | (rw [if_pos (by decide +kernel)]; kernel_rfl) | (rw [if_neg (by decide +kernel)]; exact ⟨rfl, rfl⟩))
    (fun os started H enc _ => lifted os started H enc)
theorem proved : Rows.RankCouldSaid := over
end Go.Proofs.Ytkgcbfbbcaajpaa.rankCould
namespace Go.Proofs.Ytkgcbfbbcaajpaa
/-- The row, under a short name. -/
theorem rankCould_holds : Rows.RankCouldSaid := rankCould.proved
end Go.Proofs.Ytkgcbfbbcaajpaa
