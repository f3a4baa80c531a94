import Derived.Test.YtkgcbfbbcaajpaaC3
/- With just the points that are told the place is surely this one or a lesser number, with one less it is not, more are enough, too, and if none are enough the most are not: the statement RankNeed holds for every input, with no condition. -/
/- More of the functions' shallow texts, by gen.py. -/
set_option linter.unusedVariables false
set_option maxRecDepth 100000
namespace Go.Proofs.Ytkgcbfbbcaajpaa.G
open Go.V
def an_9 : Nat → Ann := fun b => match b with
  | 0 => { ms := [10, 137], ks := [.b, .i .i64], us := [5, 11, 12, 135, 136, 157], rt := false, ex := [] }
  | _ => {}
abbrev rv_9 : List ResultVar := [.tmp 10]
abbrev rs_9 : List Nat := [157, 10]
def L_law10_RankNeed_0 (W : World) (R : Ending → Hp → Prop) (za0 : Addr) (zp1 : Option Addr) (zp2 : Option Addr) (za3 : Addr) (b207 : Bool) (n208 : Int) : Hp → Prop :=
  LOOPN [.b, .i .i64] (fun ys next s => ∀ j : Tm, vc Pg W 157 rs_9 an_9 false (sub (bodyOf Try.f9) [1, 1, 1, 1, 1, 1, 1, 1, 0, 1, 0, 0]) 0 (KLoop [10, 137] [5, 11, 12, 135, 136, 157] [(.pointer (some za0)), (.pointer zp1), (.pointer zp2), (.slice (some za3) 2 2), (.int .i64 2), (.tuple #[])] next (KBlk 0 (KS Pg W 157 rs_9 an_9 false (sub (bodyOf Try.f9) [1, 1, 1, 1, 1, 1, 1, 1, 1]) 0 (fin Pg W 157 rv_9 R)))) (known [10, 137] ys (known [5, 11, 12, 135, 136, 157] [(.pointer (some za0)), (.pointer zp1), (.pointer zp2), (.slice (some za3) 2 2), (.int .i64 2), (.tuple #[])] j)) s) [(.bool b207), (.int .i64 n208)]
def J_law10_RankNeed_0 (W : World) (R : Ending → Hp → Prop) (b99 : Bool) (B71 : Nat) (B13 : Nat) (p47 : Option Addr) (p48 : Option Addr) (p49 : Option Addr) : Hp → Prop :=
  BR b99
    (RDI .i64 (Addr.add ⟨B71, 0, none⟩ 1) fun n100 =>
      CALLV Pg W (.func (.func 41) #[] #[(.pointer (some ⟨B13, 0, none⟩)), (.pointer p47), (.pointer p48), (.pointer p49)]) [(.int .i64 n100)]
        (fun v101 => TYB v101 fun b103 =>
          BR (!b103)
            (CALL Pg W F_law10_awake []
              (fun v104 => TYB v104 fun b106 =>
                R (.returned (.bool b106)))
                (fun e105 => R (.panicked e105)))
            (R (.returned (.bool false))))
          (fun e102 => R (.panicked e102)))
    (R (.returned (.bool false)))
def J_law10_RankNeed_1 (W : World) (R : Ending → Hp → Prop) (b95 : Bool) (p49 : Option Addr) (B13 : Nat) (B71 : Nat) (p47 : Option Addr) (p48 : Option Addr) : Hp → Prop :=
  BR b95
    (SO p49 fun a96 =>
      RDI .i64 a96 fun n97 =>
        RDI .i64 (Addr.add ⟨B13, 0, none⟩ 0) fun n98 =>
          J_law10_RankNeed_0 W R (decide (n97 < n98)) B71 B13 p47 p48 p49)
    (J_law10_RankNeed_0 W R false B71 B13 p47 p48 p49)
def J_law10_RankNeed_2 (W : World) (R : Ending → Hp → Prop) (b115 : Bool) (B13 : Nat) (p47 : Option Addr) (p48 : Option Addr) : Hp → Prop :=
  BR b115
    (R (.returned (.bool false)))
    (RDI .i64 (Addr.add ⟨B13, 0, none⟩ 0) fun n116 =>
      NEW 3 [(.int .i64 0), (.int .i64 (IntKind.wrap .i64 (n116 + 1)))] fun B117 =>
        L_law10_RankNeed_0 W R ⟨B13, 0, none⟩ p47 p48 ⟨B117, 0, none⟩ false 0)
def J_law10_RankNeed_3 (W : World) (R : Ending → Hp → Prop) (b114 : Bool) (B13 : Nat) (p47 : Option Addr) (p48 : Option Addr) (B71 : Nat) (n91 : Int) (p49 : Option Addr) (n12 : Int) : Hp → Prop :=
  BR b114
    (J_law10_RankNeed_2 W R true B13 p47 p48)
    (RDI .i64 (Addr.add ⟨B71, 0, none⟩ 1) fun n118 =>
      NZI (IntKind.wrap .i64 ((IntKind.wrap .i64 (n118 - n91)) + 1)) <|
        CALLV Pg W (.func (.func 41) #[] #[(.pointer (some ⟨B13, 0, none⟩)), (.pointer p47), (.pointer p48), (.pointer p49)]) [(.int .i64 (IntKind.wrap .i64 (n91 + (Int.tmod (IntKind.wrap .i64 n12) (IntKind.wrap .i64 ((IntKind.wrap .i64 (n118 - n91)) + 1))))))]
          (fun v119 => TYB v119 fun b121 =>
            J_law10_RankNeed_2 W R (!b121) B13 p47 p48)
            (fun e120 => R (.panicked e120)))
def J_law10_RankNeed_4 (W : World) (R : Ending → Hp → Prop) (b113 : Bool) (B13 : Nat) (p47 : Option Addr) (p48 : Option Addr) (B71 : Nat) (n91 : Int) (p49 : Option Addr) (n12 : Int) : Hp → Prop :=
  BR b113
    (J_law10_RankNeed_3 W R true B13 p47 p48 B71 n91 p49 n12)
    (SO p49 fun a122 =>
      RDI .i64 a122 fun n123 =>
        RDI .i64 (Addr.add ⟨B13, 0, none⟩ 0) fun n124 =>
          BR (n123 == n124)
            (RDI .i64 (Addr.add ⟨B71, 0, none⟩ 0) fun n125 =>
              J_law10_RankNeed_3 W R (n91 != n125) B13 p47 p48 B71 n91 p49 n12)
            (J_law10_RankNeed_3 W R false B13 p47 p48 B71 n91 p49 n12))
def J_law10_RankNeed_5 (W : World) (R : Ending → Hp → Prop) (b112 : Bool) (B13 : Nat) (p47 : Option Addr) (p48 : Option Addr) (B71 : Nat) (n91 : Int) (p49 : Option Addr) (n12 : Int) : Hp → Prop :=
  BR b112
    (J_law10_RankNeed_4 W R true B13 p47 p48 B71 n91 p49 n12)
    (RDI .i64 (Addr.add ⟨B71, 0, none⟩ 0) fun n126 =>
      BR (decide (n91 > n126))
        (CALLV Pg W (.func (.func 41) #[] #[(.pointer (some ⟨B13, 0, none⟩)), (.pointer p47), (.pointer p48), (.pointer p49)]) [(.int .i64 (IntKind.wrap .i64 (n91 - 1)))]
          (fun v127 => TYB v127 fun b129 =>
            J_law10_RankNeed_4 W R b129 B13 p47 p48 B71 n91 p49 n12)
            (fun e128 => R (.panicked e128)))
        (J_law10_RankNeed_4 W R false B13 p47 p48 B71 n91 p49 n12))
def J_law10_RankNeed_6 (W : World) (R : Ending → Hp → Prop) (B13 : Nat) (p47 : Option Addr) (p48 : Option Addr) (p49 : Option Addr) (n12 : Int) : Hp → Prop :=
  RDI .i64 (Addr.add ⟨B13, 0, none⟩ 0) fun n50 =>
    RDI .i64 (Addr.add ⟨B13, 0, none⟩ 1) fun n51 =>
      RDL (Addr.add ⟨B13, 0, none⟩ 2) fun x52 l53 c54 =>
        RDL (Addr.add ⟨B13, 0, none⟩ 3) fun x55 l56 c57 =>
          SO p47 fun a58 =>
            RDI .i64 a58 fun n59 =>
              SO p48 fun a60 =>
                RDI .i64 a60 fun n61 =>
                  CALL Pg W F_ref10_Points [(.agg #[(.int .i64 n50), (.int .i64 n51), (.slice x52 l53 c54), (.slice x55 l56 c57)]), (.int .i64 n59), (.int .i64 n61)]
                    (fun v62 => AGG v62 fun q64 => HD q64 fun v65 r66 => TYI .i64 v65 fun n67 =>
                      HD r66 fun v68 r69 => TYI .i64 v68 fun n70 =>
                        NL r69 <|
                          NEWZ Pg 29 fun B71 =>
                            WR (Addr.add ⟨B71, 0, none⟩ 0) (.int .i64 n67) <|
                              WR (Addr.add ⟨B71, 0, none⟩ 1) (.int .i64 n70) <|
                                RDI .i64 (Addr.add ⟨B13, 0, none⟩ 0) fun n72 =>
                                  RDI .i64 (Addr.add ⟨B13, 0, none⟩ 1) fun n73 =>
                                    RDL (Addr.add ⟨B13, 0, none⟩ 2) fun x74 l75 c76 =>
                                      RDL (Addr.add ⟨B13, 0, none⟩ 3) fun x77 l78 c79 =>
                                        SO p47 fun a80 =>
                                          RDI .i64 a80 fun n81 =>
                                            SO p48 fun a82 =>
                                              RDI .i64 a82 fun n83 =>
                                                SO p49 fun a84 =>
                                                  RDI .i64 a84 fun n85 =>
                                                    CALL Pg W F_rank_Need [(.agg #[(.int .i64 n72), (.int .i64 n73), (.slice x74 l75 c76), (.slice x77 l78 c79)]), (.int .i64 n81), (.int .i64 n83), (.int .i64 n85)]
                                                      (fun v86 => TUP v86 fun q88 => HD q88 fun v89 r90 => TYI .i64 v89 fun n91 =>
                                                        HD r90 fun v92 r93 => TYI .i64 v92 fun n94 =>
                                                          NL r93 <|
                                                            BR (n94 != 0)
                                                              (BR (n94 == 4)
                                                                (J_law10_RankNeed_1 W R (n91 == 0) p49 B13 B71 p47 p48)
                                                                (J_law10_RankNeed_1 W R false p49 B13 B71 p47 p48))
                                                              (RDI .i64 (Addr.add ⟨B71, 0, none⟩ 0) fun n107 =>
                                                                RDI .i64 (Addr.add ⟨B71, 0, none⟩ 1) fun n108 =>
                                                                  CALL Pg W F_law10_inside [(.agg #[(.int .i64 n107), (.int .i64 n108)]), (.int .i64 n91)]
                                                                    (fun v109 => TYB v109 fun b111 =>
                                                                      BR (!b111)
                                                                        (J_law10_RankNeed_5 W R true B13 p47 p48 B71 n91 p49 n12)
                                                                        (CALLV Pg W (.func (.func 41) #[] #[(.pointer (some ⟨B13, 0, none⟩)), (.pointer p47), (.pointer p48), (.pointer p49)]) [(.int .i64 n91)]
                                                                          (fun v130 => TYB v130 fun b132 =>
                                                                            J_law10_RankNeed_5 W R (!b132) B13 p47 p48 B71 n91 p49 n12)
                                                                            (fun e131 => R (.panicked e131))))
                                                                      (fun e110 => R (.panicked e110))))
                                                        (fun e87 => R (.panicked e87)))
                      (fun e63 => R (.panicked e63))
def J_law10_RankNeed_7 (W : World) (R : Ending → Hp → Prop) (b25 : Bool) (B13 : Nat) (n9 : Int) (n10 : Int) (n11 : Int) (n12 : Int) : Hp → Prop :=
  BR b25
    (CALL Pg W F_law10_awake []
      (fun v26 => TYB v26 fun b28 =>
        R (.returned (.bool b28)))
        (fun e27 => R (.panicked e27)))
    (RDI .i64 (Addr.add ⟨B13, 0, none⟩ 0) fun n29 =>
      NZI n29 <|
        RDI .i64 (Addr.add ⟨B13, 0, none⟩ 1) fun n30 =>
          NZI n30 <|
            RDI .i64 (Addr.add ⟨B13, 0, none⟩ 0) fun n31 =>
              NZI n31 <|
                CONJ [
                  NEWZ Pg 3 fun B32 =>
                    ANDS (RDI .i64 (Addr.add ⟨B13, 0, none⟩ 0) fun n33 =>
                      fun _ => ((.int .i64 n33) : Value) = (.int .i64 n31)) <|
                      ANDS (RDI .i64 (Addr.add ⟨B13, 0, none⟩ 1) fun n34 =>
                        fun _ => ((.int .i64 n34) : Value) = (.int .i64 n30)) <|
                        ANDS (RDI .i64 (Addr.add ⟨B13, 0, none⟩ 0) fun n35 =>
                          fun _ => ((.int .i64 n35) : Value) = (.int .i64 n29)) <|
                          CONJ [
                            NEWZ Pg 3 fun B36 =>
                              ANDS (RDI .i64 (Addr.add ⟨B13, 0, none⟩ 0) fun n37 =>
                                fun _ => ((.int .i64 n37) : Value) = (.int .i64 n31)) <|
                                ANDS (RDI .i64 (Addr.add ⟨B13, 0, none⟩ 1) fun n38 =>
                                  fun _ => ((.int .i64 n38) : Value) = (.int .i64 n30)) <|
                                  ANDS (RDI .i64 (Addr.add ⟨B13, 0, none⟩ 0) fun n39 =>
                                    fun _ => ((.int .i64 n39) : Value) = (.int .i64 n29)) <|
                                    NEWZ Pg 3 fun B40 =>
                                      ANDS (RDI .i64 (Addr.add ⟨B13, 0, none⟩ 0) fun n41 =>
                                        fun _ => ((.int .i64 n41) : Value) = (.int .i64 n31)) <|
                                        ANDS (RDI .i64 (Addr.add ⟨B13, 0, none⟩ 1) fun n42 =>
                                          fun _ => ((.int .i64 n42) : Value) = (.int .i64 n30)) <|
                                          ANDS (RDI .i64 (Addr.add ⟨B13, 0, none⟩ 0) fun n43 =>
                                            fun _ => ((.int .i64 n43) : Value) = (.int .i64 n29)) <|
                                            WR (Addr.add ⟨B32, 0, none⟩ 0) (.int .i64 (Int.tmod (IntKind.wrap .i64 n9) n29)) <|
                                              ANDS (RDI .i64 (Addr.add ⟨B13, 0, none⟩ 0) fun n44 =>
                                                fun _ => ((.int .i64 n44) : Value) = (.int .i64 n31)) <|
                                                ANDS (RDI .i64 (Addr.add ⟨B13, 0, none⟩ 1) fun n45 =>
                                                  fun _ => ((.int .i64 n45) : Value) = (.int .i64 n30)) <|
                                                  WR (Addr.add ⟨B36, 0, none⟩ 0) (.int .i64 (Int.tmod (IntKind.wrap .i64 n10) n30)) <|
                                                    ANDS (RDI .i64 (Addr.add ⟨B13, 0, none⟩ 0) fun n46 =>
                                                      fun _ => ((.int .i64 n46) : Value) = (.int .i64 n31)) <|
                                                      WR (Addr.add ⟨B40, 0, none⟩ 0) (.int .i64 (IntKind.wrap .i64 (1 + (Int.tmod (IntKind.wrap .i64 n11) n31)))) <|
                                                        J_law10_RankNeed_6 W R B13 (some ⟨B32, 0, none⟩) (some ⟨B36, 0, none⟩) (some ⟨B40, 0, none⟩) n12,
                            NEWZ Pg 3 fun B133 =>
                              ANDS (RDI .i64 (Addr.add ⟨B13, 0, none⟩ 0) fun n134 =>
                                fun _ => ((.int .i64 n134) : Value) = (.int .i64 n31)) <|
                                ANDS (RDI .i64 (Addr.add ⟨B13, 0, none⟩ 1) fun n135 =>
                                  fun _ => ((.int .i64 n135) : Value) = (.int .i64 n30)) <|
                                  ANDS (RDI .i64 (Addr.add ⟨B13, 0, none⟩ 0) fun n136 =>
                                    fun _ => ((.int .i64 n136) : Value) = (.int .i64 n29)) <|
                                    NEWZ Pg 3 fun B137 =>
                                      ANDS (RDI .i64 (Addr.add ⟨B13, 0, none⟩ 0) fun n138 =>
                                        fun _ => ((.int .i64 n138) : Value) = (.int .i64 n31)) <|
                                        ANDS (RDI .i64 (Addr.add ⟨B13, 0, none⟩ 1) fun n139 =>
                                          fun _ => ((.int .i64 n139) : Value) = (.int .i64 n30)) <|
                                          ANDS (RDI .i64 (Addr.add ⟨B13, 0, none⟩ 0) fun n140 =>
                                            fun _ => ((.int .i64 n140) : Value) = (.int .i64 n29)) <|
                                            WR (Addr.add ⟨B32, 0, none⟩ 0) (.int .i64 (Int.tmod (IntKind.wrap .i64 n9) n29)) <|
                                              ANDS (RDI .i64 (Addr.add ⟨B13, 0, none⟩ 0) fun n141 =>
                                                fun _ => ((.int .i64 n141) : Value) = (.int .i64 n31)) <|
                                                ANDS (RDI .i64 (Addr.add ⟨B13, 0, none⟩ 1) fun n142 =>
                                                  fun _ => ((.int .i64 n142) : Value) = (.int .i64 n30)) <|
                                                  WR (Addr.add ⟨B137, 0, none⟩ 0) (.int .i64 (Int.tmod (IntKind.wrap .i64 n10) n30)) <|
                                                    ANDS (RDI .i64 (Addr.add ⟨B13, 0, none⟩ 0) fun n143 =>
                                                      fun _ => ((.int .i64 n143) : Value) = (.int .i64 n31)) <|
                                                      WR (Addr.add ⟨B133, 0, none⟩ 0) (.int .i64 (IntKind.wrap .i64 (1 + (Int.tmod (IntKind.wrap .i64 n11) n31)))) <|
                                                        J_law10_RankNeed_6 W R B13 (some ⟨B32, 0, none⟩) (some ⟨B137, 0, none⟩) (some ⟨B133, 0, none⟩) n12],
                  NEWZ Pg 3 fun B144 =>
                    ANDS (RDI .i64 (Addr.add ⟨B13, 0, none⟩ 0) fun n145 =>
                      fun _ => ((.int .i64 n145) : Value) = (.int .i64 n31)) <|
                      ANDS (RDI .i64 (Addr.add ⟨B13, 0, none⟩ 1) fun n146 =>
                        fun _ => ((.int .i64 n146) : Value) = (.int .i64 n30)) <|
                        ANDS (RDI .i64 (Addr.add ⟨B13, 0, none⟩ 0) fun n147 =>
                          fun _ => ((.int .i64 n147) : Value) = (.int .i64 n29)) <|
                          CONJ [
                            NEWZ Pg 3 fun B148 =>
                              ANDS (RDI .i64 (Addr.add ⟨B13, 0, none⟩ 0) fun n149 =>
                                fun _ => ((.int .i64 n149) : Value) = (.int .i64 n31)) <|
                                ANDS (RDI .i64 (Addr.add ⟨B13, 0, none⟩ 1) fun n150 =>
                                  fun _ => ((.int .i64 n150) : Value) = (.int .i64 n30)) <|
                                  ANDS (RDI .i64 (Addr.add ⟨B13, 0, none⟩ 0) fun n151 =>
                                    fun _ => ((.int .i64 n151) : Value) = (.int .i64 n29)) <|
                                    NEWZ Pg 3 fun B152 =>
                                      ANDS (RDI .i64 (Addr.add ⟨B13, 0, none⟩ 0) fun n153 =>
                                        fun _ => ((.int .i64 n153) : Value) = (.int .i64 n31)) <|
                                        ANDS (RDI .i64 (Addr.add ⟨B13, 0, none⟩ 1) fun n154 =>
                                          fun _ => ((.int .i64 n154) : Value) = (.int .i64 n30)) <|
                                          ANDS (RDI .i64 (Addr.add ⟨B13, 0, none⟩ 0) fun n155 =>
                                            fun _ => ((.int .i64 n155) : Value) = (.int .i64 n29)) <|
                                            WR (Addr.add ⟨B148, 0, none⟩ 0) (.int .i64 (Int.tmod (IntKind.wrap .i64 n9) n29)) <|
                                              ANDS (RDI .i64 (Addr.add ⟨B13, 0, none⟩ 0) fun n156 =>
                                                fun _ => ((.int .i64 n156) : Value) = (.int .i64 n31)) <|
                                                ANDS (RDI .i64 (Addr.add ⟨B13, 0, none⟩ 1) fun n157 =>
                                                  fun _ => ((.int .i64 n157) : Value) = (.int .i64 n30)) <|
                                                  WR (Addr.add ⟨B144, 0, none⟩ 0) (.int .i64 (Int.tmod (IntKind.wrap .i64 n10) n30)) <|
                                                    ANDS (RDI .i64 (Addr.add ⟨B13, 0, none⟩ 0) fun n158 =>
                                                      fun _ => ((.int .i64 n158) : Value) = (.int .i64 n31)) <|
                                                      WR (Addr.add ⟨B152, 0, none⟩ 0) (.int .i64 (IntKind.wrap .i64 (1 + (Int.tmod (IntKind.wrap .i64 n11) n31)))) <|
                                                        J_law10_RankNeed_6 W R B13 (some ⟨B148, 0, none⟩) (some ⟨B144, 0, none⟩) (some ⟨B152, 0, none⟩) n12,
                            NEWZ Pg 3 fun B159 =>
                              ANDS (RDI .i64 (Addr.add ⟨B13, 0, none⟩ 0) fun n160 =>
                                fun _ => ((.int .i64 n160) : Value) = (.int .i64 n31)) <|
                                ANDS (RDI .i64 (Addr.add ⟨B13, 0, none⟩ 1) fun n161 =>
                                  fun _ => ((.int .i64 n161) : Value) = (.int .i64 n30)) <|
                                  ANDS (RDI .i64 (Addr.add ⟨B13, 0, none⟩ 0) fun n162 =>
                                    fun _ => ((.int .i64 n162) : Value) = (.int .i64 n29)) <|
                                    NEWZ Pg 3 fun B163 =>
                                      ANDS (RDI .i64 (Addr.add ⟨B13, 0, none⟩ 0) fun n164 =>
                                        fun _ => ((.int .i64 n164) : Value) = (.int .i64 n31)) <|
                                        ANDS (RDI .i64 (Addr.add ⟨B13, 0, none⟩ 1) fun n165 =>
                                          fun _ => ((.int .i64 n165) : Value) = (.int .i64 n30)) <|
                                          ANDS (RDI .i64 (Addr.add ⟨B13, 0, none⟩ 0) fun n166 =>
                                            fun _ => ((.int .i64 n166) : Value) = (.int .i64 n29)) <|
                                            WR (Addr.add ⟨B163, 0, none⟩ 0) (.int .i64 (Int.tmod (IntKind.wrap .i64 n9) n29)) <|
                                              ANDS (RDI .i64 (Addr.add ⟨B13, 0, none⟩ 0) fun n167 =>
                                                fun _ => ((.int .i64 n167) : Value) = (.int .i64 n31)) <|
                                                ANDS (RDI .i64 (Addr.add ⟨B13, 0, none⟩ 1) fun n168 =>
                                                  fun _ => ((.int .i64 n168) : Value) = (.int .i64 n30)) <|
                                                  WR (Addr.add ⟨B144, 0, none⟩ 0) (.int .i64 (Int.tmod (IntKind.wrap .i64 n10) n30)) <|
                                                    ANDS (RDI .i64 (Addr.add ⟨B13, 0, none⟩ 0) fun n169 =>
                                                      fun _ => ((.int .i64 n169) : Value) = (.int .i64 n31)) <|
                                                      WR (Addr.add ⟨B159, 0, none⟩ 0) (.int .i64 (IntKind.wrap .i64 (1 + (Int.tmod (IntKind.wrap .i64 n11) n31)))) <|
                                                        J_law10_RankNeed_6 W R B13 (some ⟨B163, 0, none⟩) (some ⟨B144, 0, none⟩) (some ⟨B159, 0, none⟩) n12],
                  NEWZ Pg 3 fun B170 =>
                    ANDS (RDI .i64 (Addr.add ⟨B13, 0, none⟩ 0) fun n171 =>
                      fun _ => ((.int .i64 n171) : Value) = (.int .i64 n31)) <|
                      ANDS (RDI .i64 (Addr.add ⟨B13, 0, none⟩ 1) fun n172 =>
                        fun _ => ((.int .i64 n172) : Value) = (.int .i64 n30)) <|
                        ANDS (RDI .i64 (Addr.add ⟨B13, 0, none⟩ 0) fun n173 =>
                          fun _ => ((.int .i64 n173) : Value) = (.int .i64 n29)) <|
                          CONJ [
                            NEWZ Pg 3 fun B174 =>
                              ANDS (RDI .i64 (Addr.add ⟨B13, 0, none⟩ 0) fun n175 =>
                                fun _ => ((.int .i64 n175) : Value) = (.int .i64 n31)) <|
                                ANDS (RDI .i64 (Addr.add ⟨B13, 0, none⟩ 1) fun n176 =>
                                  fun _ => ((.int .i64 n176) : Value) = (.int .i64 n30)) <|
                                  ANDS (RDI .i64 (Addr.add ⟨B13, 0, none⟩ 0) fun n177 =>
                                    fun _ => ((.int .i64 n177) : Value) = (.int .i64 n29)) <|
                                    NEWZ Pg 3 fun B178 =>
                                      ANDS (RDI .i64 (Addr.add ⟨B13, 0, none⟩ 0) fun n179 =>
                                        fun _ => ((.int .i64 n179) : Value) = (.int .i64 n31)) <|
                                        ANDS (RDI .i64 (Addr.add ⟨B13, 0, none⟩ 1) fun n180 =>
                                          fun _ => ((.int .i64 n180) : Value) = (.int .i64 n30)) <|
                                          ANDS (RDI .i64 (Addr.add ⟨B13, 0, none⟩ 0) fun n181 =>
                                            fun _ => ((.int .i64 n181) : Value) = (.int .i64 n29)) <|
                                            WR (Addr.add ⟨B174, 0, none⟩ 0) (.int .i64 (Int.tmod (IntKind.wrap .i64 n9) n29)) <|
                                              ANDS (RDI .i64 (Addr.add ⟨B13, 0, none⟩ 0) fun n182 =>
                                                fun _ => ((.int .i64 n182) : Value) = (.int .i64 n31)) <|
                                                ANDS (RDI .i64 (Addr.add ⟨B13, 0, none⟩ 1) fun n183 =>
                                                  fun _ => ((.int .i64 n183) : Value) = (.int .i64 n30)) <|
                                                  WR (Addr.add ⟨B178, 0, none⟩ 0) (.int .i64 (Int.tmod (IntKind.wrap .i64 n10) n30)) <|
                                                    ANDS (RDI .i64 (Addr.add ⟨B13, 0, none⟩ 0) fun n184 =>
                                                      fun _ => ((.int .i64 n184) : Value) = (.int .i64 n31)) <|
                                                      WR (Addr.add ⟨B170, 0, none⟩ 0) (.int .i64 (IntKind.wrap .i64 (1 + (Int.tmod (IntKind.wrap .i64 n11) n31)))) <|
                                                        J_law10_RankNeed_6 W R B13 (some ⟨B174, 0, none⟩) (some ⟨B178, 0, none⟩) (some ⟨B170, 0, none⟩) n12,
                            NEWZ Pg 3 fun B185 =>
                              ANDS (RDI .i64 (Addr.add ⟨B13, 0, none⟩ 0) fun n186 =>
                                fun _ => ((.int .i64 n186) : Value) = (.int .i64 n31)) <|
                                ANDS (RDI .i64 (Addr.add ⟨B13, 0, none⟩ 1) fun n187 =>
                                  fun _ => ((.int .i64 n187) : Value) = (.int .i64 n30)) <|
                                  ANDS (RDI .i64 (Addr.add ⟨B13, 0, none⟩ 0) fun n188 =>
                                    fun _ => ((.int .i64 n188) : Value) = (.int .i64 n29)) <|
                                    NEWZ Pg 3 fun B189 =>
                                      ANDS (RDI .i64 (Addr.add ⟨B13, 0, none⟩ 0) fun n190 =>
                                        fun _ => ((.int .i64 n190) : Value) = (.int .i64 n31)) <|
                                        ANDS (RDI .i64 (Addr.add ⟨B13, 0, none⟩ 1) fun n191 =>
                                          fun _ => ((.int .i64 n191) : Value) = (.int .i64 n30)) <|
                                          ANDS (RDI .i64 (Addr.add ⟨B13, 0, none⟩ 0) fun n192 =>
                                            fun _ => ((.int .i64 n192) : Value) = (.int .i64 n29)) <|
                                            WR (Addr.add ⟨B189, 0, none⟩ 0) (.int .i64 (Int.tmod (IntKind.wrap .i64 n9) n29)) <|
                                              ANDS (RDI .i64 (Addr.add ⟨B13, 0, none⟩ 0) fun n193 =>
                                                fun _ => ((.int .i64 n193) : Value) = (.int .i64 n31)) <|
                                                ANDS (RDI .i64 (Addr.add ⟨B13, 0, none⟩ 1) fun n194 =>
                                                  fun _ => ((.int .i64 n194) : Value) = (.int .i64 n30)) <|
                                                  WR (Addr.add ⟨B185, 0, none⟩ 0) (.int .i64 (Int.tmod (IntKind.wrap .i64 n10) n30)) <|
                                                    ANDS (RDI .i64 (Addr.add ⟨B13, 0, none⟩ 0) fun n195 =>
                                                      fun _ => ((.int .i64 n195) : Value) = (.int .i64 n31)) <|
                                                      WR (Addr.add ⟨B170, 0, none⟩ 0) (.int .i64 (IntKind.wrap .i64 (1 + (Int.tmod (IntKind.wrap .i64 n11) n31)))) <|
                                                        J_law10_RankNeed_6 W R B13 (some ⟨B189, 0, none⟩) (some ⟨B185, 0, none⟩) (some ⟨B170, 0, none⟩) n12]])
def J_law10_RankNeed_8 (W : World) (R : Ending → Hp → Prop) (b232 : Bool) (za0 : Addr) (zp1 : Option Addr) (zp2 : Option Addr) (za3 : Addr) (nx0 : List Value → Hp → Prop) (b207 : Bool) (n208 : Int) : Hp → Prop :=
  BR b232
    (R (.returned (.bool false)))
    (NX [(.pointer (some za0)), (.pointer zp1), (.pointer zp2), (.slice (some za3) 2 2), (.int .i64 2), (.tuple #[])] [(.pointer (some za0)), (.pointer zp1), (.pointer zp2), (.slice (some za3) 2 2), (.int .i64 2), (.tuple #[])] (nx0 [(.bool b207), (.int .i64 (IntKind.wrap .i64 (n208 + 1)))]))
def B_law10_RankNeed_0 (W : World) (R : Ending → Hp → Prop) (za0 : Addr) (zp1 : Option Addr) (zp2 : Option Addr) (za3 : Addr) (b207 : Bool) (n208 : Int) (nx0 : List Value → Hp → Prop) : Hp → Prop :=
  BR (decide (n208 < 2))
    (IXS (some za3) 2 n208 1 fun a209 =>
      RDI .i64 a209 fun n210 =>
        RDI .i64 (Addr.add za0 0) fun n211 =>
          RDI .i64 (Addr.add za0 1) fun n212 =>
            RDL (Addr.add za0 2) fun x213 l214 c215 =>
              RDL (Addr.add za0 3) fun x216 l217 c218 =>
                SO zp1 fun a219 =>
                  RDI .i64 a219 fun n220 =>
                    SO zp2 fun a221 =>
                      RDI .i64 a221 fun n222 =>
                        CALL Pg W F_rank_Need [(.agg #[(.int .i64 n211), (.int .i64 n212), (.slice x213 l214 c215), (.slice x216 l217 c218)]), (.int .i64 n220), (.int .i64 n222), (.int .i64 n210)]
                          (fun v223 => TUP v223 fun q225 => HD q225 fun v226 r227 => TYI .i64 v226 fun n228 =>
                            HD r227 fun v229 r230 => TYI .i64 v229 fun n231 =>
                              NL r230 <|
                                BR (n228 != 0)
                                  (J_law10_RankNeed_8 W R true za0 zp1 zp2 za3 nx0 b207 n208)
                                  (J_law10_RankNeed_8 W R (n231 != 2) za0 zp1 zp2 za3 nx0 b207 n208))
                            (fun e224 => R (.panicked e224)))
    (CALL Pg W F_law10_awake []
      (fun v233 => TYB v233 fun b235 =>
        R (.returned (.bool b235)))
        (fun e234 => R (.panicked e234)))
theorem B_law10_RankNeed_0_eq (W : World) (R : Ending → Hp → Prop) (za0 : Addr) (zp1 : Option Addr) (zp2 : Option Addr) (za3 : Addr) (b207 : Bool) (n208 : Int) (nx0 : List Value → Hp → Prop) (j : Tm) : vc Pg W 157 rs_9 an_9 false (sub (bodyOf Try.f9) [1, 1, 1, 1, 1, 1, 1, 1, 0, 1, 0, 0]) 0 (KLoop [10, 137] [5, 11, 12, 135, 136, 157] [(.pointer (some za0)), (.pointer zp1), (.pointer zp2), (.slice (some za3) 2 2), (.int .i64 2), (.tuple #[])] nx0 (KBlk 0 (KS Pg W 157 rs_9 an_9 false (sub (bodyOf Try.f9) [1, 1, 1, 1, 1, 1, 1, 1, 1]) 0 (fin Pg W 157 rv_9 R)))) (known [10, 137] [(.bool b207), (.int .i64 n208)] (known [5, 11, 12, 135, 136, 157] [(.pointer (some za0)), (.pointer zp1), (.pointer zp2), (.slice (some za3) 2 2), (.int .i64 2), (.tuple #[])] j)) = B_law10_RankNeed_0 W R za0 zp1 zp2 za3 b207 n208 nx0 := by kernel_rfl
def N_law10_RankNeed_0 (I : Bool → Int → Hp → Prop) (μ : Bool → Int → Hp → Nat) (b2070 : Bool) (n2080 : Int) (s : Hp) (vs : List Value) : Hp → Prop := fun s' => ∃ b207 n208, vs = [(.bool b207), (.int .i64 n208)] ∧ I b207 n208 s' ∧ μ b207 n208 s' < μ b2070 n2080 s
theorem L_law10_RankNeed_0_rule (W : World) (R : Ending → Hp → Prop) (za0 : Addr) (zp1 : Option Addr) (zp2 : Option Addr) (za3 : Addr) (I : Bool → Int → Hp → Prop) (μ : Bool → Int → Hp → Nat) (b2070 : Bool) (n2080 : Int) (s : Hp) (h0 : I b2070 n2080 s)
    (hr : ∀ (b207 : Bool) (n208 : Int) (s : Hp), I b207 n208 s → B_law10_RankNeed_0 W R za0 zp1 zp2 za3 b207 n208 (fun vs => N_law10_RankNeed_0 I μ b207 n208 s vs) s) : L_law10_RankNeed_0 W R za0 zp1 zp2 za3 b2070 n2080 s := by
  refine ⟨fun vs s => ∃ b207 n208, vs = [(.bool b207), (.int .i64 n208)] ∧ I b207 n208 s, fun vs s => (match vs with | [.bool b207, .int _ n208] => μ b207 n208 s | _ => 0), ⟨⟨⟨_, rfl⟩, ⟨⟨_, rfl⟩, trivial⟩⟩, ⟨_, _, rfl, h0⟩⟩, ?_⟩
  intro b207 n208 s hI j
  obtain ⟨b207', n208', hy, hI⟩ := hI
  have hI' : I b207 n208 s := by cases hy; exact hI
  have hh := hr b207 n208 s hI'
  rw [← B_law10_RankNeed_0_eq W R za0 zp1 zp2 za3 b207 n208 _ j] at hh
  refine vc_mono ?_ _ _ hh
  exact KLoop_mono (fun vs s' h => by obtain ⟨b2071, n2081, rfl, h1, h2⟩ := h; exact ⟨⟨⟨_, rfl⟩, ⟨⟨_, rfl⟩, trivial⟩⟩, ⟨_, _, rfl, h1⟩, h2⟩)
def T_law10_RankNeed (W : World) (n1 : Int) (n2 : Int) (x3 : Option Addr) (l4 : Nat) (c5 : Nat) (x6 : Option Addr) (l7 : Nat) (c8 : Nat) (n9 : Int) (n10 : Int) (n11 : Int) (n12 : Int) (R : Ending → Hp → Prop) : Hp → Prop :=
  NEW 25 [(.int .i64 n1), (.int .i64 n2), (.slice x3 l4 c5), (.slice x6 l7 c8)] fun B13 =>
    RDI .i64 (Addr.add ⟨B13, 0, none⟩ 0) fun n14 =>
      RDI .i64 (Addr.add ⟨B13, 0, none⟩ 1) fun n15 =>
        RDL (Addr.add ⟨B13, 0, none⟩ 2) fun x16 l17 c18 =>
          RDL (Addr.add ⟨B13, 0, none⟩ 3) fun x19 l20 c21 =>
            CALL Pg W F_law10_far [(.agg #[(.int .i64 n14), (.int .i64 n15), (.slice x16 l17 c18), (.slice x19 l20 c21)])]
              (fun v22 => TYB v22 fun b24 =>
                BR b24
                  (J_law10_RankNeed_7 W R true B13 n9 n10 n11 n12)
                  (RDI .i64 (Addr.add ⟨B13, 0, none⟩ 0) fun n196 =>
                    RDI .i64 (Addr.add ⟨B13, 0, none⟩ 1) fun n197 =>
                      RDL (Addr.add ⟨B13, 0, none⟩ 2) fun x198 l199 c200 =>
                        RDL (Addr.add ⟨B13, 0, none⟩ 3) fun x201 l202 c203 =>
                          CALL Pg W F_ref10_Table [(.agg #[(.int .i64 n196), (.int .i64 n197), (.slice x198 l199 c200), (.slice x201 l202 c203)])]
                            (fun v204 => TYB v204 fun b206 =>
                              J_law10_RankNeed_7 W R (!b206) B13 n9 n10 n11 n12)
                              (fun e205 => R (.panicked e205))))
                (fun e23 => R (.panicked e23))
theorem T_law10_RankNeed_eq (W : World) (n1 : Int) (n2 : Int) (x3 : Option Addr) (l4 : Nat) (c5 : Nat) (x6 : Option Addr) (l7 : Nat) (c8 : Nat) (n9 : Int) (n10 : Int) (n11 : Int) (n12 : Int) (R : Ending → Hp → Prop) : vfun Pg W an_9 Try.f9 [(.agg #[(.int .i64 n1), (.int .i64 n2), (.slice x3 l4 c5), (.slice x6 l7 c8)]), (.int .u8 n9), (.int .u8 n10), (.int .u8 n11), (.int .u8 n12)] R = T_law10_RankNeed W n1 n2 x3 l4 c5 x6 l7 c8 n9 n10 n11 n12 R := by kernel_rfl
theorem does_law10_RankNeed (W : World) (n1 : Int) (n2 : Int) (x3 : Option Addr) (l4 : Nat) (c5 : Nat) (x6 : Option Addr) (l7 : Nat) (c8 : Nat) (n9 : Int) (n10 : Int) (n11 : Int) (n12 : Int) (R : Ending → Hp → Prop) (s : Hp) (h : T_law10_RankNeed W n1 n2 x3 l4 c5 x6 l7 c8 n9 n10 n11 n12 R s) : Does Pg W F_law10_RankNeed #[(.agg #[(.int .i64 n1), (.int .i64 n2), (.slice x3 l4 c5), (.slice x6 l7 c8)]), (.int .u8 n9), (.int .u8 n10), (.int .u8 n11), (.int .u8 n12)] s R :=
  does_of_vfun Pg W an_9 Try.func9 rfl (by kernel_rfl) (by rw [T_law10_RankNeed_eq]; exact h)
def an_41 : Nat → Ann := fun b => match b with
  | _ => {}
abbrev rv_41 : List ResultVar := [.tmp 6]
abbrev rs_41 : List Nat := [27, 6]
def T_law10_RankNeed_c1 (W : World) (n1 : Int) (a2 : Addr) (a3 : Addr) (a4 : Addr) (a5 : Addr) (R : Ending → Hp → Prop) : Hp → Prop :=
  RDI .i64 (Addr.add a2 0) fun n6 =>
    RDI .i64 (Addr.add a2 1) fun n7 =>
      RDL (Addr.add a2 2) fun x8 l9 c10 =>
        RDL (Addr.add a2 3) fun x11 l12 c13 =>
          RDI .i64 a3 fun n14 =>
            RDI .i64 a4 fun n15 =>
              RDI .i64 a3 fun n16 =>
                CONJ [
                  CALL Pg W F_ref10_With [(.agg #[(.int .i64 n6), (.int .i64 n7), (.slice x8 l9 c10), (.slice x11 l12 c13)]), (.int .i64 n14), (.int .i64 n15), (.int .i64 n1)]
                    (fun v17 => AGG v17 fun q19 => HD q19 fun v20 r21 => TYI .i64 v20 fun n22 =>
                      HD r21 fun v23 r24 => TYI .i64 v23 fun n25 =>
                        HD r24 fun v26 r27 => TYL v26 fun x28 l29 c30 =>
                          HD r27 fun v31 r32 => TYL v31 fun x33 l34 c35 =>
                            NL r32 <|
                              ANDS (RDI .i64 a3 fun n36 =>
                                fun _ => ((.int .i64 n36) : Value) = (.int .i64 n16)) <|
                                CONJ [
                                  CALL Pg W F_rank_Place [(.agg #[(.int .i64 n22), (.int .i64 n25), (.slice x28 l29 c30), (.slice x33 l34 c35)]), (.int .i64 n16)]
                                    (fun v37 => TUP v37 fun q39 => HD q39 fun v40 r41 => AGG v40 fun q42 => HD q42 fun v43 r44 => TYI .i64 v43 fun n45 =>
                                      HD r44 fun v46 r47 => TYI .i64 v46 fun n48 =>
                                        NL r47 <|
                                          HD r41 fun v49 r50 => TYI .i64 v49 fun n51 =>
                                            NL r50 <|
                                              NEWZ Pg 29 fun B52 =>
                                                ANDS (RDI .i64 a3 fun n53 =>
                                                  fun _ => ((.int .i64 n53) : Value) = (.int .i64 n16)) <|
                                                  ANDS (RDI .i64 a4 fun n54 =>
                                                    fun _ => ((.int .i64 n54) : Value) = (.int .i64 n15)) <|
                                                    ANDS (RDI .i64 a3 fun n55 =>
                                                      fun _ => ((.int .i64 n55) : Value) = (.int .i64 n14)) <|
                                                      ANDS (RDI .i64 (Addr.add a2 0) fun n56 =>
                                                        RDI .i64 (Addr.add a2 1) fun n57 =>
                                                          RDL (Addr.add a2 2) fun x58 l59 c60 =>
                                                            RDL (Addr.add a2 3) fun x61 l62 c63 =>
                                                              fun _ => ((.agg #[(.int .i64 n56), (.int .i64 n57), (.slice x58 l59 c60), (.slice x61 l62 c63)]) : Value) = (.agg #[(.int .i64 n6), (.int .i64 n7), (.slice x8 l9 c10), (.slice x11 l12 c13)])) <|
                                                        WR (Addr.add ⟨B52, 0, none⟩ 0) (.int .i64 n45) <|
                                                          WR (Addr.add ⟨B52, 0, none⟩ 1) (.int .i64 n48) <|
                                                            BR (n51 == 0)
                                                              (RDI .i64 (Addr.add ⟨B52, 0, none⟩ 1) fun n64 =>
                                                                RDI .i64 a5 fun n65 =>
                                                                  R (.returned (.bool (decide (n64 ≤ n65)))))
                                                              (R (.returned (.bool false))))
                                      (fun e38 => R (.panicked e38)),
                                  NEWZ Pg 29 fun B66 =>
                                    ANDS (RDI .i64 a3 fun n67 =>
                                      fun _ => ((.int .i64 n67) : Value) = (.int .i64 n16)) <|
                                      ANDS (RDI .i64 a4 fun n68 =>
                                        fun _ => ((.int .i64 n68) : Value) = (.int .i64 n15)) <|
                                        ANDS (RDI .i64 a3 fun n69 =>
                                          fun _ => ((.int .i64 n69) : Value) = (.int .i64 n14)) <|
                                          ANDS (RDI .i64 (Addr.add a2 0) fun n70 =>
                                            RDI .i64 (Addr.add a2 1) fun n71 =>
                                              RDL (Addr.add a2 2) fun x72 l73 c74 =>
                                                RDL (Addr.add a2 3) fun x75 l76 c77 =>
                                                  fun _ => ((.agg #[(.int .i64 n70), (.int .i64 n71), (.slice x72 l73 c74), (.slice x75 l76 c77)]) : Value) = (.agg #[(.int .i64 n6), (.int .i64 n7), (.slice x8 l9 c10), (.slice x11 l12 c13)])) <|
                                            CALL Pg W F_rank_Place [(.agg #[(.int .i64 n22), (.int .i64 n25), (.slice x28 l29 c30), (.slice x33 l34 c35)]), (.int .i64 n16)]
                                              (fun v78 => TUP v78 fun q80 => HD q80 fun v81 r82 => AGG v81 fun q83 => HD q83 fun v84 r85 => TYI .i64 v84 fun n86 =>
                                                HD r85 fun v87 r88 => TYI .i64 v87 fun n89 =>
                                                  NL r88 <|
                                                    HD r82 fun v90 r91 => TYI .i64 v90 fun n92 =>
                                                      NL r91 <|
                                                        WR (Addr.add ⟨B66, 0, none⟩ 0) (.int .i64 n86) <|
                                                          WR (Addr.add ⟨B66, 0, none⟩ 1) (.int .i64 n89) <|
                                                            BR (n92 == 0)
                                                              (RDI .i64 (Addr.add ⟨B66, 0, none⟩ 1) fun n93 =>
                                                                RDI .i64 a5 fun n94 =>
                                                                  R (.returned (.bool (decide (n93 ≤ n94)))))
                                                              (R (.returned (.bool false))))
                                                (fun e79 => R (.panicked e79))])
                      (fun e18 => R (.panicked e18)),
                  NEWZ Pg 29 fun B95 =>
                    ANDS (RDI .i64 a3 fun n96 =>
                      fun _ => ((.int .i64 n96) : Value) = (.int .i64 n16)) <|
                      ANDS (RDI .i64 a4 fun n97 =>
                        fun _ => ((.int .i64 n97) : Value) = (.int .i64 n15)) <|
                        ANDS (RDI .i64 a3 fun n98 =>
                          fun _ => ((.int .i64 n98) : Value) = (.int .i64 n14)) <|
                          ANDS (RDI .i64 (Addr.add a2 0) fun n99 =>
                            RDI .i64 (Addr.add a2 1) fun n100 =>
                              RDL (Addr.add a2 2) fun x101 l102 c103 =>
                                RDL (Addr.add a2 3) fun x104 l105 c106 =>
                                  fun _ => ((.agg #[(.int .i64 n99), (.int .i64 n100), (.slice x101 l102 c103), (.slice x104 l105 c106)]) : Value) = (.agg #[(.int .i64 n6), (.int .i64 n7), (.slice x8 l9 c10), (.slice x11 l12 c13)])) <|
                            CALL Pg W F_ref10_With [(.agg #[(.int .i64 n6), (.int .i64 n7), (.slice x8 l9 c10), (.slice x11 l12 c13)]), (.int .i64 n14), (.int .i64 n15), (.int .i64 n1)]
                              (fun v107 => AGG v107 fun q109 => HD q109 fun v110 r111 => TYI .i64 v110 fun n112 =>
                                HD r111 fun v113 r114 => TYI .i64 v113 fun n115 =>
                                  HD r114 fun v116 r117 => TYL v116 fun x118 l119 c120 =>
                                    HD r117 fun v121 r122 => TYL v121 fun x123 l124 c125 =>
                                      NL r122 <|
                                        ANDS (RDI .i64 a3 fun n126 =>
                                          fun _ => ((.int .i64 n126) : Value) = (.int .i64 n16)) <|
                                          CALL Pg W F_rank_Place [(.agg #[(.int .i64 n112), (.int .i64 n115), (.slice x118 l119 c120), (.slice x123 l124 c125)]), (.int .i64 n16)]
                                            (fun v127 => TUP v127 fun q129 => HD q129 fun v130 r131 => AGG v130 fun q132 => HD q132 fun v133 r134 => TYI .i64 v133 fun n135 =>
                                              HD r134 fun v136 r137 => TYI .i64 v136 fun n138 =>
                                                NL r137 <|
                                                  HD r131 fun v139 r140 => TYI .i64 v139 fun n141 =>
                                                    NL r140 <|
                                                      WR (Addr.add ⟨B95, 0, none⟩ 0) (.int .i64 n135) <|
                                                        WR (Addr.add ⟨B95, 0, none⟩ 1) (.int .i64 n138) <|
                                                          BR (n141 == 0)
                                                            (RDI .i64 (Addr.add ⟨B95, 0, none⟩ 1) fun n142 =>
                                                              RDI .i64 a5 fun n143 =>
                                                                R (.returned (.bool (decide (n142 ≤ n143)))))
                                                            (R (.returned (.bool false))))
                                              (fun e128 => R (.panicked e128)))
                                (fun e108 => R (.panicked e108))]
theorem T_law10_RankNeed_c1_eq (W : World) (n1 : Int) (a2 : Addr) (a3 : Addr) (a4 : Addr) (a5 : Addr) (R : Ending → Hp → Prop) : vfun Pg W an_41 Try.f41 [(.int .i64 n1), (.pointer (some a2)), (.pointer (some a3)), (.pointer (some a4)), (.pointer (some a5))] R = T_law10_RankNeed_c1 W n1 a2 a3 a4 a5 R := by kernel_rfl
theorem does_law10_RankNeed_c1 (W : World) (n1 : Int) (a2 : Addr) (a3 : Addr) (a4 : Addr) (a5 : Addr) (R : Ending → Hp → Prop) (s : Hp) (h : T_law10_RankNeed_c1 W n1 a2 a3 a4 a5 R s) : Does Pg W F_law10_RankNeed_c1 #[(.int .i64 n1), (.pointer (some a2)), (.pointer (some a3)), (.pointer (some a4)), (.pointer (some a5))] s R :=
  does_of_vfun Pg W an_41 Try.func41 rfl (by kernel_rfl) (by rw [T_law10_RankNeed_c1_eq]; exact h)
end Go.Proofs.Ytkgcbfbbcaajpaa.G

/- Rank: how many points are enough. -/
set_option linter.unusedSimpArgs false
set_option linter.unusedVariables false
set_option maxRecDepth 20000
namespace Go.Proofs.Ytkgcbfbbcaajpaa.G
open Go.V
theorem findA_put_ne {k x : Int × Int} (hx : x ≠ k) {v : Int × Int} : ∀ (l : List Pr), (findA x (l ++ [(k, v)]) 0).map (·.2) = (findA x l 0).map (·.2) := by
  intro l
  rw [findA_find, findA_find, List.find?_append]
  have : ([(k, v)] : List Pr).find? (fun y => decide (y.1 = x)) = none := by simp; exact fun h => hx h.symm
  rw [this]; simp
theorem find_set_ne {k x : Int × Int} (hx : x ≠ k) {v : Int × Int} : ∀ (l : List Pr) (i : Nat) (h : i < l.length), l[i].1 = k → (l.set i (k, v)).find? (fun y => decide (y.1 = x)) = l.find? (fun y => decide (y.1 = x))
  | [], i, h, _ => by simp at h
  | y :: l, 0, h, e => by
    have e' : y.1 = k := e
    rw [List.set_cons_zero, List.find?_cons, List.find?_cons, show decide (((k, v) : Pr).1 = x) = false from decide_eq_false fun hh => hx hh.symm, show decide (y.1 = x) = false from decide_eq_false fun hh => hx (hh.symm.trans e')]
  | y :: l, i + 1, h, e => by
    rw [List.set_cons_succ, List.find?_cons, List.find?_cons, find_set_ne hx l i (by simpa using h) (by simpa using e)]
theorem pts_put {l : List Pr} {k v : Int × Int} (x : Int × Int) : pts (put l k v) x = if x = k then v else pts l x := by
  by_cases e : x = k
  · subst e
    rw [if_pos rfl]
    obtain ⟨i, h, _⟩ := findA_put (l := l) (k := x) (v := v)
    unfold pts; rw [h]
  · rw [if_neg e]
    unfold put
    cases h : findA k l 0 with
    | none =>
      show pts (l ++ [(k, v)]) x = pts l x
      rw [pts_find, pts_find, ← findA_find _ 0, ← findA_find _ 0, findA_put_ne e]
    | some p =>
      obtain ⟨j, w⟩ := p
      obtain ⟨i, hi, hj, hx⟩ := findA_some l 0 j w h
      show pts (l.set j (k, v)) x = pts l x
      have : j = i := by omega
      subst this
      rw [pts_find, pts_find, find_set_ne e l j hi (by rw [hx])]
theorem with_put {T : Tb} (hok : okT T = true) {a k n : Int} : pts (put (prs T) (a, k) (n, n)) = pts (prs (withT T a k n)) := by
  funext x
  rw [pts_put, withT_pts hok]
theorem enough_eq {T : Tb} (hok : okT T = true) (i k : Nat) (pl q : Int) : enough T i k pl q = decide ((plcT (withT T i k q) i).2 ≤ pl) := by
  unfold enough
  rw [with_put hok]; rfl
theorem with_lo {T : Tb} (hok : okT T = true) {a k : Nat} {n : Int} (o j : Nat) : loP (withT T a k n) o j = (if o = a ∧ j = k then n else loP T o j) ∧ hiP (withT T a k n) o j = (if o = a ∧ j = k then n else hiP T o j) := by
  unfold loP hiP
  rw [withT_pts hok]
  by_cases e : o = a ∧ j = k
  · obtain ⟨rfl, rfl⟩ := e
    rw [if_pos rfl, if_pos ⟨rfl, rfl⟩, if_pos ⟨rfl, rfl⟩]; exact ⟨rfl, rfl⟩
  · rw [if_neg e, if_neg e, if_neg fun h => e (by injection h with h1 h2; omega)]; exact ⟨rfl, rfl⟩
theorem with_top {T : Tb} (hok : okT T = true) {a k : Nat} {n : Int} {o : Nat} (ho : o ≠ a) : topR (withT T a k n) o = topR T o ∧ lowR (withT T a k n) o = lowR T o := by
  rw [topR_hiP, topR_hiP, lowR_loP, lowR_loP]
  exact ⟨rowG_congr fun j _ => by rw [(with_lo hok o j).2, if_neg fun h => ho h.1], rowG_congr fun j _ => by rw [(with_lo hok o j).1, if_neg fun h => ho h.1]⟩
/-- More points are enough, too. -/
theorem enough_more {T : Tb} (hok : okT T = true) {a k : Nat} {p q : Int} (hpq : p ≤ q) : (plcT (withT T a k q) a).2 ≤ (plcT (withT T a k p) a).2 := by
  rw [plcT_eq, plcT_eq]
  have := cntB_mono (f := fun o => canT (withT T a k q) o a) (g := fun o => canT (withT T a k p) o a) T.n fun o _ ho => by
    obtain ⟨h1, h2⟩ := canT_iff.1 ho
    refine canT_iff.2 ⟨h1, ?_⟩
    rw [(with_top hok h1).1] at h2 ⊢
    refine gt_le (by rw [lowR_len, lowR_len]; rfl) h2 ?_
    rw [lowR_loP, lowR_loP]
    refine rowG_le (fun j _ => ?_) (Int.le_refl _)
    rw [(with_lo hok a j).1, (with_lo hok a j).1]
    split <;> omega
  show (1 : Int) + _ ≤ 1 + _
  have e : (withT T a k q).n = T.n := rfl
  have e' : (withT T a k p).n = T.n := rfl
  rw [e, e']
  omega
theorem needG_some {f : Int → Bool} : ∀ (c : Nat) (q r : Int), needG f c q = some r → q ≤ r ∧ r < q + c ∧ f r = true ∧ ∀ j, q ≤ j → j < r → f j = false
  | 0, q, r, h => by cases h
  | c + 1, q, r, h => by
    unfold needG at h
    by_cases hf : f q = true
    · rw [if_pos hf] at h
      injection h with h
      subst h
      exact ⟨by omega, by omega, hf, fun j h1 h2 => by omega⟩
    · rw [if_neg hf] at h
      obtain ⟨h1, h2, h3, h4⟩ := needG_some c (q + 1) r h
      refine ⟨by omega, by omega, h3, fun j g1 g2 => ?_⟩
      by_cases e : j = q
      · subst e; simpa using hf
      · exact h4 j (by omega) g2
theorem needG_none {f : Int → Bool} : ∀ (c : Nat) (q : Int), needG f c q = none → ∀ j, q ≤ j → j < q + c → f j = false
  | 0, q, h, j, h1, h2 => by omega
  | c + 1, q, h, j, h1, h2 => by
    unfold needG at h
    by_cases hf : f q = true
    · rw [if_pos hf] at h; cases h
    · rw [if_neg hf] at h
      by_cases e : j = q
      · subst e; simpa using hf
      · exact needG_none c (q + 1) h j (by omega) (by omega)
section
variable {W : World} {K : VK} {E : List PanicEntry → Hp → Prop} {s : Hp} {T : Tb}
theorem c_enough {za zm zs zp : Addr} {a k : Nat} {pl n : Int} (hok : okT T = true) (ha : a < T.n) (hk : k < T.m) (h0 : 0 ≤ n) (h40 : n ≤ 40) (hlo : T.off.length ≤ 100000) (ta : TbA s za T) (hm : cellAt s zm = some (.int .i64 a)) (hs : cellAt s zs = some (.int .i64 k)) (hp : cellAt s zp = some (.int .i64 pl))
    (h : ∀ s', Ext s s' → K (.bool (decide ((plcT (withT T a k n) a).2 ≤ pl))) s') :
    CALLV Pg W (.func (.func 41) #[] #[.pointer (some za), .pointer (some zm), .pointer (some zs), .pointer (some zp)]) [.int .i64 n] K E s := by
  refine CALLV_func ?_
  refine does_law10_RankNeed_c1 W n za zm zs zp _ s ?_
  unfold T_law10_RankNeed_c1
  obtain ⟨x, c, y, c', g1, g2, g3, g4, hx, hy⟩ := ta.all
  refine ⟨_, g1, _, g2, _, _, _, g3, _, _, _, g4, _, hm, _, hs, _, hm, ?_⟩
  refine CONJ_more ?_ (CONJ_one ?_)
  · refine f_WithN hok ha hk h0 h40 hx hy fun s1 x1 c1 y1 c1' e1 hok1 hx1 hy1 => ?_
    try simp only [TUP_mk, AGG_mk, HD_mk, NL_mk, TYI_mk, TYB_mk, TYP_mk, TYL_mk, TYS_mk, TYM_mk, SO_mk, NX_mk, endK_mk, endK_mk', add_0]
    refine ⟨⟨_, e1.cell hm, rfl⟩, CONJ_more ?_ (CONJ_one ?_)⟩
    · refine c_PlaceN hok1 ha hlo hx1 hy1 fun s2 e2 => ?_
      try simp only [TUP_mk, AGG_mk, HD_mk, NL_mk, TYI_mk, TYB_mk, TYP_mk, TYL_mk, TYS_mk, TYM_mk, SO_mk, NX_mk, endK_mk, endK_mk', add_0]
      refine nz2 zc_29 fun s3 e3 z3 o0 o1 => ?_
      have e13 := e1.trans (e2.trans e3)
      refine ⟨⟨_, e13.cell hm, rfl⟩, ⟨⟨_, e13.cell hs, rfl⟩, ⟨⟨_, e13.cell hm, rfl⟩, ⟨⟨_, e13.cell g1, _, e13.cell g2, _, _, _, e13.cell g3, _, _, _, e13.cell g4, rfl⟩, ?_⟩⟩⟩⟩
      refine wr2 rfl rfl (new2' o0 o1) fun s4 k4 z4 p0 p1 => ?_
      have e4 := ext_kp e13 (Nat.le_trans e1.1 e2.1) k4
      refine BR_tt (beq_self_eq_true _) ?_
      exact ⟨_, p1.cell, _, e4.cell hp, h s4 e4⟩
    · refine nz2 zc_29 fun s3 e3 z3 o0 o1 => ?_
      have e13 := e1.trans e3
      refine ⟨⟨_, e13.cell hm, rfl⟩, ⟨⟨_, e13.cell hs, rfl⟩, ⟨⟨_, e13.cell hm, rfl⟩, ⟨⟨_, e13.cell g1, _, e13.cell g2, _, _, _, e13.cell g3, _, _, _, e13.cell g4, rfl⟩, ?_⟩⟩⟩⟩
      refine c_PlaceN hok1 ha hlo (hx1.ext e3) (hy1.ext e3) fun s2 e2 => ?_
      try simp only [TUP_mk, AGG_mk, HD_mk, NL_mk, TYI_mk, TYB_mk, TYP_mk, TYL_mk, TYS_mk, TYM_mk, SO_mk, NX_mk, endK_mk, endK_mk', add_0]
      refine wr2 rfl rfl (new2' (e2.own o0) (e2.own o1)) fun s4 k4 z4 p0 p1 => ?_
      have e4 := ext_kp (e13.trans e2) e1.1 k4
      refine BR_tt (beq_self_eq_true _) ?_
      exact ⟨_, p1.cell, _, e4.cell hp, h s4 e4⟩
  · refine nz2 zc_29 fun s3 e3 z3 o0 o1 => ?_
    refine ⟨⟨_, e3.cell hm, rfl⟩, ⟨⟨_, e3.cell hs, rfl⟩, ⟨⟨_, e3.cell hm, rfl⟩, ⟨⟨_, e3.cell g1, _, e3.cell g2, _, _, _, e3.cell g3, _, _, _, e3.cell g4, rfl⟩, ?_⟩⟩⟩⟩
    refine f_WithN hok ha hk h0 h40 (hx.ext e3) (hy.ext e3) fun s1 x1 c1 y1 c1' e1 hok1 hx1 hy1 => ?_
    try simp only [TUP_mk, AGG_mk, HD_mk, NL_mk, TYI_mk, TYB_mk, TYP_mk, TYL_mk, TYS_mk, TYM_mk, SO_mk, NX_mk, endK_mk, endK_mk', add_0]
    refine ⟨⟨_, e1.cell (e3.cell hm), rfl⟩, ?_⟩
    refine c_PlaceN hok1 ha hlo hx1 hy1 fun s2 e2 => ?_
    try simp only [TUP_mk, AGG_mk, HD_mk, NL_mk, TYI_mk, TYB_mk, TYP_mk, TYL_mk, TYS_mk, TYM_mk, SO_mk, NX_mk, endK_mk, endK_mk', add_0]
    have e12 := e1.trans e2
    refine wr2 rfl rfl (new2' (e12.own o0) (e12.own o1)) fun s4 k4 z4 p0 p1 => ?_
    have e4 := ext_kp (e3.trans e12) (Nat.le_refl _) k4
    refine BR_tt (beq_self_eq_true _) ?_
    exact ⟨_, p1.cell, _, e4.cell hp, h s4 e4⟩
end
end Go.Proofs.Ytkgcbfbbcaajpaa.G

/- The statement RankNeed. -/
set_option linter.unusedSimpArgs false
set_option linter.unusedVariables false
set_option maxRecDepth 20000
namespace Go.Proofs.Ytkgcbfbbcaajpaa.G
open Go.V
theorem Own.ext {s s' : Hp} {a : Addr} {v : Value} (h : Own s a v) (e : Ext s s') : Own s' a v := e.own h
section
variable {W : World} {K : VK} {E : List PanicEntry → Hp → Prop} {s : Hp} {T : Tb}
/-- Three new variables are written. -/
theorem three_wr {s1 t : Hp} {B1 B2 B3 : Nat} {a1 a2 : Addr} {x1 x2 : Int} {va vb vc : Int} {KK : Hp → Prop} (e : Ext s1 t) (h1 : s1.size ≤ B1) (h2 : s1.size ≤ B2) (h3 : s1.size ≤ B3) (n12 : B1 ≠ B2) (n13 : B1 ≠ B3) (n23 : B2 ≠ B3)
    (o1 : Own t ⟨B1, 0, none⟩ (.int .i64 0)) (o2 : Own t ⟨B2, 0, none⟩ (.int .i64 0)) (o3 : Own t ⟨B3, 0, none⟩ (.int .i64 0)) (ca : cellAt s1 a1 = some (.int .i64 x1)) (cb : cellAt s1 a2 = some (.int .i64 x2))
    (hK : ∀ t', Ext s1 t' → cellAt t' ⟨B1, 0, none⟩ = some (.int .i64 va) → cellAt t' ⟨B2, 0, none⟩ = some (.int .i64 vb) → cellAt t' ⟨B3, 0, none⟩ = some (.int .i64 vc) → KK t') :
    (WR (Addr.add ⟨B1, 0, none⟩ 0) (.int .i64 va) <| ANDS (RDI .i64 a1 fun n => fun _ => (.int .i64 n : Value) = .int .i64 x1) <| ANDS (RDI .i64 a2 fun n => fun _ => (.int .i64 n : Value) = .int .i64 x2) <|
      WR (Addr.add ⟨B2, 0, none⟩ 0) (.int .i64 vb) <| ANDS (RDI .i64 a1 fun n => fun _ => (.int .i64 n : Value) = .int .i64 x1) <| WR (Addr.add ⟨B3, 0, none⟩ 0) (.int .i64 vc) KK) t := by
  refine wr1 (a := ⟨B1, 0, none⟩) o1 rfl fun t1 k1 z1 p1 => ?_
  have e1 := ext_kp e h1 k1
  refine ⟨⟨_, e1.cell ca, rfl⟩, ⟨⟨_, e1.cell cb, rfl⟩, ?_⟩⟩
  refine wr1 (a := ⟨B2, 0, none⟩) (k1.own (fun hh => n12 hh.symm) o2) rfl fun t2 k2 z2 p2 => ?_
  have e2 := ext_kp e1 h2 k2
  refine ⟨⟨_, e2.cell ca, rfl⟩, ?_⟩
  refine wr1 (a := ⟨B3, 0, none⟩) (k2.own (fun hh => n23 hh.symm) (k1.own (fun hh => n13 hh.symm) o3)) rfl fun t3 k3 z3 p3 => ?_
  have e3 := ext_kp e2 h3 k3
  exact hK t3 e3 (k3.own n13 (k2.own n12 p1)).cell (k3.own n23 p2).cell p3.cell
theorem w_RankNeed {x y : Option Addr} {c c' u v w q : Nat} (hu : u < 256) (hv : v < 256) (hw : w < 256) (hq : q < 256) (hx : RowAt s x (ints T.off)) (hy : ScAt s y T.sc) (h : ∀ s', Ext s s' → K (.bool true) s') :
    CALL Pg W F_law10_RankNeed [.agg #[.int .i64 T.men, .int .i64 T.sheets, .slice x T.off.length c, .slice y T.sc.length c'], .int .u8 u, .int .u8 v, .int .u8 w, .int .u8 q] K E s := by
  refine does_law10_RankNeed W T.men T.sheets x T.off.length c y T.sc.length c' u v w q _ s ?_
  unfold T_law10_RankNeed
  refine NEW_rule fun s1 e1 z1 n1 _ => ?_
  have ta := tbA_new e1 hx hy n1
  refine rdT ta fun x c y c' hx hy => ?_
  refine c_far fun s2 b e2 hb => ?_
  try simp only [TUP_mk, AGG_mk, HD_mk, NL_mk, TYI_mk, TYB_mk, TYP_mk, TYL_mk, TYS_mk, TYM_mk, SO_mk, NX_mk, endK_mk, endK_mk', add_0]
  have fin : ∀ t, Ext s1 t → J_law10_RankNeed_7 W (endK K E) true s.size u v w q t := fun t et => by
    unfold J_law10_RankNeed_7
    rw [BR_t]
    exact c_awake' et fun t2 e => h t2 (e1.trans e)
  refine BR_bool (fun _ => fin s2 e2) (fun hf => ?_)
  have hlo : T.off.length ≤ 100000 := by have := hb hf; omega
  refine rdT (ta.ext e2) fun x c y c' hx hy => ?_
  refine f_Table hx hy hlo fun s3 e3 => ?_
  try simp only [TUP_mk, AGG_mk, HD_mk, NL_mk, TYI_mk, TYB_mk, TYP_mk, TYL_mk, TYS_mk, TYM_mk, SO_mk, NX_mk, endK_mk, endK_mk', add_0]
  have e13 := e2.trans e3
  cases hok : okT T with
  | false => exact fin s3 e13
  | true =>
    have hn := men_n hok
    have hm := sheets_m hok
    obtain ⟨np, n6, mp, m5⟩ := n_lim hok
    obtain ⟨_, _, _, _, h30, _⟩ := okT_iff.1 hok
    obtain ⟨a, ha⟩ : ∃ a, a = u % T.n := ⟨_, rfl⟩
    obtain ⟨k, hk⟩ : ∃ k, k = v % T.m := ⟨_, rfl⟩
    obtain ⟨pl, hpl⟩ : ∃ pl, pl = 1 + w % T.n := ⟨_, rfl⟩
    have han : a < T.n := by rw [ha]; exact Nat.mod_lt _ np
    have hkm : k < T.m := by rw [hk]; exact Nat.mod_lt _ mp
    have hpn : 1 ≤ pl ∧ pl ≤ T.n := by have := Nat.mod_lt w np; omega
    unfold J_law10_RankNeed_7
    rw [Bool.not_true, BR_f]
    have tm : ∀ {z n : Nat}, z < 256 → 0 < n → Int.tmod (IntKind.wrap .i64 (z : Int)) (n : Int) = ((z % n : Nat) : Int) := fun hz hn => by rw [wrap_i64 (by omega) (by omega)]; rfl
    have cm : cellAt s3 (Addr.add ⟨s.size, 0, none⟩ 0) = some (.int .i64 (T.n : Nat)) := by rw [hn]; exact (ta.ext e13).men
    have cs : cellAt s3 (Addr.add ⟨s.size, 0, none⟩ 1) = some (.int .i64 (T.m : Nat)) := by rw [hm]; exact (ta.ext e13).sheets
    refine ⟨_, cm, NZI_pos (by omega) ?_⟩
    refine ⟨_, cs, NZI_pos (by omega) ?_⟩
    refine ⟨_, cm, NZI_pos (by omega) ?_⟩
    rw [tm hu np, tm hv mp, tm hw np, ← ha, ← hk]
    have hw1 : IntKind.wrap .i64 (1 + ((w % T.n : Nat) : Int)) = ((pl : Nat) : Int) := by rw [wrap_i64 (by omega) (by omega)]; omega
    rw [hw1]
    have ta3 := ta.ext e13
    have b0 : Ext s s3 := e1.trans e13
    clear e2 e3 e13 ta e1 n1 hx hy
    -- what comes behind the three variables
    have main : ∀ (B1 B2 B3 : Nat) (t : Hp), Ext s3 t → cellAt t ⟨B1, 0, none⟩ = some (.int .i64 (a : Nat)) → cellAt t ⟨B2, 0, none⟩ = some (.int .i64 (k : Nat)) → cellAt t ⟨B3, 0, none⟩ = some (.int .i64 (pl : Nat)) → J_law10_RankNeed_6 W (endK K E) s.size (some ⟨B1, 0, none⟩) (some ⟨B2, 0, none⟩) (some ⟨B3, 0, none⟩) q t := by
      intro B1 B2 B3 t et c1 c2 c3
      have aw : ∀ t', Ext t t' → CALL Pg W F_law10_awake [] (fun v => TYB v fun b => endK K E (.returned (.bool b))) (fun e => endK K E (.panicked e)) t' := fun t' e' => c_awake' (et.trans e') fun t2 e => h t2 (b0.trans e)
      unfold J_law10_RankNeed_6
      refine rdT (ta3.ext et) fun x c y c' hx hy => ?_
      refine ⟨_, c1, _, c2, ?_⟩
      refine f_Points hx hy (by omega) fun t1 f1 => ?_
      unfold spanV
      try simp only [TUP_mk, AGG_mk, HD_mk, NL_mk, TYI_mk, TYB_mk, TYP_mk, TYL_mk, TYS_mk, TYM_mk, SO_mk, NX_mk, endK_mk, endK_mk', add_0]
      refine nw2 zc_29 rfl rfl fun t2 f2 z2 p0 p1 => ?_
      have f12 := f1.trans f2
      have hlh := lo_hi hok a k
      have hL : (pts (prs T) ((a : Int), (k : Int))).1 = loP T a k := rfl
      have hH : (pts (prs T) ((a : Int), (k : Int))).2 = hiP T a k := rfl
      rw [hL] at p0
      rw [hH] at p1
      refine rdT (ta3.ext (et.trans f12)) fun x c y c' hx hy => ?_
      refine ⟨_, f12.cell c1, _, f12.cell c2, _, f12.cell c3, ?_⟩
      refine c_Need hx hy hlo fun t3 f3 => ?_
      have f13 := f12.trans f3
      have hnr : needR T a k pl = match needN T a k pl with | some q => (q, 0) | none => (0, 4) := by
        unfold needR
        rw [if_pos hok, if_pos ⟨isM_nat hok han, ⟨by omega, by omega⟩, by omega, by omega⟩]
        rfl
      have en : ∀ (t' : Hp) (n : Int) (KK : VK) (EE : List PanicEntry → Hp → Prop), Ext t t' → 0 ≤ n → n ≤ 40 → (∀ s', Ext t' s' → KK (.bool (enough T a k pl n)) s') → CALLV Pg W (.func (.func 41) #[] #[.pointer (some ⟨s.size, 0, none⟩), .pointer (some ⟨B1, 0, none⟩), .pointer (some ⟨B2, 0, none⟩), .pointer (some ⟨B3, 0, none⟩)]) [.int .i64 n] KK EE t' := fun t' n KK EE e' g0 g40 hh =>
        c_enough hok han hkm g0 g40 hlo (ta3.ext (et.trans e')) (e'.cell c1) (e'.cell c2) (e'.cell c3) (by rw [← enough_eq hok]; exact hh)
      have cmt : ∀ {t'}, Ext t t' → cellAt t' (Addr.add ⟨s.size, 0, none⟩ 0) = some (.int .i64 (T.n : Nat)) := fun e => (et.trans e).cell cm
      have hnm : enough T a k pl = fun q => decide ((plcT (withT T a k q) a).2 ≤ (pl : Int)) := by funext q; exact enough_eq hok a k pl q
      have hall : pl = T.n → ∀ n, 0 ≤ n → n ≤ 40 → enough T a k pl n = true := fun hp n g0 g40 => by
        rw [enough_eq hok]
        have hk2 : isS T (k : Int) := ⟨by omega, by omega⟩
        have := plc_lim (withT_ok hok (isM_nat hok han) hk2 g0 g40) (a := a) han
        refine decide_eq_true ?_
        have e : (withT T a k n).n = T.n := rfl
        rw [e] at this; omega
      have hrange : ((hiP T a k - loP T a k + 1).toNat : Int) = hiP T a k - loP T a k + 1 := by omega
      have hnN : needN T a k pl = needG (enough T a k pl) (hiP T a k - loP T a k + 1).toNat (loP T a k) := rfl
      cases hnd : needN T a k pl with
      | none =>
        rw [hnd] at hnr
        rw [hnr]
        try simp only [TUP_mk, AGG_mk, HD_mk, NL_mk, TYI_mk, TYB_mk, TYP_mk, TYL_mk, TYS_mk, TYM_mk, SO_mk, NX_mk, endK_mk, endK_mk', add_0]
        have hno := needG_none _ _ (hnN.symm.trans hnd)
        refine BR_tt rfl (BR_tt rfl ?_)
        unfold J_law10_RankNeed_1
        refine BR_tt rfl ⟨_, f13.cell c3, _, cmt f13, ?_⟩
        unfold J_law10_RankNeed_0
        have hlt : ((pl : Nat) : Int) < (T.n : Nat) := by
          rcases Nat.lt_or_ge pl T.n with h1 | h1
          · omega
          · have hpe : pl = T.n := by omega
            have h2 := hno (loP T a k) (Int.le_refl _) (by omega)
            rw [hall hpe _ hlh.1 (by omega)] at h2; cases h2
        refine BR_tt (decide_eq_true hlt) ⟨_, f3.cell p1.cell, ?_⟩
        refine en _ _ _ _ f13 (by omega) (by omega) fun t4 f4 => ?_
        try simp only [TUP_mk, AGG_mk, HD_mk, NL_mk, TYI_mk, TYB_mk, TYP_mk, TYL_mk, TYS_mk, TYM_mk, SO_mk, NX_mk, endK_mk, endK_mk', add_0]
        rw [hno (hiP T a k) (by omega) (by omega)]
        exact BR_tt rfl (aw _ (f13.trans f4))
      | some r =>
        rw [hnd] at hnr
        rw [hnr]
        try simp only [TUP_mk, AGG_mk, HD_mk, NL_mk, TYI_mk, TYB_mk, TYP_mk, TYL_mk, TYS_mk, TYM_mk, SO_mk, NX_mk, endK_mk, endK_mk', add_0]
        obtain ⟨r1, r2, r3, r4⟩ := needG_some _ _ _ (hnN.symm.trans hnd)
        refine BR_ff rfl ⟨_, f3.cell p0.cell, _, f3.cell p1.cell, ?_⟩
        refine f_inside fun t4 f4 => ?_
        try simp only [TUP_mk, AGG_mk, HD_mk, NL_mk, TYI_mk, TYB_mk, TYP_mk, TYL_mk, TYS_mk, TYM_mk, SO_mk, NX_mk, endK_mk, endK_mk', add_0]
        have f34 := f3.trans f4
        have f14 := f12.trans f34
        have hin : loP T a k ≤ r ∧ r ≤ hiP T a k := by omega
        rw [decide_eq_true hin]
        refine BR_ff rfl ?_
        refine en _ _ _ _ f14 (by omega) (by omega) fun t5 f5 => ?_
        try simp only [TUP_mk, AGG_mk, HD_mk, NL_mk, TYI_mk, TYB_mk, TYP_mk, TYL_mk, TYS_mk, TYM_mk, SO_mk, NX_mk, endK_mk, endK_mk', add_0]
        have f15 := f14.trans f5
        have f35 := f34.trans f5
        rw [r3]
        -- behind the least number
        have j4 : ∀ t6, Ext t2 t6 → J_law10_RankNeed_4 W (endK K E) false s.size (some ⟨B1, 0, none⟩) (some ⟨B2, 0, none⟩) t1.size r (some ⟨B3, 0, none⟩) q t6 := by
          intro t6 f6
          have f16 := f12.trans f6
          have j3 : J_law10_RankNeed_3 W (endK K E) false s.size (some ⟨B1, 0, none⟩) (some ⟨B2, 0, none⟩) t1.size r (some ⟨B3, 0, none⟩) q t6 := by
            unfold J_law10_RankNeed_3
            rw [BR_f]
            refine ⟨_, f6.cell p1.cell, ?_⟩
            have w1 : IntKind.wrap .i64 (IntKind.wrap .i64 (hiP T a k - r) + 1) = (((hiP T a k - r + 1).toNat : Nat) : Int) := by
              rw [wrap_i64 (n := hiP T a k - r) (by omega) (by omega), wrap_i64 (by omega) (by omega)]; omega
            dsimp only
            rw [w1]
            have hpos : 0 < (hiP T a k - r + 1).toNat := by omega
            have hml := Nat.mod_lt q hpos
            refine NZI_pos (by omega) ?_
            rw [tm hq hpos]
            have w2 : IntKind.wrap .i64 (r + ((q % (hiP T a k - r + 1).toNat : Nat) : Int)) = r + ((q % (hiP T a k - r + 1).toNat : Nat) : Int) := wrap_i64 (by omega) (by omega)
            rw [w2]
            refine en _ _ _ _ f16 (by omega) (by omega) fun t7 f7 => ?_
            try simp only [TUP_mk, AGG_mk, HD_mk, NL_mk, TYI_mk, TYB_mk, TYP_mk, TYL_mk, TYS_mk, TYM_mk, SO_mk, NX_mk, endK_mk, endK_mk', add_0]
            have f17 := f16.trans f7
            have hmore : enough T a k pl (r + ((q % (hiP T a k - r + 1).toNat : Nat) : Int)) = true := by
              rw [enough_eq hok] at r3 ⊢
              have h1 := of_decide_eq_true r3
              have h2 := enough_more (T := T) hok (a := a) (k := k) (show r ≤ r + ((q % (hiP T a k - r + 1).toNat : Nat) : Int) by omega)
              exact decide_eq_true (by omega)
            rw [hmore]
            unfold J_law10_RankNeed_2
            refine BR_ff rfl ⟨_, cmt f17, ?_⟩
            have w3 : IntKind.wrap .i64 (((T.n : Nat) : Int) + 1) = ((T.n + 1 : Nat) : Int) := wrap_succ (by omega)
            dsimp only
            rw [w3]
            refine ne2 fun t8 f8 z8 q0 q1 => ?_
            have f18 := f17.trans f8
            refine L_law10_RankNeed_0_rule W _ ⟨s.size, 0, none⟩ (some ⟨B1, 0, none⟩) (some ⟨B2, 0, none⟩) ⟨t7.size, 0, none⟩ (fun _ n t' => Ext t8 t' ∧ ∃ i : Nat, i ≤ 2 ∧ n = i) (fun _ n _ => (2 - n).toNat) false 0 t8 ⟨Ext.refl _, 0, by omega, rfl⟩ ?_
            rintro b207 n208 t9 ⟨f9, i, hi, rfl⟩
            have f19 := f18.trans f9
            unfold B_law10_RankNeed_0
            refine BR_dec (fun h1 => ?_) (fun h1 => aw _ f19)
            have hi2 : i < 2 := by omega
            have bad : ∀ z : Int, ¬ (1 ≤ z ∧ z ≤ T.men) → cellAt t9 ((⟨t7.size, 0, none⟩ : Addr).add (i * 1)) = some (.int .i64 z) → (IXS (some ⟨t7.size, 0, none⟩) 2 (i : Int) 1 fun a209 => RDI .i64 a209 fun n210 => RDI .i64 (Addr.add ⟨s.size, 0, none⟩ 0) fun n211 => RDI .i64 (Addr.add ⟨s.size, 0, none⟩ 1) fun n212 => RDL (Addr.add ⟨s.size, 0, none⟩ 2) fun x213 l214 c215 => RDL (Addr.add ⟨s.size, 0, none⟩ 3) fun x216 l217 c218 =>
                SO (some ⟨B1, 0, none⟩) fun a219 => RDI .i64 a219 fun n220 => SO (some ⟨B2, 0, none⟩) fun a221 => RDI .i64 a221 fun n222 =>
                CALL Pg W F_rank_Need [(.agg #[(.int .i64 n211), (.int .i64 n212), (.slice x213 l214 c215), (.slice x216 l217 c218)]), (.int .i64 n220), (.int .i64 n222), (.int .i64 n210)]
                  (fun v223 => TUP v223 fun q225 => HD q225 fun v226 r227 => TYI .i64 v226 fun n228 => HD r227 fun v229 r230 => TYI .i64 v229 fun n231 => NL r230 <|
                    BR (n228 != 0)
                      (J_law10_RankNeed_8 W (endK K E) true ⟨s.size, 0, none⟩ (some ⟨B1, 0, none⟩) (some ⟨B2, 0, none⟩) ⟨t7.size, 0, none⟩ (fun vs => N_law10_RankNeed_0 (fun _ n t' => Ext t8 t' ∧ ∃ i : Nat, i ≤ 2 ∧ n = i) (fun _ n _ => (2 - n).toNat) b207 i t9 vs) b207 i)
                      (J_law10_RankNeed_8 W (endK K E) (n231 != 2) ⟨s.size, 0, none⟩ (some ⟨B1, 0, none⟩) (some ⟨B2, 0, none⟩) ⟨t7.size, 0, none⟩ (fun vs => N_law10_RankNeed_0 (fun _ n t' => Ext t8 t' ∧ ∃ i : Nat, i ≤ 2 ∧ n = i) (fun _ n _ => (2 - n).toNat) b207 i t9 vs) b207 i))
                  (fun e224 => endK K E (.panicked e224))) t9 := by
              intro z hz hc
              refine IXS_nat hi2 ⟨_, hc, ?_⟩
              refine rdT (ta3.ext (et.trans f19)) fun x c y c' hx hy => ?_
              refine ⟨_, f19.cell c1, _, f19.cell c2, ?_⟩
              refine c_Need hx hy hlo fun u1 g1 => ?_
              have hnz : needR T a k z = (0, 2) := by unfold needR; rw [if_pos hok, if_neg fun hh => hz hh.2.2]
              rw [hnz]
              try simp only [TUP_mk, AGG_mk, HD_mk, NL_mk, TYI_mk, TYB_mk, TYP_mk, TYL_mk, TYS_mk, TYM_mk, SO_mk, NX_mk, endK_mk, endK_mk', add_0]
              refine BR_ff rfl ?_
              unfold J_law10_RankNeed_8
              refine BR_ff rfl ⟨rfl, _, _, rfl, ⟨f9.trans g1, i + 1, by omega, wrap_succ (by omega)⟩, ?_⟩
              show ((2 : Int) - IntKind.i64.wrap ((i : Int) + 1)).toNat < ((2 : Int) - i).toNat
              rw [wrap_succ (by omega)]; omega
            match i, hi2 with
            | 0, _ => exact bad 0 (by omega) (f9.cell q0.cell)
            | 1, _ => exact bad ((T.n + 1 : Nat) : Int) (by omega) (f9.cell q1.cell)
          unfold J_law10_RankNeed_4
          rw [BR_f]
          refine ⟨_, f16.cell c3, _, cmt f16, ?_⟩
          refine BR_eq (fun h1 => ?_) (fun _ => j3)
          refine ⟨_, f6.cell p0.cell, ?_⟩
          have hre : r = loP T a k := by
            by_cases e : r = loP T a k
            · exact e
            · have h2 := r4 (loP T a k) (Int.le_refl _) (by omega)
              rw [hall (by omega) _ hlh.1 (by omega)] at h2; cases h2
          have hbn : (r != loP T a k) = false := by rw [hre, bne_self_eq_false]
          dsimp only
          rw [hbn]; exact j3
        unfold J_law10_RankNeed_5
        refine BR_ff rfl ⟨_, f35.cell p0.cell, ?_⟩
        refine BR_dec (fun h1 => ?_) (fun _ => j4 t5 f35)
        have w0 : IntKind.wrap .i64 (r - 1) = r - 1 := wrap_i64 (by omega) (by omega)
        rw [w0]
        refine en _ _ _ _ f15 (by omega) (by omega) fun t6 f6 => ?_
        try simp only [TUP_mk, AGG_mk, HD_mk, NL_mk, TYI_mk, TYB_mk, TYP_mk, TYL_mk, TYS_mk, TYM_mk, SO_mk, NX_mk, endK_mk, endK_mk', add_0]
        rw [r4 (r - 1) (by omega) (by omega)]
        exact j4 t6 (f35.trans f6)
    -- any order of the three variables
    repeat' (first | with_reducible refine CONJ_more ?_ ?_ | with_reducible refine CONJ_one ?_ | with_reducible refine nz1 zc_3 fun _ _ _ _ => ?_ | with_reducible refine ANDS_i ?_ ?_ | exact ⟨_, Ext.cell (by repeat (first | exact Ext.refl _ | assumption | refine Ext.trans ?_ (by assumption))) cm, rfl⟩ | exact ⟨_, Ext.cell (by repeat (first | exact Ext.refl _ | assumption | refine Ext.trans ?_ (by assumption))) cs, rfl⟩)
    all_goals refine three_wr (s1 := s3) (by repeat (first | exact Ext.refl _ | assumption | refine Ext.trans ?_ (by assumption))) (by omega) (by omega) (by omega) (by omega) (by omega) (by omega) (by repeat (first | assumption | refine Own.ext ?_ (by assumption))) (by repeat (first | assumption | refine Own.ext ?_ (by assumption))) (by repeat (first | assumption | refine Own.ext ?_ (by assumption))) cm cs fun t' e' c1 c2 c3 => main _ _ _ t' e' c1 c2 c3
end
end Go.Proofs.Ytkgcbfbbcaajpaa.G

/- RankNeed, from any arguments. -/
namespace Go.Proofs.Ytkgcbfbbcaajpaa.G
open Go.V
theorem v_RankNeed {W : World} {s : Hp} {v0 v1 v2 v3 v4 : Value} (k0 : RdV Pg s 25 v0) (k1 : RdV Pg s 5 v1) (k2 : RdV Pg s 5 v2) (k3 : RdV Pg s 5 v3) (k4 : RdV Pg s 5 v4) : CALL Pg W F_law10_RankNeed [v0, v1, v2, v3, v4] (fun v s' => v = .bool true ∧ Ext s s') (fun _ _ => False) s := by
  obtain ⟨x, c, y, c', T, rfl, hx, hy⟩ := table_rd k0
  obtain ⟨u, rfl, hu⟩ := u8_rd k1
  obtain ⟨v, rfl, hv⟩ := u8_rd k2
  obtain ⟨w, rfl, hw⟩ := u8_rd k3
  obtain ⟨q, rfl, hq⟩ := u8_rd k4
  exact w_RankNeed hu hv hw hq hx hy fun s' e => ⟨rfl, e⟩
end Go.Proofs.Ytkgcbfbbcaajpaa.G

/- The row of the statement RankNeed. -/
namespace Go.Proofs.Ytkgcbfbbcaajpaa.rankNeed
open Go.ChangeShapes Go.WideShapes Go.ChangeAt Go.RowKit Go.V
set_option linter.unusedVariables false
theorem own : ownKnob Try.prog.godebug = none := by kernel_rfl
theorem laidOut : laidOutB Try.prog = true := by kernel_rfl
set_option maxRecDepth 100000 in
theorem lifted (os : Os) (started : os.Started) (H : Type) (enc : TypeId × Value → H) :
    ReturnsInHanded {} Try.checked os 9 .any (Rows.rankNeedSpec.pre6 enc Try.prog Try.f9 Rows.rankNeedRow.domain false) (Rows.rankNeedSpec.post enc Try.prog Try.f9 false true false false) := by
  refine returnsInHanded_of_change_sized (C := Try.checked) own started (by kernel_rfl) Try.func9
    (ChangeSpec.witness6 (enc := enc) (C := Try.checked) false ⟨#[], #[(.agg #[(.int .i64 0), (.int .i64 0), (.slice none 0 0), (.slice none 0 0)]), (.int .u8 0), (.int .u8 0), (.int .u8 0), (.int .u8 0)], []⟩ 8 (by kernel_rfl) (by kernel_rfl) (by kernel_rfl) (by kernel_rfl)) ?_
  intro W base args ds gs before hval0 hW hcnd hsz0 _
  have hsz : (DataW.weightsEach Try.prog (Try.f9.params.toList ++ Rows.rankNeedSpec.plain.varTypes Try.prog) (ds ++ gs)).all (· ≤ reachBytes) = true := hsz0
  have hval : ∀ (j : Nat) t v, Try.f9.params[j]? = some t → args[j]? = some v → Value.okWide Try.prog W .any base t v := hval0
  have hW' := hW
  obtain ⟨p, q, hA0, hV, rfl, hfz, hnd⟩ := hW
  have hA : DataW.TrodAll enc Try.prog W 0 (fun _ => true) true Try.f9.params.toList args.toList ds p := hA0
  rw [Try.params9] at hA hval hsz
  obtain ⟨v0, vs0, d0, ds0, p0, q0, hargs, rfl, rfl, h0, r0⟩ := trodAll_cons hA
  obtain ⟨v1, vs1, d1, ds1, p1, q1, rfl, rfl, rfl, h1, r1⟩ := trodAll_cons r0
  obtain ⟨v2, vs2, d2, ds2, p2, q2, rfl, rfl, rfl, h2, r2⟩ := trodAll_cons r1
  obtain ⟨v3, vs3, d3, ds3, p3, q3, rfl, rfl, rfl, h3, r3⟩ := trodAll_cons r2
  obtain ⟨v4, vs4, d4, ds4, p4, q4, rfl, rfl, rfl, h4, r4⟩ := trodAll_cons r3
  obtain ⟨rfl, rfl, rfl⟩ := trodAll_nil r4
  obtain rfl : args = #[v0, v1, v2, v3, v4] := by cases args; simp_all
  obtain ⟨rfl, rfl⟩ := trodVars_none hV
  have k0 := trod_rdV (hval 0 25 v0 rfl rfl) h0
  have lt0 : ∀ x ∈ p0, x.block < W.heap.size := by obtain ⟨m, hm⟩ := h0; exact DataW.trod_lt m _ _ _ hm
  have k1 := trod_rdV (hval 1 5 v1 rfl rfl) h1
  have lt1 : ∀ x ∈ p1, x.block < W.heap.size := by obtain ⟨m, hm⟩ := h1; exact DataW.trod_lt m _ _ _ hm
  have k2 := trod_rdV (hval 2 5 v2 rfl rfl) h2
  have lt2 : ∀ x ∈ p2, x.block < W.heap.size := by obtain ⟨m, hm⟩ := h2; exact DataW.trod_lt m _ _ _ hm
  have k3 := trod_rdV (hval 3 5 v3 rfl rfl) h3
  have lt3 : ∀ x ∈ p3, x.block < W.heap.size := by obtain ⟨m, hm⟩ := h3; exact DataW.trod_lt m _ _ _ hm
  have k4 := trod_rdV (hval 4 5 v4 rfl rfl) h4
  have lt4 : ∀ x ∈ p4, x.block < W.heap.size := by obtain ⟨m, hm⟩ := h4; exact DataW.trod_lt m _ _ _ hm
  refine (calls_of_does (does_of_call (G.v_RankNeed (W := W) (s := W.heap) k0 k1 k2 k3 k4))).mono fun e W' ⟨he, bel⟩ => ?_
  subst he
  exact ⟨_, rfl, _, _, _, [], _, [], hW', trodAll_mk1 (shut_bool Try.underlying4 _), (trodAll_cons_mk (Below.trod laidOut (by kernel_rfl) (of_decide_eq_true (by kernel_rfl)) h0 bel lt0) (trodAll_cons_mk (Below.trod laidOut (by kernel_rfl) (of_decide_eq_true (by kernel_rfl)) h1 bel lt1) (trodAll_cons_mk (Below.trod laidOut (by kernel_rfl) (of_decide_eq_true (by kernel_rfl)) h2 bel lt2) (trodAll_cons_mk (Below.trod laidOut (by kernel_rfl) (of_decide_eq_true (by kernel_rfl)) h3 bel lt3) (trodAll_cons_mk (Below.trod laidOut (by kernel_rfl) (of_decide_eq_true (by kernel_rfl)) h4 bel lt4) trodAll_mk0))))), rfl, bel.frame _, fun h => by cases h⟩
theorem over : Rows.rankNeedRow.holds Try.pinned (OpenSpec.ofChange Rows.rankNeedSpec) :=
  OpenClaim.holds_of_wide 9 Try.f9 rfl rfl rfl rfl rfl rfl rfl ⟨rfl, rfl, rfl, rfl, rfl⟩ rfl rfl rfl rfl rfl (by kernel_rfl) Try.func9 (by kernel_rfl)
    (of_decide_eq_true (by kernel_rfl)) (by unfold Func.isWrapper; first | (rw [if_pos (by decide +kernel)]; kernel_rfl) | (rw [if_neg (by decide +kernel)]; exact ⟨rfl, rfl⟩))
    (fun os started H enc _ => lifted os started H enc)
theorem proved : Rows.RankNeedSaid := over
end Go.Proofs.Ytkgcbfbbcaajpaa.rankNeed
namespace Go.Proofs.Ytkgcbfbbcaajpaa
/-- The row, under a short name. -/
theorem rankNeed_holds : Rows.RankNeedSaid := rankNeed.proved
end Go.Proofs.Ytkgcbfbbcaajpaa
