import Derived.Test.YtfaeokcbfnlgbaaC3
/- A prize more at the end changes none that were given before; with it no fewer can be given, and at most one more; and somebody more, who comes behind all others and has no club, takes no prize that somebody had, if no prize is for a club. -/
/- More of the functions' shallow texts, by gen.py. -/
set_option linter.unusedVariables false
set_option maxRecDepth 100000
namespace Go.Proofs.Ytfaeokcbfnlgbaa.G
open Go.V
def an_13 : Nat → Ann := fun b => match b with
  | _ => {}
abbrev rv_13 : List ResultVar := [.tmp 4]
abbrev rs_13 : List Nat := [20, 4]
def T_law13_far (W : World) (x1 : Option Addr) (l2 : Nat) (c3 : Nat) (x4 : Option Addr) (l5 : Nat) (c6 : Nat) (x7 : Option Addr) (l8 : Nat) (c9 : Nat) (R : Ending → Hp → Prop) : Hp → Prop :=
  NEW 25 [(.slice x1 l2 c3), (.slice x4 l5 c6)] fun B10 =>
    RDL (Addr.add ⟨B10, 0, none⟩ 0) fun x11 l12 c13 =>
      BR (decide ((↑l12 : Int) > 40))
        (R (.returned (.bool true)))
        (RDL (Addr.add ⟨B10, 0, none⟩ 1) fun x14 l15 c16 =>
          BR (decide ((↑l15 : Int) > 40))
            (R (.returned (.bool true)))
            (R (.returned (.bool (decide ((↑l8 : Int) > 40))))))
theorem T_law13_far_eq (W : World) (x1 : Option Addr) (l2 : Nat) (c3 : Nat) (x4 : Option Addr) (l5 : Nat) (c6 : Nat) (x7 : Option Addr) (l8 : Nat) (c9 : Nat) (R : Ending → Hp → Prop) : vfun Pg W an_13 Try.f13 [(.agg #[(.slice x1 l2 c3), (.slice x4 l5 c6)]), (.slice x7 l8 c9)] R = T_law13_far W x1 l2 c3 x4 l5 c6 x7 l8 c9 R := by kernel_rfl
theorem does_law13_far (W : World) (x1 : Option Addr) (l2 : Nat) (c3 : Nat) (x4 : Option Addr) (l5 : Nat) (c6 : Nat) (x7 : Option Addr) (l8 : Nat) (c9 : Nat) (R : Ending → Hp → Prop) (s : Hp) (h : T_law13_far W x1 l2 c3 x4 l5 c6 x7 l8 c9 R s) : Does Pg W F_law13_far #[(.agg #[(.slice x1 l2 c3), (.slice x4 l5 c6)]), (.slice x7 l8 c9)] s R :=
  does_of_vfun Pg W an_13 Try.func13 rfl (by kernel_rfl) (by rw [T_law13_far_eq]; exact h)
def an_41 : Nat → Ann := fun b => match b with
  | _ => {}
abbrev rv_41 : List ResultVar := [.cell 0 25]
abbrev rs_41 : List Nat := [14, 0]
def T_law13_sample (W : World) (R : Ending → Hp → Prop) : Hp → Prop :=
  NEWZ Pg 25 fun B1 =>
    NEW 48 [(.int .i64 2), (.int .i64 1), (.bool false), (.bool false), (.int .i64 1), (.int .i64 2), (.bool false), (.bool false), (.int .i64 3), (.int .i64 1), (.bool true), (.bool false), (.int .i64 5), (.int .i64 0), (.bool true), (.bool true), (.int .i64 4), (.int .i64 2), (.bool false), (.bool true)] fun B2 =>
      NEW 50 [(.int .i64 0), (.int .i64 100), (.int .i64 1), (.int .i64 50), (.int .i64 4), (.int .i64 80), (.int .i64 2), (.int .i64 40), (.int .i64 3), (.int .i64 20)] fun B3 =>
        WR (Addr.add ⟨B1, 0, none⟩ 0) (.slice (some ⟨B2, 0, none⟩) 5 5) <|
          WR (Addr.add ⟨B1, 0, none⟩ 1) (.slice (some ⟨B3, 0, none⟩) 5 5) <|
            RDL (Addr.add ⟨B1, 0, none⟩ 0) fun x4 l5 c6 =>
              RDL (Addr.add ⟨B1, 0, none⟩ 1) fun x7 l8 c9 =>
                R (.returned (.agg #[(.slice x4 l5 c6), (.slice x7 l8 c9)]))
theorem T_law13_sample_eq (W : World) (R : Ending → Hp → Prop) : vfun Pg W an_41 Try.f41 [] R = T_law13_sample W R := by kernel_rfl
theorem does_law13_sample (W : World) (R : Ending → Hp → Prop) (s : Hp) (h : T_law13_sample W R s) : Does Pg W F_law13_sample #[] s R :=
  does_of_vfun Pg W an_41 Try.func41 rfl (by kernel_rfl) (by rw [T_law13_sample_eq]; exact h)
end Go.Proofs.Ytfaeokcbfnlgbaa.G

/- More of the functions' shallow texts, by gen.py. -/
set_option linter.unusedVariables false
set_option maxRecDepth 100000
namespace Go.Proofs.Ytfaeokcbfnlgbaa.G
open Go.V
def an_14 : Nat → Ann := fun b => match b with
  | _ => {}
abbrev rv_14 : List ResultVar := [.tmp 0]
abbrev rs_14 : List Nat := [147, 0]
def J_law13_awake_0 (W : World) (R : Ending → Hp → Prop) (b212 : Bool) (n151 : Int) (n170 : Int) (n173 : Int) (n192 : Int) (n195 : Int) : Hp → Prop :=
  BR b212
    (BR (n151 == 0)
      (BR (n170 == 24)
        (BR (n173 == 0)
          (BR (n192 == 3)
            (R (.returned (.bool (n195 == 0))))
            (R (.returned (.bool false))))
          (R (.returned (.bool false))))
        (R (.returned (.bool false))))
      (R (.returned (.bool false))))
    (R (.returned (.bool false)))
def J_law13_awake_1 (W : World) (R : Ending → Hp → Prop) (b207 : Bool) (n143 : Int) (x146 : Option Addr) (l147 : Nat) (c148 : Nat) (n151 : Int) (n170 : Int) (n173 : Int) (n192 : Int) (n195 : Int) : Hp → Prop :=
  BR b207
    (R (.returned (.bool false)))
    (BR (n143 == 5)
      (NEW 3 [(.int .i64 0), (.int .i64 2), (.int .i64 1), (.int .i64 4), (.int .i64 3)] fun B208 =>
        CALL Pg W F_ref13_Ints [(.slice x146 l147 c148), (.slice (some ⟨B208, 0, none⟩) 5 5)]
          (fun v209 => TYB v209 fun b211 =>
            J_law13_awake_0 W R b211 n151 n170 n173 n192 n195)
            (fun e210 => R (.panicked e210)))
      (J_law13_awake_0 W R false n151 n170 n173 n192 n195))
def J_law13_awake_2 (W : World) (R : Ending → Hp → Prop) (b206 : Bool) (n143 : Int) (x146 : Option Addr) (l147 : Nat) (c148 : Nat) (n151 : Int) (n170 : Int) (n173 : Int) (n192 : Int) (n195 : Int) (n124 : Int) : Hp → Prop :=
  BR b206
    (J_law13_awake_1 W R true n143 x146 l147 c148 n151 n170 n173 n192 n195)
    (J_law13_awake_1 W R (n124 != 0) n143 x146 l147 c148 n151 n170 n173 n192 n195)
def J_law13_awake_3 (W : World) (R : Ending → Hp → Prop) (b205 : Bool) (n143 : Int) (x146 : Option Addr) (l147 : Nat) (c148 : Nat) (n151 : Int) (n170 : Int) (n173 : Int) (n192 : Int) (n195 : Int) (n124 : Int) (n121 : Int) : Hp → Prop :=
  BR b205
    (J_law13_awake_2 W R true n143 x146 l147 c148 n151 n170 n173 n192 n195 n124)
    (J_law13_awake_2 W R (n121 != 290) n143 x146 l147 c148 n151 n170 n173 n192 n195 n124)
def J_law13_awake_4 (W : World) (R : Ending → Hp → Prop) (b204 : Bool) (n143 : Int) (x146 : Option Addr) (l147 : Nat) (c148 : Nat) (n151 : Int) (n170 : Int) (n173 : Int) (n192 : Int) (n195 : Int) (n124 : Int) (n121 : Int) (x116 : Option Addr) (l117 : Nat) (c118 : Nat) : Hp → Prop :=
  BR b204
    (J_law13_awake_3 W R true n143 x146 l147 c148 n151 n170 n173 n192 n195 n124 n121)
    (NEW 3 [(.int .i64 80), (.int .i64 100), (.int .i64 50), (.int .i64 20), (.int .i64 40)] fun B213 =>
      CALL Pg W F_ref13_Ints [(.slice x116 l117 c118), (.slice (some ⟨B213, 0, none⟩) 5 5)]
        (fun v214 => TYB v214 fun b216 =>
          J_law13_awake_3 W R (!b216) n143 x146 l147 c148 n151 n170 n173 n192 n195 n124 n121)
          (fun e215 => R (.panicked e215)))
def J_law13_awake_5 (W : World) (R : Ending → Hp → Prop) (b203 : Bool) (n143 : Int) (x146 : Option Addr) (l147 : Nat) (c148 : Nat) (n151 : Int) (n170 : Int) (n173 : Int) (n192 : Int) (n195 : Int) (n124 : Int) (n121 : Int) (x116 : Option Addr) (l117 : Nat) (c118 : Nat) (n97 : Int) : Hp → Prop :=
  BR b203
    (J_law13_awake_4 W R true n143 x146 l147 c148 n151 n170 n173 n192 n195 n124 n121 x116 l117 c118)
    (J_law13_awake_4 W R (n97 != 0) n143 x146 l147 c148 n151 n170 n173 n192 n195 n124 n121 x116 l117 c118)
def J_law13_awake_6 (W : World) (R : Ending → Hp → Prop) (b202 : Bool) (n143 : Int) (x146 : Option Addr) (l147 : Nat) (c148 : Nat) (n151 : Int) (n170 : Int) (n173 : Int) (n192 : Int) (n195 : Int) (n124 : Int) (n121 : Int) (x116 : Option Addr) (l117 : Nat) (c118 : Nat) (n97 : Int) (n94 : Int) : Hp → Prop :=
  BR b202
    (J_law13_awake_5 W R true n143 x146 l147 c148 n151 n170 n173 n192 n195 n124 n121 x116 l117 c118 n97)
    (J_law13_awake_5 W R (n94 != 5) n143 x146 l147 c148 n151 n170 n173 n192 n195 n124 n121 x116 l117 c118 n97)
def J_law13_awake_7 (W : World) (R : Ending → Hp → Prop) (b201 : Bool) (n143 : Int) (x146 : Option Addr) (l147 : Nat) (c148 : Nat) (n151 : Int) (n170 : Int) (n173 : Int) (n192 : Int) (n195 : Int) (n124 : Int) (n121 : Int) (x116 : Option Addr) (l117 : Nat) (c118 : Nat) (n97 : Int) (n94 : Int) (n91 : Int) : Hp → Prop :=
  BR b201
    (J_law13_awake_6 W R true n143 x146 l147 c148 n151 n170 n173 n192 n195 n124 n121 x116 l117 c118 n97 n94)
    (J_law13_awake_6 W R (n91 != 1) n143 x146 l147 c148 n151 n170 n173 n192 n195 n124 n121 x116 l117 c118 n97 n94)
def J_law13_awake_8 (W : World) (R : Ending → Hp → Prop) (b200 : Bool) (n143 : Int) (x146 : Option Addr) (l147 : Nat) (c148 : Nat) (n151 : Int) (n170 : Int) (n173 : Int) (n192 : Int) (n195 : Int) (n124 : Int) (n121 : Int) (x116 : Option Addr) (l117 : Nat) (c118 : Nat) (n97 : Int) (n94 : Int) (n91 : Int) (n72 : Int) : Hp → Prop :=
  BR b200
    (J_law13_awake_7 W R true n143 x146 l147 c148 n151 n170 n173 n192 n195 n124 n121 x116 l117 c118 n97 n94 n91)
    (J_law13_awake_7 W R (n72 != 0) n143 x146 l147 c148 n151 n170 n173 n192 n195 n124 n121 x116 l117 c118 n97 n94 n91)
def J_law13_awake_9 (W : World) (R : Ending → Hp → Prop) (b199 : Bool) (n143 : Int) (x146 : Option Addr) (l147 : Nat) (c148 : Nat) (n151 : Int) (n170 : Int) (n173 : Int) (n192 : Int) (n195 : Int) (n124 : Int) (n121 : Int) (x116 : Option Addr) (l117 : Nat) (c118 : Nat) (n97 : Int) (n94 : Int) (n91 : Int) (n72 : Int) (n69 : Int) : Hp → Prop :=
  BR b199
    (J_law13_awake_8 W R true n143 x146 l147 c148 n151 n170 n173 n192 n195 n124 n121 x116 l117 c118 n97 n94 n91 n72)
    (J_law13_awake_8 W R (n69 != 3) n143 x146 l147 c148 n151 n170 n173 n192 n195 n124 n121 x116 l117 c118 n97 n94 n91 n72)
def J_law13_awake_10 (W : World) (R : Ending → Hp → Prop) (b198 : Bool) (n143 : Int) (x146 : Option Addr) (l147 : Nat) (c148 : Nat) (n151 : Int) (n170 : Int) (n173 : Int) (n192 : Int) (n195 : Int) (n124 : Int) (n121 : Int) (x116 : Option Addr) (l117 : Nat) (c118 : Nat) (n97 : Int) (n94 : Int) (n91 : Int) (n72 : Int) (n69 : Int) (n66 : Int) : Hp → Prop :=
  BR b198
    (J_law13_awake_9 W R true n143 x146 l147 c148 n151 n170 n173 n192 n195 n124 n121 x116 l117 c118 n97 n94 n91 n72 n69)
    (J_law13_awake_9 W R (n66 != 4) n143 x146 l147 c148 n151 n170 n173 n192 n195 n124 n121 x116 l117 c118 n97 n94 n91 n72 n69)
def J_law13_awake_11 (W : World) (R : Ending → Hp → Prop) (b197 : Bool) (n143 : Int) (x146 : Option Addr) (l147 : Nat) (c148 : Nat) (n151 : Int) (n170 : Int) (n173 : Int) (n192 : Int) (n195 : Int) (n124 : Int) (n121 : Int) (x116 : Option Addr) (l117 : Nat) (c118 : Nat) (n97 : Int) (n94 : Int) (n91 : Int) (n72 : Int) (n69 : Int) (n66 : Int) (n46 : Int) : Hp → Prop :=
  BR b197
    (J_law13_awake_10 W R true n143 x146 l147 c148 n151 n170 n173 n192 n195 n124 n121 x116 l117 c118 n97 n94 n91 n72 n69 n66)
    (J_law13_awake_10 W R (n46 != 0) n143 x146 l147 c148 n151 n170 n173 n192 n195 n124 n121 x116 l117 c118 n97 n94 n91 n72 n69 n66)
def J_law13_awake_12 (W : World) (R : Ending → Hp → Prop) (b196 : Bool) (n143 : Int) (x146 : Option Addr) (l147 : Nat) (c148 : Nat) (n151 : Int) (n170 : Int) (n173 : Int) (n192 : Int) (n195 : Int) (n124 : Int) (n121 : Int) (x116 : Option Addr) (l117 : Nat) (c118 : Nat) (n97 : Int) (n94 : Int) (n91 : Int) (n72 : Int) (n69 : Int) (n66 : Int) (n46 : Int) (x41 : Option Addr) (l42 : Nat) (c43 : Nat) : Hp → Prop :=
  BR b196
    (J_law13_awake_11 W R true n143 x146 l147 c148 n151 n170 n173 n192 n195 n124 n121 x116 l117 c118 n97 n94 n91 n72 n69 n66 n46)
    (NEW 3 [(.int .i64 1), (.int .i64 2), (.int .i64 0), (.int .i64 4), (.int .i64 3)] fun B217 =>
      CALL Pg W F_ref13_Ints [(.slice x41 l42 c43), (.slice (some ⟨B217, 0, none⟩) 5 5)]
        (fun v218 => TYB v218 fun b220 =>
          J_law13_awake_11 W R (!b220) n143 x146 l147 c148 n151 n170 n173 n192 n195 n124 n121 x116 l117 c118 n97 n94 n91 n72 n69 n66 n46)
          (fun e219 => R (.panicked e219)))
def T_law13_awake (W : World) (R : Ending → Hp → Prop) : Hp → Prop :=
  CALL Pg W F_law13_sample []
    (fun v1 => AGG v1 fun q3 => HD q3 fun v4 r5 => TYL v4 fun x6 l7 c8 =>
      HD r5 fun v9 r10 => TYL v9 fun x11 l12 c13 =>
        NL r10 <|
          CALL Pg W F_prize_Can [(.agg #[(.slice x6 l7 c8), (.slice x11 l12 c13)]), (.int .i64 3), (.int .i64 2)]
            (fun v14 => TUP v14 fun q16 => HD q16 fun v17 r18 => TYB v17 fun b19 =>
              HD r18 fun v20 r21 => TYI .i64 v20 fun n22 =>
                NL r21 <|
                  CALL Pg W F_law13_sample []
                    (fun v23 => AGG v23 fun q25 => HD q25 fun v26 r27 => TYL v26 fun x28 l29 c30 =>
                      HD r27 fun v31 r32 => TYL v31 fun x33 l34 c35 =>
                        NL r32 <|
                          CALL Pg W F_prize_Due [(.agg #[(.slice x28 l29 c30), (.slice x33 l34 c35)])]
                            (fun v36 => TUP v36 fun q38 => HD q38 fun v39 r40 => TYL v39 fun x41 l42 c43 =>
                              HD r40 fun v44 r45 => TYI .i64 v44 fun n46 =>
                                NL r45 <|
                                  CALL Pg W F_law13_sample []
                                    (fun v47 => AGG v47 fun q49 => HD q49 fun v50 r51 => TYL v50 fun x52 l53 c54 =>
                                      HD r51 fun v55 r56 => TYL v55 fun x57 l58 c59 =>
                                        NL r56 <|
                                          NEW 3 [(.int .i64 1), (.int .i64 2), (.int .i64 0), (.int .i64 4), (.int .i64 (-1))] fun B60 =>
                                            CALL Pg W F_prize_Wrong [(.agg #[(.slice x52 l53 c54), (.slice x57 l58 c59)]), (.slice (some ⟨B60, 0, none⟩) 5 5)]
                                              (fun v61 => TUP v61 fun q63 => HD q63 fun v64 r65 => TYI .i64 v64 fun n66 =>
                                                HD r65 fun v67 r68 => TYI .i64 v67 fun n69 =>
                                                  HD r68 fun v70 r71 => TYI .i64 v70 fun n72 =>
                                                    NL r71 <|
                                                      CALL Pg W F_law13_sample []
                                                        (fun v73 => AGG v73 fun q75 => HD q75 fun v76 r77 => TYL v76 fun x78 l79 c80 =>
                                                          HD r77 fun v81 r82 => TYL v81 fun x83 l84 c85 =>
                                                            NL r82 <|
                                                              CALL Pg W F_prize_Club [(.agg #[(.slice x78 l79 c80), (.slice x83 l84 c85)])]
                                                                (fun v86 => TUP v86 fun q88 => HD q88 fun v89 r90 => TYI .i64 v89 fun n91 =>
                                                                  HD r90 fun v92 r93 => TYI .i64 v92 fun n94 =>
                                                                    HD r93 fun v95 r96 => TYI .i64 v95 fun n97 =>
                                                                      NL r96 <|
                                                                        CALL Pg W F_law13_sample []
                                                                          (fun v98 => AGG v98 fun q100 => HD q100 fun v101 r102 => TYL v101 fun x103 l104 c105 =>
                                                                            HD r102 fun v106 r107 => TYL v106 fun x108 l109 c110 =>
                                                                              NL r107 <|
                                                                                CALL Pg W F_prize_Worth [(.agg #[(.slice x103 l104 c105), (.slice x108 l109 c110)]), (.slice x41 l42 c43)]
                                                                                  (fun v111 => TUP v111 fun q113 => HD q113 fun v114 r115 => TYL v114 fun x116 l117 c118 =>
                                                                                    HD r115 fun v119 r120 => TYI .i64 v119 fun n121 =>
                                                                                      HD r120 fun v122 r123 => TYI .i64 v122 fun n124 =>
                                                                                        NL r123 <|
                                                                                          CALL Pg W F_law13_sample []
                                                                                            (fun v125 => AGG v125 fun q127 => HD q127 fun v128 r129 => TYL v128 fun x130 l131 c132 =>
                                                                                              HD r129 fun v133 r134 => TYL v133 fun x135 l136 c137 =>
                                                                                                NL r134 <|
                                                                                                  CALL Pg W F_prize_Most [(.agg #[(.slice x130 l131 c132), (.slice x135 l136 c137)])]
                                                                                                    (fun v138 => TUP v138 fun q140 => HD q140 fun v141 r142 => TYI .i64 v141 fun n143 =>
                                                                                                      HD r142 fun v144 r145 => TYL v144 fun x146 l147 c148 =>
                                                                                                        HD r145 fun v149 r150 => TYI .i64 v149 fun n151 =>
                                                                                                          NL r150 <|
                                                                                                            CALL Pg W F_law13_sample []
                                                                                                              (fun v152 => AGG v152 fun q154 => HD q154 fun v155 r156 => TYL v155 fun x157 l158 c159 =>
                                                                                                                HD r156 fun v160 r161 => TYL v160 fun x162 l163 c164 =>
                                                                                                                  NL r161 <|
                                                                                                                    CALL Pg W F_prize_Stay [(.agg #[(.slice x157 l158 c159), (.slice x162 l163 c164)]), (.int .i64 0)]
                                                                                                                      (fun v165 => TUP v165 fun q167 => HD q167 fun v168 r169 => TYI .i64 v168 fun n170 =>
                                                                                                                        HD r169 fun v171 r172 => TYI .i64 v171 fun n173 =>
                                                                                                                          NL r172 <|
                                                                                                                            CALL Pg W F_law13_sample []
                                                                                                                              (fun v174 => AGG v174 fun q176 => HD q176 fun v177 r178 => TYL v177 fun x179 l180 c181 =>
                                                                                                                                HD r178 fun v182 r183 => TYL v182 fun x184 l185 c186 =>
                                                                                                                                  NL r183 <|
                                                                                                                                    CALL Pg W F_prize_For [(.agg #[(.slice x179 l180 c181), (.slice x184 l185 c186)]), (.int .i64 0)]
                                                                                                                                      (fun v187 => TUP v187 fun q189 => HD q189 fun v190 r191 => TYI .i64 v190 fun n192 =>
                                                                                                                                        HD r191 fun v193 r194 => TYI .i64 v193 fun n195 =>
                                                                                                                                          NL r194 <|
                                                                                                                                            BR b19
                                                                                                                                              (J_law13_awake_12 W R true n143 x146 l147 c148 n151 n170 n173 n192 n195 n124 n121 x116 l117 c118 n97 n94 n91 n72 n69 n66 n46 x41 l42 c43)
                                                                                                                                              (J_law13_awake_12 W R (n22 != 0) n143 x146 l147 c148 n151 n170 n173 n192 n195 n124 n121 x116 l117 c118 n97 n94 n91 n72 n69 n66 n46 x41 l42 c43))
                                                                                                                                        (fun e188 => R (.panicked e188)))
                                                                                                                                (fun e175 => R (.panicked e175)))
                                                                                                                        (fun e166 => R (.panicked e166)))
                                                                                                                (fun e153 => R (.panicked e153)))
                                                                                                      (fun e139 => R (.panicked e139)))
                                                                                              (fun e126 => R (.panicked e126)))
                                                                                    (fun e112 => R (.panicked e112)))
                                                                            (fun e99 => R (.panicked e99)))
                                                                  (fun e87 => R (.panicked e87)))
                                                          (fun e74 => R (.panicked e74)))
                                                (fun e62 => R (.panicked e62)))
                                      (fun e48 => R (.panicked e48)))
                              (fun e37 => R (.panicked e37)))
                      (fun e24 => R (.panicked e24)))
              (fun e15 => R (.panicked e15)))
      (fun e2 => R (.panicked e2))
theorem T_law13_awake_eq (W : World) (R : Ending → Hp → Prop) : vfun Pg W an_14 Try.f14 [] R = T_law13_awake W R := by kernel_rfl
theorem does_law13_awake (W : World) (R : Ending → Hp → Prop) (s : Hp) (h : T_law13_awake W R s) : Does Pg W F_law13_awake #[] s R :=
  does_of_vfun Pg W an_14 Try.func14 rfl (by kernel_rfl) (by rw [T_law13_awake_eq]; exact h)
end Go.Proofs.Ytfaeokcbfnlgbaa.G

/- Prize: what the document fixes. -/
set_option linter.unusedSimpArgs false
set_option linter.unusedVariables false
set_option maxRecDepth 20000
namespace Go.Proofs.Ytfaeokcbfnlgbaa.G
open Go.V
def pz2 (m : Pz) : List Value := [.int .i64 m.kind, .int .i64 m.worth]
def pzV (l : List Pz) : List Value := l.flatMap pz2
theorem pzV_len : ∀ l : List Pz, (pzV l).length = l.length * 2
  | [] => rfl
  | x :: l => by
    have ih := pzV_len l
    show (pz2 x ++ pzV l).length = _
    rw [List.length_append, ih, List.length_cons]
    show 2 + _ = _
    omega
theorem pzV_one (l : List Pz) : ∀ v ∈ pzV l, oneCell v = true := by
  intro v hv
  obtain ⟨m, _, h⟩ := List.mem_flatMap.1 hv
  simp [pz2] at h
  rcases h with rfl | rfl <;> rfl
theorem pzV_get : ∀ (l : List Pz) (k : Nat) (h : k < l.length), (pzV l)[k * 2]? = some (.int .i64 l[k].kind) ∧ (pzV l)[k * 2 + 1]? = some (.int .i64 l[k].worth)
  | [], k, h => by simp at h
  | x :: l, 0, h => ⟨rfl, rfl⟩
  | x :: l, k + 1, h => by
    obtain ⟨h1, h2⟩ := pzV_get l k (by simpa using h)
    have e : ∀ j : Nat, (pzV (x :: l))[2 + j]? = (pzV l)[j]? := fun j => by
      show (pz2 x ++ pzV l)[2 + j]? = _
      rw [List.getElem?_append_right (show (pz2 x).length ≤ 2 + j by show 2 ≤ _; omega)]
      congr 1
      show 2 + j - 2 = j
      omega
    refine ⟨?_, ?_⟩
    · rw [show (k + 1) * 2 = 2 + k * 2 by omega, e, h1]; rfl
    · rw [show (k + 1) * 2 + 1 = 2 + (k * 2 + 1) by omega, e, h2]; rfl
theorem row_pz {s : Hp} {x : Option Addr} {l : List Pz} (h : RowAt s x (pzV l)) : PzAt s x l := fun i hi => by
  obtain ⟨g1, g2⟩ := pzV_get l i hi
  obtain ⟨a, h0, h1⟩ := row_get h g1
  obtain ⟨b, k0, h2⟩ := row_get h g2
  rw [h0] at k0; cases k0
  exact ⟨a, h0, by rw [addr_add]; exact h1, by rw [addr_add]; exact h2⟩
theorem pz_row' {s : Hp} {x : Option Addr} {l : List Pz} (h : PzAt s x l) : RowAt s x (pzV l) := fun i hi => by
  have hi' := hi
  rw [pzV_len] at hi'
  have hk : i / 2 < l.length := by omega
  obtain ⟨a, h0, h1, h2⟩ := h (i / 2) hk
  obtain ⟨g1, g2⟩ := pzV_get l (i / 2) hk
  refine ⟨a, h0, ?_⟩
  rw [Nat.mul_one]
  rcases Nat.mod_two_eq_zero_or_one i with e | e
  · have e' : i / 2 * 2 = i := by omega
    rw [addr_add] at h1
    simp only [e', Nat.add_zero] at h1 g1
    rw [h1, ← g1, List.getElem?_eq_getElem hi]
  · have e' : i / 2 * 2 + 1 = i := by omega
    rw [addr_add] at h2
    simp only [e'] at h2 g2
    rw [h2, ← g2, List.getElem?_eq_getElem hi]
/-- The prizes of the document's examples. -/
def SP : PT := ⟨[⟨2, 1, false, false⟩, ⟨1, 2, false, false⟩, ⟨3, 1, true, false⟩, ⟨5, 0, true, true⟩, ⟨4, 2, false, true⟩], [⟨0, 100⟩, ⟨1, 50⟩, ⟨4, 80⟩, ⟨2, 40⟩, ⟨3, 20⟩]⟩
theorem sp_can : canR SP 3 2 = (false, 0) := by decide +kernel
theorem sp_due : dueR SP = ([1, 2, 0, 4, 3], 0) := by decide +kernel
theorem sp_wrong : wrongR SP [1, 2, 0, 4, -1] = (4, 3, 0) := by decide +kernel
theorem sp_club : clubR SP = (1, 5, 0) := by decide +kernel
theorem sp_worth : worthR SP [1, 2, 0, 4, 3] = ([80, 100, 50, 20, 40], 290, 0) := by decide +kernel
theorem sp_most : mostR SP = (5, [0, 2, 1, 4, 3], 0) := by decide +kernel
theorem sp_stay : stayR SP 0 = (24, 0) := by decide +kernel
theorem sp_for : forR SP 0 = (3, 0) := by decide +kernel
section
variable {W : World} {K : VK} {E : List PanicEntry → Hp → Prop} {s : Hp} {T : PT}
theorem c_far {x y q : Option Addr} {c c' l cq : Nat} (h : ∀ s' b, Ext s s' → (b = false → T.n ≤ 40 ∧ T.z ≤ 40 ∧ l ≤ 40) → K (.bool b) s') :
    CALL Pg W F_law13_far [.agg #[.slice x T.n c, .slice y T.z c'], .slice q l cq] K E s := by
  refine does_law13_far W x T.n c y T.z c' q l cq _ s ?_
  unfold T_law13_far
  refine ne2 fun s1 e1 z1 o1 o2 => ?_
  refine ⟨_, _, _, o1.cell, ?_⟩
  refine BR_dec (fun h1 => h s1 true e1 (fun hh => by cases hh)) (fun h1 => ?_)
  refine ⟨_, _, _, o2.cell, ?_⟩
  refine BR_dec (fun h2 => h s1 true e1 (fun hh => by cases hh)) (fun h2 => ?_)
  exact h s1 _ e1 (fun hh => by have := of_decide_eq_false hh; omega)
theorem wr2 {a : Addr} {v0 v1 : Value} {K : Hp → Prop} (h0 : oneCell v0 = true) (h1 : oneCell v1 = true) (ha : ∀ j, j < 2 → ∃ y, Own s (a.add j) y) (h : ∀ s', Kp (· = a.block) s s' → s'.size = s.size → Own s' (a.add 0) v0 → Own s' (a.add 1) v1 → K s') :
    (WR (a.add 0) v0 <| WR (a.add 1) v1 <| K) s := by
  show wrN [v0, v1] a 0 K s
  refine wrN_rule _ a 0 K s (fun i hi => ?_) ?_ ?_
  · rw [Nat.zero_add]; exact ha i hi
  · intro w hw
    simp at hw
    rcases hw with rfl | rfl <;> assumption
  · intro s' k z ho _
    exact h s' k z (ho 0 (by simp)) (ho 1 (by simp))
theorem c_sample (h : ∀ s' x y, Ext s s' → MnAt s' x SP.men → PzAt s' y SP.list → K (.agg #[.slice x 5 5, .slice y 5 5]) s') : CALL Pg W F_law13_sample [] K E s := by
  refine does_law13_sample W _ s ?_
  unfold T_law13_sample
  refine nz2 zc_25 fun s1 e1 z1 q1 q2 => ?_
  refine NEW_rule fun s2 e2 z2 n2 _ => ?_
  refine NEW_rule fun s3 e3 z3 n3 _ => ?_
  have e13 := e2.trans e3
  have hs12 : s.size < s1.size := by omega
  refine wr2 (a := ⟨s.size, 0, none⟩) rfl rfl (fun j hj => ?_) fun t k z o0 o1 => ?_
  · match j, hj with
    | 0, _ => exact ⟨_, e13.own q1⟩
    | 1, _ => exact ⟨_, e13.own q2⟩
  · refine ⟨_, _, _, o0.cell, _, _, _, o1.cell, ?_⟩
    refine h t _ _ (ext_kp (e1.trans e13) (Nat.le_refl _) k) (row_mn ?_) (row_pz ?_)
    · exact ((row_new (vs := mnV SP.men) n2).ext e3).keep k (fun a ha => by cases ha; show ¬ s1.size = s.size; omega)
    · exact (row_new (vs := pzV SP.list) n3).keep k (fun a ha => by cases ha; show ¬ s2.size = s.size; have := e2.1; omega)
theorem x_Can {x y : Option Addr} {c c' : Nat} (hx : MnAt s x SP.men) (hy : PzAt s y SP.list) (h : ∀ s', Ext s s' → K (.tuple #[.bool false, .int .i64 0]) s') : CALL Pg W F_prize_Can [.agg #[.slice x 5 c, .slice y 5 c'], .int .i64 3, .int .i64 2] K E s :=
  c_Can (T := SP) (m := 3) (z := 2) hx hy (by rw [sp_can]; exact h)
theorem x_Due {x y : Option Addr} {c c' : Nat} (hx : MnAt s x SP.men) (hy : PzAt s y SP.list) (h : ∀ s' q cq, Ext s s' → RowAt s' q (ints [1, 2, 0, 4, 3]) → K (.tuple #[.slice q 5 cq, .int .i64 0]) s') : CALL Pg W F_prize_Due [.agg #[.slice x 5 c, .slice y 5 c']] K E s :=
  c_Due (T := SP) hx hy (by rw [sp_due]; exact fun s' q cq e f => h s' q cq e f.row)
theorem x_Wrong {x y q : Option Addr} {c c' cq : Nat} (hx : MnAt s x SP.men) (hy : PzAt s y SP.list) (hq : RowAt s q (ints [1, 2, 0, 4, -1])) (h : ∀ s', Ext s s' → K (.tuple #[.int .i64 4, .int .i64 3, .int .i64 0]) s') : CALL Pg W F_prize_Wrong [.agg #[.slice x 5 c, .slice y 5 c'], .slice q 5 cq] K E s :=
  c_Wrong (T := SP) (ds := [1, 2, 0, 4, -1]) hx hy hq (by rw [sp_wrong]; exact h)
theorem x_Club {x y : Option Addr} {c c' : Nat} (hx : MnAt s x SP.men) (hy : PzAt s y SP.list) (h : ∀ s', Ext s s' → K (.tuple #[.int .i64 1, .int .i64 5, .int .i64 0]) s') : CALL Pg W F_prize_Club [.agg #[.slice x 5 c, .slice y 5 c']] K E s :=
  c_Club (T := SP) hx hy (by rw [sp_club]; exact h)
theorem x_Worth {x y q : Option Addr} {c c' cq : Nat} (hx : MnAt s x SP.men) (hy : PzAt s y SP.list) (hq : RowAt s q (ints [1, 2, 0, 4, 3])) (h : ∀ s' w cw, Ext s s' → RowAt s' w (ints [80, 100, 50, 20, 40]) → K (.tuple #[.slice w 5 cw, .int .i64 290, .int .i64 0]) s') : CALL Pg W F_prize_Worth [.agg #[.slice x 5 c, .slice y 5 c'], .slice q 5 cq] K E s :=
  c_Worth (T := SP) (ds := [1, 2, 0, 4, 3]) hx hy hq (by rw [sp_worth]; exact fun s' w cw e f => h s' w cw e f.row)
theorem x_Most {x y : Option Addr} {c c' : Nat} (hx : MnAt s x SP.men) (hy : PzAt s y SP.list) (h : ∀ s' q cq, Ext s s' → RowAt s' q (ints [0, 2, 1, 4, 3]) → K (.tuple #[.int .i64 5, .slice q 5 cq, .int .i64 0]) s') : CALL Pg W F_prize_Most [.agg #[.slice x 5 c, .slice y 5 c']] K E s :=
  c_Most (T := SP) hx hy (by rw [sp_most]; exact fun s' q cq e f => h s' q cq e f.row)
theorem x_Stay {x y : Option Addr} {c c' : Nat} (hx : MnAt s x SP.men) (hy : PzAt s y SP.list) (h : ∀ s', Ext s s' → K (.tuple #[.int .i64 24, .int .i64 0]) s') : CALL Pg W F_prize_Stay [.agg #[.slice x 5 c, .slice y 5 c'], .int .i64 0] K E s :=
  c_Stay (T := SP) (m := 0) hx hy (by rw [sp_stay]; exact h)
theorem x_For {x y : Option Addr} {c c' : Nat} (hx : MnAt s x SP.men) (hy : PzAt s y SP.list) (h : ∀ s', Ext s s' → K (.tuple #[.int .i64 3, .int .i64 0]) s') : CALL Pg W F_prize_For [.agg #[.slice x 5 c, .slice y 5 c'], .int .i64 0] K E s :=
  c_For (T := SP) (m := 0) hx hy (by rw [sp_for]; exact h)
theorem c_awake (h : ∀ s', Ext s s' → K (.bool true) s') : CALL Pg W F_law13_awake [] K E s := by
  refine does_law13_awake W _ s ?_
  unfold T_law13_awake
  refine c_sample fun s1 x1 y1 e1 r1 q1 => ?_
  try simp only [TUP_mk, AGG_mk, HD_mk, NL_mk, TYI_mk, TYB_mk, TYP_mk, TYL_mk, TYS_mk, TYM_mk, SO_mk, NX_mk, endK_mk, endK_mk', add_0]
  refine x_Can r1 q1 fun s2 e2 => ?_
  try simp only [TUP_mk, AGG_mk, HD_mk, NL_mk, TYI_mk, TYB_mk, TYP_mk, TYL_mk, TYS_mk, TYM_mk, SO_mk, NX_mk, endK_mk, endK_mk', add_0]
  refine c_sample fun s3 x3 y3 e3 r3 q3 => ?_
  try simp only [TUP_mk, AGG_mk, HD_mk, NL_mk, TYI_mk, TYB_mk, TYP_mk, TYL_mk, TYS_mk, TYM_mk, SO_mk, NX_mk, endK_mk, endK_mk', add_0]
  refine x_Due r3 q3 fun s4 d4 cd4 e4 w4 => ?_
  try simp only [TUP_mk, AGG_mk, HD_mk, NL_mk, TYI_mk, TYB_mk, TYP_mk, TYL_mk, TYS_mk, TYM_mk, SO_mk, NX_mk, endK_mk, endK_mk', add_0]
  refine c_sample fun s5 x5 y5 e5 r5 q5 => ?_
  try simp only [TUP_mk, AGG_mk, HD_mk, NL_mk, TYI_mk, TYB_mk, TYP_mk, TYL_mk, TYS_mk, TYM_mk, SO_mk, NX_mk, endK_mk, endK_mk', add_0]
  refine NEW_rule fun s6 e6 z6 n6 _ => ?_
  refine x_Wrong (r5.ext e6) (q5.ext e6) (row_new (vs := ints [1, 2, 0, 4, -1]) n6) fun s7 e7 => ?_
  try simp only [TUP_mk, AGG_mk, HD_mk, NL_mk, TYI_mk, TYB_mk, TYP_mk, TYL_mk, TYS_mk, TYM_mk, SO_mk, NX_mk, endK_mk, endK_mk', add_0]
  refine c_sample fun s8 x8 y8 e8 r8 q8 => ?_
  try simp only [TUP_mk, AGG_mk, HD_mk, NL_mk, TYI_mk, TYB_mk, TYP_mk, TYL_mk, TYS_mk, TYM_mk, SO_mk, NX_mk, endK_mk, endK_mk', add_0]
  refine x_Club r8 q8 fun s9 e9 => ?_
  try simp only [TUP_mk, AGG_mk, HD_mk, NL_mk, TYI_mk, TYB_mk, TYP_mk, TYL_mk, TYS_mk, TYM_mk, SO_mk, NX_mk, endK_mk, endK_mk', add_0]
  refine c_sample fun t1 x11 y11 f1 r11 q11 => ?_
  try simp only [TUP_mk, AGG_mk, HD_mk, NL_mk, TYI_mk, TYB_mk, TYP_mk, TYL_mk, TYS_mk, TYM_mk, SO_mk, NX_mk, endK_mk, endK_mk', add_0]
  have g5 := e5.trans (e6.trans (e7.trans (e8.trans (e9.trans f1))))
  refine x_Worth r11 q11 (w4.ext g5) fun t2 w2 cw2 f2 v2 => ?_
  try simp only [TUP_mk, AGG_mk, HD_mk, NL_mk, TYI_mk, TYB_mk, TYP_mk, TYL_mk, TYS_mk, TYM_mk, SO_mk, NX_mk, endK_mk, endK_mk', add_0]
  refine c_sample fun t3 x13 y13 f3 r13 q13 => ?_
  try simp only [TUP_mk, AGG_mk, HD_mk, NL_mk, TYI_mk, TYB_mk, TYP_mk, TYL_mk, TYS_mk, TYM_mk, SO_mk, NX_mk, endK_mk, endK_mk', add_0]
  refine x_Most r13 q13 fun t4 m4 cm4 f4 v4 => ?_
  try simp only [TUP_mk, AGG_mk, HD_mk, NL_mk, TYI_mk, TYB_mk, TYP_mk, TYL_mk, TYS_mk, TYM_mk, SO_mk, NX_mk, endK_mk, endK_mk', add_0]
  refine c_sample fun t5 x15 y15 f5 r15 q15 => ?_
  try simp only [TUP_mk, AGG_mk, HD_mk, NL_mk, TYI_mk, TYB_mk, TYP_mk, TYL_mk, TYS_mk, TYM_mk, SO_mk, NX_mk, endK_mk, endK_mk', add_0]
  refine x_Stay r15 q15 fun t6 f6 => ?_
  try simp only [TUP_mk, AGG_mk, HD_mk, NL_mk, TYI_mk, TYB_mk, TYP_mk, TYL_mk, TYS_mk, TYM_mk, SO_mk, NX_mk, endK_mk, endK_mk', add_0]
  refine c_sample fun t7 x17 y17 f7 r17 q17 => ?_
  try simp only [TUP_mk, AGG_mk, HD_mk, NL_mk, TYI_mk, TYB_mk, TYP_mk, TYL_mk, TYS_mk, TYM_mk, SO_mk, NX_mk, endK_mk, endK_mk', add_0]
  refine x_For r17 q17 fun t8 f8 => ?_
  try simp only [TUP_mk, AGG_mk, HD_mk, NL_mk, TYI_mk, TYB_mk, TYP_mk, TYL_mk, TYS_mk, TYM_mk, SO_mk, NX_mk, endK_mk, endK_mk', add_0]
  have g8 := f5.trans (f6.trans (f7.trans f8))
  have g28 := f3.trans (f4.trans g8)
  have e0t := e1.trans (e2.trans (e3.trans (e4.trans (g5.trans (f2.trans g28)))))
  refine BR_bool (fun hh => by cases hh) (fun _ => ?_)
  unfold J_law13_awake_12
  refine BR_ne (fun hh => absurd rfl hh) (fun _ => ?_)
  refine NEW_rule fun u1 h1 _ n1 _ => ?_
  refine f_Ints (a := [1, 2, 0, 4, 3]) (b := [1, 2, 0, 4, 3]) (w4.ext (g5.trans (f2.trans (g28.trans h1)))) (row_new (vs := ints [1, 2, 0, 4, 3]) n1) rfl rfl (by decide) ?_
  try simp only [TUP_mk, AGG_mk, HD_mk, NL_mk, TYI_mk, TYB_mk, TYP_mk, TYL_mk, TYS_mk, TYM_mk, SO_mk, NX_mk, endK_mk, endK_mk', add_0]
  unfold J_law13_awake_11
  refine BR_bool (fun hh => absurd hh (by decide)) (fun _ => ?_)
  unfold J_law13_awake_10
  refine BR_ne (fun hh => absurd rfl hh) (fun _ => ?_)
  unfold J_law13_awake_9
  refine BR_ne (fun hh => absurd rfl hh) (fun _ => ?_)
  unfold J_law13_awake_8
  refine BR_ne (fun hh => absurd rfl hh) (fun _ => ?_)
  unfold J_law13_awake_7
  refine BR_ne (fun hh => absurd rfl hh) (fun _ => ?_)
  unfold J_law13_awake_6
  refine BR_ne (fun hh => absurd rfl hh) (fun _ => ?_)
  unfold J_law13_awake_5
  refine BR_ne (fun hh => absurd rfl hh) (fun _ => ?_)
  unfold J_law13_awake_4
  refine BR_ne (fun hh => absurd rfl hh) (fun _ => ?_)
  refine NEW_rule fun u2 h2 _ n2 _ => ?_
  refine f_Ints (a := [80, 100, 50, 20, 40]) (b := [80, 100, 50, 20, 40]) (v2.ext (g28.trans (h1.trans h2))) (row_new (vs := ints [80, 100, 50, 20, 40]) n2) rfl rfl (by decide) ?_
  try simp only [TUP_mk, AGG_mk, HD_mk, NL_mk, TYI_mk, TYB_mk, TYP_mk, TYL_mk, TYS_mk, TYM_mk, SO_mk, NX_mk, endK_mk, endK_mk', add_0]
  unfold J_law13_awake_3
  refine BR_bool (fun hh => absurd hh (by decide)) (fun _ => ?_)
  unfold J_law13_awake_2
  refine BR_ne (fun hh => absurd rfl hh) (fun _ => ?_)
  unfold J_law13_awake_1
  refine BR_ne (fun hh => absurd rfl hh) (fun _ => ?_)
  refine BR_eq (fun _ => ?_) (fun hh => absurd rfl hh)
  refine NEW_rule fun u3 h3 _ n3 _ => ?_
  refine f_Ints (a := [0, 2, 1, 4, 3]) (b := [0, 2, 1, 4, 3]) (v4.ext (g8.trans (h1.trans (h2.trans h3)))) (row_new (vs := ints [0, 2, 1, 4, 3]) n3) rfl rfl (by decide) ?_
  try simp only [TUP_mk, AGG_mk, HD_mk, NL_mk, TYI_mk, TYB_mk, TYP_mk, TYL_mk, TYS_mk, TYM_mk, SO_mk, NX_mk, endK_mk, endK_mk', add_0]
  unfold J_law13_awake_0
  refine BR_bool (fun _ => ?_) (fun hh => absurd hh (by decide))
  refine BR_eq (fun _ => ?_) (fun hh => absurd rfl hh)
  refine BR_eq (fun _ => ?_) (fun hh => absurd rfl hh)
  refine BR_eq (fun _ => ?_) (fun hh => absurd rfl hh)
  refine BR_eq (fun _ => ?_) (fun hh => absurd rfl hh)
  exact h u3 (e0t.trans (h1.trans (h2.trans h3)))
theorem c_awake' {s0 : Hp} (e : Ext s0 s) (h : ∀ s', Ext s0 s' → K (.bool true) s') : CALL Pg W F_law13_awake [] K E s := c_awake fun s' e' => h s' (e.trans e')
end
end Go.Proofs.Ytfaeokcbfnlgbaa.G

/- Prize: contracts for valid prizes. -/
set_option linter.unusedSimpArgs false
set_option linter.unusedVariables false
set_option maxRecDepth 20000
namespace Go.Proofs.Ytfaeokcbfnlgbaa.G
open Go.V
theorem due_len (T : PT) : (manL (dueP T)).length = T.z := by unfold manL dueP; rw [List.length_map, dueL_len]
section
variable {W : World} {K : VK} {E : List PanicEntry → Hp → Prop} {s : Hp} {T : PT}
theorem c_DueV {x y : Option Addr} {c c' : Nat} (hok : okP T = true) (hx : MnAt s x T.men) (hy : PzAt s y T.list) (h : ∀ s' q cq, Ext s s' → Fr s.size s' q T.z cq 1 (ints (manL (dueP T))) → K (.tuple #[.slice q T.z cq, .int .i64 0]) s') :
    CALL Pg W F_prize_Due [.agg #[.slice x T.n c, .slice y T.z c']] K E s := by
  refine c_Due hx hy fun s' q cq e f => ?_
  have hD : dueR T = (manL (dueP T), 0) := by unfold dueR; rw [if_pos hok]
  have hl := due_len T
  rw [hD] at f ⊢
  simp only [hl] at f ⊢
  exact h s' q cq e f
theorem c_DueN {x y : Option Addr} {c c' : Nat} (hok : okP T = false) (hx : MnAt s x T.men) (hy : PzAt s y T.list) (h : ∀ s' q cq, Ext s s' → K (.tuple #[.slice q 0 cq, .int .i64 1]) s') :
    CALL Pg W F_prize_Due [.agg #[.slice x T.n c, .slice y T.z c']] K E s := by
  refine c_Due hx hy fun s' q cq e f => ?_
  have hD : dueR T = ([], 1) := by unfold dueR; rw [hok]; rfl
  rw [hD]
  exact h s' q cq e
theorem c_ClubN {x y : Option Addr} {c c' : Nat} (hok : okP T = false) (hx : MnAt s x T.men) (hy : PzAt s y T.list) (h : ∀ s', Ext s s' → K (.tuple #[.int .i64 0, .int .i64 0, .int .i64 1]) s') :
    CALL Pg W F_prize_Club [.agg #[.slice x T.n c, .slice y T.z c']] K E s := by
  refine c_Club hx hy fun s' e => ?_
  have hD : clubR T = (0, 0, 1) := by unfold clubR; rw [hok]; rfl
  rw [hD]
  exact h s' e
theorem c_ClubV {x y : Option Addr} {c c' : Nat} (hok : okP T = true) (hx : MnAt s x T.men) (hy : PzAt s y T.list) (h : ∀ s', Ext s s' → K (.tuple #[.int .i64 (bestP T).1, .int .i64 (bestP T).2, .int .i64 (if bestP T = (0, 0) then 4 else 0)]) s') :
    CALL Pg W F_prize_Club [.agg #[.slice x T.n c, .slice y T.z c']] K E s := by
  refine c_Club hx hy fun s' e => ?_
  have hD : clubR T = ((bestP T).1, (bestP T).2, if bestP T = (0, 0) then 4 else 0) := by
    unfold clubR
    rw [if_pos hok]
    by_cases hb : bestP T = (0, 0)
    · rw [if_pos hb, if_pos hb, hb]
    · rw [if_neg hb, if_neg hb]
  rw [hD]
  exact h s' e
theorem c_CanV {x y : Option Addr} {c c' m z : Nat} (hok : okP T = true) (hm : m < T.n) (hz : z < T.z) (hx : MnAt s x T.men) (hy : PzAt s y T.list) (h : ∀ s', Ext s s' → K (.tuple #[.bool (canP T m z), .int .i64 0]) s') :
    CALL Pg W F_prize_Can [.agg #[.slice x T.n c, .slice y T.z c'], .int .i64 (m : Nat), .int .i64 (z : Nat)] K E s := by
  refine c_Can hx hy fun s' e => ?_
  have h1 : isM T (m : Nat) = true := decide_eq_true (by omega)
  have h2 : isZ T (z : Nat) = true := decide_eq_true (by omega)
  have hD : canR T (m : Nat) (z : Nat) = (canP T m z, 0) := by unfold canR; rw [if_pos hok, h1, h2, toNat_nat, toNat_nat]; rfl
  rw [hD]
  exact h s' e
theorem c_WrongL {x y q : Option Addr} {c c' cq l : Nat} {ds : List Int} (hl : l = ds.length) (hx : MnAt s x T.men) (hy : PzAt s y T.list) (hq : RowAt s q (ints ds)) (h : ∀ s', Ext s s' → K (.tuple #[.int .i64 (wrongR T ds).1, .int .i64 (wrongR T ds).2.1, .int .i64 (wrongR T ds).2.2]) s') :
    CALL Pg W F_prize_Wrong [.agg #[.slice x T.n c, .slice y T.z c'], .slice q l cq] K E s := by
  subst hl; exact c_Wrong hx hy hq h
theorem c_WorthL {x y q : Option Addr} {c c' cq l : Nat} {ds : List Int} (hl : l = ds.length) (hx : MnAt s x T.men) (hy : PzAt s y T.list) (hq : RowAt s q (ints ds)) (h : ∀ s' w cw, Ext s s' → Fr s.size s' w (worthR T ds).1.length cw 1 (ints (worthR T ds).1) → K (.tuple #[.slice w (worthR T ds).1.length cw, .int .i64 (worthR T ds).2.1, .int .i64 (worthR T ds).2.2]) s') :
    CALL Pg W F_prize_Worth [.agg #[.slice x T.n c, .slice y T.z c'], .slice q l cq] K E s := by
  subst hl; exact c_Worth hx hy hq h
end
theorem canC_no {T : PT} {k z : Nat} (hb : bestP T = (0, 0)) (h4 : (T.pz z).kind = 4) : canC T k z = false := by
  unfold canC canP canK
  rw [h4, hb]
  by_cases hc : (T.man k).club = 0 <;> simp [hc]
theorem canC_not4 {T : PT} {k z : Nat} (h4 : ¬ (T.pz z).kind = 4) : canC T k z = canP T k z := by
  unfold canC
  rw [decide_eq_true h4]; simp
theorem canC_4 {T : PT} {k z : Nat} (h4 : (T.pz z).kind = 4) : canC T k z = (canP T k z && ((T.man k).club == (bestP T).1)) := by
  unfold canC
  rw [h4]; simp
end Go.Proofs.Ytfaeokcbfnlgbaa.G

/- More of the functions' shallow texts, by gen.py. -/
set_option linter.unusedVariables false
set_option maxRecDepth 100000
namespace Go.Proofs.Ytfaeokcbfnlgbaa.G
open Go.V
def an_33 : Nat → Ann := fun b => match b with
  | 0 => { ms := [6, 7, 13], ks := [.i .i64, .i .i64, .i .i64], us := [1, 2, 4, 5, 11, 12, 60], rt := false, ex := [] }
  | _ => {}
abbrev rv_33 : List ResultVar := [.tmp 4, .tmp 5]
abbrev rs_33 : List Nat := [60, 4, 5]
def L_law13_sum_0 (W : World) (R : Ending → Hp → Prop) (zn0 : Int) (za1 : Addr) (zp2 : Option Addr) (zl3 : Nat) (zl4 : Nat) (zn5 : Int) (n12 : Int) (n13 : Int) (n14 : Int) : Hp → Prop :=
  LOOPN [.i .i64, .i .i64, .i .i64] (fun ys next s => ∀ j : Tm, vc Pg W 60 rs_33 an_33 false (sub (bodyOf Try.f33) [1, 1, 0, 1, 0, 0]) 0 (KLoop [6, 7, 13] [1, 2, 4, 5, 11, 12, 60] [(.int .i64 zn0), (.pointer (some za1)), (.int .i64 0), (.bool false), (.slice zp2 zl3 zl4), (.int .i64 zn5), (.tuple #[])] next (KBlk 0 (KS Pg W 60 rs_33 an_33 false (sub (bodyOf Try.f33) [1, 1, 1]) 0 (fin Pg W 60 rv_33 R)))) (known [6, 7, 13] ys (known [1, 2, 4, 5, 11, 12, 60] [(.int .i64 zn0), (.pointer (some za1)), (.int .i64 0), (.bool false), (.slice zp2 zl3 zl4), (.int .i64 zn5), (.tuple #[])] j)) s) [(.int .i64 n12), (.int .i64 n13), (.int .i64 n14)]
def J_law13_sum_0 (W : World) (R : Ending → Hp → Prop) (zn0 : Int) (za1 : Addr) (zp2 : Option Addr) (zl3 : Nat) (zl4 : Nat) (zn5 : Int) (nx0 : List Value → Hp → Prop) (n22 : Int) (n23 : Int) (n14 : Int) : Hp → Prop :=
  NX [(.int .i64 zn0), (.pointer (some za1)), (.int .i64 0), (.bool false), (.slice zp2 zl3 zl4), (.int .i64 zn5), (.tuple #[])] [(.int .i64 zn0), (.pointer (some za1)), (.int .i64 0), (.bool false), (.slice zp2 zl3 zl4), (.int .i64 zn5), (.tuple #[])] (nx0 [(.int .i64 n22), (.int .i64 n23), (.int .i64 (IntKind.wrap .i64 (n14 + 1)))])
def J_law13_sum_1 (W : World) (R : Ending → Hp → Prop) (b26 : Bool) (B20 : Nat) (zn0 : Int) (za1 : Addr) (zp2 : Option Addr) (zl3 : Nat) (zl4 : Nat) (zn5 : Int) (nx0 : List Value → Hp → Prop) (n12 : Int) (n14 : Int) (n13 : Int) : Hp → Prop :=
  BR b26
    (RDI .i64 (Addr.add ⟨B20, 0, none⟩ 0) fun n27 =>
      J_law13_sum_0 W R zn0 za1 zp2 zl3 zl4 zn5 nx0 n12 n27 n14)
    (J_law13_sum_0 W R zn0 za1 zp2 zl3 zl4 zn5 nx0 n12 n13 n14)
def J_law13_sum_2 (W : World) (R : Ending → Hp → Prop) (b24 : Bool) (B20 : Nat) (zn0 : Int) (za1 : Addr) (zp2 : Option Addr) (zl3 : Nat) (zl4 : Nat) (zn5 : Int) (nx0 : List Value → Hp → Prop) (n12 : Int) (n14 : Int) (n13 : Int) : Hp → Prop :=
  BR b24
    (RDI .i64 (Addr.add ⟨B20, 0, none⟩ 0) fun n25 =>
      J_law13_sum_0 W R zn0 za1 zp2 zl3 zl4 zn5 nx0 n25 n12 n14)
    (BR (n13 == 0)
      (J_law13_sum_1 W R true B20 zn0 za1 zp2 zl3 zl4 zn5 nx0 n12 n14 n13)
      (RDI .i64 (Addr.add ⟨B20, 0, none⟩ 0) fun n28 =>
        J_law13_sum_1 W R (decide (n28 < n13)) B20 zn0 za1 zp2 zl3 zl4 zn5 nx0 n12 n14 n13))
def J_law13_sum_3 (W : World) (R : Ending → Hp → Prop) (b30 : Bool) (za1 : Addr) (n12 : Int) (n13 : Int) : Hp → Prop :=
  BR b30
    (RDL (Addr.add za1 0) fun x31 l32 c33 =>
      R (.returned (.tuple #[(.int .i64 (IntKind.wrap .i64 (n12 + (IntKind.wrap .i64 ((↑l32 : Int) + 1))))), (.bool (n12 != 0))])))
    (R (.returned (.tuple #[(.int .i64 (IntKind.wrap .i64 (n12 + n13))), (.bool (n12 != 0))])))
def B_law13_sum_0 (W : World) (R : Ending → Hp → Prop) (zn0 : Int) (za1 : Addr) (zp2 : Option Addr) (zl3 : Nat) (zl4 : Nat) (zn5 : Int) (n12 : Int) (n13 : Int) (n14 : Int) (nx0 : List Value → Hp → Prop) : Hp → Prop :=
  BR (decide (n14 < zn5))
    (IXS zp2 zl3 n14 4 fun a15 =>
      RDI .i64 (Addr.add a15 0) fun n16 =>
        RDI .i64 (Addr.add a15 1) fun n17 =>
          RDB (Addr.add a15 2) fun b18 =>
            RDB (Addr.add a15 3) fun b19 =>
              NEWZ Pg 48 fun B20 =>
                WR (Addr.add ⟨B20, 0, none⟩ 0) (.int .i64 n16) <|
                  WR (Addr.add ⟨B20, 0, none⟩ 1) (.int .i64 n17) <|
                    WR (Addr.add ⟨B20, 0, none⟩ 2) (.bool b18) <|
                      WR (Addr.add ⟨B20, 0, none⟩ 3) (.bool b19) <|
                        RDI .i64 (Addr.add ⟨B20, 0, none⟩ 1) fun n21 =>
                          BR (n21 != zn0)
                            (J_law13_sum_0 W R zn0 za1 zp2 zl3 zl4 zn5 nx0 n12 n13 n14)
                            (BR (n12 == 0)
                              (J_law13_sum_2 W R true B20 zn0 za1 zp2 zl3 zl4 zn5 nx0 n12 n14 n13)
                              (RDI .i64 (Addr.add ⟨B20, 0, none⟩ 0) fun n29 =>
                                J_law13_sum_2 W R (decide (n29 < n12)) B20 zn0 za1 zp2 zl3 zl4 zn5 nx0 n12 n14 n13)))
    (BR (n12 != 0)
      (J_law13_sum_3 W R (n13 == 0) za1 n12 n13)
      (J_law13_sum_3 W R false za1 n12 n13))
theorem B_law13_sum_0_eq (W : World) (R : Ending → Hp → Prop) (zn0 : Int) (za1 : Addr) (zp2 : Option Addr) (zl3 : Nat) (zl4 : Nat) (zn5 : Int) (n12 : Int) (n13 : Int) (n14 : Int) (nx0 : List Value → Hp → Prop) (j : Tm) : vc Pg W 60 rs_33 an_33 false (sub (bodyOf Try.f33) [1, 1, 0, 1, 0, 0]) 0 (KLoop [6, 7, 13] [1, 2, 4, 5, 11, 12, 60] [(.int .i64 zn0), (.pointer (some za1)), (.int .i64 0), (.bool false), (.slice zp2 zl3 zl4), (.int .i64 zn5), (.tuple #[])] nx0 (KBlk 0 (KS Pg W 60 rs_33 an_33 false (sub (bodyOf Try.f33) [1, 1, 1]) 0 (fin Pg W 60 rv_33 R)))) (known [6, 7, 13] [(.int .i64 n12), (.int .i64 n13), (.int .i64 n14)] (known [1, 2, 4, 5, 11, 12, 60] [(.int .i64 zn0), (.pointer (some za1)), (.int .i64 0), (.bool false), (.slice zp2 zl3 zl4), (.int .i64 zn5), (.tuple #[])] j)) = B_law13_sum_0 W R zn0 za1 zp2 zl3 zl4 zn5 n12 n13 n14 nx0 := by kernel_rfl
def N_law13_sum_0 (I : Int → Int → Int → Hp → Prop) (μ : Int → Int → Int → Hp → Nat) (n120 : Int) (n130 : Int) (n140 : Int) (s : Hp) (vs : List Value) : Hp → Prop := fun s' => ∃ n12 n13 n14, vs = [(.int .i64 n12), (.int .i64 n13), (.int .i64 n14)] ∧ I n12 n13 n14 s' ∧ μ n12 n13 n14 s' < μ n120 n130 n140 s
theorem L_law13_sum_0_rule (W : World) (R : Ending → Hp → Prop) (zn0 : Int) (za1 : Addr) (zp2 : Option Addr) (zl3 : Nat) (zl4 : Nat) (zn5 : Int) (I : Int → Int → Int → Hp → Prop) (μ : Int → Int → Int → Hp → Nat) (n120 : Int) (n130 : Int) (n140 : Int) (s : Hp) (h0 : I n120 n130 n140 s)
    (hr : ∀ (n12 : Int) (n13 : Int) (n14 : Int) (s : Hp), I n12 n13 n14 s → B_law13_sum_0 W R zn0 za1 zp2 zl3 zl4 zn5 n12 n13 n14 (fun vs => N_law13_sum_0 I μ n12 n13 n14 s vs) s) : L_law13_sum_0 W R zn0 za1 zp2 zl3 zl4 zn5 n120 n130 n140 s := by
  refine ⟨fun vs s => ∃ n12 n13 n14, vs = [(.int .i64 n12), (.int .i64 n13), (.int .i64 n14)] ∧ I n12 n13 n14 s, fun vs s => (match vs with | [.int _ n12, .int _ n13, .int _ n14] => μ n12 n13 n14 s | _ => 0), ⟨⟨⟨_, rfl⟩, ⟨⟨_, rfl⟩, ⟨⟨_, rfl⟩, trivial⟩⟩⟩, ⟨_, _, _, rfl, h0⟩⟩, ?_⟩
  intro n12 n13 n14 s hI j
  obtain ⟨n12', n13', n14', hy, hI⟩ := hI
  have hI' : I n12 n13 n14 s := by cases hy; exact hI
  have hh := hr n12 n13 n14 s hI'
  rw [← B_law13_sum_0_eq W R zn0 za1 zp2 zl3 zl4 zn5 n12 n13 n14 _ j] at hh
  refine vc_mono ?_ _ _ hh
  exact KLoop_mono (fun vs s' h => by obtain ⟨n121, n131, n141, rfl, h1, h2⟩ := h; exact ⟨⟨⟨_, rfl⟩, ⟨⟨_, rfl⟩, ⟨⟨_, rfl⟩, trivial⟩⟩⟩, ⟨_, _, _, rfl, h1⟩, h2⟩)
def T_law13_sum (W : World) (x1 : Option Addr) (l2 : Nat) (c3 : Nat) (x4 : Option Addr) (l5 : Nat) (c6 : Nat) (n7 : Int) (R : Ending → Hp → Prop) : Hp → Prop :=
  NEW 25 [(.slice x1 l2 c3), (.slice x4 l5 c6)] fun B8 =>
    RDL (Addr.add ⟨B8, 0, none⟩ 0) fun x9 l10 c11 =>
      L_law13_sum_0 W R n7 ⟨B8, 0, none⟩ x9 l10 c11 (↑l10 : Int) 0 0 0
theorem T_law13_sum_eq (W : World) (x1 : Option Addr) (l2 : Nat) (c3 : Nat) (x4 : Option Addr) (l5 : Nat) (c6 : Nat) (n7 : Int) (R : Ending → Hp → Prop) : vfun Pg W an_33 Try.f33 [(.agg #[(.slice x1 l2 c3), (.slice x4 l5 c6)]), (.int .i64 n7)] R = T_law13_sum W x1 l2 c3 x4 l5 c6 n7 R := by kernel_rfl
theorem does_law13_sum (W : World) (x1 : Option Addr) (l2 : Nat) (c3 : Nat) (x4 : Option Addr) (l5 : Nat) (c6 : Nat) (n7 : Int) (R : Ending → Hp → Prop) (s : Hp) (h : T_law13_sum W x1 l2 c3 x4 l5 c6 n7 R s) : Does Pg W F_law13_sum #[(.agg #[(.slice x1 l2 c3), (.slice x4 l5 c6)]), (.int .i64 n7)] s R :=
  does_of_vfun Pg W an_33 Try.func33 rfl (by kernel_rfl) (by rw [T_law13_sum_eq]; exact h)
def an_34 : Nat → Ann := fun b => match b with
  | 0 => { ms := [7, 8, 17], ks := [.l, .i .i64, .i .i64], us := [1, 2, 3, 6, 16, 73], rt := false, ex := [] }
  | _ => {}
abbrev rv_34 : List ResultVar := [.tmp 6]
abbrev rs_34 : List Nat := [73, 6]
def L_law13_made_0 (W : World) (R : Ending → Hp → Prop) (zp0 : Option Addr) (zl1 : Nat) (zl2 : Nat) (zb3 : Bool) (za4 : Addr) (zn5 : Int) (x16 : Option Addr) (l17 : Nat) (c18 : Nat) (n19 : Int) (n20 : Int) : Hp → Prop :=
  LOOPN [.l, .i .i64, .i .i64] (fun ys next s => ∀ j : Tm, vc Pg W 73 rs_34 an_34 false (sub (bodyOf Try.f34) [1, 1, 1, 0, 1, 0, 0]) 0 (KLoop [7, 8, 17] [1, 2, 3, 6, 16, 73] [(.slice zp0 zl1 zl2), (.bool zb3), (.pointer (some za4)), (.slice none 0 0), (.int .i64 zn5), (.tuple #[])] next (KBlk 0 (KS Pg W 73 rs_34 an_34 false (sub (bodyOf Try.f34) [1, 1, 1, 1]) 0 (fin Pg W 73 rv_34 R)))) (known [7, 8, 17] ys (known [1, 2, 3, 6, 16, 73] [(.slice zp0 zl1 zl2), (.bool zb3), (.pointer (some za4)), (.slice none 0 0), (.int .i64 zn5), (.tuple #[])] j)) s) [(.slice x16 l17 c18), (.int .i64 n19), (.int .i64 n20)]
def J_law13_made_0 (W : World) (R : Ending → Hp → Prop) (n43 : Int) (x16 : Option Addr) (l17 : Nat) (c18 : Nat) (zp0 : Option Addr) (zl1 : Nat) (zl2 : Nat) (zb3 : Bool) (za4 : Addr) (zn5 : Int) (nx0 : List Value → Hp → Prop) (n44 : Int) (n20 : Int) : Hp → Prop :=
  NEW 3 [(.int .i64 n43)] fun B45 =>
    APP Pg 3 1 x16 l17 c18 (some ⟨B45, 0, none⟩) 1 fun x46 l47 c48 =>
      NX [(.slice zp0 zl1 zl2), (.bool zb3), (.pointer (some za4)), (.slice none 0 0), (.int .i64 zn5), (.tuple #[])] [(.slice zp0 zl1 zl2), (.bool zb3), (.pointer (some za4)), (.slice none 0 0), (.int .i64 zn5), (.tuple #[])] (nx0 [(.slice x46 l47 c48), (.int .i64 n44), (.int .i64 (IntKind.wrap .i64 (n20 + 1)))])
def J_law13_made_1 (W : World) (R : Ending → Hp → Prop) (n43 : Int) (x16 : Option Addr) (l17 : Nat) (c18 : Nat) (zp0 : Option Addr) (zl1 : Nat) (zl2 : Nat) (zb3 : Bool) (za4 : Addr) (zn5 : Int) (nx0 : List Value → Hp → Prop) (n19 : Int) (n20 : Int) : Hp → Prop :=
  BR (decide (n43 ≥ 0))
    (NNI n43 <|
      J_law13_made_0 W R n43 x16 l17 c18 zp0 zl1 zl2 zb3 za4 zn5 nx0 (orv .i64 n19 (shlv .i64 1 n43)) n20)
    (J_law13_made_0 W R n43 x16 l17 c18 zp0 zl1 zl2 zb3 za4 zn5 nx0 n19 n20)
def J_law13_made_2 (W : World) (R : Ending → Hp → Prop) (b42 : Bool) (x16 : Option Addr) (l17 : Nat) (c18 : Nat) (zp0 : Option Addr) (zl1 : Nat) (zl2 : Nat) (zb3 : Bool) (za4 : Addr) (zn5 : Int) (nx0 : List Value → Hp → Prop) (n19 : Int) (n20 : Int) (n26 : Int) : Hp → Prop :=
  BR b42
    (J_law13_made_1 W R (-1) x16 l17 c18 zp0 zl1 zl2 zb3 za4 zn5 nx0 n19 n20)
    (J_law13_made_1 W R n26 x16 l17 c18 zp0 zl1 zl2 zb3 za4 zn5 nx0 n19 n20)
def J_law13_made_3 (W : World) (R : Ending → Hp → Prop) (n26 : Int) (za4 : Addr) (n20 : Int) (n19 : Int) (x16 : Option Addr) (l17 : Nat) (c18 : Nat) (zp0 : Option Addr) (zl1 : Nat) (zl2 : Nat) (zb3 : Bool) (zn5 : Int) (nx0 : List Value → Hp → Prop) : Hp → Prop :=
  BR (decide (n26 ≥ 0))
    (RDL (Addr.add za4 0) fun x27 l28 c29 =>
      RDL (Addr.add za4 1) fun x30 l31 c32 =>
        CALL Pg W F_prize_Can [(.agg #[(.slice x27 l28 c29), (.slice x30 l31 c32)]), (.int .i64 n26), (.int .i64 n20)]
          (fun v33 => TUP v33 fun q35 => HD q35 fun v36 r37 => TYB v36 fun b38 =>
            HD r37 fun v39 r40 => TYI .i64 v39 fun n41 =>
              NL r40 <|
                NNI n26 <|
                  BR ((andv .i64 (shrv .i64 n19 n26) 1) == 1)
                    (J_law13_made_2 W R true x16 l17 c18 zp0 zl1 zl2 zb3 za4 zn5 nx0 n19 n20 n26)
                    (BR zb3
                      (J_law13_made_2 W R (!b38) x16 l17 c18 zp0 zl1 zl2 zb3 za4 zn5 nx0 n19 n20 n26)
                      (J_law13_made_2 W R false x16 l17 c18 zp0 zl1 zl2 zb3 za4 zn5 nx0 n19 n20 n26)))
            (fun e34 => R (.panicked e34)))
    (J_law13_made_1 W R n26 x16 l17 c18 zp0 zl1 zl2 zb3 za4 zn5 nx0 n19 n20)
def B_law13_made_0 (W : World) (R : Ending → Hp → Prop) (zp0 : Option Addr) (zl1 : Nat) (zl2 : Nat) (zb3 : Bool) (za4 : Addr) (zn5 : Int) (x16 : Option Addr) (l17 : Nat) (c18 : Nat) (n19 : Int) (n20 : Int) (nx0 : List Value → Hp → Prop) : Hp → Prop :=
  BR (decide (n20 < zn5))
    (BR (decide ((↑zl1 : Int) > 0))
      (NZI (↑zl1 : Int) <|
        IXS zp0 zl1 (Int.tmod n20 (↑zl1 : Int)) 1 fun a21 =>
          RDI .u8 a21 fun n22 =>
            RDL (Addr.add za4 0) fun x23 l24 c25 =>
              NZI (IntKind.wrap .i64 ((↑l24 : Int) + 1)) <|
                J_law13_made_3 W R (IntKind.wrap .i64 ((Int.tmod (IntKind.wrap .i64 ((IntKind.wrap .i64 n22) + (IntKind.wrap .i64 (5 * n20)))) (IntKind.wrap .i64 ((↑l24 : Int) + 1))) - 1)) za4 n20 n19 x16 l17 c18 zp0 zl1 zl2 zb3 zn5 nx0)
      (J_law13_made_3 W R (-1) za4 n20 n19 x16 l17 c18 zp0 zl1 zl2 zb3 zn5 nx0))
    (R (.returned (.slice x16 l17 c18)))
theorem B_law13_made_0_eq (W : World) (R : Ending → Hp → Prop) (zp0 : Option Addr) (zl1 : Nat) (zl2 : Nat) (zb3 : Bool) (za4 : Addr) (zn5 : Int) (x16 : Option Addr) (l17 : Nat) (c18 : Nat) (n19 : Int) (n20 : Int) (nx0 : List Value → Hp → Prop) (j : Tm) : vc Pg W 73 rs_34 an_34 false (sub (bodyOf Try.f34) [1, 1, 1, 0, 1, 0, 0]) 0 (KLoop [7, 8, 17] [1, 2, 3, 6, 16, 73] [(.slice zp0 zl1 zl2), (.bool zb3), (.pointer (some za4)), (.slice none 0 0), (.int .i64 zn5), (.tuple #[])] nx0 (KBlk 0 (KS Pg W 73 rs_34 an_34 false (sub (bodyOf Try.f34) [1, 1, 1, 1]) 0 (fin Pg W 73 rv_34 R)))) (known [7, 8, 17] [(.slice x16 l17 c18), (.int .i64 n19), (.int .i64 n20)] (known [1, 2, 3, 6, 16, 73] [(.slice zp0 zl1 zl2), (.bool zb3), (.pointer (some za4)), (.slice none 0 0), (.int .i64 zn5), (.tuple #[])] j)) = B_law13_made_0 W R zp0 zl1 zl2 zb3 za4 zn5 x16 l17 c18 n19 n20 nx0 := by kernel_rfl
def N_law13_made_0 (I : Option Addr → Nat → Nat → Int → Int → Hp → Prop) (μ : Option Addr → Nat → Nat → Int → Int → Hp → Nat) (x160 : Option Addr) (l170 : Nat) (c180 : Nat) (n190 : Int) (n200 : Int) (s : Hp) (vs : List Value) : Hp → Prop := fun s' => ∃ x16 l17 c18 n19 n20, vs = [(.slice x16 l17 c18), (.int .i64 n19), (.int .i64 n20)] ∧ I x16 l17 c18 n19 n20 s' ∧ μ x16 l17 c18 n19 n20 s' < μ x160 l170 c180 n190 n200 s
theorem L_law13_made_0_rule (W : World) (R : Ending → Hp → Prop) (zp0 : Option Addr) (zl1 : Nat) (zl2 : Nat) (zb3 : Bool) (za4 : Addr) (zn5 : Int) (I : Option Addr → Nat → Nat → Int → Int → Hp → Prop) (μ : Option Addr → Nat → Nat → Int → Int → Hp → Nat) (x160 : Option Addr) (l170 : Nat) (c180 : Nat) (n190 : Int) (n200 : Int) (s : Hp) (h0 : I x160 l170 c180 n190 n200 s)
    (hr : ∀ (x16 : Option Addr) (l17 : Nat) (c18 : Nat) (n19 : Int) (n20 : Int) (s : Hp), I x16 l17 c18 n19 n20 s → B_law13_made_0 W R zp0 zl1 zl2 zb3 za4 zn5 x16 l17 c18 n19 n20 (fun vs => N_law13_made_0 I μ x16 l17 c18 n19 n20 s vs) s) : L_law13_made_0 W R zp0 zl1 zl2 zb3 za4 zn5 x160 l170 c180 n190 n200 s := by
  refine ⟨fun vs s => ∃ x16 l17 c18 n19 n20, vs = [(.slice x16 l17 c18), (.int .i64 n19), (.int .i64 n20)] ∧ I x16 l17 c18 n19 n20 s, fun vs s => (match vs with | [.slice x16 l17 c18, .int _ n19, .int _ n20] => μ x16 l17 c18 n19 n20 s | _ => 0), ⟨⟨⟨_, _, _, rfl⟩, ⟨⟨_, rfl⟩, ⟨⟨_, rfl⟩, trivial⟩⟩⟩, ⟨_, _, _, _, _, rfl, h0⟩⟩, ?_⟩
  intro x16 l17 c18 n19 n20 s hI j
  obtain ⟨x16', l17', c18', n19', n20', hy, hI⟩ := hI
  have hI' : I x16 l17 c18 n19 n20 s := by cases hy; exact hI
  have hh := hr x16 l17 c18 n19 n20 s hI'
  rw [← B_law13_made_0_eq W R zp0 zl1 zl2 zb3 za4 zn5 x16 l17 c18 n19 n20 _ j] at hh
  refine vc_mono ?_ _ _ hh
  exact KLoop_mono (fun vs s' h => by obtain ⟨x161, l171, c181, n191, n201, rfl, h1, h2⟩ := h; exact ⟨⟨⟨_, _, _, rfl⟩, ⟨⟨_, rfl⟩, ⟨⟨_, rfl⟩, trivial⟩⟩⟩, ⟨_, _, _, _, _, rfl, h1⟩, h2⟩)
def T_law13_made (W : World) (x1 : Option Addr) (l2 : Nat) (c3 : Nat) (x4 : Option Addr) (l5 : Nat) (c6 : Nat) (x7 : Option Addr) (l8 : Nat) (c9 : Nat) (b10 : Bool) (R : Ending → Hp → Prop) : Hp → Prop :=
  NEW 25 [(.slice x1 l2 c3), (.slice x4 l5 c6)] fun B11 =>
    NEW 3 [] fun B12 =>
      RDL (Addr.add ⟨B11, 0, none⟩ 1) fun x13 l14 c15 =>
        L_law13_made_0 W R x7 l8 c9 b10 ⟨B11, 0, none⟩ (↑l14 : Int) (some ⟨B12, 0, none⟩) 0 0 0 0
theorem T_law13_made_eq (W : World) (x1 : Option Addr) (l2 : Nat) (c3 : Nat) (x4 : Option Addr) (l5 : Nat) (c6 : Nat) (x7 : Option Addr) (l8 : Nat) (c9 : Nat) (b10 : Bool) (R : Ending → Hp → Prop) : vfun Pg W an_34 Try.f34 [(.agg #[(.slice x1 l2 c3), (.slice x4 l5 c6)]), (.slice x7 l8 c9), (.bool b10)] R = T_law13_made W x1 l2 c3 x4 l5 c6 x7 l8 c9 b10 R := by kernel_rfl
theorem does_law13_made (W : World) (x1 : Option Addr) (l2 : Nat) (c3 : Nat) (x4 : Option Addr) (l5 : Nat) (c6 : Nat) (x7 : Option Addr) (l8 : Nat) (c9 : Nat) (b10 : Bool) (R : Ending → Hp → Prop) (s : Hp) (h : T_law13_made W x1 l2 c3 x4 l5 c6 x7 l8 c9 b10 R s) : Does Pg W F_law13_made #[(.agg #[(.slice x1 l2 c3), (.slice x4 l5 c6)]), (.slice x7 l8 c9), (.bool b10)] s R :=
  does_of_vfun Pg W an_34 Try.func34 rfl (by kernel_rfl) (by rw [T_law13_made_eq]; exact h)
def an_39 : Nat → Ann := fun b => match b with
  | 0 => { ms := [8], ks := [.i .i64], us := [6, 7, 16], rt := false, ex := [] }
  | _ => {}
abbrev rv_39 : List ResultVar := [.tmp 2]
abbrev rs_39 : List Nat := [16, 2]
def L_law13_hasClub_0 (W : World) (R : Ending → Hp → Prop) (zp0 : Option Addr) (zl1 : Nat) (zl2 : Nat) (zn3 : Int) (n11 : Int) : Hp → Prop :=
  LOOPN [.i .i64] (fun ys next s => ∀ j : Tm, vc Pg W 16 rs_39 an_39 false (sub (bodyOf Try.f39) [1, 0, 1, 0, 0]) 0 (KLoop [8] [6, 7, 16] [(.slice zp0 zl1 zl2), (.int .i64 zn3), (.tuple #[])] next (KBlk 0 (KS Pg W 16 rs_39 an_39 false (sub (bodyOf Try.f39) [1, 1]) 0 (fin Pg W 16 rv_39 R)))) (known [8] ys (known [6, 7, 16] [(.slice zp0 zl1 zl2), (.int .i64 zn3), (.tuple #[])] j)) s) [(.int .i64 n11)]
def B_law13_hasClub_0 (W : World) (R : Ending → Hp → Prop) (zp0 : Option Addr) (zl1 : Nat) (zl2 : Nat) (zn3 : Int) (n11 : Int) (nx0 : List Value → Hp → Prop) : Hp → Prop :=
  BR (decide (n11 < zn3))
    (IXS zp0 zl1 n11 2 fun a12 =>
      RDI .i64 (Addr.add a12 0) fun n13 =>
        RDI .i64 (Addr.add a12 1) fun n14 =>
          NEWZ Pg 50 fun B15 =>
            WR (Addr.add ⟨B15, 0, none⟩ 0) (.int .i64 n13) <|
              WR (Addr.add ⟨B15, 0, none⟩ 1) (.int .i64 n14) <|
                RDI .i64 (Addr.add ⟨B15, 0, none⟩ 0) fun n16 =>
                  BR (n16 == 4)
                    (R (.returned (.bool true)))
                    (NX [(.slice zp0 zl1 zl2), (.int .i64 zn3), (.tuple #[])] [(.slice zp0 zl1 zl2), (.int .i64 zn3), (.tuple #[])] (nx0 [(.int .i64 (IntKind.wrap .i64 (n11 + 1)))])))
    (R (.returned (.bool false)))
theorem B_law13_hasClub_0_eq (W : World) (R : Ending → Hp → Prop) (zp0 : Option Addr) (zl1 : Nat) (zl2 : Nat) (zn3 : Int) (n11 : Int) (nx0 : List Value → Hp → Prop) (j : Tm) : vc Pg W 16 rs_39 an_39 false (sub (bodyOf Try.f39) [1, 0, 1, 0, 0]) 0 (KLoop [8] [6, 7, 16] [(.slice zp0 zl1 zl2), (.int .i64 zn3), (.tuple #[])] nx0 (KBlk 0 (KS Pg W 16 rs_39 an_39 false (sub (bodyOf Try.f39) [1, 1]) 0 (fin Pg W 16 rv_39 R)))) (known [8] [(.int .i64 n11)] (known [6, 7, 16] [(.slice zp0 zl1 zl2), (.int .i64 zn3), (.tuple #[])] j)) = B_law13_hasClub_0 W R zp0 zl1 zl2 zn3 n11 nx0 := by kernel_rfl
def N_law13_hasClub_0 (I : Int → Hp → Prop) (μ : Int → Hp → Nat) (n110 : Int) (s : Hp) (vs : List Value) : Hp → Prop := fun s' => ∃ n11, vs = [(.int .i64 n11)] ∧ I n11 s' ∧ μ n11 s' < μ n110 s
theorem L_law13_hasClub_0_rule (W : World) (R : Ending → Hp → Prop) (zp0 : Option Addr) (zl1 : Nat) (zl2 : Nat) (zn3 : Int) (I : Int → Hp → Prop) (μ : Int → Hp → Nat) (n110 : Int) (s : Hp) (h0 : I n110 s)
    (hr : ∀ (n11 : Int) (s : Hp), I n11 s → B_law13_hasClub_0 W R zp0 zl1 zl2 zn3 n11 (fun vs => N_law13_hasClub_0 I μ n11 s vs) s) : L_law13_hasClub_0 W R zp0 zl1 zl2 zn3 n110 s := by
  refine ⟨fun vs s => ∃ n11, vs = [(.int .i64 n11)] ∧ I n11 s, fun vs s => (match vs with | [.int _ n11] => μ n11 s | _ => 0), ⟨⟨⟨_, rfl⟩, trivial⟩, ⟨_, rfl, h0⟩⟩, ?_⟩
  intro n11 s hI j
  obtain ⟨n11', hy, hI⟩ := hI
  have hI' : I n11 s := by cases hy; exact hI
  have hh := hr n11 s hI'
  rw [← B_law13_hasClub_0_eq W R zp0 zl1 zl2 zn3 n11 _ j] at hh
  refine vc_mono ?_ _ _ hh
  exact KLoop_mono (fun vs s' h => by obtain ⟨n111, rfl, h1, h2⟩ := h; exact ⟨⟨⟨_, rfl⟩, trivial⟩, ⟨_, rfl, h1⟩, h2⟩)
def T_law13_hasClub (W : World) (x1 : Option Addr) (l2 : Nat) (c3 : Nat) (x4 : Option Addr) (l5 : Nat) (c6 : Nat) (R : Ending → Hp → Prop) : Hp → Prop :=
  NEW 25 [(.slice x1 l2 c3), (.slice x4 l5 c6)] fun B7 =>
    RDL (Addr.add ⟨B7, 0, none⟩ 1) fun x8 l9 c10 =>
      L_law13_hasClub_0 W R x8 l9 c10 (↑l9 : Int) 0
theorem T_law13_hasClub_eq (W : World) (x1 : Option Addr) (l2 : Nat) (c3 : Nat) (x4 : Option Addr) (l5 : Nat) (c6 : Nat) (R : Ending → Hp → Prop) : vfun Pg W an_39 Try.f39 [(.agg #[(.slice x1 l2 c3), (.slice x4 l5 c6)])] R = T_law13_hasClub W x1 l2 c3 x4 l5 c6 R := by kernel_rfl
theorem does_law13_hasClub (W : World) (x1 : Option Addr) (l2 : Nat) (c3 : Nat) (x4 : Option Addr) (l5 : Nat) (c6 : Nat) (R : Ending → Hp → Prop) (s : Hp) (h : T_law13_hasClub W x1 l2 c3 x4 l5 c6 R s) : Does Pg W F_law13_hasClub #[(.agg #[(.slice x1 l2 c3), (.slice x4 l5 c6)])] s R :=
  does_of_vfun Pg W an_39 Try.func39 rfl (by kernel_rfl) (by rw [T_law13_hasClub_eq]; exact h)
end Go.Proofs.Ytfaeokcbfnlgbaa.G

/- Prize: a giving by remainders. -/
set_option linter.unusedSimpArgs false
set_option linter.unusedVariables false
set_option maxRecDepth 20000
namespace Go.Proofs.Ytfaeokcbfnlgbaa.G
open Go.V
def mkV (T : PT) (bs : List Nat) (k : Nat) : Nat := if bs.length = 0 then 0 else (bs.getD (k % bs.length) 0 + 5 * k) % (T.n + 1)
def mkM (T : PT) (bs : List Nat) (k : Nat) : Option Nat := match mkV T bs k with | 0 => none | v + 1 => some v
def mkO (T : PT) (bs : List Nat) (fair : Bool) (k : Nat) (g : List (Option Nat)) : Option Nat := match mkM T bs k with | none => none | some m => if tkF g m || (fair && !canP T m k) then none else some m
def madeL (T : PT) (bs : List Nat) (fair : Bool) : Nat → List (Option Nat)
  | 0 => []
  | k + 1 => madeL T bs fair k ++ [mkO T bs fair k (madeL T bs fair k)]
theorem madeL_len (T : PT) (bs : List Nat) (fair : Bool) : ∀ k, (madeL T bs fair k).length = k
  | 0 => rfl
  | k + 1 => by show (madeL T bs fair k ++ _).length = _; rw [List.length_append, madeL_len T bs fair k]; rfl
theorem mkV_lt (T : PT) (bs : List Nat) (k : Nat) : mkV T bs k < T.n + 1 := by
  unfold mkV
  split
  · omega
  · exact Nat.mod_lt _ (by omega)
theorem mkM_man (T : PT) (bs : List Nat) (k : Nat) : manI (mkM T bs k) = (mkV T bs k : Int) - 1 := by
  unfold mkM
  cases mkV T bs k with
  | zero => rfl
  | succ v => show ((v : Nat) : Int) = ((v + 1 : Nat) : Int) - 1; omega
theorem mkM_lt {T : PT} {bs : List Nat} {k m : Nat} (h : mkM T bs k = some m) : m < T.n := by
  have h1 := mkV_lt T bs k
  have h2 := mkM_man T bs k
  rw [h] at h2
  have h2 : ((m : Nat) : Int) = _ := h2
  omega
theorem mkO_some {T : PT} {bs : List Nat} {fair : Bool} {k m : Nat} {g : List (Option Nat)} (h : mkO T bs fair k g = some m) : m < T.n ∧ tkF g m = false ∧ (fair = true → canP T m k = true) := by
  unfold mkO at h
  split at h
  · cases h
  · rename_i q hq
    split at h
    · cases h
    · rename_i hn
      cases h
      simp only [Bool.or_eq_true, not_or, Bool.not_eq_true] at hn
      refine ⟨mkM_lt hq, hn.1, fun hf => ?_⟩
      have h2 := hn.2
      rw [hf] at h2
      simpa using h2
theorem made_okG (T : PT) (bs : List Nat) (fair : Bool) : ∀ k, OkG T (madeL T bs fair k)
  | 0 => OkG.nil T
  | k + 1 => (made_okG T bs fair k).snoc fun m hm => ⟨(mkO_some hm).1, (mkO_some hm).2.1⟩
theorem made_can (T : PT) (bs : List Nat) : ∀ (k i m : Nat), (madeL T bs true k)[i]? = some (some m) → canP T m i = true
  | 0, i, m, h => by simp [madeL] at h
  | k + 1, i, m, h => by
    have hl := madeL_len T bs true k
    have h' : (madeL T bs true k ++ [mkO T bs true k (madeL T bs true k)])[i]? = some (some m) := h
    by_cases e : i < k
    · rw [List.getElem?_append_left (by omega)] at h'
      exact made_can T bs k i m h'
    · rw [List.getElem?_append_right (by omega)] at h'
      have hlt := (List.getElem?_eq_some_iff.1 h').1
      have hik : i - (madeL T bs true k).length = 0 := by simpa using hlt
      rw [hik] at h'
      have hi : i = k := by omega
      have : mkO T bs true k (madeL T bs true k) = some m := by simpa using h'
      rw [hi]
      exact (mkO_some this).2.2 rfl
theorem row_byte {s : Hp} {y : Option Addr} {bs : List Nat} {k : Nat} (hy : RowAt s y (bytes bs)) (hk : k < bs.length) : ∃ a, y = some a ∧ cellAt s (a.add (k * 1)) = some (.int .u8 ((bs.getD k 0 : Nat) : Int)) := by
  have hkv : k < (bytes bs).length := by rw [bytes_len]; exact hk
  obtain ⟨a, ha, g⟩ := hy k hkv
  rw [bytes_get hkv] at g
  rw [getD_lt hk]
  exact ⟨a, ha, g⟩
theorem tmodN (a b : Nat) : Int.tmod (a : Int) (b : Int) = ((a % b : Nat) : Int) := rfl
section
variable {W : World} {K : VK} {E : List PanicEntry → Hp → Prop} {s : Hp} {T : PT}
theorem w_made {x y q : Option Addr} {c c' cq : Nat} {bs : List Nat} {fair : Bool} (hok : okP T = true) (hx : MnAt s x T.men) (hy : PzAt s y T.list) (hq : RowAt s q (bytes bs)) (h256 : ∀ b ∈ bs, b < 256) (h : ∀ s' w cw, Ext s s' → Fr s.size s' w T.z cw 1 (ints (manL (madeL T bs fair T.z))) → K (.slice w T.z cw) s') :
    CALL Pg W F_law13_made [.agg #[.slice x T.n c, .slice y T.z c'], .slice q bs.length cq, .bool fair] K E s := by
  have hv := okP_vd hok
  have h8 := hv.n8
  have h6 := hv.z6
  refine does_law13_made W x T.n c y T.z c' q bs.length cq fair _ s ?_
  unfold T_law13_made
  refine ne2 fun s1 e1 z1 o1 o2 => ?_
  refine NEW_rule fun s2 e2 z2 _ _ => ?_
  refine ⟨_, _, _, e2.cell o2.cell, ?_⟩
  refine L_law13_made_0_rule W _ q bs.length cq fair ⟨s.size, 0, none⟩ T.z (fun x l c n19 n20 t => Ext s1 t ∧ ∃ k : Nat, k ≤ T.z ∧ n20 = k ∧ n19 = (setK (tkF (madeL T bs fair k)) 8 : Nat) ∧ Fr s1.size t x l c 1 (ints (manL (madeL T bs fair k)))) (fun _ _ _ _ n20 _ => ((T.z : Int) - n20).toNat) (some ⟨s1.size, 0, none⟩) 0 0 0 0 s2
    ⟨e2, 0, by omega, rfl, ?_, ⟨⟨Nat.le_refl _, fun i hi => (by omega)⟩, rfl, fun a ha => (by cases ha; exact Nat.le_refl _), by omega⟩⟩ ?_
  · have : tkF (madeL T bs fair 0) = fun _ => false := by funext m; simp [tkF, madeL]
    rw [this, setK_zero]; rfl
  rintro x16 l17 c18 n19 n20 t ⟨et, k, hk, rfl, rfl, hfr⟩
  unfold B_law13_made_0
  have e0t := e1.trans et
  have hl17 : l17 = k := by
    have := hfr.len
    rw [ints_len] at this
    unfold manL at this
    rw [List.length_map, madeL_len] at this
    omega
  refine BR_dec (fun hlt => ?_) (fun hlt => ?_)
  · have hkz : k < T.z := by omega
    generalize hg : madeL T bs fair k = g at *
    have hstep : madeL T bs fair (k + 1) = g ++ [mkO T bs fair k g] := by
      show madeL T bs fair k ++ [mkO T bs fair k (madeL T bs fair k)] = _
      rw [hg]
    generalize hnx : (fun vs => N_law13_made_0 _ _ _ _ _ _ _ t vs) = nx
    have J1 : ∀ (t' : Hp), Ext t t' → J_law13_made_1 W (endK K E) (manI (mkO T bs fair k g)) x16 l17 c18 q bs.length cq fair ⟨s.size, 0, none⟩ T.z nx (setK (tkF g) 8 : Nat) k t' := by
      intro t' et'
      have J0 : ∀ n44 : Int, n44 = (setK (tkF (g ++ [mkO T bs fair k g])) 8 : Nat) → J_law13_made_0 W (endK K E) (manI (mkO T bs fair k g)) x16 l17 c18 q bs.length cq fair ⟨s.size, 0, none⟩ T.z nx n44 k t' := by
        intro n44 hn
        unfold J_law13_made_0
        refine ne1 fun t3 f3 y3 q3 => ?_
        have et3 := et.trans (et'.trans f3)
        refine APP_fr (lo := s1.size) (hfr.ext (et'.trans f3)) et3.1 (ws := [.int .i64 (manI (mkO T bs fair k g))]) (fun i hi => ⟨⟨t'.size, 0, none⟩, rfl, ?_⟩) rfl zc_3 rfl (by omega) (by simp [oneCell]) (by omega) fun t4 x4 c4 k4 hx4 g4 => ?_
        · have hi0 : i = 0 := by simp at hi; omega
          subst hi0; exact q3.cell
        have e4 : Ext s1 t4 := kp_nil et3 (fun b hb => by obtain ⟨y, hy, rfl⟩ := hb; exact hfr.fr y hy) k4
        rw [← hnx]
        refine ⟨rfl, _, _, _, _, _, rfl, ⟨e4, k + 1, hkz, wrap_succ (by omega), ?_, ?_⟩, ms_succ hkz (by omega)⟩
        · rw [hstep]; exact hn
        · rw [hstep, manL_app, ints_app]; exact g4
      unfold J_law13_made_1
      cases ho : mkO T bs fair k g with
      | none =>
        rw [ho] at J0
        refine BR_ff (decide_eq_false (by show ¬ (-1 : Int) ≥ 0; omega)) ?_
        exact J0 _ (by rw [tkF_none])
      | some m =>
        rw [ho] at J0
        obtain ⟨g1, g2, _⟩ := mkO_some ho
        refine BR_tt (decide_eq_true (by show ((m : Nat) : Int) ≥ 0; omega)) ?_
        refine NNI_of (by show 0 ≤ ((m : Nat) : Int); omega) ?_
        refine J0 _ ?_
        rw [tkF_some]
        exact bit_put (by omega) g2
    have J3 : ∀ n26 : Int, n26 = manI (mkM T bs k) → J_law13_made_3 W (endK K E) n26 ⟨s.size, 0, none⟩ k (setK (tkF g) 8 : Nat) x16 l17 c18 q bs.length cq fair T.z nx t := by
      intro n26 hn
      subst hn
      unfold J_law13_made_3
      cases hm : mkM T bs k with
      | none =>
        refine BR_ff (decide_eq_false (by show ¬ (-1 : Int) ≥ 0; omega)) ?_
        have : mkO T bs fair k g = none := by unfold mkO; rw [hm]
        have j := J1 t (Ext.refl _)
        rw [this] at j
        exact j
      | some m =>
        have hmn := mkM_lt hm
        refine BR_tt (decide_eq_true (by show ((m : Nat) : Int) ≥ 0; omega)) ?_
        refine ⟨_, _, _, et.cell o1.cell, _, _, _, et.cell o2.cell, ?_⟩
        refine c_CanV hok hmn hkz (hx.ext e0t) (hy.ext e0t) fun t1 f1 => ?_
        try simp only [TUP_mk, AGG_mk, HD_mk, NL_mk, TYI_mk, TYB_mk, TYP_mk, TYL_mk, TYS_mk, TYM_mk, SO_mk, NX_mk, endK_mk, endK_mk', add_0]
        refine NNI_of (by show 0 ≤ ((m : Nat) : Int); omega) ?_
        have hbit := bit_is (tkF g) (i := m) (by omega)
        have hO : mkO T bs fair k g = if tkF g m || (fair && !canP T m k) then none else some m := by unfold mkO; rw [hm]
        have j := J1 t1 f1
        refine (fun hh => by rw [show (andv .i64 (shrv .i64 ((setK (tkF g) 8 : Nat) : Int) (manI (some m))) 1 == 1) = tkF g m from hbit]; exact hh : BR (tkF g m) _ _ t1 → BR (andv .i64 (shrv .i64 ((setK (tkF g) 8 : Nat) : Int) (manI (some m))) 1 == 1) _ _ t1) ?_
        cases ht : tkF g m with
        | true =>
          rw [ht] at hO
          rw [hO] at j
          refine BR_tt rfl ?_
          unfold J_law13_made_2
          exact BR_tt rfl j
        | false =>
          rw [ht] at hO
          refine BR_ff rfl ?_
          unfold J_law13_made_2
          cases hf : fair with
          | true =>
            subst hf
            refine BR_tt rfl ?_
            cases hc : canP T m k with
            | true => rw [hc] at hO; rw [hO] at j; exact BR_ff rfl j
            | false => rw [hc] at hO; rw [hO] at j; exact BR_tt rfl j
          | false =>
            subst hf
            rw [hO] at j
            exact BR_ff rfl (BR_ff rfl j)
    refine BR_dec (fun hb => ?_) (fun hb => ?_)
    · have hb0 : 0 < bs.length := by omega
      refine NZI_pos (by omega) ?_
      have hmod : k % bs.length < bs.length := Nat.mod_lt _ hb0
      obtain ⟨a, ha, g1⟩ := row_byte (hq.ext e0t) hmod
      rw [tmodN]
      refine IXS_at ha hmod ?_
      refine ⟨_, g1, ?_⟩
      refine ⟨_, _, _, et.cell o1.cell, ?_⟩
      have hw1 : IntKind.i64.wrap ((T.n : Int) + 1) = ((T.n + 1 : Nat) : Int) := wrap_succ (by omega)
      dsimp only
      rw [hw1]
      refine NZI_pos (by omega) ?_
      refine J3 _ ?_
      have hb2 : bs.getD (k % bs.length) 0 < 256 := by
        rw [getD_lt hmod]
        exact h256 _ (List.getElem_mem hmod)
      rw [mkM_man]
      have hV : mkV T bs k = (bs.getD (k % bs.length) 0 + 5 * k) % (T.n + 1) := by unfold mkV; rw [if_neg (by omega)]
      have hVlt := mkV_lt T bs k
      generalize hB : bs.getD (k % bs.length) 0 = B at *
      have w1 : IntKind.i64.wrap (B : Int) = (B : Int) := wrap_i64 (by omega) (by omega)
      have w2 : IntKind.i64.wrap (5 * (k : Int)) = ((5 * k : Nat) : Int) := by rw [wrap_i64 (by omega) (by omega)]; omega
      have w3 : IntKind.i64.wrap ((B : Int) + ((5 * k : Nat) : Int)) = ((B + 5 * k : Nat) : Int) := by rw [wrap_i64 (by omega) (by omega)]; omega
      rw [w1, w2, w3, tmodN, ← hV, wrap_i64 (by omega) (by omega)]
    · have hb0 : bs.length = 0 := by omega
      refine J3 _ ?_
      unfold mkM mkV
      rw [if_pos hb0]
      rfl
  · have hkz : k = T.z := by omega
    subst hkz
    subst hl17
    exact h t x16 c18 e0t (hfr.le e1.1)
end
end Go.Proofs.Ytfaeokcbfnlgbaa.G

/- Prize: plain: the most prizes. -/
set_option linter.unusedSimpArgs false
set_option linter.unusedVariables false
set_option maxRecDepth 20000
namespace Go.Proofs.Ytfaeokcbfnlgbaa.G
open Go.V
theorem bestG_legit (T : PT) : ∀ (r z : Nat) (f : Nat → Bool), Legit T r z f (bestG T r z f)
  | 0, z, f => .nil z f
  | r + 1, z, f => by
    unfold bestG
    by_cases h : optN T r (z + 1) f = optN T (r + 1) z f
    · rw [if_pos h]; exact .none (bestG_legit T r (z + 1) f)
    · rw [if_neg h]
      split
      · rename_i m hm
        exact .some (cand_mem.1 (List.mem_of_find?_eq_some hm)) (bestG_legit T r (z + 1) (less f m))
      · exact .none (bestG_legit T r (z + 1) f)
theorem legit_of {T : PT} : ∀ (g : List (Option Nat)) (z : Nat) (f : Nat → Bool), (∀ (i m : Nat), g[i]? = some (some m) → Cand T f (z + i) m) → (∀ (i j m : Nat), g[i]? = some (some m) → g[j]? = some (some m) → i = j) → Legit T g.length z f g
  | [], z, f, _, _ => .nil z f
  | none :: g, z, f, hc, hu => .none (legit_of g (z + 1) f (fun i m h => by have := hc (i + 1) m (by simpa using h); rw [show z + (i + 1) = z + 1 + i by omega] at this; exact this) (fun i j m h1 h2 => by have := hu (i + 1) (j + 1) m (by simpa using h1) (by simpa using h2); omega))
  | some q :: g, z, f, hc, hu => .some (hc 0 q rfl) (legit_of g (z + 1) (less f q) (fun i m h => by
      have h1 := hc (i + 1) m (by simpa using h)
      rw [show z + (i + 1) = z + 1 + i by omega] at h1
      refine ⟨h1.1, ?_, h1.2.2⟩
      unfold less
      rw [h1.2.1]
      have : ¬ m = q := fun e => by
        have := hu 0 (i + 1) q rfl (by rw [← e]; simpa using h)
        omega
      simp [this]) (fun i j m h1 h2 => by have := hu (i + 1) (j + 1) m (by simpa using h1) (by simpa using h2); omega))
/-- Whoever gets a prize can have it. -/
def CanG (T : PT) (g : List (Option Nat)) : Prop := ∀ (i m : Nat), g[i]? = some (some m) → canP T m i = true
theorem okG_legit {T : PT} {g : List (Option Nat)} (h : OkG T g) (hc : CanG T g) : Legit T g.length 0 allF g :=
  legit_of g 0 allF (fun i m hi => by rw [Nat.zero_add]; exact ⟨h.lt m (List.mem_of_getElem? hi), rfl, hc i m hi⟩) h.un
theorem legit_okG {T : PT} {r : Nat} {f : Nat → Bool} {g : List (Option Nat)} (h : Legit T r 0 f g) : OkG T g ∧ CanG T g := by
  have h1 := legit_at h
  refine ⟨⟨fun m hm => ?_, fun i j m hi hj => ((h1 i m hi).2 j hj).symm⟩, fun i m hi => ?_⟩
  · obtain ⟨i, hi, e⟩ := List.mem_iff_getElem.1 hm
    exact (h1 i m (by rw [List.getElem?_eq_getElem hi, e])).1.1
  · have := (h1 i m hi).1.2.2
    rw [Nat.zero_add] at this; exact this
theorem many_le_n {T : PT} {g : List (Option Nat)} (h : OkG T g) : many g ≤ T.n := by
  have hl : ∀ g : List (Option Nat), (g.filterMap id).length = many g := by
    intro g
    induction g with
    | nil => rfl
    | cons o g ih =>
      rw [many_cons, ← ih]
      cases o with
      | none => simp
      | some m => simp [Nat.add_comm]
  have hnd : ∀ g : List (Option Nat), (∀ (i j m : Nat), g[i]? = some (some m) → g[j]? = some (some m) → i = j) → (g.filterMap id).Nodup := by
    intro g
    induction g with
    | nil => intro _; exact List.Pairwise.nil
    | cons o g ih =>
      intro hu
      have ih := ih (fun i j m h1 h2 => by have := hu (i + 1) (j + 1) m (by simpa using h1) (by simpa using h2); omega)
      cases o with
      | none => simpa using ih
      | some m =>
        rw [List.filterMap_cons]
        refine List.nodup_cons.2 ⟨fun hm => ?_, ih⟩
        obtain ⟨o, ho, e⟩ := List.mem_filterMap.1 hm
        have e : o = some m := e
        subst e
        obtain ⟨i, hi, e2⟩ := List.mem_iff_getElem.1 ho
        have := hu 0 (i + 1) m rfl (by rw [List.getElem?_cons_succ, List.getElem?_eq_getElem hi, e2])
        omega
  rw [← hl g]
  have := sub_len (g.filterMap id) (List.range T.n) (hnd g h.un) (fun m hm => by
    obtain ⟨o, ho, e⟩ := List.mem_filterMap.1 hm
    have e : o = some m := e
    subst e
    exact List.mem_range.2 (h.lt m ho))
  simpa using this
theorem find_first {p : Nat → Bool} : ∀ {l : List Nat} {m k : Nat}, l.Pairwise (· < ·) → l.find? p = some m → k ∈ l → p k = true → m ≤ k
  | [], m, k, _, h, _, _ => by cases h
  | x :: l, m, k, hp, h, hk, hq => by
    rw [List.pairwise_cons] at hp
    rw [List.find?_cons] at h
    cases hx : p x with
    | true =>
      rw [hx] at h
      cases h
      rcases List.mem_cons.1 hk with rfl | hk
      · exact Nat.le_refl _
      · exact Nat.le_of_lt (hp.1 k hk)
    | false =>
      rw [hx] at h
      rcases List.mem_cons.1 hk with rfl | hk
      · rw [hq] at hx; cases hx
      · exact find_first hp.2 h hk hq
theorem cand_sorted (T : PT) (f : Nat → Bool) (z : Nat) : (candL T f z).Pairwise (· < ·) := (List.pairwise_lt_range (n := T.n)).filter _
theorem manI_ge (o : Option Nat) : -1 ≤ manI o := by
  cases o with
  | none => exact Int.le_refl _
  | some m => have : (0 : Int) ≤ manI (some m) := Int.natCast_nonneg m; omega
/-- The first of the best. -/
theorem bestG_lex {T : PT} : ∀ (r z : Nat) (f : Nat → Bool) (g : List (Option Nat)), Legit T r z f g → many g = optN T r z f → ∀ i, (∀ j, j < i → g.getD j none = (bestG T r z f).getD j none) → manI ((bestG T r z f).getD i none) ≤ manI (g.getD i none)
  | 0, z, f, g, _, _, i, _ => by
    have : (bestG T 0 z f).getD i none = none := rfl
    rw [this]; exact manI_ge _
  | r + 1, z, f, g, hl, hm, i, ha => by
    by_cases h : optN T r (z + 1) f = optN T (r + 1) z f
    · have hb : bestG T (r + 1) z f = none :: bestG T r (z + 1) f := by
        conv => lhs; unfold bestG
        rw [if_pos h]
      rw [hb] at ha ⊢
      cases i with
      | zero => exact manI_ge _
      | succ i =>
        have h0 := ha 0 (by omega)
        cases hl with
        | none hl' =>
          rw [many_cons] at hm
          simp only [Option.isSome_none, Bool.false_eq_true, if_false, Nat.zero_add] at hm
          exact bestG_lex r (z + 1) f _ hl' (by omega) i fun j hj => ha (j + 1) (by omega)
        | some hc hl' => cases h0
    · have hx : ∃ m, (candL T f z).find? (fun m => decide (1 + optN T r (z + 1) (less f m) = optN T (r + 1) z f)) = some m := by
        cases hq : (candL T f z).find? (fun m => decide (1 + optN T r (z + 1) (less f m) = optN T (r + 1) z f)) with
        | some m => exact ⟨m, rfl⟩
        | none =>
          exfalso
          rcases opt_or (T := T) (r := r) (z := z) (f := f) with h1 | ⟨m, h1, h2⟩
          · exact h h1.symm
          · exact (List.find?_eq_none.1 hq m (cand_mem.2 h1)) (decide_eq_true h2.symm)
      obtain ⟨m, hfm⟩ := hx
      have hb : bestG T (r + 1) z f = some m :: bestG T r (z + 1) (less f m) := by
        conv => lhs; unfold bestG
        rw [if_neg h, hfm]
      rw [hb] at ha ⊢
      cases hl with
      | none hl' =>
        exfalso
        rw [many_cons] at hm
        simp only [Option.isSome_none, Bool.false_eq_true, if_false, Nat.zero_add] at hm
        have := legit_le hl'
        have := opt_none (T := T) (r := r) (z := z) (f := f)
        omega
      | some hc hl' =>
        rename_i m' g'
        rw [many_cons] at hm
        simp only [Option.isSome_some, if_true] at hm
        have h1 := legit_le hl'
        have h2 := opt_some (r := r) hc
        have hle := find_first (cand_sorted T f z) hfm (cand_mem.2 hc) (decide_eq_true (by omega))
        cases i with
        | zero => show ((m : Nat) : Int) ≤ ((m' : Nat) : Int); omega
        | succ i =>
          have h0 : some m' = some m := ha 0 (by omega)
          cases h0
          exact bestG_lex r (z + 1) (less f m) g' hl' (by omega) i fun j hj => ha (j + 1) (by omega)
theorem man_getD {g : List (Option Nat)} {i : Nat} (h : i < g.length) : (manL g).getD i 0 = manI (g.getD i none) := by
  unfold manL
  rw [getD_lt (by rw [List.length_map]; exact h), List.getElem_map, getD_lt h]
theorem worth_ok {T : PT} {g : List (Option Nat)} (hok : okP T = true) (h : OkG T g) (hc : CanG T g) (hl : g.length = T.z) : worthR T (manL g) = (worP T (manL g), (worP T (manL g)).sum, 0) := by
  unfold worthR
  rw [if_pos hok, if_pos (gv_okG h hl)]
  have : fairP T (manL g) = true := by
    unfold fairP
    rw [List.all_eq_true]
    intro i hi
    have hi := List.mem_range.1 hi
    have hi' : i < g.length := by unfold manL at hi; rw [List.length_map] at hi; exact hi
    rw [man_getD hi', getD_lt hi']
    cases ho : g[i] with
    | none => rfl
    | some m =>
      have := hc i m (by rw [List.getElem?_eq_getElem hi', ho])
      show ((((m : Nat) : Int) == -1) || canP T (((m : Nat) : Int)).toNat i) = true
      rw [toNat_nat, this]
      simp
  rw [if_pos this]
theorem due_canG {T : PT} (hv : VdP T) : CanG T (dueP T) := fun i m hi => by
  have hlt := (List.getElem?_eq_some_iff.1 hi).1
  have hiz : i < T.z := by rw [show (dueP T).length = T.z from dueL_len T T.z] at hlt; exact hlt
  rw [due_get hiz] at hi
  have h := (due_one hv (Option.some.inj hi)).2.1
  unfold canC at h
  simp only [Bool.and_eq_true] at h
  exact h.1
end Go.Proofs.Ytfaeokcbfnlgbaa.G

/- Prize: what a giving is worth, plainly; two lists that are made in any order. -/
set_option linter.unusedSimpArgs false
set_option linter.unusedVariables false
set_option maxRecDepth 20000
namespace Go.Proofs.Ytfaeokcbfnlgbaa.G
open Go.V
theorem sum_set : ∀ (l : List Int) (i : Nat) (v : Int) (h : i < l.length), (l.set i v).sum + l[i] = l.sum + v
  | [], i, v, h => by simp at h
  | x :: l, 0, v, h => by
    show (v :: l).sum + x = (x :: l).sum + v
    rw [List.sum_cons, List.sum_cons]; omega
  | x :: l, i + 1, v, h => by
    have ih := sum_set l i v (by simpa using h)
    show (x :: l.set i v).sum + l[i]'(by simpa using h) = (x :: l).sum + v
    rw [List.sum_cons, List.sum_cons]; omega
theorem sum_bd : ∀ (l : List Int) (n : Nat), (∀ x ∈ l, 0 ≤ x ∧ x ≤ n) → 0 ≤ l.sum ∧ l.sum ≤ n * l.length
  | [], n, _ => by simp
  | x :: l, n, h => by
    have ih := sum_bd l n (fun y hy => h y (by simp [hy]))
    have hx := h x (by simp)
    rw [List.sum_cons, List.length_cons]
    have : ((n * (l.length + 1) : Nat) : Int) = n * l.length + n := by rw [Nat.mul_succ]; omega
    push_cast at this ⊢
    omega
theorem worL_step {T : PT} {g : List (Option Nat)} {k : Nat} (h : k < g.length) : worL T (manL g) (k + 1) = match g.getD k none with | none => worL T (manL g) k | some m => (worL T (manL g) k).set m (T.pz k).worth := by
  conv => lhs; unfold worL
  rw [man_getD h]
  cases g.getD k none with
  | none => rfl
  | some m =>
    have : ¬ manI (some m) = -1 := by show ¬ ((m : Nat) : Int) = -1; omega
    rw [if_neg this]
    show (worL T (manL g) k).set (((m : Nat) : Int)).toNat _ = _
    rw [toNat_nat]
theorem worL_zero {T : PT} {g : List (Option Nat)} {m : Nat} (hm : m < T.n) : ∀ k, k ≤ g.length → (∀ j, j < k → g.getD j none ≠ some m) → (worL T (manL g) k).getD m 0 = 0
  | 0, _, _ => by unfold worL; simp [List.getD, hm]
  | k + 1, hk, h => by
    have ih := worL_zero (g := g) hm k (by omega) (fun j hj => h j (by omega))
    have hkg : k < g.length := by omega
    rw [worL_step hkg]
    cases hg : g.getD k none with
    | none => exact ih
    | some q =>
      have hne : q ≠ m := fun e => h k (by omega) (by rw [hg, e])
      show ((worL T (manL g) k).set q _).getD m 0 = 0
      simp only [List.getD] at ih ⊢
      rw [List.getElem?_set_ne hne]; exact ih
theorem worL_sum {T : PT} {g : List (Option Nat)} {k m : Nat} (hk : OkG T g) (h : k < g.length) (hg : g.getD k none = some m) : (worL T (manL g) (k + 1)).sum = (worL T (manL g) k).sum + (T.pz k).worth := by
  rw [worL_step h, hg]
  have hgk : g[k]? = some (some m) := by rw [getD_lt h] at hg; rw [List.getElem?_eq_getElem h, hg]
  have hm := hk.lt m (List.mem_of_getElem? hgk)
  have hz := worL_zero (g := g) hm k (by omega) (fun j hj e => by
    have hj' : j < g.length := by omega
    rw [getD_lt hj'] at e
    have := hk.un j k m (by rw [List.getElem?_eq_getElem hj', e]) hgk
    omega)
  have hl : m < (worL T (manL g) k).length := by rw [worL_len]; exact hm
  rw [getD_lt hl] at hz
  have := sum_set (worL T (manL g) k) m (T.pz k).worth hl
  show ((worL T (manL g) k).set m _).sum = _
  omega
theorem wrong_gv {T : PT} {g : List (Option Nat)} (hok : okP T = true) (h : OkG T g) (hl : g.length = T.z) : wrongR T (manL g) = wrongP T (manL g) := by
  unfold wrongR
  rw [if_pos hok, if_pos (gv_okG h hl)]
theorem worth_len {T : PT} {ds : List Int} (hok : okP T = true) (h : ds.length ≠ T.z) : worthR T ds = ([], 0, 2) := by
  unfold worthR
  have : gvP T ds = false := by
    unfold gvP
    rw [decide_eq_false h]; rfl
  rw [if_pos hok, this]; rfl
theorem worth_no {T : PT} {g : List (Option Nat)} (hok : okP T = true) (h : OkG T g) (hl : g.length = T.z) {i m : Nat} (hi : g[i]? = some (some m)) (hc : canP T m i = false) : worthR T (manL g) = ([], 0, 4) := by
  unfold worthR
  rw [if_pos hok, if_pos (gv_okG h hl)]
  have : fairP T (manL g) = false := by
    unfold fairP
    rw [List.all_eq_false]
    obtain ⟨hlt, e⟩ := List.getElem?_eq_some_iff.1 hi
    refine ⟨i, List.mem_range.2 (by unfold manL; rw [List.length_map]; exact hlt), ?_⟩
    rw [man_getD hlt, getD_lt hlt, e]
    show ¬ ((((m : Nat) : Int) == -1) || canP T (((m : Nat) : Int)).toNat i) = true
    rw [toNat_nat, hc]
    have : ¬ ((m : Nat) : Int) = -1 := by omega
    simp [this]
  rw [this]; rfl
structure Ent where
  x : Option Addr
  l : Nat
  c : Nat
  ds : List Int
structure P2 (t0 t : Hp) (A B : Option Ent) : Prop where
  ext : Ext t0 t
  a : ∀ e, A = some e → Fr t0.size t e.x e.l e.c 1 (ints e.ds) ∧ 0 < e.c
  b : ∀ e, B = some e → Fr t0.size t e.x e.l e.c 1 (ints e.ds) ∧ 0 < e.c
  ne : ∀ e f p q, A = some e → B = some f → e.x = some p → f.x = some q → p.block ≠ q.block
theorem fr_lt' {lo : Nat} {s : Hp} {x : Option Addr} {l c : Nat} {vs : List Value} (h : Fr lo s x l c 1 vs) (hc : 0 < c) {a : Addr} (hx : x = some a) : a.block < s.size := by
  obtain ⟨a', h1, y, h2, _⟩ := h.buf.own 0 (by omega)
  rw [hx] at h1; cases h1
  have := h2.lt
  rwa [add_blk] at this
section
variable {t0 t : Hp} {A B : Option Ent}
theorem P2.newA {K : Nat → Hp → Prop} (h : P2 t0 t none B) (hk : ∀ t', P2 t0 t' (some ⟨some ⟨t.size, 0, none⟩, 1, 1, [-1]⟩) B → K t.size t') : NEW 3 [.int .i64 (-1)] K t := by
  refine NEW_rule fun t' e z n _ => ?_
  refine hk t' ⟨h.ext.trans e, fun e' he => ?_, fun e' he => ⟨(h.b e' he).1.ext e, (h.b e' he).2⟩, fun e' f p q he hf hp hq => ?_⟩
  · cases he
    refine ⟨⟨⟨by simp [ints], fun i hi => ?_⟩, rfl, fun a ha => by cases ha; exact h.ext.1, by show 1 ≤ _; omega⟩, by show 0 < 1; omega⟩
    have hi0 : i = 0 := by simp at hi; omega
    subst hi0
    exact ⟨_, rfl, _, n 0 _ rfl, fun _ => rfl⟩
  · cases he; cases hp
    have := fr_lt' (h.b f hf).1 (h.b f hf).2 hq
    show t.size ≠ _
    omega
theorem P2.newB {K : Nat → Hp → Prop} {n : Nat} (hn : n ≤ 1000) (hn0 : 0 < n) (h : P2 t0 t A none) (hk : ∀ t', P2 t0 t' A (some ⟨some ⟨t.size, 0, none⟩, 0, n, []⟩) → K t.size t') : MKS Pg 3 0 (n : Int) K t := by
  refine MKS_cap zc_3 (by omega) fun t' e z f => ?_
  refine hk t' ⟨h.ext.trans e, fun e' he => ⟨(h.a e' he).1.ext e, (h.a e' he).2⟩, fun e' he => ?_, fun e' f p q he hf hp hq => ?_⟩
  · cases he
    exact ⟨f.le h.ext.1, hn0⟩
  · cases hf; cases hq
    have := fr_lt' (h.a e' he).1 (h.a e' he).2 hp
    show _ ≠ t.size
    omega
theorem P2.appA {K : Option Addr → Nat → Nat → Hp → Prop} {x q : Option Addr} {ds : List Int} {n : Nat} (hq : ∀ t, Ext t0 t → RowAt t q (ints ds)) (hl : ds.length = n) (hn : n ≤ 1000) (h : P2 t0 t (some ⟨x, 1, 1, [-1]⟩) B) (hk : ∀ t' x' c', P2 t0 t' (some ⟨x', 1 + n, c', -1 :: ds⟩) B → K x' (1 + n) c' t') : APP Pg 3 1 x 1 1 q n K t := by
  obtain ⟨fa, _⟩ := h.a _ rfl
  refine APP_fr (lo := t0.size) fa h.ext.1 (ws := ints ds) (hq t h.ext) (by rw [ints_len]; omega) zc_3 rfl (by omega) (ints_one ds) (by omega) fun t' x' c' k hx f => ?_
  have hne : ∀ e, B = some e → ∀ a, e.x = some a → ¬ (∃ p, x = some p ∧ p.block = a.block) := fun e he a ha ⟨p, hp, hpb⟩ => h.ne _ e p a rfl he hp ha hpb
  have hfb : ∀ e, B = some e → Fr t0.size t' e.x e.l e.c 1 (ints e.ds) := fun e he => (h.b e he).1.kp k (hne e he)
  refine hk t' x' c' ⟨kp_nil h.ext (fun b hb => by obtain ⟨p, hp, rfl⟩ := hb; exact fa.fr p hp) k, fun e he => ?_, fun e he => ⟨hfb e he, (h.b e he).2⟩, fun e f' p r he hf hp hr => ?_⟩
  · cases he
    refine ⟨f, ?_⟩
    have := f.buf.le
    rw [List.length_append, ints_len] at this
    simp at this
    show 0 < c'
    omega
  · cases he
    rcases hx p hp with ⟨p', hp', e⟩ | e
    · rw [← e]; exact h.ne _ f' p' r rfl hf hp' hr
    · have := fr_lt' (h.b f' hf).1 (h.b f' hf).2 hr
      omega
theorem P2.appB {K : Option Addr → Nat → Nat → Hp → Prop} {y q : Option Addr} {ds : List Int} {n c : Nat} (hq : ∀ t, Ext t0 t → RowAt t q (ints ds)) (hl : ds.length = n) (hn : n ≤ 1000) (hc : n ≤ c) (hc2 : c ≤ 1000) (h : P2 t0 t A (some ⟨y, 0, c, []⟩)) (hk : ∀ t', P2 t0 t' A (some ⟨y, n, c, ds⟩) → K y (0 + n) c t') : APP Pg 3 1 y 0 c q n K t := by
  obtain ⟨fb, hc0⟩ := h.b _ rfl
  refine APP_bufN fb.buf fb.len (hq t h.ext) (by rw [ints_len]; omega) zc_3 rfl (by omega) (ints_one ds) (by omega) (by show c ≤ _; omega) fun t' x' c' k g1 g2 g3 u => ?_
  obtain ⟨rfl, rfl⟩ := g1 (by omega)
  have hne : ∀ e, A = some e → ∀ a, e.x = some a → ¬ (∃ p, x' = some p ∧ p.block = a.block) := fun e he a ha ⟨p, hp, hpb⟩ => h.ne e _ a p he rfl ha hp hpb.symm
  refine hk t' ⟨kp_nil h.ext (fun b hb => by obtain ⟨p, hp, rfl⟩ := hb; exact fb.fr p hp) k, fun e he => ⟨(h.a e he).1.kp k (hne e he), (h.a e he).2⟩, fun e he => ?_, fun e f p r he hf hp hr => ?_⟩
  · cases he
    refine ⟨⟨?_, by rw [ints_len]; show ds.length = n * 1; omega, fb.fr, by omega⟩, hc0⟩
    have e : ints ([] : List Int) ++ ints ds = ints ds := rfl
    rw [e] at u
    exact u
  · cases hf
    exact h.ne e _ p r he rfl hp hr
end
end Go.Proofs.Ytfaeokcbfnlgbaa.G

/- Prize: plain: without somebody who gets nothing. -/
set_option linter.unusedSimpArgs false
set_option linter.unusedVariables false
set_option maxRecDepth 20000
namespace Go.Proofs.Ytfaeokcbfnlgbaa.G
open Go.V
theorem sorted_eq {T : PT} : ∀ {L L' : List Nat}, L.Pairwise (fun a b => (T.man a).place < (T.man b).place) → L'.Pairwise (fun a b => (T.man a).place < (T.man b).place) → (∀ m, m ∈ L ↔ m ∈ L') → L = L'
  | [], [], _, _, _ => rfl
  | [], y :: L', _, _, h => absurd ((h y).2 (by simp)) (by simp)
  | x :: L, [], _, _, h => absurd ((h x).1 (by simp)) (by simp)
  | x :: L, y :: L', h1, h2, h => by
    rw [List.pairwise_cons] at h1 h2
    have hxy : x = y := by
      rcases List.mem_cons.1 ((h x).1 (by simp)) with e | e
      · exact e
      · rcases List.mem_cons.1 ((h y).2 (by simp)) with e' | e'
        · exact e'.symm
        · have a := h2.1 x e
          have b := h1.1 y e'
          omega
    subst hxy
    congr 1
    refine sorted_eq h1.2 h2.2 fun m => ⟨fun hm => ?_, fun hm => ?_⟩
    · rcases List.mem_cons.1 ((h m).1 (by simp [hm])) with e | e
      · subst e; have := h1.1 m hm; omega
      · exact e
    · rcases List.mem_cons.1 ((h m).2 (by simp [hm])) with e | e
      · subst e; have := h2.1 m hm; omega
      · exact e
theorem ord_unique {T : PT} (hv : VdP T) {L : List Nat} (hp : L.Pairwise fun a b => (T.man a).place < (T.man b).place) (hm : ∀ m, m ∈ L ↔ m < T.n) : ordP T = L :=
  sorted_eq (ord_sorted hv) hp fun m => by rw [ord_mem hv, hm]
def dnK (m i : Nat) : Nat := if i > m then i - 1 else i
theorem man_without {T : PT} {m i : Nat} (hm : m < T.n) (hi : i < T.n) (hne : i ≠ m) : (withoutP T m).man (dnK m i) = decP (T.man m).place (T.man i) := by
  have hg : ((T.men.eraseIdx m).map (decP (T.man m).place))[dnK m i]? = some (decP (T.man m).place (T.man i)) := by
    rw [List.getElem?_map, List.getElem?_eraseIdx]
    have hi' : i < T.men.length := hi
    have e : (if dnK m i < m then T.men[dnK m i]? else T.men[dnK m i + 1]?) = some (T.man i) := by
      have hat : T.men[i]? = some (T.man i) := by unfold PT.man; rw [getD_lt hi', List.getElem?_eq_getElem hi']
      by_cases h : i > m
      · have : dnK m i = i - 1 := by unfold dnK; rw [if_pos h]
        rw [this, if_neg (by omega), show i - 1 + 1 = i by omega, hat]
      · have : dnK m i = i := by unfold dnK; rw [if_neg h]
        rw [this, if_pos (by omega), hat]
    rw [e]; rfl
  show ((T.men.eraseIdx m).map (decP (T.man m).place)).getD (dnK m i) default = _
  rw [List.getD_eq_getElem?_getD, hg]
  rfl
theorem dec_lt {p : Int} {a b : Mn} (ha : a.place ≠ p) (hb : b.place ≠ p) (h : a.place < b.place) : (decP p a).place < (decP p b).place := by
  unfold decP
  by_cases h1 : a.place > p
  · rw [if_pos h1, if_pos (by omega)]
    show a.place - 1 < b.place - 1
    omega
  · rw [if_neg h1]
    by_cases h2 : b.place > p
    · rw [if_pos h2]; show a.place < b.place - 1; omega
    · rw [if_neg h2]; exact h
theorem dnK_inj {m i j : Nat} (hi : i ≠ m) (hj : j ≠ m) (h : dnK m i = dnK m j) : i = j := by
  unfold dnK at h
  split at h <;> split at h <;> omega
theorem dnK_up {m k : Nat} : dnK m (upK m k) = k ∧ upK m k ≠ m := by
  unfold dnK upK
  by_cases h : k ≥ m
  · rw [if_pos h, if_pos (by omega)]; omega
  · rw [if_neg h, if_neg (by omega)]; omega
theorem ord_without {T : PT} (hok : okP T = true) {m : Nat} (hm : m < T.n) (h2 : 2 ≤ T.n) : ordP (withoutP T m) = ((ordP T).filter fun k => !decide (k = m)).map (dnK m) := by
  have hv := okP_vd hok
  have hvW := okP_vd (ok_without hok hm h2)
  have hn := without_n hm
  refine ord_unique hvW ?_ fun j => ?_
  · rw [List.pairwise_map]
    refine ((ord_sorted hv).filter _).imp_of_mem fun {a b} ha hb hab => ?_
    obtain ⟨a1, a2⟩ := List.mem_filter.1 ha
    obtain ⟨b1, b2⟩ := List.mem_filter.1 hb
    have a1 := (ord_mem hv).1 a1
    have b1 := (ord_mem hv).1 b1
    have a2 : a ≠ m := by simpa using a2
    have b2 : b ≠ m := by simpa using b2
    rw [man_without hm a1 a2, man_without hm b1 b2]
    exact dec_lt (fun e => a2 (hv.inj a m a1 hm e)) (fun e => b2 (hv.inj b m b1 hm e)) hab
  · rw [hn]
    constructor
    · intro h
      obtain ⟨i, hi, rfl⟩ := List.mem_map.1 h
      obtain ⟨h1, h2'⟩ := List.mem_filter.1 hi
      have h1 := (ord_mem hv).1 h1
      have h2' : i ≠ m := by simpa using h2'
      unfold dnK
      split <;> omega
    · intro h
      refine List.mem_map.2 ⟨upK m j, List.mem_filter.2 ⟨(ord_mem hv).2 ?_, ?_⟩, dnK_up.1⟩
      · unfold upK; split <;> omega
      · have := (dnK_up (m := m) (k := j)).2
        simpa using this
theorem canP_kind {T T' : PT} {i j z : Nat} (hz : T'.pz z = T.pz z) (h1 : (T'.man i).nov = (T.man j).nov) (h2 : (T'.man i).hor = (T.man j).hor) (h3 : (T'.man i).club = (T.man j).club) : canP T' i z = canP T j z := by
  unfold canP canK
  rw [hz, h1, h2, h3]
theorem dec_same (p : Int) (a : Mn) : (decP p a).nov = a.nov ∧ (decP p a).hor = a.hor ∧ (decP p a).club = a.club := by
  unfold decP
  split <;> exact ⟨rfl, rfl, rfl⟩
/-- What renumbered men get. -/
theorem worL_ren {T T' : PT} {σ : Nat → Nat} {g : List (Option Nat)} {i : Nat} (hz : ∀ k, k < g.length → (T'.pz k).worth = (T.pz k).worth) (hi : i < T.n) (hi' : σ i < T'.n) (hg : ∀ q, some q ∈ g → q < T.n ∧ σ q < T'.n ∧ (σ q = σ i → q = i)) :
    ∀ k, k ≤ g.length → (worL T' (manL (g.map (Option.map σ))) k).getD (σ i) 0 = (worL T (manL g) k).getD i 0
  | 0, _ => by
    unfold worL
    simp [List.getD, hi, hi']
  | k + 1, hk => by
    have ih := worL_ren hz hi hi' hg k (by omega)
    have hkg : k < g.length := by omega
    rw [worL_step hkg, worL_step (by rw [List.length_map]; exact hkg)]
    have hgd : (g.map (Option.map σ)).getD k none = (g.getD k none).map σ := by
      rw [getD_lt (by rw [List.length_map]; exact hkg), List.getElem_map, getD_lt hkg]
    rw [hgd]
    cases ho : g.getD k none with
    | none => exact ih
    | some q =>
      have hq : some q ∈ g := by rw [getD_lt hkg] at ho; rw [← ho]; exact List.getElem_mem hkg
      obtain ⟨h1, h2, h3⟩ := hg q hq
      show ((worL T' (manL (g.map (Option.map σ))) k).set (σ q) (T'.pz k).worth).getD (σ i) 0 = ((worL T (manL g) k).set q (T.pz k).worth).getD i 0
      rw [hz k hkg]
      by_cases e : q = i
      · subst e
        rw [getD_lt (by rw [List.length_set, worL_len]; exact h2), getD_lt (by rw [List.length_set, worL_len]; exact h1), List.getElem_set_self, List.getElem_set_self]
      · have e' : σ q ≠ σ i := fun hh => e (h3 hh)
        simp only [List.getD] at ih ⊢
        rw [List.getElem?_set_ne e', List.getElem?_set_ne e]
        exact ih
theorem due_without {T : PT} (hok : okP T = true) {m : Nat} (hm : m < T.n) (h2 : 2 ≤ T.n) (hnc : noClub T = true) (hmd : ¬ some m ∈ dueP T) : dueP (withoutP T m) = (dueP T).map (Option.map (dnK m)) := by
  have hv := okP_vd hok
  show dueL (withoutP T m) T.z = (dueL T T.z).map _
  rw [dueL_O, dueL_O, ord_without hok hm h2]
  refine due_ren (can := canC T) (can' := canC (withoutP T m)) ?_ T.z ?_ ?_
  · intro i hi j hj h1 h3 e
    exact dnK_inj (by simpa using h1) (by simpa using h3) e
  · intro i hi hd z hz
    have hi := (ord_mem hv).1 hi
    have hne : i ≠ m := by simpa using hd
    have h4 := noClub_at hnc hz
    rw [canC_not4 h4, canC_not4 (T := withoutP T m) (show ¬ ((withoutP T m).pz z).kind = 4 from h4)]
    have hd := dec_same (T.man m).place (T.man i)
    rw [← man_without hm hi hne] at hd
    exact canP_kind rfl hd.1 hd.2.1 hd.2.2
  · intro q hq
    rw [← dueL_O] at hq
    have : q ≠ m := fun e => hmd (by rw [← e]; exact hq)
    simpa using this
theorem stay_none {T : PT} (hok : okP T = true) {m : Nat} (hm : m < T.n) (h2 : 2 ≤ T.n) (hnc : noClub T = true) (hmd : ¬ some m ∈ dueP T) : setK (gainB T m) T.n = 0 := by
  have hv := okP_vd hok
  have hn := without_n hm
  have hg := due_okG hv T.z
  rw [← setK_zero T.n]
  refine setK_congr T.n fun i hi => ?_
  unfold gainB
  by_cases e : i = m
  · simp [e]
  have hw : (worP (withoutP T m) (manL (dueP (withoutP T m)))).getD (dnK m i) 0 = (worP T (manL (dueP T))).getD i 0 := by
    rw [due_without hok hm h2 hnc hmd]
    unfold worP
    have hl : (manL ((dueP T).map (Option.map (dnK m)))).length = (dueP T).length := by unfold manL; rw [List.length_map, List.length_map]
    have hl2 : (manL (dueP T)).length = (dueP T).length := by unfold manL; rw [List.length_map]
    rw [hl, hl2]
    have lt : ∀ q, q < T.n → q ≠ m → dnK m q < (withoutP T m).n := fun q h1 h3 => by rw [hn]; unfold dnK; split <;> omega
    refine worL_ren (T := T) (T' := withoutP T m) (σ := dnK m) (fun k _ => rfl) hi (lt i hi e) (fun q hq => ?_) _ (Nat.le_refl _)
    have hqm : q ≠ m := fun e' => hmd (by rw [← e']; exact hq)
    have hqn := hg.lt q hq
    exact ⟨hqn, lt q hqn hqm, fun hh => dnK_inj hqm e hh⟩
  have hdn : (if i > m then i - 1 else i) = dnK m i := rfl
  rw [hdn, hw]
  simp
end Go.Proofs.Ytfaeokcbfnlgbaa.G

/- Prize: plain: at a better place one gets a prize, too. -/
set_option linter.unusedSimpArgs false
set_option linter.unusedVariables false
set_option maxRecDepth 20000
namespace Go.Proofs.Ytfaeokcbfnlgbaa.G
open Go.V
theorem for_spec {T : PT} {m : Nat} : ∀ k, (∃ p : Nat, 1 ≤ p ∧ p ≤ k ∧ forL T m k = ((p : Int), 0) ∧ getsP T m p = true ∧ ∀ q, p < q → q ≤ k → getsP T m q = false) ∨ (forL T m k = (0, 4) ∧ ∀ q, 1 ≤ q → q ≤ k → getsP T m q = false)
  | 0 => .inr ⟨rfl, fun q h1 h2 => by omega⟩
  | k + 1 => by
    have hs : forL T m (k + 1) = if getsP T m (k + 1) then (((k + 1 : Nat) : Int), 0) else forL T m k := rfl
    cases hg : getsP T m (k + 1) with
    | true =>
      rw [hg] at hs
      exact .inl ⟨k + 1, by omega, by omega, hs, hg, fun q h1 h2 => by omega⟩
    | false =>
      rw [hg] at hs
      have hs : forL T m (k + 1) = forL T m k := hs
      rw [hs]
      rcases for_spec (T := T) (m := m) k with ⟨p, h1, h2, h3, h4, h5⟩ | ⟨h1, h2⟩
      · refine .inl ⟨p, h1, by omega, h3, h4, fun q q1 q2 => ?_⟩
        by_cases e : q = k + 1
        · rw [e]; exact hg
        · exact h5 q q1 (by omega)
      · refine .inr ⟨h1, fun q q1 q2 => ?_⟩
        by_cases e : q = k + 1
        · rw [e]; exact hg
        · exact h2 q q1 (by omega)
def insN (os : List Nat) (i m : Nat) : List Nat := os.take i ++ m :: os.drop i
theorem nats_ins (os : List Nat) (i m : Nat) : nats (insN os i m) = insL (nats os) i (m : Int) := by
  unfold nats insN insL
  rw [List.map_append, List.map_cons, List.map_take, List.map_drop]
theorem ord_moved {T : PT} (hok : okP T = true) {m pl : Nat} (hm : m < T.n) (h1 : 1 ≤ pl) (h2 : pl ≤ T.n) : ordP (movedP T m (pl : Int)) = insN (othL T m) (pl - 1) m := by
  have hv := okP_vd hok
  have hokM := ok_moved (pl := (pl : Int)) hok hm (by omega) (by omega)
  have hvM := okP_vd hokM
  have hn := moved_n T m (pl : Int)
  have hlo := oth_len hv hm
  have hli : (insN (othL T m) (pl - 1) m).length = T.n := by
    unfold insN
    rw [List.length_append, List.length_cons, List.length_take, List.length_drop]
    omega
  refine List.ext_getElem (by rw [ord_len, hn, hli]) fun j g1 g2 => ?_
  rw [hli] at g2
  obtain ⟨i, hi, hget, hnew⟩ := new_order hv hm h1 h2 g2
  rw [← nats_ins] at hget
  have e1 : (insN (othL T m) (pl - 1) m)[j]'(by rw [hli]; exact g2) = i := by
    unfold nats at hget
    rw [List.getElem?_map, List.getElem?_eq_getElem (by rw [hli]; exact g2)] at hget
    have := Option.some.inj hget
    have : (((insN (othL T m) (pl - 1) m)[j]'(by rw [hli]; exact g2) : Nat) : Int) = (i : Int) := this
    omega
  rw [e1, ord_at g1]
  obtain ⟨q1, q2⟩ := hvM.sur ((j + 1 : Nat) : Int) (by omega) (by rw [hn]; omega)
  refine hvM.inj _ _ q1 (by rw [hn]; exact hi) ?_
  rw [q2, moved_man hi]
  exact hnew.symm
theorem canC_moved {T : PT} (hnc : noClub T = true) {m i z : Nat} {pl : Int} (hi : i < T.n) (hz : z < T.z) : canC (movedP T m pl) i z = canC T i z := by
  have h4 := noClub_at hnc hz
  have e1 : canC (movedP T m pl) i z = canP (movedP T m pl) i z := by
    unfold canC
    have : ¬ ((movedP T m pl).pz z).kind = 4 := h4
    rw [decide_eq_true this]; simp
  have e2 : canC T i z = canP T i z := by
    unfold canC
    rw [decide_eq_true h4]; simp
  rw [e1, e2]
  unfold canP
  rw [moved_man hi]
  rfl
theorem filter_ne {m : Nat} : ∀ {l : List Nat}, ¬ m ∈ l → l.filter (fun k => !decide (k = m)) = l
  | [], _ => rfl
  | x :: l, h => by
    have hx : ¬ x = m := fun e => h (by simp [e])
    rw [List.filter_cons, if_pos (by simpa using hx), filter_ne (fun hm => h (by simp [hm]))]
theorem ins_mono {can : Nat → Nat → Bool} {m : Nat} {A B C : List Nat} (hA : ¬ m ∈ A) (hB : ¬ m ∈ B) (hC : ¬ m ∈ C) : ∀ k, some m ∈ dueO can (A ++ B ++ m :: C) k → some m ∈ dueO can (A ++ m :: (B ++ C)) k
  | 0, h => by cases h
  | k + 1, h => by
    refine Classical.byContradiction fun hno => ?_
    have hno' : ¬ some m ∈ dueO can (A ++ m :: (B ++ C)) k ++ [(A ++ m :: (B ++ C)).find? (freeQ can (dueO can (A ++ m :: (B ++ C)) k) k)] := hno
    have hn2 : ¬ some m ∈ dueO can (A ++ m :: (B ++ C)) k := fun hh => hno' (List.mem_append_left _ hh)
    have hn1 : ¬ some m ∈ dueO can (A ++ B ++ m :: C) k := fun hh => hn2 (ins_mono hA hB hC k hh)
    have f1 : (A ++ B ++ m :: C).filter (fun k => !decide (k = m)) = A ++ B ++ C := by
      rw [List.filter_append, List.filter_append, filter_ne hA, filter_ne hB, List.filter_cons, if_neg (by simp), filter_ne hC]
    have f2 : (A ++ m :: (B ++ C)).filter (fun k => !decide (k = m)) = A ++ B ++ C := by
      rw [List.filter_append, filter_ne hA, List.filter_cons, if_neg (by simp), List.filter_append, filter_ne hB, filter_ne hC, List.append_assoc]
    have key : ∀ l : List Nat, l.filter (fun k => !decide (k = m)) = A ++ B ++ C → ¬ some m ∈ dueO can l k → dueO can (A ++ B ++ C) k = dueO can l k := by
      intro l hl hn
      have := due_ren (can := can) (can' := can) (l := l) (σ := id) (D := fun k => !decide (k = m)) (fun i _ j _ _ _ e => e) k (fun i _ _ z _ => rfl) (fun q hq => by
        have : q ≠ m := fun e => hn (by rw [← e]; exact hq)
        simpa using this)
      rw [hl] at this
      simpa using this
    have k1 := key _ f1 hn1
    have k2 := key _ f2 hn2
    have hlast : (A ++ B ++ m :: C).find? (freeQ can (dueO can (A ++ B ++ m :: C) k) k) = some m := by
      have h' : some m ∈ dueO can (A ++ B ++ m :: C) k ++ [(A ++ B ++ m :: C).find? (freeQ can (dueO can (A ++ B ++ m :: C) k) k)] := h
      rcases List.mem_append.1 h' with hh | hh
      · exact absurd hh hn1
      · exact (List.mem_singleton.1 hh).symm
    rw [← k1] at hlast
    rw [← k2] at hno'
    generalize dueO can (A ++ B ++ C) k = d at hlast hno'
    have hqm := List.find?_some hlast
    have hAn : A.find? (freeQ can d k) = none := by
      rw [List.find?_append, List.find?_append] at hlast
      cases hf : A.find? (freeQ can d k) with
      | none => rfl
      | some j =>
        rw [hf] at hlast
        have : some j = some m := hlast
        have hj := List.mem_of_find?_eq_some hf
        rw [Option.some.inj this] at hj
        exact absurd hj hA
    refine hno' (List.mem_append_right _ ?_)
    rw [List.find?_append, hAn, List.find?_cons, hqm]
    simp
theorem gets_mono {T : PT} (hok : okP T = true) {m p q : Nat} (hm : m < T.n) (hnc : noClub T = true) (h1 : 1 ≤ q) (h2 : q ≤ p) (h3 : p ≤ T.n) (h : getsP T m p = true) : getsP T m q = true := by
  have hv := okP_vd hok
  have key : ∀ pl, 1 ≤ pl → pl ≤ T.n → (getsP T m pl = true ↔ some m ∈ dueO (canC T) (insN (othL T m) (pl - 1) m) T.z) := by
    intro pl a b
    unfold getsP
    rw [decide_eq_true_eq, man_mem_iff]
    have e : dueP (movedP T m (pl : Int)) = dueO (canC T) (insN (othL T m) (pl - 1) m) T.z := by
      show dueL (movedP T m (pl : Int)) T.z = _
      rw [dueL_O, ord_moved hok hm a b]
      refine dueO_congr T.z fun i hi z hz => canC_moved hnc ?_ hz
      have : i ∈ ordP (movedP T m (pl : Int)) := by rw [ord_moved hok hm a b]; exact hi
      have := (ord_mem (okP_vd (ok_moved (pl := (pl : Int)) hok hm (by omega) (by omega)))).1 this
      rw [moved_n] at this; exact this
    rw [e]
  rw [key q h1 (by omega)]
  rw [key p (by omega) h3] at h
  have hno : ¬ m ∈ othL T m := fun hh => by
    have := (List.mem_filter.1 hh).2
    simp at this
  have hp : (othL T m).take (p - 1) = (othL T m).take (q - 1) ++ ((othL T m).take (p - 1)).drop (q - 1) := by
    have := List.take_append_drop (q - 1) ((othL T m).take (p - 1))
    rw [List.take_take, Nat.min_eq_left (by omega)] at this
    exact this.symm
  have hd : (othL T m).drop (q - 1) = ((othL T m).take (p - 1)).drop (q - 1) ++ (othL T m).drop (p - 1) := by
    have h0 := List.take_append_drop (p - 1) (othL T m)
    conv => lhs; rw [← h0]
    rw [List.drop_append]
    congr 1
    rw [List.length_take]
    have hl := oth_len hv hm
    rw [Nat.min_eq_left (by omega), show q - 1 - (p - 1) = 0 by omega, List.drop_zero]
  unfold insN at h ⊢
  rw [hp] at h
  rw [hd]
  refine ins_mono (fun hh => hno (List.mem_of_mem_take hh)) (fun hh => hno (List.mem_of_mem_take (List.mem_of_mem_drop hh))) (fun hh => hno (List.mem_of_mem_drop hh)) T.z h
end Go.Proofs.Ytfaeokcbfnlgbaa.G

/- Prize: plain: a prize more, somebody more. -/
set_option linter.unusedSimpArgs false
set_option linter.unusedVariables false
set_option maxRecDepth 20000
namespace Go.Proofs.Ytfaeokcbfnlgbaa.G
open Go.V
def moreP (T : PT) (z : Pz) : PT := ⟨T.men, T.list ++ [z]⟩
theorem more_z (T : PT) (z : Pz) : (moreP T z).z = T.z + 1 := by simp [moreP, PT.z]
theorem more_pz {T : PT} {z : Pz} {i : Nat} (h : i < T.z) : (moreP T z).pz i = T.pz i := by
  have h' : i < T.list.length := h
  have h2 : i < (T.list ++ [z]).length := by rw [List.length_append]; omega
  show (T.list ++ [z]).getD i default = T.list.getD i default
  rw [getD_lt h2, getD_lt h', List.getElem_append_left h']
theorem ok_more {T : PT} (hok : okP T = true) {z : Pz} (hz : okZ z = true) (h6 : T.z < 6) : okP (moreP T z) = true := by
  obtain ⟨g1, g2, g3, g4⟩ := okP_iff.1 hok
  rw [okP_iff]
  refine ⟨g1, by rw [more_z]; omega, g3, ?_⟩
  show (T.list ++ [z]).all okZ = true
  rw [List.all_append, g4]
  simp [hz]
theorem canC_more {T : PT} {z : Pz} {m i : Nat} (h : i < T.z) : canC (moreP T z) m i = canC T m i := by
  have hb : bestP (moreP T z) = bestP T := rfl
  have hm : (moreP T z).man m = T.man m := rfl
  unfold canC canP
  rw [more_pz h, hb, hm]
theorem due_more (T : PT) (z : Pz) : (dueP (moreP T z)).take T.z = dueP T := by
  have h1 : dueP (moreP T z) = dueL (moreP T z) (T.z + 1) := by unfold dueP; rw [more_z]
  rw [h1, dueL_take _ _ _ (Nat.le_succ _), dueL_O]
  show _ = dueL T T.z
  rw [dueL_O]
  exact dueO_congr T.z fun m _ i hi => canC_more hi
theorem many_take (g : List (Option Nat)) (k : Nat) (h : g.length = k + 1) : many (g.take k) ≤ many g ∧ many g ≤ many (g.take k) + 1 := by
  have h1 : g = g.take k ++ g.drop k := (List.take_append_drop k g).symm
  have h2 : (g.drop k).length = 1 := by rw [List.length_drop]; omega
  have h3 : many g = many (g.take k) + many (g.drop k) := by conv => lhs; rw [h1, many_app]
  have h4 : many (g.drop k) ≤ 1 := by rw [← h2]; exact List.length_filter_le _ _
  omega
theorem most_more {T : PT} (hok : okP T = true) {z : Pz} : many (bestG T T.z 0 allF) ≤ many (bestG (moreP T z) (moreP T z).z 0 allF) ∧ many (bestG (moreP T z) (moreP T z).z 0 allF) ≤ many (bestG T T.z 0 allF) + 1 := by
  have hn : (moreP T z).n = T.n := rfl
  have can : ∀ m i, i < T.z → canP (moreP T z) m i = canP T m i := fun m i hi => by
    unfold canP
    rw [more_pz hi]
    rfl
  constructor
  · obtain ⟨k1, k2⟩ := legit_okG (bestG_legit T T.z 0 allF)
    have hl := bestG_len T T.z 0 allF
    generalize bestG T T.z 0 allF = g at *
    have o1 : OkG (moreP T z) g := ⟨k1.lt, k1.un⟩
    have o2 : OkG (moreP T z) (g ++ [none]) := o1.snoc fun m hm => by cases hm
    have c2 : CanG (moreP T z) (g ++ [none]) := fun i m hi => by
      by_cases e : i < g.length
      · rw [List.getElem?_append_left e] at hi
        rw [can m i (by omega)]; exact k2 i m hi
      · rw [List.getElem?_append_right (by omega)] at hi
        have hlt := (List.getElem?_eq_some_iff.1 hi).1
        have : i - g.length = 0 := by simpa using hlt
        rw [this] at hi
        simp at hi
    have := legit_le (okG_legit o2 c2)
    rw [List.length_append, hl] at this
    rw [bestG_many, more_z]
    have hm : many (g ++ [none]) = many g := by rw [many_app, many_cons]; simp [many]
    have e : T.z + [none (α := Nat)].length = T.z + 1 := rfl
    rw [e] at this
    omega
  · obtain ⟨k1, k2⟩ := legit_okG (bestG_legit (moreP T z) (moreP T z).z 0 allF)
    have hl := bestG_len (moreP T z) (moreP T z).z 0 allF
    rw [more_z] at hl
    rw [more_z] at k1 k2 ⊢
    generalize bestG (moreP T z) (T.z + 1) 0 allF = g at *
    have hle := many_take g T.z hl
    have hget : ∀ i o, (g.take T.z)[i]? = some o → g[i]? = some o ∧ i < T.z := fun i o hi => by
      have hlt := (List.getElem?_eq_some_iff.1 hi).1
      rw [List.length_take] at hlt
      rw [List.getElem?_take_of_lt (by omega)] at hi
      exact ⟨hi, by omega⟩
    have o2 : OkG T (g.take T.z) := ⟨fun m hm => k1.lt m (List.mem_of_mem_take hm), fun i j m hi hj => k1.un i j m (hget i _ hi).1 (hget j _ hj).1⟩
    have c2 : CanG T (g.take T.z) := fun i m hi => by
      obtain ⟨a, b⟩ := hget i _ hi
      rw [← can m i b]; exact k2 i m a
    have := legit_le (okG_legit o2 c2)
    rw [List.length_take, hl, Nat.min_eq_left (by omega)] at this
    rw [bestG_many]
    omega
/-- Somebody who comes behind all others. -/
def guestP (T : PT) (nov hor : Bool) : PT := ⟨T.men ++ [⟨((T.n + 1 : Nat) : Int), 0, nov, hor⟩], T.list⟩
theorem guest_n (T : PT) (a b : Bool) : (guestP T a b).n = T.n + 1 := by simp [guestP, PT.n]
theorem guest_man {T : PT} {a b : Bool} {i : Nat} (h : i < T.n) : (guestP T a b).man i = T.man i := by
  have h' : i < T.men.length := h
  show (T.men ++ [_]).getD i default = T.men.getD i default
  rw [getD_lt (by rw [List.length_append]; omega), getD_lt h', List.getElem_append_left h']
theorem guest_last (T : PT) (a b : Bool) : (guestP T a b).man T.n = ⟨((T.n + 1 : Nat) : Int), 0, a, b⟩ := by
  show (T.men ++ [_]).getD T.men.length default = _
  rw [getD_lt (by simp), List.getElem_append_right (Nat.le_refl _)]
  simp
theorem ok_guest {T : PT} (hok : okP T = true) {a b : Bool} (h8 : T.n < 8) : okP (guestP T a b) = true := by
  have hv := okP_vd hok
  obtain ⟨g1, g2, g3, g4⟩ := okP_iff.1 hok
  obtain ⟨q1, q2, _⟩ := (okMs_iff _ _).1 g3
  rw [okP_iff, guest_n]
  refine ⟨by omega, g2, ?_, g4⟩
  rw [okMs_iff]
  refine ⟨fun m hm => ?_, ?_, fun _ _ x hx => by cases hx⟩
  · rcases List.mem_append.1 hm with hm | hm
    · have := q1 m hm
      exact ⟨by omega, this.2⟩
    · rw [List.mem_singleton.1 hm]
      exact ⟨⟨by show (1 : Int) ≤ ((T.n + 1 : Nat) : Int); omega, Int.le_refl _⟩, by show (0 : Int) ≤ 0 ∧ (0 : Int) ≤ 5; omega⟩
  · refine List.pairwise_append.2 ⟨q2, by simp, fun x hx y hy => ?_⟩
    rw [List.mem_singleton.1 hy]
    have := (q1 x hx).1
    show x.place ≠ ((T.n + 1 : Nat) : Int)
    omega
theorem ord_guest {T : PT} (hok : okP T = true) {a b : Bool} (h8 : T.n < 8) : ordP (guestP T a b) = ordP T ++ [T.n] := by
  have hv := okP_vd hok
  refine ord_unique (okP_vd (ok_guest hok h8)) ?_ fun m => ?_
  · refine List.pairwise_append.2 ⟨(ord_sorted hv).imp_of_mem fun {x y} hx hy hxy => ?_, by simp, fun x hx y hy => ?_⟩
    · rw [guest_man ((ord_mem hv).1 hx), guest_man ((ord_mem hv).1 hy)]; exact hxy
    · rw [List.mem_singleton.1 hy, guest_last, guest_man ((ord_mem hv).1 hx)]
      have := hv.pl x ((ord_mem hv).1 hx)
      show (T.man x).place < ((T.n + 1 : Nat) : Int)
      omega
  · rw [List.mem_append, ord_mem hv, List.mem_singleton, guest_n]
    omega
theorem canC_guest {T : PT} {a b : Bool} (hnc : noClub T = true) {i z : Nat} (hi : i < T.n) (hz : z < T.z) : canC (guestP T a b) i z = canC T i z := by
  have h4 := noClub_at hnc hz
  rw [canC_not4 h4, canC_not4 (T := guestP T a b) (show ¬ ((guestP T a b).pz z).kind = 4 from h4)]
  unfold canP
  rw [guest_man hi]
  rfl
/-- Nobody loses a prize to somebody who comes behind. -/
theorem guest_rel {can can' : Nat → Nat → Bool} {l : List Nat} {n : Nat} (hl : ∀ m ∈ l, m < n) : ∀ k, (∀ m ∈ l, ∀ z, z < k → can' m z = can m z) → ∀ (z : Nat) (o : Option Nat), (dueO can l k)[z]? = some o → ∃ o', (dueO can' (l ++ [n]) k)[z]? = some o' ∧ (o' = o ∨ o = none ∧ o' = some n)
  | 0, _, z, o, h => by simp [dueO] at h
  | k + 1, hc, z, o, h => by
    have ih := guest_rel (can := can) (can' := can') (l := l) (n := n) hl k (fun m hm z hz => hc m hm z (by omega))
    have hl1 := dueO_len can l k
    have hl2 := dueO_len can' (l ++ [n]) k
    have htk : ∀ i, i < n → tkF (dueO can' (l ++ [n]) k) i = tkF (dueO can l k) i := fun i hi => by
      unfold tkF
      rw [decide_eq_decide]
      constructor
      · intro hm
        obtain ⟨q, hq, e⟩ := List.mem_iff_getElem.1 hm
        have hq' : q < (dueO can l k).length := by omega
        obtain ⟨o', h1, h2⟩ := ih q _ (List.getElem?_eq_getElem hq')
        rw [List.getElem?_eq_getElem hq, e] at h1
        have h1 := Option.some.inj h1
        rcases h2 with h2 | ⟨_, h2⟩
        · rw [h1, h2]; exact List.getElem_mem hq'
        · rw [← h1] at h2
          have := Option.some.inj h2
          omega
      · intro hm
        obtain ⟨q, hq, e⟩ := List.mem_iff_getElem.1 hm
        obtain ⟨o', h1, h2⟩ := ih q (some i) (by rw [List.getElem?_eq_getElem hq, e])
        rcases h2 with h2 | ⟨h2, _⟩
        · rw [h2] at h1; exact List.mem_of_getElem? h1
        · cases h2
    have h' : (dueO can l k ++ [l.find? (freeQ can (dueO can l k) k)])[z]? = some o := h
    show ∃ o', (dueO can' (l ++ [n]) k ++ [(l ++ [n]).find? (freeQ can' (dueO can' (l ++ [n]) k) k)])[z]? = some o' ∧ _
    by_cases e : z < k
    · rw [List.getElem?_append_left (by omega)] at h' ⊢
      exact ih z o h'
    · rw [List.getElem?_append_right (by omega)] at h' ⊢
      have hlt := (List.getElem?_eq_some_iff.1 h').1
      have hz0 : z - (dueO can l k).length = 0 := by simpa using hlt
      have hz0' : z - (dueO can' (l ++ [n]) k).length = 0 := by omega
      rw [hz0] at h'
      rw [hz0']
      have ho : l.find? (freeQ can (dueO can l k) k) = o := by simpa using h'
      refine ⟨_, rfl, ?_⟩
      have hf : l.find? (freeQ can' (dueO can' (l ++ [n]) k) k) = o := by
        rw [← ho]
        refine find_congr fun m hm => ?_
        unfold freeQ
        rw [hc m hm k (by omega), htk m (hl m hm)]
      rw [List.find?_append, hf]
      cases o with
      | some m => exact .inl rfl
      | none =>
        show (Option.none.or _ = _) ∨ _
        rw [Option.none_or, List.find?_cons]
        split
        · exact .inr ⟨rfl, rfl⟩
        · exact .inl rfl
theorem due_guest {T : PT} (hok : okP T = true) {a b : Bool} (h8 : T.n < 8) (hnc : noClub T = true) {z : Nat} (hz : z < T.z) : (manL (dueP (guestP T a b))).getD z 0 = (manL (dueP T)).getD z 0 ∨ (manL (dueP T)).getD z 0 = -1 ∧ (manL (dueP (guestP T a b))).getD z 0 = (T.n : Nat) := by
  have hv := okP_vd hok
  have h1 : dueP (guestP T a b) = dueO (canC (guestP T a b)) (ordP T ++ [T.n]) T.z := by
    show dueL (guestP T a b) T.z = _
    rw [dueL_O, ord_guest hok h8]
  have h2 : dueP T = dueO (canC T) (ordP T) T.z := dueL_O T T.z
  have hl1 := dueO_len (canC (guestP T a b)) (ordP T ++ [T.n]) T.z
  have hl2 := dueO_len (canC T) (ordP T) T.z
  rw [h1, h2, man_getD (by omega), man_getD (by omega)]
  obtain ⟨o', q1, q2⟩ := guest_rel (can := canC T) (can' := canC (guestP T a b)) (l := ordP T) (n := T.n) (fun m hm => (ord_mem hv).1 hm) T.z (fun m hm z hz => canC_guest hnc ((ord_mem hv).1 hm) hz) z _ (List.getElem?_eq_getElem (by omega))
  rw [getD_lt (by omega), getD_lt (by omega)]
  obtain ⟨q3, q4⟩ := List.getElem?_eq_some_iff.1 q1
  rw [q4]
  rcases q2 with q2 | ⟨q2, q5⟩
  · exact .inl (by rw [q2])
  · exact .inr ⟨by rw [q2]; rfl, by rw [q5]; rfl⟩
end Go.Proofs.Ytfaeokcbfnlgbaa.G

/- More of the functions' shallow texts, by gen.py. -/
set_option linter.unusedVariables false
set_option maxRecDepth 100000
namespace Go.Proofs.Ytfaeokcbfnlgbaa.G
open Go.V
def an_28 : Nat → Ann := fun b => match b with
  | _ => {}
abbrev rv_28 : List ResultVar := [.tmp 2, .tmp 3, .tmp 4]
abbrev rs_28 : List Nat := [17, 2, 3, 4]
def T_ref13_Most (W : World) (x1 : Option Addr) (l2 : Nat) (c3 : Nat) (x4 : Option Addr) (l5 : Nat) (c6 : Nat) (R : Ending → Hp → Prop) : Hp → Prop :=
  NEW 25 [(.slice x1 l2 c3), (.slice x4 l5 c6)] fun B7 =>
    RDL (Addr.add ⟨B7, 0, none⟩ 0) fun x8 l9 c10 =>
      RDL (Addr.add ⟨B7, 0, none⟩ 1) fun x11 l12 c13 =>
        CALL Pg W F_ref13_check [(.agg #[(.slice x8 l9 c10), (.slice x11 l12 c13)]), (.bool true)]
          (fun v14 => TYI .i64 v14 fun n16 =>
            BR (n16 != 0)
              (R (.returned (.tuple #[(.int .i64 0), (.slice none 0 0), (.int .i64 n16)])))
              (RDL (Addr.add ⟨B7, 0, none⟩ 0) fun x17 l18 c19 =>
                RDL (Addr.add ⟨B7, 0, none⟩ 1) fun x20 l21 c22 =>
                  CALL Pg W F_ref13_most [(.agg #[(.slice x17 l18 c19), (.slice x20 l21 c22)]), (.slice none 0 0)]
                    (fun v23 => TYL v23 fun x25 l26 c27 =>
                      CALL Pg W F_ref13_Many [(.slice x25 l26 c27)]
                        (fun v28 => TYI .i64 v28 fun n30 =>
                          R (.returned (.tuple #[(.int .i64 n30), (.slice x25 l26 c27), (.int .i64 0)])))
                          (fun e29 => R (.panicked e29)))
                      (fun e24 => R (.panicked e24))))
            (fun e15 => R (.panicked e15))
theorem T_ref13_Most_eq (W : World) (x1 : Option Addr) (l2 : Nat) (c3 : Nat) (x4 : Option Addr) (l5 : Nat) (c6 : Nat) (R : Ending → Hp → Prop) : vfun Pg W an_28 Try.f28 [(.agg #[(.slice x1 l2 c3), (.slice x4 l5 c6)])] R = T_ref13_Most W x1 l2 c3 x4 l5 c6 R := by kernel_rfl
theorem does_ref13_Most (W : World) (x1 : Option Addr) (l2 : Nat) (c3 : Nat) (x4 : Option Addr) (l5 : Nat) (c6 : Nat) (R : Ending → Hp → Prop) (s : Hp) (h : T_ref13_Most W x1 l2 c3 x4 l5 c6 R s) : Does Pg W F_ref13_Most #[(.agg #[(.slice x1 l2 c3), (.slice x4 l5 c6)])] s R :=
  does_of_vfun Pg W an_28 Try.func28 rfl (by kernel_rfl) (by rw [T_ref13_Most_eq]; exact h)
def an_30 : Nat → Ann := fun b => match b with
  | 0 => { ms := [10, 11, 12], ks := [.i .i64, .i .i64, .i .i64], us := [1, 2, 4, 5, 8, 9, 58], rt := false, ex := [] }
  | _ => {}
abbrev rv_30 : List ResultVar := [.tmp 4, .tmp 5]
abbrev rs_30 : List Nat := [58, 4, 5]
def L_ref13_Stay_0 (W : World) (R : Ending → Hp → Prop) (zn0 : Int) (za1 : Addr) (zp2 : Option Addr) (zl3 : Nat) (zl4 : Nat) (zp5 : Option Addr) (zl6 : Nat) (zl7 : Nat) (n133 : Int) (n134 : Int) (n135 : Int) : Hp → Prop :=
  LOOPN [.i .i64, .i .i64, .i .i64] (fun ys next s => ∀ j : Tm, vc Pg W 58 rs_30 an_30 false (sub (bodyOf Try.f30) [1, 1, 1, 1, 1, 1, 0, 1, 0, 0]) 0 (KLoop [10, 11, 12] [1, 2, 4, 5, 8, 9, 58] [(.int .i64 zn0), (.pointer (some za1)), (.int .i64 0), (.int .i64 0), (.slice zp2 zl3 zl4), (.slice zp5 zl6 zl7), (.tuple #[])] next (KBlk 0 (KS Pg W 58 rs_30 an_30 false (sub (bodyOf Try.f30) [1, 1, 1, 1, 1, 1, 1]) 0 (fin Pg W 58 rv_30 R)))) (known [10, 11, 12] ys (known [1, 2, 4, 5, 8, 9, 58] [(.int .i64 zn0), (.pointer (some za1)), (.int .i64 0), (.int .i64 0), (.slice zp2 zl3 zl4), (.slice zp5 zl6 zl7), (.tuple #[])] j)) s) [(.int .i64 n133), (.int .i64 n134), (.int .i64 n135)]
def J_ref13_Stay_0 (W : World) (R : Ending → Hp → Prop) (zn0 : Int) (za1 : Addr) (zp2 : Option Addr) (zl3 : Nat) (zl4 : Nat) (zp5 : Option Addr) (zl6 : Nat) (zl7 : Nat) (nx0 : List Value → Hp → Prop) (n139 : Int) (n140 : Int) (n135 : Int) : Hp → Prop :=
  NX [(.int .i64 zn0), (.pointer (some za1)), (.int .i64 0), (.int .i64 0), (.slice zp2 zl3 zl4), (.slice zp5 zl6 zl7), (.tuple #[])] [(.int .i64 zn0), (.pointer (some za1)), (.int .i64 0), (.int .i64 0), (.slice zp2 zl3 zl4), (.slice zp5 zl6 zl7), (.tuple #[])] (nx0 [(.int .i64 n139), (.int .i64 n140), (.int .i64 (IntKind.wrap .i64 (n135 + 1)))])
def J_ref13_Stay_1 (W : World) (R : Ending → Hp → Prop) (zn0 : Int) (za1 : Addr) (zp2 : Option Addr) (zl3 : Nat) (zl4 : Nat) (zp5 : Option Addr) (zl6 : Nat) (zl7 : Nat) (nx0 : List Value → Hp → Prop) (n148 : Int) (n134 : Int) (n135 : Int) : Hp → Prop :=
  J_ref13_Stay_0 W R zn0 za1 zp2 zl3 zl4 zp5 zl6 zl7 nx0 n148 (IntKind.wrap .i64 (n134 + 1)) n135
def B_ref13_Stay_0 (W : World) (R : Ending → Hp → Prop) (zn0 : Int) (za1 : Addr) (zp2 : Option Addr) (zl3 : Nat) (zl4 : Nat) (zp5 : Option Addr) (zl6 : Nat) (zl7 : Nat) (n133 : Int) (n134 : Int) (n135 : Int) (nx0 : List Value → Hp → Prop) : Hp → Prop :=
  RDL (Addr.add za1 0) fun x136 l137 c138 =>
    BR (decide (n135 < (↑l137 : Int)))
      (BR (n135 == zn0)
        (J_ref13_Stay_0 W R zn0 za1 zp2 zl3 zl4 zp5 zl6 zl7 nx0 n133 n134 n135)
        (IXS zp5 zl6 n134 1 fun a141 =>
          RDI .i64 a141 fun n142 =>
            IXS zp2 zl3 n135 1 fun a143 =>
              RDI .i64 a143 fun n144 =>
                BR (decide (n142 > n144))
                  (CALL Pg W F_ref13_power [(.int .i64 n135)]
                    (fun v145 => TYI .i64 v145 fun n147 =>
                      J_ref13_Stay_1 W R zn0 za1 zp2 zl3 zl4 zp5 zl6 zl7 nx0 (IntKind.wrap .i64 (n133 + n147)) n134 n135)
                      (fun e146 => R (.panicked e146)))
                  (J_ref13_Stay_1 W R zn0 za1 zp2 zl3 zl4 zp5 zl6 zl7 nx0 n133 n134 n135)))
      (R (.returned (.tuple #[(.int .i64 n133), (.int .i64 0)])))
theorem B_ref13_Stay_0_eq (W : World) (R : Ending → Hp → Prop) (zn0 : Int) (za1 : Addr) (zp2 : Option Addr) (zl3 : Nat) (zl4 : Nat) (zp5 : Option Addr) (zl6 : Nat) (zl7 : Nat) (n133 : Int) (n134 : Int) (n135 : Int) (nx0 : List Value → Hp → Prop) (j : Tm) : vc Pg W 58 rs_30 an_30 false (sub (bodyOf Try.f30) [1, 1, 1, 1, 1, 1, 0, 1, 0, 0]) 0 (KLoop [10, 11, 12] [1, 2, 4, 5, 8, 9, 58] [(.int .i64 zn0), (.pointer (some za1)), (.int .i64 0), (.int .i64 0), (.slice zp2 zl3 zl4), (.slice zp5 zl6 zl7), (.tuple #[])] nx0 (KBlk 0 (KS Pg W 58 rs_30 an_30 false (sub (bodyOf Try.f30) [1, 1, 1, 1, 1, 1, 1]) 0 (fin Pg W 58 rv_30 R)))) (known [10, 11, 12] [(.int .i64 n133), (.int .i64 n134), (.int .i64 n135)] (known [1, 2, 4, 5, 8, 9, 58] [(.int .i64 zn0), (.pointer (some za1)), (.int .i64 0), (.int .i64 0), (.slice zp2 zl3 zl4), (.slice zp5 zl6 zl7), (.tuple #[])] j)) = B_ref13_Stay_0 W R zn0 za1 zp2 zl3 zl4 zp5 zl6 zl7 n133 n134 n135 nx0 := by kernel_rfl
def N_ref13_Stay_0 (I : Int → Int → Int → Hp → Prop) (μ : Int → Int → Int → Hp → Nat) (n1330 : Int) (n1340 : Int) (n1350 : Int) (s : Hp) (vs : List Value) : Hp → Prop := fun s' => ∃ n133 n134 n135, vs = [(.int .i64 n133), (.int .i64 n134), (.int .i64 n135)] ∧ I n133 n134 n135 s' ∧ μ n133 n134 n135 s' < μ n1330 n1340 n1350 s
theorem L_ref13_Stay_0_rule (W : World) (R : Ending → Hp → Prop) (zn0 : Int) (za1 : Addr) (zp2 : Option Addr) (zl3 : Nat) (zl4 : Nat) (zp5 : Option Addr) (zl6 : Nat) (zl7 : Nat) (I : Int → Int → Int → Hp → Prop) (μ : Int → Int → Int → Hp → Nat) (n1330 : Int) (n1340 : Int) (n1350 : Int) (s : Hp) (h0 : I n1330 n1340 n1350 s)
    (hr : ∀ (n133 : Int) (n134 : Int) (n135 : Int) (s : Hp), I n133 n134 n135 s → B_ref13_Stay_0 W R zn0 za1 zp2 zl3 zl4 zp5 zl6 zl7 n133 n134 n135 (fun vs => N_ref13_Stay_0 I μ n133 n134 n135 s vs) s) : L_ref13_Stay_0 W R zn0 za1 zp2 zl3 zl4 zp5 zl6 zl7 n1330 n1340 n1350 s := by
  refine ⟨fun vs s => ∃ n133 n134 n135, vs = [(.int .i64 n133), (.int .i64 n134), (.int .i64 n135)] ∧ I n133 n134 n135 s, fun vs s => (match vs with | [.int _ n133, .int _ n134, .int _ n135] => μ n133 n134 n135 s | _ => 0), ⟨⟨⟨_, rfl⟩, ⟨⟨_, rfl⟩, ⟨⟨_, rfl⟩, trivial⟩⟩⟩, ⟨_, _, _, rfl, h0⟩⟩, ?_⟩
  intro n133 n134 n135 s hI j
  obtain ⟨n133', n134', n135', hy, hI⟩ := hI
  have hI' : I n133 n134 n135 s := by cases hy; exact hI
  have hh := hr n133 n134 n135 s hI'
  rw [← B_ref13_Stay_0_eq W R zn0 za1 zp2 zl3 zl4 zp5 zl6 zl7 n133 n134 n135 _ j] at hh
  refine vc_mono ?_ _ _ hh
  exact KLoop_mono (fun vs s' h => by obtain ⟨n1331, n1341, n1351, rfl, h1, h2⟩ := h; exact ⟨⟨⟨_, rfl⟩, ⟨⟨_, rfl⟩, ⟨⟨_, rfl⟩, trivial⟩⟩⟩, ⟨_, _, _, rfl, h1⟩, h2⟩)
def T_ref13_Stay (W : World) (x1 : Option Addr) (l2 : Nat) (c3 : Nat) (x4 : Option Addr) (l5 : Nat) (c6 : Nat) (n7 : Int) (R : Ending → Hp → Prop) : Hp → Prop :=
  NEW 25 [(.slice x1 l2 c3), (.slice x4 l5 c6)] fun B8 =>
    RDL (Addr.add ⟨B8, 0, none⟩ 0) fun x9 l10 c11 =>
      RDL (Addr.add ⟨B8, 0, none⟩ 1) fun x12 l13 c14 =>
        RDL (Addr.add ⟨B8, 0, none⟩ 0) fun x15 l16 c17 =>
          RDL (Addr.add ⟨B8, 0, none⟩ 1) fun x18 l19 c20 =>
            CALL Pg W F_ref13_Man [(.agg #[(.slice x15 l16 c17), (.slice x18 l19 c20)]), (.int .i64 n7)]
              (fun v21 => TYB v21 fun b23 =>
                ANDS (RDL (Addr.add ⟨B8, 0, none⟩ 0) fun x24 l25 c26 =>
                  RDL (Addr.add ⟨B8, 0, none⟩ 1) fun x27 l28 c29 =>
                    fun _ => ((.agg #[(.slice x24 l25 c26), (.slice x27 l28 c29)]) : Value) = (.agg #[(.slice x9 l10 c11), (.slice x12 l13 c14)])) <|
                  CALL Pg W F_ref13_check [(.agg #[(.slice x9 l10 c11), (.slice x12 l13 c14)]), (.bool b23)]
                    (fun v30 => TYI .i64 v30 fun n32 =>
                      BR (n32 != 0)
                        (R (.returned (.tuple #[(.int .i64 0), (.int .i64 n32)])))
                        (RDL (Addr.add ⟨B8, 0, none⟩ 0) fun x33 l34 c35 =>
                          RDL (Addr.add ⟨B8, 0, none⟩ 1) fun x36 l37 c38 =>
                            CALL Pg W F_ref13_Without [(.agg #[(.slice x33 l34 c35), (.slice x36 l37 c38)]), (.int .i64 n7)]
                              (fun v39 => AGG v39 fun q41 => HD q41 fun v42 r43 => TYL v42 fun x44 l45 c46 =>
                                HD r43 fun v47 r48 => TYL v47 fun x49 l50 c51 =>
                                  NL r48 <|
                                    NEWZ Pg 25 fun B52 =>
                                      WR (Addr.add ⟨B52, 0, none⟩ 0) (.slice x44 l45 c46) <|
                                        WR (Addr.add ⟨B52, 0, none⟩ 1) (.slice x49 l50 c51) <|
                                          RDL (Addr.add ⟨B8, 0, none⟩ 0) fun x53 l54 c55 =>
                                            RDL (Addr.add ⟨B8, 0, none⟩ 1) fun x56 l57 c58 =>
                                              RDL (Addr.add ⟨B8, 0, none⟩ 0) fun x59 l60 c61 =>
                                                RDL (Addr.add ⟨B8, 0, none⟩ 1) fun x62 l63 c64 =>
                                                  RDL (Addr.add ⟨B52, 0, none⟩ 0) fun x65 l66 c67 =>
                                                    RDL (Addr.add ⟨B52, 0, none⟩ 1) fun x68 l69 c70 =>
                                                      RDL (Addr.add ⟨B52, 0, none⟩ 0) fun x71 l72 c73 =>
                                                        RDL (Addr.add ⟨B52, 0, none⟩ 1) fun x74 l75 c76 =>
                                                          CALL Pg W F_ref13_due [(.agg #[(.slice x59 l60 c61), (.slice x62 l63 c64)])]
                                                            (fun v77 => TYL v77 fun x79 l80 c81 =>
                                                              ANDS (RDL (Addr.add ⟨B52, 0, none⟩ 0) fun x82 l83 c84 =>
                                                                RDL (Addr.add ⟨B52, 0, none⟩ 1) fun x85 l86 c87 =>
                                                                  fun _ => ((.agg #[(.slice x82 l83 c84), (.slice x85 l86 c87)]) : Value) = (.agg #[(.slice x71 l72 c73), (.slice x74 l75 c76)])) <|
                                                                ANDS (RDL (Addr.add ⟨B52, 0, none⟩ 0) fun x88 l89 c90 =>
                                                                  RDL (Addr.add ⟨B52, 0, none⟩ 1) fun x91 l92 c93 =>
                                                                    fun _ => ((.agg #[(.slice x88 l89 c90), (.slice x91 l92 c93)]) : Value) = (.agg #[(.slice x65 l66 c67), (.slice x68 l69 c70)])) <|
                                                                  ANDS (RDL (Addr.add ⟨B8, 0, none⟩ 0) fun x94 l95 c96 =>
                                                                    RDL (Addr.add ⟨B8, 0, none⟩ 1) fun x97 l98 c99 =>
                                                                      fun _ => ((.agg #[(.slice x94 l95 c96), (.slice x97 l98 c99)]) : Value) = (.agg #[(.slice x53 l54 c55), (.slice x56 l57 c58)])) <|
                                                                    CALL Pg W F_ref13_worths [(.agg #[(.slice x53 l54 c55), (.slice x56 l57 c58)]), (.slice x79 l80 c81)]
                                                                      (fun v100 => TYL v100 fun x102 l103 c104 =>
                                                                        ANDS (RDL (Addr.add ⟨B52, 0, none⟩ 0) fun x105 l106 c107 =>
                                                                          RDL (Addr.add ⟨B52, 0, none⟩ 1) fun x108 l109 c110 =>
                                                                            fun _ => ((.agg #[(.slice x105 l106 c107), (.slice x108 l109 c110)]) : Value) = (.agg #[(.slice x71 l72 c73), (.slice x74 l75 c76)])) <|
                                                                          ANDS (RDL (Addr.add ⟨B52, 0, none⟩ 0) fun x111 l112 c113 =>
                                                                            RDL (Addr.add ⟨B52, 0, none⟩ 1) fun x114 l115 c116 =>
                                                                              fun _ => ((.agg #[(.slice x111 l112 c113), (.slice x114 l115 c116)]) : Value) = (.agg #[(.slice x65 l66 c67), (.slice x68 l69 c70)])) <|
                                                                            CALL Pg W F_ref13_due [(.agg #[(.slice x71 l72 c73), (.slice x74 l75 c76)])]
                                                                              (fun v117 => TYL v117 fun x119 l120 c121 =>
                                                                                ANDS (RDL (Addr.add ⟨B52, 0, none⟩ 0) fun x122 l123 c124 =>
                                                                                  RDL (Addr.add ⟨B52, 0, none⟩ 1) fun x125 l126 c127 =>
                                                                                    fun _ => ((.agg #[(.slice x122 l123 c124), (.slice x125 l126 c127)]) : Value) = (.agg #[(.slice x65 l66 c67), (.slice x68 l69 c70)])) <|
                                                                                  CALL Pg W F_ref13_worths [(.agg #[(.slice x65 l66 c67), (.slice x68 l69 c70)]), (.slice x119 l120 c121)]
                                                                                    (fun v128 => TYL v128 fun x130 l131 c132 =>
                                                                                      L_ref13_Stay_0 W R n7 ⟨B8, 0, none⟩ x102 l103 c104 x130 l131 c132 0 0 0)
                                                                                      (fun e129 => R (.panicked e129)))
                                                                                (fun e118 => R (.panicked e118)))
                                                                        (fun e101 => R (.panicked e101)))
                                                              (fun e78 => R (.panicked e78)))
                                (fun e40 => R (.panicked e40))))
                      (fun e31 => R (.panicked e31)))
                (fun e22 => R (.panicked e22))
theorem T_ref13_Stay_eq (W : World) (x1 : Option Addr) (l2 : Nat) (c3 : Nat) (x4 : Option Addr) (l5 : Nat) (c6 : Nat) (n7 : Int) (R : Ending → Hp → Prop) : vfun Pg W an_30 Try.f30 [(.agg #[(.slice x1 l2 c3), (.slice x4 l5 c6)]), (.int .i64 n7)] R = T_ref13_Stay W x1 l2 c3 x4 l5 c6 n7 R := by kernel_rfl
theorem does_ref13_Stay (W : World) (x1 : Option Addr) (l2 : Nat) (c3 : Nat) (x4 : Option Addr) (l5 : Nat) (c6 : Nat) (n7 : Int) (R : Ending → Hp → Prop) (s : Hp) (h : T_ref13_Stay W x1 l2 c3 x4 l5 c6 n7 R s) : Does Pg W F_ref13_Stay #[(.agg #[(.slice x1 l2 c3), (.slice x4 l5 c6)]), (.int .i64 n7)] s R :=
  does_of_vfun Pg W an_30 Try.func30 rfl (by kernel_rfl) (by rw [T_ref13_Stay_eq]; exact h)
def an_32 : Nat → Ann := fun b => match b with
  | 0 => { ms := [4, 5, 7], ks := [.i .i64, .i .i64, .i .i64], us := [1, 2, 31], rt := false, ex := [] }
  | _ => {}
abbrev rv_32 : List ResultVar := [.tmp 4, .tmp 5]
abbrev rs_32 : List Nat := [31, 4, 5]
def L_ref13_For_0 (W : World) (R : Ending → Hp → Prop) (zn0 : Int) (za1 : Addr) (n36 : Int) (n37 : Int) (n38 : Int) : Hp → Prop :=
  LOOPN [.i .i64, .i .i64, .i .i64] (fun ys next s => ∀ j : Tm, vc Pg W 31 rs_32 an_32 false (sub (bodyOf Try.f32) [1, 1, 1, 0, 1, 0, 0]) 0 (KLoop [4, 5, 7] [1, 2, 31] [(.int .i64 zn0), (.pointer (some za1)), (.tuple #[])] next (KBlk 0 (KS Pg W 31 rs_32 an_32 false (sub (bodyOf Try.f32) [1, 1, 1, 1]) 0 (fin Pg W 31 rv_32 R)))) (known [4, 5, 7] ys (known [1, 2, 31] [(.int .i64 zn0), (.pointer (some za1)), (.tuple #[])] j)) s) [(.int .i64 n36), (.int .i64 n37), (.int .i64 n38)]
def B_ref13_For_0 (W : World) (R : Ending → Hp → Prop) (zn0 : Int) (za1 : Addr) (n36 : Int) (n37 : Int) (n38 : Int) (nx0 : List Value → Hp → Prop) : Hp → Prop :=
  BR (decide (n38 ≥ 1))
    (RDL (Addr.add za1 0) fun x39 l40 c41 =>
      RDL (Addr.add za1 1) fun x42 l43 c44 =>
        CALL Pg W F_ref13_Moved [(.agg #[(.slice x39 l40 c41), (.slice x42 l43 c44)]), (.int .i64 zn0), (.int .i64 n38)]
          (fun v45 => AGG v45 fun q47 => HD q47 fun v48 r49 => TYL v48 fun x50 l51 c52 =>
            HD r49 fun v53 r54 => TYL v53 fun x55 l56 c57 =>
              NL r54 <|
                CALL Pg W F_ref13_due [(.agg #[(.slice x50 l51 c52), (.slice x55 l56 c57)])]
                  (fun v58 => TYL v58 fun x60 l61 c62 =>
                    CALL Pg W F_ref13_has [(.slice x60 l61 c62), (.int .i64 zn0)]
                      (fun v63 => TYB v63 fun b65 =>
                        BR b65
                          (R (.returned (.tuple #[(.int .i64 n38), (.int .i64 0)])))
                          (NX [(.int .i64 zn0), (.pointer (some za1)), (.tuple #[])] [(.int .i64 zn0), (.pointer (some za1)), (.tuple #[])] (nx0 [(.int .i64 n36), (.int .i64 n37), (.int .i64 (IntKind.wrap .i64 (n38 - 1)))])))
                        (fun e64 => R (.panicked e64)))
                    (fun e59 => R (.panicked e59)))
            (fun e46 => R (.panicked e46)))
    (R (.returned (.tuple #[(.int .i64 0), (.int .i64 4)])))
theorem B_ref13_For_0_eq (W : World) (R : Ending → Hp → Prop) (zn0 : Int) (za1 : Addr) (n36 : Int) (n37 : Int) (n38 : Int) (nx0 : List Value → Hp → Prop) (j : Tm) : vc Pg W 31 rs_32 an_32 false (sub (bodyOf Try.f32) [1, 1, 1, 0, 1, 0, 0]) 0 (KLoop [4, 5, 7] [1, 2, 31] [(.int .i64 zn0), (.pointer (some za1)), (.tuple #[])] nx0 (KBlk 0 (KS Pg W 31 rs_32 an_32 false (sub (bodyOf Try.f32) [1, 1, 1, 1]) 0 (fin Pg W 31 rv_32 R)))) (known [4, 5, 7] [(.int .i64 n36), (.int .i64 n37), (.int .i64 n38)] (known [1, 2, 31] [(.int .i64 zn0), (.pointer (some za1)), (.tuple #[])] j)) = B_ref13_For_0 W R zn0 za1 n36 n37 n38 nx0 := by kernel_rfl
def N_ref13_For_0 (I : Int → Int → Int → Hp → Prop) (μ : Int → Int → Int → Hp → Nat) (n360 : Int) (n370 : Int) (n380 : Int) (s : Hp) (vs : List Value) : Hp → Prop := fun s' => ∃ n36 n37 n38, vs = [(.int .i64 n36), (.int .i64 n37), (.int .i64 n38)] ∧ I n36 n37 n38 s' ∧ μ n36 n37 n38 s' < μ n360 n370 n380 s
theorem L_ref13_For_0_rule (W : World) (R : Ending → Hp → Prop) (zn0 : Int) (za1 : Addr) (I : Int → Int → Int → Hp → Prop) (μ : Int → Int → Int → Hp → Nat) (n360 : Int) (n370 : Int) (n380 : Int) (s : Hp) (h0 : I n360 n370 n380 s)
    (hr : ∀ (n36 : Int) (n37 : Int) (n38 : Int) (s : Hp), I n36 n37 n38 s → B_ref13_For_0 W R zn0 za1 n36 n37 n38 (fun vs => N_ref13_For_0 I μ n36 n37 n38 s vs) s) : L_ref13_For_0 W R zn0 za1 n360 n370 n380 s := by
  refine ⟨fun vs s => ∃ n36 n37 n38, vs = [(.int .i64 n36), (.int .i64 n37), (.int .i64 n38)] ∧ I n36 n37 n38 s, fun vs s => (match vs with | [.int _ n36, .int _ n37, .int _ n38] => μ n36 n37 n38 s | _ => 0), ⟨⟨⟨_, rfl⟩, ⟨⟨_, rfl⟩, ⟨⟨_, rfl⟩, trivial⟩⟩⟩, ⟨_, _, _, rfl, h0⟩⟩, ?_⟩
  intro n36 n37 n38 s hI j
  obtain ⟨n36', n37', n38', hy, hI⟩ := hI
  have hI' : I n36 n37 n38 s := by cases hy; exact hI
  have hh := hr n36 n37 n38 s hI'
  rw [← B_ref13_For_0_eq W R zn0 za1 n36 n37 n38 _ j] at hh
  refine vc_mono ?_ _ _ hh
  exact KLoop_mono (fun vs s' h => by obtain ⟨n361, n371, n381, rfl, h1, h2⟩ := h; exact ⟨⟨⟨_, rfl⟩, ⟨⟨_, rfl⟩, ⟨⟨_, rfl⟩, trivial⟩⟩⟩, ⟨_, _, _, rfl, h1⟩, h2⟩)
def T_ref13_For (W : World) (x1 : Option Addr) (l2 : Nat) (c3 : Nat) (x4 : Option Addr) (l5 : Nat) (c6 : Nat) (n7 : Int) (R : Ending → Hp → Prop) : Hp → Prop :=
  NEW 25 [(.slice x1 l2 c3), (.slice x4 l5 c6)] fun B8 =>
    RDL (Addr.add ⟨B8, 0, none⟩ 0) fun x9 l10 c11 =>
      RDL (Addr.add ⟨B8, 0, none⟩ 1) fun x12 l13 c14 =>
        RDL (Addr.add ⟨B8, 0, none⟩ 0) fun x15 l16 c17 =>
          RDL (Addr.add ⟨B8, 0, none⟩ 1) fun x18 l19 c20 =>
            CALL Pg W F_ref13_Man [(.agg #[(.slice x15 l16 c17), (.slice x18 l19 c20)]), (.int .i64 n7)]
              (fun v21 => TYB v21 fun b23 =>
                ANDS (RDL (Addr.add ⟨B8, 0, none⟩ 0) fun x24 l25 c26 =>
                  RDL (Addr.add ⟨B8, 0, none⟩ 1) fun x27 l28 c29 =>
                    fun _ => ((.agg #[(.slice x24 l25 c26), (.slice x27 l28 c29)]) : Value) = (.agg #[(.slice x9 l10 c11), (.slice x12 l13 c14)])) <|
                  CALL Pg W F_ref13_check [(.agg #[(.slice x9 l10 c11), (.slice x12 l13 c14)]), (.bool b23)]
                    (fun v30 => TYI .i64 v30 fun n32 =>
                      BR (n32 != 0)
                        (R (.returned (.tuple #[(.int .i64 0), (.int .i64 n32)])))
                        (RDL (Addr.add ⟨B8, 0, none⟩ 0) fun x33 l34 c35 =>
                          L_ref13_For_0 W R n7 ⟨B8, 0, none⟩ 0 0 (↑l34 : Int)))
                      (fun e31 => R (.panicked e31)))
                (fun e22 => R (.panicked e22))
theorem T_ref13_For_eq (W : World) (x1 : Option Addr) (l2 : Nat) (c3 : Nat) (x4 : Option Addr) (l5 : Nat) (c6 : Nat) (n7 : Int) (R : Ending → Hp → Prop) : vfun Pg W an_32 Try.f32 [(.agg #[(.slice x1 l2 c3), (.slice x4 l5 c6)]), (.int .i64 n7)] R = T_ref13_For W x1 l2 c3 x4 l5 c6 n7 R := by kernel_rfl
theorem does_ref13_For (W : World) (x1 : Option Addr) (l2 : Nat) (c3 : Nat) (x4 : Option Addr) (l5 : Nat) (c6 : Nat) (n7 : Int) (R : Ending → Hp → Prop) (s : Hp) (h : T_ref13_For W x1 l2 c3 x4 l5 c6 n7 R s) : Does Pg W F_ref13_For #[(.agg #[(.slice x1 l2 c3), (.slice x4 l5 c6)]), (.int .i64 n7)] s R :=
  does_of_vfun Pg W an_32 Try.func32 rfl (by kernel_rfl) (by rw [T_ref13_For_eq]; exact h)
def an_36 : Nat → Ann := fun b => match b with
  | 0 => { ms := [6], ks := [.i .i64], us := [1, 2, 4, 5, 45], rt := false, ex := [] }
  | _ => {}
abbrev rv_36 : List ResultVar := [.cell 4 25]
abbrev rs_36 : List Nat := [45, 4]
def L_ref13_Without_0 (W : World) (R : Ending → Hp → Prop) (zn0 : Int) (za1 : Addr) (za2 : Addr) (za3 : Addr) (n17 : Int) : Hp → Prop :=
  LOOPN [.i .i64] (fun ys next s => ∀ j : Tm, vc Pg W 45 rs_36 an_36 false (sub (bodyOf Try.f36) [1, 1, 1, 0, 1, 0, 0]) 0 (KLoop [6] [1, 2, 4, 5, 45] [(.int .i64 zn0), (.pointer (some za1)), (.pointer (some za2)), (.pointer (some za3)), (.tuple #[])] next (KBlk 0 (KS Pg W 45 rs_36 an_36 false (sub (bodyOf Try.f36) [1, 1, 1, 1]) 0 (fin Pg W 45 rv_36 R)))) (known [6] ys (known [1, 2, 4, 5, 45] [(.int .i64 zn0), (.pointer (some za1)), (.pointer (some za2)), (.pointer (some za3)), (.tuple #[])] j)) s) [(.int .i64 n17)]
def J_ref13_Without_0 (W : World) (R : Ending → Hp → Prop) (zn0 : Int) (za1 : Addr) (za2 : Addr) (za3 : Addr) (nx0 : List Value → Hp → Prop) (n17 : Int) : Hp → Prop :=
  NX [(.int .i64 zn0), (.pointer (some za1)), (.pointer (some za2)), (.pointer (some za3)), (.tuple #[])] [(.int .i64 zn0), (.pointer (some za1)), (.pointer (some za2)), (.pointer (some za3)), (.tuple #[])] (nx0 [(.int .i64 (IntKind.wrap .i64 (n17 + 1)))])
def J_ref13_Without_1 (W : World) (R : Ending → Hp → Prop) (za3 : Addr) (B29 : Nat) (zn0 : Int) (za1 : Addr) (za2 : Addr) (nx0 : List Value → Hp → Prop) (n17 : Int) : Hp → Prop :=
  RDL (Addr.add za3 0) fun x37 l38 c39 =>
    RDI .i64 (Addr.add ⟨B29, 0, none⟩ 0) fun n40 =>
      RDI .i64 (Addr.add ⟨B29, 0, none⟩ 1) fun n41 =>
        RDB (Addr.add ⟨B29, 0, none⟩ 2) fun b42 =>
          RDB (Addr.add ⟨B29, 0, none⟩ 3) fun b43 =>
            NEW 48 [(.int .i64 n40), (.int .i64 n41), (.bool b42), (.bool b43)] fun B44 =>
              APP Pg 48 4 x37 l38 c39 (some ⟨B44, 0, none⟩) 1 fun x45 l46 c47 =>
                WR (Addr.add (Addr.add za3 0) 0) (.slice x45 l46 c47) <|
                  J_ref13_Without_0 W R zn0 za1 za2 za3 nx0 n17
def B_ref13_Without_0 (W : World) (R : Ending → Hp → Prop) (zn0 : Int) (za1 : Addr) (za2 : Addr) (za3 : Addr) (n17 : Int) (nx0 : List Value → Hp → Prop) : Hp → Prop :=
  RDL (Addr.add za1 0) fun x18 l19 c20 =>
    BR (decide (n17 < (↑l19 : Int)))
      (BR (n17 == zn0)
        (J_ref13_Without_0 W R zn0 za1 za2 za3 nx0 n17)
        (RDL (Addr.add za1 0) fun x21 l22 c23 =>
          IXS x21 l22 n17 4 fun a24 =>
            RDI .i64 (Addr.add a24 0) fun n25 =>
              RDI .i64 (Addr.add a24 1) fun n26 =>
                RDB (Addr.add a24 2) fun b27 =>
                  RDB (Addr.add a24 3) fun b28 =>
                    NEWZ Pg 48 fun B29 =>
                      WR (Addr.add ⟨B29, 0, none⟩ 0) (.int .i64 n25) <|
                        WR (Addr.add ⟨B29, 0, none⟩ 1) (.int .i64 n26) <|
                          WR (Addr.add ⟨B29, 0, none⟩ 2) (.bool b27) <|
                            WR (Addr.add ⟨B29, 0, none⟩ 3) (.bool b28) <|
                              RDI .i64 (Addr.add ⟨B29, 0, none⟩ 0) fun n30 =>
                                RDL (Addr.add za1 0) fun x31 l32 c33 =>
                                  IXS x31 l32 zn0 4 fun a34 =>
                                    RDI .i64 (Addr.add a34 0) fun n35 =>
                                      BR (decide (n30 > n35))
                                        (RDI .i64 (Addr.add ⟨B29, 0, none⟩ 0) fun n36 =>
                                          WR (Addr.add (Addr.add ⟨B29, 0, none⟩ 0) 0) (.int .i64 (IntKind.wrap .i64 (n36 - 1))) <|
                                            J_ref13_Without_1 W R za3 B29 zn0 za1 za2 nx0 n17)
                                        (J_ref13_Without_1 W R za3 B29 zn0 za1 za2 nx0 n17)))
      (RDL (Addr.add za3 0) fun x48 l49 c50 =>
        RDL (Addr.add za3 1) fun x51 l52 c53 =>
          WR (Addr.add za2 0) (.slice x48 l49 c50) <|
            WR (Addr.add za2 1) (.slice x51 l52 c53) <|
              RDL (Addr.add za2 0) fun x54 l55 c56 =>
                RDL (Addr.add za2 1) fun x57 l58 c59 =>
                  R (.returned (.agg #[(.slice x54 l55 c56), (.slice x57 l58 c59)])))
theorem B_ref13_Without_0_eq (W : World) (R : Ending → Hp → Prop) (zn0 : Int) (za1 : Addr) (za2 : Addr) (za3 : Addr) (n17 : Int) (nx0 : List Value → Hp → Prop) (j : Tm) : vc Pg W 45 rs_36 an_36 false (sub (bodyOf Try.f36) [1, 1, 1, 0, 1, 0, 0]) 0 (KLoop [6] [1, 2, 4, 5, 45] [(.int .i64 zn0), (.pointer (some za1)), (.pointer (some za2)), (.pointer (some za3)), (.tuple #[])] nx0 (KBlk 0 (KS Pg W 45 rs_36 an_36 false (sub (bodyOf Try.f36) [1, 1, 1, 1]) 0 (fin Pg W 45 rv_36 R)))) (known [6] [(.int .i64 n17)] (known [1, 2, 4, 5, 45] [(.int .i64 zn0), (.pointer (some za1)), (.pointer (some za2)), (.pointer (some za3)), (.tuple #[])] j)) = B_ref13_Without_0 W R zn0 za1 za2 za3 n17 nx0 := by kernel_rfl
def N_ref13_Without_0 (I : Int → Hp → Prop) (μ : Int → Hp → Nat) (n170 : Int) (s : Hp) (vs : List Value) : Hp → Prop := fun s' => ∃ n17, vs = [(.int .i64 n17)] ∧ I n17 s' ∧ μ n17 s' < μ n170 s
theorem L_ref13_Without_0_rule (W : World) (R : Ending → Hp → Prop) (zn0 : Int) (za1 : Addr) (za2 : Addr) (za3 : Addr) (I : Int → Hp → Prop) (μ : Int → Hp → Nat) (n170 : Int) (s : Hp) (h0 : I n170 s)
    (hr : ∀ (n17 : Int) (s : Hp), I n17 s → B_ref13_Without_0 W R zn0 za1 za2 za3 n17 (fun vs => N_ref13_Without_0 I μ n17 s vs) s) : L_ref13_Without_0 W R zn0 za1 za2 za3 n170 s := by
  refine ⟨fun vs s => ∃ n17, vs = [(.int .i64 n17)] ∧ I n17 s, fun vs s => (match vs with | [.int _ n17] => μ n17 s | _ => 0), ⟨⟨⟨_, rfl⟩, trivial⟩, ⟨_, rfl, h0⟩⟩, ?_⟩
  intro n17 s hI j
  obtain ⟨n17', hy, hI⟩ := hI
  have hI' : I n17 s := by cases hy; exact hI
  have hh := hr n17 s hI'
  rw [← B_ref13_Without_0_eq W R zn0 za1 za2 za3 n17 _ j] at hh
  refine vc_mono ?_ _ _ hh
  exact KLoop_mono (fun vs s' h => by obtain ⟨n171, rfl, h1, h2⟩ := h; exact ⟨⟨⟨_, rfl⟩, trivial⟩, ⟨_, rfl, h1⟩, h2⟩)
def T_ref13_Without (W : World) (x1 : Option Addr) (l2 : Nat) (c3 : Nat) (x4 : Option Addr) (l5 : Nat) (c6 : Nat) (n7 : Int) (R : Ending → Hp → Prop) : Hp → Prop :=
  NEW 25 [(.slice x1 l2 c3), (.slice x4 l5 c6)] fun B8 =>
    NEWZ Pg 25 fun B9 =>
      RDL (Addr.add ⟨B8, 0, none⟩ 0) fun x10 l11 c12 =>
        RDL (Addr.add ⟨B8, 0, none⟩ 1) fun x13 l14 c15 =>
          NEWZ Pg 25 fun B16 =>
            WR (Addr.add ⟨B16, 0, none⟩ 0) (.slice x10 l11 c12) <|
              WR (Addr.add ⟨B16, 0, none⟩ 1) (.slice x13 l14 c15) <|
                WR (Addr.add (Addr.add ⟨B16, 0, none⟩ 0) 0) (.slice none 0 0) <|
                  L_ref13_Without_0 W R n7 ⟨B8, 0, none⟩ ⟨B9, 0, none⟩ ⟨B16, 0, none⟩ 0
theorem T_ref13_Without_eq (W : World) (x1 : Option Addr) (l2 : Nat) (c3 : Nat) (x4 : Option Addr) (l5 : Nat) (c6 : Nat) (n7 : Int) (R : Ending → Hp → Prop) : vfun Pg W an_36 Try.f36 [(.agg #[(.slice x1 l2 c3), (.slice x4 l5 c6)]), (.int .i64 n7)] R = T_ref13_Without W x1 l2 c3 x4 l5 c6 n7 R := by kernel_rfl
theorem does_ref13_Without (W : World) (x1 : Option Addr) (l2 : Nat) (c3 : Nat) (x4 : Option Addr) (l5 : Nat) (c6 : Nat) (n7 : Int) (R : Ending → Hp → Prop) (s : Hp) (h : T_ref13_Without W x1 l2 c3 x4 l5 c6 n7 R s) : Does Pg W F_ref13_Without #[(.agg #[(.slice x1 l2 c3), (.slice x4 l5 c6)]), (.int .i64 n7)] s R :=
  does_of_vfun Pg W an_36 Try.func36 rfl (by kernel_rfl) (by rw [T_ref13_Without_eq]; exact h)
def an_38 : Nat → Ann := fun b => match b with
  | 0 => { ms := [9], ks := [.i .i64], us := [1, 2, 6, 7, 8, 77], rt := false, ex := [] }
  | _ => {}
abbrev rv_38 : List ResultVar := [.cell 6 25]
abbrev rs_38 : List Nat := [77, 6]
def L_ref13_Moved_0 (W : World) (R : Ending → Hp → Prop) (zn0 : Int) (zn1 : Int) (za2 : Addr) (za3 : Addr) (zn4 : Int) (n30 : Int) : Hp → Prop :=
  LOOPN [.i .i64] (fun ys next s => ∀ j : Tm, vc Pg W 77 rs_38 an_38 false (sub (bodyOf Try.f38) [1, 1, 1, 1, 0, 1, 0, 0]) 0 (KLoop [9] [1, 2, 6, 7, 8, 77] [(.int .i64 zn0), (.int .i64 zn1), (.pointer (some za2)), (.pointer (some za3)), (.int .i64 zn4), (.tuple #[])] next (KBlk 0 (KS Pg W 77 rs_38 an_38 false (sub (bodyOf Try.f38) [1, 1, 1, 1, 1]) 0 (fin Pg W 77 rv_38 R)))) (known [9] ys (known [1, 2, 6, 7, 8, 77] [(.int .i64 zn0), (.int .i64 zn1), (.pointer (some za2)), (.pointer (some za3)), (.int .i64 zn4), (.tuple #[])] j)) s) [(.int .i64 n30)]
def J_ref13_Moved_0 (W : World) (R : Ending → Hp → Prop) (zn0 : Int) (zn1 : Int) (za2 : Addr) (za3 : Addr) (zn4 : Int) (nx0 : List Value → Hp → Prop) (n30 : Int) : Hp → Prop :=
  NX [(.int .i64 zn0), (.int .i64 zn1), (.pointer (some za2)), (.pointer (some za3)), (.int .i64 zn4), (.tuple #[])] [(.int .i64 zn0), (.int .i64 zn1), (.pointer (some za2)), (.pointer (some za3)), (.int .i64 zn4), (.tuple #[])] (nx0 [(.int .i64 (IntKind.wrap .i64 (n30 + 1)))])
def J_ref13_Moved_1 (W : World) (R : Ending → Hp → Prop) (b46 : Bool) (za3 : Addr) (n30 : Int) (zn0 : Int) (zn1 : Int) (za2 : Addr) (zn4 : Int) (nx0 : List Value → Hp → Prop) : Hp → Prop :=
  BR b46
    (RDL (Addr.add za3 0) fun x47 l48 c49 =>
      IXS x47 l48 n30 4 fun a50 =>
        RDI .i64 (Addr.add a50 0) fun n51 =>
          IXS x47 l48 n30 4 fun a52 =>
            WR (Addr.add (Addr.add a52 0) 0) (.int .i64 (IntKind.wrap .i64 (n51 + 1))) <|
              J_ref13_Moved_0 W R zn0 zn1 za2 za3 zn4 nx0 n30)
    (J_ref13_Moved_0 W R zn0 zn1 za2 za3 zn4 nx0 n30)
def J_ref13_Moved_2 (W : World) (R : Ending → Hp → Prop) (n38 : Int) (zn4 : Int) (zn1 : Int) (za3 : Addr) (n30 : Int) (zn0 : Int) (za2 : Addr) (nx0 : List Value → Hp → Prop) : Hp → Prop :=
  BR (decide (n38 < zn4))
    (J_ref13_Moved_1 W R (decide (n38 ≥ zn1)) za3 n30 zn0 zn1 za2 zn4 nx0)
    (J_ref13_Moved_1 W R false za3 n30 zn0 zn1 za2 zn4 nx0)
def J_ref13_Moved_3 (W : World) (R : Ending → Hp → Prop) (b39 : Bool) (za3 : Addr) (n30 : Int) (n38 : Int) (zn4 : Int) (zn1 : Int) (zn0 : Int) (za2 : Addr) (nx0 : List Value → Hp → Prop) : Hp → Prop :=
  BR b39
    (RDL (Addr.add za3 0) fun x40 l41 c42 =>
      IXS x40 l41 n30 4 fun a43 =>
        RDI .i64 (Addr.add a43 0) fun n44 =>
          IXS x40 l41 n30 4 fun a45 =>
            WR (Addr.add (Addr.add a45 0) 0) (.int .i64 (IntKind.wrap .i64 (n44 - 1))) <|
              J_ref13_Moved_2 W R n38 zn4 zn1 za3 n30 zn0 za2 nx0)
    (J_ref13_Moved_2 W R n38 zn4 zn1 za3 n30 zn0 za2 nx0)
def B_ref13_Moved_0 (W : World) (R : Ending → Hp → Prop) (zn0 : Int) (zn1 : Int) (za2 : Addr) (za3 : Addr) (zn4 : Int) (n30 : Int) (nx0 : List Value → Hp → Prop) : Hp → Prop :=
  RDL (Addr.add za3 0) fun x31 l32 c33 =>
    BR (decide (n30 < (↑l32 : Int)))
      (RDL (Addr.add za3 0) fun x34 l35 c36 =>
        IXS x34 l35 n30 4 fun a37 =>
          RDI .i64 (Addr.add a37 0) fun n38 =>
            BR (decide (n38 > zn4))
              (J_ref13_Moved_3 W R (decide (n38 ≤ zn1)) za3 n30 n38 zn4 zn1 zn0 za2 nx0)
              (J_ref13_Moved_3 W R false za3 n30 n38 zn4 zn1 zn0 za2 nx0))
      (RDL (Addr.add za3 0) fun x53 l54 c55 =>
        IXS x53 l54 zn0 4 fun a56 =>
          WR (Addr.add (Addr.add a56 0) 0) (.int .i64 zn1) <|
            RDL (Addr.add za3 0) fun x57 l58 c59 =>
              RDL (Addr.add za3 1) fun x60 l61 c62 =>
                WR (Addr.add za2 0) (.slice x57 l58 c59) <|
                  WR (Addr.add za2 1) (.slice x60 l61 c62) <|
                    RDL (Addr.add za2 0) fun x63 l64 c65 =>
                      RDL (Addr.add za2 1) fun x66 l67 c68 =>
                        R (.returned (.agg #[(.slice x63 l64 c65), (.slice x66 l67 c68)])))
theorem B_ref13_Moved_0_eq (W : World) (R : Ending → Hp → Prop) (zn0 : Int) (zn1 : Int) (za2 : Addr) (za3 : Addr) (zn4 : Int) (n30 : Int) (nx0 : List Value → Hp → Prop) (j : Tm) : vc Pg W 77 rs_38 an_38 false (sub (bodyOf Try.f38) [1, 1, 1, 1, 0, 1, 0, 0]) 0 (KLoop [9] [1, 2, 6, 7, 8, 77] [(.int .i64 zn0), (.int .i64 zn1), (.pointer (some za2)), (.pointer (some za3)), (.int .i64 zn4), (.tuple #[])] nx0 (KBlk 0 (KS Pg W 77 rs_38 an_38 false (sub (bodyOf Try.f38) [1, 1, 1, 1, 1]) 0 (fin Pg W 77 rv_38 R)))) (known [9] [(.int .i64 n30)] (known [1, 2, 6, 7, 8, 77] [(.int .i64 zn0), (.int .i64 zn1), (.pointer (some za2)), (.pointer (some za3)), (.int .i64 zn4), (.tuple #[])] j)) = B_ref13_Moved_0 W R zn0 zn1 za2 za3 zn4 n30 nx0 := by kernel_rfl
def N_ref13_Moved_0 (I : Int → Hp → Prop) (μ : Int → Hp → Nat) (n300 : Int) (s : Hp) (vs : List Value) : Hp → Prop := fun s' => ∃ n30, vs = [(.int .i64 n30)] ∧ I n30 s' ∧ μ n30 s' < μ n300 s
theorem L_ref13_Moved_0_rule (W : World) (R : Ending → Hp → Prop) (zn0 : Int) (zn1 : Int) (za2 : Addr) (za3 : Addr) (zn4 : Int) (I : Int → Hp → Prop) (μ : Int → Hp → Nat) (n300 : Int) (s : Hp) (h0 : I n300 s)
    (hr : ∀ (n30 : Int) (s : Hp), I n30 s → B_ref13_Moved_0 W R zn0 zn1 za2 za3 zn4 n30 (fun vs => N_ref13_Moved_0 I μ n30 s vs) s) : L_ref13_Moved_0 W R zn0 zn1 za2 za3 zn4 n300 s := by
  refine ⟨fun vs s => ∃ n30, vs = [(.int .i64 n30)] ∧ I n30 s, fun vs s => (match vs with | [.int _ n30] => μ n30 s | _ => 0), ⟨⟨⟨_, rfl⟩, trivial⟩, ⟨_, rfl, h0⟩⟩, ?_⟩
  intro n30 s hI j
  obtain ⟨n30', hy, hI⟩ := hI
  have hI' : I n30 s := by cases hy; exact hI
  have hh := hr n30 s hI'
  rw [← B_ref13_Moved_0_eq W R zn0 zn1 za2 za3 zn4 n30 _ j] at hh
  refine vc_mono ?_ _ _ hh
  exact KLoop_mono (fun vs s' h => by obtain ⟨n301, rfl, h1, h2⟩ := h; exact ⟨⟨⟨_, rfl⟩, trivial⟩, ⟨_, rfl, h1⟩, h2⟩)
def T_ref13_Moved (W : World) (x1 : Option Addr) (l2 : Nat) (c3 : Nat) (x4 : Option Addr) (l5 : Nat) (c6 : Nat) (n7 : Int) (n8 : Int) (R : Ending → Hp → Prop) : Hp → Prop :=
  NEW 25 [(.slice x1 l2 c3), (.slice x4 l5 c6)] fun B9 =>
    NEWZ Pg 25 fun B10 =>
      RDL (Addr.add ⟨B9, 0, none⟩ 0) fun x11 l12 c13 =>
        RDL (Addr.add ⟨B9, 0, none⟩ 1) fun x14 l15 c16 =>
          NEWZ Pg 25 fun B17 =>
            WR (Addr.add ⟨B17, 0, none⟩ 0) (.slice x11 l12 c13) <|
              WR (Addr.add ⟨B17, 0, none⟩ 1) (.slice x14 l15 c16) <|
                NEW 48 [] fun B18 =>
                  RDL (Addr.add ⟨B9, 0, none⟩ 0) fun x19 l20 c21 =>
                    APP Pg 48 4 (some ⟨B18, 0, none⟩) 0 0 x19 l20 fun x22 l23 c24 =>
                      WR (Addr.add (Addr.add ⟨B17, 0, none⟩ 0) 0) (.slice x22 l23 c24) <|
                        RDL (Addr.add ⟨B9, 0, none⟩ 0) fun x25 l26 c27 =>
                          IXS x25 l26 n7 4 fun a28 =>
                            RDI .i64 (Addr.add a28 0) fun n29 =>
                              L_ref13_Moved_0 W R n7 n8 ⟨B10, 0, none⟩ ⟨B17, 0, none⟩ n29 0
theorem T_ref13_Moved_eq (W : World) (x1 : Option Addr) (l2 : Nat) (c3 : Nat) (x4 : Option Addr) (l5 : Nat) (c6 : Nat) (n7 : Int) (n8 : Int) (R : Ending → Hp → Prop) : vfun Pg W an_38 Try.f38 [(.agg #[(.slice x1 l2 c3), (.slice x4 l5 c6)]), (.int .i64 n7), (.int .i64 n8)] R = T_ref13_Moved W x1 l2 c3 x4 l5 c6 n7 n8 R := by kernel_rfl
theorem does_ref13_Moved (W : World) (x1 : Option Addr) (l2 : Nat) (c3 : Nat) (x4 : Option Addr) (l5 : Nat) (c6 : Nat) (n7 : Int) (n8 : Int) (R : Ending → Hp → Prop) (s : Hp) (h : T_ref13_Moved W x1 l2 c3 x4 l5 c6 n7 n8 R s) : Does Pg W F_ref13_Moved #[(.agg #[(.slice x1 l2 c3), (.slice x4 l5 c6)]), (.int .i64 n7), (.int .i64 n8)] s R :=
  does_of_vfun Pg W an_38 Try.func38 rfl (by kernel_rfl) (by rw [T_ref13_Moved_eq]; exact h)
def an_66 : Nat → Ann := fun b => match b with
  | 0 => { ms := [5, 6, 7], ks := [.l, .b, .i .i64], us := [1, 2, 4, 57], rt := false, ex := [] }
  | _ => {}
abbrev rv_66 : List ResultVar := [.tmp 4]
abbrev rs_66 : List Nat := [57, 4]
def L_ref13_most_0 (W : World) (R : Ending → Hp → Prop) (zp0 : Option Addr) (zl1 : Nat) (zl2 : Nat) (za3 : Addr) (x14 : Option Addr) (l15 : Nat) (c16 : Nat) (b17 : Bool) (n18 : Int) : Hp → Prop :=
  LOOPN [.l, .b, .i .i64] (fun ys next s => ∀ j : Tm, vc Pg W 57 rs_66 an_66 false (sub (bodyOf Try.f66) [1, 1, 1, 1, 0, 1, 0, 0]) 0 (KLoop [5, 6, 7] [1, 2, 4, 57] [(.slice zp0 zl1 zl2), (.pointer (some za3)), (.slice none 0 0), (.tuple #[])] next (KBlk 0 (KS Pg W 57 rs_66 an_66 false (sub (bodyOf Try.f66) [1, 1, 1, 1, 1]) 0 (fin Pg W 57 rv_66 R)))) (known [5, 6, 7] ys (known [1, 2, 4, 57] [(.slice zp0 zl1 zl2), (.pointer (some za3)), (.slice none 0 0), (.tuple #[])] j)) s) [(.slice x14 l15 c16), (.bool b17), (.int .i64 n18)]
def J_ref13_most_0 (W : World) (R : Ending → Hp → Prop) (b72 : Bool) (zp0 : Option Addr) (zl1 : Nat) (zl2 : Nat) (za3 : Addr) (nx0 : List Value → Hp → Prop) (x69 : Option Addr) (l70 : Nat) (c71 : Nat) (n18 : Int) (x14 : Option Addr) (l15 : Nat) (c16 : Nat) (b17 : Bool) : Hp → Prop :=
  BR b72
    (NX [(.slice zp0 zl1 zl2), (.pointer (some za3)), (.slice none 0 0), (.tuple #[])] [(.slice zp0 zl1 zl2), (.pointer (some za3)), (.slice none 0 0), (.tuple #[])] (nx0 [(.slice x69 l70 c71), (.bool true), (.int .i64 (IntKind.wrap .i64 (n18 + 1)))]))
    (NX [(.slice zp0 zl1 zl2), (.pointer (some za3)), (.slice none 0 0), (.tuple #[])] [(.slice zp0 zl1 zl2), (.pointer (some za3)), (.slice none 0 0), (.tuple #[])] (nx0 [(.slice x14 l15 c16), (.bool b17), (.int .i64 (IntKind.wrap .i64 (n18 + 1)))]))
def J_ref13_most_1 (W : World) (R : Ending → Hp → Prop) (b17 : Bool) (zp0 : Option Addr) (zl1 : Nat) (zl2 : Nat) (za3 : Addr) (nx0 : List Value → Hp → Prop) (x69 : Option Addr) (l70 : Nat) (c71 : Nat) (n18 : Int) (x14 : Option Addr) (l15 : Nat) (c16 : Nat) : Hp → Prop :=
  BR (!b17)
    (J_ref13_most_0 W R true zp0 zl1 zl2 za3 nx0 x69 l70 c71 n18 x14 l15 c16 b17)
    (CALL Pg W F_ref13_Many [(.slice x69 l70 c71)]
      (fun v73 => TYI .i64 v73 fun n75 =>
        CALL Pg W F_ref13_Many [(.slice x14 l15 c16)]
          (fun v76 => TYI .i64 v76 fun n78 =>
            J_ref13_most_0 W R (decide (n75 > n78)) zp0 zl1 zl2 za3 nx0 x69 l70 c71 n18 x14 l15 c16 b17)
            (fun e77 => R (.panicked e77)))
        (fun e74 => R (.panicked e74)))
def J_ref13_most_2 (W : World) (R : Ending → Hp → Prop) (b25 : Bool) (zp0 : Option Addr) (zl1 : Nat) (zl2 : Nat) (za3 : Addr) (nx0 : List Value → Hp → Prop) (x14 : Option Addr) (l15 : Nat) (c16 : Nat) (b17 : Bool) (n18 : Int) : Hp → Prop :=
  BR b25
    (NX [(.slice zp0 zl1 zl2), (.pointer (some za3)), (.slice none 0 0), (.tuple #[])] [(.slice zp0 zl1 zl2), (.pointer (some za3)), (.slice none 0 0), (.tuple #[])] (nx0 [(.slice x14 l15 c16), (.bool b17), (.int .i64 (IntKind.wrap .i64 (n18 + 1)))]))
    (RDL (Addr.add za3 0) fun x26 l27 c28 =>
      RDL (Addr.add za3 1) fun x29 l30 c31 =>
        CONJ [
          NEW 3 [] fun B32 =>
            ANDS (RDL (Addr.add za3 0) fun x33 l34 c35 =>
              RDL (Addr.add za3 1) fun x36 l37 c38 =>
                fun _ => ((.agg #[(.slice x33 l34 c35), (.slice x36 l37 c38)]) : Value) = (.agg #[(.slice x26 l27 c28), (.slice x29 l30 c31)])) <|
              CONJ [
                APP Pg 3 1 (some ⟨B32, 0, none⟩) 0 0 zp0 zl1 fun x39 l40 c41 =>
                  ANDS (RDL (Addr.add za3 0) fun x42 l43 c44 =>
                    RDL (Addr.add za3 1) fun x45 l46 c47 =>
                      fun _ => ((.agg #[(.slice x42 l43 c44), (.slice x45 l46 c47)]) : Value) = (.agg #[(.slice x26 l27 c28), (.slice x29 l30 c31)])) <|
                    NEW 3 [(.int .i64 n18)] fun B48 =>
                      ANDS (RDL (Addr.add za3 0) fun x49 l50 c51 =>
                        RDL (Addr.add za3 1) fun x52 l53 c54 =>
                          fun _ => ((.agg #[(.slice x49 l50 c51), (.slice x52 l53 c54)]) : Value) = (.agg #[(.slice x26 l27 c28), (.slice x29 l30 c31)])) <|
                        APP Pg 3 1 x39 l40 c41 (some ⟨B48, 0, none⟩) 1 fun x55 l56 c57 =>
                          ANDS (RDL (Addr.add za3 0) fun x58 l59 c60 =>
                            RDL (Addr.add za3 1) fun x61 l62 c63 =>
                              fun _ => ((.agg #[(.slice x58 l59 c60), (.slice x61 l62 c63)]) : Value) = (.agg #[(.slice x26 l27 c28), (.slice x29 l30 c31)])) <|
                            CALL Pg W F_ref13_most [(.agg #[(.slice x26 l27 c28), (.slice x29 l30 c31)]), (.slice x55 l56 c57)]
                              (fun v64 => TYL v64 fun x66 l67 c68 =>
                                J_ref13_most_1 W R b17 zp0 zl1 zl2 za3 nx0 x66 l67 c68 n18 x14 l15 c16)
                                (fun e65 => R (.panicked e65)),
                NEW 3 [(.int .i64 n18)] fun B79 =>
                  ANDS (RDL (Addr.add za3 0) fun x80 l81 c82 =>
                    RDL (Addr.add za3 1) fun x83 l84 c85 =>
                      fun _ => ((.agg #[(.slice x80 l81 c82), (.slice x83 l84 c85)]) : Value) = (.agg #[(.slice x26 l27 c28), (.slice x29 l30 c31)])) <|
                    APP Pg 3 1 (some ⟨B32, 0, none⟩) 0 0 zp0 zl1 fun x86 l87 c88 =>
                      ANDS (RDL (Addr.add za3 0) fun x89 l90 c91 =>
                        RDL (Addr.add za3 1) fun x92 l93 c94 =>
                          fun _ => ((.agg #[(.slice x89 l90 c91), (.slice x92 l93 c94)]) : Value) = (.agg #[(.slice x26 l27 c28), (.slice x29 l30 c31)])) <|
                        APP Pg 3 1 x86 l87 c88 (some ⟨B79, 0, none⟩) 1 fun x95 l96 c97 =>
                          ANDS (RDL (Addr.add za3 0) fun x98 l99 c100 =>
                            RDL (Addr.add za3 1) fun x101 l102 c103 =>
                              fun _ => ((.agg #[(.slice x98 l99 c100), (.slice x101 l102 c103)]) : Value) = (.agg #[(.slice x26 l27 c28), (.slice x29 l30 c31)])) <|
                            CALL Pg W F_ref13_most [(.agg #[(.slice x26 l27 c28), (.slice x29 l30 c31)]), (.slice x95 l96 c97)]
                              (fun v104 => TYL v104 fun x106 l107 c108 =>
                                J_ref13_most_1 W R b17 zp0 zl1 zl2 za3 nx0 x106 l107 c108 n18 x14 l15 c16)
                                (fun e105 => R (.panicked e105))],
          NEW 3 [(.int .i64 n18)] fun B109 =>
            ANDS (RDL (Addr.add za3 0) fun x110 l111 c112 =>
              RDL (Addr.add za3 1) fun x113 l114 c115 =>
                fun _ => ((.agg #[(.slice x110 l111 c112), (.slice x113 l114 c115)]) : Value) = (.agg #[(.slice x26 l27 c28), (.slice x29 l30 c31)])) <|
              NEW 3 [] fun B116 =>
                ANDS (RDL (Addr.add za3 0) fun x117 l118 c119 =>
                  RDL (Addr.add za3 1) fun x120 l121 c122 =>
                    fun _ => ((.agg #[(.slice x117 l118 c119), (.slice x120 l121 c122)]) : Value) = (.agg #[(.slice x26 l27 c28), (.slice x29 l30 c31)])) <|
                  APP Pg 3 1 (some ⟨B116, 0, none⟩) 0 0 zp0 zl1 fun x123 l124 c125 =>
                    ANDS (RDL (Addr.add za3 0) fun x126 l127 c128 =>
                      RDL (Addr.add za3 1) fun x129 l130 c131 =>
                        fun _ => ((.agg #[(.slice x126 l127 c128), (.slice x129 l130 c131)]) : Value) = (.agg #[(.slice x26 l27 c28), (.slice x29 l30 c31)])) <|
                      APP Pg 3 1 x123 l124 c125 (some ⟨B109, 0, none⟩) 1 fun x132 l133 c134 =>
                        ANDS (RDL (Addr.add za3 0) fun x135 l136 c137 =>
                          RDL (Addr.add za3 1) fun x138 l139 c140 =>
                            fun _ => ((.agg #[(.slice x135 l136 c137), (.slice x138 l139 c140)]) : Value) = (.agg #[(.slice x26 l27 c28), (.slice x29 l30 c31)])) <|
                          CALL Pg W F_ref13_most [(.agg #[(.slice x26 l27 c28), (.slice x29 l30 c31)]), (.slice x132 l133 c134)]
                            (fun v141 => TYL v141 fun x143 l144 c145 =>
                              J_ref13_most_1 W R b17 zp0 zl1 zl2 za3 nx0 x143 l144 c145 n18 x14 l15 c16)
                              (fun e142 => R (.panicked e142))])
def B_ref13_most_0 (W : World) (R : Ending → Hp → Prop) (zp0 : Option Addr) (zl1 : Nat) (zl2 : Nat) (za3 : Addr) (x14 : Option Addr) (l15 : Nat) (c16 : Nat) (b17 : Bool) (n18 : Int) (nx0 : List Value → Hp → Prop) : Hp → Prop :=
  RDL (Addr.add za3 0) fun x19 l20 c21 =>
    BR (decide (n18 < (↑l20 : Int)))
      (BR (decide (n18 ≥ 0))
        (CALL Pg W F_ref13_has [(.slice zp0 zl1 zl2), (.int .i64 n18)]
          (fun v22 => TYB v22 fun b24 =>
            BR b24
              (J_ref13_most_2 W R true zp0 zl1 zl2 za3 nx0 x14 l15 c16 b17 n18)
              (RDL (Addr.add za3 0) fun x146 l147 c148 =>
                RDL (Addr.add za3 1) fun x149 l150 c151 =>
                  CALL Pg W F_ref13_can [(.agg #[(.slice x146 l147 c148), (.slice x149 l150 c151)]), (.int .i64 n18), (.int .i64 (↑zl1 : Int))]
                    (fun v152 => TYB v152 fun b154 =>
                      J_ref13_most_2 W R (!b154) zp0 zl1 zl2 za3 nx0 x14 l15 c16 b17 n18)
                      (fun e153 => R (.panicked e153))))
            (fun e23 => R (.panicked e23)))
        (J_ref13_most_2 W R false zp0 zl1 zl2 za3 nx0 x14 l15 c16 b17 n18))
      (R (.returned (.slice x14 l15 c16)))
theorem B_ref13_most_0_eq (W : World) (R : Ending → Hp → Prop) (zp0 : Option Addr) (zl1 : Nat) (zl2 : Nat) (za3 : Addr) (x14 : Option Addr) (l15 : Nat) (c16 : Nat) (b17 : Bool) (n18 : Int) (nx0 : List Value → Hp → Prop) (j : Tm) : vc Pg W 57 rs_66 an_66 false (sub (bodyOf Try.f66) [1, 1, 1, 1, 0, 1, 0, 0]) 0 (KLoop [5, 6, 7] [1, 2, 4, 57] [(.slice zp0 zl1 zl2), (.pointer (some za3)), (.slice none 0 0), (.tuple #[])] nx0 (KBlk 0 (KS Pg W 57 rs_66 an_66 false (sub (bodyOf Try.f66) [1, 1, 1, 1, 1]) 0 (fin Pg W 57 rv_66 R)))) (known [5, 6, 7] [(.slice x14 l15 c16), (.bool b17), (.int .i64 n18)] (known [1, 2, 4, 57] [(.slice zp0 zl1 zl2), (.pointer (some za3)), (.slice none 0 0), (.tuple #[])] j)) = B_ref13_most_0 W R zp0 zl1 zl2 za3 x14 l15 c16 b17 n18 nx0 := by kernel_rfl
def N_ref13_most_0 (I : Option Addr → Nat → Nat → Bool → Int → Hp → Prop) (μ : Option Addr → Nat → Nat → Bool → Int → Hp → Nat) (x140 : Option Addr) (l150 : Nat) (c160 : Nat) (b170 : Bool) (n180 : Int) (s : Hp) (vs : List Value) : Hp → Prop := fun s' => ∃ x14 l15 c16 b17 n18, vs = [(.slice x14 l15 c16), (.bool b17), (.int .i64 n18)] ∧ I x14 l15 c16 b17 n18 s' ∧ μ x14 l15 c16 b17 n18 s' < μ x140 l150 c160 b170 n180 s
theorem L_ref13_most_0_rule (W : World) (R : Ending → Hp → Prop) (zp0 : Option Addr) (zl1 : Nat) (zl2 : Nat) (za3 : Addr) (I : Option Addr → Nat → Nat → Bool → Int → Hp → Prop) (μ : Option Addr → Nat → Nat → Bool → Int → Hp → Nat) (x140 : Option Addr) (l150 : Nat) (c160 : Nat) (b170 : Bool) (n180 : Int) (s : Hp) (h0 : I x140 l150 c160 b170 n180 s)
    (hr : ∀ (x14 : Option Addr) (l15 : Nat) (c16 : Nat) (b17 : Bool) (n18 : Int) (s : Hp), I x14 l15 c16 b17 n18 s → B_ref13_most_0 W R zp0 zl1 zl2 za3 x14 l15 c16 b17 n18 (fun vs => N_ref13_most_0 I μ x14 l15 c16 b17 n18 s vs) s) : L_ref13_most_0 W R zp0 zl1 zl2 za3 x140 l150 c160 b170 n180 s := by
  refine ⟨fun vs s => ∃ x14 l15 c16 b17 n18, vs = [(.slice x14 l15 c16), (.bool b17), (.int .i64 n18)] ∧ I x14 l15 c16 b17 n18 s, fun vs s => (match vs with | [.slice x14 l15 c16, .bool b17, .int _ n18] => μ x14 l15 c16 b17 n18 s | _ => 0), ⟨⟨⟨_, _, _, rfl⟩, ⟨⟨_, rfl⟩, ⟨⟨_, rfl⟩, trivial⟩⟩⟩, ⟨_, _, _, _, _, rfl, h0⟩⟩, ?_⟩
  intro x14 l15 c16 b17 n18 s hI j
  obtain ⟨x14', l15', c16', b17', n18', hy, hI⟩ := hI
  have hI' : I x14 l15 c16 b17 n18 s := by cases hy; exact hI
  have hh := hr x14 l15 c16 b17 n18 s hI'
  rw [← B_ref13_most_0_eq W R zp0 zl1 zl2 za3 x14 l15 c16 b17 n18 _ j] at hh
  refine vc_mono ?_ _ _ hh
  exact KLoop_mono (fun vs s' h => by obtain ⟨x141, l151, c161, b171, n181, rfl, h1, h2⟩ := h; exact ⟨⟨⟨_, _, _, rfl⟩, ⟨⟨_, rfl⟩, ⟨⟨_, rfl⟩, trivial⟩⟩⟩, ⟨_, _, _, _, _, rfl, h1⟩, h2⟩)
def T_ref13_most (W : World) (x1 : Option Addr) (l2 : Nat) (c3 : Nat) (x4 : Option Addr) (l5 : Nat) (c6 : Nat) (x7 : Option Addr) (l8 : Nat) (c9 : Nat) (R : Ending → Hp → Prop) : Hp → Prop :=
  NEW 25 [(.slice x1 l2 c3), (.slice x4 l5 c6)] fun B10 =>
    RDL (Addr.add ⟨B10, 0, none⟩ 1) fun x11 l12 c13 =>
      BR ((↑l8 : Int) == (↑l12 : Int))
        (R (.returned (.slice x7 l8 c9)))
        (L_ref13_most_0 W R x7 l8 c9 ⟨B10, 0, none⟩ none 0 0 false (-1))
theorem T_ref13_most_eq (W : World) (x1 : Option Addr) (l2 : Nat) (c3 : Nat) (x4 : Option Addr) (l5 : Nat) (c6 : Nat) (x7 : Option Addr) (l8 : Nat) (c9 : Nat) (R : Ending → Hp → Prop) : vfun Pg W an_66 Try.f66 [(.agg #[(.slice x1 l2 c3), (.slice x4 l5 c6)]), (.slice x7 l8 c9)] R = T_ref13_most W x1 l2 c3 x4 l5 c6 x7 l8 c9 R := by kernel_rfl
theorem does_ref13_most (W : World) (x1 : Option Addr) (l2 : Nat) (c3 : Nat) (x4 : Option Addr) (l5 : Nat) (c6 : Nat) (x7 : Option Addr) (l8 : Nat) (c9 : Nat) (R : Ending → Hp → Prop) (s : Hp) (h : T_ref13_most W x1 l2 c3 x4 l5 c6 x7 l8 c9 R s) : Does Pg W F_ref13_most #[(.agg #[(.slice x1 l2 c3), (.slice x4 l5 c6)]), (.slice x7 l8 c9)] s R :=
  does_of_vfun Pg W an_66 Try.func66 rfl (by kernel_rfl) (by rw [T_ref13_most_eq]; exact h)
def an_69 : Nat → Ann := fun b => match b with
  | 0 => { ms := [3, 4], ks := [.i .i64, .i .i64], us := [0, 13], rt := false, ex := [] }
  | _ => {}
abbrev rv_69 : List ResultVar := [.tmp 2]
abbrev rs_69 : List Nat := [13, 2]
def L_ref13_power_0 (W : World) (R : Ending → Hp → Prop) (zn0 : Int) (n2 : Int) (n3 : Int) : Hp → Prop :=
  LOOPN [.i .i64, .i .i64] (fun ys next s => ∀ j : Tm, vc Pg W 13 rs_69 an_69 false (sub (bodyOf Try.f69) [1, 1, 0, 1, 0, 0]) 0 (KLoop [3, 4] [0, 13] [(.int .i64 zn0), (.tuple #[])] next (KBlk 0 (KS Pg W 13 rs_69 an_69 false (sub (bodyOf Try.f69) [1, 1, 1]) 0 (fin Pg W 13 rv_69 R)))) (known [3, 4] ys (known [0, 13] [(.int .i64 zn0), (.tuple #[])] j)) s) [(.int .i64 n2), (.int .i64 n3)]
def B_ref13_power_0 (W : World) (R : Ending → Hp → Prop) (zn0 : Int) (n2 : Int) (n3 : Int) (nx0 : List Value → Hp → Prop) : Hp → Prop :=
  BR (decide (n3 < zn0))
    (NX [(.int .i64 zn0), (.tuple #[])] [(.int .i64 zn0), (.tuple #[])] (nx0 [(.int .i64 (IntKind.wrap .i64 (2 * n2))), (.int .i64 (IntKind.wrap .i64 (n3 + 1)))]))
    (R (.returned (.int .i64 n2)))
theorem B_ref13_power_0_eq (W : World) (R : Ending → Hp → Prop) (zn0 : Int) (n2 : Int) (n3 : Int) (nx0 : List Value → Hp → Prop) (j : Tm) : vc Pg W 13 rs_69 an_69 false (sub (bodyOf Try.f69) [1, 1, 0, 1, 0, 0]) 0 (KLoop [3, 4] [0, 13] [(.int .i64 zn0), (.tuple #[])] nx0 (KBlk 0 (KS Pg W 13 rs_69 an_69 false (sub (bodyOf Try.f69) [1, 1, 1]) 0 (fin Pg W 13 rv_69 R)))) (known [3, 4] [(.int .i64 n2), (.int .i64 n3)] (known [0, 13] [(.int .i64 zn0), (.tuple #[])] j)) = B_ref13_power_0 W R zn0 n2 n3 nx0 := by kernel_rfl
def N_ref13_power_0 (I : Int → Int → Hp → Prop) (μ : Int → Int → Hp → Nat) (n20 : Int) (n30 : Int) (s : Hp) (vs : List Value) : Hp → Prop := fun s' => ∃ n2 n3, vs = [(.int .i64 n2), (.int .i64 n3)] ∧ I n2 n3 s' ∧ μ n2 n3 s' < μ n20 n30 s
theorem L_ref13_power_0_rule (W : World) (R : Ending → Hp → Prop) (zn0 : Int) (I : Int → Int → Hp → Prop) (μ : Int → Int → Hp → Nat) (n20 : Int) (n30 : Int) (s : Hp) (h0 : I n20 n30 s)
    (hr : ∀ (n2 : Int) (n3 : Int) (s : Hp), I n2 n3 s → B_ref13_power_0 W R zn0 n2 n3 (fun vs => N_ref13_power_0 I μ n2 n3 s vs) s) : L_ref13_power_0 W R zn0 n20 n30 s := by
  refine ⟨fun vs s => ∃ n2 n3, vs = [(.int .i64 n2), (.int .i64 n3)] ∧ I n2 n3 s, fun vs s => (match vs with | [.int _ n2, .int _ n3] => μ n2 n3 s | _ => 0), ⟨⟨⟨_, rfl⟩, ⟨⟨_, rfl⟩, trivial⟩⟩, ⟨_, _, rfl, h0⟩⟩, ?_⟩
  intro n2 n3 s hI j
  obtain ⟨n2', n3', hy, hI⟩ := hI
  have hI' : I n2 n3 s := by cases hy; exact hI
  have hh := hr n2 n3 s hI'
  rw [← B_ref13_power_0_eq W R zn0 n2 n3 _ j] at hh
  refine vc_mono ?_ _ _ hh
  exact KLoop_mono (fun vs s' h => by obtain ⟨n21, n31, rfl, h1, h2⟩ := h; exact ⟨⟨⟨_, rfl⟩, ⟨⟨_, rfl⟩, trivial⟩⟩, ⟨_, _, rfl, h1⟩, h2⟩)
def T_ref13_power (W : World) (n1 : Int) (R : Ending → Hp → Prop) : Hp → Prop :=
  L_ref13_power_0 W R n1 1 0
theorem T_ref13_power_eq (W : World) (n1 : Int) (R : Ending → Hp → Prop) : vfun Pg W an_69 Try.f69 [(.int .i64 n1)] R = T_ref13_power W n1 R := by kernel_rfl
theorem does_ref13_power (W : World) (n1 : Int) (R : Ending → Hp → Prop) (s : Hp) (h : T_ref13_power W n1 R s) : Does Pg W F_ref13_power #[(.int .i64 n1)] s R :=
  does_of_vfun Pg W an_69 Try.func69 rfl (by kernel_rfl) (by rw [T_ref13_power_eq]; exact h)
end Go.Proofs.Ytfaeokcbfnlgbaa.G

/- Prize: the document's Many, most, Most. -/
set_option linter.unusedSimpArgs false
set_option linter.unusedVariables false
set_option maxRecDepth 20000
namespace Go.Proofs.Ytfaeokcbfnlgbaa.G
open Go.V
section
variable {W : World} {K : VK} {E : List PanicEntry → Hp → Prop} {s : Hp} {T : PT}
theorem cntG_take {ds : List Int} {k : Nat} (h : k < ds.length) : cntG (ds.take (k + 1)) = cntG (ds.take k) + if ds.getD k 0 ≥ 0 then 1 else 0 := by
  unfold cntG
  rw [List.take_add_one, List.getElem?_eq_getElem h, getD_lt h, List.filter_append, List.length_append]
  congr 1
  show (List.filter _ [ds[k]]).length = _
  by_cases h1 : ds[k] ≥ 0
  · rw [if_pos h1, List.filter_cons, if_pos (decide_eq_true h1)]; rfl
  · rw [if_neg h1, List.filter_cons, if_neg (by simpa using h1)]; rfl
theorem cntG_le (ds : List Int) : cntG ds ≤ ds.length := List.length_filter_le _ _
theorem f_Many {x : Option Addr} {c l : Nat} {ds : List Int} (hx : RowAt s x (ints ds)) (hl : l = ds.length) (h8 : ds.length ≤ 100000) (h : K (.int .i64 (cntG ds : Nat)) s) : CALL Pg W F_ref13_Many [.slice x l c] K E s := by
  subst hl
  refine does_ref13_Many W x ds.length c _ s ?_
  unfold T_ref13_Many
  refine L_ref13_Many_0_rule W _ x ds.length c (fun n4 n5 t => t = s ∧ ∃ k : Nat, k ≤ ds.length ∧ n5 = k ∧ n4 = (cntG (ds.take k) : Nat)) (fun _ n5 _ => ((ds.length : Int) - n5).toNat) 0 0 s ⟨rfl, 0, by omega, rfl, rfl⟩ ?_
  rintro n4 n5 t ⟨rfl, k, hk, rfl, rfl⟩
  unfold B_ref13_Many_0
  refine BR_dec (fun h1 => ?_) (fun h1 => ?_)
  · have hkl : k < ds.length := by omega
    obtain ⟨a, ha, g⟩ := row_int hx hkl
    have hc := cntG_take hkl
    have hle := cntG_le (ds.take k)
    rw [List.length_take] at hle
    refine IXS_at ha hkl ?_
    refine ⟨_, g, ?_⟩
    refine BR_dec (fun h2 => ?_) (fun h2 => ?_)
    · rw [if_pos h2] at hc
      refine ⟨rfl, _, _, rfl, ⟨rfl, k + 1, hkl, wrap_succ (by omega), ?_⟩, ms_succ hkl (by omega)⟩
      rw [hc, wrap_succ (by omega)]
    · rw [if_neg h2] at hc
      refine ⟨rfl, _, _, rfl, ⟨rfl, k + 1, hkl, wrap_succ (by omega), ?_⟩, ms_succ hkl (by omega)⟩
      rw [hc]; rfl
  · have hkl : k = ds.length := by omega
    subst hkl
    rw [List.take_length]
    exact h
theorem f_most {x y : Option Addr} {c c' : Nat} (hok : okP T = true) (hx : MnAt s x T.men) (hy : PzAt s y T.list) : ∀ (r : Nat) (b : List (Option Nat)) (u : Hp) (q : Option Addr) (cq : Nat) (K : VK) (E : List PanicEntry → Hp → Prop), b.length + r = T.z → Ext s u → RowAt u q (ints (manL b)) →
    (∀ u' w cw, Ext u u' → RowAt u' w (ints (manL (b ++ bestG T r b.length (freeG b)))) → K (.slice w T.z cw) u') → CALL Pg W F_ref13_most [.agg #[.slice x T.n c, .slice y T.z c'], .slice q b.length cq] K E u := by
  have hv := okP_vd hok
  have h8 := hv.n8
  have h6 := hv.z6
  intro r
  induction r with
  | zero =>
    intro b u q cq K E hb eu hq h
    refine does_ref13_most W x T.n c y T.z c' q b.length cq _ u ?_
    unfold T_ref13_most
    refine ne2 fun s1 e1 z1 o1 o2 => ?_
    refine ⟨_, _, _, o2.cell, ?_⟩
    refine BR_eq (fun h1 => ?_) (fun h1 => absurd (by omega) h1)
    have := h s1 q cq e1 (by
      have e : bestG T 0 b.length (freeG b) = [] := rfl
      rw [e, List.append_nil]; exact hq.ext e1)
    have e : b.length = T.z := hb
    rw [e]; exact this
  | succ r ih =>
    intro b u q cq K E hb eu hq h
    have hbz : b.length < T.z := by omega
    refine does_ref13_most W x T.n c y T.z c' q b.length cq _ u ?_
    unfold T_ref13_most
    refine ne2 fun s1 e1 z1 o1 o2 => ?_
    refine ⟨_, _, _, o2.cell, ?_⟩
    refine BR_eq (fun h1 => absurd h1 (by omega)) (fun _ => ?_)
    have hml : (manL b).length = b.length := by unfold manL; rw [List.length_map]
    refine L_ref13_most_0_rule W _ q b.length cq ⟨u.size, 0, none⟩ (fun x14 l15 c16 b17 n18 t => Ext s1 t ∧ ∃ k : Nat, k ≤ T.n + 1 ∧ n18 = (k : Int) - 1 ∧ b17 = decide (0 < k) ∧ (0 < k → l15 = T.z ∧ RowAt t x14 (ints (manL (b ++ stG T r b.length (freeG b) (k - 1))))))
      (fun _ _ _ _ n18 _ => ((T.n : Int) - n18).toNat) none 0 0 false (-1) s1 ⟨Ext.refl _, 0, by omega, rfl, rfl, fun hh => by omega⟩ ?_
    rintro x14 l15 c16 b17 n18 t ⟨et, k, hk, rfl, rfl, hres⟩
    unfold B_ref13_most_0
    have eut := e1.trans et
    have est := eu.trans eut
    have o1t := et.cell o1.cell
    have o2t := et.cell o2.cell
    refine ⟨_, _, _, o1t, ?_⟩
    have hw : IntKind.i64.wrap (((k : Int) - 1) + 1) = ((k + 1 : Nat) : Int) - 1 := by rw [wrap_i64 (by omega) (by omega)]; omega
    refine BR_dec (fun h1 => ?_) (fun h1 => ?_)
    · have hkn : k ≤ T.n := by omega
      have hms : ((T.n : Int) - (((k + 1 : Nat) : Int) - 1)).toNat < ((T.n : Int) - ((k : Int) - 1)).toNat := by omega
      generalize hnx : (fun vs => N_ref13_most_0 _ _ _ _ _ _ _ t vs) = nx
      -- somebody who is not asked
      have skip : 0 < k → (freeG b (k - 1) && canP T (k - 1) b.length) = false → ∀ t', Ext t t' → J_ref13_most_2 W (endK K E) true q b.length cq ⟨u.size, 0, none⟩ nx x14 l15 c16 (decide (0 < k)) ((k : Int) - 1) t' := by
        intro h0 hno t ft
        have et := et.trans ft
        have eut := eut.trans ft
        have est := est.trans ft
        have o1t := ft.cell o1t
        have o2t := ft.cell o2t
        have hres : 0 < k → l15 = T.z ∧ RowAt t x14 (ints (manL (b ++ stG T r b.length (freeG b) (k - 1)))) := fun h0 => ⟨(hres h0).1, (hres h0).2.ext ft⟩
        unfold J_ref13_most_2
        obtain ⟨g1, g2⟩ := hres h0
        rw [← hnx]
        refine ⟨rfl, _, _, _, _, _, rfl, ⟨et, k + 1, by omega, hw, ?_, fun _ => ⟨g1, ?_⟩⟩, ?_⟩
        · rw [decide_eq_true h0, decide_eq_true (show 0 < k + 1 by omega)]
        · have : stG T r b.length (freeG b) (k + 1 - 1) = stG T r b.length (freeG b) (k - 1) := by
            have e : k + 1 - 1 = (k - 1) + 1 := by omega
            rw [e]; exact stG_no hno
          rw [this]; exact g2
        · rw [hw]; exact hms
      -- a prize more
      have try1 : ∀ o : Option Nat, manI o = (k : Int) - 1 → (k = 0 → o = none) → (0 < k → o = some (k - 1) ∧ (freeG b (k - 1) && canP T (k - 1) b.length) = true) → ∀ t', Ext t t' → J_ref13_most_2 W (endK K E) false q b.length cq ⟨u.size, 0, none⟩ nx x14 l15 c16 (decide (0 < k)) ((k : Int) - 1) t' := by
        intro o ho hk0 hk1 t ft
        have et := et.trans ft
        have eut := eut.trans ft
        have est := est.trans ft
        have o1t := ft.cell o1t
        have o2t := ft.cell o2t
        have hres : 0 < k → l15 = T.z ∧ RowAt t x14 (ints (manL (b ++ stG T r b.length (freeG b) (k - 1)))) := fun h0 => ⟨(hres h0).1, (hres h0).2.ext ft⟩
        unfold J_ref13_most_2
        have hbo : manL (b ++ [o]) = manL b ++ [(k : Int) - 1] := by rw [manL_app]; unfold manL; rw [List.map_singleton, ho]
        have hlo : (b ++ [o]).length = b.length + 1 := by simp
        have fin : ∀ (v : Hp) (w : Option Addr) (cw : Nat), Ext t v → RowAt v w (ints (manL (b ++ [o]))) →
            CALL Pg W F_ref13_most [.agg #[.slice x T.n c, .slice y T.z c'], .slice w (b.length + 1) cw] (fun v64 => TYL v64 fun x66 l67 c68 => J_ref13_most_1 W (endK K E) (decide (0 < k)) q b.length cq ⟨u.size, 0, none⟩ nx x66 l67 c68 ((k : Int) - 1) x14 l15 c16) (fun e => endK K E (.panicked e)) v := by
          intro v w cw ev hw'
          rw [← hlo]
          refine ih (b ++ [o]) v w cw _ _ (by omega) (est.trans ev) hw' fun v' w' cw' ev' hr => ?_
          try simp only [TUP_mk, AGG_mk, HD_mk, NL_mk, TYI_mk, TYB_mk, TYP_mk, TYL_mk, TYS_mk, TYM_mk, SO_mk, NX_mk, endK_mk, endK_mk', add_0]
          unfold J_ref13_most_1
          rw [hlo, List.append_assoc] at hr
          have etv := ev.trans ev'
          by_cases h0 : 0 < k
          · obtain ⟨ho', hcan⟩ := hk1 h0
            obtain ⟨g1, g2⟩ := hres h0
            subst ho'
            rw [freeG_some] at hr
            have hcs : ([some (k - 1)] ++ bestG T r (b.length + 1) (less (freeG b) (k - 1))) = some (k - 1) :: bestG T r (b.length + 1) (less (freeG b) (k - 1)) := rfl
            rw [hcs] at hr
            refine BR_ff (by rw [decide_eq_true h0]; rfl) ?_
            have hlen1 : T.z = (manL (b ++ (some (k - 1) :: bestG T r (b.length + 1) (less (freeG b) (k - 1))))).length := by unfold manL; simp [bestG_len]; omega
            have hlen2 : T.z = (manL (b ++ stG T r b.length (freeG b) (k - 1))).length := by unfold manL; simp [stG_len]; omega
            refine f_Many hr hlen1 (by omega) ?_
            try simp only [TUP_mk, AGG_mk, HD_mk, NL_mk, TYI_mk, TYB_mk, TYP_mk, TYL_mk, TYS_mk, TYM_mk, SO_mk, NX_mk, endK_mk, endK_mk', add_0]
            refine f_Many (g2.ext etv) (by rw [g1]; exact hlen2) (by omega) ?_
            try simp only [TUP_mk, AGG_mk, HD_mk, NL_mk, TYI_mk, TYB_mk, TYP_mk, TYL_mk, TYS_mk, TYM_mk, SO_mk, NX_mk, endK_mk, endK_mk', add_0]
            rw [cntG_man, cntG_man, many_app, many_app]
            have hs := stG_succ (r := r) hcan
            have ek : k + 1 - 1 = (k - 1) + 1 := by omega
            unfold J_ref13_most_0
            refine BR_dec (fun h2 => ?_) (fun h2 => ?_)
            · rw [if_pos (by omega)] at hs
              rw [← hnx]
              refine ⟨rfl, _, _, _, _, _, rfl, ⟨et.trans etv, k + 1, by omega, hw, (decide_eq_true (show 0 < k + 1 by omega)).symm, fun _ => ⟨rfl, ?_⟩⟩, ?_⟩
              · rw [ek, hs]; exact hr
              · rw [hw]; exact hms
            · rw [if_neg (by omega)] at hs
              rw [← hnx]
              refine ⟨rfl, _, _, _, _, _, rfl, ⟨et.trans etv, k + 1, by omega, hw, by rw [decide_eq_true h0, decide_eq_true (show 0 < k + 1 by omega)], fun _ => ⟨g1, ?_⟩⟩, ?_⟩
              · rw [ek, hs]; exact g2.ext etv
              · rw [hw]; exact hms
          · have hkz : k = 0 := by omega
            subst hkz
            have ho' := hk0 rfl
            subst ho'
            rw [freeG_none] at hr
            refine BR_tt rfl ?_
            unfold J_ref13_most_0
            refine BR_tt rfl ?_
            rw [← hnx]
            refine ⟨rfl, _, _, _, _, _, rfl, ⟨et.trans etv, 1, by omega, hw, rfl, fun _ => ⟨rfl, ?_⟩⟩, ?_⟩
            · rw [show 1 - 1 = 0 from rfl, stG_zero]; exact hr
            · rw [hw]; exact hms
        refine ⟨_, _, _, o1t, _, _, _, o2t, ?_⟩
        have rd : ∀ v, Ext t v → (RDL (Addr.add ⟨u.size, 0, none⟩ 0) fun x33 l34 c35 => RDL (Addr.add ⟨u.size, 0, none⟩ 1) fun x36 l37 c38 => fun _ => ((.agg #[(.slice x33 l34 c35), (.slice x36 l37 c38)]) : Value) = (.agg #[(.slice x T.n c), (.slice y T.z c')])) v := fun v ev => ⟨_, _, _, ev.cell o1t, _, _, _, ev.cell o2t, rfl⟩
        have hqt : ∀ v, Ext t v → RowAt v q (ints (manL b)) := fun v ev => hq.ext (eut.trans ev)
        have hmb : (ints (manL b)).length = b.length * 1 := by rw [ints_len, hml]; omega
        have fr0 : ∀ (v : Hp) (B lo : Nat), lo ≤ B → Fr lo v (some ⟨B, 0, none⟩) 0 0 1 [] := fun v B lo hB => ⟨⟨Nat.le_refl _, fun i hi => by omega⟩, rfl, fun a ha => by cases ha; exact hB, by omega⟩
        have rown : ∀ (v : Hp) (B : Nat), cellAt v ⟨B, 0, none⟩ = some (.int .i64 ((k : Int) - 1)) → RowAt v (some ⟨B, 0, none⟩) [.int .i64 ((k : Int) - 1)] := fun v B hc i hi => by
          have hi0 : i = 0 := by simp at hi; omega
          subst hi0
          exact ⟨_, rfl, hc⟩
        have last : ∀ v w cw, Fr t.size v w (0 + b.length + 1) cw 1 ([] ++ ints (manL b) ++ [.int .i64 ((k : Int) - 1)]) → RowAt v w (ints (manL (b ++ [o]))) := fun v w cw f => by
          rw [hbo, ints_app]
          have := f.row
          rw [List.nil_append] at this
          exact this
        have hz0 : 0 + b.length + 1 = b.length + 1 := by omega
        refine CONJ_two ?_ ?_
        · refine NEW_rule fun t1 f1 y1 n1 _ => ?_
          refine ANDS_i (rd t1 f1) ?_
          refine CONJ_two ?_ ?_
          · refine APP_fr (lo := t.size) (fr0 t1 _ _ (Nat.le_refl _)) f1.1 (ws := ints (manL b)) (hqt t1 f1) hmb zc_3 rfl (by omega) (ints_one _) (by omega) fun t2 x2 c2 k2 hx2 g2 => ?_
            have f2 : Ext t t2 := kp_nil f1 (fun b hb => by obtain ⟨a, ha, rfl⟩ := hb; cases ha; exact Nat.le_refl _) k2
            refine ANDS_i (rd t2 f2) ?_
            refine ne1 fun t3 f3 y3 n3 => ?_
            have f03 := f2.trans f3
            refine ANDS_i (rd t3 f03) ?_
            refine APP_fr (lo := t.size) (g2.ext f3) f03.1 (ws := [.int .i64 ((k : Int) - 1)]) (rown t3 _ n3.cell) rfl zc_3 rfl (by omega) (by simp [oneCell]) (by omega) fun t4 x4 c4 k4 hx4 g4 => ?_
            have f4 : Ext t t4 := kp_nil f03 (fun b hb => by obtain ⟨a, ha, rfl⟩ := hb; exact g2.fr a ha) k4
            refine ANDS_i (rd t4 f4) ?_
            rw [hz0]
            exact fin t4 x4 c4 f4 (last _ _ _ g4)
          · refine ne1 fun t2 f2 y2 n2 => ?_
            have f02 := f1.trans f2
            refine ANDS_i (rd t2 f02) ?_
            refine APP_fr (lo := t.size) (fr0 t2 _ _ (Nat.le_refl _)) f02.1 (ws := ints (manL b)) (hqt t2 f02) hmb zc_3 rfl (by omega) (ints_one _) (by omega) fun t3 x3 c3 k3 hx3 g3 => ?_
            have f3 : Ext t t3 := kp_nil f02 (fun b hb => by obtain ⟨a, ha, rfl⟩ := hb; cases ha; exact Nat.le_refl _) k3
            have n3 : Own t3 ⟨t1.size, 0, none⟩ (.int .i64 ((k : Int) - 1)) := k3.own (fun hb => by obtain ⟨a, ha, hb⟩ := hb; cases ha; have hb' : t.size = t1.size := hb; omega) n2
            refine ANDS_i (rd t3 f3) ?_
            refine APP_fr (lo := t.size) g3 f3.1 (ws := [.int .i64 ((k : Int) - 1)]) (rown t3 _ n3.cell) rfl zc_3 rfl (by omega) (by simp [oneCell]) (by omega) fun t4 x4 c4 k4 hx4 g4 => ?_
            have f4 : Ext t t4 := kp_nil f3 (fun b hb => by obtain ⟨a, ha, rfl⟩ := hb; exact g3.fr a ha) k4
            refine ANDS_i (rd t4 f4) ?_
            rw [hz0]
            exact fin t4 x4 c4 f4 (last _ _ _ g4)
        · refine ne1 fun t1 f1 y1 n1 => ?_
          refine ANDS_i (rd t1 f1) ?_
          refine NEW_rule fun t2 f2 y2 _ _ => ?_
          have f02 := f1.trans f2
          refine ANDS_i (rd t2 f02) ?_
          refine APP_fr (lo := t.size) (fr0 t2 _ _ f1.1) f02.1 (ws := ints (manL b)) (hqt t2 f02) hmb zc_3 rfl (by omega) (ints_one _) (by omega) fun t3 x3 c3 k3 hx3 g3 => ?_
          have f3 : Ext t t3 := kp_nil f02 (fun b hb => by obtain ⟨a, ha, rfl⟩ := hb; cases ha; exact f1.1) k3
          have n3 : Own t3 ⟨t.size, 0, none⟩ (.int .i64 ((k : Int) - 1)) := k3.own (fun hb => by obtain ⟨a, ha, hb⟩ := hb; cases ha; have hb' : t1.size = t.size := hb; omega) (f2.own n1)
          refine ANDS_i (rd t3 f3) ?_
          refine APP_fr (lo := t.size) g3 f3.1 (ws := [.int .i64 ((k : Int) - 1)]) (rown t3 _ n3.cell) rfl zc_3 rfl (by omega) (by simp [oneCell]) (by omega) fun t4 x4 c4 k4 hx4 g4 => ?_
          have f4 : Ext t t4 := kp_nil f3 (fun b hb => by obtain ⟨a, ha, rfl⟩ := hb; exact g3.fr a ha) k4
          refine ANDS_i (rd t4 f4) ?_
          rw [hz0]
          exact fin t4 x4 c4 f4 (last _ _ _ g4)
      refine BR_dec (fun h2 => ?_) (fun h2 => ?_)
      · have h0 : 0 < k := by omega
        obtain ⟨j, rfl⟩ : ∃ j, k = j + 1 := ⟨k - 1, by omega⟩
        have ej : ((j + 1 : Nat) : Int) - 1 = (j : Nat) := by omega
        have ej2 : j + 1 - 1 = j := rfl
        rw [ej2] at skip try1
        rw [ej] at skip try1 ⊢
        refine f_has (hq.ext eut) hml.symm (by omega) ?_
        try simp only [TUP_mk, AGG_mk, HD_mk, NL_mk, TYI_mk, TYB_mk, TYP_mk, TYL_mk, TYS_mk, TYM_mk, SO_mk, NX_mk, endK_mk, endK_mk', add_0]
        refine BR_bool (fun h3 => ?_) (fun h3 => ?_)
        · have hm := man_mem_iff.1 (of_decide_eq_true h3)
          refine skip h0 ?_ _ (Ext.refl _)
          have : freeG b j = false := by unfold freeG tkF; rw [decide_eq_true hm]; rfl
          rw [this]; rfl
        · have hm : ¬ some j ∈ b := fun hm => (of_decide_eq_false h3) (man_mem_iff.2 hm)
          have hf : freeG b j = true := by unfold freeG tkF; rw [decide_eq_false hm]; rfl
          refine ⟨_, _, _, o1t, _, _, _, o2t, ?_⟩
          refine f_can (hx.ext est) (hy.ext est) (by omega) hbz fun t1 f1 => ?_
          try simp only [TUP_mk, AGG_mk, HD_mk, NL_mk, TYI_mk, TYB_mk, TYP_mk, TYL_mk, TYS_mk, TYM_mk, SO_mk, NX_mk, endK_mk, endK_mk', add_0]
          cases hcan : canP T j b.length with
          | true => exact try1 (some j) rfl (fun hh => by omega) (fun _ => ⟨rfl, by rw [hf, hcan]; rfl⟩) t1 f1
          | false => exact skip h0 (by rw [hf, hcan]; rfl) t1 f1
      · have h0 : k = 0 := by omega
        subst h0
        exact try1 none rfl (fun _ => rfl) (fun hh => by omega) _ (Ext.refl _)
    · have hkn : k = T.n + 1 := by omega
      subst hkn
      obtain ⟨g1, g2⟩ := hres (by omega)
      subst g1
      have := h t x14 c16 eut (by
        have e : T.n + 1 - 1 = T.n := by omega
        rw [e, stG_full] at g2
        exact g2)
      exact this
theorem f_Most {x y : Option Addr} {c c' : Nat} (hx : MnAt s x T.men) (hy : PzAt s y T.list) (h : ∀ s' q cq, Ext s s' → RowAt s' q (ints (mostR T).2.1) → K (.tuple #[.int .i64 (mostR T).1, .slice q (mostR T).2.1.length cq, .int .i64 (mostR T).2.2]) s') :
    CALL Pg W F_ref13_Most [.agg #[.slice x T.n c, .slice y T.z c']] K E s := by
  refine does_ref13_Most W x T.n c y T.z c' _ s ?_
  unfold T_ref13_Most
  refine ne2 fun s1 e1 z1 o1 o2 => ?_
  refine ⟨_, _, _, o1.cell, _, _, _, o2.cell, ?_⟩
  refine f_check (hx.ext e1) (hy.ext e1) fun s2 e2 => ?_
  try simp only [TUP_mk, AGG_mk, HD_mk, NL_mk, TYI_mk, TYB_mk, TYP_mk, TYL_mk, TYS_mk, TYM_mk, SO_mk, NX_mk, endK_mk, endK_mk', add_0]
  have e02 := e1.trans e2
  cases hok : okP T with
  | false =>
    refine BR_ne (fun _ => ?_) (fun h3 => by cases h3)
    have := h s2 none 0 e02
    unfold mostR at this
    rw [hok] at this
    exact this (fun i hi => by simp [ints] at hi)
  | true =>
    have hv := okP_vd hok
    have h6 := hv.z6
    refine BR_ne (fun h3 => absurd rfl h3) (fun _ => ?_)
    refine ⟨_, _, _, e2.cell o1.cell, _, _, _, e2.cell o2.cell, ?_⟩
    refine f_most (b := []) hok (hx.ext e02) (hy.ext e02) T.z s2 none 0 _ _ (by simp) (Ext.refl _) (fun i hi => by simp [ints, manL] at hi) fun s3 w cw e3 hr => ?_
    try simp only [TUP_mk, AGG_mk, HD_mk, NL_mk, TYI_mk, TYB_mk, TYP_mk, TYL_mk, TYS_mk, TYM_mk, SO_mk, NX_mk, endK_mk, endK_mk', add_0]
    rw [freeG_nil, List.nil_append] at hr
    have hlen : T.z = (manL (bestG T T.z 0 allF)).length := by unfold manL; simp [bestG_len]
    have hr' : RowAt s3 w (ints (manL (bestG T T.z 0 allF))) := hr
    refine f_Many hr' hlen (by omega) ?_
    try simp only [TUP_mk, AGG_mk, HD_mk, NL_mk, TYI_mk, TYB_mk, TYP_mk, TYL_mk, TYS_mk, TYM_mk, SO_mk, NX_mk, endK_mk, endK_mk', add_0]
    rw [cntG_man, bestG_many]
    have := h s3 w cw (e02.trans e3)
    unfold mostR at this
    rw [if_pos hok] at this
    have := this hr'
    rw [← hlen] at this
    exact this
end
end Go.Proofs.Ytfaeokcbfnlgbaa.G

/- More of the functions' shallow texts, by gen.py. -/
set_option linter.unusedVariables false
set_option maxRecDepth 100000
namespace Go.Proofs.Ytfaeokcbfnlgbaa.G
open Go.V
def an_8 : Nat → Ann := fun b => match b with
  | 0 => { ms := [4, 113], ks := [.b, .i .i64], us := [5, 6, 111, 112, 153], rt := false, ex := [] }
  | 2 => { ms := [4, 124], ks := [.b, .i .i64], us := [5, 6, 14, 15, 111, 112, 113, 123, 153], rt := false, ex := [] }
  | _ => {}
abbrev rv_8 : List ResultVar := [.tmp 4]
abbrev rs_8 : List Nat := [153, 4]
def L_law13_PrizeMost_0 (W : World) (R : Ending → Hp → Prop) (zn0 : Int) (zp1 : Option Addr) (zl2 : Nat) (zl3 : Nat) (za4 : Addr) (b130 : Bool) (n131 : Int) : Hp → Prop :=
  LOOPN [.b, .i .i64] (fun ys next s => ∀ j : Tm, vc Pg W 153 rs_8 an_8 false (sub (bodyOf Try.f8) [1, 1, 1, 1, 1, 1, 1, 0, 1, 0, 0]) 0 (KLoop [4, 113] [5, 6, 111, 112, 153] [(.int .i64 zn0), (.slice zp1 zl2 zl3), (.slice (some za4) 2 2), (.int .i64 2), (.tuple #[])] next (KBlk 0 (KS Pg W 153 rs_8 an_8 false (sub (bodyOf Try.f8) [1, 1, 1, 1, 1, 1, 1, 1]) 0 (fin Pg W 153 rv_8 R)))) (known [4, 113] ys (known [5, 6, 111, 112, 153] [(.int .i64 zn0), (.slice zp1 zl2 zl3), (.slice (some za4) 2 2), (.int .i64 2), (.tuple #[])] j)) s) [(.bool b130), (.int .i64 n131)]
def L_law13_PrizeMost_1 (W : World) (R : Ending → Hp → Prop) (nx0 : List Value → Hp → Prop) (zn0 : Int) (zp1 : Option Addr) (zl2 : Nat) (zl3 : Nat) (zp4 : Option Addr) (zl5 : Nat) (zl6 : Nat) (zn7 : Int) (za8 : Addr) (zn9 : Int) (zn10 : Int) (b142 : Bool) (n143 : Int) : Hp → Prop :=
  LOOPN [.b, .i .i64] (fun ys next s => ∀ j : Tm, vc Pg W 153 rs_8 an_8 false (sub (bodyOf Try.f8) [1, 1, 1, 1, 1, 1, 1, 0, 1, 0, 0, 1, 1, 0, 0, 1, 1, 1, 1, 0, 0]) 2 (KLoop [4, 124] [5, 6, 14, 15, 111, 112, 113, 123, 153] [(.int .i64 zn0), (.slice zp1 zl2 zl3), (.slice zp4 zl5 zl6), (.int .i64 zn7), (.slice (some za8) 2 2), (.int .i64 2), (.int .i64 zn9), (.int .i64 zn10), (.tuple #[])] next (KBlk 2 (KBlk 1 (KS Pg W 153 rs_8 an_8 false (sub (bodyOf Try.f8) [1, 1, 1, 1, 1, 1, 1, 0, 1, 0, 0, 1, 1, 1]) 0 (KLoop [4, 113] [5, 6, 111, 112, 153] [(.int .i64 zn0), (.slice zp1 zl2 zl3), (.slice (some za8) 2 2), (.int .i64 2), (.tuple #[])] nx0 (KBlk 0 (KS Pg W 153 rs_8 an_8 false (sub (bodyOf Try.f8) [1, 1, 1, 1, 1, 1, 1, 1]) 0 (fin Pg W 153 rv_8 R)))))))) (known [4, 124] ys (known [5, 6, 14, 15, 111, 112, 113, 123, 153] [(.int .i64 zn0), (.slice zp1 zl2 zl3), (.slice zp4 zl5 zl6), (.int .i64 zn7), (.slice (some za8) 2 2), (.int .i64 2), (.int .i64 zn9), (.int .i64 zn10), (.tuple #[])] j)) s) [(.bool b142), (.int .i64 n143)]
def J_law13_PrizeMost_0 (W : World) (R : Ending → Hp → Prop) (b99 : Bool) (B10 : Nat) (x7 : Option Addr) (l8 : Nat) (c9 : Nat) (x86 : Option Addr) (l87 : Nat) (c88 : Nat) (n34 : Int) (x37 : Option Addr) (l38 : Nat) (c39 : Nat) : Hp → Prop :=
  BR b99
    (R (.returned (.bool false)))
    (RDL (Addr.add ⟨B10, 0, none⟩ 0) fun x100 l101 c102 =>
      RDL (Addr.add ⟨B10, 0, none⟩ 1) fun x103 l104 c105 =>
        CALL Pg W F_law13_made [(.agg #[(.slice x100 l101 c102), (.slice x103 l104 c105)]), (.slice x7 l8 c9), (.bool true)]
          (fun v106 => TYL v106 fun x108 l109 c110 =>
            NEW 26 [(.slice x108 l109 c110), (.slice x86 l87 c88)] fun B111 =>
              L_law13_PrizeMost_0 W R n34 x37 l38 c39 ⟨B111, 0, none⟩ false 0)
            (fun e107 => R (.panicked e107)))
def J_law13_PrizeMost_1 (W : World) (R : Ending → Hp → Prop) (b98 : Bool) (B10 : Nat) (x7 : Option Addr) (l8 : Nat) (c9 : Nat) (x86 : Option Addr) (l87 : Nat) (c88 : Nat) (n34 : Int) (x37 : Option Addr) (l38 : Nat) (c39 : Nat) : Hp → Prop :=
  BR b98
    (J_law13_PrizeMost_0 W R true B10 x7 l8 c9 x86 l87 c88 n34 x37 l38 c39)
    (RDL (Addr.add ⟨B10, 0, none⟩ 1) fun x112 l113 c114 =>
      J_law13_PrizeMost_0 W R (decide (n34 > (↑l113 : Int))) B10 x7 l8 c9 x86 l87 c88 n34 x37 l38 c39)
def J_law13_PrizeMost_2 (W : World) (R : Ending → Hp → Prop) (b97 : Bool) (B10 : Nat) (x7 : Option Addr) (l8 : Nat) (c9 : Nat) (x86 : Option Addr) (l87 : Nat) (c88 : Nat) (n34 : Int) (x37 : Option Addr) (l38 : Nat) (c39 : Nat) : Hp → Prop :=
  BR b97
    (J_law13_PrizeMost_1 W R true B10 x7 l8 c9 x86 l87 c88 n34 x37 l38 c39)
    (RDL (Addr.add ⟨B10, 0, none⟩ 0) fun x115 l116 c117 =>
      J_law13_PrizeMost_1 W R (decide (n34 > (↑l116 : Int))) B10 x7 l8 c9 x86 l87 c88 n34 x37 l38 c39)
def J_law13_PrizeMost_3 (W : World) (R : Ending → Hp → Prop) (b96 : Bool) (B10 : Nat) (x7 : Option Addr) (l8 : Nat) (c9 : Nat) (x86 : Option Addr) (l87 : Nat) (c88 : Nat) (n34 : Int) (x37 : Option Addr) (l38 : Nat) (c39 : Nat) : Hp → Prop :=
  BR b96
    (J_law13_PrizeMost_2 W R true B10 x7 l8 c9 x86 l87 c88 n34 x37 l38 c39)
    (CALL Pg W F_ref13_Many [(.slice x86 l87 c88)]
      (fun v118 => TYI .i64 v118 fun n120 =>
        J_law13_PrizeMost_2 W R (decide (n120 > n34)) B10 x7 l8 c9 x86 l87 c88 n34 x37 l38 c39)
        (fun e119 => R (.panicked e119)))
def J_law13_PrizeMost_4 (W : World) (R : Ending → Hp → Prop) (b95 : Bool) (B10 : Nat) (x7 : Option Addr) (l8 : Nat) (c9 : Nat) (x86 : Option Addr) (l87 : Nat) (c88 : Nat) (n34 : Int) (x37 : Option Addr) (l38 : Nat) (c39 : Nat) : Hp → Prop :=
  BR b95
    (J_law13_PrizeMost_3 W R true B10 x7 l8 c9 x86 l87 c88 n34 x37 l38 c39)
    (CALL Pg W F_ref13_Many [(.slice x37 l38 c39)]
      (fun v121 => TYI .i64 v121 fun n123 =>
        J_law13_PrizeMost_3 W R (n123 != n34) B10 x7 l8 c9 x86 l87 c88 n34 x37 l38 c39)
        (fun e122 => R (.panicked e122)))
def J_law13_PrizeMost_5 (W : World) (R : Ending → Hp → Prop) (b94 : Bool) (B10 : Nat) (x7 : Option Addr) (l8 : Nat) (c9 : Nat) (x86 : Option Addr) (l87 : Nat) (c88 : Nat) (n34 : Int) (x37 : Option Addr) (l38 : Nat) (c39 : Nat) : Hp → Prop :=
  BR b94
    (J_law13_PrizeMost_4 W R true B10 x7 l8 c9 x86 l87 c88 n34 x37 l38 c39)
    (RDL (Addr.add ⟨B10, 0, none⟩ 1) fun x124 l125 c126 =>
      J_law13_PrizeMost_4 W R ((↑l87 : Int) != (↑l125 : Int)) B10 x7 l8 c9 x86 l87 c88 n34 x37 l38 c39)
def J_law13_PrizeMost_6 (W : World) (R : Ending → Hp → Prop) (b93 : Bool) (B10 : Nat) (x7 : Option Addr) (l8 : Nat) (c9 : Nat) (x86 : Option Addr) (l87 : Nat) (c88 : Nat) (n34 : Int) (x37 : Option Addr) (l38 : Nat) (c39 : Nat) : Hp → Prop :=
  BR b93
    (J_law13_PrizeMost_5 W R true B10 x7 l8 c9 x86 l87 c88 n34 x37 l38 c39)
    (RDL (Addr.add ⟨B10, 0, none⟩ 1) fun x127 l128 c129 =>
      J_law13_PrizeMost_5 W R ((↑l38 : Int) != (↑l128 : Int)) B10 x7 l8 c9 x86 l87 c88 n34 x37 l38 c39)
def J_law13_PrizeMost_7 (W : World) (R : Ending → Hp → Prop) (b92 : Bool) (B10 : Nat) (x7 : Option Addr) (l8 : Nat) (c9 : Nat) (x86 : Option Addr) (l87 : Nat) (c88 : Nat) (n34 : Int) (x37 : Option Addr) (l38 : Nat) (c39 : Nat) (n91 : Int) : Hp → Prop :=
  BR b92
    (J_law13_PrizeMost_6 W R true B10 x7 l8 c9 x86 l87 c88 n34 x37 l38 c39)
    (J_law13_PrizeMost_6 W R (n91 != 0) B10 x7 l8 c9 x86 l87 c88 n34 x37 l38 c39)
def J_law13_PrizeMost_8 (W : World) (R : Ending → Hp → Prop) (b152 : Bool) (zn0 : Int) (zp1 : Option Addr) (zl2 : Nat) (zl3 : Nat) (za8 : Addr) (nx0 : List Value → Hp → Prop) (b142 : Bool) (zn9 : Int) : Hp → Prop :=
  BR b152
    (R (.returned (.bool false)))
    (NX [(.int .i64 zn0), (.slice zp1 zl2 zl3), (.slice (some za8) 2 2), (.int .i64 2), (.tuple #[])] [(.int .i64 zn0), (.slice zp1 zl2 zl3), (.slice (some za8) 2 2), (.int .i64 2), (.tuple #[])] (nx0 [(.bool b142), (.int .i64 (IntKind.wrap .i64 (zn9 + 1)))]))
def B_law13_PrizeMost_0 (W : World) (R : Ending → Hp → Prop) (zn0 : Int) (zp1 : Option Addr) (zl2 : Nat) (zl3 : Nat) (za4 : Addr) (b130 : Bool) (n131 : Int) (nx0 : List Value → Hp → Prop) : Hp → Prop :=
  BR (decide (n131 < 2))
    (IXS (some za4) 2 n131 1 fun a132 =>
      RDL a132 fun x133 l134 c135 =>
        CALL Pg W F_ref13_Many [(.slice x133 l134 c135)]
          (fun v136 => TYI .i64 v136 fun n138 =>
            BR (decide (n138 > zn0))
              (R (.returned (.bool false)))
              (L_law13_PrizeMost_1 W R nx0 zn0 zp1 zl2 zl3 x133 l134 c135 n138 za4 n131 (↑l134 : Int) b130 0))
            (fun e137 => R (.panicked e137)))
    (CALL Pg W F_law13_awake []
      (fun v139 => TYB v139 fun b141 =>
        R (.returned (.bool b141)))
        (fun e140 => R (.panicked e140)))
theorem B_law13_PrizeMost_0_eq (W : World) (R : Ending → Hp → Prop) (zn0 : Int) (zp1 : Option Addr) (zl2 : Nat) (zl3 : Nat) (za4 : Addr) (b130 : Bool) (n131 : Int) (nx0 : List Value → Hp → Prop) (j : Tm) : vc Pg W 153 rs_8 an_8 false (sub (bodyOf Try.f8) [1, 1, 1, 1, 1, 1, 1, 0, 1, 0, 0]) 0 (KLoop [4, 113] [5, 6, 111, 112, 153] [(.int .i64 zn0), (.slice zp1 zl2 zl3), (.slice (some za4) 2 2), (.int .i64 2), (.tuple #[])] nx0 (KBlk 0 (KS Pg W 153 rs_8 an_8 false (sub (bodyOf Try.f8) [1, 1, 1, 1, 1, 1, 1, 1]) 0 (fin Pg W 153 rv_8 R)))) (known [4, 113] [(.bool b130), (.int .i64 n131)] (known [5, 6, 111, 112, 153] [(.int .i64 zn0), (.slice zp1 zl2 zl3), (.slice (some za4) 2 2), (.int .i64 2), (.tuple #[])] j)) = B_law13_PrizeMost_0 W R zn0 zp1 zl2 zl3 za4 b130 n131 nx0 := by kernel_rfl
def N_law13_PrizeMost_0 (I : Bool → Int → Hp → Prop) (μ : Bool → Int → Hp → Nat) (b1300 : Bool) (n1310 : Int) (s : Hp) (vs : List Value) : Hp → Prop := fun s' => ∃ b130 n131, vs = [(.bool b130), (.int .i64 n131)] ∧ I b130 n131 s' ∧ μ b130 n131 s' < μ b1300 n1310 s
theorem L_law13_PrizeMost_0_rule (W : World) (R : Ending → Hp → Prop) (zn0 : Int) (zp1 : Option Addr) (zl2 : Nat) (zl3 : Nat) (za4 : Addr) (I : Bool → Int → Hp → Prop) (μ : Bool → Int → Hp → Nat) (b1300 : Bool) (n1310 : Int) (s : Hp) (h0 : I b1300 n1310 s)
    (hr : ∀ (b130 : Bool) (n131 : Int) (s : Hp), I b130 n131 s → B_law13_PrizeMost_0 W R zn0 zp1 zl2 zl3 za4 b130 n131 (fun vs => N_law13_PrizeMost_0 I μ b130 n131 s vs) s) : L_law13_PrizeMost_0 W R zn0 zp1 zl2 zl3 za4 b1300 n1310 s := by
  refine ⟨fun vs s => ∃ b130 n131, vs = [(.bool b130), (.int .i64 n131)] ∧ I b130 n131 s, fun vs s => (match vs with | [.bool b130, .int _ n131] => μ b130 n131 s | _ => 0), ⟨⟨⟨_, rfl⟩, ⟨⟨_, rfl⟩, trivial⟩⟩, ⟨_, _, rfl, h0⟩⟩, ?_⟩
  intro b130 n131 s hI j
  obtain ⟨b130', n131', hy, hI⟩ := hI
  have hI' : I b130 n131 s := by cases hy; exact hI
  have hh := hr b130 n131 s hI'
  rw [← B_law13_PrizeMost_0_eq W R zn0 zp1 zl2 zl3 za4 b130 n131 _ j] at hh
  refine vc_mono ?_ _ _ hh
  exact KLoop_mono (fun vs s' h => by obtain ⟨b1301, n1311, rfl, h1, h2⟩ := h; exact ⟨⟨⟨_, rfl⟩, ⟨⟨_, rfl⟩, trivial⟩⟩, ⟨_, _, rfl, h1⟩, h2⟩)
def B_law13_PrizeMost_1 (W : World) (R : Ending → Hp → Prop) (nx0 : List Value → Hp → Prop) (zn0 : Int) (zp1 : Option Addr) (zl2 : Nat) (zl3 : Nat) (zp4 : Option Addr) (zl5 : Nat) (zl6 : Nat) (zn7 : Int) (za8 : Addr) (zn9 : Int) (zn10 : Int) (b142 : Bool) (n143 : Int) (nx1 : List Value → Hp → Prop) : Hp → Prop :=
  BR (decide (n143 < zn10))
    (IXS zp4 zl5 n143 1 fun a144 =>
      RDI .i64 a144 fun n145 =>
        IXS zp1 zl2 n143 1 fun a146 =>
          RDI .i64 a146 fun n147 =>
            BR (n145 != n147)
              (BR (zn7 == zn0)
                (IXS zp4 zl5 n143 1 fun a148 =>
                  RDI .i64 a148 fun n149 =>
                    IXS zp1 zl2 n143 1 fun a150 =>
                      RDI .i64 a150 fun n151 =>
                        J_law13_PrizeMost_8 W R (decide (n149 < n151)) zn0 zp1 zl2 zl3 za8 nx0 b142 zn9)
                (J_law13_PrizeMost_8 W R false zn0 zp1 zl2 zl3 za8 nx0 b142 zn9))
              (NX [(.int .i64 zn0), (.slice zp1 zl2 zl3), (.slice zp4 zl5 zl6), (.int .i64 zn7), (.slice (some za8) 2 2), (.int .i64 2), (.int .i64 zn9), (.int .i64 zn10), (.tuple #[])] [(.int .i64 zn0), (.slice zp1 zl2 zl3), (.slice zp4 zl5 zl6), (.int .i64 zn7), (.slice (some za8) 2 2), (.int .i64 2), (.int .i64 zn9), (.int .i64 zn10), (.tuple #[])] (nx1 [(.bool b142), (.int .i64 (IntKind.wrap .i64 (n143 + 1)))])))
    (NX [(.int .i64 zn0), (.slice zp1 zl2 zl3), (.slice (some za8) 2 2), (.int .i64 2), (.tuple #[])] [(.int .i64 zn0), (.slice zp1 zl2 zl3), (.slice (some za8) 2 2), (.int .i64 2), (.tuple #[])] (nx0 [(.bool b142), (.int .i64 (IntKind.wrap .i64 (zn9 + 1)))]))
theorem B_law13_PrizeMost_1_eq (W : World) (R : Ending → Hp → Prop) (nx0 : List Value → Hp → Prop) (zn0 : Int) (zp1 : Option Addr) (zl2 : Nat) (zl3 : Nat) (zp4 : Option Addr) (zl5 : Nat) (zl6 : Nat) (zn7 : Int) (za8 : Addr) (zn9 : Int) (zn10 : Int) (b142 : Bool) (n143 : Int) (nx1 : List Value → Hp → Prop) (j : Tm) : vc Pg W 153 rs_8 an_8 false (sub (bodyOf Try.f8) [1, 1, 1, 1, 1, 1, 1, 0, 1, 0, 0, 1, 1, 0, 0, 1, 1, 1, 1, 0, 0]) 2 (KLoop [4, 124] [5, 6, 14, 15, 111, 112, 113, 123, 153] [(.int .i64 zn0), (.slice zp1 zl2 zl3), (.slice zp4 zl5 zl6), (.int .i64 zn7), (.slice (some za8) 2 2), (.int .i64 2), (.int .i64 zn9), (.int .i64 zn10), (.tuple #[])] nx1 (KBlk 2 (KBlk 1 (KS Pg W 153 rs_8 an_8 false (sub (bodyOf Try.f8) [1, 1, 1, 1, 1, 1, 1, 0, 1, 0, 0, 1, 1, 1]) 0 (KLoop [4, 113] [5, 6, 111, 112, 153] [(.int .i64 zn0), (.slice zp1 zl2 zl3), (.slice (some za8) 2 2), (.int .i64 2), (.tuple #[])] nx0 (KBlk 0 (KS Pg W 153 rs_8 an_8 false (sub (bodyOf Try.f8) [1, 1, 1, 1, 1, 1, 1, 1]) 0 (fin Pg W 153 rv_8 R)))))))) (known [4, 124] [(.bool b142), (.int .i64 n143)] (known [5, 6, 14, 15, 111, 112, 113, 123, 153] [(.int .i64 zn0), (.slice zp1 zl2 zl3), (.slice zp4 zl5 zl6), (.int .i64 zn7), (.slice (some za8) 2 2), (.int .i64 2), (.int .i64 zn9), (.int .i64 zn10), (.tuple #[])] j)) = B_law13_PrizeMost_1 W R nx0 zn0 zp1 zl2 zl3 zp4 zl5 zl6 zn7 za8 zn9 zn10 b142 n143 nx1 := by kernel_rfl
def N_law13_PrizeMost_1 (I : Bool → Int → Hp → Prop) (μ : Bool → Int → Hp → Nat) (b1420 : Bool) (n1430 : Int) (s : Hp) (vs : List Value) : Hp → Prop := fun s' => ∃ b142 n143, vs = [(.bool b142), (.int .i64 n143)] ∧ I b142 n143 s' ∧ μ b142 n143 s' < μ b1420 n1430 s
theorem L_law13_PrizeMost_1_rule (W : World) (R : Ending → Hp → Prop) (nx0 : List Value → Hp → Prop) (zn0 : Int) (zp1 : Option Addr) (zl2 : Nat) (zl3 : Nat) (zp4 : Option Addr) (zl5 : Nat) (zl6 : Nat) (zn7 : Int) (za8 : Addr) (zn9 : Int) (zn10 : Int) (I : Bool → Int → Hp → Prop) (μ : Bool → Int → Hp → Nat) (b1420 : Bool) (n1430 : Int) (s : Hp) (h0 : I b1420 n1430 s)
    (hr : ∀ (b142 : Bool) (n143 : Int) (s : Hp), I b142 n143 s → B_law13_PrizeMost_1 W R nx0 zn0 zp1 zl2 zl3 zp4 zl5 zl6 zn7 za8 zn9 zn10 b142 n143 (fun vs => N_law13_PrizeMost_1 I μ b142 n143 s vs) s) : L_law13_PrizeMost_1 W R nx0 zn0 zp1 zl2 zl3 zp4 zl5 zl6 zn7 za8 zn9 zn10 b1420 n1430 s := by
  refine ⟨fun vs s => ∃ b142 n143, vs = [(.bool b142), (.int .i64 n143)] ∧ I b142 n143 s, fun vs s => (match vs with | [.bool b142, .int _ n143] => μ b142 n143 s | _ => 0), ⟨⟨⟨_, rfl⟩, ⟨⟨_, rfl⟩, trivial⟩⟩, ⟨_, _, rfl, h0⟩⟩, ?_⟩
  intro b142 n143 s hI j
  obtain ⟨b142', n143', hy, hI⟩ := hI
  have hI' : I b142 n143 s := by cases hy; exact hI
  have hh := hr b142 n143 s hI'
  rw [← B_law13_PrizeMost_1_eq W R nx0 zn0 zp1 zl2 zl3 zp4 zl5 zl6 zn7 za8 zn9 zn10 b142 n143 _ j] at hh
  refine vc_mono ?_ _ _ hh
  exact KLoop_mono (fun vs s' h => by obtain ⟨b1421, n1431, rfl, h1, h2⟩ := h; exact ⟨⟨⟨_, rfl⟩, ⟨⟨_, rfl⟩, trivial⟩⟩, ⟨_, _, rfl, h1⟩, h2⟩)
def T_law13_PrizeMost (W : World) (x1 : Option Addr) (l2 : Nat) (c3 : Nat) (x4 : Option Addr) (l5 : Nat) (c6 : Nat) (x7 : Option Addr) (l8 : Nat) (c9 : Nat) (R : Ending → Hp → Prop) : Hp → Prop :=
  NEW 25 [(.slice x1 l2 c3), (.slice x4 l5 c6)] fun B10 =>
    RDL (Addr.add ⟨B10, 0, none⟩ 0) fun x11 l12 c13 =>
      RDL (Addr.add ⟨B10, 0, none⟩ 1) fun x14 l15 c16 =>
        CALL Pg W F_law13_far [(.agg #[(.slice x11 l12 c13), (.slice x14 l15 c16)]), (.slice none 0 0)]
          (fun v17 => TYB v17 fun b19 =>
            BR b19
              (CALL Pg W F_law13_awake []
                (fun v20 => TYB v20 fun b22 =>
                  R (.returned (.bool b22)))
                  (fun e21 => R (.panicked e21)))
              (RDL (Addr.add ⟨B10, 0, none⟩ 0) fun x23 l24 c25 =>
                RDL (Addr.add ⟨B10, 0, none⟩ 1) fun x26 l27 c28 =>
                  CALL Pg W F_prize_Most [(.agg #[(.slice x23 l24 c25), (.slice x26 l27 c28)])]
                    (fun v29 => TUP v29 fun q31 => HD q31 fun v32 r33 => TYI .i64 v32 fun n34 =>
                      HD r33 fun v35 r36 => TYL v35 fun x37 l38 c39 =>
                        HD r36 fun v40 r41 => TYI .i64 v40 fun n42 =>
                          NL r41 <|
                            RDL (Addr.add ⟨B10, 0, none⟩ 0) fun x43 l44 c45 =>
                              RDL (Addr.add ⟨B10, 0, none⟩ 1) fun x46 l47 c48 =>
                                CALL Pg W F_ref13_Prizes [(.agg #[(.slice x43 l44 c45), (.slice x46 l47 c48)])]
                                  (fun v49 => TYB v49 fun b51 =>
                                    BR (!b51)
                                      (BR (n42 == 1)
                                        (BR (n34 == 0)
                                          (BR ((↑l38 : Int) == 0)
                                            (CALL Pg W F_law13_awake []
                                              (fun v52 => TYB v52 fun b54 =>
                                                R (.returned (.bool b54)))
                                                (fun e53 => R (.panicked e53)))
                                            (R (.returned (.bool false))))
                                          (R (.returned (.bool false))))
                                        (R (.returned (.bool false))))
                                      (RDL (Addr.add ⟨B10, 0, none⟩ 0) fun x55 l56 c57 =>
                                        RDL (Addr.add ⟨B10, 0, none⟩ 1) fun x58 l59 c60 =>
                                          CALL Pg W F_prize_Worth [(.agg #[(.slice x55 l56 c57), (.slice x58 l59 c60)]), (.slice x37 l38 c39)]
                                            (fun v61 => TUP v61 fun q63 => HD q63 fun v64 r65 => TYL v64 fun x66 l67 c68 =>
                                              HD r65 fun v69 r70 => TYI .i64 v69 fun n71 =>
                                                HD r70 fun v72 r73 => TYI .i64 v72 fun n74 =>
                                                  NL r73 <|
                                                    RDL (Addr.add ⟨B10, 0, none⟩ 0) fun x75 l76 c77 =>
                                                      RDL (Addr.add ⟨B10, 0, none⟩ 1) fun x78 l79 c80 =>
                                                        CALL Pg W F_prize_Due [(.agg #[(.slice x75 l76 c77), (.slice x78 l79 c80)])]
                                                          (fun v81 => TUP v81 fun q83 => HD q83 fun v84 r85 => TYL v84 fun x86 l87 c88 =>
                                                            HD r85 fun v89 r90 => TYI .i64 v89 fun n91 =>
                                                              NL r90 <|
                                                                BR (n42 != 0)
                                                                  (J_law13_PrizeMost_7 W R true B10 x7 l8 c9 x86 l87 c88 n34 x37 l38 c39 n91)
                                                                  (J_law13_PrizeMost_7 W R (n74 != 0) B10 x7 l8 c9 x86 l87 c88 n34 x37 l38 c39 n91))
                                                            (fun e82 => R (.panicked e82)))
                                              (fun e62 => R (.panicked e62))))
                                    (fun e50 => R (.panicked e50)))
                      (fun e30 => R (.panicked e30))))
            (fun e18 => R (.panicked e18))
theorem T_law13_PrizeMost_eq (W : World) (x1 : Option Addr) (l2 : Nat) (c3 : Nat) (x4 : Option Addr) (l5 : Nat) (c6 : Nat) (x7 : Option Addr) (l8 : Nat) (c9 : Nat) (R : Ending → Hp → Prop) : vfun Pg W an_8 Try.f8 [(.agg #[(.slice x1 l2 c3), (.slice x4 l5 c6)]), (.slice x7 l8 c9)] R = T_law13_PrizeMost W x1 l2 c3 x4 l5 c6 x7 l8 c9 R := by kernel_rfl
theorem does_law13_PrizeMost (W : World) (x1 : Option Addr) (l2 : Nat) (c3 : Nat) (x4 : Option Addr) (l5 : Nat) (c6 : Nat) (x7 : Option Addr) (l8 : Nat) (c9 : Nat) (R : Ending → Hp → Prop) (s : Hp) (h : T_law13_PrizeMost W x1 l2 c3 x4 l5 c6 x7 l8 c9 R s) : Does Pg W F_law13_PrizeMost #[(.agg #[(.slice x1 l2 c3), (.slice x4 l5 c6)]), (.slice x7 l8 c9)] s R :=
  does_of_vfun Pg W an_8 Try.func8 rfl (by kernel_rfl) (by rw [T_law13_PrizeMost_eq]; exact h)
end Go.Proofs.Ytfaeokcbfnlgbaa.G

/- The statement PrizeMost. -/
set_option linter.unusedSimpArgs false
set_option linter.unusedVariables false
set_option maxRecDepth 20000
namespace Go.Proofs.Ytfaeokcbfnlgbaa.G
open Go.V
def bestL (T : PT) : List (Option Nat) := bestG T T.z 0 allF
section
variable {W : World} {K : VK} {E : List PanicEntry → Hp → Prop} {s : Hp} {T : PT}
theorem c_MostV {x y : Option Addr} {c c' : Nat} (hok : okP T = true) (hx : MnAt s x T.men) (hy : PzAt s y T.list) (h : ∀ s' q cq, Ext s s' → Fr s.size s' q T.z cq 1 (ints (manL (bestL T))) → K (.tuple #[.int .i64 (many (bestL T) : Nat), .slice q T.z cq, .int .i64 0]) s') :
    CALL Pg W F_prize_Most [.agg #[.slice x T.n c, .slice y T.z c']] K E s := by
  refine c_Most hx hy fun s' q cq e f => ?_
  have hl : (manL (bestL T)).length = T.z := by unfold manL bestL; rw [List.length_map, bestG_len]
  have hD : mostR T = (((many (bestL T) : Nat) : Int), manL (bestL T), 0) := by
    unfold mostR
    rw [if_pos hok]
    unfold bestL
    rw [bestG_many]
  rw [hD] at f ⊢
  simp only [hl] at f ⊢
  exact h s' q cq e f
theorem c_MostN {x y : Option Addr} {c c' : Nat} (hok : okP T = false) (hx : MnAt s x T.men) (hy : PzAt s y T.list) (h : ∀ s' q cq, Ext s s' → K (.tuple #[.int .i64 0, .slice q 0 cq, .int .i64 1]) s') :
    CALL Pg W F_prize_Most [.agg #[.slice x T.n c, .slice y T.z c']] K E s := by
  refine c_Most hx hy fun s' q cq e f => ?_
  have hD : mostR T = (0, [], 1) := by unfold mostR; rw [hok]; rfl
  rw [hD]
  exact h s' q cq e
theorem w_PrizeMost {x y q : Option Addr} {c c' cq : Nat} {bs : List Nat} (hx : MnAt s x T.men) (hy : PzAt s y T.list) (hq : RowAt s q (bytes bs)) (h256 : ∀ b ∈ bs, b < 256) (h : ∀ s', Ext s s' → K (.bool true) s') :
    CALL Pg W F_law13_PrizeMost [.agg #[.slice x T.n c, .slice y T.z c'], .slice q bs.length cq] K E s := by
  refine does_law13_PrizeMost W x T.n c y T.z c' q bs.length cq _ s ?_
  unfold T_law13_PrizeMost
  refine ne2 fun s1 e1 z1 o1 o2 => ?_
  have c0 := o1.cell
  have c1 := o2.cell
  refine ⟨_, _, _, c0, _, _, _, c1, ?_⟩
  refine c_far fun s2 b e2 hb => ?_
  try simp only [TUP_mk, AGG_mk, HD_mk, NL_mk, TYI_mk, TYB_mk, TYP_mk, TYL_mk, TYS_mk, TYM_mk, SO_mk, NX_mk, endK_mk, endK_mk', add_0]
  refine BR_bool (fun _ => c_awake' e2 fun t et => h t (e1.trans et)) (fun hf => ?_)
  have rx : ∀ {t : Hp}, Ext s1 t → MnAt t x T.men := fun e => hx.ext (e1.trans e)
  have ry : ∀ {t : Hp}, Ext s1 t → PzAt t y T.list := fun e => hy.ext (e1.trans e)
  refine ⟨_, _, _, e2.cell c0, _, _, _, e2.cell c1, ?_⟩
  cases hok : okP T with
  | false =>
    refine c_MostN hok (rx e2) (ry e2) fun s3 w cw e3 => ?_
    try simp only [TUP_mk, AGG_mk, HD_mk, NL_mk, TYI_mk, TYB_mk, TYP_mk, TYL_mk, TYS_mk, TYM_mk, SO_mk, NX_mk, endK_mk, endK_mk', add_0]
    have g3 := e2.trans e3
    refine ⟨_, _, _, g3.cell c0, _, _, _, g3.cell c1, ?_⟩
    refine f_Prizes (rx g3) (ry g3) fun s4 e4 => ?_
    try simp only [TUP_mk, AGG_mk, HD_mk, NL_mk, TYI_mk, TYB_mk, TYP_mk, TYL_mk, TYS_mk, TYM_mk, SO_mk, NX_mk, endK_mk, endK_mk', add_0]
    rw [hok]
    refine BR_tt rfl ?_
    refine BR_tt rfl ?_
    refine BR_tt rfl ?_
    refine BR_tt rfl ?_
    exact c_awake' (g3.trans e4) fun t et => h t (e1.trans et)
  | true =>
    have hv := okP_vd hok
    have h8 := hv.n8
    have h6 := hv.z6
    obtain ⟨kb, cb⟩ := legit_okG (bestG_legit T T.z 0 allF)
    have lb : (bestL T).length = T.z := bestG_len T _ _ _
    have ld : (dueP T).length = T.z := dueL_len T T.z
    have lmb : (manL (bestL T)).length = T.z := by unfold manL; rw [List.length_map]; exact lb
    have kd := due_okG hv T.z
    have cd := due_canG hv
    have most : ∀ g, OkG T g → CanG T g → g.length = T.z → many g ≤ many (bestL T) := fun g h1 h2 h3 => by
      have := legit_le (okG_legit h1 h2)
      rw [h3] at this
      unfold bestL
      rw [bestG_many]; exact this
    refine c_MostV hok (rx e2) (ry e2) fun s3 w cw e3 f3 => ?_
    try simp only [TUP_mk, AGG_mk, HD_mk, NL_mk, TYI_mk, TYB_mk, TYP_mk, TYL_mk, TYS_mk, TYM_mk, SO_mk, NX_mk, endK_mk, endK_mk', add_0]
    have g3 := e2.trans e3
    refine ⟨_, _, _, g3.cell c0, _, _, _, g3.cell c1, ?_⟩
    refine f_Prizes (rx g3) (ry g3) fun s4 e4 => ?_
    try simp only [TUP_mk, AGG_mk, HD_mk, NL_mk, TYI_mk, TYB_mk, TYP_mk, TYL_mk, TYS_mk, TYM_mk, SO_mk, NX_mk, endK_mk, endK_mk', add_0]
    rw [hok]
    have g4 := g3.trans e4
    refine BR_ff rfl ?_
    refine ⟨_, _, _, g4.cell c0, _, _, _, g4.cell c1, ?_⟩
    refine c_WorthL lmb.symm (rx g4) (ry g4) (f3.row.ext e4) fun s5 v cv e5 f5 => ?_
    rw [worth_ok (g := bestL T) hok kb cb lb] at f5 ⊢
    try simp only [TUP_mk, AGG_mk, HD_mk, NL_mk, TYI_mk, TYB_mk, TYP_mk, TYL_mk, TYS_mk, TYM_mk, SO_mk, NX_mk, endK_mk, endK_mk', add_0]
    have g5 := g4.trans e5
    refine ⟨_, _, _, g5.cell c0, _, _, _, g5.cell c1, ?_⟩
    refine c_DueV hok (rx g5) (ry g5) fun s6 d cd' e6 f6 => ?_
    try simp only [TUP_mk, AGG_mk, HD_mk, NL_mk, TYI_mk, TYB_mk, TYP_mk, TYL_mk, TYS_mk, TYM_mk, SO_mk, NX_mk, endK_mk, endK_mk', add_0]
    have g6 := g5.trans e6
    have rl : ∀ {t : Hp}, Ext s6 t → RowAt t w (ints (manL (bestL T))) := fun e => f3.row.ext (e4.trans (e5.trans (e6.trans e)))
    have rd : ∀ {t : Hp}, Ext s6 t → RowAt t d (ints (manL (dueP T))) := fun e => f6.row.ext e
    refine BR_ff rfl ?_
    unfold J_law13_PrizeMost_7
    refine BR_ff rfl ?_
    unfold J_law13_PrizeMost_6
    refine BR_ff rfl ?_
    refine ⟨_, _, _, g6.cell c1, ?_⟩
    unfold J_law13_PrizeMost_5
    refine BR_ff (by simp) ?_
    refine ⟨_, _, _, g6.cell c1, ?_⟩
    unfold J_law13_PrizeMost_4
    refine BR_ff (by simp) ?_
    refine f_Many (rl (Ext.refl _)) lmb.symm (by omega) ?_
    try simp only [TUP_mk, AGG_mk, HD_mk, NL_mk, TYI_mk, TYB_mk, TYP_mk, TYL_mk, TYS_mk, TYM_mk, SO_mk, NX_mk, endK_mk, endK_mk', add_0]
    rw [cntG_man]
    unfold J_law13_PrizeMost_3
    refine BR_ff (by simp) ?_
    refine f_Many (rd (Ext.refl _)) (due_len T).symm (by rw [due_len]; omega) ?_
    try simp only [TUP_mk, AGG_mk, HD_mk, NL_mk, TYI_mk, TYB_mk, TYP_mk, TYL_mk, TYS_mk, TYM_mk, SO_mk, NX_mk, endK_mk, endK_mk', add_0]
    rw [cntG_man]
    unfold J_law13_PrizeMost_2
    have hmd := most (dueP T) kd cd ld
    refine BR_ff (decide_eq_false (by omega)) ?_
    refine ⟨_, _, _, g6.cell c0, ?_⟩
    have hnn := many_le_n kb
    have hnz : many (bestL T) ≤ T.z := by unfold bestL; rw [bestG_many]; exact opt_le T _ _ _
    unfold J_law13_PrizeMost_1
    refine BR_ff (decide_eq_false (by show ¬ ((many (bestL T) : Nat) : Int) > T.n; have : many (bestL T) ≤ T.n := hnn; omega)) ?_
    refine ⟨_, _, _, g6.cell c1, ?_⟩
    unfold J_law13_PrizeMost_0
    refine BR_ff (decide_eq_false (by omega)) ?_
    refine ⟨_, _, _, g6.cell c0, _, _, _, g6.cell c1, ?_⟩
    refine w_made hok (rx g6) (ry g6) (hq.ext (e1.trans g6)) h256 fun s7 u cu e7 f7 => ?_
    try simp only [TUP_mk, AGG_mk, HD_mk, NL_mk, TYI_mk, TYB_mk, TYP_mk, TYL_mk, TYS_mk, TYM_mk, SO_mk, NX_mk, endK_mk, endK_mk', add_0]
    refine ne2 fun s8 e8 z8 p1 p2 => ?_
    have e68 := e7.trans e8
    have g8 := g6.trans e68
    have km := made_okG T bs true T.z
    have cm : CanG T (madeL T bs true T.z) := made_can T bs T.z
    have lm := madeL_len T bs true T.z
    have get : ∀ i, i < 2 → ∀ t, Ext s8 t → ∃ g v cv, cellAt t ((⟨s7.size, 0, none⟩ : Addr).add (i * 1)) = some (.slice v T.z cv) ∧ RowAt t v (ints (manL g)) ∧ OkG T g ∧ CanG T g ∧ g.length = T.z := by
      intro i hi t et
      match i, hi with
      | 0, _ => exact ⟨_, u, cu, et.cell p1.cell, f7.row.ext (e8.trans et), km, cm, lm⟩
      | 1, _ => exact ⟨_, d, cd', et.cell p2.cell, rd (e68.trans et), kd, cd, ld⟩
    refine L_law13_PrizeMost_0_rule W _ (many (bestL T) : Nat) w T.z cw ⟨s7.size, 0, none⟩ (fun _ n131 t => Ext s8 t ∧ ∃ i : Nat, i ≤ 2 ∧ n131 = i) (fun _ n131 _ => ((2 : Int) - n131).toNat) false 0 s8 ⟨Ext.refl _, 0, by omega, rfl⟩ ?_
    rintro b130 n131 t ⟨et, i, hi, rfl⟩
    unfold B_law13_PrizeMost_0
    refine BR_dec (fun hlt => ?_) (fun hlt => ?_)
    · have hi2 : i < 2 := by omega
      obtain ⟨g, v, cv, hc, hr, hk, hcan, hlen⟩ := get i hi2 t et
      have lmg : (manL g).length = T.z := by unfold manL; rw [List.length_map]; exact hlen
      refine IXS_nat hi2 ?_
      refine ⟨_, _, _, hc, ?_⟩
      refine f_Many hr lmg.symm (by omega) ?_
      try simp only [TUP_mk, AGG_mk, HD_mk, NL_mk, TYI_mk, TYB_mk, TYP_mk, TYL_mk, TYS_mk, TYM_mk, SO_mk, NX_mk, endK_mk, endK_mk', add_0]
      rw [cntG_man]
      have hmg := most g hk hcan hlen
      refine BR_ff (decide_eq_false (by omega)) ?_
      generalize hnx : (fun vs => N_law13_PrizeMost_0 _ _ _ _ t vs) = nx
      have done : ∀ (b : Bool) (t' : Hp), Ext t t' → nx [.bool b, .int .i64 (IntKind.i64.wrap ((i : Int) + 1))] t' := fun b t' et' => by
        rw [← hnx]
        exact ⟨_, _, rfl, ⟨et.trans et', i + 1, by omega, wrap_succ (by omega)⟩, by rw [wrap_succ (by omega)]; show ((2 : Int) - ((i + 1 : Nat) : Int)).toNat < ((2 : Int) - (i : Int)).toNat; omega⟩
      refine L_law13_PrizeMost_1_rule W _ nx (many (bestL T) : Nat) w T.z cw v T.z cv (many g : Nat) ⟨s7.size, 0, none⟩ i T.z (fun _ n143 t' => t' = t ∧ ∃ k : Nat, k ≤ T.z ∧ n143 = k ∧ ∀ j, j < k → g.getD j none = (bestL T).getD j none) (fun _ n143 _ => ((T.z : Int) - n143).toNat) b130 0 t ⟨rfl, 0, by omega, rfl, fun j hj => by omega⟩ ?_
      rintro b142 n143 t' ⟨rfl, k, hk', rfl, hag⟩
      unfold B_law13_PrizeMost_1
      refine BR_dec (fun hlt2 => ?_) (fun hlt2 => ?_)
      · have hkz : k < T.z := by omega
        obtain ⟨a1, ha1, ca1⟩ := row_int hr (by omega : k < (manL g).length)
        obtain ⟨a2, ha2, ca2⟩ := row_int (rl (e68.trans et)) (by omega : k < (manL (bestL T)).length)
        rw [man_getD (by omega)] at ca1 ca2
        refine IXS_at ha1 hkz ?_
        refine ⟨_, ca1, ?_⟩
        refine IXS_at ha2 hkz ?_
        refine ⟨_, ca2, ?_⟩
        have J8 : J_law13_PrizeMost_8 W (endK K E) false (many (bestL T) : Nat) w T.z cw ⟨s7.size, 0, none⟩ nx b142 i t' := by
          unfold J_law13_PrizeMost_8
          refine BR_ff rfl ?_
          exact ⟨rfl, done _ _ (Ext.refl _)⟩
        refine BR_ne (fun hne => ?_) (fun heq => ?_)
        · refine BR_eq (fun hmm => ?_) (fun _ => J8)
          have hlex := bestG_lex T.z 0 allF g (by have := okG_legit hk hcan; rw [hlen] at this; exact this) (by rw [← bestG_many]; show many g = many (bestL T); omega) k hag
          refine IXS_at ha1 hkz ?_
          refine ⟨_, ca1, ?_⟩
          refine IXS_at ha2 hkz ?_
          refine ⟨_, ca2, ?_⟩
          have hd : decide (manI (g.getD k none) < manI ((bestL T).getD k none)) = false := decide_eq_false (by
            have : manI ((bestL T).getD k none) ≤ manI (g.getD k none) := hlex
            omega)
          show J_law13_PrizeMost_8 W (endK K E) (decide (manI (g.getD k none) < manI ((bestL T).getD k none))) _ _ _ _ _ _ _ _ t'
          rw [hd]
          exact J8
        · refine ⟨rfl, _, _, rfl, ⟨rfl, k + 1, hkz, wrap_succ (by omega), fun j hj => ?_⟩, ms_succ hkz (by omega)⟩
          by_cases e : j = k
          · subst e
            cases h1 : g.getD j none with
            | none =>
              rw [h1] at heq
              cases h2 : (bestL T).getD j none with
              | none => rfl
              | some m => rw [h2] at heq; have heq : (-1 : Int) = (m : Nat) := heq; omega
            | some m' =>
              rw [h1] at heq
              cases h2 : (bestL T).getD j none with
              | none => rw [h2] at heq; have heq : ((m' : Nat) : Int) = -1 := heq; omega
              | some m => rw [h2] at heq; have heq : ((m' : Nat) : Int) = (m : Nat) := heq; congr 1; omega
          · exact hag j (by omega)
      · exact ⟨rfl, done _ _ (Ext.refl _)⟩
    · exact c_awake' (g8.trans et) fun v ev => h v (e1.trans ev)
end
end Go.Proofs.Ytfaeokcbfnlgbaa.G

/- More of the functions' shallow texts, by gen.py. -/
set_option linter.unusedVariables false
set_option maxRecDepth 100000
namespace Go.Proofs.Ytfaeokcbfnlgbaa.G
open Go.V
def an_11 : Nat → Ann := fun b => match b with
  | 0 => { ms := [10, 157], ks := [.b, .i .i64], us := [5, 23, 155, 156, 218], rt := false, ex := [] }
  | _ => {}
abbrev rv_11 : List ResultVar := [.tmp 10]
abbrev rs_11 : List Nat := [218, 10]
def L_law13_PrizeEnd_0 (W : World) (R : Ending → Hp → Prop) (za0 : Addr) (zp1 : Option Addr) (zl2 : Nat) (zl3 : Nat) (zp4 : Option Addr) (zl5 : Nat) (zl6 : Nat) (zn7 : Int) (b231 : Bool) (n232 : Int) : Hp → Prop :=
  LOOPN [.b, .i .i64] (fun ys next s => ∀ j : Tm, vc Pg W 218 rs_11 an_11 false (sub (bodyOf Try.f11) [1, 1, 1, 1, 1, 1, 1, 1, 1, 1, 1, 1, 1, 0, 1, 0, 0]) 0 (KLoop [10, 157] [5, 23, 155, 156, 218] [(.pointer (some za0)), (.slice zp1 zl2 zl3), (.slice zp4 zl5 zl6), (.int .i64 zn7), (.tuple #[])] next (KBlk 0 (KS Pg W 218 rs_11 an_11 false (sub (bodyOf Try.f11) [1, 1, 1, 1, 1, 1, 1, 1, 1, 1, 1, 1, 1, 1]) 0 (fin Pg W 218 rv_11 R)))) (known [10, 157] ys (known [5, 23, 155, 156, 218] [(.pointer (some za0)), (.slice zp1 zl2 zl3), (.slice zp4 zl5 zl6), (.int .i64 zn7), (.tuple #[])] j)) s) [(.bool b231), (.int .i64 n232)]
def J_law13_PrizeEnd_0 (W : World) (R : Ending → Hp → Prop) (b176 : Bool) (B11 : Nat) (x170 : Option Addr) (l171 : Nat) (c172 : Nat) (x56 : Option Addr) (l57 : Nat) (c58 : Nat) : Hp → Prop :=
  BR b176
    (R (.returned (.bool false)))
    (L_law13_PrizeEnd_0 W R ⟨B11, 0, none⟩ x170 l171 c172 x56 l57 c58 (↑l57 : Int) false 0)
def J_law13_PrizeEnd_1 (W : World) (R : Ending → Hp → Prop) (B132 : Nat) (B11 : Nat) (x56 : Option Addr) (l57 : Nat) (c58 : Nat) : Hp → Prop :=
  RDL (Addr.add ⟨B132, 0, none⟩ 0) fun x159 l160 c161 =>
    RDL (Addr.add ⟨B132, 0, none⟩ 1) fun x162 l163 c164 =>
      CALL Pg W F_prize_Due [(.agg #[(.slice x159 l160 c161), (.slice x162 l163 c164)])]
        (fun v165 => TUP v165 fun q167 => HD q167 fun v168 r169 => TYL v168 fun x170 l171 c172 =>
          HD r169 fun v173 r174 => TYI .i64 v173 fun n175 =>
            NL r174 <|
              BR (n175 != 0)
                (J_law13_PrizeEnd_0 W R true B11 x170 l171 c172 x56 l57 c58)
                (J_law13_PrizeEnd_0 W R ((↑l171 : Int) != (↑l57 : Int)) B11 x170 l171 c172 x56 l57 c58))
          (fun e166 => R (.panicked e166))
def J_law13_PrizeEnd_2 (W : World) (R : Ending → Hp → Prop) (b125 : Bool) (B11 : Nat) (b9 : Bool) (b10 : Bool) (x56 : Option Addr) (l57 : Nat) (c58 : Nat) : Hp → Prop :=
  BR b125
    (R (.returned (.bool false)))
    (RDL (Addr.add ⟨B11, 0, none⟩ 0) fun x126 l127 c128 =>
      RDL (Addr.add ⟨B11, 0, none⟩ 1) fun x129 l130 c131 =>
        NEWZ Pg 25 fun B132 =>
          WR (Addr.add ⟨B132, 0, none⟩ 0) (.slice x126 l127 c128) <|
            WR (Addr.add ⟨B132, 0, none⟩ 1) (.slice x129 l130 c131) <|
              RDL (Addr.add ⟨B11, 0, none⟩ 0) fun x133 l134 c135 =>
                RDL (Addr.add ⟨B11, 0, none⟩ 0) fun x136 l137 c138 =>
                  CONJ [
                    NEW 48 [] fun B139 =>
                      ANDS (RDL (Addr.add ⟨B11, 0, none⟩ 0) fun x140 l141 c142 =>
                        fun _ => ((.slice x140 l141 c142) : Value) = (.slice x136 l137 c138)) <|
                        ANDS (RDL (Addr.add ⟨B11, 0, none⟩ 0) fun x143 l144 c145 =>
                          fun _ => ((.slice x143 l144 c145) : Value) = (.slice x133 l134 c135)) <|
                          CONJ [
                            APP Pg 48 4 (some ⟨B139, 0, none⟩) 0 0 x133 l134 fun x146 l147 c148 =>
                              ANDS (RDL (Addr.add ⟨B11, 0, none⟩ 0) fun x149 l150 c151 =>
                                fun _ => ((.slice x149 l150 c151) : Value) = (.slice x136 l137 c138)) <|
                                NEW 48 [(.int .i64 (IntKind.wrap .i64 ((↑l137 : Int) + 1))), (.int .i64 0), (.bool b9), (.bool b10)] fun B152 =>
                                  ANDS (RDL (Addr.add ⟨B11, 0, none⟩ 0) fun x153 l154 c155 =>
                                    fun _ => ((.slice x153 l154 c155) : Value) = (.slice x133 l134 c135)) <|
                                    APP Pg 48 4 x146 l147 c148 (some ⟨B152, 0, none⟩) 1 fun x156 l157 c158 =>
                                      WR (Addr.add (Addr.add ⟨B132, 0, none⟩ 0) 0) (.slice x156 l157 c158) <|
                                        J_law13_PrizeEnd_1 W R B132 B11 x56 l57 c58,
                            NEW 48 [(.int .i64 (IntKind.wrap .i64 ((↑l137 : Int) + 1))), (.int .i64 0), (.bool b9), (.bool b10)] fun B177 =>
                              ANDS (RDL (Addr.add ⟨B11, 0, none⟩ 0) fun x178 l179 c180 =>
                                fun _ => ((.slice x178 l179 c180) : Value) = (.slice x133 l134 c135)) <|
                                APP Pg 48 4 (some ⟨B139, 0, none⟩) 0 0 x133 l134 fun x181 l182 c183 =>
                                  ANDS (RDL (Addr.add ⟨B11, 0, none⟩ 0) fun x184 l185 c186 =>
                                    fun _ => ((.slice x184 l185 c186) : Value) = (.slice x136 l137 c138)) <|
                                    APP Pg 48 4 x181 l182 c183 (some ⟨B177, 0, none⟩) 1 fun x187 l188 c189 =>
                                      WR (Addr.add (Addr.add ⟨B132, 0, none⟩ 0) 0) (.slice x187 l188 c189) <|
                                        J_law13_PrizeEnd_1 W R B132 B11 x56 l57 c58],
                    NEW 48 [(.int .i64 (IntKind.wrap .i64 ((↑l137 : Int) + 1))), (.int .i64 0), (.bool b9), (.bool b10)] fun B190 =>
                      ANDS (RDL (Addr.add ⟨B11, 0, none⟩ 0) fun x191 l192 c193 =>
                        fun _ => ((.slice x191 l192 c193) : Value) = (.slice x133 l134 c135)) <|
                        NEW 48 [] fun B194 =>
                          ANDS (RDL (Addr.add ⟨B11, 0, none⟩ 0) fun x195 l196 c197 =>
                            fun _ => ((.slice x195 l196 c197) : Value) = (.slice x136 l137 c138)) <|
                            ANDS (RDL (Addr.add ⟨B11, 0, none⟩ 0) fun x198 l199 c200 =>
                              fun _ => ((.slice x198 l199 c200) : Value) = (.slice x133 l134 c135)) <|
                              APP Pg 48 4 (some ⟨B194, 0, none⟩) 0 0 x133 l134 fun x201 l202 c203 =>
                                ANDS (RDL (Addr.add ⟨B11, 0, none⟩ 0) fun x204 l205 c206 =>
                                  fun _ => ((.slice x204 l205 c206) : Value) = (.slice x136 l137 c138)) <|
                                  APP Pg 48 4 x201 l202 c203 (some ⟨B190, 0, none⟩) 1 fun x207 l208 c209 =>
                                    WR (Addr.add (Addr.add ⟨B132, 0, none⟩ 0) 0) (.slice x207 l208 c209) <|
                                      J_law13_PrizeEnd_1 W R B132 B11 x56 l57 c58])
def J_law13_PrizeEnd_3 (W : World) (R : Ending → Hp → Prop) (b124 : Bool) (B11 : Nat) (b9 : Bool) (b10 : Bool) (x56 : Option Addr) (l57 : Nat) (c58 : Nat) (n110 : Int) (n90 : Int) : Hp → Prop :=
  BR b124
    (J_law13_PrizeEnd_2 W R true B11 b9 b10 x56 l57 c58)
    (J_law13_PrizeEnd_2 W R (decide (n110 > (IntKind.wrap .i64 (n90 + 1)))) B11 b9 b10 x56 l57 c58)
def J_law13_PrizeEnd_4 (W : World) (R : Ending → Hp → Prop) (b123 : Bool) (B11 : Nat) (b9 : Bool) (b10 : Bool) (x56 : Option Addr) (l57 : Nat) (c58 : Nat) (n110 : Int) (n90 : Int) : Hp → Prop :=
  BR b123
    (J_law13_PrizeEnd_3 W R true B11 b9 b10 x56 l57 c58 n110 n90)
    (J_law13_PrizeEnd_3 W R (decide (n110 < n90)) B11 b9 b10 x56 l57 c58 n110 n90)
def J_law13_PrizeEnd_5 (W : World) (R : Ending → Hp → Prop) (b122 : Bool) (B11 : Nat) (b9 : Bool) (b10 : Bool) (x56 : Option Addr) (l57 : Nat) (c58 : Nat) (n110 : Int) (n90 : Int) (n118 : Int) : Hp → Prop :=
  BR b122
    (J_law13_PrizeEnd_4 W R true B11 b9 b10 x56 l57 c58 n110 n90)
    (J_law13_PrizeEnd_4 W R (n118 != 0) B11 b9 b10 x56 l57 c58 n110 n90)
def J_law13_PrizeEnd_6 (W : World) (R : Ending → Hp → Prop) (b121 : Bool) (B11 : Nat) (b9 : Bool) (b10 : Bool) (x56 : Option Addr) (l57 : Nat) (c58 : Nat) (n110 : Int) (n90 : Int) (n118 : Int) (n98 : Int) : Hp → Prop :=
  BR b121
    (J_law13_PrizeEnd_5 W R true B11 b9 b10 x56 l57 c58 n110 n90 n118)
    (J_law13_PrizeEnd_5 W R (n98 != 0) B11 b9 b10 x56 l57 c58 n110 n90 n118)
def J_law13_PrizeEnd_7 (W : World) (R : Ending → Hp → Prop) (b120 : Bool) (B11 : Nat) (b9 : Bool) (b10 : Bool) (x56 : Option Addr) (l57 : Nat) (c58 : Nat) (n110 : Int) (n90 : Int) (n118 : Int) (n98 : Int) (x73 : Option Addr) (c75 : Nat) : Hp → Prop :=
  BR b120
    (J_law13_PrizeEnd_6 W R true B11 b9 b10 x56 l57 c58 n110 n90 n118 n98)
    (SLS x73 c75 0 (↑l57 : Int) 1 fun x210 l211 c212 =>
      CALL Pg W F_ref13_Ints [(.slice x210 l211 c212), (.slice x56 l57 c58)]
        (fun v213 => TYB v213 fun b215 =>
          J_law13_PrizeEnd_6 W R (!b215) B11 b9 b10 x56 l57 c58 n110 n90 n118 n98)
          (fun e214 => R (.panicked e214)))
def J_law13_PrizeEnd_8 (W : World) (R : Ending → Hp → Prop) (b119 : Bool) (B11 : Nat) (b9 : Bool) (b10 : Bool) (x56 : Option Addr) (l57 : Nat) (c58 : Nat) (n110 : Int) (n90 : Int) (n118 : Int) (n98 : Int) (x73 : Option Addr) (c75 : Nat) (l74 : Nat) : Hp → Prop :=
  BR b119
    (J_law13_PrizeEnd_7 W R true B11 b9 b10 x56 l57 c58 n110 n90 n118 n98 x73 c75)
    (J_law13_PrizeEnd_7 W R ((↑l74 : Int) != (IntKind.wrap .i64 ((↑l57 : Int) + 1))) B11 b9 b10 x56 l57 c58 n110 n90 n118 n98 x73 c75)
def J_law13_PrizeEnd_9 (W : World) (R : Ending → Hp → Prop) (b23 : Bool) (B11 : Nat) (n7 : Int) (n8 : Int) (b9 : Bool) (b10 : Bool) : Hp → Prop :=
  BR b23
    (CALL Pg W F_law13_awake []
      (fun v24 => TYB v24 fun b26 =>
        R (.returned (.bool b26)))
        (fun e25 => R (.panicked e25)))
    (RDL (Addr.add ⟨B11, 0, none⟩ 0) fun x27 l28 c29 =>
      RDL (Addr.add ⟨B11, 0, none⟩ 1) fun x30 l31 c32 =>
        NEWZ Pg 25 fun B33 =>
          WR (Addr.add ⟨B33, 0, none⟩ 0) (.slice x27 l28 c29) <|
            WR (Addr.add ⟨B33, 0, none⟩ 1) (.slice x30 l31 c32) <|
              NEW 50 [] fun B34 =>
                RDL (Addr.add ⟨B11, 0, none⟩ 1) fun x35 l36 c37 =>
                  APP Pg 50 2 (some ⟨B34, 0, none⟩) 0 0 x35 l36 fun x38 l39 c40 =>
                    NEW 50 [(.int .i64 (Int.tmod (IntKind.wrap .i64 n7) 5)), (.int .i64 (Int.tmod (IntKind.wrap .i64 n8) 1001))] fun B41 =>
                      APP Pg 50 2 x38 l39 c40 (some ⟨B41, 0, none⟩) 1 fun x42 l43 c44 =>
                        WR (Addr.add (Addr.add ⟨B33, 0, none⟩ 1) 0) (.slice x42 l43 c44) <|
                          RDL (Addr.add ⟨B11, 0, none⟩ 0) fun x45 l46 c47 =>
                            RDL (Addr.add ⟨B11, 0, none⟩ 1) fun x48 l49 c50 =>
                              CALL Pg W F_prize_Due [(.agg #[(.slice x45 l46 c47), (.slice x48 l49 c50)])]
                                (fun v51 => TUP v51 fun q53 => HD q53 fun v54 r55 => TYL v54 fun x56 l57 c58 =>
                                  HD r55 fun v59 r60 => TYI .i64 v59 fun n61 =>
                                    NL r60 <|
                                      RDL (Addr.add ⟨B33, 0, none⟩ 0) fun x62 l63 c64 =>
                                        RDL (Addr.add ⟨B33, 0, none⟩ 1) fun x65 l66 c67 =>
                                          CALL Pg W F_prize_Due [(.agg #[(.slice x62 l63 c64), (.slice x65 l66 c67)])]
                                            (fun v68 => TUP v68 fun q70 => HD q70 fun v71 r72 => TYL v71 fun x73 l74 c75 =>
                                              HD r72 fun v76 r77 => TYI .i64 v76 fun n78 =>
                                                NL r77 <|
                                                  RDL (Addr.add ⟨B11, 0, none⟩ 0) fun x79 l80 c81 =>
                                                    RDL (Addr.add ⟨B11, 0, none⟩ 1) fun x82 l83 c84 =>
                                                      CALL Pg W F_prize_Most [(.agg #[(.slice x79 l80 c81), (.slice x82 l83 c84)])]
                                                        (fun v85 => TUP v85 fun q87 => HD q87 fun v88 r89 => TYI .i64 v88 fun n90 =>
                                                          HD r89 fun v91 r92 => TYL v91 fun x93 l94 c95 =>
                                                            HD r92 fun v96 r97 => TYI .i64 v96 fun n98 =>
                                                              NL r97 <|
                                                                RDL (Addr.add ⟨B33, 0, none⟩ 0) fun x99 l100 c101 =>
                                                                  RDL (Addr.add ⟨B33, 0, none⟩ 1) fun x102 l103 c104 =>
                                                                    CALL Pg W F_prize_Most [(.agg #[(.slice x99 l100 c101), (.slice x102 l103 c104)])]
                                                                      (fun v105 => TUP v105 fun q107 => HD q107 fun v108 r109 => TYI .i64 v108 fun n110 =>
                                                                        HD r109 fun v111 r112 => TYL v111 fun x113 l114 c115 =>
                                                                          HD r112 fun v116 r117 => TYI .i64 v116 fun n118 =>
                                                                            NL r117 <|
                                                                              BR (n61 != 0)
                                                                                (J_law13_PrizeEnd_8 W R true B11 b9 b10 x56 l57 c58 n110 n90 n118 n98 x73 c75 l74)
                                                                                (J_law13_PrizeEnd_8 W R (n78 != 0) B11 b9 b10 x56 l57 c58 n110 n90 n118 n98 x73 c75 l74))
                                                                        (fun e106 => R (.panicked e106)))
                                                          (fun e86 => R (.panicked e86)))
                                              (fun e69 => R (.panicked e69)))
                                  (fun e52 => R (.panicked e52)))
def J_law13_PrizeEnd_10 (W : World) (R : Ending → Hp → Prop) (b22 : Bool) (B11 : Nat) (n7 : Int) (n8 : Int) (b9 : Bool) (b10 : Bool) : Hp → Prop :=
  BR b22
    (J_law13_PrizeEnd_9 W R true B11 n7 n8 b9 b10)
    (RDL (Addr.add ⟨B11, 0, none⟩ 0) fun x216 l217 c218 =>
      J_law13_PrizeEnd_9 W R (decide ((↑l217 : Int) ≥ 8)) B11 n7 n8 b9 b10)
def J_law13_PrizeEnd_11 (W : World) (R : Ending → Hp → Prop) (b21 : Bool) (B11 : Nat) (n7 : Int) (n8 : Int) (b9 : Bool) (b10 : Bool) : Hp → Prop :=
  BR b21
    (J_law13_PrizeEnd_10 W R true B11 n7 n8 b9 b10)
    (RDL (Addr.add ⟨B11, 0, none⟩ 1) fun x219 l220 c221 =>
      J_law13_PrizeEnd_10 W R (decide ((↑l220 : Int) ≥ 6)) B11 n7 n8 b9 b10)
def J_law13_PrizeEnd_12 (W : World) (R : Ending → Hp → Prop) (b257 : Bool) (za0 : Addr) (zp1 : Option Addr) (zl2 : Nat) (zl3 : Nat) (zp4 : Option Addr) (zl5 : Nat) (zl6 : Nat) (zn7 : Int) (nx0 : List Value → Hp → Prop) (b231 : Bool) (n232 : Int) : Hp → Prop :=
  BR b257
    (RDL (Addr.add za0 0) fun x258 l259 c260 =>
      RDL (Addr.add za0 1) fun x261 l262 c263 =>
        CALL Pg W F_law13_hasClub [(.agg #[(.slice x258 l259 c260), (.slice x261 l262 c263)])]
          (fun v264 => TYB v264 fun b266 =>
            BR b266
              (CALL Pg W F_law13_awake []
                (fun v267 => TYB v267 fun b269 =>
                  R (.returned (.bool b269)))
                  (fun e268 => R (.panicked e268)))
              (R (.returned (.bool false))))
            (fun e265 => R (.panicked e265)))
    (NX [(.pointer (some za0)), (.slice zp1 zl2 zl3), (.slice zp4 zl5 zl6), (.int .i64 zn7), (.tuple #[])] [(.pointer (some za0)), (.slice zp1 zl2 zl3), (.slice zp4 zl5 zl6), (.int .i64 zn7), (.tuple #[])] (nx0 [(.bool b231), (.int .i64 (IntKind.wrap .i64 (n232 + 1)))]))
def J_law13_PrizeEnd_13 (W : World) (R : Ending → Hp → Prop) (b256 : Bool) (za0 : Addr) (zp1 : Option Addr) (zl2 : Nat) (zl3 : Nat) (zp4 : Option Addr) (zl5 : Nat) (zl6 : Nat) (zn7 : Int) (nx0 : List Value → Hp → Prop) (b231 : Bool) (n232 : Int) (n234 : Int) : Hp → Prop :=
  BR b256
    (J_law13_PrizeEnd_12 W R true za0 zp1 zl2 zl3 zp4 zl5 zl6 zn7 nx0 b231 n232)
    (BR (decide (n234 < 0))
      (IXS zp1 zl2 n232 1 fun a270 =>
        RDI .i64 a270 fun n271 =>
          BR (decide (n271 ≥ 0))
            (IXS zp1 zl2 n232 1 fun a272 =>
              RDI .i64 a272 fun n273 =>
                RDL (Addr.add za0 0) fun x274 l275 c276 =>
                  BR (n273 != (↑l275 : Int))
                    (RDL (Addr.add za0 1) fun x277 l278 c279 =>
                      IXS x277 l278 n232 2 fun a280 =>
                        RDI .i64 (Addr.add a280 0) fun n281 =>
                          J_law13_PrizeEnd_12 W R (n281 != 4) za0 zp1 zl2 zl3 zp4 zl5 zl6 zn7 nx0 b231 n232)
                    (J_law13_PrizeEnd_12 W R false za0 zp1 zl2 zl3 zp4 zl5 zl6 zn7 nx0 b231 n232))
            (J_law13_PrizeEnd_12 W R false za0 zp1 zl2 zl3 zp4 zl5 zl6 zn7 nx0 b231 n232))
      (J_law13_PrizeEnd_12 W R false za0 zp1 zl2 zl3 zp4 zl5 zl6 zn7 nx0 b231 n232))
def J_law13_PrizeEnd_14 (W : World) (R : Ending → Hp → Prop) (b240 : Bool) (za0 : Addr) (n232 : Int) (zp1 : Option Addr) (zl2 : Nat) (zl3 : Nat) (zp4 : Option Addr) (zl5 : Nat) (zl6 : Nat) (zn7 : Int) (nx0 : List Value → Hp → Prop) (b231 : Bool) (n234 : Int) : Hp → Prop :=
  BR b240
    (RDL (Addr.add za0 1) fun x241 l242 c243 =>
      IXS x241 l242 n232 2 fun a244 =>
        RDI .i64 (Addr.add a244 0) fun n245 =>
          J_law13_PrizeEnd_13 W R (n245 != 4) za0 zp1 zl2 zl3 zp4 zl5 zl6 zn7 nx0 b231 n232 n234)
    (J_law13_PrizeEnd_13 W R false za0 zp1 zl2 zl3 zp4 zl5 zl6 zn7 nx0 b231 n232 n234)
def B_law13_PrizeEnd_0 (W : World) (R : Ending → Hp → Prop) (za0 : Addr) (zp1 : Option Addr) (zl2 : Nat) (zl3 : Nat) (zp4 : Option Addr) (zl5 : Nat) (zl6 : Nat) (zn7 : Int) (b231 : Bool) (n232 : Int) (nx0 : List Value → Hp → Prop) : Hp → Prop :=
  BR (decide (n232 < zn7))
    (IXS zp4 zl5 n232 1 fun a233 =>
      RDI .i64 a233 fun n234 =>
        BR (decide (n234 ≥ 0))
          (IXS zp1 zl2 n232 1 fun a235 =>
            RDI .i64 a235 fun n236 =>
              J_law13_PrizeEnd_14 W R (n236 != n234) za0 n232 zp1 zl2 zl3 zp4 zl5 zl6 zn7 nx0 b231 n234)
          (J_law13_PrizeEnd_14 W R false za0 n232 zp1 zl2 zl3 zp4 zl5 zl6 zn7 nx0 b231 n234))
    (CALL Pg W F_law13_awake []
      (fun v282 => TYB v282 fun b284 =>
        R (.returned (.bool b284)))
        (fun e283 => R (.panicked e283)))
theorem B_law13_PrizeEnd_0_eq (W : World) (R : Ending → Hp → Prop) (za0 : Addr) (zp1 : Option Addr) (zl2 : Nat) (zl3 : Nat) (zp4 : Option Addr) (zl5 : Nat) (zl6 : Nat) (zn7 : Int) (b231 : Bool) (n232 : Int) (nx0 : List Value → Hp → Prop) (j : Tm) : vc Pg W 218 rs_11 an_11 false (sub (bodyOf Try.f11) [1, 1, 1, 1, 1, 1, 1, 1, 1, 1, 1, 1, 1, 0, 1, 0, 0]) 0 (KLoop [10, 157] [5, 23, 155, 156, 218] [(.pointer (some za0)), (.slice zp1 zl2 zl3), (.slice zp4 zl5 zl6), (.int .i64 zn7), (.tuple #[])] nx0 (KBlk 0 (KS Pg W 218 rs_11 an_11 false (sub (bodyOf Try.f11) [1, 1, 1, 1, 1, 1, 1, 1, 1, 1, 1, 1, 1, 1]) 0 (fin Pg W 218 rv_11 R)))) (known [10, 157] [(.bool b231), (.int .i64 n232)] (known [5, 23, 155, 156, 218] [(.pointer (some za0)), (.slice zp1 zl2 zl3), (.slice zp4 zl5 zl6), (.int .i64 zn7), (.tuple #[])] j)) = B_law13_PrizeEnd_0 W R za0 zp1 zl2 zl3 zp4 zl5 zl6 zn7 b231 n232 nx0 := by kernel_rfl
def N_law13_PrizeEnd_0 (I : Bool → Int → Hp → Prop) (μ : Bool → Int → Hp → Nat) (b2310 : Bool) (n2320 : Int) (s : Hp) (vs : List Value) : Hp → Prop := fun s' => ∃ b231 n232, vs = [(.bool b231), (.int .i64 n232)] ∧ I b231 n232 s' ∧ μ b231 n232 s' < μ b2310 n2320 s
theorem L_law13_PrizeEnd_0_rule (W : World) (R : Ending → Hp → Prop) (za0 : Addr) (zp1 : Option Addr) (zl2 : Nat) (zl3 : Nat) (zp4 : Option Addr) (zl5 : Nat) (zl6 : Nat) (zn7 : Int) (I : Bool → Int → Hp → Prop) (μ : Bool → Int → Hp → Nat) (b2310 : Bool) (n2320 : Int) (s : Hp) (h0 : I b2310 n2320 s)
    (hr : ∀ (b231 : Bool) (n232 : Int) (s : Hp), I b231 n232 s → B_law13_PrizeEnd_0 W R za0 zp1 zl2 zl3 zp4 zl5 zl6 zn7 b231 n232 (fun vs => N_law13_PrizeEnd_0 I μ b231 n232 s vs) s) : L_law13_PrizeEnd_0 W R za0 zp1 zl2 zl3 zp4 zl5 zl6 zn7 b2310 n2320 s := by
  refine ⟨fun vs s => ∃ b231 n232, vs = [(.bool b231), (.int .i64 n232)] ∧ I b231 n232 s, fun vs s => (match vs with | [.bool b231, .int _ n232] => μ b231 n232 s | _ => 0), ⟨⟨⟨_, rfl⟩, ⟨⟨_, rfl⟩, trivial⟩⟩, ⟨_, _, rfl, h0⟩⟩, ?_⟩
  intro b231 n232 s hI j
  obtain ⟨b231', n232', hy, hI⟩ := hI
  have hI' : I b231 n232 s := by cases hy; exact hI
  have hh := hr b231 n232 s hI'
  rw [← B_law13_PrizeEnd_0_eq W R za0 zp1 zl2 zl3 zp4 zl5 zl6 zn7 b231 n232 _ j] at hh
  refine vc_mono ?_ _ _ hh
  exact KLoop_mono (fun vs s' h => by obtain ⟨b2311, n2321, rfl, h1, h2⟩ := h; exact ⟨⟨⟨_, rfl⟩, ⟨⟨_, rfl⟩, trivial⟩⟩, ⟨_, _, rfl, h1⟩, h2⟩)
def T_law13_PrizeEnd (W : World) (x1 : Option Addr) (l2 : Nat) (c3 : Nat) (x4 : Option Addr) (l5 : Nat) (c6 : Nat) (n7 : Int) (n8 : Int) (b9 : Bool) (b10 : Bool) (R : Ending → Hp → Prop) : Hp → Prop :=
  NEW 25 [(.slice x1 l2 c3), (.slice x4 l5 c6)] fun B11 =>
    RDL (Addr.add ⟨B11, 0, none⟩ 0) fun x12 l13 c14 =>
      RDL (Addr.add ⟨B11, 0, none⟩ 1) fun x15 l16 c17 =>
        CALL Pg W F_law13_far [(.agg #[(.slice x12 l13 c14), (.slice x15 l16 c17)]), (.slice none 0 0)]
          (fun v18 => TYB v18 fun b20 =>
            BR b20
              (J_law13_PrizeEnd_11 W R true B11 n7 n8 b9 b10)
              (RDL (Addr.add ⟨B11, 0, none⟩ 0) fun x222 l223 c224 =>
                RDL (Addr.add ⟨B11, 0, none⟩ 1) fun x225 l226 c227 =>
                  CALL Pg W F_ref13_Prizes [(.agg #[(.slice x222 l223 c224), (.slice x225 l226 c227)])]
                    (fun v228 => TYB v228 fun b230 =>
                      J_law13_PrizeEnd_11 W R (!b230) B11 n7 n8 b9 b10)
                      (fun e229 => R (.panicked e229))))
            (fun e19 => R (.panicked e19))
theorem T_law13_PrizeEnd_eq (W : World) (x1 : Option Addr) (l2 : Nat) (c3 : Nat) (x4 : Option Addr) (l5 : Nat) (c6 : Nat) (n7 : Int) (n8 : Int) (b9 : Bool) (b10 : Bool) (R : Ending → Hp → Prop) : vfun Pg W an_11 Try.f11 [(.agg #[(.slice x1 l2 c3), (.slice x4 l5 c6)]), (.int .u8 n7), (.int .u16 n8), (.bool b9), (.bool b10)] R = T_law13_PrizeEnd W x1 l2 c3 x4 l5 c6 n7 n8 b9 b10 R := by kernel_rfl
theorem does_law13_PrizeEnd (W : World) (x1 : Option Addr) (l2 : Nat) (c3 : Nat) (x4 : Option Addr) (l5 : Nat) (c6 : Nat) (n7 : Int) (n8 : Int) (b9 : Bool) (b10 : Bool) (R : Ending → Hp → Prop) (s : Hp) (h : T_law13_PrizeEnd W x1 l2 c3 x4 l5 c6 n7 n8 b9 b10 R s) : Does Pg W F_law13_PrizeEnd #[(.agg #[(.slice x1 l2 c3), (.slice x4 l5 c6)]), (.int .u8 n7), (.int .u16 n8), (.bool b9), (.bool b10)] s R :=
  does_of_vfun Pg W an_11 Try.func11 rfl (by kernel_rfl) (by rw [T_law13_PrizeEnd_eq]; exact h)
end Go.Proofs.Ytfaeokcbfnlgbaa.G

/- The statement PrizeEnd. -/
set_option linter.unusedSimpArgs false
set_option linter.unusedVariables false
set_option maxRecDepth 20000
namespace Go.Proofs.Ytfaeokcbfnlgbaa.G
open Go.V
theorem tm_modc {z n k : Nat} (hz : z < n) (hn : n ≤ 65536) : Int.tmod (IntKind.wrap .i64 (z : Int)) (k : Int) = ((z % k : Nat) : Int) := by rw [wrap_i64 (by omega) (by omega)]; rfl
theorem mnV_snoc (a : List Mn) (w : Mn) : mnV (a ++ [w]) = mnV a ++ mn4 w := by unfold mnV; rw [List.flatMap_append]; simp
theorem pzV_snoc (a : List Pz) (w : Pz) : pzV (a ++ [w]) = pzV a ++ pz2 w := by unfold pzV; rw [List.flatMap_append]; simp
theorem zc_50' : zc Pg 50 = [.int .i64 0, .int .i64 0] := by kernel_rfl
section
variable {W : World} {K : VK} {E : List PanicEntry → Hp → Prop} {s : Hp} {T : PT}
theorem c_hasClub {x y : Option Addr} {c c' : Nat} (h6 : T.z ≤ 6) (hy : PzAt s y T.list) (h : ∀ s', Ext s s' → K (.bool (!noClub T)) s') : CALL Pg W F_law13_hasClub [.agg #[.slice x T.n c, .slice y T.z c']] K E s := by
  refine does_law13_hasClub W x T.n c y T.z c' _ s ?_
  unfold T_law13_hasClub
  refine ne2 fun s1 e1 z1 o1 o2 => ?_
  refine ⟨_, _, _, o2.cell, ?_⟩
  refine L_law13_hasClub_0_rule W _ y T.z c' T.z (fun n11 t => Ext s1 t ∧ ∃ k : Nat, k ≤ T.z ∧ n11 = k ∧ ∀ j, j < k → ¬ (T.pz j).kind = 4) (fun n11 _ => ((T.z : Int) - n11).toNat) 0 s1 ⟨Ext.refl _, 0, by omega, rfl, fun j hj => by omega⟩ ?_
  rintro n11 t ⟨et, k, hk, rfl, hno⟩
  unfold B_law13_hasClub_0
  have e0t := e1.trans et
  refine BR_dec (fun hlt => ?_) (fun hlt => ?_)
  · have hkz : k < T.z := by omega
    obtain ⟨az, v0, v1, v2⟩ := pz_row (hy.ext e0t) hkz
    refine IXS_at v0 hkz ?_
    refine ⟨_, v1, _, v2, ?_⟩
    refine nw2 zc_50' rfl rfl fun t1 f1 y1 p1 p2 => ?_
    refine ⟨_, p1.cell, ?_⟩
    refine BR_eq (fun h4 => ?_) (fun h4 => ?_)
    · have : noClub T = false := by
        cases hn : noClub T with
        | false => rfl
        | true => exact absurd h4 (noClub_at hn hkz)
      have hh := h t1 (e0t.trans f1)
      rw [this] at hh
      exact hh
    · refine ⟨rfl, _, rfl, ⟨et.trans f1, k + 1, hkz, wrap_succ (by omega), fun j hj => ?_⟩, ms_succ hkz (by omega)⟩
      by_cases e : j = k
      · rw [e]; exact h4
      · exact hno j (by omega)
  · have hkz : k = T.z := by omega
    subst hkz
    have : noClub T = true := by
      unfold noClub
      rw [List.all_eq_true]
      intro z hz
      obtain ⟨i, hi, e⟩ := List.mem_iff_getElem.1 hz
      have := hno i hi
      unfold PT.pz at this
      rw [getD_lt hi, e] at this
      simpa using this
    have hh := h t e0t
    rw [this] at hh
    exact hh
theorem w_PrizeEnd {x y : Option Addr} {c c' u u2 : Nat} {nov hor : Bool} (hx : MnAt s x T.men) (hy : PzAt s y T.list) (hu : u < 256) (hu2 : u2 < 65536) (h : ∀ s', Ext s s' → K (.bool true) s') :
    CALL Pg W F_law13_PrizeEnd [.agg #[.slice x T.n c, .slice y T.z c'], .int .u8 (u : Nat), .int .u16 (u2 : Nat), .bool nov, .bool hor] K E s := by
  refine does_law13_PrizeEnd W x T.n c y T.z c' u u2 nov hor _ s ?_
  unfold T_law13_PrizeEnd
  refine ne2 fun s1 e1 z1 o1 o2 => ?_
  have c0 := o1.cell
  have c1 := o2.cell
  refine ⟨_, _, _, c0, _, _, _, c1, ?_⟩
  refine c_far fun s2 b e2 hb => ?_
  try simp only [TUP_mk, AGG_mk, HD_mk, NL_mk, TYI_mk, TYB_mk, TYP_mk, TYL_mk, TYS_mk, TYM_mk, SO_mk, NX_mk, endK_mk, endK_mk', add_0]
  have rx : ∀ {t : Hp}, Ext s1 t → MnAt t x T.men := fun e => hx.ext (e1.trans e)
  have ry : ∀ {t : Hp}, Ext s1 t → PzAt t y T.list := fun e => hy.ext (e1.trans e)
  have J9 : ∀ (b : Bool) (t : Hp), Ext s1 t → (b = false → okP T = true ∧ T.z < 6 ∧ T.n < 8) → J_law13_PrizeEnd_9 W (endK K E) b s.size u u2 nov hor t := by
    intro b t et hb
    unfold J_law13_PrizeEnd_9
    refine BR_bool (fun _ => c_awake' et fun u eu => h u (e1.trans eu)) (fun hf => ?_)
    obtain ⟨hok, h6, h8⟩ := hb hf
    have hv := okP_vd hok
    refine ⟨_, _, _, et.cell c0, _, _, _, et.cell c1, ?_⟩
    -- a prize more
    refine nw2 zc_25 rfl rfl fun t1 f1 y1 p1 p2 => ?_
    refine NEW_rule fun t2 f2 y2 _ _ => ?_
    have g2 := et.trans (f1.trans f2)
    refine ⟨_, _, _, g2.cell c1, ?_⟩
    refine APP_fr (lo := t1.size) (vs := []) ⟨⟨Nat.le_refl _, fun i hi => by omega⟩, rfl, fun a ha => by cases ha; exact Nat.le_refl _, by omega⟩ f2.1 (ws := pzV T.list) (pz_row' (ry g2)) (pzV_len T.list) zc_50' rfl (by omega) (pzV_one T.list) (by show 0 + T.z ≤ _; omega) fun t3 x3 c3 k3 hx3 r3 => ?_
    rw [List.nil_append] at r3
    have f13 : Ext t1 t3 := kp_nil f2 (fun b hb => by obtain ⟨a, ha, rfl⟩ := hb; cases ha; exact Nat.le_refl _) k3
    have hkind : Int.tmod (IntKind.wrap .i64 (u : Int)) 5 = ((u % 5 : Nat) : Int) := tm_modc (n := 256) (k := 5) hu (by omega)
    have hworth : Int.tmod (IntKind.wrap .i64 (u2 : Int)) 1001 = ((u2 % 1001 : Nat) : Int) := tm_modc (n := 65536) (k := 1001) hu2 (by omega)
    rw [hkind, hworth]
    have m5 : u % 5 < 5 := Nat.mod_lt _ (by omega)
    have m1001 : u2 % 1001 < 1001 := Nat.mod_lt _ (by omega)
    generalize u % 5 = kd at m5
    generalize u2 % 1001 = wo at m1001
    have hz : okZ ⟨(kd : Nat), (wo : Nat)⟩ = true := by
      unfold okZ
      rw [decide_eq_true (by omega : (0 : Int) ≤ ((kd : Nat) : Int) ∧ ((kd : Nat) : Int) ≤ 4), decide_eq_true (by omega : (0 : Int) ≤ ((wo : Nat) : Int) ∧ ((wo : Nat) : Int) ≤ 1000)]
      rfl
    generalize hZ : (⟨(kd : Nat), (wo : Nat)⟩ : Pz) = Z at hz
    refine NEW_rule fun t4 f4 y4 n4 _ => ?_
    have hpz : pz2 Z = [.int .i64 ((kd : Nat) : Int), .int .i64 ((wo : Nat) : Int)] := by rw [← hZ]; rfl
    have row4 : RowAt t4 (some ⟨t3.size, 0, none⟩) (pz2 Z) := by rw [hpz]; exact row_new n4
    have f14 := f13.trans f4
    refine APP_fr (lo := t1.size) (r3.ext f4) f14.1 (ws := pz2 Z) row4 rfl zc_50' rfl (by omega) (by simp [pz2, oneCell]) (by omega) fun t5 x5 c5 k5 hx5 r5 => ?_
    have f15 : Ext t1 t5 := kp_nil f14 (fun b hb => by obtain ⟨a, ha, rfl⟩ := hb; exact r3.fr a ha) k5
    have p1' := f15.own p1
    have p2' := f15.own p2
    refine WR_own (a := ⟨t.size, 1, none⟩) p2' rfl ?_
    have hl : 0 + T.z + 1 = (moreP T Z).z := by rw [more_z]; omega
    rw [hl] at r5 ⊢
    have q2 := own_set (v := .slice x5 (moreP T Z).z c5) p2'
    have q1 : Own (setC t5 ⟨t.size, 1, none⟩ (.slice x5 (moreP T Z).z c5)) ⟨t.size, 0, none⟩ (.slice x T.n c) := own_set_ne (.inr (by show (0 : Nat) ≠ 1; omega)) p1'
    have e6 : Ext t (setC t5 ⟨t.size, 1, none⟩ (.slice x5 (moreP T Z).z c5)) := Ext.setC (f1.trans f15) (Nat.le_refl _)
    have r6 : Fr t1.size (setC t5 ⟨t.size, 1, none⟩ (.slice x5 (moreP T Z).z c5)) x5 (moreP T Z).z c5 2 (pzV T.list ++ pz2 Z) := r5.kp (D := (· = t.size)) (Kp.setC (Kp.refl _) (.inl rfl)) fun a ha hb => by have := r5.fr a ha; have hb' : a.block = t.size := hb; omega
    generalize hs6 : setC t5 ⟨t.size, 1, none⟩ (.slice x5 (moreP T Z).z c5) = t6 at *
    rw [← pzV_snoc] at r6
    have hym : ∀ {v : Hp}, Ext t6 v → PzAt v x5 (moreP T Z).list := fun e => row_pz (r6.row.ext e)
    have g6 := et.trans e6
    have hokM := ok_more hok hz h6
    refine ⟨_, _, _, g6.cell c0, _, _, _, g6.cell c1, ?_⟩
    refine c_DueV hok (rx g6) (ry g6) fun t7 d cd f7 r7 => ?_
    try simp only [TUP_mk, AGG_mk, HD_mk, NL_mk, TYI_mk, TYB_mk, TYP_mk, TYL_mk, TYS_mk, TYM_mk, SO_mk, NX_mk, endK_mk, endK_mk', add_0]
    have g7 := g6.trans f7
    refine ⟨_, _, _, (f7.own q1).cell, _, _, _, (f7.own q2).cell, ?_⟩
    refine c_DueV (T := moreP T Z) hokM (rx g7) (hym f7) fun t8 d8 cd8 f8 r8 => ?_
    try simp only [TUP_mk, AGG_mk, HD_mk, NL_mk, TYI_mk, TYB_mk, TYP_mk, TYL_mk, TYS_mk, TYM_mk, SO_mk, NX_mk, endK_mk, endK_mk', add_0]
    have g8 := g7.trans f8
    have f68 := f7.trans f8
    refine ⟨_, _, _, g8.cell c0, _, _, _, g8.cell c1, ?_⟩
    refine c_MostV hok (rx g8) (ry g8) fun t9 w9 cw9 f9 r9 => ?_
    try simp only [TUP_mk, AGG_mk, HD_mk, NL_mk, TYI_mk, TYB_mk, TYP_mk, TYL_mk, TYS_mk, TYM_mk, SO_mk, NX_mk, endK_mk, endK_mk', add_0]
    have g9 := g8.trans f9
    have f69 := f68.trans f9
    refine ⟨_, _, _, (f69.own q1).cell, _, _, _, (f69.own q2).cell, ?_⟩
    refine c_MostV (T := moreP T Z) hokM (rx g9) (hym f69) fun v1 wv cwv j1 rv1 => ?_
    try simp only [TUP_mk, AGG_mk, HD_mk, NL_mk, TYI_mk, TYB_mk, TYP_mk, TYL_mk, TYS_mk, TYM_mk, SO_mk, NX_mk, endK_mk, endK_mk', add_0]
    have h1 := g9.trans j1
    have rd : ∀ {v : Hp}, Ext v1 v → RowAt v d (ints (manL (dueP T))) := fun e => r7.row.ext (f8.trans (f9.trans (j1.trans e)))
    have rd8 : ∀ {v : Hp}, Ext v1 v → RowAt v d8 (ints (manL (dueP (moreP T Z)))) := fun e => r8.row.ext (f9.trans (j1.trans e))
    have hmm := most_more (z := Z) hok
    refine BR_ff rfl ?_
    unfold J_law13_PrizeEnd_8
    refine BR_ff rfl ?_
    unfold J_law13_PrizeEnd_7
    have hmz := more_z T Z
    refine BR_ff (by rw [wrap_succ (by omega), hmz]; simp) ?_
    have hd8l := due_len (moreP T Z)
    have hcd8 : (moreP T Z).z ≤ cd8 := by
      have := r8.buf.le
      rw [ints_len, hd8l] at this; omega
    refine ⟨⟨by omega, by omega, by omega⟩, ?_⟩
    have hsome : ∃ a, d8 = some a := by
      obtain ⟨a, ha, _⟩ := r8.row 0 (by rw [ints_len, hd8l, hmz]; omega)
      exact ⟨a, ha⟩
    obtain ⟨a8, rfl⟩ := hsome
    have hsl : (if cd8 = ((0 : Int)).toNat then some a8 else (some a8).map (·.add ((0 : Int).toNat * 1))) = some a8 := by split <;> rfl
    rw [hsl]
    have hln : ((T.z : Nat) : Int).toNat - (0 : Int).toNat = T.z := by rw [toNat_nat]; rfl
    rw [hln]
    have rtake : RowAt v1 (some a8) (ints (manL (dueP T))) := fun i hi => by
      have hi0 : i < T.z := by rw [ints_len, due_len] at hi; exact hi
      have hi' : i < (ints (manL (dueP (moreP T Z)))).length := by rw [ints_len, hd8l, hmz]; omega
      obtain ⟨a', ha', hc⟩ := rd8 (Ext.refl _) i hi'
      refine ⟨a', ha', ?_⟩
      rw [hc, ints_get, ints_get]
      congr 2
      have ht := due_more T Z
      have e1 : (manL (dueP T)) = (manL (dueP (moreP T Z))).take T.z := by
        rw [← ht]
        unfold manL
        rw [List.map_take]
      have : (manL (dueP T))[i]? = (manL (dueP (moreP T Z)))[i]? := by rw [e1, List.getElem?_take_of_lt hi0]
      rw [List.getElem?_eq_getElem (by rw [due_len]; exact hi0), List.getElem?_eq_getElem (by rw [hd8l, hmz]; omega)] at this
      exact (Option.some.inj this).symm
    refine f_Ints (a := manL (dueP T)) (b := manL (dueP T)) rtake (rd (Ext.refl _)) (due_len T).symm (due_len T).symm (by rw [due_len]; omega) ?_
    try simp only [TUP_mk, AGG_mk, HD_mk, NL_mk, TYI_mk, TYB_mk, TYP_mk, TYL_mk, TYS_mk, TYM_mk, SO_mk, NX_mk, endK_mk, endK_mk', add_0]
    unfold J_law13_PrizeEnd_6
    refine BR_ff (by simp) ?_
    unfold J_law13_PrizeEnd_5
    refine BR_ff rfl ?_
    unfold J_law13_PrizeEnd_4
    refine BR_ff rfl ?_
    have hA : many (bestL T) = many (bestG T T.z 0 allF) := rfl
    have hB : many (bestL (moreP T Z)) = many (bestG (moreP T Z) (moreP T Z).z 0 allF) := rfl
    have hn8 : many (bestL T) ≤ T.z := by rw [hA, bestG_many]; exact opt_le T _ _ _
    unfold J_law13_PrizeEnd_3
    refine BR_ff (decide_eq_false (by omega)) ?_
    unfold J_law13_PrizeEnd_2
    refine BR_ff (by rw [wrap_succ (by omega)]; exact decide_eq_false (by omega)) ?_
    -- somebody more
    refine ⟨_, _, _, h1.cell c0, _, _, _, h1.cell c1, ?_⟩
    refine nw2 zc_25 rfl rfl fun v2 j2 y2' a1 a2 => ?_
    have h2 := h1.trans j2
    refine ⟨_, _, _, h2.cell c0, ?_⟩
    refine ⟨_, _, _, h2.cell c0, ?_⟩
    have hgw : IntKind.i64.wrap ((T.n : Int) + 1) = ((T.n + 1 : Nat) : Int) := wrap_succ (by omega)
    dsimp only
    rw [hgw]
    have hgv : mn4 ⟨((T.n + 1 : Nat) : Int), 0, nov, hor⟩ = [.int .i64 ((T.n + 1 : Nat) : Int), .int .i64 0, .bool nov, .bool hor] := rfl
    generalize hG : (⟨((T.n + 1 : Nat) : Int), 0, nov, hor⟩ : Mn) = G at hgv
    have hgm : (guestP T nov hor).men = T.men ++ [G] := by rw [← hG]; rfl
    have hgn := guest_n T nov hor
    have hokG := ok_guest (a := nov) (b := hor) hok h8
    have fin : ∀ (v : Hp) (q : Option Addr) (cq : Nat), Ext v2 v → Fr v2.size v q (T.n + 1) cq 4 (mnV T.men ++ mn4 G) →
        (WR (Addr.add (Addr.add ⟨v1.size, 0, none⟩ 0) 0) (.slice q (T.n + 1) cq) (J_law13_PrizeEnd_1 W (endK K E) v1.size s.size d T.z cd)) v := by
      intro v q cq ev rq
      have a1' := ev.own a1
      have a2' := ev.own a2
      refine WR_own (a := ⟨v1.size, 0, none⟩) a1' rfl ?_
      have b1 := own_set (v := .slice q (T.n + 1) cq) a1'
      have b2 : Own (setC v ⟨v1.size, 0, none⟩ (.slice q (T.n + 1) cq)) ⟨v1.size, 1, none⟩ (.slice y T.z c') := own_set_ne (.inr (by show (1 : Nat) ≠ 0; omega)) a2'
      have ew : Ext v1 (setC v ⟨v1.size, 0, none⟩ (.slice q (T.n + 1) cq)) := Ext.setC (j2.trans ev) (Nat.le_refl _)
      have rw' : Fr v2.size (setC v ⟨v1.size, 0, none⟩ (.slice q (T.n + 1) cq)) q (T.n + 1) cq 4 (mnV T.men ++ mn4 G) := rq.kp (D := (· = v1.size)) (Kp.setC (Kp.refl _) (.inl rfl)) fun a ha hb => by have := rq.fr a ha; have hb' : a.block = v1.size := hb; omega
      generalize setC v ⟨v1.size, 0, none⟩ (.slice q (T.n + 1) cq) = v3 at *
      rw [← mnV_snoc, ← hgm] at rw'
      have h3 := h1.trans ew
      unfold J_law13_PrizeEnd_1
      refine ⟨_, _, _, b1.cell, _, _, _, b2.cell, ?_⟩
      refine (fun hh => by rw [← hgn]; exact hh : CALL Pg W F_prize_Due [.agg #[.slice q (guestP T nov hor).n cq, .slice y (guestP T nov hor).z c']] _ _ v3 → CALL Pg W F_prize_Due [.agg #[.slice q (T.n + 1) cq, .slice y T.z c']] _ _ v3) ?_
      refine c_DueV (T := guestP T nov hor) hokG (row_mn rw'.row) (ry h3) fun v4 w cw j4 r4 => ?_
      try simp only [TUP_mk, AGG_mk, HD_mk, NL_mk, TYI_mk, TYB_mk, TYP_mk, TYL_mk, TYS_mk, TYM_mk, SO_mk, NX_mk, endK_mk, endK_mk', add_0]
      have h4 := h3.trans j4
      refine BR_ff rfl ?_
      unfold J_law13_PrizeEnd_0
      have hzz : (guestP T nov hor).z = T.z := rfl
      rw [hzz] at r4 ⊢
      refine BR_ff (by simp) ?_
      have hgl := due_len (guestP T nov hor)
      rw [hzz] at hgl
      refine L_law13_PrizeEnd_0_rule W _ ⟨s.size, 0, none⟩ w T.z cw d T.z cd T.z (fun _ n232 v' => v' = v4 ∧ ∃ k : Nat, k ≤ T.z ∧ n232 = k) (fun _ n232 _ => ((T.z : Int) - n232).toNat) false 0 v4 ⟨rfl, 0, by omega, rfl⟩ ?_
      rintro b231 n232 v' ⟨rfl, k, hk, rfl⟩
      unfold B_law13_PrizeEnd_0
      refine BR_dec (fun hlt => ?_) (fun hlt => ?_)
      · have hkz : k < T.z := by omega
        obtain ⟨p, hp, cp⟩ := row_int (rd (ew.trans j4)) (by rw [due_len]; exact hkz : k < (manL (dueP T)).length)
        obtain ⟨p', hp', cp'⟩ := row_int r4.row (by rw [hgl]; exact hkz : k < (manL (dueP (guestP T nov hor))).length)
        refine IXS_at hp hkz ?_
        refine ⟨_, cp, ?_⟩
        generalize hnx : (fun vs => N_law13_PrizeEnd_0 _ _ _ _ v' vs) = nx
        have A : J_law13_PrizeEnd_12 W (endK K E) false ⟨s.size, 0, none⟩ w T.z cw d T.z cd T.z nx b231 k v' := by
          unfold J_law13_PrizeEnd_12
          refine BR_ff rfl ?_
          rw [← hnx]
          exact ⟨rfl, _, _, rfl, ⟨rfl, k + 1, hkz, wrap_succ (by omega)⟩, ms_succ hkz (by omega)⟩
        have B : noClub T = false → ∀ b, J_law13_PrizeEnd_12 W (endK K E) b ⟨s.size, 0, none⟩ w T.z cw d T.z cd T.z nx b231 k v' := by
          intro hnc b
          cases b with
          | false => exact A
          | true =>
            unfold J_law13_PrizeEnd_12
            refine BR_tt rfl ?_
            refine ⟨_, _, _, h4.cell c0, _, _, _, h4.cell c1, ?_⟩
            refine c_hasClub (by omega) (ry h4) fun v5 j5 => ?_
            try simp only [TUP_mk, AGG_mk, HD_mk, NL_mk, TYI_mk, TYB_mk, TYP_mk, TYL_mk, TYS_mk, TYM_mk, SO_mk, NX_mk, endK_mk, endK_mk', add_0]
            rw [hnc]
            refine BR_tt rfl ?_
            exact c_awake' (h4.trans j5) fun v6 j6 => h v6 (e1.trans j6)
        have rel : noClub T = true → ((manL (dueP (guestP T nov hor))).getD k 0 = (manL (dueP T)).getD k 0 ∨ (manL (dueP T)).getD k 0 = -1 ∧ (manL (dueP (guestP T nov hor))).getD k 0 = (T.n : Nat)) := fun hnc => due_guest hok h8 hnc hkz
        obtain ⟨az, u0, u1, u2'⟩ := pz_row (ry h4) hkz
        -- the second condition
        have J13 : ∀ b : Bool, (b = true → noClub T = false) → J_law13_PrizeEnd_13 W (endK K E) b ⟨s.size, 0, none⟩ w T.z cw d T.z cd T.z nx b231 k ((manL (dueP T)).getD k 0) v' := by
          intro b hb'
          unfold J_law13_PrizeEnd_13
          refine BR_bool (fun ht => B (hb' ht) true) (fun hf => ?_)
          refine BR_dec (fun hneg => ?_) (fun _ => A)
          refine IXS_at hp' hkz ?_
          refine ⟨_, cp', ?_⟩
          refine BR_dec (fun hpos => ?_) (fun _ => A)
          refine IXS_at hp' hkz ?_
          refine ⟨_, cp', ?_⟩
          refine ⟨_, _, _, h4.cell c0, ?_⟩
          refine BR_ne (fun hne => ?_) (fun _ => A)
          refine ⟨_, _, _, h4.cell c1, ?_⟩
          refine IXS_at u0 hkz ?_
          refine ⟨_, u1, ?_⟩
          refine B ?_ _
          cases hnc : noClub T with
          | false => rfl
          | true =>
            exfalso
            rcases rel hnc with e | ⟨e, e'⟩
            · omega
            · exact hne e'
        refine BR_dec (fun hpos => ?_) (fun hneg => ?_)
        · refine IXS_at hp' hkz ?_
          refine ⟨_, cp', ?_⟩
          unfold J_law13_PrizeEnd_14
          refine BR_bool (fun hne => ?_) (fun _ => J13 false (fun hh => by cases hh))
          refine ⟨_, _, _, h4.cell c1, ?_⟩
          refine IXS_at u0 hkz ?_
          refine ⟨_, u1, ?_⟩
          refine J13 _ fun _ => ?_
          cases hnc : noClub T with
          | false => rfl
          | true =>
            exfalso
            rcases rel hnc with e | ⟨e, e'⟩
            · rw [e] at hne; simp at hne
            · omega
        · unfold J_law13_PrizeEnd_14
          refine BR_ff rfl (J13 false (fun hh => by cases hh))
      · exact c_awake' h4 fun v6 j6 => h v6 (e1.trans j6)
    have rdA : ∀ v, Ext v2 v → (RDL (Addr.add ⟨s.size, 0, none⟩ 0) fun x33 l34 c35 => fun _ => ((.slice x33 l34 c35) : Value) = (.slice x T.n c)) v := fun v ev => ⟨_, _, _, (h2.trans ev).cell c0, rfl⟩
    have fr0 : ∀ (v : Hp) (B lo : Nat), lo ≤ B → Fr lo v (some ⟨B, 0, none⟩) 0 0 4 [] := fun v B lo hB => ⟨⟨Nat.le_refl _, fun i hi => by omega⟩, rfl, fun a ha => by cases ha; exact hB, by omega⟩
    have rxm : ∀ v, Ext v2 v → RowAt v x (mnV T.men) := fun v ev => mn_row (rx (h2.trans ev))
    have lenM : (mnV T.men).length = T.n * 4 := mnV_len T.men
    have oneG : ∀ v ∈ mn4 G, oneCell v = true := by simp [mn4, oneCell]
    have hz0 : 0 + T.n + 1 = T.n + 1 := by omega
    have last : ∀ v w cw, Fr v2.size v w (0 + T.n + 1) cw 4 ([] ++ mnV T.men ++ mn4 G) → Fr v2.size v w (T.n + 1) cw 4 (mnV T.men ++ mn4 G) := fun v w cw f => by
      rw [List.nil_append, hz0] at f; exact f
    refine CONJ_two ?_ ?_
    · refine NEW_rule fun u1 k1 _ _ _ => ?_
      refine ANDS_i (rdA u1 k1) ?_
      refine ANDS_i (rdA u1 k1) ?_
      refine CONJ_two ?_ ?_
      · refine APP_fr (lo := v2.size) (fr0 u1 _ _ (Nat.le_refl _)) k1.1 (ws := mnV T.men) (rxm u1 k1) lenM zc_48 rfl (by omega) (mnV_one _) (by omega) fun u2' x2 c2 kk2 hx2 g2' => ?_
        have k2 : Ext v2 u2' := kp_nil k1 (fun b hb => by obtain ⟨a, ha, rfl⟩ := hb; cases ha; exact Nat.le_refl _) kk2
        refine ANDS_i (rdA u2' k2) ?_
        refine NEW_rule fun u3 k3 _ n3 _ => ?_
        have k03 := k2.trans k3
        refine ANDS_i (rdA u3 k03) ?_
        refine APP_fr (lo := v2.size) (g2'.ext k3) k03.1 (ws := mn4 G) (by rw [hgv]; exact row_new n3) (by rw [hgv]; rfl) zc_48 rfl (by omega) oneG (by omega) fun u4 x4 c4 kk4 hx4 g4' => ?_
        have k4 : Ext v2 u4 := kp_nil k03 (fun b hb => by obtain ⟨a, ha, rfl⟩ := hb; exact g2'.fr a ha) kk4
        rw [hz0]
        exact fin u4 x4 c4 k4 (last _ _ _ g4')
      · refine NEW_rule fun u2' k2 _ n2 _ => ?_
        have k02 := k1.trans k2
        refine ANDS_i (rdA u2' k02) ?_
        refine APP_fr (lo := v2.size) (fr0 u2' _ _ (Nat.le_refl _)) k02.1 (ws := mnV T.men) (rxm u2' k02) lenM zc_48 rfl (by omega) (mnV_one _) (by omega) fun u3 x3 c3 kk3 hx3 g3' => ?_
        have k3 : Ext v2 u3 := kp_nil k02 (fun b hb => by obtain ⟨a, ha, rfl⟩ := hb; cases ha; exact Nat.le_refl _) kk3
        have row3 : RowAt u3 (some ⟨u1.size, 0, none⟩) (mn4 G) := by
          rw [hgv]
          exact (row_new n2).keep kk3 fun a ha hb => by cases ha; obtain ⟨p, hp, hb⟩ := hb; cases hp; have hb' : v2.size = u1.size := hb; omega
        refine ANDS_i (rdA u3 k3) ?_
        refine APP_fr (lo := v2.size) g3' k3.1 (ws := mn4 G) row3 (by rw [hgv]; rfl) zc_48 rfl (by omega) oneG (by omega) fun u4 x4 c4 kk4 hx4 g4' => ?_
        have k4 : Ext v2 u4 := kp_nil k3 (fun b hb => by obtain ⟨a, ha, rfl⟩ := hb; exact g3'.fr a ha) kk4
        rw [hz0]
        exact fin u4 x4 c4 k4 (last _ _ _ g4')
    · refine NEW_rule fun u1 k1 _ n1 _ => ?_
      refine ANDS_i (rdA u1 k1) ?_
      refine NEW_rule fun u2' k2 _ _ _ => ?_
      have k02 := k1.trans k2
      refine ANDS_i (rdA u2' k02) ?_
      refine ANDS_i (rdA u2' k02) ?_
      refine APP_fr (lo := v2.size) (fr0 u2' _ _ k1.1) k02.1 (ws := mnV T.men) (rxm u2' k02) lenM zc_48 rfl (by omega) (mnV_one _) (by omega) fun u3 x3 c3 kk3 hx3 g3' => ?_
      have k3 : Ext v2 u3 := kp_nil k02 (fun b hb => by obtain ⟨a, ha, rfl⟩ := hb; cases ha; exact k1.1) kk3
      have row3 : RowAt u3 (some ⟨v2.size, 0, none⟩) (mn4 G) := by
        rw [hgv]
        exact ((row_new n1).ext k2).keep kk3 fun a ha hb => by cases ha; obtain ⟨p, hp, hb⟩ := hb; cases hp; have hb' : u1.size = v2.size := hb; omega
      refine ANDS_i (rdA u3 k3) ?_
      refine APP_fr (lo := v2.size) g3' k3.1 (ws := mn4 G) row3 (by rw [hgv]; rfl) zc_48 rfl (by omega) oneG (by omega) fun u4 x4 c4 kk4 hx4 g4' => ?_
      have k4 : Ext v2 u4 := kp_nil k3 (fun b hb => by obtain ⟨a, ha, rfl⟩ := hb; exact g3'.fr a ha) kk4
      rw [hz0]
      exact fin u4 x4 c4 k4 (last _ _ _ g4')
  have J11 : ∀ (b : Bool) (t : Hp), Ext s1 t → (b = false → okP T = true) → J_law13_PrizeEnd_11 W (endK K E) b s.size u u2 nov hor t := by
    intro b t et hb
    unfold J_law13_PrizeEnd_11 J_law13_PrizeEnd_10
    refine BR_bool (fun _ => BR_tt rfl (J9 true t et fun hh => by cases hh)) (fun hf => ?_)
    refine ⟨_, _, _, et.cell c1, ?_⟩
    refine BR_dec (fun _ => J9 true t et fun hh => by cases hh) (fun h6 => ?_)
    refine ⟨_, _, _, et.cell c0, ?_⟩
    refine J9 _ t et fun hd => ⟨hb hf, by omega, ?_⟩
    have := of_decide_eq_false hd
    omega
  refine BR_bool (fun _ => J11 true s2 e2 (fun hh => by cases hh)) (fun hf => ?_)
  refine ⟨_, _, _, e2.cell c0, _, _, _, e2.cell c1, ?_⟩
  refine f_Prizes (rx e2) (ry e2) fun s3 e3 => ?_
  try simp only [TUP_mk, AGG_mk, HD_mk, NL_mk, TYI_mk, TYB_mk, TYP_mk, TYL_mk, TYS_mk, TYM_mk, SO_mk, NX_mk, endK_mk, endK_mk', add_0]
  exact J11 _ s3 (e2.trans e3) (fun hh => by simpa using hh)
end
end Go.Proofs.Ytfaeokcbfnlgbaa.G

/- PrizeEnd, from any arguments. -/
namespace Go.Proofs.Ytfaeokcbfnlgbaa.G
open Go.V
theorem v_PrizeEnd {W : World} {s : Hp} {v0 v1 v2 v3 v4 : Value} (k0 : RdV Pg s 25 v0) (k1 : RdV Pg s 5 v1) (k2 : RdV Pg s 64 v2) (k3 : RdV Pg s 4 v3) (k4 : RdV Pg s 4 v4) : CALL Pg W F_law13_PrizeEnd [v0, v1, v2, v3, v4] (fun v s' => v = .bool true ∧ Ext s s') (fun _ _ => False) s := by
  obtain ⟨x, c, y, c', T, rfl, hx, hy⟩ := prizes_rd k0
  obtain ⟨u, rfl, hu⟩ := u8_rd k1
  obtain ⟨u2, rfl, hu2⟩ := u16_rd k2
  obtain ⟨a, rfl⟩ := bool_rd k3
  obtain ⟨b, rfl⟩ := bool_rd k4
  exact w_PrizeEnd hx hy hu hu2 fun s' e => ⟨rfl, e⟩
end Go.Proofs.Ytfaeokcbfnlgbaa.G

/- The row of the statement PrizeEnd. -/
namespace Go.Proofs.Ytfaeokcbfnlgbaa.prizeEnd
open Go.ChangeShapes Go.WideShapes Go.ChangeAt Go.RowKit Go.V
set_option linter.unusedVariables false
theorem own : ownKnob Try.prog.godebug = none := by kernel_rfl
theorem laidOut : laidOutB Try.prog = true := by kernel_rfl
set_option maxRecDepth 100000 in
theorem lifted (os : Os) (started : os.Started) (H : Type) (enc : TypeId × Value → H) :
    ReturnsInHanded {} Try.checked os 11 .any (Rows.prizeEndSpec.pre6 enc Try.prog Try.f11 Rows.prizeEndRow.domain false) (Rows.prizeEndSpec.post enc Try.prog Try.f11 false true false false) := by
  refine returnsInHanded_of_change_sized (C := Try.checked) own started (by kernel_rfl) Try.func11
    (ChangeSpec.witness6 (enc := enc) (C := Try.checked) false ⟨#[], #[(.agg #[(.slice none 0 0), (.slice none 0 0)]), (.int .u8 0), (.int .u16 0), (.bool false), (.bool false)], []⟩ 8 (by kernel_rfl) (by kernel_rfl) (by kernel_rfl) (by kernel_rfl)) ?_
  intro W base args ds gs before hval0 hW hcnd hsz0 _
  have hsz : (DataW.weightsEach Try.prog (Try.f11.params.toList ++ Rows.prizeEndSpec.plain.varTypes Try.prog) (ds ++ gs)).all (· ≤ reachBytes) = true := hsz0
  have hval : ∀ (j : Nat) t v, Try.f11.params[j]? = some t → args[j]? = some v → Value.okWide Try.prog W .any base t v := hval0
  have hW' := hW
  obtain ⟨p, q, hA0, hV, rfl, hfz, hnd⟩ := hW
  have hA : DataW.TrodAll enc Try.prog W 0 (fun _ => true) true Try.f11.params.toList args.toList ds p := hA0
  rw [Try.params11] at hA hval hsz
  obtain ⟨v0, vs0, d0, ds0, p0, q0, hargs, rfl, rfl, h0, r0⟩ := trodAll_cons hA
  obtain ⟨v1, vs1, d1, ds1, p1, q1, rfl, rfl, rfl, h1, r1⟩ := trodAll_cons r0
  obtain ⟨v2, vs2, d2, ds2, p2, q2, rfl, rfl, rfl, h2, r2⟩ := trodAll_cons r1
  obtain ⟨v3, vs3, d3, ds3, p3, q3, rfl, rfl, rfl, h3, r3⟩ := trodAll_cons r2
  obtain ⟨v4, vs4, d4, ds4, p4, q4, rfl, rfl, rfl, h4, r4⟩ := trodAll_cons r3
  obtain ⟨rfl, rfl, rfl⟩ := trodAll_nil r4
  obtain rfl : args = #[v0, v1, v2, v3, v4] := by cases args; simp_all
  obtain ⟨rfl, rfl⟩ := trodVars_none hV
  have k0 := trod_rdV (hval 0 25 v0 rfl rfl) h0
  have lt0 : ∀ x ∈ p0, x.block < W.heap.size := by obtain ⟨m, hm⟩ := h0; exact DataW.trod_lt m _ _ _ hm
  have k1 := trod_rdV (hval 1 5 v1 rfl rfl) h1
  have lt1 : ∀ x ∈ p1, x.block < W.heap.size := by obtain ⟨m, hm⟩ := h1; exact DataW.trod_lt m _ _ _ hm
  have k2 := trod_rdV (hval 2 64 v2 rfl rfl) h2
  have lt2 : ∀ x ∈ p2, x.block < W.heap.size := by obtain ⟨m, hm⟩ := h2; exact DataW.trod_lt m _ _ _ hm
  have k3 := trod_rdV (hval 3 4 v3 rfl rfl) h3
  have lt3 : ∀ x ∈ p3, x.block < W.heap.size := by obtain ⟨m, hm⟩ := h3; exact DataW.trod_lt m _ _ _ hm
  have k4 := trod_rdV (hval 4 4 v4 rfl rfl) h4
  have lt4 : ∀ x ∈ p4, x.block < W.heap.size := by obtain ⟨m, hm⟩ := h4; exact DataW.trod_lt m _ _ _ hm
  refine (calls_of_does (does_of_call (G.v_PrizeEnd (W := W) (s := W.heap) k0 k1 k2 k3 k4))).mono fun e W' ⟨he, bel⟩ => ?_
  subst he
  exact ⟨_, rfl, _, _, _, [], _, [], hW', trodAll_mk1 (shut_bool Try.underlying4 _), (trodAll_cons_mk (Below.trod laidOut (by kernel_rfl) (of_decide_eq_true (by kernel_rfl)) h0 bel lt0) (trodAll_cons_mk (Below.trod laidOut (by kernel_rfl) (of_decide_eq_true (by kernel_rfl)) h1 bel lt1) (trodAll_cons_mk (Below.trod laidOut (by kernel_rfl) (of_decide_eq_true (by kernel_rfl)) h2 bel lt2) (trodAll_cons_mk (Below.trod laidOut (by kernel_rfl) (of_decide_eq_true (by kernel_rfl)) h3 bel lt3) (trodAll_cons_mk (Below.trod laidOut (by kernel_rfl) (of_decide_eq_true (by kernel_rfl)) h4 bel lt4) trodAll_mk0))))), rfl, bel.frame _, fun h => by cases h⟩
theorem over : Rows.prizeEndRow.holds Try.pinned (OpenSpec.ofChange Rows.prizeEndSpec) :=
  OpenClaim.holds_of_wide 11 Try.f11 rfl rfl rfl rfl rfl rfl rfl ⟨rfl, rfl, rfl, rfl, rfl⟩ rfl rfl rfl rfl rfl (by kernel_rfl) Try.func11 (by kernel_rfl)
    (of_decide_eq_true (by kernel_rfl)) (by unfold Func.isWrapper; first | (rw [if_pos (by decide +kernel)]; kernel_rfl) | (rw [if_neg (by decide +kernel)]; exact ⟨rfl, rfl⟩))
    (fun os started H enc _ => lifted os started H enc)
theorem proved : Rows.PrizeEndSaid := over
end Go.Proofs.Ytfaeokcbfnlgbaa.prizeEnd
namespace Go.Proofs.Ytfaeokcbfnlgbaa
/-- The row, under a short name. -/
theorem prizeEnd_holds : Rows.PrizeEndSaid := prizeEnd.proved
end Go.Proofs.Ytfaeokcbfnlgbaa
