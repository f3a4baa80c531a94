import Derived.Test.YtfaeokcbfnlgbaaC3
/- Lemmas: contracts over the visible heap, and that they are sound; no condition. -/
/- More of the functions' shallow texts, by gen.py. -/
set_option linter.unusedVariables false
set_option maxRecDepth 100000
namespace Go.Proofs.Ytfaeokcbfnlgbaa.G
open Go.V
def an_13 : Nat → Ann := fun b => match b with
  | _ => {}
abbrev rv_13 : List ResultVar := [.tmp 4]
abbrev rs_13 : List Nat := [20, 4]
def T_law13_far (W : World) (x1 : Option Addr) (l2 : Nat) (c3 : Nat) (x4 : Option Addr) (l5 : Nat) (c6 : Nat) (x7 : Option Addr) (l8 : Nat) (c9 : Nat) (R : Ending → Hp → Prop) : Hp → Prop :=
  NEW 25 [(.slice x1 l2 c3), (.slice x4 l5 c6)] fun B10 =>
    RDL (Addr.add ⟨B10, 0, none⟩ 0) fun x11 l12 c13 =>
      BR (decide ((↑l12 : Int) > 40))
        (R (.returned (.bool true)))
        (RDL (Addr.add ⟨B10, 0, none⟩ 1) fun x14 l15 c16 =>
          BR (decide ((↑l15 : Int) > 40))
            (R (.returned (.bool true)))
            (R (.returned (.bool (decide ((↑l8 : Int) > 40))))))
theorem T_law13_far_eq (W : World) (x1 : Option Addr) (l2 : Nat) (c3 : Nat) (x4 : Option Addr) (l5 : Nat) (c6 : Nat) (x7 : Option Addr) (l8 : Nat) (c9 : Nat) (R : Ending → Hp → Prop) : vfun Pg W an_13 Try.f13 [(.agg #[(.slice x1 l2 c3), (.slice x4 l5 c6)]), (.slice x7 l8 c9)] R = T_law13_far W x1 l2 c3 x4 l5 c6 x7 l8 c9 R := by kernel_rfl
theorem does_law13_far (W : World) (x1 : Option Addr) (l2 : Nat) (c3 : Nat) (x4 : Option Addr) (l5 : Nat) (c6 : Nat) (x7 : Option Addr) (l8 : Nat) (c9 : Nat) (R : Ending → Hp → Prop) (s : Hp) (h : T_law13_far W x1 l2 c3 x4 l5 c6 x7 l8 c9 R s) : Does Pg W F_law13_far #[(.agg #[(.slice x1 l2 c3), (.slice x4 l5 c6)]), (.slice x7 l8 c9)] s R :=
  does_of_vfun Pg W an_13 Try.func13 rfl (by kernel_rfl) (by rw [T_law13_far_eq]; exact h)
def an_41 : Nat → Ann := fun b => match b with
  | _ => {}
abbrev rv_41 : List ResultVar := [.cell 0 25]
abbrev rs_41 : List Nat := [14, 0]
def T_law13_sample (W : World) (R : Ending → Hp → Prop) : Hp → Prop :=
  NEWZ Pg 25 fun B1 =>
    NEW 48 [(.int .i64 2), (.int .i64 1), (.bool false), (.bool false), (.int .i64 1), (.int .i64 2), (.bool false), (.bool false), (.int .i64 3), (.int .i64 1), (.bool true), (.bool false), (.int .i64 5), (.int .i64 0), (.bool true), (.bool true), (.int .i64 4), (.int .i64 2), (.bool false), (.bool true)] fun B2 =>
      NEW 50 [(.int .i64 0), (.int .i64 100), (.int .i64 1), (.int .i64 50), (.int .i64 4), (.int .i64 80), (.int .i64 2), (.int .i64 40), (.int .i64 3), (.int .i64 20)] fun B3 =>
        WR (Addr.add ⟨B1, 0, none⟩ 0) (.slice (some ⟨B2, 0, none⟩) 5 5) <|
          WR (Addr.add ⟨B1, 0, none⟩ 1) (.slice (some ⟨B3, 0, none⟩) 5 5) <|
            RDL (Addr.add ⟨B1, 0, none⟩ 0) fun x4 l5 c6 =>
              RDL (Addr.add ⟨B1, 0, none⟩ 1) fun x7 l8 c9 =>
                R (.returned (.agg #[(.slice x4 l5 c6), (.slice x7 l8 c9)]))
theorem T_law13_sample_eq (W : World) (R : Ending → Hp → Prop) : vfun Pg W an_41 Try.f41 [] R = T_law13_sample W R := by kernel_rfl
theorem does_law13_sample (W : World) (R : Ending → Hp → Prop) (s : Hp) (h : T_law13_sample W R s) : Does Pg W F_law13_sample #[] s R :=
  does_of_vfun Pg W an_41 Try.func41 rfl (by kernel_rfl) (by rw [T_law13_sample_eq]; exact h)
end Go.Proofs.Ytfaeokcbfnlgbaa.G

/- More of the functions' shallow texts, by gen.py. -/
set_option linter.unusedVariables false
set_option maxRecDepth 100000
namespace Go.Proofs.Ytfaeokcbfnlgbaa.G
open Go.V
def an_14 : Nat → Ann := fun b => match b with
  | _ => {}
abbrev rv_14 : List ResultVar := [.tmp 0]
abbrev rs_14 : List Nat := [147, 0]
def J_law13_awake_0 (W : World) (R : Ending → Hp → Prop) (b212 : Bool) (n151 : Int) (n170 : Int) (n173 : Int) (n192 : Int) (n195 : Int) : Hp → Prop :=
  BR b212
    (BR (n151 == 0)
      (BR (n170 == 24)
        (BR (n173 == 0)
          (BR (n192 == 3)
            (R (.returned (.bool (n195 == 0))))
            (R (.returned (.bool false))))
          (R (.returned (.bool false))))
        (R (.returned (.bool false))))
      (R (.returned (.bool false))))
    (R (.returned (.bool false)))
def J_law13_awake_1 (W : World) (R : Ending → Hp → Prop) (b207 : Bool) (n143 : Int) (x146 : Option Addr) (l147 : Nat) (c148 : Nat) (n151 : Int) (n170 : Int) (n173 : Int) (n192 : Int) (n195 : Int) : Hp → Prop :=
  BR b207
    (R (.returned (.bool false)))
    (BR (n143 == 5)
      (NEW 3 [(.int .i64 0), (.int .i64 2), (.int .i64 1), (.int .i64 4), (.int .i64 3)] fun B208 =>
        CALL Pg W F_ref13_Ints [(.slice x146 l147 c148), (.slice (some ⟨B208, 0, none⟩) 5 5)]
          (fun v209 => TYB v209 fun b211 =>
            J_law13_awake_0 W R b211 n151 n170 n173 n192 n195)
            (fun e210 => R (.panicked e210)))
      (J_law13_awake_0 W R false n151 n170 n173 n192 n195))
def J_law13_awake_2 (W : World) (R : Ending → Hp → Prop) (b206 : Bool) (n143 : Int) (x146 : Option Addr) (l147 : Nat) (c148 : Nat) (n151 : Int) (n170 : Int) (n173 : Int) (n192 : Int) (n195 : Int) (n124 : Int) : Hp → Prop :=
  BR b206
    (J_law13_awake_1 W R true n143 x146 l147 c148 n151 n170 n173 n192 n195)
    (J_law13_awake_1 W R (n124 != 0) n143 x146 l147 c148 n151 n170 n173 n192 n195)
def J_law13_awake_3 (W : World) (R : Ending → Hp → Prop) (b205 : Bool) (n143 : Int) (x146 : Option Addr) (l147 : Nat) (c148 : Nat) (n151 : Int) (n170 : Int) (n173 : Int) (n192 : Int) (n195 : Int) (n124 : Int) (n121 : Int) : Hp → Prop :=
  BR b205
    (J_law13_awake_2 W R true n143 x146 l147 c148 n151 n170 n173 n192 n195 n124)
    (J_law13_awake_2 W R (n121 != 290) n143 x146 l147 c148 n151 n170 n173 n192 n195 n124)
def J_law13_awake_4 (W : World) (R : Ending → Hp → Prop) (b204 : Bool) (n143 : Int) (x146 : Option Addr) (l147 : Nat) (c148 : Nat) (n151 : Int) (n170 : Int) (n173 : Int) (n192 : Int) (n195 : Int) (n124 : Int) (n121 : Int) (x116 : Option Addr) (l117 : Nat) (c118 : Nat) : Hp → Prop :=
  BR b204
    (J_law13_awake_3 W R true n143 x146 l147 c148 n151 n170 n173 n192 n195 n124 n121)
    (NEW 3 [(.int .i64 80), (.int .i64 100), (.int .i64 50), (.int .i64 20), (.int .i64 40)] fun B213 =>
      CALL Pg W F_ref13_Ints [(.slice x116 l117 c118), (.slice (some ⟨B213, 0, none⟩) 5 5)]
        (fun v214 => TYB v214 fun b216 =>
          J_law13_awake_3 W R (!b216) n143 x146 l147 c148 n151 n170 n173 n192 n195 n124 n121)
          (fun e215 => R (.panicked e215)))
def J_law13_awake_5 (W : World) (R : Ending → Hp → Prop) (b203 : Bool) (n143 : Int) (x146 : Option Addr) (l147 : Nat) (c148 : Nat) (n151 : Int) (n170 : Int) (n173 : Int) (n192 : Int) (n195 : Int) (n124 : Int) (n121 : Int) (x116 : Option Addr) (l117 : Nat) (c118 : Nat) (n97 : Int) : Hp → Prop :=
  BR b203
    (J_law13_awake_4 W R true n143 x146 l147 c148 n151 n170 n173 n192 n195 n124 n121 x116 l117 c118)
    (J_law13_awake_4 W R (n97 != 0) n143 x146 l147 c148 n151 n170 n173 n192 n195 n124 n121 x116 l117 c118)
def J_law13_awake_6 (W : World) (R : Ending → Hp → Prop) (b202 : Bool) (n143 : Int) (x146 : Option Addr) (l147 : Nat) (c148 : Nat) (n151 : Int) (n170 : Int) (n173 : Int) (n192 : Int) (n195 : Int) (n124 : Int) (n121 : Int) (x116 : Option Addr) (l117 : Nat) (c118 : Nat) (n97 : Int) (n94 : Int) : Hp → Prop :=
  BR b202
    (J_law13_awake_5 W R true n143 x146 l147 c148 n151 n170 n173 n192 n195 n124 n121 x116 l117 c118 n97)
    (J_law13_awake_5 W R (n94 != 5) n143 x146 l147 c148 n151 n170 n173 n192 n195 n124 n121 x116 l117 c118 n97)
def J_law13_awake_7 (W : World) (R : Ending → Hp → Prop) (b201 : Bool) (n143 : Int) (x146 : Option Addr) (l147 : Nat) (c148 : Nat) (n151 : Int) (n170 : Int) (n173 : Int) (n192 : Int) (n195 : Int) (n124 : Int) (n121 : Int) (x116 : Option Addr) (l117 : Nat) (c118 : Nat) (n97 : Int) (n94 : Int) (n91 : Int) : Hp → Prop :=
  BR b201
    (J_law13_awake_6 W R true n143 x146 l147 c148 n151 n170 n173 n192 n195 n124 n121 x116 l117 c118 n97 n94)
    (J_law13_awake_6 W R (n91 != 1) n143 x146 l147 c148 n151 n170 n173 n192 n195 n124 n121 x116 l117 c118 n97 n94)
def J_law13_awake_8 (W : World) (R : Ending → Hp → Prop) (b200 : Bool) (n143 : Int) (x146 : Option Addr) (l147 : Nat) (c148 : Nat) (n151 : Int) (n170 : Int) (n173 : Int) (n192 : Int) (n195 : Int) (n124 : Int) (n121 : Int) (x116 : Option Addr) (l117 : Nat) (c118 : Nat) (n97 : Int) (n94 : Int) (n91 : Int) (n72 : Int) : Hp → Prop :=
  BR b200
    (J_law13_awake_7 W R true n143 x146 l147 c148 n151 n170 n173 n192 n195 n124 n121 x116 l117 c118 n97 n94 n91)
    (J_law13_awake_7 W R (n72 != 0) n143 x146 l147 c148 n151 n170 n173 n192 n195 n124 n121 x116 l117 c118 n97 n94 n91)
def J_law13_awake_9 (W : World) (R : Ending → Hp → Prop) (b199 : Bool) (n143 : Int) (x146 : Option Addr) (l147 : Nat) (c148 : Nat) (n151 : Int) (n170 : Int) (n173 : Int) (n192 : Int) (n195 : Int) (n124 : Int) (n121 : Int) (x116 : Option Addr) (l117 : Nat) (c118 : Nat) (n97 : Int) (n94 : Int) (n91 : Int) (n72 : Int) (n69 : Int) : Hp → Prop :=
  BR b199
    (J_law13_awake_8 W R true n143 x146 l147 c148 n151 n170 n173 n192 n195 n124 n121 x116 l117 c118 n97 n94 n91 n72)
    (J_law13_awake_8 W R (n69 != 3) n143 x146 l147 c148 n151 n170 n173 n192 n195 n124 n121 x116 l117 c118 n97 n94 n91 n72)
def J_law13_awake_10 (W : World) (R : Ending → Hp → Prop) (b198 : Bool) (n143 : Int) (x146 : Option Addr) (l147 : Nat) (c148 : Nat) (n151 : Int) (n170 : Int) (n173 : Int) (n192 : Int) (n195 : Int) (n124 : Int) (n121 : Int) (x116 : Option Addr) (l117 : Nat) (c118 : Nat) (n97 : Int) (n94 : Int) (n91 : Int) (n72 : Int) (n69 : Int) (n66 : Int) : Hp → Prop :=
  BR b198
    (J_law13_awake_9 W R true n143 x146 l147 c148 n151 n170 n173 n192 n195 n124 n121 x116 l117 c118 n97 n94 n91 n72 n69)
    (J_law13_awake_9 W R (n66 != 4) n143 x146 l147 c148 n151 n170 n173 n192 n195 n124 n121 x116 l117 c118 n97 n94 n91 n72 n69)
def J_law13_awake_11 (W : World) (R : Ending → Hp → Prop) (b197 : Bool) (n143 : Int) (x146 : Option Addr) (l147 : Nat) (c148 : Nat) (n151 : Int) (n170 : Int) (n173 : Int) (n192 : Int) (n195 : Int) (n124 : Int) (n121 : Int) (x116 : Option Addr) (l117 : Nat) (c118 : Nat) (n97 : Int) (n94 : Int) (n91 : Int) (n72 : Int) (n69 : Int) (n66 : Int) (n46 : Int) : Hp → Prop :=
  BR b197
    (J_law13_awake_10 W R true n143 x146 l147 c148 n151 n170 n173 n192 n195 n124 n121 x116 l117 c118 n97 n94 n91 n72 n69 n66)
    (J_law13_awake_10 W R (n46 != 0) n143 x146 l147 c148 n151 n170 n173 n192 n195 n124 n121 x116 l117 c118 n97 n94 n91 n72 n69 n66)
def J_law13_awake_12 (W : World) (R : Ending → Hp → Prop) (b196 : Bool) (n143 : Int) (x146 : Option Addr) (l147 : Nat) (c148 : Nat) (n151 : Int) (n170 : Int) (n173 : Int) (n192 : Int) (n195 : Int) (n124 : Int) (n121 : Int) (x116 : Option Addr) (l117 : Nat) (c118 : Nat) (n97 : Int) (n94 : Int) (n91 : Int) (n72 : Int) (n69 : Int) (n66 : Int) (n46 : Int) (x41 : Option Addr) (l42 : Nat) (c43 : Nat) : Hp → Prop :=
  BR b196
    (J_law13_awake_11 W R true n143 x146 l147 c148 n151 n170 n173 n192 n195 n124 n121 x116 l117 c118 n97 n94 n91 n72 n69 n66 n46)
    (NEW 3 [(.int .i64 1), (.int .i64 2), (.int .i64 0), (.int .i64 4), (.int .i64 3)] fun B217 =>
      CALL Pg W F_ref13_Ints [(.slice x41 l42 c43), (.slice (some ⟨B217, 0, none⟩) 5 5)]
        (fun v218 => TYB v218 fun b220 =>
          J_law13_awake_11 W R (!b220) n143 x146 l147 c148 n151 n170 n173 n192 n195 n124 n121 x116 l117 c118 n97 n94 n91 n72 n69 n66 n46)
          (fun e219 => R (.panicked e219)))
def T_law13_awake (W : World) (R : Ending → Hp → Prop) : Hp → Prop :=
  CALL Pg W F_law13_sample []
    (fun v1 => AGG v1 fun q3 => HD q3 fun v4 r5 => TYL v4 fun x6 l7 c8 =>
      HD r5 fun v9 r10 => TYL v9 fun x11 l12 c13 =>
        NL r10 <|
          CALL Pg W F_prize_Can [(.agg #[(.slice x6 l7 c8), (.slice x11 l12 c13)]), (.int .i64 3), (.int .i64 2)]
            (fun v14 => TUP v14 fun q16 => HD q16 fun v17 r18 => TYB v17 fun b19 =>
              HD r18 fun v20 r21 => TYI .i64 v20 fun n22 =>
                NL r21 <|
                  CALL Pg W F_law13_sample []
                    (fun v23 => AGG v23 fun q25 => HD q25 fun v26 r27 => TYL v26 fun x28 l29 c30 =>
                      HD r27 fun v31 r32 => TYL v31 fun x33 l34 c35 =>
                        NL r32 <|
                          CALL Pg W F_prize_Due [(.agg #[(.slice x28 l29 c30), (.slice x33 l34 c35)])]
                            (fun v36 => TUP v36 fun q38 => HD q38 fun v39 r40 => TYL v39 fun x41 l42 c43 =>
                              HD r40 fun v44 r45 => TYI .i64 v44 fun n46 =>
                                NL r45 <|
                                  CALL Pg W F_law13_sample []
                                    (fun v47 => AGG v47 fun q49 => HD q49 fun v50 r51 => TYL v50 fun x52 l53 c54 =>
                                      HD r51 fun v55 r56 => TYL v55 fun x57 l58 c59 =>
                                        NL r56 <|
                                          NEW 3 [(.int .i64 1), (.int .i64 2), (.int .i64 0), (.int .i64 4), (.int .i64 (-1))] fun B60 =>
                                            CALL Pg W F_prize_Wrong [(.agg #[(.slice x52 l53 c54), (.slice x57 l58 c59)]), (.slice (some ⟨B60, 0, none⟩) 5 5)]
                                              (fun v61 => TUP v61 fun q63 => HD q63 fun v64 r65 => TYI .i64 v64 fun n66 =>
                                                HD r65 fun v67 r68 => TYI .i64 v67 fun n69 =>
                                                  HD r68 fun v70 r71 => TYI .i64 v70 fun n72 =>
                                                    NL r71 <|
                                                      CALL Pg W F_law13_sample []
                                                        (fun v73 => AGG v73 fun q75 => HD q75 fun v76 r77 => TYL v76 fun x78 l79 c80 =>
                                                          HD r77 fun v81 r82 => TYL v81 fun x83 l84 c85 =>
                                                            NL r82 <|
                                                              CALL Pg W F_prize_Club [(.agg #[(.slice x78 l79 c80), (.slice x83 l84 c85)])]
                                                                (fun v86 => TUP v86 fun q88 => HD q88 fun v89 r90 => TYI .i64 v89 fun n91 =>
                                                                  HD r90 fun v92 r93 => TYI .i64 v92 fun n94 =>
                                                                    HD r93 fun v95 r96 => TYI .i64 v95 fun n97 =>
                                                                      NL r96 <|
                                                                        CALL Pg W F_law13_sample []
                                                                          (fun v98 => AGG v98 fun q100 => HD q100 fun v101 r102 => TYL v101 fun x103 l104 c105 =>
                                                                            HD r102 fun v106 r107 => TYL v106 fun x108 l109 c110 =>
                                                                              NL r107 <|
                                                                                CALL Pg W F_prize_Worth [(.agg #[(.slice x103 l104 c105), (.slice x108 l109 c110)]), (.slice x41 l42 c43)]
                                                                                  (fun v111 => TUP v111 fun q113 => HD q113 fun v114 r115 => TYL v114 fun x116 l117 c118 =>
                                                                                    HD r115 fun v119 r120 => TYI .i64 v119 fun n121 =>
                                                                                      HD r120 fun v122 r123 => TYI .i64 v122 fun n124 =>
                                                                                        NL r123 <|
                                                                                          CALL Pg W F_law13_sample []
                                                                                            (fun v125 => AGG v125 fun q127 => HD q127 fun v128 r129 => TYL v128 fun x130 l131 c132 =>
                                                                                              HD r129 fun v133 r134 => TYL v133 fun x135 l136 c137 =>
                                                                                                NL r134 <|
                                                                                                  CALL Pg W F_prize_Most [(.agg #[(.slice x130 l131 c132), (.slice x135 l136 c137)])]
                                                                                                    (fun v138 => TUP v138 fun q140 => HD q140 fun v141 r142 => TYI .i64 v141 fun n143 =>
                                                                                                      HD r142 fun v144 r145 => TYL v144 fun x146 l147 c148 =>
                                                                                                        HD r145 fun v149 r150 => TYI .i64 v149 fun n151 =>
                                                                                                          NL r150 <|
                                                                                                            CALL Pg W F_law13_sample []
                                                                                                              (fun v152 => AGG v152 fun q154 => HD q154 fun v155 r156 => TYL v155 fun x157 l158 c159 =>
                                                                                                                HD r156 fun v160 r161 => TYL v160 fun x162 l163 c164 =>
                                                                                                                  NL r161 <|
                                                                                                                    CALL Pg W F_prize_Stay [(.agg #[(.slice x157 l158 c159), (.slice x162 l163 c164)]), (.int .i64 0)]
                                                                                                                      (fun v165 => TUP v165 fun q167 => HD q167 fun v168 r169 => TYI .i64 v168 fun n170 =>
                                                                                                                        HD r169 fun v171 r172 => TYI .i64 v171 fun n173 =>
                                                                                                                          NL r172 <|
                                                                                                                            CALL Pg W F_law13_sample []
                                                                                                                              (fun v174 => AGG v174 fun q176 => HD q176 fun v177 r178 => TYL v177 fun x179 l180 c181 =>
                                                                                                                                HD r178 fun v182 r183 => TYL v182 fun x184 l185 c186 =>
                                                                                                                                  NL r183 <|
                                                                                                                                    CALL Pg W F_prize_For [(.agg #[(.slice x179 l180 c181), (.slice x184 l185 c186)]), (.int .i64 0)]
                                                                                                                                      (fun v187 => TUP v187 fun q189 => HD q189 fun v190 r191 => TYI .i64 v190 fun n192 =>
                                                                                                                                        HD r191 fun v193 r194 => TYI .i64 v193 fun n195 =>
                                                                                                                                          NL r194 <|
                                                                                                                                            BR b19
                                                                                                                                              (J_law13_awake_12 W R true n143 x146 l147 c148 n151 n170 n173 n192 n195 n124 n121 x116 l117 c118 n97 n94 n91 n72 n69 n66 n46 x41 l42 c43)
                                                                                                                                              (J_law13_awake_12 W R (n22 != 0) n143 x146 l147 c148 n151 n170 n173 n192 n195 n124 n121 x116 l117 c118 n97 n94 n91 n72 n69 n66 n46 x41 l42 c43))
                                                                                                                                        (fun e188 => R (.panicked e188)))
                                                                                                                                (fun e175 => R (.panicked e175)))
                                                                                                                        (fun e166 => R (.panicked e166)))
                                                                                                                (fun e153 => R (.panicked e153)))
                                                                                                      (fun e139 => R (.panicked e139)))
                                                                                              (fun e126 => R (.panicked e126)))
                                                                                    (fun e112 => R (.panicked e112)))
                                                                            (fun e99 => R (.panicked e99)))
                                                                  (fun e87 => R (.panicked e87)))
                                                          (fun e74 => R (.panicked e74)))
                                                (fun e62 => R (.panicked e62)))
                                      (fun e48 => R (.panicked e48)))
                              (fun e37 => R (.panicked e37)))
                      (fun e24 => R (.panicked e24)))
              (fun e15 => R (.panicked e15)))
      (fun e2 => R (.panicked e2))
theorem T_law13_awake_eq (W : World) (R : Ending → Hp → Prop) : vfun Pg W an_14 Try.f14 [] R = T_law13_awake W R := by kernel_rfl
theorem does_law13_awake (W : World) (R : Ending → Hp → Prop) (s : Hp) (h : T_law13_awake W R s) : Does Pg W F_law13_awake #[] s R :=
  does_of_vfun Pg W an_14 Try.func14 rfl (by kernel_rfl) (by rw [T_law13_awake_eq]; exact h)
end Go.Proofs.Ytfaeokcbfnlgbaa.G

/- Prize: what the document fixes. -/
set_option linter.unusedSimpArgs false
set_option linter.unusedVariables false
set_option maxRecDepth 20000
namespace Go.Proofs.Ytfaeokcbfnlgbaa.G
open Go.V
def pz2 (m : Pz) : List Value := [.int .i64 m.kind, .int .i64 m.worth]
def pzV (l : List Pz) : List Value := l.flatMap pz2
theorem pzV_len : ∀ l : List Pz, (pzV l).length = l.length * 2
  | [] => rfl
  | x :: l => by
    have ih := pzV_len l
    show (pz2 x ++ pzV l).length = _
    rw [List.length_append, ih, List.length_cons]
    show 2 + _ = _
    omega
theorem pzV_one (l : List Pz) : ∀ v ∈ pzV l, oneCell v = true := by
  intro v hv
  obtain ⟨m, _, h⟩ := List.mem_flatMap.1 hv
  simp [pz2] at h
  rcases h with rfl | rfl <;> rfl
theorem pzV_get : ∀ (l : List Pz) (k : Nat) (h : k < l.length), (pzV l)[k * 2]? = some (.int .i64 l[k].kind) ∧ (pzV l)[k * 2 + 1]? = some (.int .i64 l[k].worth)
  | [], k, h => by simp at h
  | x :: l, 0, h => ⟨rfl, rfl⟩
  | x :: l, k + 1, h => by
    obtain ⟨h1, h2⟩ := pzV_get l k (by simpa using h)
    have e : ∀ j : Nat, (pzV (x :: l))[2 + j]? = (pzV l)[j]? := fun j => by
      show (pz2 x ++ pzV l)[2 + j]? = _
      rw [List.getElem?_append_right (show (pz2 x).length ≤ 2 + j by show 2 ≤ _; omega)]
      congr 1
      show 2 + j - 2 = j
      omega
    refine ⟨?_, ?_⟩
    · rw [show (k + 1) * 2 = 2 + k * 2 by omega, e, h1]; rfl
    · rw [show (k + 1) * 2 + 1 = 2 + (k * 2 + 1) by omega, e, h2]; rfl
theorem row_pz {s : Hp} {x : Option Addr} {l : List Pz} (h : RowAt s x (pzV l)) : PzAt s x l := fun i hi => by
  obtain ⟨g1, g2⟩ := pzV_get l i hi
  obtain ⟨a, h0, h1⟩ := row_get h g1
  obtain ⟨b, k0, h2⟩ := row_get h g2
  rw [h0] at k0; cases k0
  exact ⟨a, h0, by rw [addr_add]; exact h1, by rw [addr_add]; exact h2⟩
theorem pz_row' {s : Hp} {x : Option Addr} {l : List Pz} (h : PzAt s x l) : RowAt s x (pzV l) := fun i hi => by
  have hi' := hi
  rw [pzV_len] at hi'
  have hk : i / 2 < l.length := by omega
  obtain ⟨a, h0, h1, h2⟩ := h (i / 2) hk
  obtain ⟨g1, g2⟩ := pzV_get l (i / 2) hk
  refine ⟨a, h0, ?_⟩
  rw [Nat.mul_one]
  rcases Nat.mod_two_eq_zero_or_one i with e | e
  · have e' : i / 2 * 2 = i := by omega
    rw [addr_add] at h1
    simp only [e', Nat.add_zero] at h1 g1
    rw [h1, ← g1, List.getElem?_eq_getElem hi]
  · have e' : i / 2 * 2 + 1 = i := by omega
    rw [addr_add] at h2
    simp only [e'] at h2 g2
    rw [h2, ← g2, List.getElem?_eq_getElem hi]
/-- The prizes of the document's examples. -/
def SP : PT := ⟨[⟨2, 1, false, false⟩, ⟨1, 2, false, false⟩, ⟨3, 1, true, false⟩, ⟨5, 0, true, true⟩, ⟨4, 2, false, true⟩], [⟨0, 100⟩, ⟨1, 50⟩, ⟨4, 80⟩, ⟨2, 40⟩, ⟨3, 20⟩]⟩
theorem sp_can : canR SP 3 2 = (false, 0) := by decide +kernel
theorem sp_due : dueR SP = ([1, 2, 0, 4, 3], 0) := by decide +kernel
theorem sp_wrong : wrongR SP [1, 2, 0, 4, -1] = (4, 3, 0) := by decide +kernel
theorem sp_club : clubR SP = (1, 5, 0) := by decide +kernel
theorem sp_worth : worthR SP [1, 2, 0, 4, 3] = ([80, 100, 50, 20, 40], 290, 0) := by decide +kernel
theorem sp_most : mostR SP = (5, [0, 2, 1, 4, 3], 0) := by decide +kernel
theorem sp_stay : stayR SP 0 = (24, 0) := by decide +kernel
theorem sp_for : forR SP 0 = (3, 0) := by decide +kernel
section
variable {W : World} {K : VK} {E : List PanicEntry → Hp → Prop} {s : Hp} {T : PT}
theorem c_far {x y q : Option Addr} {c c' l cq : Nat} (h : ∀ s' b, Ext s s' → (b = false → T.n ≤ 40 ∧ T.z ≤ 40 ∧ l ≤ 40) → K (.bool b) s') :
    CALL Pg W F_law13_far [.agg #[.slice x T.n c, .slice y T.z c'], .slice q l cq] K E s := by
  refine does_law13_far W x T.n c y T.z c' q l cq _ s ?_
  unfold T_law13_far
  refine ne2 fun s1 e1 z1 o1 o2 => ?_
  refine ⟨_, _, _, o1.cell, ?_⟩
  refine BR_dec (fun h1 => h s1 true e1 (fun hh => by cases hh)) (fun h1 => ?_)
  refine ⟨_, _, _, o2.cell, ?_⟩
  refine BR_dec (fun h2 => h s1 true e1 (fun hh => by cases hh)) (fun h2 => ?_)
  exact h s1 _ e1 (fun hh => by have := of_decide_eq_false hh; omega)
theorem wr2 {a : Addr} {v0 v1 : Value} {K : Hp → Prop} (h0 : oneCell v0 = true) (h1 : oneCell v1 = true) (ha : ∀ j, j < 2 → ∃ y, Own s (a.add j) y) (h : ∀ s', Kp (· = a.block) s s' → s'.size = s.size → Own s' (a.add 0) v0 → Own s' (a.add 1) v1 → K s') :
    (WR (a.add 0) v0 <| WR (a.add 1) v1 <| K) s := by
  show wrN [v0, v1] a 0 K s
  refine wrN_rule _ a 0 K s (fun i hi => ?_) ?_ ?_
  · rw [Nat.zero_add]; exact ha i hi
  · intro w hw
    simp at hw
    rcases hw with rfl | rfl <;> assumption
  · intro s' k z ho _
    exact h s' k z (ho 0 (by simp)) (ho 1 (by simp))
theorem c_sample (h : ∀ s' x y, Ext s s' → MnAt s' x SP.men → PzAt s' y SP.list → K (.agg #[.slice x 5 5, .slice y 5 5]) s') : CALL Pg W F_law13_sample [] K E s := by
  refine does_law13_sample W _ s ?_
  unfold T_law13_sample
  refine nz2 zc_25 fun s1 e1 z1 q1 q2 => ?_
  refine NEW_rule fun s2 e2 z2 n2 _ => ?_
  refine NEW_rule fun s3 e3 z3 n3 _ => ?_
  have e13 := e2.trans e3
  have hs12 : s.size < s1.size := by omega
  refine wr2 (a := ⟨s.size, 0, none⟩) rfl rfl (fun j hj => ?_) fun t k z o0 o1 => ?_
  · match j, hj with
    | 0, _ => exact ⟨_, e13.own q1⟩
    | 1, _ => exact ⟨_, e13.own q2⟩
  · refine ⟨_, _, _, o0.cell, _, _, _, o1.cell, ?_⟩
    refine h t _ _ (ext_kp (e1.trans e13) (Nat.le_refl _) k) (row_mn ?_) (row_pz ?_)
    · exact ((row_new (vs := mnV SP.men) n2).ext e3).keep k (fun a ha => by cases ha; show ¬ s1.size = s.size; omega)
    · exact (row_new (vs := pzV SP.list) n3).keep k (fun a ha => by cases ha; show ¬ s2.size = s.size; have := e2.1; omega)
theorem x_Can {x y : Option Addr} {c c' : Nat} (hx : MnAt s x SP.men) (hy : PzAt s y SP.list) (h : ∀ s', Ext s s' → K (.tuple #[.bool false, .int .i64 0]) s') : CALL Pg W F_prize_Can [.agg #[.slice x 5 c, .slice y 5 c'], .int .i64 3, .int .i64 2] K E s :=
  c_Can (T := SP) (m := 3) (z := 2) hx hy (by rw [sp_can]; exact h)
theorem x_Due {x y : Option Addr} {c c' : Nat} (hx : MnAt s x SP.men) (hy : PzAt s y SP.list) (h : ∀ s' q cq, Ext s s' → RowAt s' q (ints [1, 2, 0, 4, 3]) → K (.tuple #[.slice q 5 cq, .int .i64 0]) s') : CALL Pg W F_prize_Due [.agg #[.slice x 5 c, .slice y 5 c']] K E s :=
  c_Due (T := SP) hx hy (by rw [sp_due]; exact fun s' q cq e f => h s' q cq e f.row)
theorem x_Wrong {x y q : Option Addr} {c c' cq : Nat} (hx : MnAt s x SP.men) (hy : PzAt s y SP.list) (hq : RowAt s q (ints [1, 2, 0, 4, -1])) (h : ∀ s', Ext s s' → K (.tuple #[.int .i64 4, .int .i64 3, .int .i64 0]) s') : CALL Pg W F_prize_Wrong [.agg #[.slice x 5 c, .slice y 5 c'], .slice q 5 cq] K E s :=
  c_Wrong (T := SP) (ds := [1, 2, 0, 4, -1]) hx hy hq (by rw [sp_wrong]; exact h)
theorem x_Club {x y : Option Addr} {c c' : Nat} (hx : MnAt s x SP.men) (hy : PzAt s y SP.list) (h : ∀ s', Ext s s' → K (.tuple #[.int .i64 1, .int .i64 5, .int .i64 0]) s') : CALL Pg W F_prize_Club [.agg #[.slice x 5 c, .slice y 5 c']] K E s :=
  c_Club (T := SP) hx hy (by rw [sp_club]; exact h)
theorem x_Worth {x y q : Option Addr} {c c' cq : Nat} (hx : MnAt s x SP.men) (hy : PzAt s y SP.list) (hq : RowAt s q (ints [1, 2, 0, 4, 3])) (h : ∀ s' w cw, Ext s s' → RowAt s' w (ints [80, 100, 50, 20, 40]) → K (.tuple #[.slice w 5 cw, .int .i64 290, .int .i64 0]) s') : CALL Pg W F_prize_Worth [.agg #[.slice x 5 c, .slice y 5 c'], .slice q 5 cq] K E s :=
  c_Worth (T := SP) (ds := [1, 2, 0, 4, 3]) hx hy hq (by rw [sp_worth]; exact fun s' w cw e f => h s' w cw e f.row)
theorem x_Most {x y : Option Addr} {c c' : Nat} (hx : MnAt s x SP.men) (hy : PzAt s y SP.list) (h : ∀ s' q cq, Ext s s' → RowAt s' q (ints [0, 2, 1, 4, 3]) → K (.tuple #[.int .i64 5, .slice q 5 cq, .int .i64 0]) s') : CALL Pg W F_prize_Most [.agg #[.slice x 5 c, .slice y 5 c']] K E s :=
  c_Most (T := SP) hx hy (by rw [sp_most]; exact fun s' q cq e f => h s' q cq e f.row)
theorem x_Stay {x y : Option Addr} {c c' : Nat} (hx : MnAt s x SP.men) (hy : PzAt s y SP.list) (h : ∀ s', Ext s s' → K (.tuple #[.int .i64 24, .int .i64 0]) s') : CALL Pg W F_prize_Stay [.agg #[.slice x 5 c, .slice y 5 c'], .int .i64 0] K E s :=
  c_Stay (T := SP) (m := 0) hx hy (by rw [sp_stay]; exact h)
theorem x_For {x y : Option Addr} {c c' : Nat} (hx : MnAt s x SP.men) (hy : PzAt s y SP.list) (h : ∀ s', Ext s s' → K (.tuple #[.int .i64 3, .int .i64 0]) s') : CALL Pg W F_prize_For [.agg #[.slice x 5 c, .slice y 5 c'], .int .i64 0] K E s :=
  c_For (T := SP) (m := 0) hx hy (by rw [sp_for]; exact h)
theorem c_awake (h : ∀ s', Ext s s' → K (.bool true) s') : CALL Pg W F_law13_awake [] K E s := by
  refine does_law13_awake W _ s ?_
  unfold T_law13_awake
  refine c_sample fun s1 x1 y1 e1 r1 q1 => ?_
  try simp only [TUP_mk, AGG_mk, HD_mk, NL_mk, TYI_mk, TYB_mk, TYP_mk, TYL_mk, TYS_mk, TYM_mk, SO_mk, NX_mk, endK_mk, endK_mk', add_0]
  refine x_Can r1 q1 fun s2 e2 => ?_
  try simp only [TUP_mk, AGG_mk, HD_mk, NL_mk, TYI_mk, TYB_mk, TYP_mk, TYL_mk, TYS_mk, TYM_mk, SO_mk, NX_mk, endK_mk, endK_mk', add_0]
  refine c_sample fun s3 x3 y3 e3 r3 q3 => ?_
  try simp only [TUP_mk, AGG_mk, HD_mk, NL_mk, TYI_mk, TYB_mk, TYP_mk, TYL_mk, TYS_mk, TYM_mk, SO_mk, NX_mk, endK_mk, endK_mk', add_0]
  refine x_Due r3 q3 fun s4 d4 cd4 e4 w4 => ?_
  try simp only [TUP_mk, AGG_mk, HD_mk, NL_mk, TYI_mk, TYB_mk, TYP_mk, TYL_mk, TYS_mk, TYM_mk, SO_mk, NX_mk, endK_mk, endK_mk', add_0]
  refine c_sample fun s5 x5 y5 e5 r5 q5 => ?_
  try simp only [TUP_mk, AGG_mk, HD_mk, NL_mk, TYI_mk, TYB_mk, TYP_mk, TYL_mk, TYS_mk, TYM_mk, SO_mk, NX_mk, endK_mk, endK_mk', add_0]
  refine NEW_rule fun s6 e6 z6 n6 _ => ?_
  refine x_Wrong (r5.ext e6) (q5.ext e6) (row_new (vs := ints [1, 2, 0, 4, -1]) n6) fun s7 e7 => ?_
  try simp only [TUP_mk, AGG_mk, HD_mk, NL_mk, TYI_mk, TYB_mk, TYP_mk, TYL_mk, TYS_mk, TYM_mk, SO_mk, NX_mk, endK_mk, endK_mk', add_0]
  refine c_sample fun s8 x8 y8 e8 r8 q8 => ?_
  try simp only [TUP_mk, AGG_mk, HD_mk, NL_mk, TYI_mk, TYB_mk, TYP_mk, TYL_mk, TYS_mk, TYM_mk, SO_mk, NX_mk, endK_mk, endK_mk', add_0]
  refine x_Club r8 q8 fun s9 e9 => ?_
  try simp only [TUP_mk, AGG_mk, HD_mk, NL_mk, TYI_mk, TYB_mk, TYP_mk, TYL_mk, TYS_mk, TYM_mk, SO_mk, NX_mk, endK_mk, endK_mk', add_0]
  refine c_sample fun t1 x11 y11 f1 r11 q11 => ?_
  try simp only [TUP_mk, AGG_mk, HD_mk, NL_mk, TYI_mk, TYB_mk, TYP_mk, TYL_mk, TYS_mk, TYM_mk, SO_mk, NX_mk, endK_mk, endK_mk', add_0]
  have g5 := e5.trans (e6.trans (e7.trans (e8.trans (e9.trans f1))))
  refine x_Worth r11 q11 (w4.ext g5) fun t2 w2 cw2 f2 v2 => ?_
  try simp only [TUP_mk, AGG_mk, HD_mk, NL_mk, TYI_mk, TYB_mk, TYP_mk, TYL_mk, TYS_mk, TYM_mk, SO_mk, NX_mk, endK_mk, endK_mk', add_0]
  refine c_sample fun t3 x13 y13 f3 r13 q13 => ?_
  try simp only [TUP_mk, AGG_mk, HD_mk, NL_mk, TYI_mk, TYB_mk, TYP_mk, TYL_mk, TYS_mk, TYM_mk, SO_mk, NX_mk, endK_mk, endK_mk', add_0]
  refine x_Most r13 q13 fun t4 m4 cm4 f4 v4 => ?_
  try simp only [TUP_mk, AGG_mk, HD_mk, NL_mk, TYI_mk, TYB_mk, TYP_mk, TYL_mk, TYS_mk, TYM_mk, SO_mk, NX_mk, endK_mk, endK_mk', add_0]
  refine c_sample fun t5 x15 y15 f5 r15 q15 => ?_
  try simp only [TUP_mk, AGG_mk, HD_mk, NL_mk, TYI_mk, TYB_mk, TYP_mk, TYL_mk, TYS_mk, TYM_mk, SO_mk, NX_mk, endK_mk, endK_mk', add_0]
  refine x_Stay r15 q15 fun t6 f6 => ?_
  try simp only [TUP_mk, AGG_mk, HD_mk, NL_mk, TYI_mk, TYB_mk, TYP_mk, TYL_mk, TYS_mk, TYM_mk, SO_mk, NX_mk, endK_mk, endK_mk', add_0]
  refine c_sample fun t7 x17 y17 f7 r17 q17 => ?_
  try simp only [TUP_mk, AGG_mk, HD_mk, NL_mk, TYI_mk, TYB_mk, TYP_mk, TYL_mk, TYS_mk, TYM_mk, SO_mk, NX_mk, endK_mk, endK_mk', add_0]
  refine x_For r17 q17 fun t8 f8 => ?_
  try simp only [TUP_mk, AGG_mk, HD_mk, NL_mk, TYI_mk, TYB_mk, TYP_mk, TYL_mk, TYS_mk, TYM_mk, SO_mk, NX_mk, endK_mk, endK_mk', add_0]
  have g8 := f5.trans (f6.trans (f7.trans f8))
  have g28 := f3.trans (f4.trans g8)
  have e0t := e1.trans (e2.trans (e3.trans (e4.trans (g5.trans (f2.trans g28)))))
  refine BR_bool (fun hh => by cases hh) (fun _ => ?_)
  unfold J_law13_awake_12
  refine BR_ne (fun hh => absurd rfl hh) (fun _ => ?_)
  refine NEW_rule fun u1 h1 _ n1 _ => ?_
  refine f_Ints (a := [1, 2, 0, 4, 3]) (b := [1, 2, 0, 4, 3]) (w4.ext (g5.trans (f2.trans (g28.trans h1)))) (row_new (vs := ints [1, 2, 0, 4, 3]) n1) rfl rfl (by decide) ?_
  try simp only [TUP_mk, AGG_mk, HD_mk, NL_mk, TYI_mk, TYB_mk, TYP_mk, TYL_mk, TYS_mk, TYM_mk, SO_mk, NX_mk, endK_mk, endK_mk', add_0]
  unfold J_law13_awake_11
  refine BR_bool (fun hh => absurd hh (by decide)) (fun _ => ?_)
  unfold J_law13_awake_10
  refine BR_ne (fun hh => absurd rfl hh) (fun _ => ?_)
  unfold J_law13_awake_9
  refine BR_ne (fun hh => absurd rfl hh) (fun _ => ?_)
  unfold J_law13_awake_8
  refine BR_ne (fun hh => absurd rfl hh) (fun _ => ?_)
  unfold J_law13_awake_7
  refine BR_ne (fun hh => absurd rfl hh) (fun _ => ?_)
  unfold J_law13_awake_6
  refine BR_ne (fun hh => absurd rfl hh) (fun _ => ?_)
  unfold J_law13_awake_5
  refine BR_ne (fun hh => absurd rfl hh) (fun _ => ?_)
  unfold J_law13_awake_4
  refine BR_ne (fun hh => absurd rfl hh) (fun _ => ?_)
  refine NEW_rule fun u2 h2 _ n2 _ => ?_
  refine f_Ints (a := [80, 100, 50, 20, 40]) (b := [80, 100, 50, 20, 40]) (v2.ext (g28.trans (h1.trans h2))) (row_new (vs := ints [80, 100, 50, 20, 40]) n2) rfl rfl (by decide) ?_
  try simp only [TUP_mk, AGG_mk, HD_mk, NL_mk, TYI_mk, TYB_mk, TYP_mk, TYL_mk, TYS_mk, TYM_mk, SO_mk, NX_mk, endK_mk, endK_mk', add_0]
  unfold J_law13_awake_3
  refine BR_bool (fun hh => absurd hh (by decide)) (fun _ => ?_)
  unfold J_law13_awake_2
  refine BR_ne (fun hh => absurd rfl hh) (fun _ => ?_)
  unfold J_law13_awake_1
  refine BR_ne (fun hh => absurd rfl hh) (fun _ => ?_)
  refine BR_eq (fun _ => ?_) (fun hh => absurd rfl hh)
  refine NEW_rule fun u3 h3 _ n3 _ => ?_
  refine f_Ints (a := [0, 2, 1, 4, 3]) (b := [0, 2, 1, 4, 3]) (v4.ext (g8.trans (h1.trans (h2.trans h3)))) (row_new (vs := ints [0, 2, 1, 4, 3]) n3) rfl rfl (by decide) ?_
  try simp only [TUP_mk, AGG_mk, HD_mk, NL_mk, TYI_mk, TYB_mk, TYP_mk, TYL_mk, TYS_mk, TYM_mk, SO_mk, NX_mk, endK_mk, endK_mk', add_0]
  unfold J_law13_awake_0
  refine BR_bool (fun _ => ?_) (fun hh => absurd hh (by decide))
  refine BR_eq (fun _ => ?_) (fun hh => absurd rfl hh)
  refine BR_eq (fun _ => ?_) (fun hh => absurd rfl hh)
  refine BR_eq (fun _ => ?_) (fun hh => absurd rfl hh)
  refine BR_eq (fun _ => ?_) (fun hh => absurd rfl hh)
  exact h u3 (e0t.trans (h1.trans (h2.trans h3)))
theorem c_awake' {s0 : Hp} (e : Ext s0 s) (h : ∀ s', Ext s0 s' → K (.bool true) s') : CALL Pg W F_law13_awake [] K E s := c_awake fun s' e' => h s' (e.trans e')
end
end Go.Proofs.Ytfaeokcbfnlgbaa.G

/- Prize: contracts for valid prizes. -/
set_option linter.unusedSimpArgs false
set_option linter.unusedVariables false
set_option maxRecDepth 20000
namespace Go.Proofs.Ytfaeokcbfnlgbaa.G
open Go.V
theorem due_len (T : PT) : (manL (dueP T)).length = T.z := by unfold manL dueP; rw [List.length_map, dueL_len]
section
variable {W : World} {K : VK} {E : List PanicEntry → Hp → Prop} {s : Hp} {T : PT}
theorem c_DueV {x y : Option Addr} {c c' : Nat} (hok : okP T = true) (hx : MnAt s x T.men) (hy : PzAt s y T.list) (h : ∀ s' q cq, Ext s s' → Fr s.size s' q T.z cq 1 (ints (manL (dueP T))) → K (.tuple #[.slice q T.z cq, .int .i64 0]) s') :
    CALL Pg W F_prize_Due [.agg #[.slice x T.n c, .slice y T.z c']] K E s := by
  refine c_Due hx hy fun s' q cq e f => ?_
  have hD : dueR T = (manL (dueP T), 0) := by unfold dueR; rw [if_pos hok]
  have hl := due_len T
  rw [hD] at f ⊢
  simp only [hl] at f ⊢
  exact h s' q cq e f
theorem c_DueN {x y : Option Addr} {c c' : Nat} (hok : okP T = false) (hx : MnAt s x T.men) (hy : PzAt s y T.list) (h : ∀ s' q cq, Ext s s' → K (.tuple #[.slice q 0 cq, .int .i64 1]) s') :
    CALL Pg W F_prize_Due [.agg #[.slice x T.n c, .slice y T.z c']] K E s := by
  refine c_Due hx hy fun s' q cq e f => ?_
  have hD : dueR T = ([], 1) := by unfold dueR; rw [hok]; rfl
  rw [hD]
  exact h s' q cq e
theorem c_ClubN {x y : Option Addr} {c c' : Nat} (hok : okP T = false) (hx : MnAt s x T.men) (hy : PzAt s y T.list) (h : ∀ s', Ext s s' → K (.tuple #[.int .i64 0, .int .i64 0, .int .i64 1]) s') :
    CALL Pg W F_prize_Club [.agg #[.slice x T.n c, .slice y T.z c']] K E s := by
  refine c_Club hx hy fun s' e => ?_
  have hD : clubR T = (0, 0, 1) := by unfold clubR; rw [hok]; rfl
  rw [hD]
  exact h s' e
theorem c_ClubV {x y : Option Addr} {c c' : Nat} (hok : okP T = true) (hx : MnAt s x T.men) (hy : PzAt s y T.list) (h : ∀ s', Ext s s' → K (.tuple #[.int .i64 (bestP T).1, .int .i64 (bestP T).2, .int .i64 (if bestP T = (0, 0) then 4 else 0)]) s') :
    CALL Pg W F_prize_Club [.agg #[.slice x T.n c, .slice y T.z c']] K E s := by
  refine c_Club hx hy fun s' e => ?_
  have hD : clubR T = ((bestP T).1, (bestP T).2, if bestP T = (0, 0) then 4 else 0) := by
    unfold clubR
    rw [if_pos hok]
    by_cases hb : bestP T = (0, 0)
    · rw [if_pos hb, if_pos hb, hb]
    · rw [if_neg hb, if_neg hb]
  rw [hD]
  exact h s' e
theorem c_CanV {x y : Option Addr} {c c' m z : Nat} (hok : okP T = true) (hm : m < T.n) (hz : z < T.z) (hx : MnAt s x T.men) (hy : PzAt s y T.list) (h : ∀ s', Ext s s' → K (.tuple #[.bool (canP T m z), .int .i64 0]) s') :
    CALL Pg W F_prize_Can [.agg #[.slice x T.n c, .slice y T.z c'], .int .i64 (m : Nat), .int .i64 (z : Nat)] K E s := by
  refine c_Can hx hy fun s' e => ?_
  have h1 : isM T (m : Nat) = true := decide_eq_true (by omega)
  have h2 : isZ T (z : Nat) = true := decide_eq_true (by omega)
  have hD : canR T (m : Nat) (z : Nat) = (canP T m z, 0) := by unfold canR; rw [if_pos hok, h1, h2, toNat_nat, toNat_nat]; rfl
  rw [hD]
  exact h s' e
theorem c_WrongL {x y q : Option Addr} {c c' cq l : Nat} {ds : List Int} (hl : l = ds.length) (hx : MnAt s x T.men) (hy : PzAt s y T.list) (hq : RowAt s q (ints ds)) (h : ∀ s', Ext s s' → K (.tuple #[.int .i64 (wrongR T ds).1, .int .i64 (wrongR T ds).2.1, .int .i64 (wrongR T ds).2.2]) s') :
    CALL Pg W F_prize_Wrong [.agg #[.slice x T.n c, .slice y T.z c'], .slice q l cq] K E s := by
  subst hl; exact c_Wrong hx hy hq h
theorem c_WorthL {x y q : Option Addr} {c c' cq l : Nat} {ds : List Int} (hl : l = ds.length) (hx : MnAt s x T.men) (hy : PzAt s y T.list) (hq : RowAt s q (ints ds)) (h : ∀ s' w cw, Ext s s' → Fr s.size s' w (worthR T ds).1.length cw 1 (ints (worthR T ds).1) → K (.tuple #[.slice w (worthR T ds).1.length cw, .int .i64 (worthR T ds).2.1, .int .i64 (worthR T ds).2.2]) s') :
    CALL Pg W F_prize_Worth [.agg #[.slice x T.n c, .slice y T.z c'], .slice q l cq] K E s := by
  subst hl; exact c_Worth hx hy hq h
end
theorem canC_no {T : PT} {k z : Nat} (hb : bestP T = (0, 0)) (h4 : (T.pz z).kind = 4) : canC T k z = false := by
  unfold canC canP canK
  rw [h4, hb]
  by_cases hc : (T.man k).club = 0 <;> simp [hc]
theorem canC_not4 {T : PT} {k z : Nat} (h4 : ¬ (T.pz z).kind = 4) : canC T k z = canP T k z := by
  unfold canC
  rw [decide_eq_true h4]; simp
theorem canC_4 {T : PT} {k z : Nat} (h4 : (T.pz z).kind = 4) : canC T k z = (canP T k z && ((T.man k).club == (bestP T).1)) := by
  unfold canC
  rw [h4]; simp
end Go.Proofs.Ytfaeokcbfnlgbaa.G

/- More of the functions' shallow texts, by gen.py. -/
set_option linter.unusedVariables false
set_option maxRecDepth 100000
namespace Go.Proofs.Ytfaeokcbfnlgbaa.G
open Go.V
def an_33 : Nat → Ann := fun b => match b with
  | 0 => { ms := [6, 7, 13], ks := [.i .i64, .i .i64, .i .i64], us := [1, 2, 4, 5, 11, 12, 60], rt := false, ex := [] }
  | _ => {}
abbrev rv_33 : List ResultVar := [.tmp 4, .tmp 5]
abbrev rs_33 : List Nat := [60, 4, 5]
def L_law13_sum_0 (W : World) (R : Ending → Hp → Prop) (zn0 : Int) (za1 : Addr) (zp2 : Option Addr) (zl3 : Nat) (zl4 : Nat) (zn5 : Int) (n12 : Int) (n13 : Int) (n14 : Int) : Hp → Prop :=
  LOOPN [.i .i64, .i .i64, .i .i64] (fun ys next s => ∀ j : Tm, vc Pg W 60 rs_33 an_33 false (sub (bodyOf Try.f33) [1, 1, 0, 1, 0, 0]) 0 (KLoop [6, 7, 13] [1, 2, 4, 5, 11, 12, 60] [(.int .i64 zn0), (.pointer (some za1)), (.int .i64 0), (.bool false), (.slice zp2 zl3 zl4), (.int .i64 zn5), (.tuple #[])] next (KBlk 0 (KS Pg W 60 rs_33 an_33 false (sub (bodyOf Try.f33) [1, 1, 1]) 0 (fin Pg W 60 rv_33 R)))) (known [6, 7, 13] ys (known [1, 2, 4, 5, 11, 12, 60] [(.int .i64 zn0), (.pointer (some za1)), (.int .i64 0), (.bool false), (.slice zp2 zl3 zl4), (.int .i64 zn5), (.tuple #[])] j)) s) [(.int .i64 n12), (.int .i64 n13), (.int .i64 n14)]
def J_law13_sum_0 (W : World) (R : Ending → Hp → Prop) (zn0 : Int) (za1 : Addr) (zp2 : Option Addr) (zl3 : Nat) (zl4 : Nat) (zn5 : Int) (nx0 : List Value → Hp → Prop) (n22 : Int) (n23 : Int) (n14 : Int) : Hp → Prop :=
  NX [(.int .i64 zn0), (.pointer (some za1)), (.int .i64 0), (.bool false), (.slice zp2 zl3 zl4), (.int .i64 zn5), (.tuple #[])] [(.int .i64 zn0), (.pointer (some za1)), (.int .i64 0), (.bool false), (.slice zp2 zl3 zl4), (.int .i64 zn5), (.tuple #[])] (nx0 [(.int .i64 n22), (.int .i64 n23), (.int .i64 (IntKind.wrap .i64 (n14 + 1)))])
def J_law13_sum_1 (W : World) (R : Ending → Hp → Prop) (b26 : Bool) (B20 : Nat) (zn0 : Int) (za1 : Addr) (zp2 : Option Addr) (zl3 : Nat) (zl4 : Nat) (zn5 : Int) (nx0 : List Value → Hp → Prop) (n12 : Int) (n14 : Int) (n13 : Int) : Hp → Prop :=
  BR b26
    (RDI .i64 (Addr.add ⟨B20, 0, none⟩ 0) fun n27 =>
      J_law13_sum_0 W R zn0 za1 zp2 zl3 zl4 zn5 nx0 n12 n27 n14)
    (J_law13_sum_0 W R zn0 za1 zp2 zl3 zl4 zn5 nx0 n12 n13 n14)
def J_law13_sum_2 (W : World) (R : Ending → Hp → Prop) (b24 : Bool) (B20 : Nat) (zn0 : Int) (za1 : Addr) (zp2 : Option Addr) (zl3 : Nat) (zl4 : Nat) (zn5 : Int) (nx0 : List Value → Hp → Prop) (n12 : Int) (n14 : Int) (n13 : Int) : Hp → Prop :=
  BR b24
    (RDI .i64 (Addr.add ⟨B20, 0, none⟩ 0) fun n25 =>
      J_law13_sum_0 W R zn0 za1 zp2 zl3 zl4 zn5 nx0 n25 n12 n14)
    (BR (n13 == 0)
      (J_law13_sum_1 W R true B20 zn0 za1 zp2 zl3 zl4 zn5 nx0 n12 n14 n13)
      (RDI .i64 (Addr.add ⟨B20, 0, none⟩ 0) fun n28 =>
        J_law13_sum_1 W R (decide (n28 < n13)) B20 zn0 za1 zp2 zl3 zl4 zn5 nx0 n12 n14 n13))
def J_law13_sum_3 (W : World) (R : Ending → Hp → Prop) (b30 : Bool) (za1 : Addr) (n12 : Int) (n13 : Int) : Hp → Prop :=
  BR b30
    (RDL (Addr.add za1 0) fun x31 l32 c33 =>
      R (.returned (.tuple #[(.int .i64 (IntKind.wrap .i64 (n12 + (IntKind.wrap .i64 ((↑l32 : Int) + 1))))), (.bool (n12 != 0))])))
    (R (.returned (.tuple #[(.int .i64 (IntKind.wrap .i64 (n12 + n13))), (.bool (n12 != 0))])))
def B_law13_sum_0 (W : World) (R : Ending → Hp → Prop) (zn0 : Int) (za1 : Addr) (zp2 : Option Addr) (zl3 : Nat) (zl4 : Nat) (zn5 : Int) (n12 : Int) (n13 : Int) (n14 : Int) (nx0 : List Value → Hp → Prop) : Hp → Prop :=
  BR (decide (n14 < zn5))
    (IXS zp2 zl3 n14 4 fun a15 =>
      RDI .i64 (Addr.add a15 0) fun n16 =>
        RDI .i64 (Addr.add a15 1) fun n17 =>
          RDB (Addr.add a15 2) fun b18 =>
            RDB (Addr.add a15 3) fun b19 =>
              NEWZ Pg 48 fun B20 =>
                WR (Addr.add ⟨B20, 0, none⟩ 0) (.int .i64 n16) <|
                  WR (Addr.add ⟨B20, 0, none⟩ 1) (.int .i64 n17) <|
                    WR (Addr.add ⟨B20, 0, none⟩ 2) (.bool b18) <|
                      WR (Addr.add ⟨B20, 0, none⟩ 3) (.bool b19) <|
                        RDI .i64 (Addr.add ⟨B20, 0, none⟩ 1) fun n21 =>
                          BR (n21 != zn0)
                            (J_law13_sum_0 W R zn0 za1 zp2 zl3 zl4 zn5 nx0 n12 n13 n14)
                            (BR (n12 == 0)
                              (J_law13_sum_2 W R true B20 zn0 za1 zp2 zl3 zl4 zn5 nx0 n12 n14 n13)
                              (RDI .i64 (Addr.add ⟨B20, 0, none⟩ 0) fun n29 =>
                                J_law13_sum_2 W R (decide (n29 < n12)) B20 zn0 za1 zp2 zl3 zl4 zn5 nx0 n12 n14 n13)))
    (BR (n12 != 0)
      (J_law13_sum_3 W R (n13 == 0) za1 n12 n13)
      (J_law13_sum_3 W R false za1 n12 n13))
theorem B_law13_sum_0_eq (W : World) (R : Ending → Hp → Prop) (zn0 : Int) (za1 : Addr) (zp2 : Option Addr) (zl3 : Nat) (zl4 : Nat) (zn5 : Int) (n12 : Int) (n13 : Int) (n14 : Int) (nx0 : List Value → Hp → Prop) (j : Tm) : vc Pg W 60 rs_33 an_33 false (sub (bodyOf Try.f33) [1, 1, 0, 1, 0, 0]) 0 (KLoop [6, 7, 13] [1, 2, 4, 5, 11, 12, 60] [(.int .i64 zn0), (.pointer (some za1)), (.int .i64 0), (.bool false), (.slice zp2 zl3 zl4), (.int .i64 zn5), (.tuple #[])] nx0 (KBlk 0 (KS Pg W 60 rs_33 an_33 false (sub (bodyOf Try.f33) [1, 1, 1]) 0 (fin Pg W 60 rv_33 R)))) (known [6, 7, 13] [(.int .i64 n12), (.int .i64 n13), (.int .i64 n14)] (known [1, 2, 4, 5, 11, 12, 60] [(.int .i64 zn0), (.pointer (some za1)), (.int .i64 0), (.bool false), (.slice zp2 zl3 zl4), (.int .i64 zn5), (.tuple #[])] j)) = B_law13_sum_0 W R zn0 za1 zp2 zl3 zl4 zn5 n12 n13 n14 nx0 := by kernel_rfl
def N_law13_sum_0 (I : Int → Int → Int → Hp → Prop) (μ : Int → Int → Int → Hp → Nat) (n120 : Int) (n130 : Int) (n140 : Int) (s : Hp) (vs : List Value) : Hp → Prop := fun s' => ∃ n12 n13 n14, vs = [(.int .i64 n12), (.int .i64 n13), (.int .i64 n14)] ∧ I n12 n13 n14 s' ∧ μ n12 n13 n14 s' < μ n120 n130 n140 s
theorem L_law13_sum_0_rule (W : World) (R : Ending → Hp → Prop) (zn0 : Int) (za1 : Addr) (zp2 : Option Addr) (zl3 : Nat) (zl4 : Nat) (zn5 : Int) (I : Int → Int → Int → Hp → Prop) (μ : Int → Int → Int → Hp → Nat) (n120 : Int) (n130 : Int) (n140 : Int) (s : Hp) (h0 : I n120 n130 n140 s)
    (hr : ∀ (n12 : Int) (n13 : Int) (n14 : Int) (s : Hp), I n12 n13 n14 s → B_law13_sum_0 W R zn0 za1 zp2 zl3 zl4 zn5 n12 n13 n14 (fun vs => N_law13_sum_0 I μ n12 n13 n14 s vs) s) : L_law13_sum_0 W R zn0 za1 zp2 zl3 zl4 zn5 n120 n130 n140 s := by
  refine ⟨fun vs s => ∃ n12 n13 n14, vs = [(.int .i64 n12), (.int .i64 n13), (.int .i64 n14)] ∧ I n12 n13 n14 s, fun vs s => (match vs with | [.int _ n12, .int _ n13, .int _ n14] => μ n12 n13 n14 s | _ => 0), ⟨⟨⟨_, rfl⟩, ⟨⟨_, rfl⟩, ⟨⟨_, rfl⟩, trivial⟩⟩⟩, ⟨_, _, _, rfl, h0⟩⟩, ?_⟩
  intro n12 n13 n14 s hI j
  obtain ⟨n12', n13', n14', hy, hI⟩ := hI
  have hI' : I n12 n13 n14 s := by cases hy; exact hI
  have hh := hr n12 n13 n14 s hI'
  rw [← B_law13_sum_0_eq W R zn0 za1 zp2 zl3 zl4 zn5 n12 n13 n14 _ j] at hh
  refine vc_mono ?_ _ _ hh
  exact KLoop_mono (fun vs s' h => by obtain ⟨n121, n131, n141, rfl, h1, h2⟩ := h; exact ⟨⟨⟨_, rfl⟩, ⟨⟨_, rfl⟩, ⟨⟨_, rfl⟩, trivial⟩⟩⟩, ⟨_, _, _, rfl, h1⟩, h2⟩)
def T_law13_sum (W : World) (x1 : Option Addr) (l2 : Nat) (c3 : Nat) (x4 : Option Addr) (l5 : Nat) (c6 : Nat) (n7 : Int) (R : Ending → Hp → Prop) : Hp → Prop :=
  NEW 25 [(.slice x1 l2 c3), (.slice x4 l5 c6)] fun B8 =>
    RDL (Addr.add ⟨B8, 0, none⟩ 0) fun x9 l10 c11 =>
      L_law13_sum_0 W R n7 ⟨B8, 0, none⟩ x9 l10 c11 (↑l10 : Int) 0 0 0
theorem T_law13_sum_eq (W : World) (x1 : Option Addr) (l2 : Nat) (c3 : Nat) (x4 : Option Addr) (l5 : Nat) (c6 : Nat) (n7 : Int) (R : Ending → Hp → Prop) : vfun Pg W an_33 Try.f33 [(.agg #[(.slice x1 l2 c3), (.slice x4 l5 c6)]), (.int .i64 n7)] R = T_law13_sum W x1 l2 c3 x4 l5 c6 n7 R := by kernel_rfl
theorem does_law13_sum (W : World) (x1 : Option Addr) (l2 : Nat) (c3 : Nat) (x4 : Option Addr) (l5 : Nat) (c6 : Nat) (n7 : Int) (R : Ending → Hp → Prop) (s : Hp) (h : T_law13_sum W x1 l2 c3 x4 l5 c6 n7 R s) : Does Pg W F_law13_sum #[(.agg #[(.slice x1 l2 c3), (.slice x4 l5 c6)]), (.int .i64 n7)] s R :=
  does_of_vfun Pg W an_33 Try.func33 rfl (by kernel_rfl) (by rw [T_law13_sum_eq]; exact h)
def an_34 : Nat → Ann := fun b => match b with
  | 0 => { ms := [7, 8, 17], ks := [.l, .i .i64, .i .i64], us := [1, 2, 3, 6, 16, 73], rt := false, ex := [] }
  | _ => {}
abbrev rv_34 : List ResultVar := [.tmp 6]
abbrev rs_34 : List Nat := [73, 6]
def L_law13_made_0 (W : World) (R : Ending → Hp → Prop) (zp0 : Option Addr) (zl1 : Nat) (zl2 : Nat) (zb3 : Bool) (za4 : Addr) (zn5 : Int) (x16 : Option Addr) (l17 : Nat) (c18 : Nat) (n19 : Int) (n20 : Int) : Hp → Prop :=
  LOOPN [.l, .i .i64, .i .i64] (fun ys next s => ∀ j : Tm, vc Pg W 73 rs_34 an_34 false (sub (bodyOf Try.f34) [1, 1, 1, 0, 1, 0, 0]) 0 (KLoop [7, 8, 17] [1, 2, 3, 6, 16, 73] [(.slice zp0 zl1 zl2), (.bool zb3), (.pointer (some za4)), (.slice none 0 0), (.int .i64 zn5), (.tuple #[])] next (KBlk 0 (KS Pg W 73 rs_34 an_34 false (sub (bodyOf Try.f34) [1, 1, 1, 1]) 0 (fin Pg W 73 rv_34 R)))) (known [7, 8, 17] ys (known [1, 2, 3, 6, 16, 73] [(.slice zp0 zl1 zl2), (.bool zb3), (.pointer (some za4)), (.slice none 0 0), (.int .i64 zn5), (.tuple #[])] j)) s) [(.slice x16 l17 c18), (.int .i64 n19), (.int .i64 n20)]
def J_law13_made_0 (W : World) (R : Ending → Hp → Prop) (n43 : Int) (x16 : Option Addr) (l17 : Nat) (c18 : Nat) (zp0 : Option Addr) (zl1 : Nat) (zl2 : Nat) (zb3 : Bool) (za4 : Addr) (zn5 : Int) (nx0 : List Value → Hp → Prop) (n44 : Int) (n20 : Int) : Hp → Prop :=
  NEW 3 [(.int .i64 n43)] fun B45 =>
    APP Pg 3 1 x16 l17 c18 (some ⟨B45, 0, none⟩) 1 fun x46 l47 c48 =>
      NX [(.slice zp0 zl1 zl2), (.bool zb3), (.pointer (some za4)), (.slice none 0 0), (.int .i64 zn5), (.tuple #[])] [(.slice zp0 zl1 zl2), (.bool zb3), (.pointer (some za4)), (.slice none 0 0), (.int .i64 zn5), (.tuple #[])] (nx0 [(.slice x46 l47 c48), (.int .i64 n44), (.int .i64 (IntKind.wrap .i64 (n20 + 1)))])
def J_law13_made_1 (W : World) (R : Ending → Hp → Prop) (n43 : Int) (x16 : Option Addr) (l17 : Nat) (c18 : Nat) (zp0 : Option Addr) (zl1 : Nat) (zl2 : Nat) (zb3 : Bool) (za4 : Addr) (zn5 : Int) (nx0 : List Value → Hp → Prop) (n19 : Int) (n20 : Int) : Hp → Prop :=
  BR (decide (n43 ≥ 0))
    (NNI n43 <|
      J_law13_made_0 W R n43 x16 l17 c18 zp0 zl1 zl2 zb3 za4 zn5 nx0 (orv .i64 n19 (shlv .i64 1 n43)) n20)
    (J_law13_made_0 W R n43 x16 l17 c18 zp0 zl1 zl2 zb3 za4 zn5 nx0 n19 n20)
def J_law13_made_2 (W : World) (R : Ending → Hp → Prop) (b42 : Bool) (x16 : Option Addr) (l17 : Nat) (c18 : Nat) (zp0 : Option Addr) (zl1 : Nat) (zl2 : Nat) (zb3 : Bool) (za4 : Addr) (zn5 : Int) (nx0 : List Value → Hp → Prop) (n19 : Int) (n20 : Int) (n26 : Int) : Hp → Prop :=
  BR b42
    (J_law13_made_1 W R (-1) x16 l17 c18 zp0 zl1 zl2 zb3 za4 zn5 nx0 n19 n20)
    (J_law13_made_1 W R n26 x16 l17 c18 zp0 zl1 zl2 zb3 za4 zn5 nx0 n19 n20)
def J_law13_made_3 (W : World) (R : Ending → Hp → Prop) (n26 : Int) (za4 : Addr) (n20 : Int) (n19 : Int) (x16 : Option Addr) (l17 : Nat) (c18 : Nat) (zp0 : Option Addr) (zl1 : Nat) (zl2 : Nat) (zb3 : Bool) (zn5 : Int) (nx0 : List Value → Hp → Prop) : Hp → Prop :=
  BR (decide (n26 ≥ 0))
    (RDL (Addr.add za4 0) fun x27 l28 c29 =>
      RDL (Addr.add za4 1) fun x30 l31 c32 =>
        CALL Pg W F_prize_Can [(.agg #[(.slice x27 l28 c29), (.slice x30 l31 c32)]), (.int .i64 n26), (.int .i64 n20)]
          (fun v33 => TUP v33 fun q35 => HD q35 fun v36 r37 => TYB v36 fun b38 =>
            HD r37 fun v39 r40 => TYI .i64 v39 fun n41 =>
              NL r40 <|
                NNI n26 <|
                  BR ((andv .i64 (shrv .i64 n19 n26) 1) == 1)
                    (J_law13_made_2 W R true x16 l17 c18 zp0 zl1 zl2 zb3 za4 zn5 nx0 n19 n20 n26)
                    (BR zb3
                      (J_law13_made_2 W R (!b38) x16 l17 c18 zp0 zl1 zl2 zb3 za4 zn5 nx0 n19 n20 n26)
                      (J_law13_made_2 W R false x16 l17 c18 zp0 zl1 zl2 zb3 za4 zn5 nx0 n19 n20 n26)))
            (fun e34 => R (.panicked e34)))
    (J_law13_made_1 W R n26 x16 l17 c18 zp0 zl1 zl2 zb3 za4 zn5 nx0 n19 n20)
def B_law13_made_0 (W : World) (R : Ending → Hp → Prop) (zp0 : Option Addr) (zl1 : Nat) (zl2 : Nat) (zb3 : Bool) (za4 : Addr) (zn5 : Int) (x16 : Option Addr) (l17 : Nat) (c18 : Nat) (n19 : Int) (n20 : Int) (nx0 : List Value → Hp → Prop) : Hp → Prop :=
  BR (decide (n20 < zn5))
    (BR (decide ((↑zl1 : Int) > 0))
      (NZI (↑zl1 : Int) <|
        IXS zp0 zl1 (Int.tmod n20 (↑zl1 : Int)) 1 fun a21 =>
          RDI .u8 a21 fun n22 =>
            RDL (Addr.add za4 0) fun x23 l24 c25 =>
              NZI (IntKind.wrap .i64 ((↑l24 : Int) + 1)) <|
                J_law13_made_3 W R (IntKind.wrap .i64 ((Int.tmod (IntKind.wrap .i64 ((IntKind.wrap .i64 n22) + (IntKind.wrap .i64 (5 * n20)))) (IntKind.wrap .i64 ((↑l24 : Int) + 1))) - 1)) za4 n20 n19 x16 l17 c18 zp0 zl1 zl2 zb3 zn5 nx0)
      (J_law13_made_3 W R (-1) za4 n20 n19 x16 l17 c18 zp0 zl1 zl2 zb3 zn5 nx0))
    (R (.returned (.slice x16 l17 c18)))
theorem B_law13_made_0_eq (W : World) (R : Ending → Hp → Prop) (zp0 : Option Addr) (zl1 : Nat) (zl2 : Nat) (zb3 : Bool) (za4 : Addr) (zn5 : Int) (x16 : Option Addr) (l17 : Nat) (c18 : Nat) (n19 : Int) (n20 : Int) (nx0 : List Value → Hp → Prop) (j : Tm) : vc Pg W 73 rs_34 an_34 false (sub (bodyOf Try.f34) [1, 1, 1, 0, 1, 0, 0]) 0 (KLoop [7, 8, 17] [1, 2, 3, 6, 16, 73] [(.slice zp0 zl1 zl2), (.bool zb3), (.pointer (some za4)), (.slice none 0 0), (.int .i64 zn5), (.tuple #[])] nx0 (KBlk 0 (KS Pg W 73 rs_34 an_34 false (sub (bodyOf Try.f34) [1, 1, 1, 1]) 0 (fin Pg W 73 rv_34 R)))) (known [7, 8, 17] [(.slice x16 l17 c18), (.int .i64 n19), (.int .i64 n20)] (known [1, 2, 3, 6, 16, 73] [(.slice zp0 zl1 zl2), (.bool zb3), (.pointer (some za4)), (.slice none 0 0), (.int .i64 zn5), (.tuple #[])] j)) = B_law13_made_0 W R zp0 zl1 zl2 zb3 za4 zn5 x16 l17 c18 n19 n20 nx0 := by kernel_rfl
def N_law13_made_0 (I : Option Addr → Nat → Nat → Int → Int → Hp → Prop) (μ : Option Addr → Nat → Nat → Int → Int → Hp → Nat) (x160 : Option Addr) (l170 : Nat) (c180 : Nat) (n190 : Int) (n200 : Int) (s : Hp) (vs : List Value) : Hp → Prop := fun s' => ∃ x16 l17 c18 n19 n20, vs = [(.slice x16 l17 c18), (.int .i64 n19), (.int .i64 n20)] ∧ I x16 l17 c18 n19 n20 s' ∧ μ x16 l17 c18 n19 n20 s' < μ x160 l170 c180 n190 n200 s
theorem L_law13_made_0_rule (W : World) (R : Ending → Hp → Prop) (zp0 : Option Addr) (zl1 : Nat) (zl2 : Nat) (zb3 : Bool) (za4 : Addr) (zn5 : Int) (I : Option Addr → Nat → Nat → Int → Int → Hp → Prop) (μ : Option Addr → Nat → Nat → Int → Int → Hp → Nat) (x160 : Option Addr) (l170 : Nat) (c180 : Nat) (n190 : Int) (n200 : Int) (s : Hp) (h0 : I x160 l170 c180 n190 n200 s)
    (hr : ∀ (x16 : Option Addr) (l17 : Nat) (c18 : Nat) (n19 : Int) (n20 : Int) (s : Hp), I x16 l17 c18 n19 n20 s → B_law13_made_0 W R zp0 zl1 zl2 zb3 za4 zn5 x16 l17 c18 n19 n20 (fun vs => N_law13_made_0 I μ x16 l17 c18 n19 n20 s vs) s) : L_law13_made_0 W R zp0 zl1 zl2 zb3 za4 zn5 x160 l170 c180 n190 n200 s := by
  refine ⟨fun vs s => ∃ x16 l17 c18 n19 n20, vs = [(.slice x16 l17 c18), (.int .i64 n19), (.int .i64 n20)] ∧ I x16 l17 c18 n19 n20 s, fun vs s => (match vs with | [.slice x16 l17 c18, .int _ n19, .int _ n20] => μ x16 l17 c18 n19 n20 s | _ => 0), ⟨⟨⟨_, _, _, rfl⟩, ⟨⟨_, rfl⟩, ⟨⟨_, rfl⟩, trivial⟩⟩⟩, ⟨_, _, _, _, _, rfl, h0⟩⟩, ?_⟩
  intro x16 l17 c18 n19 n20 s hI j
  obtain ⟨x16', l17', c18', n19', n20', hy, hI⟩ := hI
  have hI' : I x16 l17 c18 n19 n20 s := by cases hy; exact hI
  have hh := hr x16 l17 c18 n19 n20 s hI'
  rw [← B_law13_made_0_eq W R zp0 zl1 zl2 zb3 za4 zn5 x16 l17 c18 n19 n20 _ j] at hh
  refine vc_mono ?_ _ _ hh
  exact KLoop_mono (fun vs s' h => by obtain ⟨x161, l171, c181, n191, n201, rfl, h1, h2⟩ := h; exact ⟨⟨⟨_, _, _, rfl⟩, ⟨⟨_, rfl⟩, ⟨⟨_, rfl⟩, trivial⟩⟩⟩, ⟨_, _, _, _, _, rfl, h1⟩, h2⟩)
def T_law13_made (W : World) (x1 : Option Addr) (l2 : Nat) (c3 : Nat) (x4 : Option Addr) (l5 : Nat) (c6 : Nat) (x7 : Option Addr) (l8 : Nat) (c9 : Nat) (b10 : Bool) (R : Ending → Hp → Prop) : Hp → Prop :=
  NEW 25 [(.slice x1 l2 c3), (.slice x4 l5 c6)] fun B11 =>
    NEW 3 [] fun B12 =>
      RDL (Addr.add ⟨B11, 0, none⟩ 1) fun x13 l14 c15 =>
        L_law13_made_0 W R x7 l8 c9 b10 ⟨B11, 0, none⟩ (↑l14 : Int) (some ⟨B12, 0, none⟩) 0 0 0 0
theorem T_law13_made_eq (W : World) (x1 : Option Addr) (l2 : Nat) (c3 : Nat) (x4 : Option Addr) (l5 : Nat) (c6 : Nat) (x7 : Option Addr) (l8 : Nat) (c9 : Nat) (b10 : Bool) (R : Ending → Hp → Prop) : vfun Pg W an_34 Try.f34 [(.agg #[(.slice x1 l2 c3), (.slice x4 l5 c6)]), (.slice x7 l8 c9), (.bool b10)] R = T_law13_made W x1 l2 c3 x4 l5 c6 x7 l8 c9 b10 R := by kernel_rfl
theorem does_law13_made (W : World) (x1 : Option Addr) (l2 : Nat) (c3 : Nat) (x4 : Option Addr) (l5 : Nat) (c6 : Nat) (x7 : Option Addr) (l8 : Nat) (c9 : Nat) (b10 : Bool) (R : Ending → Hp → Prop) (s : Hp) (h : T_law13_made W x1 l2 c3 x4 l5 c6 x7 l8 c9 b10 R s) : Does Pg W F_law13_made #[(.agg #[(.slice x1 l2 c3), (.slice x4 l5 c6)]), (.slice x7 l8 c9), (.bool b10)] s R :=
  does_of_vfun Pg W an_34 Try.func34 rfl (by kernel_rfl) (by rw [T_law13_made_eq]; exact h)
def an_39 : Nat → Ann := fun b => match b with
  | 0 => { ms := [8], ks := [.i .i64], us := [6, 7, 16], rt := false, ex := [] }
  | _ => {}
abbrev rv_39 : List ResultVar := [.tmp 2]
abbrev rs_39 : List Nat := [16, 2]
def L_law13_hasClub_0 (W : World) (R : Ending → Hp → Prop) (zp0 : Option Addr) (zl1 : Nat) (zl2 : Nat) (zn3 : Int) (n11 : Int) : Hp → Prop :=
  LOOPN [.i .i64] (fun ys next s => ∀ j : Tm, vc Pg W 16 rs_39 an_39 false (sub (bodyOf Try.f39) [1, 0, 1, 0, 0]) 0 (KLoop [8] [6, 7, 16] [(.slice zp0 zl1 zl2), (.int .i64 zn3), (.tuple #[])] next (KBlk 0 (KS Pg W 16 rs_39 an_39 false (sub (bodyOf Try.f39) [1, 1]) 0 (fin Pg W 16 rv_39 R)))) (known [8] ys (known [6, 7, 16] [(.slice zp0 zl1 zl2), (.int .i64 zn3), (.tuple #[])] j)) s) [(.int .i64 n11)]
def B_law13_hasClub_0 (W : World) (R : Ending → Hp → Prop) (zp0 : Option Addr) (zl1 : Nat) (zl2 : Nat) (zn3 : Int) (n11 : Int) (nx0 : List Value → Hp → Prop) : Hp → Prop :=
  BR (decide (n11 < zn3))
    (IXS zp0 zl1 n11 2 fun a12 =>
      RDI .i64 (Addr.add a12 0) fun n13 =>
        RDI .i64 (Addr.add a12 1) fun n14 =>
          NEWZ Pg 50 fun B15 =>
            WR (Addr.add ⟨B15, 0, none⟩ 0) (.int .i64 n13) <|
              WR (Addr.add ⟨B15, 0, none⟩ 1) (.int .i64 n14) <|
                RDI .i64 (Addr.add ⟨B15, 0, none⟩ 0) fun n16 =>
                  BR (n16 == 4)
                    (R (.returned (.bool true)))
                    (NX [(.slice zp0 zl1 zl2), (.int .i64 zn3), (.tuple #[])] [(.slice zp0 zl1 zl2), (.int .i64 zn3), (.tuple #[])] (nx0 [(.int .i64 (IntKind.wrap .i64 (n11 + 1)))])))
    (R (.returned (.bool false)))
theorem B_law13_hasClub_0_eq (W : World) (R : Ending → Hp → Prop) (zp0 : Option Addr) (zl1 : Nat) (zl2 : Nat) (zn3 : Int) (n11 : Int) (nx0 : List Value → Hp → Prop) (j : Tm) : vc Pg W 16 rs_39 an_39 false (sub (bodyOf Try.f39) [1, 0, 1, 0, 0]) 0 (KLoop [8] [6, 7, 16] [(.slice zp0 zl1 zl2), (.int .i64 zn3), (.tuple #[])] nx0 (KBlk 0 (KS Pg W 16 rs_39 an_39 false (sub (bodyOf Try.f39) [1, 1]) 0 (fin Pg W 16 rv_39 R)))) (known [8] [(.int .i64 n11)] (known [6, 7, 16] [(.slice zp0 zl1 zl2), (.int .i64 zn3), (.tuple #[])] j)) = B_law13_hasClub_0 W R zp0 zl1 zl2 zn3 n11 nx0 := by kernel_rfl
def N_law13_hasClub_0 (I : Int → Hp → Prop) (μ : Int → Hp → Nat) (n110 : Int) (s : Hp) (vs : List Value) : Hp → Prop := fun s' => ∃ n11, vs = [(.int .i64 n11)] ∧ I n11 s' ∧ μ n11 s' < μ n110 s
theorem L_law13_hasClub_0_rule (W : World) (R : Ending → Hp → Prop) (zp0 : Option Addr) (zl1 : Nat) (zl2 : Nat) (zn3 : Int) (I : Int → Hp → Prop) (μ : Int → Hp → Nat) (n110 : Int) (s : Hp) (h0 : I n110 s)
    (hr : ∀ (n11 : Int) (s : Hp), I n11 s → B_law13_hasClub_0 W R zp0 zl1 zl2 zn3 n11 (fun vs => N_law13_hasClub_0 I μ n11 s vs) s) : L_law13_hasClub_0 W R zp0 zl1 zl2 zn3 n110 s := by
  refine ⟨fun vs s => ∃ n11, vs = [(.int .i64 n11)] ∧ I n11 s, fun vs s => (match vs with | [.int _ n11] => μ n11 s | _ => 0), ⟨⟨⟨_, rfl⟩, trivial⟩, ⟨_, rfl, h0⟩⟩, ?_⟩
  intro n11 s hI j
  obtain ⟨n11', hy, hI⟩ := hI
  have hI' : I n11 s := by cases hy; exact hI
  have hh := hr n11 s hI'
  rw [← B_law13_hasClub_0_eq W R zp0 zl1 zl2 zn3 n11 _ j] at hh
  refine vc_mono ?_ _ _ hh
  exact KLoop_mono (fun vs s' h => by obtain ⟨n111, rfl, h1, h2⟩ := h; exact ⟨⟨⟨_, rfl⟩, trivial⟩, ⟨_, rfl, h1⟩, h2⟩)
def T_law13_hasClub (W : World) (x1 : Option Addr) (l2 : Nat) (c3 : Nat) (x4 : Option Addr) (l5 : Nat) (c6 : Nat) (R : Ending → Hp → Prop) : Hp → Prop :=
  NEW 25 [(.slice x1 l2 c3), (.slice x4 l5 c6)] fun B7 =>
    RDL (Addr.add ⟨B7, 0, none⟩ 1) fun x8 l9 c10 =>
      L_law13_hasClub_0 W R x8 l9 c10 (↑l9 : Int) 0
theorem T_law13_hasClub_eq (W : World) (x1 : Option Addr) (l2 : Nat) (c3 : Nat) (x4 : Option Addr) (l5 : Nat) (c6 : Nat) (R : Ending → Hp → Prop) : vfun Pg W an_39 Try.f39 [(.agg #[(.slice x1 l2 c3), (.slice x4 l5 c6)])] R = T_law13_hasClub W x1 l2 c3 x4 l5 c6 R := by kernel_rfl
theorem does_law13_hasClub (W : World) (x1 : Option Addr) (l2 : Nat) (c3 : Nat) (x4 : Option Addr) (l5 : Nat) (c6 : Nat) (R : Ending → Hp → Prop) (s : Hp) (h : T_law13_hasClub W x1 l2 c3 x4 l5 c6 R s) : Does Pg W F_law13_hasClub #[(.agg #[(.slice x1 l2 c3), (.slice x4 l5 c6)])] s R :=
  does_of_vfun Pg W an_39 Try.func39 rfl (by kernel_rfl) (by rw [T_law13_hasClub_eq]; exact h)
end Go.Proofs.Ytfaeokcbfnlgbaa.G

/- Prize: a giving by remainders. -/
set_option linter.unusedSimpArgs false
set_option linter.unusedVariables false
set_option maxRecDepth 20000
namespace Go.Proofs.Ytfaeokcbfnlgbaa.G
open Go.V
def mkV (T : PT) (bs : List Nat) (k : Nat) : Nat := if bs.length = 0 then 0 else (bs.getD (k % bs.length) 0 + 5 * k) % (T.n + 1)
def mkM (T : PT) (bs : List Nat) (k : Nat) : Option Nat := match mkV T bs k with | 0 => none | v + 1 => some v
def mkO (T : PT) (bs : List Nat) (fair : Bool) (k : Nat) (g : List (Option Nat)) : Option Nat := match mkM T bs k with | none => none | some m => if tkF g m || (fair && !canP T m k) then none else some m
def madeL (T : PT) (bs : List Nat) (fair : Bool) : Nat → List (Option Nat)
  | 0 => []
  | k + 1 => madeL T bs fair k ++ [mkO T bs fair k (madeL T bs fair k)]
theorem madeL_len (T : PT) (bs : List Nat) (fair : Bool) : ∀ k, (madeL T bs fair k).length = k
  | 0 => rfl
  | k + 1 => by show (madeL T bs fair k ++ _).length = _; rw [List.length_append, madeL_len T bs fair k]; rfl
theorem mkV_lt (T : PT) (bs : List Nat) (k : Nat) : mkV T bs k < T.n + 1 := by
  unfold mkV
  split
  · omega
  · exact Nat.mod_lt _ (by omega)
theorem mkM_man (T : PT) (bs : List Nat) (k : Nat) : manI (mkM T bs k) = (mkV T bs k : Int) - 1 := by
  unfold mkM
  cases mkV T bs k with
  | zero => rfl
  | succ v => show ((v : Nat) : Int) = ((v + 1 : Nat) : Int) - 1; omega
theorem mkM_lt {T : PT} {bs : List Nat} {k m : Nat} (h : mkM T bs k = some m) : m < T.n := by
  have h1 := mkV_lt T bs k
  have h2 := mkM_man T bs k
  rw [h] at h2
  have h2 : ((m : Nat) : Int) = _ := h2
  omega
theorem mkO_some {T : PT} {bs : List Nat} {fair : Bool} {k m : Nat} {g : List (Option Nat)} (h : mkO T bs fair k g = some m) : m < T.n ∧ tkF g m = false ∧ (fair = true → canP T m k = true) := by
  unfold mkO at h
  split at h
  · cases h
  · rename_i q hq
    split at h
    · cases h
    · rename_i hn
      cases h
      simp only [Bool.or_eq_true, not_or, Bool.not_eq_true] at hn
      refine ⟨mkM_lt hq, hn.1, fun hf => ?_⟩
      have h2 := hn.2
      rw [hf] at h2
      simpa using h2
theorem made_okG (T : PT) (bs : List Nat) (fair : Bool) : ∀ k, OkG T (madeL T bs fair k)
  | 0 => OkG.nil T
  | k + 1 => (made_okG T bs fair k).snoc fun m hm => ⟨(mkO_some hm).1, (mkO_some hm).2.1⟩
theorem made_can (T : PT) (bs : List Nat) : ∀ (k i m : Nat), (madeL T bs true k)[i]? = some (some m) → canP T m i = true
  | 0, i, m, h => by simp [madeL] at h
  | k + 1, i, m, h => by
    have hl := madeL_len T bs true k
    have h' : (madeL T bs true k ++ [mkO T bs true k (madeL T bs true k)])[i]? = some (some m) := h
    by_cases e : i < k
    · rw [List.getElem?_append_left (by omega)] at h'
      exact made_can T bs k i m h'
    · rw [List.getElem?_append_right (by omega)] at h'
      have hlt := (List.getElem?_eq_some_iff.1 h').1
      have hik : i - (madeL T bs true k).length = 0 := by simpa using hlt
      rw [hik] at h'
      have hi : i = k := by omega
      have : mkO T bs true k (madeL T bs true k) = some m := by simpa using h'
      rw [hi]
      exact (mkO_some this).2.2 rfl
theorem row_byte {s : Hp} {y : Option Addr} {bs : List Nat} {k : Nat} (hy : RowAt s y (bytes bs)) (hk : k < bs.length) : ∃ a, y = some a ∧ cellAt s (a.add (k * 1)) = some (.int .u8 ((bs.getD k 0 : Nat) : Int)) := by
  have hkv : k < (bytes bs).length := by rw [bytes_len]; exact hk
  obtain ⟨a, ha, g⟩ := hy k hkv
  rw [bytes_get hkv] at g
  rw [getD_lt hk]
  exact ⟨a, ha, g⟩
theorem tmodN (a b : Nat) : Int.tmod (a : Int) (b : Int) = ((a % b : Nat) : Int) := rfl
section
variable {W : World} {K : VK} {E : List PanicEntry → Hp → Prop} {s : Hp} {T : PT}
theorem w_made {x y q : Option Addr} {c c' cq : Nat} {bs : List Nat} {fair : Bool} (hok : okP T = true) (hx : MnAt s x T.men) (hy : PzAt s y T.list) (hq : RowAt s q (bytes bs)) (h256 : ∀ b ∈ bs, b < 256) (h : ∀ s' w cw, Ext s s' → Fr s.size s' w T.z cw 1 (ints (manL (madeL T bs fair T.z))) → K (.slice w T.z cw) s') :
    CALL Pg W F_law13_made [.agg #[.slice x T.n c, .slice y T.z c'], .slice q bs.length cq, .bool fair] K E s := by
  have hv := okP_vd hok
  have h8 := hv.n8
  have h6 := hv.z6
  refine does_law13_made W x T.n c y T.z c' q bs.length cq fair _ s ?_
  unfold T_law13_made
  refine ne2 fun s1 e1 z1 o1 o2 => ?_
  refine NEW_rule fun s2 e2 z2 _ _ => ?_
  refine ⟨_, _, _, e2.cell o2.cell, ?_⟩
  refine L_law13_made_0_rule W _ q bs.length cq fair ⟨s.size, 0, none⟩ T.z (fun x l c n19 n20 t => Ext s1 t ∧ ∃ k : Nat, k ≤ T.z ∧ n20 = k ∧ n19 = (setK (tkF (madeL T bs fair k)) 8 : Nat) ∧ Fr s1.size t x l c 1 (ints (manL (madeL T bs fair k)))) (fun _ _ _ _ n20 _ => ((T.z : Int) - n20).toNat) (some ⟨s1.size, 0, none⟩) 0 0 0 0 s2
    ⟨e2, 0, by omega, rfl, ?_, ⟨⟨Nat.le_refl _, fun i hi => (by omega)⟩, rfl, fun a ha => (by cases ha; exact Nat.le_refl _), by omega⟩⟩ ?_
  · have : tkF (madeL T bs fair 0) = fun _ => false := by funext m; simp [tkF, madeL]
    rw [this, setK_zero]; rfl
  rintro x16 l17 c18 n19 n20 t ⟨et, k, hk, rfl, rfl, hfr⟩
  unfold B_law13_made_0
  have e0t := e1.trans et
  have hl17 : l17 = k := by
    have := hfr.len
    rw [ints_len] at this
    unfold manL at this
    rw [List.length_map, madeL_len] at this
    omega
  refine BR_dec (fun hlt => ?_) (fun hlt => ?_)
  · have hkz : k < T.z := by omega
    generalize hg : madeL T bs fair k = g at *
    have hstep : madeL T bs fair (k + 1) = g ++ [mkO T bs fair k g] := by
      show madeL T bs fair k ++ [mkO T bs fair k (madeL T bs fair k)] = _
      rw [hg]
    generalize hnx : (fun vs => N_law13_made_0 _ _ _ _ _ _ _ t vs) = nx
    have J1 : ∀ (t' : Hp), Ext t t' → J_law13_made_1 W (endK K E) (manI (mkO T bs fair k g)) x16 l17 c18 q bs.length cq fair ⟨s.size, 0, none⟩ T.z nx (setK (tkF g) 8 : Nat) k t' := by
      intro t' et'
      have J0 : ∀ n44 : Int, n44 = (setK (tkF (g ++ [mkO T bs fair k g])) 8 : Nat) → J_law13_made_0 W (endK K E) (manI (mkO T bs fair k g)) x16 l17 c18 q bs.length cq fair ⟨s.size, 0, none⟩ T.z nx n44 k t' := by
        intro n44 hn
        unfold J_law13_made_0
        refine ne1 fun t3 f3 y3 q3 => ?_
        have et3 := et.trans (et'.trans f3)
        refine APP_fr (lo := s1.size) (hfr.ext (et'.trans f3)) et3.1 (ws := [.int .i64 (manI (mkO T bs fair k g))]) (fun i hi => ⟨⟨t'.size, 0, none⟩, rfl, ?_⟩) rfl zc_3 rfl (by omega) (by simp [oneCell]) (by omega) fun t4 x4 c4 k4 hx4 g4 => ?_
        · have hi0 : i = 0 := by simp at hi; omega
          subst hi0; exact q3.cell
        have e4 : Ext s1 t4 := kp_nil et3 (fun b hb => by obtain ⟨y, hy, rfl⟩ := hb; exact hfr.fr y hy) k4
        rw [← hnx]
        refine ⟨rfl, _, _, _, _, _, rfl, ⟨e4, k + 1, hkz, wrap_succ (by omega), ?_, ?_⟩, ms_succ hkz (by omega)⟩
        · rw [hstep]; exact hn
        · rw [hstep, manL_app, ints_app]; exact g4
      unfold J_law13_made_1
      cases ho : mkO T bs fair k g with
      | none =>
        rw [ho] at J0
        refine BR_ff (decide_eq_false (by show ¬ (-1 : Int) ≥ 0; omega)) ?_
        exact J0 _ (by rw [tkF_none])
      | some m =>
        rw [ho] at J0
        obtain ⟨g1, g2, _⟩ := mkO_some ho
        refine BR_tt (decide_eq_true (by show ((m : Nat) : Int) ≥ 0; omega)) ?_
        refine NNI_of (by show 0 ≤ ((m : Nat) : Int); omega) ?_
        refine J0 _ ?_
        rw [tkF_some]
        exact bit_put (by omega) g2
    have J3 : ∀ n26 : Int, n26 = manI (mkM T bs k) → J_law13_made_3 W (endK K E) n26 ⟨s.size, 0, none⟩ k (setK (tkF g) 8 : Nat) x16 l17 c18 q bs.length cq fair T.z nx t := by
      intro n26 hn
      subst hn
      unfold J_law13_made_3
      cases hm : mkM T bs k with
      | none =>
        refine BR_ff (decide_eq_false (by show ¬ (-1 : Int) ≥ 0; omega)) ?_
        have : mkO T bs fair k g = none := by unfold mkO; rw [hm]
        have j := J1 t (Ext.refl _)
        rw [this] at j
        exact j
      | some m =>
        have hmn := mkM_lt hm
        refine BR_tt (decide_eq_true (by show ((m : Nat) : Int) ≥ 0; omega)) ?_
        refine ⟨_, _, _, et.cell o1.cell, _, _, _, et.cell o2.cell, ?_⟩
        refine c_CanV hok hmn hkz (hx.ext e0t) (hy.ext e0t) fun t1 f1 => ?_
        try simp only [TUP_mk, AGG_mk, HD_mk, NL_mk, TYI_mk, TYB_mk, TYP_mk, TYL_mk, TYS_mk, TYM_mk, SO_mk, NX_mk, endK_mk, endK_mk', add_0]
        refine NNI_of (by show 0 ≤ ((m : Nat) : Int); omega) ?_
        have hbit := bit_is (tkF g) (i := m) (by omega)
        have hO : mkO T bs fair k g = if tkF g m || (fair && !canP T m k) then none else some m := by unfold mkO; rw [hm]
        have j := J1 t1 f1
        refine (fun hh => by rw [show (andv .i64 (shrv .i64 ((setK (tkF g) 8 : Nat) : Int) (manI (some m))) 1 == 1) = tkF g m from hbit]; exact hh : BR (tkF g m) _ _ t1 → BR (andv .i64 (shrv .i64 ((setK (tkF g) 8 : Nat) : Int) (manI (some m))) 1 == 1) _ _ t1) ?_
        cases ht : tkF g m with
        | true =>
          rw [ht] at hO
          rw [hO] at j
          refine BR_tt rfl ?_
          unfold J_law13_made_2
          exact BR_tt rfl j
        | false =>
          rw [ht] at hO
          refine BR_ff rfl ?_
          unfold J_law13_made_2
          cases hf : fair with
          | true =>
            subst hf
            refine BR_tt rfl ?_
            cases hc : canP T m k with
            | true => rw [hc] at hO; rw [hO] at j; exact BR_ff rfl j
            | false => rw [hc] at hO; rw [hO] at j; exact BR_tt rfl j
          | false =>
            subst hf
            rw [hO] at j
            exact BR_ff rfl (BR_ff rfl j)
    refine BR_dec (fun hb => ?_) (fun hb => ?_)
    · have hb0 : 0 < bs.length := by omega
      refine NZI_pos (by omega) ?_
      have hmod : k % bs.length < bs.length := Nat.mod_lt _ hb0
      obtain ⟨a, ha, g1⟩ := row_byte (hq.ext e0t) hmod
      rw [tmodN]
      refine IXS_at ha hmod ?_
      refine ⟨_, g1, ?_⟩
      refine ⟨_, _, _, et.cell o1.cell, ?_⟩
      have hw1 : IntKind.i64.wrap ((T.n : Int) + 1) = ((T.n + 1 : Nat) : Int) := wrap_succ (by omega)
      dsimp only
      rw [hw1]
      refine NZI_pos (by omega) ?_
      refine J3 _ ?_
      have hb2 : bs.getD (k % bs.length) 0 < 256 := by
        rw [getD_lt hmod]
        exact h256 _ (List.getElem_mem hmod)
      rw [mkM_man]
      have hV : mkV T bs k = (bs.getD (k % bs.length) 0 + 5 * k) % (T.n + 1) := by unfold mkV; rw [if_neg (by omega)]
      have hVlt := mkV_lt T bs k
      generalize hB : bs.getD (k % bs.length) 0 = B at *
      have w1 : IntKind.i64.wrap (B : Int) = (B : Int) := wrap_i64 (by omega) (by omega)
      have w2 : IntKind.i64.wrap (5 * (k : Int)) = ((5 * k : Nat) : Int) := by rw [wrap_i64 (by omega) (by omega)]; omega
      have w3 : IntKind.i64.wrap ((B : Int) + ((5 * k : Nat) : Int)) = ((B + 5 * k : Nat) : Int) := by rw [wrap_i64 (by omega) (by omega)]; omega
      rw [w1, w2, w3, tmodN, ← hV, wrap_i64 (by omega) (by omega)]
    · have hb0 : bs.length = 0 := by omega
      refine J3 _ ?_
      unfold mkM mkV
      rw [if_pos hb0]
      rfl
  · have hkz : k = T.z := by omega
    subst hkz
    subst hl17
    exact h t x16 c18 e0t (hfr.le e1.1)
end
end Go.Proofs.Ytfaeokcbfnlgbaa.G

/- Prize: plain: the most prizes. -/
set_option linter.unusedSimpArgs false
set_option linter.unusedVariables false
set_option maxRecDepth 20000
namespace Go.Proofs.Ytfaeokcbfnlgbaa.G
open Go.V
theorem bestG_legit (T : PT) : ∀ (r z : Nat) (f : Nat → Bool), Legit T r z f (bestG T r z f)
  | 0, z, f => .nil z f
  | r + 1, z, f => by
    unfold bestG
    by_cases h : optN T r (z + 1) f = optN T (r + 1) z f
    · rw [if_pos h]; exact .none (bestG_legit T r (z + 1) f)
    · rw [if_neg h]
      split
      · rename_i m hm
        exact .some (cand_mem.1 (List.mem_of_find?_eq_some hm)) (bestG_legit T r (z + 1) (less f m))
      · exact .none (bestG_legit T r (z + 1) f)
theorem legit_of {T : PT} : ∀ (g : List (Option Nat)) (z : Nat) (f : Nat → Bool), (∀ (i m : Nat), g[i]? = some (some m) → Cand T f (z + i) m) → (∀ (i j m : Nat), g[i]? = some (some m) → g[j]? = some (some m) → i = j) → Legit T g.length z f g
  | [], z, f, _, _ => .nil z f
  | none :: g, z, f, hc, hu => .none (legit_of g (z + 1) f (fun i m h => by have := hc (i + 1) m (by simpa using h); rw [show z + (i + 1) = z + 1 + i by omega] at this; exact this) (fun i j m h1 h2 => by have := hu (i + 1) (j + 1) m (by simpa using h1) (by simpa using h2); omega))
  | some q :: g, z, f, hc, hu => .some (hc 0 q rfl) (legit_of g (z + 1) (less f q) (fun i m h => by
      have h1 := hc (i + 1) m (by simpa using h)
      rw [show z + (i + 1) = z + 1 + i by omega] at h1
      refine ⟨h1.1, ?_, h1.2.2⟩
      unfold less
      rw [h1.2.1]
      have : ¬ m = q := fun e => by
        have := hu 0 (i + 1) q rfl (by rw [← e]; simpa using h)
        omega
      simp [this]) (fun i j m h1 h2 => by have := hu (i + 1) (j + 1) m (by simpa using h1) (by simpa using h2); omega))
/-- Whoever gets a prize can have it. -/
def CanG (T : PT) (g : List (Option Nat)) : Prop := ∀ (i m : Nat), g[i]? = some (some m) → canP T m i = true
theorem okG_legit {T : PT} {g : List (Option Nat)} (h : OkG T g) (hc : CanG T g) : Legit T g.length 0 allF g :=
  legit_of g 0 allF (fun i m hi => by rw [Nat.zero_add]; exact ⟨h.lt m (List.mem_of_getElem? hi), rfl, hc i m hi⟩) h.un
theorem legit_okG {T : PT} {r : Nat} {f : Nat → Bool} {g : List (Option Nat)} (h : Legit T r 0 f g) : OkG T g ∧ CanG T g := by
  have h1 := legit_at h
  refine ⟨⟨fun m hm => ?_, fun i j m hi hj => ((h1 i m hi).2 j hj).symm⟩, fun i m hi => ?_⟩
  · obtain ⟨i, hi, e⟩ := List.mem_iff_getElem.1 hm
    exact (h1 i m (by rw [List.getElem?_eq_getElem hi, e])).1.1
  · have := (h1 i m hi).1.2.2
    rw [Nat.zero_add] at this; exact this
theorem many_le_n {T : PT} {g : List (Option Nat)} (h : OkG T g) : many g ≤ T.n := by
  have hl : ∀ g : List (Option Nat), (g.filterMap id).length = many g := by
    intro g
    induction g with
    | nil => rfl
    | cons o g ih =>
      rw [many_cons, ← ih]
      cases o with
      | none => simp
      | some m => simp [Nat.add_comm]
  have hnd : ∀ g : List (Option Nat), (∀ (i j m : Nat), g[i]? = some (some m) → g[j]? = some (some m) → i = j) → (g.filterMap id).Nodup := by
    intro g
    induction g with
    | nil => intro _; exact List.Pairwise.nil
    | cons o g ih =>
      intro hu
      have ih := ih (fun i j m h1 h2 => by have := hu (i + 1) (j + 1) m (by simpa using h1) (by simpa using h2); omega)
      cases o with
      | none => simpa using ih
      | some m =>
        rw [List.filterMap_cons]
        refine List.nodup_cons.2 ⟨fun hm => ?_, ih⟩
        obtain ⟨o, ho, e⟩ := List.mem_filterMap.1 hm
        have e : o = some m := e
        subst e
        obtain ⟨i, hi, e2⟩ := List.mem_iff_getElem.1 ho
        have := hu 0 (i + 1) m rfl (by rw [List.getElem?_cons_succ, List.getElem?_eq_getElem hi, e2])
        omega
  rw [← hl g]
  have := sub_len (g.filterMap id) (List.range T.n) (hnd g h.un) (fun m hm => by
    obtain ⟨o, ho, e⟩ := List.mem_filterMap.1 hm
    have e : o = some m := e
    subst e
    exact List.mem_range.2 (h.lt m ho))
  simpa using this
theorem find_first {p : Nat → Bool} : ∀ {l : List Nat} {m k : Nat}, l.Pairwise (· < ·) → l.find? p = some m → k ∈ l → p k = true → m ≤ k
  | [], m, k, _, h, _, _ => by cases h
  | x :: l, m, k, hp, h, hk, hq => by
    rw [List.pairwise_cons] at hp
    rw [List.find?_cons] at h
    cases hx : p x with
    | true =>
      rw [hx] at h
      cases h
      rcases List.mem_cons.1 hk with rfl | hk
      · exact Nat.le_refl _
      · exact Nat.le_of_lt (hp.1 k hk)
    | false =>
      rw [hx] at h
      rcases List.mem_cons.1 hk with rfl | hk
      · rw [hq] at hx; cases hx
      · exact find_first hp.2 h hk hq
theorem cand_sorted (T : PT) (f : Nat → Bool) (z : Nat) : (candL T f z).Pairwise (· < ·) := (List.pairwise_lt_range (n := T.n)).filter _
theorem manI_ge (o : Option Nat) : -1 ≤ manI o := by
  cases o with
  | none => exact Int.le_refl _
  | some m => have : (0 : Int) ≤ manI (some m) := Int.natCast_nonneg m; omega
/-- The first of the best. -/
theorem bestG_lex {T : PT} : ∀ (r z : Nat) (f : Nat → Bool) (g : List (Option Nat)), Legit T r z f g → many g = optN T r z f → ∀ i, (∀ j, j < i → g.getD j none = (bestG T r z f).getD j none) → manI ((bestG T r z f).getD i none) ≤ manI (g.getD i none)
  | 0, z, f, g, _, _, i, _ => by
    have : (bestG T 0 z f).getD i none = none := rfl
    rw [this]; exact manI_ge _
  | r + 1, z, f, g, hl, hm, i, ha => by
    by_cases h : optN T r (z + 1) f = optN T (r + 1) z f
    · have hb : bestG T (r + 1) z f = none :: bestG T r (z + 1) f := by
        conv => lhs; unfold bestG
        rw [if_pos h]
      rw [hb] at ha ⊢
      cases i with
      | zero => exact manI_ge _
      | succ i =>
        have h0 := ha 0 (by omega)
        cases hl with
        | none hl' =>
          rw [many_cons] at hm
          simp only [Option.isSome_none, Bool.false_eq_true, if_false, Nat.zero_add] at hm
          exact bestG_lex r (z + 1) f _ hl' (by omega) i fun j hj => ha (j + 1) (by omega)
        | some hc hl' => cases h0
    · have hx : ∃ m, (candL T f z).find? (fun m => decide (1 + optN T r (z + 1) (less f m) = optN T (r + 1) z f)) = some m := by
        cases hq : (candL T f z).find? (fun m => decide (1 + optN T r (z + 1) (less f m) = optN T (r + 1) z f)) with
        | some m => exact ⟨m, rfl⟩
        | none =>
          exfalso
          rcases opt_or (T := T) (r := r) (z := z) (f := f) with h1 | ⟨m, h1, h2⟩
          · exact h h1.symm
          · exact (List.find?_eq_none.1 hq m (cand_mem.2 h1)) (decide_eq_true h2.symm)
      obtain ⟨m, hfm⟩ := hx
      have hb : bestG T (r + 1) z f = some m :: bestG T r (z + 1) (less f m) := by
        conv => lhs; unfold bestG
        rw [if_neg h, hfm]
      rw [hb] at ha ⊢
      cases hl with
      | none hl' =>
        exfalso
        rw [many_cons] at hm
        simp only [Option.isSome_none, Bool.false_eq_true, if_false, Nat.zero_add] at hm
        have := legit_le hl'
        have := opt_none (T := T) (r := r) (z := z) (f := f)
        omega
      | some hc hl' =>
        rename_i m' g'
        rw [many_cons] at hm
        simp only [Option.isSome_some, if_true] at hm
        have h1 := legit_le hl'
        have h2 := opt_some (r := r) hc
        have hle := find_first (cand_sorted T f z) hfm (cand_mem.2 hc) (decide_eq_true (by omega))
        cases i with
        | zero => show ((m : Nat) : Int) ≤ ((m' : Nat) : Int); omega
        | succ i =>
          have h0 : some m' = some m := ha 0 (by omega)
          cases h0
          exact bestG_lex r (z + 1) (less f m) g' hl' (by omega) i fun j hj => ha (j + 1) (by omega)
theorem man_getD {g : List (Option Nat)} {i : Nat} (h : i < g.length) : (manL g).getD i 0 = manI (g.getD i none) := by
  unfold manL
  rw [getD_lt (by rw [List.length_map]; exact h), List.getElem_map, getD_lt h]
theorem worth_ok {T : PT} {g : List (Option Nat)} (hok : okP T = true) (h : OkG T g) (hc : CanG T g) (hl : g.length = T.z) : worthR T (manL g) = (worP T (manL g), (worP T (manL g)).sum, 0) := by
  unfold worthR
  rw [if_pos hok, if_pos (gv_okG h hl)]
  have : fairP T (manL g) = true := by
    unfold fairP
    rw [List.all_eq_true]
    intro i hi
    have hi := List.mem_range.1 hi
    have hi' : i < g.length := by unfold manL at hi; rw [List.length_map] at hi; exact hi
    rw [man_getD hi', getD_lt hi']
    cases ho : g[i] with
    | none => rfl
    | some m =>
      have := hc i m (by rw [List.getElem?_eq_getElem hi', ho])
      show ((((m : Nat) : Int) == -1) || canP T (((m : Nat) : Int)).toNat i) = true
      rw [toNat_nat, this]
      simp
  rw [if_pos this]
theorem due_canG {T : PT} (hv : VdP T) : CanG T (dueP T) := fun i m hi => by
  have hlt := (List.getElem?_eq_some_iff.1 hi).1
  have hiz : i < T.z := by rw [show (dueP T).length = T.z from dueL_len T T.z] at hlt; exact hlt
  rw [due_get hiz] at hi
  have h := (due_one hv (Option.some.inj hi)).2.1
  unfold canC at h
  simp only [Bool.and_eq_true] at h
  exact h.1
end Go.Proofs.Ytfaeokcbfnlgbaa.G

/- Prize: what a giving is worth, plainly; two lists that are made in any order. -/
set_option linter.unusedSimpArgs false
set_option linter.unusedVariables false
set_option maxRecDepth 20000
namespace Go.Proofs.Ytfaeokcbfnlgbaa.G
open Go.V
theorem sum_set : ∀ (l : List Int) (i : Nat) (v : Int) (h : i < l.length), (l.set i v).sum + l[i] = l.sum + v
  | [], i, v, h => by simp at h
  | x :: l, 0, v, h => by
    show (v :: l).sum + x = (x :: l).sum + v
    rw [List.sum_cons, List.sum_cons]; omega
  | x :: l, i + 1, v, h => by
    have ih := sum_set l i v (by simpa using h)
    show (x :: l.set i v).sum + l[i]'(by simpa using h) = (x :: l).sum + v
    rw [List.sum_cons, List.sum_cons]; omega
theorem sum_bd : ∀ (l : List Int) (n : Nat), (∀ x ∈ l, 0 ≤ x ∧ x ≤ n) → 0 ≤ l.sum ∧ l.sum ≤ n * l.length
  | [], n, _ => by simp
  | x :: l, n, h => by
    have ih := sum_bd l n (fun y hy => h y (by simp [hy]))
    have hx := h x (by simp)
    rw [List.sum_cons, List.length_cons]
    have : ((n * (l.length + 1) : Nat) : Int) = n * l.length + n := by rw [Nat.mul_succ]; omega
    push_cast at this ⊢
    omega
theorem worL_step {T : PT} {g : List (Option Nat)} {k : Nat} (h : k < g.length) : worL T (manL g) (k + 1) = match g.getD k none with | none => worL T (manL g) k | some m => (worL T (manL g) k).set m (T.pz k).worth := by
  conv => lhs; unfold worL
  rw [man_getD h]
  cases g.getD k none with
  | none => rfl
  | some m =>
    have : ¬ manI (some m) = -1 := by show ¬ ((m : Nat) : Int) = -1; omega
    rw [if_neg this]
    show (worL T (manL g) k).set (((m : Nat) : Int)).toNat _ = _
    rw [toNat_nat]
theorem worL_zero {T : PT} {g : List (Option Nat)} {m : Nat} (hm : m < T.n) : ∀ k, k ≤ g.length → (∀ j, j < k → g.getD j none ≠ some m) → (worL T (manL g) k).getD m 0 = 0
  | 0, _, _ => by unfold worL; simp [List.getD, hm]
  | k + 1, hk, h => by
    have ih := worL_zero (g := g) hm k (by omega) (fun j hj => h j (by omega))
    have hkg : k < g.length := by omega
    rw [worL_step hkg]
    cases hg : g.getD k none with
    | none => exact ih
    | some q =>
      have hne : q ≠ m := fun e => h k (by omega) (by rw [hg, e])
      show ((worL T (manL g) k).set q _).getD m 0 = 0
      simp only [List.getD] at ih ⊢
      rw [List.getElem?_set_ne hne]; exact ih
theorem worL_sum {T : PT} {g : List (Option Nat)} {k m : Nat} (hk : OkG T g) (h : k < g.length) (hg : g.getD k none = some m) : (worL T (manL g) (k + 1)).sum = (worL T (manL g) k).sum + (T.pz k).worth := by
  rw [worL_step h, hg]
  have hgk : g[k]? = some (some m) := by rw [getD_lt h] at hg; rw [List.getElem?_eq_getElem h, hg]
  have hm := hk.lt m (List.mem_of_getElem? hgk)
  have hz := worL_zero (g := g) hm k (by omega) (fun j hj e => by
    have hj' : j < g.length := by omega
    rw [getD_lt hj'] at e
    have := hk.un j k m (by rw [List.getElem?_eq_getElem hj', e]) hgk
    omega)
  have hl : m < (worL T (manL g) k).length := by rw [worL_len]; exact hm
  rw [getD_lt hl] at hz
  have := sum_set (worL T (manL g) k) m (T.pz k).worth hl
  show ((worL T (manL g) k).set m _).sum = _
  omega
theorem wrong_gv {T : PT} {g : List (Option Nat)} (hok : okP T = true) (h : OkG T g) (hl : g.length = T.z) : wrongR T (manL g) = wrongP T (manL g) := by
  unfold wrongR
  rw [if_pos hok, if_pos (gv_okG h hl)]
theorem worth_len {T : PT} {ds : List Int} (hok : okP T = true) (h : ds.length ≠ T.z) : worthR T ds = ([], 0, 2) := by
  unfold worthR
  have : gvP T ds = false := by
    unfold gvP
    rw [decide_eq_false h]; rfl
  rw [if_pos hok, this]; rfl
theorem worth_no {T : PT} {g : List (Option Nat)} (hok : okP T = true) (h : OkG T g) (hl : g.length = T.z) {i m : Nat} (hi : g[i]? = some (some m)) (hc : canP T m i = false) : worthR T (manL g) = ([], 0, 4) := by
  unfold worthR
  rw [if_pos hok, if_pos (gv_okG h hl)]
  have : fairP T (manL g) = false := by
    unfold fairP
    rw [List.all_eq_false]
    obtain ⟨hlt, e⟩ := List.getElem?_eq_some_iff.1 hi
    refine ⟨i, List.mem_range.2 (by unfold manL; rw [List.length_map]; exact hlt), ?_⟩
    rw [man_getD hlt, getD_lt hlt, e]
    show ¬ ((((m : Nat) : Int) == -1) || canP T (((m : Nat) : Int)).toNat i) = true
    rw [toNat_nat, hc]
    have : ¬ ((m : Nat) : Int) = -1 := by omega
    simp [this]
  rw [this]; rfl
structure Ent where
  x : Option Addr
  l : Nat
  c : Nat
  ds : List Int
structure P2 (t0 t : Hp) (A B : Option Ent) : Prop where
  ext : Ext t0 t
  a : ∀ e, A = some e → Fr t0.size t e.x e.l e.c 1 (ints e.ds) ∧ 0 < e.c
  b : ∀ e, B = some e → Fr t0.size t e.x e.l e.c 1 (ints e.ds) ∧ 0 < e.c
  ne : ∀ e f p q, A = some e → B = some f → e.x = some p → f.x = some q → p.block ≠ q.block
theorem fr_lt' {lo : Nat} {s : Hp} {x : Option Addr} {l c : Nat} {vs : List Value} (h : Fr lo s x l c 1 vs) (hc : 0 < c) {a : Addr} (hx : x = some a) : a.block < s.size := by
  obtain ⟨a', h1, y, h2, _⟩ := h.buf.own 0 (by omega)
  rw [hx] at h1; cases h1
  have := h2.lt
  rwa [add_blk] at this
section
variable {t0 t : Hp} {A B : Option Ent}
theorem P2.newA {K : Nat → Hp → Prop} (h : P2 t0 t none B) (hk : ∀ t', P2 t0 t' (some ⟨some ⟨t.size, 0, none⟩, 1, 1, [-1]⟩) B → K t.size t') : NEW 3 [.int .i64 (-1)] K t := by
  refine NEW_rule fun t' e z n _ => ?_
  refine hk t' ⟨h.ext.trans e, fun e' he => ?_, fun e' he => ⟨(h.b e' he).1.ext e, (h.b e' he).2⟩, fun e' f p q he hf hp hq => ?_⟩
  · cases he
    refine ⟨⟨⟨by simp [ints], fun i hi => ?_⟩, rfl, fun a ha => by cases ha; exact h.ext.1, by show 1 ≤ _; omega⟩, by show 0 < 1; omega⟩
    have hi0 : i = 0 := by simp at hi; omega
    subst hi0
    exact ⟨_, rfl, _, n 0 _ rfl, fun _ => rfl⟩
  · cases he; cases hp
    have := fr_lt' (h.b f hf).1 (h.b f hf).2 hq
    show t.size ≠ _
    omega
theorem P2.newB {K : Nat → Hp → Prop} {n : Nat} (hn : n ≤ 1000) (hn0 : 0 < n) (h : P2 t0 t A none) (hk : ∀ t', P2 t0 t' A (some ⟨some ⟨t.size, 0, none⟩, 0, n, []⟩) → K t.size t') : MKS Pg 3 0 (n : Int) K t := by
  refine MKS_cap zc_3 (by omega) fun t' e z f => ?_
  refine hk t' ⟨h.ext.trans e, fun e' he => ⟨(h.a e' he).1.ext e, (h.a e' he).2⟩, fun e' he => ?_, fun e' f p q he hf hp hq => ?_⟩
  · cases he
    exact ⟨f.le h.ext.1, hn0⟩
  · cases hf; cases hq
    have := fr_lt' (h.a e' he).1 (h.a e' he).2 hp
    show _ ≠ t.size
    omega
theorem P2.appA {K : Option Addr → Nat → Nat → Hp → Prop} {x q : Option Addr} {ds : List Int} {n : Nat} (hq : ∀ t, Ext t0 t → RowAt t q (ints ds)) (hl : ds.length = n) (hn : n ≤ 1000) (h : P2 t0 t (some ⟨x, 1, 1, [-1]⟩) B) (hk : ∀ t' x' c', P2 t0 t' (some ⟨x', 1 + n, c', -1 :: ds⟩) B → K x' (1 + n) c' t') : APP Pg 3 1 x 1 1 q n K t := by
  obtain ⟨fa, _⟩ := h.a _ rfl
  refine APP_fr (lo := t0.size) fa h.ext.1 (ws := ints ds) (hq t h.ext) (by rw [ints_len]; omega) zc_3 rfl (by omega) (ints_one ds) (by omega) fun t' x' c' k hx f => ?_
  have hne : ∀ e, B = some e → ∀ a, e.x = some a → ¬ (∃ p, x = some p ∧ p.block = a.block) := fun e he a ha ⟨p, hp, hpb⟩ => h.ne _ e p a rfl he hp ha hpb
  have hfb : ∀ e, B = some e → Fr t0.size t' e.x e.l e.c 1 (ints e.ds) := fun e he => (h.b e he).1.kp k (hne e he)
  refine hk t' x' c' ⟨kp_nil h.ext (fun b hb => by obtain ⟨p, hp, rfl⟩ := hb; exact fa.fr p hp) k, fun e he => ?_, fun e he => ⟨hfb e he, (h.b e he).2⟩, fun e f' p r he hf hp hr => ?_⟩
  · cases he
    refine ⟨f, ?_⟩
    have := f.buf.le
    rw [List.length_append, ints_len] at this
    simp at this
    show 0 < c'
    omega
  · cases he
    rcases hx p hp with ⟨p', hp', e⟩ | e
    · rw [← e]; exact h.ne _ f' p' r rfl hf hp' hr
    · have := fr_lt' (h.b f' hf).1 (h.b f' hf).2 hr
      omega
theorem P2.appB {K : Option Addr → Nat → Nat → Hp → Prop} {y q : Option Addr} {ds : List Int} {n c : Nat} (hq : ∀ t, Ext t0 t → RowAt t q (ints ds)) (hl : ds.length = n) (hn : n ≤ 1000) (hc : n ≤ c) (hc2 : c ≤ 1000) (h : P2 t0 t A (some ⟨y, 0, c, []⟩)) (hk : ∀ t', P2 t0 t' A (some ⟨y, n, c, ds⟩) → K y (0 + n) c t') : APP Pg 3 1 y 0 c q n K t := by
  obtain ⟨fb, hc0⟩ := h.b _ rfl
  refine APP_bufN fb.buf fb.len (hq t h.ext) (by rw [ints_len]; omega) zc_3 rfl (by omega) (ints_one ds) (by omega) (by show c ≤ _; omega) fun t' x' c' k g1 g2 g3 u => ?_
  obtain ⟨rfl, rfl⟩ := g1 (by omega)
  have hne : ∀ e, A = some e → ∀ a, e.x = some a → ¬ (∃ p, x' = some p ∧ p.block = a.block) := fun e he a ha ⟨p, hp, hpb⟩ => h.ne e _ a p he rfl ha hp hpb.symm
  refine hk t' ⟨kp_nil h.ext (fun b hb => by obtain ⟨p, hp, rfl⟩ := hb; exact fb.fr p hp) k, fun e he => ⟨(h.a e he).1.kp k (hne e he), (h.a e he).2⟩, fun e he => ?_, fun e f p r he hf hp hr => ?_⟩
  · cases he
    refine ⟨⟨?_, by rw [ints_len]; show ds.length = n * 1; omega, fb.fr, by omega⟩, hc0⟩
    have e : ints ([] : List Int) ++ ints ds = ints ds := rfl
    rw [e] at u
    exact u
  · cases hf
    exact h.ne e _ p r he rfl hp hr
end
end Go.Proofs.Ytfaeokcbfnlgbaa.G

/- Prize: plain: without somebody who gets nothing. -/
set_option linter.unusedSimpArgs false
set_option linter.unusedVariables false
set_option maxRecDepth 20000
namespace Go.Proofs.Ytfaeokcbfnlgbaa.G
open Go.V
theorem sorted_eq {T : PT} : ∀ {L L' : List Nat}, L.Pairwise (fun a b => (T.man a).place < (T.man b).place) → L'.Pairwise (fun a b => (T.man a).place < (T.man b).place) → (∀ m, m ∈ L ↔ m ∈ L') → L = L'
  | [], [], _, _, _ => rfl
  | [], y :: L', _, _, h => absurd ((h y).2 (by simp)) (by simp)
  | x :: L, [], _, _, h => absurd ((h x).1 (by simp)) (by simp)
  | x :: L, y :: L', h1, h2, h => by
    rw [List.pairwise_cons] at h1 h2
    have hxy : x = y := by
      rcases List.mem_cons.1 ((h x).1 (by simp)) with e | e
      · exact e
      · rcases List.mem_cons.1 ((h y).2 (by simp)) with e' | e'
        · exact e'.symm
        · have a := h2.1 x e
          have b := h1.1 y e'
          omega
    subst hxy
    congr 1
    refine sorted_eq h1.2 h2.2 fun m => ⟨fun hm => ?_, fun hm => ?_⟩
    · rcases List.mem_cons.1 ((h m).1 (by simp [hm])) with e | e
      · subst e; have := h1.1 m hm; omega
      · exact e
    · rcases List.mem_cons.1 ((h m).2 (by simp [hm])) with e | e
      · subst e; have := h2.1 m hm; omega
      · exact e
theorem ord_unique {T : PT} (hv : VdP T) {L : List Nat} (hp : L.Pairwise fun a b => (T.man a).place < (T.man b).place) (hm : ∀ m, m ∈ L ↔ m < T.n) : ordP T = L :=
  sorted_eq (ord_sorted hv) hp fun m => by rw [ord_mem hv, hm]
def dnK (m i : Nat) : Nat := if i > m then i - 1 else i
theorem man_without {T : PT} {m i : Nat} (hm : m < T.n) (hi : i < T.n) (hne : i ≠ m) : (withoutP T m).man (dnK m i) = decP (T.man m).place (T.man i) := by
  have hg : ((T.men.eraseIdx m).map (decP (T.man m).place))[dnK m i]? = some (decP (T.man m).place (T.man i)) := by
    rw [List.getElem?_map, List.getElem?_eraseIdx]
    have hi' : i < T.men.length := hi
    have e : (if dnK m i < m then T.men[dnK m i]? else T.men[dnK m i + 1]?) = some (T.man i) := by
      have hat : T.men[i]? = some (T.man i) := by unfold PT.man; rw [getD_lt hi', List.getElem?_eq_getElem hi']
      by_cases h : i > m
      · have : dnK m i = i - 1 := by unfold dnK; rw [if_pos h]
        rw [this, if_neg (by omega), show i - 1 + 1 = i by omega, hat]
      · have : dnK m i = i := by unfold dnK; rw [if_neg h]
        rw [this, if_pos (by omega), hat]
    rw [e]; rfl
  show ((T.men.eraseIdx m).map (decP (T.man m).place)).getD (dnK m i) default = _
  rw [List.getD_eq_getElem?_getD, hg]
  rfl
theorem dec_lt {p : Int} {a b : Mn} (ha : a.place ≠ p) (hb : b.place ≠ p) (h : a.place < b.place) : (decP p a).place < (decP p b).place := by
  unfold decP
  by_cases h1 : a.place > p
  · rw [if_pos h1, if_pos (by omega)]
    show a.place - 1 < b.place - 1
    omega
  · rw [if_neg h1]
    by_cases h2 : b.place > p
    · rw [if_pos h2]; show a.place < b.place - 1; omega
    · rw [if_neg h2]; exact h
theorem dnK_inj {m i j : Nat} (hi : i ≠ m) (hj : j ≠ m) (h : dnK m i = dnK m j) : i = j := by
  unfold dnK at h
  split at h <;> split at h <;> omega
theorem dnK_up {m k : Nat} : dnK m (upK m k) = k ∧ upK m k ≠ m := by
  unfold dnK upK
  by_cases h : k ≥ m
  · rw [if_pos h, if_pos (by omega)]; omega
  · rw [if_neg h, if_neg (by omega)]; omega
theorem ord_without {T : PT} (hok : okP T = true) {m : Nat} (hm : m < T.n) (h2 : 2 ≤ T.n) : ordP (withoutP T m) = ((ordP T).filter fun k => !decide (k = m)).map (dnK m) := by
  have hv := okP_vd hok
  have hvW := okP_vd (ok_without hok hm h2)
  have hn := without_n hm
  refine ord_unique hvW ?_ fun j => ?_
  · rw [List.pairwise_map]
    refine ((ord_sorted hv).filter _).imp_of_mem fun {a b} ha hb hab => ?_
    obtain ⟨a1, a2⟩ := List.mem_filter.1 ha
    obtain ⟨b1, b2⟩ := List.mem_filter.1 hb
    have a1 := (ord_mem hv).1 a1
    have b1 := (ord_mem hv).1 b1
    have a2 : a ≠ m := by simpa using a2
    have b2 : b ≠ m := by simpa using b2
    rw [man_without hm a1 a2, man_without hm b1 b2]
    exact dec_lt (fun e => a2 (hv.inj a m a1 hm e)) (fun e => b2 (hv.inj b m b1 hm e)) hab
  · rw [hn]
    constructor
    · intro h
      obtain ⟨i, hi, rfl⟩ := List.mem_map.1 h
      obtain ⟨h1, h2'⟩ := List.mem_filter.1 hi
      have h1 := (ord_mem hv).1 h1
      have h2' : i ≠ m := by simpa using h2'
      unfold dnK
      split <;> omega
    · intro h
      refine List.mem_map.2 ⟨upK m j, List.mem_filter.2 ⟨(ord_mem hv).2 ?_, ?_⟩, dnK_up.1⟩
      · unfold upK; split <;> omega
      · have := (dnK_up (m := m) (k := j)).2
        simpa using this
theorem canP_kind {T T' : PT} {i j z : Nat} (hz : T'.pz z = T.pz z) (h1 : (T'.man i).nov = (T.man j).nov) (h2 : (T'.man i).hor = (T.man j).hor) (h3 : (T'.man i).club = (T.man j).club) : canP T' i z = canP T j z := by
  unfold canP canK
  rw [hz, h1, h2, h3]
theorem dec_same (p : Int) (a : Mn) : (decP p a).nov = a.nov ∧ (decP p a).hor = a.hor ∧ (decP p a).club = a.club := by
  unfold decP
  split <;> exact ⟨rfl, rfl, rfl⟩
/-- What renumbered men get. -/
theorem worL_ren {T T' : PT} {σ : Nat → Nat} {g : List (Option Nat)} {i : Nat} (hz : ∀ k, k < g.length → (T'.pz k).worth = (T.pz k).worth) (hi : i < T.n) (hi' : σ i < T'.n) (hg : ∀ q, some q ∈ g → q < T.n ∧ σ q < T'.n ∧ (σ q = σ i → q = i)) :
    ∀ k, k ≤ g.length → (worL T' (manL (g.map (Option.map σ))) k).getD (σ i) 0 = (worL T (manL g) k).getD i 0
  | 0, _ => by
    unfold worL
    simp [List.getD, hi, hi']
  | k + 1, hk => by
    have ih := worL_ren hz hi hi' hg k (by omega)
    have hkg : k < g.length := by omega
    rw [worL_step hkg, worL_step (by rw [List.length_map]; exact hkg)]
    have hgd : (g.map (Option.map σ)).getD k none = (g.getD k none).map σ := by
      rw [getD_lt (by rw [List.length_map]; exact hkg), List.getElem_map, getD_lt hkg]
    rw [hgd]
    cases ho : g.getD k none with
    | none => exact ih
    | some q =>
      have hq : some q ∈ g := by rw [getD_lt hkg] at ho; rw [← ho]; exact List.getElem_mem hkg
      obtain ⟨h1, h2, h3⟩ := hg q hq
      show ((worL T' (manL (g.map (Option.map σ))) k).set (σ q) (T'.pz k).worth).getD (σ i) 0 = ((worL T (manL g) k).set q (T.pz k).worth).getD i 0
      rw [hz k hkg]
      by_cases e : q = i
      · subst e
        rw [getD_lt (by rw [List.length_set, worL_len]; exact h2), getD_lt (by rw [List.length_set, worL_len]; exact h1), List.getElem_set_self, List.getElem_set_self]
      · have e' : σ q ≠ σ i := fun hh => e (h3 hh)
        simp only [List.getD] at ih ⊢
        rw [List.getElem?_set_ne e', List.getElem?_set_ne e]
        exact ih
theorem due_without {T : PT} (hok : okP T = true) {m : Nat} (hm : m < T.n) (h2 : 2 ≤ T.n) (hnc : noClub T = true) (hmd : ¬ some m ∈ dueP T) : dueP (withoutP T m) = (dueP T).map (Option.map (dnK m)) := by
  have hv := okP_vd hok
  show dueL (withoutP T m) T.z = (dueL T T.z).map _
  rw [dueL_O, dueL_O, ord_without hok hm h2]
  refine due_ren (can := canC T) (can' := canC (withoutP T m)) ?_ T.z ?_ ?_
  · intro i hi j hj h1 h3 e
    exact dnK_inj (by simpa using h1) (by simpa using h3) e
  · intro i hi hd z hz
    have hi := (ord_mem hv).1 hi
    have hne : i ≠ m := by simpa using hd
    have h4 := noClub_at hnc hz
    rw [canC_not4 h4, canC_not4 (T := withoutP T m) (show ¬ ((withoutP T m).pz z).kind = 4 from h4)]
    have hd := dec_same (T.man m).place (T.man i)
    rw [← man_without hm hi hne] at hd
    exact canP_kind rfl hd.1 hd.2.1 hd.2.2
  · intro q hq
    rw [← dueL_O] at hq
    have : q ≠ m := fun e => hmd (by rw [← e]; exact hq)
    simpa using this
theorem stay_none {T : PT} (hok : okP T = true) {m : Nat} (hm : m < T.n) (h2 : 2 ≤ T.n) (hnc : noClub T = true) (hmd : ¬ some m ∈ dueP T) : setK (gainB T m) T.n = 0 := by
  have hv := okP_vd hok
  have hn := without_n hm
  have hg := due_okG hv T.z
  rw [← setK_zero T.n]
  refine setK_congr T.n fun i hi => ?_
  unfold gainB
  by_cases e : i = m
  · simp [e]
  have hw : (worP (withoutP T m) (manL (dueP (withoutP T m)))).getD (dnK m i) 0 = (worP T (manL (dueP T))).getD i 0 := by
    rw [due_without hok hm h2 hnc hmd]
    unfold worP
    have hl : (manL ((dueP T).map (Option.map (dnK m)))).length = (dueP T).length := by unfold manL; rw [List.length_map, List.length_map]
    have hl2 : (manL (dueP T)).length = (dueP T).length := by unfold manL; rw [List.length_map]
    rw [hl, hl2]
    have lt : ∀ q, q < T.n → q ≠ m → dnK m q < (withoutP T m).n := fun q h1 h3 => by rw [hn]; unfold dnK; split <;> omega
    refine worL_ren (T := T) (T' := withoutP T m) (σ := dnK m) (fun k _ => rfl) hi (lt i hi e) (fun q hq => ?_) _ (Nat.le_refl _)
    have hqm : q ≠ m := fun e' => hmd (by rw [← e']; exact hq)
    have hqn := hg.lt q hq
    exact ⟨hqn, lt q hqn hqm, fun hh => dnK_inj hqm e hh⟩
  have hdn : (if i > m then i - 1 else i) = dnK m i := rfl
  rw [hdn, hw]
  simp
end Go.Proofs.Ytfaeokcbfnlgbaa.G

/- Prize: plain: at a better place one gets a prize, too. -/
set_option linter.unusedSimpArgs false
set_option linter.unusedVariables false
set_option maxRecDepth 20000
namespace Go.Proofs.Ytfaeokcbfnlgbaa.G
open Go.V
theorem for_spec {T : PT} {m : Nat} : ∀ k, (∃ p : Nat, 1 ≤ p ∧ p ≤ k ∧ forL T m k = ((p : Int), 0) ∧ getsP T m p = true ∧ ∀ q, p < q → q ≤ k → getsP T m q = false) ∨ (forL T m k = (0, 4) ∧ ∀ q, 1 ≤ q → q ≤ k → getsP T m q = false)
  | 0 => .inr ⟨rfl, fun q h1 h2 => by omega⟩
  | k + 1 => by
    have hs : forL T m (k + 1) = if getsP T m (k + 1) then (((k + 1 : Nat) : Int), 0) else forL T m k := rfl
    cases hg : getsP T m (k + 1) with
    | true =>
      rw [hg] at hs
      exact .inl ⟨k + 1, by omega, by omega, hs, hg, fun q h1 h2 => by omega⟩
    | false =>
      rw [hg] at hs
      have hs : forL T m (k + 1) = forL T m k := hs
      rw [hs]
      rcases for_spec (T := T) (m := m) k with ⟨p, h1, h2, h3, h4, h5⟩ | ⟨h1, h2⟩
      · refine .inl ⟨p, h1, by omega, h3, h4, fun q q1 q2 => ?_⟩
        by_cases e : q = k + 1
        · rw [e]; exact hg
        · exact h5 q q1 (by omega)
      · refine .inr ⟨h1, fun q q1 q2 => ?_⟩
        by_cases e : q = k + 1
        · rw [e]; exact hg
        · exact h2 q q1 (by omega)
def insN (os : List Nat) (i m : Nat) : List Nat := os.take i ++ m :: os.drop i
theorem nats_ins (os : List Nat) (i m : Nat) : nats (insN os i m) = insL (nats os) i (m : Int) := by
  unfold nats insN insL
  rw [List.map_append, List.map_cons, List.map_take, List.map_drop]
theorem ord_moved {T : PT} (hok : okP T = true) {m pl : Nat} (hm : m < T.n) (h1 : 1 ≤ pl) (h2 : pl ≤ T.n) : ordP (movedP T m (pl : Int)) = insN (othL T m) (pl - 1) m := by
  have hv := okP_vd hok
  have hokM := ok_moved (pl := (pl : Int)) hok hm (by omega) (by omega)
  have hvM := okP_vd hokM
  have hn := moved_n T m (pl : Int)
  have hlo := oth_len hv hm
  have hli : (insN (othL T m) (pl - 1) m).length = T.n := by
    unfold insN
    rw [List.length_append, List.length_cons, List.length_take, List.length_drop]
    omega
  refine List.ext_getElem (by rw [ord_len, hn, hli]) fun j g1 g2 => ?_
  rw [hli] at g2
  obtain ⟨i, hi, hget, hnew⟩ := new_order hv hm h1 h2 g2
  rw [← nats_ins] at hget
  have e1 : (insN (othL T m) (pl - 1) m)[j]'(by rw [hli]; exact g2) = i := by
    unfold nats at hget
    rw [List.getElem?_map, List.getElem?_eq_getElem (by rw [hli]; exact g2)] at hget
    have := Option.some.inj hget
    have : (((insN (othL T m) (pl - 1) m)[j]'(by rw [hli]; exact g2) : Nat) : Int) = (i : Int) := this
    omega
  rw [e1, ord_at g1]
  obtain ⟨q1, q2⟩ := hvM.sur ((j + 1 : Nat) : Int) (by omega) (by rw [hn]; omega)
  refine hvM.inj _ _ q1 (by rw [hn]; exact hi) ?_
  rw [q2, moved_man hi]
  exact hnew.symm
theorem canC_moved {T : PT} (hnc : noClub T = true) {m i z : Nat} {pl : Int} (hi : i < T.n) (hz : z < T.z) : canC (movedP T m pl) i z = canC T i z := by
  have h4 := noClub_at hnc hz
  have e1 : canC (movedP T m pl) i z = canP (movedP T m pl) i z := by
    unfold canC
    have : ¬ ((movedP T m pl).pz z).kind = 4 := h4
    rw [decide_eq_true this]; simp
  have e2 : canC T i z = canP T i z := by
    unfold canC
    rw [decide_eq_true h4]; simp
  rw [e1, e2]
  unfold canP
  rw [moved_man hi]
  rfl
theorem filter_ne {m : Nat} : ∀ {l : List Nat}, ¬ m ∈ l → l.filter (fun k => !decide (k = m)) = l
  | [], _ => rfl
  | x :: l, h => by
    have hx : ¬ x = m := fun e => h (by simp [e])
    rw [List.filter_cons, if_pos (by simpa using hx), filter_ne (fun hm => h (by simp [hm]))]
theorem ins_mono {can : Nat → Nat → Bool} {m : Nat} {A B C : List Nat} (hA : ¬ m ∈ A) (hB : ¬ m ∈ B) (hC : ¬ m ∈ C) : ∀ k, some m ∈ dueO can (A ++ B ++ m :: C) k → some m ∈ dueO can (A ++ m :: (B ++ C)) k
  | 0, h => by cases h
  | k + 1, h => by
    refine Classical.byContradiction fun hno => ?_
    have hno' : ¬ some m ∈ dueO can (A ++ m :: (B ++ C)) k ++ [(A ++ m :: (B ++ C)).find? (freeQ can (dueO can (A ++ m :: (B ++ C)) k) k)] := hno
    have hn2 : ¬ some m ∈ dueO can (A ++ m :: (B ++ C)) k := fun hh => hno' (List.mem_append_left _ hh)
    have hn1 : ¬ some m ∈ dueO can (A ++ B ++ m :: C) k := fun hh => hn2 (ins_mono hA hB hC k hh)
    have f1 : (A ++ B ++ m :: C).filter (fun k => !decide (k = m)) = A ++ B ++ C := by
      rw [List.filter_append, List.filter_append, filter_ne hA, filter_ne hB, List.filter_cons, if_neg (by simp), filter_ne hC]
    have f2 : (A ++ m :: (B ++ C)).filter (fun k => !decide (k = m)) = A ++ B ++ C := by
      rw [List.filter_append, filter_ne hA, List.filter_cons, if_neg (by simp), List.filter_append, filter_ne hB, filter_ne hC, List.append_assoc]
    have key : ∀ l : List Nat, l.filter (fun k => !decide (k = m)) = A ++ B ++ C → ¬ some m ∈ dueO can l k → dueO can (A ++ B ++ C) k = dueO can l k := by
      intro l hl hn
      have := due_ren (can := can) (can' := can) (l := l) (σ := id) (D := fun k => !decide (k = m)) (fun i _ j _ _ _ e => e) k (fun i _ _ z _ => rfl) (fun q hq => by
        have : q ≠ m := fun e => hn (by rw [← e]; exact hq)
        simpa using this)
      rw [hl] at this
      simpa using this
    have k1 := key _ f1 hn1
    have k2 := key _ f2 hn2
    have hlast : (A ++ B ++ m :: C).find? (freeQ can (dueO can (A ++ B ++ m :: C) k) k) = some m := by
      have h' : some m ∈ dueO can (A ++ B ++ m :: C) k ++ [(A ++ B ++ m :: C).find? (freeQ can (dueO can (A ++ B ++ m :: C) k) k)] := h
      rcases List.mem_append.1 h' with hh | hh
      · exact absurd hh hn1
      · exact (List.mem_singleton.1 hh).symm
    rw [← k1] at hlast
    rw [← k2] at hno'
    generalize dueO can (A ++ B ++ C) k = d at hlast hno'
    have hqm := List.find?_some hlast
    have hAn : A.find? (freeQ can d k) = none := by
      rw [List.find?_append, List.find?_append] at hlast
      cases hf : A.find? (freeQ can d k) with
      | none => rfl
      | some j =>
        rw [hf] at hlast
        have : some j = some m := hlast
        have hj := List.mem_of_find?_eq_some hf
        rw [Option.some.inj this] at hj
        exact absurd hj hA
    refine hno' (List.mem_append_right _ ?_)
    rw [List.find?_append, hAn, List.find?_cons, hqm]
    simp
theorem gets_mono {T : PT} (hok : okP T = true) {m p q : Nat} (hm : m < T.n) (hnc : noClub T = true) (h1 : 1 ≤ q) (h2 : q ≤ p) (h3 : p ≤ T.n) (h : getsP T m p = true) : getsP T m q = true := by
  have hv := okP_vd hok
  have key : ∀ pl, 1 ≤ pl → pl ≤ T.n → (getsP T m pl = true ↔ some m ∈ dueO (canC T) (insN (othL T m) (pl - 1) m) T.z) := by
    intro pl a b
    unfold getsP
    rw [decide_eq_true_eq, man_mem_iff]
    have e : dueP (movedP T m (pl : Int)) = dueO (canC T) (insN (othL T m) (pl - 1) m) T.z := by
      show dueL (movedP T m (pl : Int)) T.z = _
      rw [dueL_O, ord_moved hok hm a b]
      refine dueO_congr T.z fun i hi z hz => canC_moved hnc ?_ hz
      have : i ∈ ordP (movedP T m (pl : Int)) := by rw [ord_moved hok hm a b]; exact hi
      have := (ord_mem (okP_vd (ok_moved (pl := (pl : Int)) hok hm (by omega) (by omega)))).1 this
      rw [moved_n] at this; exact this
    rw [e]
  rw [key q h1 (by omega)]
  rw [key p (by omega) h3] at h
  have hno : ¬ m ∈ othL T m := fun hh => by
    have := (List.mem_filter.1 hh).2
    simp at this
  have hp : (othL T m).take (p - 1) = (othL T m).take (q - 1) ++ ((othL T m).take (p - 1)).drop (q - 1) := by
    have := List.take_append_drop (q - 1) ((othL T m).take (p - 1))
    rw [List.take_take, Nat.min_eq_left (by omega)] at this
    exact this.symm
  have hd : (othL T m).drop (q - 1) = ((othL T m).take (p - 1)).drop (q - 1) ++ (othL T m).drop (p - 1) := by
    have h0 := List.take_append_drop (p - 1) (othL T m)
    conv => lhs; rw [← h0]
    rw [List.drop_append]
    congr 1
    rw [List.length_take]
    have hl := oth_len hv hm
    rw [Nat.min_eq_left (by omega), show q - 1 - (p - 1) = 0 by omega, List.drop_zero]
  unfold insN at h ⊢
  rw [hp] at h
  rw [hd]
  refine ins_mono (fun hh => hno (List.mem_of_mem_take hh)) (fun hh => hno (List.mem_of_mem_take (List.mem_of_mem_drop hh))) (fun hh => hno (List.mem_of_mem_drop hh)) T.z h
end Go.Proofs.Ytfaeokcbfnlgbaa.G

/- Prize: plain: the best club. -/
set_option linter.unusedSimpArgs false
set_option linter.unusedVariables false
set_option maxRecDepth 20000
namespace Go.Proofs.Ytfaeokcbfnlgbaa.G
open Go.V
def stepT (one two p : Int) : Int × Int := if one = 0 ∨ p < one then (p, one) else if two = 0 ∨ p < two then (one, p) else (one, two)
def Two (P : Int → Prop) (one two : Int) : Prop := (one = 0 ∧ two = 0 ∧ ∀ p, ¬ P p) ∨ (0 < one ∧ two = 0 ∧ ∀ p, P p ↔ p = one) ∨ (0 < one ∧ one < two ∧ P one ∧ P two ∧ ∀ p, P p → p = one ∨ two ≤ p)
theorem Two.step {P : Int → Prop} {one two p : Int} (h : Two P one two) (hp : 0 < p) (hn : ¬ P p) : Two (fun q => P q ∨ q = p) (stepT one two p).1 (stepT one two p).2 := by
  unfold stepT
  rcases h with ⟨rfl, rfl, h3⟩ | ⟨h1, rfl, h3⟩ | ⟨h1, h2, h3, h4, h5⟩
  · rw [if_pos (.inl rfl)]
    refine .inr (.inl ⟨hp, rfl, fun q => ⟨fun hq => ?_, fun hq => .inr hq⟩⟩)
    rcases hq with hq | hq
    · exact absurd hq (h3 q)
    · exact hq
  · have hne : p ≠ one := fun e => hn ((h3 p).2 e)
    by_cases hl : p < one
    · rw [if_pos (.inr hl)]
      refine .inr (.inr ⟨hp, hl, .inr rfl, .inl ((h3 one).2 rfl), fun q hq => ?_⟩)
      rcases hq with hq | hq
      · right; rw [(h3 q).1 hq]; exact Int.le_refl _
      · left; exact hq
    · rw [if_neg (by omega), if_pos (.inl rfl)]
      refine .inr (.inr ⟨h1, by show one < p; omega, .inl ((h3 one).2 rfl), .inr rfl, fun q hq => ?_⟩)
      rcases hq with hq | hq
      · left; exact (h3 q).1 hq
      · right; show p ≤ q; omega
  · have hne1 : p ≠ one := fun e => hn (e ▸ h3)
    have hne2 : p ≠ two := fun e => hn (e ▸ h4)
    by_cases hl : p < one
    · rw [if_pos (.inr hl)]
      refine .inr (.inr ⟨hp, hl, .inr rfl, .inl h3, fun q hq => ?_⟩)
      rcases hq with hq | hq
      · right
        rcases h5 q hq with e | e
        · show one ≤ q; omega
        · show one ≤ q; omega
      · left; exact hq
    · by_cases hl2 : p < two
      · rw [if_neg (by omega), if_pos (.inr hl2)]
        refine .inr (.inr ⟨h1, by show one < p; omega, .inl h3, .inr rfl, fun q hq => ?_⟩)
        rcases hq with hq | hq
        · rcases h5 q hq with e | e
          · left; exact e
          · right; show p ≤ q; omega
        · right; show p ≤ q; omega
      · rw [if_neg (by omega), if_neg (by omega)]
        refine .inr (.inr ⟨h1, h2, .inl h3, .inl h4, fun q hq => ?_⟩)
        rcases hq with hq | hq
        · exact h5 q hq
        · right; show two ≤ q; omega
theorem Two.congr {P Q : Int → Prop} {one two : Int} (h : Two P one two) (e : ∀ p, P p ↔ Q p) : Two Q one two := by
  have : P = Q := funext fun p => propext (e p)
  rw [← this]; exact h
theorem Two.sum {n : Nat} {l : List Int} {one two : Int} (hs : l.Pairwise (· < ·)) (hpos : ∀ p ∈ l, 0 < p) (h : Two (· ∈ l) one two) :
    (sumC n l).isSome = decide (one ≠ 0) ∧ (sumC n l).getD 0 = (if one ≠ 0 ∧ two = 0 then one + (n + 1) else one + two) := by
  cases l with
  | nil =>
    rcases h with ⟨h1, h2, _⟩ | ⟨h1, h2, h3⟩ | ⟨h1, h2, h3, _⟩
    · subst h1; subst h2; exact ⟨rfl, rfl⟩
    · exact absurd ((h3 one).2 rfl) (by simp)
    · exact absurd h3 (by simp)
  | cons a l =>
    cases l with
    | nil =>
      rcases h with ⟨h1, h2, h3⟩ | ⟨h1, h2, h3⟩ | ⟨h1, h2, h3, h4, _⟩
      · exact absurd (by simp) (h3 a)
      · have : a = one := (h3 a).1 (by simp)
        subst this
        have h0 : a ≠ 0 := by omega
        refine ⟨by rw [decide_eq_true h0]; rfl, ?_⟩
        rw [if_pos ⟨h0, h2⟩]
        show a + n + 1 = _
        omega
      · simp at h3 h4; omega
    | cons b r =>
      rw [List.pairwise_cons] at hs
      obtain ⟨hs1, hs2⟩ := hs
      rw [List.pairwise_cons] at hs2
      have hab := hs1 b (by simp)
      rcases h with ⟨h1, h2, h3⟩ | ⟨h1, h2, h3⟩ | ⟨h1, h2, h3, h4, h5⟩
      · exact absurd (by simp) (h3 a)
      · have e1 := (h3 a).1 (by simp)
        have e2 := (h3 b).1 (by simp)
        omega
      · have e1 : a = one := by
          rcases h5 a (by simp) with e | e
          · exact e
          · rcases List.mem_cons.1 h3 with e3 | e3
            · omega
            · have := hs1 one e3; omega
        have e2 : b = two := by
          have hb : two ≤ b := by
            rcases h5 b (by simp) with e | e
            · omega
            · exact e
          rcases List.mem_cons.1 h4 with e3 | e3
          · omega
          · rcases List.mem_cons.1 e3 with e4 | e4
            · exact e4.symm
            · have := hs2.1 two e4; omega
        subst e1; subst e2
        have h0 : a ≠ 0 := by omega
        have h0' : b ≠ 0 := by omega
        refine ⟨by rw [decide_eq_true h0]; rfl, ?_⟩
        rw [if_neg (fun hh => h0' hh.2)]
        rfl
theorem places_sorted {T : PT} (hv : VdP T) (c : Int) : (places T c).Pairwise (· < ·) := by
  unfold places ordF
  rw [List.pairwise_map]
  exact (ord_sorted hv).filter _
theorem places_iff {T : PT} (hv : VdP T) {c p : Int} : p ∈ places T c ↔ ∃ i, i < T.n ∧ (T.man i).club = c ∧ (T.man i).place = p := by
  unfold places ordF
  constructor
  · intro h
    obtain ⟨m, hm, e⟩ := List.mem_map.1 h
    obtain ⟨h1, h2⟩ := List.mem_filter.1 hm
    exact ⟨m, (ord_mem hv).1 h1, by simpa using h2, e⟩
  · rintro ⟨i, hi, h1, h2⟩
    exact List.mem_map.2 ⟨i, List.mem_filter.2 ⟨(ord_mem hv).2 hi, by simpa using h1⟩, h2⟩
/-- The places of a club's first so many. -/
def ClP (T : PT) (c : Int) (k : Nat) (p : Int) : Prop := ∃ i, i < k ∧ (T.man i).club = c ∧ (T.man i).place = p
theorem clubs_sorted (T : PT) : ∀ k, (clubsL T k).Pairwise fun a b => a.1 < b.1
  | 0 => List.Pairwise.nil
  | k + 1 => by
    rw [clubsL_succ]
    refine List.pairwise_append.2 ⟨clubs_sorted T k, ?_, fun a ha b hb => ?_⟩
    · split <;> simp
    · have h1 := (clubs_mem ha).1.2
      split at hb
      · have hb' : b = (((k + 1 : Nat) : Int), _) := List.mem_singleton.1 hb
        rw [hb']
        show a.1 < ((k + 1 : Nat) : Int)
        omega
      · cases hb
theorem firstL_min {l : List (Int × Int)} (hs : l.Pairwise fun a b => a.1 < b.1) {x : Int × Int} (hx : x ∈ l) : (firstL l).2 ≤ x.2 ∧ ((firstL l).2 = x.2 → (firstL l).1 ≤ x.1) := by
  have key : ∀ (r : List (Int × Int)) (b : Int × Int), (b :: r).Pairwise (fun a b => a.1 < b.1) → ∀ x ∈ b :: r, (r.foldl minC b).2 ≤ x.2 ∧ ((r.foldl minC b).2 = x.2 → (r.foldl minC b).1 ≤ x.1) := by
    intro r
    induction r with
    | nil => intro b _ x hx; rw [List.mem_singleton.1 hx]; exact ⟨Int.le_refl _, fun _ => Int.le_refl _⟩
    | cons y r ih =>
      intro b hp x hx
      rw [List.pairwise_cons] at hp
      obtain ⟨hp1, hp2⟩ := hp
      have hyp := hp1 y (by simp)
      rw [List.pairwise_cons] at hp2
      show ((r.foldl minC (minC b y))).2 ≤ _ ∧ _
      by_cases hlt : y.2 < b.2
      · have e : minC b y = y := by unfold minC; rw [if_pos hlt]
        rw [List.foldl_cons, e]
        have hy := ih y (List.pairwise_cons.2 hp2)
        rcases List.mem_cons.1 hx with rfl | hx
        · have := (hy y (by simp)).1
          exact ⟨by omega, fun hh => by omega⟩
        · exact hy x hx
      · have e : minC b y = b := by unfold minC; rw [if_neg hlt]
        rw [List.foldl_cons, e]
        have hb := ih b (List.pairwise_cons.2 ⟨fun z hz => hp1 z (by simp [hz]), hp2.2⟩)
        rcases List.mem_cons.1 hx with rfl | hx
        · exact hb x (by simp)
        · rcases List.mem_cons.1 hx with rfl | hx
          · have h1 := hb b (by simp)
            refine ⟨by omega, fun hh => ?_⟩
            have := h1.2 (by omega)
            omega
          · exact hb x (by simp [hx])
  cases l with
  | nil => cases hx
  | cons y r => exact key r y hs x hx
theorem clubs_in {T : PT} {c m : Int} (h1 : 1 ≤ c) (h5 : c ≤ 5) (h : sumC T.n (places T c) = some m) : (c, m) ∈ clubsL T 5 := by
  unfold clubsL
  refine List.mem_filterMap.2 ⟨(c - 1).toNat, List.mem_range.2 (by omega), ?_⟩
  have e : (((c - 1).toNat + 1 : Nat) : Int) = c := by omega
  rw [e, h]
  rfl
/-- What the best club is. -/
theorem best_one {T : PT} {c m : Int} (h1 : 1 ≤ c) (h5 : c ≤ 5) (h : sumC T.n (places T c) = some m) : bestP T ≠ (0, 0) ∧ (bestP T).2 ≤ m ∧ (m = (bestP T).2 → (bestP T).1 ≤ c) ∧ (c = (bestP T).1 → m = (bestP T).2) ∧ sumC T.n (places T (bestP T).1) = some (bestP T).2 := by
  have hin := clubs_in h1 h5 h
  have hne : clubsL T 5 ≠ [] := fun e => by rw [e] at hin; cases hin
  have hb := clubs_mem (firstL_mem _ hne)
  have hm := firstL_min (clubs_sorted T 5) hin
  refine ⟨fun e => ?_, hm.1, fun e => hm.2 e.symm, fun e => ?_, hb.2⟩
  · have h := hb.1.1
    have : (firstL (clubsL T 5)) = (0, 0) := e
    rw [this] at h
    have : (1 : Int) ≤ 0 := h
    omega
  · have h2 := hb.2
    have : (firstL (clubsL T 5)).1 = c := e.symm
    rw [this, h] at h2
    exact Option.some.inj h2
theorem best_none {T : PT} (h : ∀ c : Int, 1 ≤ c → c ≤ 5 → sumC T.n (places T c) = none) : bestP T = (0, 0) := by
  unfold bestP
  have : clubsL T 5 = [] := by
    refine List.eq_nil_iff_forall_not_mem.2 fun x hx => ?_
    obtain ⟨h1, h2⟩ := clubs_mem hx
    rw [h x.1 h1.1 h1.2] at h2
    cases h2
  rw [this]; rfl
end Go.Proofs.Ytfaeokcbfnlgbaa.G

/- Prize: plain: if men are numbered otherwise. -/
set_option linter.unusedSimpArgs false
set_option linter.unusedVariables false
set_option maxRecDepth 20000
namespace Go.Proofs.Ytfaeokcbfnlgbaa.G
open Go.V
structure Ren (T T' : PT) (σ : Nat → Nat) : Prop where
  n : T'.n = T.n
  list : T'.list = T.list
  lt : ∀ i, i < T.n → σ i < T.n
  inj : ∀ i j, i < T.n → j < T.n → σ i = σ j → i = j
  sur : ∀ j, j < T.n → ∃ i, i < T.n ∧ σ i = j
  man : ∀ i, i < T.n → T'.man (σ i) = T.man i
section
variable {T T' : PT} {σ : Nat → Nat}
theorem man_at {T : PT} {i : Nat} (h : i < T.men.length) : T.men[i] = T.man i := by unfold PT.man; rw [getD_lt h]
theorem Ren.ok (h : Ren T T' σ) (hok : okP T = true) : okP T' = true := by
  have hv := okP_vd hok
  obtain ⟨g1, g2, g3, g4⟩ := okP_iff.1 hok
  rw [okP_iff, h.n]
  refine ⟨g1, by unfold PT.z; rw [h.list]; exact g2, ?_, by rw [h.list]; exact g4⟩
  have key : ∀ j, j < T.n → ∃ i, i < T.n ∧ σ i = j ∧ T'.man j = T.man i := fun j hj => by
    obtain ⟨i, hi, e⟩ := h.sur j hj
    exact ⟨i, hi, e, by rw [← e]; exact h.man i hi⟩
  have hlen : T'.men.length = T.n := h.n
  rw [okMs_iff]
  refine ⟨fun m hm => ?_, ?_, fun _ _ x hx => by cases hx⟩
  · obtain ⟨j, hj, e⟩ := List.mem_iff_getElem.1 hm
    obtain ⟨i, hi, _, e2⟩ := key j (by omega)
    rw [man_at, e2] at e
    rw [← e]
    exact ⟨hv.pl i hi, hv.cl i hi⟩
  · rw [List.pairwise_iff_getElem]
    intro a b ha hb hab e
    obtain ⟨i, hi, e1, e2⟩ := key a (by omega)
    obtain ⟨j, hj, e3, e4⟩ := key b (by omega)
    rw [man_at, man_at, e2, e4] at e
    have := hv.inj i j hi hj e
    rw [this, e3] at e1
    omega
theorem Ren.ord (h : Ren T T' σ) (hok : okP T = true) : ordP T' = (ordP T).map σ := by
  have hv := okP_vd hok
  refine ord_unique (okP_vd (h.ok hok)) ?_ fun m => ?_
  · rw [List.pairwise_map]
    refine (ord_sorted hv).imp_of_mem fun {a b} ha hb hab => ?_
    rw [h.man a ((ord_mem hv).1 ha), h.man b ((ord_mem hv).1 hb)]
    exact hab
  · rw [h.n]
    constructor
    · intro hm
      obtain ⟨i, hi, rfl⟩ := List.mem_map.1 hm
      exact h.lt i ((ord_mem hv).1 hi)
    · intro hm
      obtain ⟨i, hi, e⟩ := h.sur m hm
      exact List.mem_map.2 ⟨i, (ord_mem hv).2 hi, e⟩
theorem Ren.pz (h : Ren T T' σ) (z : Nat) : T'.pz z = T.pz z := by unfold PT.pz; rw [h.list]
theorem Ren.z (h : Ren T T' σ) : T'.z = T.z := by unfold PT.z; rw [h.list]
theorem Ren.places (h : Ren T T' σ) (hok : okP T = true) (c : Int) : places T' c = places T c := by
  have hv := okP_vd hok
  unfold G.places ordF
  rw [h.ord hok, List.filter_map, List.map_map]
  have e : ∀ l : List Nat, (∀ m ∈ l, m < T.n) → (l.filter ((fun m => (T'.man m).club == c) ∘ σ)).map ((fun m => (T'.man m).place) ∘ σ) = (l.filter fun m => (T.man m).club == c).map fun m => (T.man m).place := by
    intro l
    induction l with
    | nil => intro _; rfl
    | cons x l ih =>
      intro hl
      have hx := h.man x (hl x (by simp))
      have ih := ih (fun m hm => hl m (by simp [hm]))
      rw [List.filter_cons, List.filter_cons]
      have e1 : ((fun m => (T'.man m).club == c) ∘ σ) x = ((T.man x).club == c) := by show ((T'.man (σ x)).club == c) = _; rw [hx]
      rw [e1]
      cases (T.man x).club == c with
      | false => exact ih
      | true =>
        simp only [if_true, List.map_cons]
        rw [ih]
        congr 1
        show (T'.man (σ x)).place = _
        rw [hx]
  exact e _ (fun m hm => (ord_mem hv).1 hm)
theorem Ren.best (h : Ren T T' σ) (hok : okP T = true) : bestP T' = bestP T := by
  unfold bestP clubsL
  congr 2
  funext i
  rw [h.places hok, h.n]
theorem Ren.canP (h : Ren T T' σ) {i z : Nat} (hi : i < T.n) : G.canP T' (σ i) z = G.canP T i z := by
  unfold G.canP
  rw [h.pz, h.man i hi]
theorem Ren.canC (h : Ren T T' σ) (hok : okP T = true) {i z : Nat} (hi : i < T.n) : G.canC T' (σ i) z = G.canC T i z := by
  unfold G.canC
  rw [h.canP hi, h.pz, h.man i hi, h.best hok]
theorem Ren.due (h : Ren T T' σ) (hok : okP T = true) : dueP T' = (dueP T).map (Option.map σ) := by
  have hv := okP_vd hok
  show dueL T' T'.z = (dueL T T.z).map _
  rw [h.z, dueL_O, dueL_O, h.ord hok]
  have := due_ren (can := G.canC T) (can' := G.canC T') (l := ordP T) (σ := σ) (D := fun _ => true) (fun i hi j hj _ _ e => h.inj i j ((ord_mem hv).1 hi) ((ord_mem hv).1 hj) e) T.z (fun i hi _ z _ => h.canC hok ((ord_mem hv).1 hi)) (fun _ _ => rfl)
  rw [List.filter_eq_self.2 (fun _ _ => rfl)] at this
  exact this
theorem Ren.wor (h : Ren T T' σ) (hok : okP T = true) {i : Nat} (hi : i < T.n) : (worP T' (manL (dueP T'))).getD (σ i) 0 = (worP T (manL (dueP T))).getD i 0 := by
  have hv := okP_vd hok
  have hg := due_okG hv T.z
  rw [h.due hok]
  unfold worP
  have hl : (manL ((dueP T).map (Option.map σ))).length = (dueP T).length := by unfold manL; rw [List.length_map, List.length_map]
  have hl2 : (manL (dueP T)).length = (dueP T).length := by unfold manL; rw [List.length_map]
  rw [hl, hl2]
  refine worL_ren (T := T) (T' := T') (σ := σ) (fun k _ => by rw [h.pz]) hi (by rw [h.n]; exact h.lt i hi) (fun q hq => ?_) _ (Nat.le_refl _)
  have hqn := hg.lt q hq
  exact ⟨hqn, by rw [h.n]; exact h.lt q hqn, fun e => h.inj q i hqn hi e⟩
theorem up_dn {m i : Nat} (h : i ≠ m) : upK m (dnK m i) = i := by
  unfold upK dnK
  split <;> split <;> omega
theorem up_lt {m k n : Nat} (hk : k < n - 1) : upK m k < n := by unfold upK; split <;> omega
theorem dn_lt {m i n : Nat} (hm : m < n) (hi : i < n) (h : i ≠ m) : dnK m i < n - 1 := by unfold dnK; split <;> omega
theorem Ren.without (h : Ren T T' σ) {m : Nat} (hm : m < T.n) : Ren (withoutP T m) (withoutP T' (σ m)) (fun k => dnK (σ m) (σ (upK m k))) := by
  have hn := without_n hm
  have hm' : σ m < T'.n := by rw [h.n]; exact h.lt m hm
  have hn' := without_n hm'
  have up : ∀ k, k < T.n - 1 → upK m k < T.n ∧ upK m k ≠ m ∧ σ (upK m k) ≠ σ m := fun k hk => ⟨up_lt hk, dnK_up.2, fun e => dnK_up.2 (h.inj _ _ (up_lt hk) hm e)⟩
  refine ⟨by rw [hn, hn', h.n], h.list, fun k hk => ?_, fun i j hi hj e => ?_, fun j hj => ?_, fun k hk => ?_⟩
  · rw [hn] at hk ⊢
    obtain ⟨a, b, c⟩ := up k hk
    exact dn_lt (h.lt m hm) (h.lt _ a) c
  · rw [hn] at hi hj
    obtain ⟨a1, b1, c1⟩ := up i hi
    obtain ⟨a2, b2, c2⟩ := up j hj
    have e1 := dnK_inj c1 c2 e
    have e2 := h.inj _ _ a1 a2 e1
    have := congrArg (dnK m) e2
    rw [dnK_up.1, dnK_up.1] at this
    exact this
  · rw [hn] at hj ⊢
    obtain ⟨i, hi, e⟩ := h.sur (upK (σ m) j) (up_lt hj)
    have hne : i ≠ m := fun e' => by rw [e'] at e; exact dnK_up.2 e.symm
    exact ⟨dnK m i, dn_lt hm hi hne, by show dnK (σ m) (σ (upK m (dnK m i))) = j; rw [up_dn hne, e, dnK_up.1]⟩
  · rw [hn] at hk
    obtain ⟨a, b, c⟩ := up k hk
    have h1 := man_without hm a b
    rw [dnK_up.1] at h1
    have h2 := man_without hm' (by rw [h.n]; exact h.lt _ a) c
    rw [h1]
    show (withoutP T' (σ m)).man (dnK (σ m) (σ (upK m k))) = _
    rw [h2, h.man m hm, h.man _ a]
theorem Ren.gain (h : Ren T T' σ) (hok : okP T = true) {m i : Nat} (hm : m < T.n) (hi : i < T.n) : gainB T' (σ m) (σ i) = gainB T m i := by
  unfold gainB
  by_cases e : i = m
  · simp [e]
  · have h2 : 2 ≤ T.n := by omega
    have hne : ¬ σ i = σ m := fun e' => e (h.inj _ _ hi hm e')
    rw [decide_eq_false e, decide_eq_false hne]
    have hW := h.without hm
    have hokW := ok_without hok hm h2
    have hw := hW.wor hokW (i := dnK m i) (by rw [without_n hm]; exact dn_lt hm hi e)
    have e1 : dnK (σ m) (σ (upK m (dnK m i))) = dnK (σ m) (σ i) := by rw [up_dn e]
    have hw' : (worP (withoutP T' (σ m)) (manL (dueP (withoutP T' (σ m))))).getD (dnK (σ m) (σ i)) 0 = (worP (withoutP T m) (manL (dueP (withoutP T m)))).getD (dnK m i) 0 := by
      rw [← e1]; exact hw
    have d1 : (if σ i > σ m then σ i - 1 else σ i) = dnK (σ m) (σ i) := rfl
    have d2 : (if i > m then i - 1 else i) = dnK m i := rfl
    rw [d1, d2, hw', h.wor hok hi]
theorem Ren.moved (h : Ren T T' σ) {m : Nat} {pl : Int} (hm : m < T.n) : Ren (movedP T m pl) (movedP T' (σ m) pl) σ := by
  have hn := moved_n T m pl
  refine ⟨by rw [moved_n, moved_n, h.n], h.list, fun i hi => ?_, fun i j hi hj e => ?_, fun j hj => ?_, fun i hi => ?_⟩
  · rw [hn] at hi ⊢; exact h.lt i hi
  · rw [hn] at hi hj; exact h.inj i j hi hj e
  · rw [hn] at hj ⊢; exact h.sur j hj
  · rw [hn] at hi
    rw [moved_man hi, moved_man (by rw [h.n]; exact h.lt i hi), h.man i hi]
    have e : newP T' (σ m) pl (σ i) = newP T m pl i := by
      unfold newP
      by_cases e : i = m
      · rw [if_pos e, if_pos (by rw [e])]
      · rw [if_neg e, if_neg (fun e' => e (h.inj _ _ hi hm e')), h.man m hm, h.man i hi]
    rw [e]
theorem Ren.gets (h : Ren T T' σ) (hok : okP T = true) {m pl : Nat} (hm : m < T.n) (h1 : 1 ≤ pl) (h2 : pl ≤ T.n) : getsP T' (σ m) pl = getsP T m pl := by
  have hokM := ok_moved (pl := (pl : Int)) hok hm (by omega) (by omega)
  have hM := h.moved (pl := (pl : Int)) hm
  have hd := hM.due hokM
  have hg := due_okG (okP_vd hokM) (movedP T m (pl : Int)).z
  unfold getsP
  rw [decide_eq_decide, man_mem_iff, man_mem_iff, hd]
  constructor
  · intro hh
    obtain ⟨o, ho, e⟩ := List.mem_map.1 hh
    cases o with
    | none => cases e
    | some q =>
      have e : σ q = σ m := Option.some.inj e
      have hq := hg.lt q ho
      rw [moved_n] at hq
      have := h.inj q m hq hm e
      rw [this] at ho; exact ho
  · intro hh
    exact List.mem_map.2 ⟨some m, hh, rfl⟩
theorem Ren.for (h : Ren T T' σ) (hok : okP T = true) {m : Nat} (hm : m < T.n) : ∀ k, k ≤ T.n → forL T' (σ m) k = forL T m k
  | 0, _ => rfl
  | k + 1, hk => by
    show (if getsP T' (σ m) (k + 1) then (((k + 1 : Nat) : Int), (0 : Int)) else forL T' (σ m) k) = (if getsP T m (k + 1) then (((k + 1 : Nat) : Int), (0 : Int)) else forL T m k)
    rw [h.gets hok hm (by omega) hk, Ren.for h hok hm k (by omega)]
theorem Ren.most (h : Ren T T' σ) : many (bestG T T.z 0 allF) ≤ many (bestG T' T'.z 0 allF) := by
  obtain ⟨k1, k2⟩ := legit_okG (bestG_legit T T.z 0 allF)
  have hl := bestG_len T T.z 0 allF
  generalize bestG T T.z 0 allF = g at *
  have at' : ∀ (i m : Nat), (g.map (Option.map σ))[i]? = some (some m) → ∃ q, g[i]? = some (some q) ∧ σ q = m := fun i m hi => by
    rw [List.getElem?_map] at hi
    obtain ⟨o, ho, e⟩ := Option.map_eq_some_iff.1 hi
    cases o with
    | none => cases e
    | some q => exact ⟨q, ho, Option.some.inj e⟩
  have o2 : OkG T' (g.map (Option.map σ)) := ⟨fun m hm => by
    obtain ⟨o, ho, e⟩ := List.mem_map.1 hm
    cases o with
    | none => cases e
    | some q =>
      have e : σ q = m := Option.some.inj e
      rw [← e, h.n]; exact h.lt q (k1.lt q ho), fun i j m hi hj => by
    obtain ⟨q, h1, h2⟩ := at' i m hi
    obtain ⟨q', h3, h4⟩ := at' j m hj
    have := h.inj q q' (k1.lt q (List.mem_of_getElem? h1)) (k1.lt q' (List.mem_of_getElem? h3)) (h2.trans h4.symm)
    rw [← this] at h3
    exact k1.un i j q h1 h3⟩
  have c2 : CanG T' (g.map (Option.map σ)) := fun i m hi => by
    obtain ⟨q, h1, h2⟩ := at' i m hi
    rw [← h2, h.canP (k1.lt q (List.mem_of_getElem? h1))]
    exact k2 i q h1
  have := legit_le (okG_legit o2 c2)
  rw [List.length_map, hl, ← h.z] at this
  rw [bestG_many]
  have hm : many (g.map (Option.map σ)) = many g := by
    have : ∀ g : List (Option Nat), many (g.map (Option.map σ)) = many g := fun g => by
      induction g with
      | nil => rfl
      | cons o g ih =>
        rw [List.map_cons, many_cons, many_cons, ih]
        cases o <;> rfl
    exact this g
  omega
end
/-- Numbers turned on. -/
def tuS (n t i : Nat) : Nat := (i + t) % n
def tuR (n t j : Nat) : Nat := (j + (n - t % n)) % n
theorem mod_cases {n a : Nat} (h : a < 2 * n) : a % n = if a < n then a else a - n := by
  split
  · exact Nat.mod_eq_of_lt (by assumption)
  · rename_i hh
    rw [Nat.mod_eq_sub_mod (by omega), Nat.mod_eq_of_lt (by omega)]
theorem tuS_eq {n t i : Nat} (hi : i < n) : tuS n t i = if i + t % n < n then i + t % n else i + t % n - n := by
  unfold tuS
  have hr := Nat.mod_lt t (show 0 < n by omega)
  rw [Nat.add_mod, Nat.mod_eq_of_lt hi]
  exact mod_cases (by omega)
theorem tuR_eq {n t j : Nat} (hj : j < n) : tuR n t j = if j + (n - t % n) < n then j + (n - t % n) else j + (n - t % n) - n := by
  unfold tuR
  have hr := Nat.mod_lt t (show 0 < n by omega)
  exact mod_cases (by omega)
theorem tuS_lt {n t i : Nat} (hi : i < n) : tuS n t i < n := Nat.mod_lt _ (by omega)
theorem tuR_lt {n t i : Nat} (hi : i < n) : tuR n t i < n := Nat.mod_lt _ (by omega)
theorem tuR_tuS {n t i : Nat} (hi : i < n) : tuR n t (tuS n t i) = i := by
  have hr := Nat.mod_lt t (show 0 < n by omega)
  rw [tuR_eq (tuS_lt hi), tuS_eq hi]
  generalize t % n = r at hr
  split <;> split <;> omega
theorem tuS_tuR {n t i : Nat} (hi : i < n) : tuS n t (tuR n t i) = i := by
  have hr := Nat.mod_lt t (show 0 < n by omega)
  rw [tuS_eq (tuR_lt hi), tuR_eq hi]
  generalize t % n = r at hr
  split <;> split <;> omega
def turnP (T : PT) (t : Nat) : PT := ⟨(List.range T.n).map fun j => T.man (tuR T.n t j), T.list⟩
theorem turn_n (T : PT) (t : Nat) : (turnP T t).n = T.n := by simp [turnP, PT.n]
theorem turn_man {T : PT} {t j : Nat} (h : j < T.n) : (turnP T t).man j = T.man (tuR T.n t j) := by
  have hl : j < (turnP T t).men.length := by rw [show (turnP T t).men.length = T.n from turn_n T t]; exact h
  rw [← man_at hl]
  simp [turnP]
theorem turn_ren (T : PT) (t : Nat) : Ren T (turnP T t) (tuS T.n t) where
  n := turn_n T t
  list := rfl
  lt := fun i hi => tuS_lt hi
  inj := fun i j hi hj e => by have := congrArg (tuR T.n t) e; rwa [tuR_tuS hi, tuR_tuS hj] at this
  sur := fun j hj => ⟨_, tuR_lt hj, tuS_tuR hj⟩
  man := fun i hi => by rw [turn_man (tuS_lt hi), tuR_tuS hi]
theorem turn_back (T : PT) (t : Nat) : Ren (turnP T t) T (tuR T.n t) := by
  have hn := turn_n T t
  refine ⟨hn.symm, rfl, fun i hi => ?_, fun i j hi hj e => ?_, fun j hj => ?_, fun i hi => ?_⟩
  · rw [hn] at hi ⊢; exact tuR_lt hi
  · rw [hn] at hi hj
    have := congrArg (tuS T.n t) e
    rwa [tuS_tuR hi, tuS_tuR hj] at this
  · rw [hn] at hj ⊢
    exact ⟨_, tuS_lt hj, tuR_tuS hj⟩
  · rw [hn] at hi
    exact (turn_man hi).symm
end Go.Proofs.Ytfaeokcbfnlgbaa.G

/- More of the functions' shallow texts, by gen.py. -/
set_option linter.unusedVariables false
set_option maxRecDepth 100000
namespace Go.Proofs.Ytfaeokcbfnlgbaa.G
open Go.V
def an_28 : Nat → Ann := fun b => match b with
  | _ => {}
abbrev rv_28 : List ResultVar := [.tmp 2, .tmp 3, .tmp 4]
abbrev rs_28 : List Nat := [17, 2, 3, 4]
def T_ref13_Most (W : World) (x1 : Option Addr) (l2 : Nat) (c3 : Nat) (x4 : Option Addr) (l5 : Nat) (c6 : Nat) (R : Ending → Hp → Prop) : Hp → Prop :=
  NEW 25 [(.slice x1 l2 c3), (.slice x4 l5 c6)] fun B7 =>
    RDL (Addr.add ⟨B7, 0, none⟩ 0) fun x8 l9 c10 =>
      RDL (Addr.add ⟨B7, 0, none⟩ 1) fun x11 l12 c13 =>
        CALL Pg W F_ref13_check [(.agg #[(.slice x8 l9 c10), (.slice x11 l12 c13)]), (.bool true)]
          (fun v14 => TYI .i64 v14 fun n16 =>
            BR (n16 != 0)
              (R (.returned (.tuple #[(.int .i64 0), (.slice none 0 0), (.int .i64 n16)])))
              (RDL (Addr.add ⟨B7, 0, none⟩ 0) fun x17 l18 c19 =>
                RDL (Addr.add ⟨B7, 0, none⟩ 1) fun x20 l21 c22 =>
                  CALL Pg W F_ref13_most [(.agg #[(.slice x17 l18 c19), (.slice x20 l21 c22)]), (.slice none 0 0)]
                    (fun v23 => TYL v23 fun x25 l26 c27 =>
                      CALL Pg W F_ref13_Many [(.slice x25 l26 c27)]
                        (fun v28 => TYI .i64 v28 fun n30 =>
                          R (.returned (.tuple #[(.int .i64 n30), (.slice x25 l26 c27), (.int .i64 0)])))
                          (fun e29 => R (.panicked e29)))
                      (fun e24 => R (.panicked e24))))
            (fun e15 => R (.panicked e15))
theorem T_ref13_Most_eq (W : World) (x1 : Option Addr) (l2 : Nat) (c3 : Nat) (x4 : Option Addr) (l5 : Nat) (c6 : Nat) (R : Ending → Hp → Prop) : vfun Pg W an_28 Try.f28 [(.agg #[(.slice x1 l2 c3), (.slice x4 l5 c6)])] R = T_ref13_Most W x1 l2 c3 x4 l5 c6 R := by kernel_rfl
theorem does_ref13_Most (W : World) (x1 : Option Addr) (l2 : Nat) (c3 : Nat) (x4 : Option Addr) (l5 : Nat) (c6 : Nat) (R : Ending → Hp → Prop) (s : Hp) (h : T_ref13_Most W x1 l2 c3 x4 l5 c6 R s) : Does Pg W F_ref13_Most #[(.agg #[(.slice x1 l2 c3), (.slice x4 l5 c6)])] s R :=
  does_of_vfun Pg W an_28 Try.func28 rfl (by kernel_rfl) (by rw [T_ref13_Most_eq]; exact h)
def an_30 : Nat → Ann := fun b => match b with
  | 0 => { ms := [10, 11, 12], ks := [.i .i64, .i .i64, .i .i64], us := [1, 2, 4, 5, 8, 9, 58], rt := false, ex := [] }
  | _ => {}
abbrev rv_30 : List ResultVar := [.tmp 4, .tmp 5]
abbrev rs_30 : List Nat := [58, 4, 5]
def L_ref13_Stay_0 (W : World) (R : Ending → Hp → Prop) (zn0 : Int) (za1 : Addr) (zp2 : Option Addr) (zl3 : Nat) (zl4 : Nat) (zp5 : Option Addr) (zl6 : Nat) (zl7 : Nat) (n133 : Int) (n134 : Int) (n135 : Int) : Hp → Prop :=
  LOOPN [.i .i64, .i .i64, .i .i64] (fun ys next s => ∀ j : Tm, vc Pg W 58 rs_30 an_30 false (sub (bodyOf Try.f30) [1, 1, 1, 1, 1, 1, 0, 1, 0, 0]) 0 (KLoop [10, 11, 12] [1, 2, 4, 5, 8, 9, 58] [(.int .i64 zn0), (.pointer (some za1)), (.int .i64 0), (.int .i64 0), (.slice zp2 zl3 zl4), (.slice zp5 zl6 zl7), (.tuple #[])] next (KBlk 0 (KS Pg W 58 rs_30 an_30 false (sub (bodyOf Try.f30) [1, 1, 1, 1, 1, 1, 1]) 0 (fin Pg W 58 rv_30 R)))) (known [10, 11, 12] ys (known [1, 2, 4, 5, 8, 9, 58] [(.int .i64 zn0), (.pointer (some za1)), (.int .i64 0), (.int .i64 0), (.slice zp2 zl3 zl4), (.slice zp5 zl6 zl7), (.tuple #[])] j)) s) [(.int .i64 n133), (.int .i64 n134), (.int .i64 n135)]
def J_ref13_Stay_0 (W : World) (R : Ending → Hp → Prop) (zn0 : Int) (za1 : Addr) (zp2 : Option Addr) (zl3 : Nat) (zl4 : Nat) (zp5 : Option Addr) (zl6 : Nat) (zl7 : Nat) (nx0 : List Value → Hp → Prop) (n139 : Int) (n140 : Int) (n135 : Int) : Hp → Prop :=
  NX [(.int .i64 zn0), (.pointer (some za1)), (.int .i64 0), (.int .i64 0), (.slice zp2 zl3 zl4), (.slice zp5 zl6 zl7), (.tuple #[])] [(.int .i64 zn0), (.pointer (some za1)), (.int .i64 0), (.int .i64 0), (.slice zp2 zl3 zl4), (.slice zp5 zl6 zl7), (.tuple #[])] (nx0 [(.int .i64 n139), (.int .i64 n140), (.int .i64 (IntKind.wrap .i64 (n135 + 1)))])
def J_ref13_Stay_1 (W : World) (R : Ending → Hp → Prop) (zn0 : Int) (za1 : Addr) (zp2 : Option Addr) (zl3 : Nat) (zl4 : Nat) (zp5 : Option Addr) (zl6 : Nat) (zl7 : Nat) (nx0 : List Value → Hp → Prop) (n148 : Int) (n134 : Int) (n135 : Int) : Hp → Prop :=
  J_ref13_Stay_0 W R zn0 za1 zp2 zl3 zl4 zp5 zl6 zl7 nx0 n148 (IntKind.wrap .i64 (n134 + 1)) n135
def B_ref13_Stay_0 (W : World) (R : Ending → Hp → Prop) (zn0 : Int) (za1 : Addr) (zp2 : Option Addr) (zl3 : Nat) (zl4 : Nat) (zp5 : Option Addr) (zl6 : Nat) (zl7 : Nat) (n133 : Int) (n134 : Int) (n135 : Int) (nx0 : List Value → Hp → Prop) : Hp → Prop :=
  RDL (Addr.add za1 0) fun x136 l137 c138 =>
    BR (decide (n135 < (↑l137 : Int)))
      (BR (n135 == zn0)
        (J_ref13_Stay_0 W R zn0 za1 zp2 zl3 zl4 zp5 zl6 zl7 nx0 n133 n134 n135)
        (IXS zp5 zl6 n134 1 fun a141 =>
          RDI .i64 a141 fun n142 =>
            IXS zp2 zl3 n135 1 fun a143 =>
              RDI .i64 a143 fun n144 =>
                BR (decide (n142 > n144))
                  (CALL Pg W F_ref13_power [(.int .i64 n135)]
                    (fun v145 => TYI .i64 v145 fun n147 =>
                      J_ref13_Stay_1 W R zn0 za1 zp2 zl3 zl4 zp5 zl6 zl7 nx0 (IntKind.wrap .i64 (n133 + n147)) n134 n135)
                      (fun e146 => R (.panicked e146)))
                  (J_ref13_Stay_1 W R zn0 za1 zp2 zl3 zl4 zp5 zl6 zl7 nx0 n133 n134 n135)))
      (R (.returned (.tuple #[(.int .i64 n133), (.int .i64 0)])))
theorem B_ref13_Stay_0_eq (W : World) (R : Ending → Hp → Prop) (zn0 : Int) (za1 : Addr) (zp2 : Option Addr) (zl3 : Nat) (zl4 : Nat) (zp5 : Option Addr) (zl6 : Nat) (zl7 : Nat) (n133 : Int) (n134 : Int) (n135 : Int) (nx0 : List Value → Hp → Prop) (j : Tm) : vc Pg W 58 rs_30 an_30 false (sub (bodyOf Try.f30) [1, 1, 1, 1, 1, 1, 0, 1, 0, 0]) 0 (KLoop [10, 11, 12] [1, 2, 4, 5, 8, 9, 58] [(.int .i64 zn0), (.pointer (some za1)), (.int .i64 0), (.int .i64 0), (.slice zp2 zl3 zl4), (.slice zp5 zl6 zl7), (.tuple #[])] nx0 (KBlk 0 (KS Pg W 58 rs_30 an_30 false (sub (bodyOf Try.f30) [1, 1, 1, 1, 1, 1, 1]) 0 (fin Pg W 58 rv_30 R)))) (known [10, 11, 12] [(.int .i64 n133), (.int .i64 n134), (.int .i64 n135)] (known [1, 2, 4, 5, 8, 9, 58] [(.int .i64 zn0), (.pointer (some za1)), (.int .i64 0), (.int .i64 0), (.slice zp2 zl3 zl4), (.slice zp5 zl6 zl7), (.tuple #[])] j)) = B_ref13_Stay_0 W R zn0 za1 zp2 zl3 zl4 zp5 zl6 zl7 n133 n134 n135 nx0 := by kernel_rfl
def N_ref13_Stay_0 (I : Int → Int → Int → Hp → Prop) (μ : Int → Int → Int → Hp → Nat) (n1330 : Int) (n1340 : Int) (n1350 : Int) (s : Hp) (vs : List Value) : Hp → Prop := fun s' => ∃ n133 n134 n135, vs = [(.int .i64 n133), (.int .i64 n134), (.int .i64 n135)] ∧ I n133 n134 n135 s' ∧ μ n133 n134 n135 s' < μ n1330 n1340 n1350 s
theorem L_ref13_Stay_0_rule (W : World) (R : Ending → Hp → Prop) (zn0 : Int) (za1 : Addr) (zp2 : Option Addr) (zl3 : Nat) (zl4 : Nat) (zp5 : Option Addr) (zl6 : Nat) (zl7 : Nat) (I : Int → Int → Int → Hp → Prop) (μ : Int → Int → Int → Hp → Nat) (n1330 : Int) (n1340 : Int) (n1350 : Int) (s : Hp) (h0 : I n1330 n1340 n1350 s)
    (hr : ∀ (n133 : Int) (n134 : Int) (n135 : Int) (s : Hp), I n133 n134 n135 s → B_ref13_Stay_0 W R zn0 za1 zp2 zl3 zl4 zp5 zl6 zl7 n133 n134 n135 (fun vs => N_ref13_Stay_0 I μ n133 n134 n135 s vs) s) : L_ref13_Stay_0 W R zn0 za1 zp2 zl3 zl4 zp5 zl6 zl7 n1330 n1340 n1350 s := by
  refine ⟨fun vs s => ∃ n133 n134 n135, vs = [(.int .i64 n133), (.int .i64 n134), (.int .i64 n135)] ∧ I n133 n134 n135 s, fun vs s => (match vs with | [.int _ n133, .int _ n134, .int _ n135] => μ n133 n134 n135 s | _ => 0), ⟨⟨⟨_, rfl⟩, ⟨⟨_, rfl⟩, ⟨⟨_, rfl⟩, trivial⟩⟩⟩, ⟨_, _, _, rfl, h0⟩⟩, ?_⟩
  intro n133 n134 n135 s hI j
  obtain ⟨n133', n134', n135', hy, hI⟩ := hI
  have hI' : I n133 n134 n135 s := by cases hy; exact hI
  have hh := hr n133 n134 n135 s hI'
  rw [← B_ref13_Stay_0_eq W R zn0 za1 zp2 zl3 zl4 zp5 zl6 zl7 n133 n134 n135 _ j] at hh
  refine vc_mono ?_ _ _ hh
  exact KLoop_mono (fun vs s' h => by obtain ⟨n1331, n1341, n1351, rfl, h1, h2⟩ := h; exact ⟨⟨⟨_, rfl⟩, ⟨⟨_, rfl⟩, ⟨⟨_, rfl⟩, trivial⟩⟩⟩, ⟨_, _, _, rfl, h1⟩, h2⟩)
def T_ref13_Stay (W : World) (x1 : Option Addr) (l2 : Nat) (c3 : Nat) (x4 : Option Addr) (l5 : Nat) (c6 : Nat) (n7 : Int) (R : Ending → Hp → Prop) : Hp → Prop :=
  NEW 25 [(.slice x1 l2 c3), (.slice x4 l5 c6)] fun B8 =>
    RDL (Addr.add ⟨B8, 0, none⟩ 0) fun x9 l10 c11 =>
      RDL (Addr.add ⟨B8, 0, none⟩ 1) fun x12 l13 c14 =>
        RDL (Addr.add ⟨B8, 0, none⟩ 0) fun x15 l16 c17 =>
          RDL (Addr.add ⟨B8, 0, none⟩ 1) fun x18 l19 c20 =>
            CALL Pg W F_ref13_Man [(.agg #[(.slice x15 l16 c17), (.slice x18 l19 c20)]), (.int .i64 n7)]
              (fun v21 => TYB v21 fun b23 =>
                ANDS (RDL (Addr.add ⟨B8, 0, none⟩ 0) fun x24 l25 c26 =>
                  RDL (Addr.add ⟨B8, 0, none⟩ 1) fun x27 l28 c29 =>
                    fun _ => ((.agg #[(.slice x24 l25 c26), (.slice x27 l28 c29)]) : Value) = (.agg #[(.slice x9 l10 c11), (.slice x12 l13 c14)])) <|
                  CALL Pg W F_ref13_check [(.agg #[(.slice x9 l10 c11), (.slice x12 l13 c14)]), (.bool b23)]
                    (fun v30 => TYI .i64 v30 fun n32 =>
                      BR (n32 != 0)
                        (R (.returned (.tuple #[(.int .i64 0), (.int .i64 n32)])))
                        (RDL (Addr.add ⟨B8, 0, none⟩ 0) fun x33 l34 c35 =>
                          RDL (Addr.add ⟨B8, 0, none⟩ 1) fun x36 l37 c38 =>
                            CALL Pg W F_ref13_Without [(.agg #[(.slice x33 l34 c35), (.slice x36 l37 c38)]), (.int .i64 n7)]
                              (fun v39 => AGG v39 fun q41 => HD q41 fun v42 r43 => TYL v42 fun x44 l45 c46 =>
                                HD r43 fun v47 r48 => TYL v47 fun x49 l50 c51 =>
                                  NL r48 <|
                                    NEWZ Pg 25 fun B52 =>
                                      WR (Addr.add ⟨B52, 0, none⟩ 0) (.slice x44 l45 c46) <|
                                        WR (Addr.add ⟨B52, 0, none⟩ 1) (.slice x49 l50 c51) <|
                                          RDL (Addr.add ⟨B8, 0, none⟩ 0) fun x53 l54 c55 =>
                                            RDL (Addr.add ⟨B8, 0, none⟩ 1) fun x56 l57 c58 =>
                                              RDL (Addr.add ⟨B8, 0, none⟩ 0) fun x59 l60 c61 =>
                                                RDL (Addr.add ⟨B8, 0, none⟩ 1) fun x62 l63 c64 =>
                                                  RDL (Addr.add ⟨B52, 0, none⟩ 0) fun x65 l66 c67 =>
                                                    RDL (Addr.add ⟨B52, 0, none⟩ 1) fun x68 l69 c70 =>
                                                      RDL (Addr.add ⟨B52, 0, none⟩ 0) fun x71 l72 c73 =>
                                                        RDL (Addr.add ⟨B52, 0, none⟩ 1) fun x74 l75 c76 =>
                                                          CALL Pg W F_ref13_due [(.agg #[(.slice x59 l60 c61), (.slice x62 l63 c64)])]
                                                            (fun v77 => TYL v77 fun x79 l80 c81 =>
                                                              ANDS (RDL (Addr.add ⟨B52, 0, none⟩ 0) fun x82 l83 c84 =>
                                                                RDL (Addr.add ⟨B52, 0, none⟩ 1) fun x85 l86 c87 =>
                                                                  fun _ => ((.agg #[(.slice x82 l83 c84), (.slice x85 l86 c87)]) : Value) = (.agg #[(.slice x71 l72 c73), (.slice x74 l75 c76)])) <|
                                                                ANDS (RDL (Addr.add ⟨B52, 0, none⟩ 0) fun x88 l89 c90 =>
                                                                  RDL (Addr.add ⟨B52, 0, none⟩ 1) fun x91 l92 c93 =>
                                                                    fun _ => ((.agg #[(.slice x88 l89 c90), (.slice x91 l92 c93)]) : Value) = (.agg #[(.slice x65 l66 c67), (.slice x68 l69 c70)])) <|
                                                                  ANDS (RDL (Addr.add ⟨B8, 0, none⟩ 0) fun x94 l95 c96 =>
                                                                    RDL (Addr.add ⟨B8, 0, none⟩ 1) fun x97 l98 c99 =>
                                                                      fun _ => ((.agg #[(.slice x94 l95 c96), (.slice x97 l98 c99)]) : Value) = (.agg #[(.slice x53 l54 c55), (.slice x56 l57 c58)])) <|
                                                                    CALL Pg W F_ref13_worths [(.agg #[(.slice x53 l54 c55), (.slice x56 l57 c58)]), (.slice x79 l80 c81)]
                                                                      (fun v100 => TYL v100 fun x102 l103 c104 =>
                                                                        ANDS (RDL (Addr.add ⟨B52, 0, none⟩ 0) fun x105 l106 c107 =>
                                                                          RDL (Addr.add ⟨B52, 0, none⟩ 1) fun x108 l109 c110 =>
                                                                            fun _ => ((.agg #[(.slice x105 l106 c107), (.slice x108 l109 c110)]) : Value) = (.agg #[(.slice x71 l72 c73), (.slice x74 l75 c76)])) <|
                                                                          ANDS (RDL (Addr.add ⟨B52, 0, none⟩ 0) fun x111 l112 c113 =>
                                                                            RDL (Addr.add ⟨B52, 0, none⟩ 1) fun x114 l115 c116 =>
                                                                              fun _ => ((.agg #[(.slice x111 l112 c113), (.slice x114 l115 c116)]) : Value) = (.agg #[(.slice x65 l66 c67), (.slice x68 l69 c70)])) <|
                                                                            CALL Pg W F_ref13_due [(.agg #[(.slice x71 l72 c73), (.slice x74 l75 c76)])]
                                                                              (fun v117 => TYL v117 fun x119 l120 c121 =>
                                                                                ANDS (RDL (Addr.add ⟨B52, 0, none⟩ 0) fun x122 l123 c124 =>
                                                                                  RDL (Addr.add ⟨B52, 0, none⟩ 1) fun x125 l126 c127 =>
                                                                                    fun _ => ((.agg #[(.slice x122 l123 c124), (.slice x125 l126 c127)]) : Value) = (.agg #[(.slice x65 l66 c67), (.slice x68 l69 c70)])) <|
                                                                                  CALL Pg W F_ref13_worths [(.agg #[(.slice x65 l66 c67), (.slice x68 l69 c70)]), (.slice x119 l120 c121)]
                                                                                    (fun v128 => TYL v128 fun x130 l131 c132 =>
                                                                                      L_ref13_Stay_0 W R n7 ⟨B8, 0, none⟩ x102 l103 c104 x130 l131 c132 0 0 0)
                                                                                      (fun e129 => R (.panicked e129)))
                                                                                (fun e118 => R (.panicked e118)))
                                                                        (fun e101 => R (.panicked e101)))
                                                              (fun e78 => R (.panicked e78)))
                                (fun e40 => R (.panicked e40))))
                      (fun e31 => R (.panicked e31)))
                (fun e22 => R (.panicked e22))
theorem T_ref13_Stay_eq (W : World) (x1 : Option Addr) (l2 : Nat) (c3 : Nat) (x4 : Option Addr) (l5 : Nat) (c6 : Nat) (n7 : Int) (R : Ending → Hp → Prop) : vfun Pg W an_30 Try.f30 [(.agg #[(.slice x1 l2 c3), (.slice x4 l5 c6)]), (.int .i64 n7)] R = T_ref13_Stay W x1 l2 c3 x4 l5 c6 n7 R := by kernel_rfl
theorem does_ref13_Stay (W : World) (x1 : Option Addr) (l2 : Nat) (c3 : Nat) (x4 : Option Addr) (l5 : Nat) (c6 : Nat) (n7 : Int) (R : Ending → Hp → Prop) (s : Hp) (h : T_ref13_Stay W x1 l2 c3 x4 l5 c6 n7 R s) : Does Pg W F_ref13_Stay #[(.agg #[(.slice x1 l2 c3), (.slice x4 l5 c6)]), (.int .i64 n7)] s R :=
  does_of_vfun Pg W an_30 Try.func30 rfl (by kernel_rfl) (by rw [T_ref13_Stay_eq]; exact h)
def an_32 : Nat → Ann := fun b => match b with
  | 0 => { ms := [4, 5, 7], ks := [.i .i64, .i .i64, .i .i64], us := [1, 2, 31], rt := false, ex := [] }
  | _ => {}
abbrev rv_32 : List ResultVar := [.tmp 4, .tmp 5]
abbrev rs_32 : List Nat := [31, 4, 5]
def L_ref13_For_0 (W : World) (R : Ending → Hp → Prop) (zn0 : Int) (za1 : Addr) (n36 : Int) (n37 : Int) (n38 : Int) : Hp → Prop :=
  LOOPN [.i .i64, .i .i64, .i .i64] (fun ys next s => ∀ j : Tm, vc Pg W 31 rs_32 an_32 false (sub (bodyOf Try.f32) [1, 1, 1, 0, 1, 0, 0]) 0 (KLoop [4, 5, 7] [1, 2, 31] [(.int .i64 zn0), (.pointer (some za1)), (.tuple #[])] next (KBlk 0 (KS Pg W 31 rs_32 an_32 false (sub (bodyOf Try.f32) [1, 1, 1, 1]) 0 (fin Pg W 31 rv_32 R)))) (known [4, 5, 7] ys (known [1, 2, 31] [(.int .i64 zn0), (.pointer (some za1)), (.tuple #[])] j)) s) [(.int .i64 n36), (.int .i64 n37), (.int .i64 n38)]
def B_ref13_For_0 (W : World) (R : Ending → Hp → Prop) (zn0 : Int) (za1 : Addr) (n36 : Int) (n37 : Int) (n38 : Int) (nx0 : List Value → Hp → Prop) : Hp → Prop :=
  BR (decide (n38 ≥ 1))
    (RDL (Addr.add za1 0) fun x39 l40 c41 =>
      RDL (Addr.add za1 1) fun x42 l43 c44 =>
        CALL Pg W F_ref13_Moved [(.agg #[(.slice x39 l40 c41), (.slice x42 l43 c44)]), (.int .i64 zn0), (.int .i64 n38)]
          (fun v45 => AGG v45 fun q47 => HD q47 fun v48 r49 => TYL v48 fun x50 l51 c52 =>
            HD r49 fun v53 r54 => TYL v53 fun x55 l56 c57 =>
              NL r54 <|
                CALL Pg W F_ref13_due [(.agg #[(.slice x50 l51 c52), (.slice x55 l56 c57)])]
                  (fun v58 => TYL v58 fun x60 l61 c62 =>
                    CALL Pg W F_ref13_has [(.slice x60 l61 c62), (.int .i64 zn0)]
                      (fun v63 => TYB v63 fun b65 =>
                        BR b65
                          (R (.returned (.tuple #[(.int .i64 n38), (.int .i64 0)])))
                          (NX [(.int .i64 zn0), (.pointer (some za1)), (.tuple #[])] [(.int .i64 zn0), (.pointer (some za1)), (.tuple #[])] (nx0 [(.int .i64 n36), (.int .i64 n37), (.int .i64 (IntKind.wrap .i64 (n38 - 1)))])))
                        (fun e64 => R (.panicked e64)))
                    (fun e59 => R (.panicked e59)))
            (fun e46 => R (.panicked e46)))
    (R (.returned (.tuple #[(.int .i64 0), (.int .i64 4)])))
theorem B_ref13_For_0_eq (W : World) (R : Ending → Hp → Prop) (zn0 : Int) (za1 : Addr) (n36 : Int) (n37 : Int) (n38 : Int) (nx0 : List Value → Hp → Prop) (j : Tm) : vc Pg W 31 rs_32 an_32 false (sub (bodyOf Try.f32) [1, 1, 1, 0, 1, 0, 0]) 0 (KLoop [4, 5, 7] [1, 2, 31] [(.int .i64 zn0), (.pointer (some za1)), (.tuple #[])] nx0 (KBlk 0 (KS Pg W 31 rs_32 an_32 false (sub (bodyOf Try.f32) [1, 1, 1, 1]) 0 (fin Pg W 31 rv_32 R)))) (known [4, 5, 7] [(.int .i64 n36), (.int .i64 n37), (.int .i64 n38)] (known [1, 2, 31] [(.int .i64 zn0), (.pointer (some za1)), (.tuple #[])] j)) = B_ref13_For_0 W R zn0 za1 n36 n37 n38 nx0 := by kernel_rfl
def N_ref13_For_0 (I : Int → Int → Int → Hp → Prop) (μ : Int → Int → Int → Hp → Nat) (n360 : Int) (n370 : Int) (n380 : Int) (s : Hp) (vs : List Value) : Hp → Prop := fun s' => ∃ n36 n37 n38, vs = [(.int .i64 n36), (.int .i64 n37), (.int .i64 n38)] ∧ I n36 n37 n38 s' ∧ μ n36 n37 n38 s' < μ n360 n370 n380 s
theorem L_ref13_For_0_rule (W : World) (R : Ending → Hp → Prop) (zn0 : Int) (za1 : Addr) (I : Int → Int → Int → Hp → Prop) (μ : Int → Int → Int → Hp → Nat) (n360 : Int) (n370 : Int) (n380 : Int) (s : Hp) (h0 : I n360 n370 n380 s)
    (hr : ∀ (n36 : Int) (n37 : Int) (n38 : Int) (s : Hp), I n36 n37 n38 s → B_ref13_For_0 W R zn0 za1 n36 n37 n38 (fun vs => N_ref13_For_0 I μ n36 n37 n38 s vs) s) : L_ref13_For_0 W R zn0 za1 n360 n370 n380 s := by
  refine ⟨fun vs s => ∃ n36 n37 n38, vs = [(.int .i64 n36), (.int .i64 n37), (.int .i64 n38)] ∧ I n36 n37 n38 s, fun vs s => (match vs with | [.int _ n36, .int _ n37, .int _ n38] => μ n36 n37 n38 s | _ => 0), ⟨⟨⟨_, rfl⟩, ⟨⟨_, rfl⟩, ⟨⟨_, rfl⟩, trivial⟩⟩⟩, ⟨_, _, _, rfl, h0⟩⟩, ?_⟩
  intro n36 n37 n38 s hI j
  obtain ⟨n36', n37', n38', hy, hI⟩ := hI
  have hI' : I n36 n37 n38 s := by cases hy; exact hI
  have hh := hr n36 n37 n38 s hI'
  rw [← B_ref13_For_0_eq W R zn0 za1 n36 n37 n38 _ j] at hh
  refine vc_mono ?_ _ _ hh
  exact KLoop_mono (fun vs s' h => by obtain ⟨n361, n371, n381, rfl, h1, h2⟩ := h; exact ⟨⟨⟨_, rfl⟩, ⟨⟨_, rfl⟩, ⟨⟨_, rfl⟩, trivial⟩⟩⟩, ⟨_, _, _, rfl, h1⟩, h2⟩)
def T_ref13_For (W : World) (x1 : Option Addr) (l2 : Nat) (c3 : Nat) (x4 : Option Addr) (l5 : Nat) (c6 : Nat) (n7 : Int) (R : Ending → Hp → Prop) : Hp → Prop :=
  NEW 25 [(.slice x1 l2 c3), (.slice x4 l5 c6)] fun B8 =>
    RDL (Addr.add ⟨B8, 0, none⟩ 0) fun x9 l10 c11 =>
      RDL (Addr.add ⟨B8, 0, none⟩ 1) fun x12 l13 c14 =>
        RDL (Addr.add ⟨B8, 0, none⟩ 0) fun x15 l16 c17 =>
          RDL (Addr.add ⟨B8, 0, none⟩ 1) fun x18 l19 c20 =>
            CALL Pg W F_ref13_Man [(.agg #[(.slice x15 l16 c17), (.slice x18 l19 c20)]), (.int .i64 n7)]
              (fun v21 => TYB v21 fun b23 =>
                ANDS (RDL (Addr.add ⟨B8, 0, none⟩ 0) fun x24 l25 c26 =>
                  RDL (Addr.add ⟨B8, 0, none⟩ 1) fun x27 l28 c29 =>
                    fun _ => ((.agg #[(.slice x24 l25 c26), (.slice x27 l28 c29)]) : Value) = (.agg #[(.slice x9 l10 c11), (.slice x12 l13 c14)])) <|
                  CALL Pg W F_ref13_check [(.agg #[(.slice x9 l10 c11), (.slice x12 l13 c14)]), (.bool b23)]
                    (fun v30 => TYI .i64 v30 fun n32 =>
                      BR (n32 != 0)
                        (R (.returned (.tuple #[(.int .i64 0), (.int .i64 n32)])))
                        (RDL (Addr.add ⟨B8, 0, none⟩ 0) fun x33 l34 c35 =>
                          L_ref13_For_0 W R n7 ⟨B8, 0, none⟩ 0 0 (↑l34 : Int)))
                      (fun e31 => R (.panicked e31)))
                (fun e22 => R (.panicked e22))
theorem T_ref13_For_eq (W : World) (x1 : Option Addr) (l2 : Nat) (c3 : Nat) (x4 : Option Addr) (l5 : Nat) (c6 : Nat) (n7 : Int) (R : Ending → Hp → Prop) : vfun Pg W an_32 Try.f32 [(.agg #[(.slice x1 l2 c3), (.slice x4 l5 c6)]), (.int .i64 n7)] R = T_ref13_For W x1 l2 c3 x4 l5 c6 n7 R := by kernel_rfl
theorem does_ref13_For (W : World) (x1 : Option Addr) (l2 : Nat) (c3 : Nat) (x4 : Option Addr) (l5 : Nat) (c6 : Nat) (n7 : Int) (R : Ending → Hp → Prop) (s : Hp) (h : T_ref13_For W x1 l2 c3 x4 l5 c6 n7 R s) : Does Pg W F_ref13_For #[(.agg #[(.slice x1 l2 c3), (.slice x4 l5 c6)]), (.int .i64 n7)] s R :=
  does_of_vfun Pg W an_32 Try.func32 rfl (by kernel_rfl) (by rw [T_ref13_For_eq]; exact h)
def an_36 : Nat → Ann := fun b => match b with
  | 0 => { ms := [6], ks := [.i .i64], us := [1, 2, 4, 5, 45], rt := false, ex := [] }
  | _ => {}
abbrev rv_36 : List ResultVar := [.cell 4 25]
abbrev rs_36 : List Nat := [45, 4]
def L_ref13_Without_0 (W : World) (R : Ending → Hp → Prop) (zn0 : Int) (za1 : Addr) (za2 : Addr) (za3 : Addr) (n17 : Int) : Hp → Prop :=
  LOOPN [.i .i64] (fun ys next s => ∀ j : Tm, vc Pg W 45 rs_36 an_36 false (sub (bodyOf Try.f36) [1, 1, 1, 0, 1, 0, 0]) 0 (KLoop [6] [1, 2, 4, 5, 45] [(.int .i64 zn0), (.pointer (some za1)), (.pointer (some za2)), (.pointer (some za3)), (.tuple #[])] next (KBlk 0 (KS Pg W 45 rs_36 an_36 false (sub (bodyOf Try.f36) [1, 1, 1, 1]) 0 (fin Pg W 45 rv_36 R)))) (known [6] ys (known [1, 2, 4, 5, 45] [(.int .i64 zn0), (.pointer (some za1)), (.pointer (some za2)), (.pointer (some za3)), (.tuple #[])] j)) s) [(.int .i64 n17)]
def J_ref13_Without_0 (W : World) (R : Ending → Hp → Prop) (zn0 : Int) (za1 : Addr) (za2 : Addr) (za3 : Addr) (nx0 : List Value → Hp → Prop) (n17 : Int) : Hp → Prop :=
  NX [(.int .i64 zn0), (.pointer (some za1)), (.pointer (some za2)), (.pointer (some za3)), (.tuple #[])] [(.int .i64 zn0), (.pointer (some za1)), (.pointer (some za2)), (.pointer (some za3)), (.tuple #[])] (nx0 [(.int .i64 (IntKind.wrap .i64 (n17 + 1)))])
def J_ref13_Without_1 (W : World) (R : Ending → Hp → Prop) (za3 : Addr) (B29 : Nat) (zn0 : Int) (za1 : Addr) (za2 : Addr) (nx0 : List Value → Hp → Prop) (n17 : Int) : Hp → Prop :=
  RDL (Addr.add za3 0) fun x37 l38 c39 =>
    RDI .i64 (Addr.add ⟨B29, 0, none⟩ 0) fun n40 =>
      RDI .i64 (Addr.add ⟨B29, 0, none⟩ 1) fun n41 =>
        RDB (Addr.add ⟨B29, 0, none⟩ 2) fun b42 =>
          RDB (Addr.add ⟨B29, 0, none⟩ 3) fun b43 =>
            NEW 48 [(.int .i64 n40), (.int .i64 n41), (.bool b42), (.bool b43)] fun B44 =>
              APP Pg 48 4 x37 l38 c39 (some ⟨B44, 0, none⟩) 1 fun x45 l46 c47 =>
                WR (Addr.add (Addr.add za3 0) 0) (.slice x45 l46 c47) <|
                  J_ref13_Without_0 W R zn0 za1 za2 za3 nx0 n17
def B_ref13_Without_0 (W : World) (R : Ending → Hp → Prop) (zn0 : Int) (za1 : Addr) (za2 : Addr) (za3 : Addr) (n17 : Int) (nx0 : List Value → Hp → Prop) : Hp → Prop :=
  RDL (Addr.add za1 0) fun x18 l19 c20 =>
    BR (decide (n17 < (↑l19 : Int)))
      (BR (n17 == zn0)
        (J_ref13_Without_0 W R zn0 za1 za2 za3 nx0 n17)
        (RDL (Addr.add za1 0) fun x21 l22 c23 =>
          IXS x21 l22 n17 4 fun a24 =>
            RDI .i64 (Addr.add a24 0) fun n25 =>
              RDI .i64 (Addr.add a24 1) fun n26 =>
                RDB (Addr.add a24 2) fun b27 =>
                  RDB (Addr.add a24 3) fun b28 =>
                    NEWZ Pg 48 fun B29 =>
                      WR (Addr.add ⟨B29, 0, none⟩ 0) (.int .i64 n25) <|
                        WR (Addr.add ⟨B29, 0, none⟩ 1) (.int .i64 n26) <|
                          WR (Addr.add ⟨B29, 0, none⟩ 2) (.bool b27) <|
                            WR (Addr.add ⟨B29, 0, none⟩ 3) (.bool b28) <|
                              RDI .i64 (Addr.add ⟨B29, 0, none⟩ 0) fun n30 =>
                                RDL (Addr.add za1 0) fun x31 l32 c33 =>
                                  IXS x31 l32 zn0 4 fun a34 =>
                                    RDI .i64 (Addr.add a34 0) fun n35 =>
                                      BR (decide (n30 > n35))
                                        (RDI .i64 (Addr.add ⟨B29, 0, none⟩ 0) fun n36 =>
                                          WR (Addr.add (Addr.add ⟨B29, 0, none⟩ 0) 0) (.int .i64 (IntKind.wrap .i64 (n36 - 1))) <|
                                            J_ref13_Without_1 W R za3 B29 zn0 za1 za2 nx0 n17)
                                        (J_ref13_Without_1 W R za3 B29 zn0 za1 za2 nx0 n17)))
      (RDL (Addr.add za3 0) fun x48 l49 c50 =>
        RDL (Addr.add za3 1) fun x51 l52 c53 =>
          WR (Addr.add za2 0) (.slice x48 l49 c50) <|
            WR (Addr.add za2 1) (.slice x51 l52 c53) <|
              RDL (Addr.add za2 0) fun x54 l55 c56 =>
                RDL (Addr.add za2 1) fun x57 l58 c59 =>
                  R (.returned (.agg #[(.slice x54 l55 c56), (.slice x57 l58 c59)])))
theorem B_ref13_Without_0_eq (W : World) (R : Ending → Hp → Prop) (zn0 : Int) (za1 : Addr) (za2 : Addr) (za3 : Addr) (n17 : Int) (nx0 : List Value → Hp → Prop) (j : Tm) : vc Pg W 45 rs_36 an_36 false (sub (bodyOf Try.f36) [1, 1, 1, 0, 1, 0, 0]) 0 (KLoop [6] [1, 2, 4, 5, 45] [(.int .i64 zn0), (.pointer (some za1)), (.pointer (some za2)), (.pointer (some za3)), (.tuple #[])] nx0 (KBlk 0 (KS Pg W 45 rs_36 an_36 false (sub (bodyOf Try.f36) [1, 1, 1, 1]) 0 (fin Pg W 45 rv_36 R)))) (known [6] [(.int .i64 n17)] (known [1, 2, 4, 5, 45] [(.int .i64 zn0), (.pointer (some za1)), (.pointer (some za2)), (.pointer (some za3)), (.tuple #[])] j)) = B_ref13_Without_0 W R zn0 za1 za2 za3 n17 nx0 := by kernel_rfl
def N_ref13_Without_0 (I : Int → Hp → Prop) (μ : Int → Hp → Nat) (n170 : Int) (s : Hp) (vs : List Value) : Hp → Prop := fun s' => ∃ n17, vs = [(.int .i64 n17)] ∧ I n17 s' ∧ μ n17 s' < μ n170 s
theorem L_ref13_Without_0_rule (W : World) (R : Ending → Hp → Prop) (zn0 : Int) (za1 : Addr) (za2 : Addr) (za3 : Addr) (I : Int → Hp → Prop) (μ : Int → Hp → Nat) (n170 : Int) (s : Hp) (h0 : I n170 s)
    (hr : ∀ (n17 : Int) (s : Hp), I n17 s → B_ref13_Without_0 W R zn0 za1 za2 za3 n17 (fun vs => N_ref13_Without_0 I μ n17 s vs) s) : L_ref13_Without_0 W R zn0 za1 za2 za3 n170 s := by
  refine ⟨fun vs s => ∃ n17, vs = [(.int .i64 n17)] ∧ I n17 s, fun vs s => (match vs with | [.int _ n17] => μ n17 s | _ => 0), ⟨⟨⟨_, rfl⟩, trivial⟩, ⟨_, rfl, h0⟩⟩, ?_⟩
  intro n17 s hI j
  obtain ⟨n17', hy, hI⟩ := hI
  have hI' : I n17 s := by cases hy; exact hI
  have hh := hr n17 s hI'
  rw [← B_ref13_Without_0_eq W R zn0 za1 za2 za3 n17 _ j] at hh
  refine vc_mono ?_ _ _ hh
  exact KLoop_mono (fun vs s' h => by obtain ⟨n171, rfl, h1, h2⟩ := h; exact ⟨⟨⟨_, rfl⟩, trivial⟩, ⟨_, rfl, h1⟩, h2⟩)
def T_ref13_Without (W : World) (x1 : Option Addr) (l2 : Nat) (c3 : Nat) (x4 : Option Addr) (l5 : Nat) (c6 : Nat) (n7 : Int) (R : Ending → Hp → Prop) : Hp → Prop :=
  NEW 25 [(.slice x1 l2 c3), (.slice x4 l5 c6)] fun B8 =>
    NEWZ Pg 25 fun B9 =>
      RDL (Addr.add ⟨B8, 0, none⟩ 0) fun x10 l11 c12 =>
        RDL (Addr.add ⟨B8, 0, none⟩ 1) fun x13 l14 c15 =>
          NEWZ Pg 25 fun B16 =>
            WR (Addr.add ⟨B16, 0, none⟩ 0) (.slice x10 l11 c12) <|
              WR (Addr.add ⟨B16, 0, none⟩ 1) (.slice x13 l14 c15) <|
                WR (Addr.add (Addr.add ⟨B16, 0, none⟩ 0) 0) (.slice none 0 0) <|
                  L_ref13_Without_0 W R n7 ⟨B8, 0, none⟩ ⟨B9, 0, none⟩ ⟨B16, 0, none⟩ 0
theorem T_ref13_Without_eq (W : World) (x1 : Option Addr) (l2 : Nat) (c3 : Nat) (x4 : Option Addr) (l5 : Nat) (c6 : Nat) (n7 : Int) (R : Ending → Hp → Prop) : vfun Pg W an_36 Try.f36 [(.agg #[(.slice x1 l2 c3), (.slice x4 l5 c6)]), (.int .i64 n7)] R = T_ref13_Without W x1 l2 c3 x4 l5 c6 n7 R := by kernel_rfl
theorem does_ref13_Without (W : World) (x1 : Option Addr) (l2 : Nat) (c3 : Nat) (x4 : Option Addr) (l5 : Nat) (c6 : Nat) (n7 : Int) (R : Ending → Hp → Prop) (s : Hp) (h : T_ref13_Without W x1 l2 c3 x4 l5 c6 n7 R s) : Does Pg W F_ref13_Without #[(.agg #[(.slice x1 l2 c3), (.slice x4 l5 c6)]), (.int .i64 n7)] s R :=
  does_of_vfun Pg W an_36 Try.func36 rfl (by kernel_rfl) (by rw [T_ref13_Without_eq]; exact h)
def an_38 : Nat → Ann := fun b => match b with
  | 0 => { ms := [9], ks := [.i .i64], us := [1, 2, 6, 7, 8, 77], rt := false, ex := [] }
  | _ => {}
abbrev rv_38 : List ResultVar := [.cell 6 25]
abbrev rs_38 : List Nat := [77, 6]
def L_ref13_Moved_0 (W : World) (R : Ending → Hp → Prop) (zn0 : Int) (zn1 : Int) (za2 : Addr) (za3 : Addr) (zn4 : Int) (n30 : Int) : Hp → Prop :=
  LOOPN [.i .i64] (fun ys next s => ∀ j : Tm, vc Pg W 77 rs_38 an_38 false (sub (bodyOf Try.f38) [1, 1, 1, 1, 0, 1, 0, 0]) 0 (KLoop [9] [1, 2, 6, 7, 8, 77] [(.int .i64 zn0), (.int .i64 zn1), (.pointer (some za2)), (.pointer (some za3)), (.int .i64 zn4), (.tuple #[])] next (KBlk 0 (KS Pg W 77 rs_38 an_38 false (sub (bodyOf Try.f38) [1, 1, 1, 1, 1]) 0 (fin Pg W 77 rv_38 R)))) (known [9] ys (known [1, 2, 6, 7, 8, 77] [(.int .i64 zn0), (.int .i64 zn1), (.pointer (some za2)), (.pointer (some za3)), (.int .i64 zn4), (.tuple #[])] j)) s) [(.int .i64 n30)]
def J_ref13_Moved_0 (W : World) (R : Ending → Hp → Prop) (zn0 : Int) (zn1 : Int) (za2 : Addr) (za3 : Addr) (zn4 : Int) (nx0 : List Value → Hp → Prop) (n30 : Int) : Hp → Prop :=
  NX [(.int .i64 zn0), (.int .i64 zn1), (.pointer (some za2)), (.pointer (some za3)), (.int .i64 zn4), (.tuple #[])] [(.int .i64 zn0), (.int .i64 zn1), (.pointer (some za2)), (.pointer (some za3)), (.int .i64 zn4), (.tuple #[])] (nx0 [(.int .i64 (IntKind.wrap .i64 (n30 + 1)))])
def J_ref13_Moved_1 (W : World) (R : Ending → Hp → Prop) (b46 : Bool) (za3 : Addr) (n30 : Int) (zn0 : Int) (zn1 : Int) (za2 : Addr) (zn4 : Int) (nx0 : List Value → Hp → Prop) : Hp → Prop :=
  BR b46
    (RDL (Addr.add za3 0) fun x47 l48 c49 =>
      IXS x47 l48 n30 4 fun a50 =>
        RDI .i64 (Addr.add a50 0) fun n51 =>
          IXS x47 l48 n30 4 fun a52 =>
            WR (Addr.add (Addr.add a52 0) 0) (.int .i64 (IntKind.wrap .i64 (n51 + 1))) <|
              J_ref13_Moved_0 W R zn0 zn1 za2 za3 zn4 nx0 n30)
    (J_ref13_Moved_0 W R zn0 zn1 za2 za3 zn4 nx0 n30)
def J_ref13_Moved_2 (W : World) (R : Ending → Hp → Prop) (n38 : Int) (zn4 : Int) (zn1 : Int) (za3 : Addr) (n30 : Int) (zn0 : Int) (za2 : Addr) (nx0 : List Value → Hp → Prop) : Hp → Prop :=
  BR (decide (n38 < zn4))
    (J_ref13_Moved_1 W R (decide (n38 ≥ zn1)) za3 n30 zn0 zn1 za2 zn4 nx0)
    (J_ref13_Moved_1 W R false za3 n30 zn0 zn1 za2 zn4 nx0)
def J_ref13_Moved_3 (W : World) (R : Ending → Hp → Prop) (b39 : Bool) (za3 : Addr) (n30 : Int) (n38 : Int) (zn4 : Int) (zn1 : Int) (zn0 : Int) (za2 : Addr) (nx0 : List Value → Hp → Prop) : Hp → Prop :=
  BR b39
    (RDL (Addr.add za3 0) fun x40 l41 c42 =>
      IXS x40 l41 n30 4 fun a43 =>
        RDI .i64 (Addr.add a43 0) fun n44 =>
          IXS x40 l41 n30 4 fun a45 =>
            WR (Addr.add (Addr.add a45 0) 0) (.int .i64 (IntKind.wrap .i64 (n44 - 1))) <|
              J_ref13_Moved_2 W R n38 zn4 zn1 za3 n30 zn0 za2 nx0)
    (J_ref13_Moved_2 W R n38 zn4 zn1 za3 n30 zn0 za2 nx0)
def B_ref13_Moved_0 (W : World) (R : Ending → Hp → Prop) (zn0 : Int) (zn1 : Int) (za2 : Addr) (za3 : Addr) (zn4 : Int) (n30 : Int) (nx0 : List Value → Hp → Prop) : Hp → Prop :=
  RDL (Addr.add za3 0) fun x31 l32 c33 =>
    BR (decide (n30 < (↑l32 : Int)))
      (RDL (Addr.add za3 0) fun x34 l35 c36 =>
        IXS x34 l35 n30 4 fun a37 =>
          RDI .i64 (Addr.add a37 0) fun n38 =>
            BR (decide (n38 > zn4))
              (J_ref13_Moved_3 W R (decide (n38 ≤ zn1)) za3 n30 n38 zn4 zn1 zn0 za2 nx0)
              (J_ref13_Moved_3 W R false za3 n30 n38 zn4 zn1 zn0 za2 nx0))
      (RDL (Addr.add za3 0) fun x53 l54 c55 =>
        IXS x53 l54 zn0 4 fun a56 =>
          WR (Addr.add (Addr.add a56 0) 0) (.int .i64 zn1) <|
            RDL (Addr.add za3 0) fun x57 l58 c59 =>
              RDL (Addr.add za3 1) fun x60 l61 c62 =>
                WR (Addr.add za2 0) (.slice x57 l58 c59) <|
                  WR (Addr.add za2 1) (.slice x60 l61 c62) <|
                    RDL (Addr.add za2 0) fun x63 l64 c65 =>
                      RDL (Addr.add za2 1) fun x66 l67 c68 =>
                        R (.returned (.agg #[(.slice x63 l64 c65), (.slice x66 l67 c68)])))
theorem B_ref13_Moved_0_eq (W : World) (R : Ending → Hp → Prop) (zn0 : Int) (zn1 : Int) (za2 : Addr) (za3 : Addr) (zn4 : Int) (n30 : Int) (nx0 : List Value → Hp → Prop) (j : Tm) : vc Pg W 77 rs_38 an_38 false (sub (bodyOf Try.f38) [1, 1, 1, 1, 0, 1, 0, 0]) 0 (KLoop [9] [1, 2, 6, 7, 8, 77] [(.int .i64 zn0), (.int .i64 zn1), (.pointer (some za2)), (.pointer (some za3)), (.int .i64 zn4), (.tuple #[])] nx0 (KBlk 0 (KS Pg W 77 rs_38 an_38 false (sub (bodyOf Try.f38) [1, 1, 1, 1, 1]) 0 (fin Pg W 77 rv_38 R)))) (known [9] [(.int .i64 n30)] (known [1, 2, 6, 7, 8, 77] [(.int .i64 zn0), (.int .i64 zn1), (.pointer (some za2)), (.pointer (some za3)), (.int .i64 zn4), (.tuple #[])] j)) = B_ref13_Moved_0 W R zn0 zn1 za2 za3 zn4 n30 nx0 := by kernel_rfl
def N_ref13_Moved_0 (I : Int → Hp → Prop) (μ : Int → Hp → Nat) (n300 : Int) (s : Hp) (vs : List Value) : Hp → Prop := fun s' => ∃ n30, vs = [(.int .i64 n30)] ∧ I n30 s' ∧ μ n30 s' < μ n300 s
theorem L_ref13_Moved_0_rule (W : World) (R : Ending → Hp → Prop) (zn0 : Int) (zn1 : Int) (za2 : Addr) (za3 : Addr) (zn4 : Int) (I : Int → Hp → Prop) (μ : Int → Hp → Nat) (n300 : Int) (s : Hp) (h0 : I n300 s)
    (hr : ∀ (n30 : Int) (s : Hp), I n30 s → B_ref13_Moved_0 W R zn0 zn1 za2 za3 zn4 n30 (fun vs => N_ref13_Moved_0 I μ n30 s vs) s) : L_ref13_Moved_0 W R zn0 zn1 za2 za3 zn4 n300 s := by
  refine ⟨fun vs s => ∃ n30, vs = [(.int .i64 n30)] ∧ I n30 s, fun vs s => (match vs with | [.int _ n30] => μ n30 s | _ => 0), ⟨⟨⟨_, rfl⟩, trivial⟩, ⟨_, rfl, h0⟩⟩, ?_⟩
  intro n30 s hI j
  obtain ⟨n30', hy, hI⟩ := hI
  have hI' : I n30 s := by cases hy; exact hI
  have hh := hr n30 s hI'
  rw [← B_ref13_Moved_0_eq W R zn0 zn1 za2 za3 zn4 n30 _ j] at hh
  refine vc_mono ?_ _ _ hh
  exact KLoop_mono (fun vs s' h => by obtain ⟨n301, rfl, h1, h2⟩ := h; exact ⟨⟨⟨_, rfl⟩, trivial⟩, ⟨_, rfl, h1⟩, h2⟩)
def T_ref13_Moved (W : World) (x1 : Option Addr) (l2 : Nat) (c3 : Nat) (x4 : Option Addr) (l5 : Nat) (c6 : Nat) (n7 : Int) (n8 : Int) (R : Ending → Hp → Prop) : Hp → Prop :=
  NEW 25 [(.slice x1 l2 c3), (.slice x4 l5 c6)] fun B9 =>
    NEWZ Pg 25 fun B10 =>
      RDL (Addr.add ⟨B9, 0, none⟩ 0) fun x11 l12 c13 =>
        RDL (Addr.add ⟨B9, 0, none⟩ 1) fun x14 l15 c16 =>
          NEWZ Pg 25 fun B17 =>
            WR (Addr.add ⟨B17, 0, none⟩ 0) (.slice x11 l12 c13) <|
              WR (Addr.add ⟨B17, 0, none⟩ 1) (.slice x14 l15 c16) <|
                NEW 48 [] fun B18 =>
                  RDL (Addr.add ⟨B9, 0, none⟩ 0) fun x19 l20 c21 =>
                    APP Pg 48 4 (some ⟨B18, 0, none⟩) 0 0 x19 l20 fun x22 l23 c24 =>
                      WR (Addr.add (Addr.add ⟨B17, 0, none⟩ 0) 0) (.slice x22 l23 c24) <|
                        RDL (Addr.add ⟨B9, 0, none⟩ 0) fun x25 l26 c27 =>
                          IXS x25 l26 n7 4 fun a28 =>
                            RDI .i64 (Addr.add a28 0) fun n29 =>
                              L_ref13_Moved_0 W R n7 n8 ⟨B10, 0, none⟩ ⟨B17, 0, none⟩ n29 0
theorem T_ref13_Moved_eq (W : World) (x1 : Option Addr) (l2 : Nat) (c3 : Nat) (x4 : Option Addr) (l5 : Nat) (c6 : Nat) (n7 : Int) (n8 : Int) (R : Ending → Hp → Prop) : vfun Pg W an_38 Try.f38 [(.agg #[(.slice x1 l2 c3), (.slice x4 l5 c6)]), (.int .i64 n7), (.int .i64 n8)] R = T_ref13_Moved W x1 l2 c3 x4 l5 c6 n7 n8 R := by kernel_rfl
theorem does_ref13_Moved (W : World) (x1 : Option Addr) (l2 : Nat) (c3 : Nat) (x4 : Option Addr) (l5 : Nat) (c6 : Nat) (n7 : Int) (n8 : Int) (R : Ending → Hp → Prop) (s : Hp) (h : T_ref13_Moved W x1 l2 c3 x4 l5 c6 n7 n8 R s) : Does Pg W F_ref13_Moved #[(.agg #[(.slice x1 l2 c3), (.slice x4 l5 c6)]), (.int .i64 n7), (.int .i64 n8)] s R :=
  does_of_vfun Pg W an_38 Try.func38 rfl (by kernel_rfl) (by rw [T_ref13_Moved_eq]; exact h)
def an_66 : Nat → Ann := fun b => match b with
  | 0 => { ms := [5, 6, 7], ks := [.l, .b, .i .i64], us := [1, 2, 4, 57], rt := false, ex := [] }
  | _ => {}
abbrev rv_66 : List ResultVar := [.tmp 4]
abbrev rs_66 : List Nat := [57, 4]
def L_ref13_most_0 (W : World) (R : Ending → Hp → Prop) (zp0 : Option Addr) (zl1 : Nat) (zl2 : Nat) (za3 : Addr) (x14 : Option Addr) (l15 : Nat) (c16 : Nat) (b17 : Bool) (n18 : Int) : Hp → Prop :=
  LOOPN [.l, .b, .i .i64] (fun ys next s => ∀ j : Tm, vc Pg W 57 rs_66 an_66 false (sub (bodyOf Try.f66) [1, 1, 1, 1, 0, 1, 0, 0]) 0 (KLoop [5, 6, 7] [1, 2, 4, 57] [(.slice zp0 zl1 zl2), (.pointer (some za3)), (.slice none 0 0), (.tuple #[])] next (KBlk 0 (KS Pg W 57 rs_66 an_66 false (sub (bodyOf Try.f66) [1, 1, 1, 1, 1]) 0 (fin Pg W 57 rv_66 R)))) (known [5, 6, 7] ys (known [1, 2, 4, 57] [(.slice zp0 zl1 zl2), (.pointer (some za3)), (.slice none 0 0), (.tuple #[])] j)) s) [(.slice x14 l15 c16), (.bool b17), (.int .i64 n18)]
def J_ref13_most_0 (W : World) (R : Ending → Hp → Prop) (b72 : Bool) (zp0 : Option Addr) (zl1 : Nat) (zl2 : Nat) (za3 : Addr) (nx0 : List Value → Hp → Prop) (x69 : Option Addr) (l70 : Nat) (c71 : Nat) (n18 : Int) (x14 : Option Addr) (l15 : Nat) (c16 : Nat) (b17 : Bool) : Hp → Prop :=
  BR b72
    (NX [(.slice zp0 zl1 zl2), (.pointer (some za3)), (.slice none 0 0), (.tuple #[])] [(.slice zp0 zl1 zl2), (.pointer (some za3)), (.slice none 0 0), (.tuple #[])] (nx0 [(.slice x69 l70 c71), (.bool true), (.int .i64 (IntKind.wrap .i64 (n18 + 1)))]))
    (NX [(.slice zp0 zl1 zl2), (.pointer (some za3)), (.slice none 0 0), (.tuple #[])] [(.slice zp0 zl1 zl2), (.pointer (some za3)), (.slice none 0 0), (.tuple #[])] (nx0 [(.slice x14 l15 c16), (.bool b17), (.int .i64 (IntKind.wrap .i64 (n18 + 1)))]))
def J_ref13_most_1 (W : World) (R : Ending → Hp → Prop) (b17 : Bool) (zp0 : Option Addr) (zl1 : Nat) (zl2 : Nat) (za3 : Addr) (nx0 : List Value → Hp → Prop) (x69 : Option Addr) (l70 : Nat) (c71 : Nat) (n18 : Int) (x14 : Option Addr) (l15 : Nat) (c16 : Nat) : Hp → Prop :=
  BR (!b17)
    (J_ref13_most_0 W R true zp0 zl1 zl2 za3 nx0 x69 l70 c71 n18 x14 l15 c16 b17)
    (CALL Pg W F_ref13_Many [(.slice x69 l70 c71)]
      (fun v73 => TYI .i64 v73 fun n75 =>
        CALL Pg W F_ref13_Many [(.slice x14 l15 c16)]
          (fun v76 => TYI .i64 v76 fun n78 =>
            J_ref13_most_0 W R (decide (n75 > n78)) zp0 zl1 zl2 za3 nx0 x69 l70 c71 n18 x14 l15 c16 b17)
            (fun e77 => R (.panicked e77)))
        (fun e74 => R (.panicked e74)))
def J_ref13_most_2 (W : World) (R : Ending → Hp → Prop) (b25 : Bool) (zp0 : Option Addr) (zl1 : Nat) (zl2 : Nat) (za3 : Addr) (nx0 : List Value → Hp → Prop) (x14 : Option Addr) (l15 : Nat) (c16 : Nat) (b17 : Bool) (n18 : Int) : Hp → Prop :=
  BR b25
    (NX [(.slice zp0 zl1 zl2), (.pointer (some za3)), (.slice none 0 0), (.tuple #[])] [(.slice zp0 zl1 zl2), (.pointer (some za3)), (.slice none 0 0), (.tuple #[])] (nx0 [(.slice x14 l15 c16), (.bool b17), (.int .i64 (IntKind.wrap .i64 (n18 + 1)))]))
    (RDL (Addr.add za3 0) fun x26 l27 c28 =>
      RDL (Addr.add za3 1) fun x29 l30 c31 =>
        CONJ [
          NEW 3 [] fun B32 =>
            ANDS (RDL (Addr.add za3 0) fun x33 l34 c35 =>
              RDL (Addr.add za3 1) fun x36 l37 c38 =>
                fun _ => ((.agg #[(.slice x33 l34 c35), (.slice x36 l37 c38)]) : Value) = (.agg #[(.slice x26 l27 c28), (.slice x29 l30 c31)])) <|
              CONJ [
                APP Pg 3 1 (some ⟨B32, 0, none⟩) 0 0 zp0 zl1 fun x39 l40 c41 =>
                  ANDS (RDL (Addr.add za3 0) fun x42 l43 c44 =>
                    RDL (Addr.add za3 1) fun x45 l46 c47 =>
                      fun _ => ((.agg #[(.slice x42 l43 c44), (.slice x45 l46 c47)]) : Value) = (.agg #[(.slice x26 l27 c28), (.slice x29 l30 c31)])) <|
                    NEW 3 [(.int .i64 n18)] fun B48 =>
                      ANDS (RDL (Addr.add za3 0) fun x49 l50 c51 =>
                        RDL (Addr.add za3 1) fun x52 l53 c54 =>
                          fun _ => ((.agg #[(.slice x49 l50 c51), (.slice x52 l53 c54)]) : Value) = (.agg #[(.slice x26 l27 c28), (.slice x29 l30 c31)])) <|
                        APP Pg 3 1 x39 l40 c41 (some ⟨B48, 0, none⟩) 1 fun x55 l56 c57 =>
                          ANDS (RDL (Addr.add za3 0) fun x58 l59 c60 =>
                            RDL (Addr.add za3 1) fun x61 l62 c63 =>
                              fun _ => ((.agg #[(.slice x58 l59 c60), (.slice x61 l62 c63)]) : Value) = (.agg #[(.slice x26 l27 c28), (.slice x29 l30 c31)])) <|
                            CALL Pg W F_ref13_most [(.agg #[(.slice x26 l27 c28), (.slice x29 l30 c31)]), (.slice x55 l56 c57)]
                              (fun v64 => TYL v64 fun x66 l67 c68 =>
                                J_ref13_most_1 W R b17 zp0 zl1 zl2 za3 nx0 x66 l67 c68 n18 x14 l15 c16)
                                (fun e65 => R (.panicked e65)),
                NEW 3 [(.int .i64 n18)] fun B79 =>
                  ANDS (RDL (Addr.add za3 0) fun x80 l81 c82 =>
                    RDL (Addr.add za3 1) fun x83 l84 c85 =>
                      fun _ => ((.agg #[(.slice x80 l81 c82), (.slice x83 l84 c85)]) : Value) = (.agg #[(.slice x26 l27 c28), (.slice x29 l30 c31)])) <|
                    APP Pg 3 1 (some ⟨B32, 0, none⟩) 0 0 zp0 zl1 fun x86 l87 c88 =>
                      ANDS (RDL (Addr.add za3 0) fun x89 l90 c91 =>
                        RDL (Addr.add za3 1) fun x92 l93 c94 =>
                          fun _ => ((.agg #[(.slice x89 l90 c91), (.slice x92 l93 c94)]) : Value) = (.agg #[(.slice x26 l27 c28), (.slice x29 l30 c31)])) <|
                        APP Pg 3 1 x86 l87 c88 (some ⟨B79, 0, none⟩) 1 fun x95 l96 c97 =>
                          ANDS (RDL (Addr.add za3 0) fun x98 l99 c100 =>
                            RDL (Addr.add za3 1) fun x101 l102 c103 =>
                              fun _ => ((.agg #[(.slice x98 l99 c100), (.slice x101 l102 c103)]) : Value) = (.agg #[(.slice x26 l27 c28), (.slice x29 l30 c31)])) <|
                            CALL Pg W F_ref13_most [(.agg #[(.slice x26 l27 c28), (.slice x29 l30 c31)]), (.slice x95 l96 c97)]
                              (fun v104 => TYL v104 fun x106 l107 c108 =>
                                J_ref13_most_1 W R b17 zp0 zl1 zl2 za3 nx0 x106 l107 c108 n18 x14 l15 c16)
                                (fun e105 => R (.panicked e105))],
          NEW 3 [(.int .i64 n18)] fun B109 =>
            ANDS (RDL (Addr.add za3 0) fun x110 l111 c112 =>
              RDL (Addr.add za3 1) fun x113 l114 c115 =>
                fun _ => ((.agg #[(.slice x110 l111 c112), (.slice x113 l114 c115)]) : Value) = (.agg #[(.slice x26 l27 c28), (.slice x29 l30 c31)])) <|
              NEW 3 [] fun B116 =>
                ANDS (RDL (Addr.add za3 0) fun x117 l118 c119 =>
                  RDL (Addr.add za3 1) fun x120 l121 c122 =>
                    fun _ => ((.agg #[(.slice x117 l118 c119), (.slice x120 l121 c122)]) : Value) = (.agg #[(.slice x26 l27 c28), (.slice x29 l30 c31)])) <|
                  APP Pg 3 1 (some ⟨B116, 0, none⟩) 0 0 zp0 zl1 fun x123 l124 c125 =>
                    ANDS (RDL (Addr.add za3 0) fun x126 l127 c128 =>
                      RDL (Addr.add za3 1) fun x129 l130 c131 =>
                        fun _ => ((.agg #[(.slice x126 l127 c128), (.slice x129 l130 c131)]) : Value) = (.agg #[(.slice x26 l27 c28), (.slice x29 l30 c31)])) <|
                      APP Pg 3 1 x123 l124 c125 (some ⟨B109, 0, none⟩) 1 fun x132 l133 c134 =>
                        ANDS (RDL (Addr.add za3 0) fun x135 l136 c137 =>
                          RDL (Addr.add za3 1) fun x138 l139 c140 =>
                            fun _ => ((.agg #[(.slice x135 l136 c137), (.slice x138 l139 c140)]) : Value) = (.agg #[(.slice x26 l27 c28), (.slice x29 l30 c31)])) <|
                          CALL Pg W F_ref13_most [(.agg #[(.slice x26 l27 c28), (.slice x29 l30 c31)]), (.slice x132 l133 c134)]
                            (fun v141 => TYL v141 fun x143 l144 c145 =>
                              J_ref13_most_1 W R b17 zp0 zl1 zl2 za3 nx0 x143 l144 c145 n18 x14 l15 c16)
                              (fun e142 => R (.panicked e142))])
def B_ref13_most_0 (W : World) (R : Ending → Hp → Prop) (zp0 : Option Addr) (zl1 : Nat) (zl2 : Nat) (za3 : Addr) (x14 : Option Addr) (l15 : Nat) (c16 : Nat) (b17 : Bool) (n18 : Int) (nx0 : List Value → Hp → Prop) : Hp → Prop :=
  RDL (Addr.add za3 0) fun x19 l20 c21 =>
    BR (decide (n18 < (↑l20 : Int)))
      (BR (decide (n18 ≥ 0))
        (CALL Pg W F_ref13_has [(.slice zp0 zl1 zl2), (.int .i64 n18)]
          (fun v22 => TYB v22 fun b24 =>
            BR b24
              (J_ref13_most_2 W R true zp0 zl1 zl2 za3 nx0 x14 l15 c16 b17 n18)
              (RDL (Addr.add za3 0) fun x146 l147 c148 =>
                RDL (Addr.add za3 1) fun x149 l150 c151 =>
                  CALL Pg W F_ref13_can [(.agg #[(.slice x146 l147 c148), (.slice x149 l150 c151)]), (.int .i64 n18), (.int .i64 (↑zl1 : Int))]
                    (fun v152 => TYB v152 fun b154 =>
                      J_ref13_most_2 W R (!b154) zp0 zl1 zl2 za3 nx0 x14 l15 c16 b17 n18)
                      (fun e153 => R (.panicked e153))))
            (fun e23 => R (.panicked e23)))
        (J_ref13_most_2 W R false zp0 zl1 zl2 za3 nx0 x14 l15 c16 b17 n18))
      (R (.returned (.slice x14 l15 c16)))
theorem B_ref13_most_0_eq (W : World) (R : Ending → Hp → Prop) (zp0 : Option Addr) (zl1 : Nat) (zl2 : Nat) (za3 : Addr) (x14 : Option Addr) (l15 : Nat) (c16 : Nat) (b17 : Bool) (n18 : Int) (nx0 : List Value → Hp → Prop) (j : Tm) : vc Pg W 57 rs_66 an_66 false (sub (bodyOf Try.f66) [1, 1, 1, 1, 0, 1, 0, 0]) 0 (KLoop [5, 6, 7] [1, 2, 4, 57] [(.slice zp0 zl1 zl2), (.pointer (some za3)), (.slice none 0 0), (.tuple #[])] nx0 (KBlk 0 (KS Pg W 57 rs_66 an_66 false (sub (bodyOf Try.f66) [1, 1, 1, 1, 1]) 0 (fin Pg W 57 rv_66 R)))) (known [5, 6, 7] [(.slice x14 l15 c16), (.bool b17), (.int .i64 n18)] (known [1, 2, 4, 57] [(.slice zp0 zl1 zl2), (.pointer (some za3)), (.slice none 0 0), (.tuple #[])] j)) = B_ref13_most_0 W R zp0 zl1 zl2 za3 x14 l15 c16 b17 n18 nx0 := by kernel_rfl
def N_ref13_most_0 (I : Option Addr → Nat → Nat → Bool → Int → Hp → Prop) (μ : Option Addr → Nat → Nat → Bool → Int → Hp → Nat) (x140 : Option Addr) (l150 : Nat) (c160 : Nat) (b170 : Bool) (n180 : Int) (s : Hp) (vs : List Value) : Hp → Prop := fun s' => ∃ x14 l15 c16 b17 n18, vs = [(.slice x14 l15 c16), (.bool b17), (.int .i64 n18)] ∧ I x14 l15 c16 b17 n18 s' ∧ μ x14 l15 c16 b17 n18 s' < μ x140 l150 c160 b170 n180 s
theorem L_ref13_most_0_rule (W : World) (R : Ending → Hp → Prop) (zp0 : Option Addr) (zl1 : Nat) (zl2 : Nat) (za3 : Addr) (I : Option Addr → Nat → Nat → Bool → Int → Hp → Prop) (μ : Option Addr → Nat → Nat → Bool → Int → Hp → Nat) (x140 : Option Addr) (l150 : Nat) (c160 : Nat) (b170 : Bool) (n180 : Int) (s : Hp) (h0 : I x140 l150 c160 b170 n180 s)
    (hr : ∀ (x14 : Option Addr) (l15 : Nat) (c16 : Nat) (b17 : Bool) (n18 : Int) (s : Hp), I x14 l15 c16 b17 n18 s → B_ref13_most_0 W R zp0 zl1 zl2 za3 x14 l15 c16 b17 n18 (fun vs => N_ref13_most_0 I μ x14 l15 c16 b17 n18 s vs) s) : L_ref13_most_0 W R zp0 zl1 zl2 za3 x140 l150 c160 b170 n180 s := by
  refine ⟨fun vs s => ∃ x14 l15 c16 b17 n18, vs = [(.slice x14 l15 c16), (.bool b17), (.int .i64 n18)] ∧ I x14 l15 c16 b17 n18 s, fun vs s => (match vs with | [.slice x14 l15 c16, .bool b17, .int _ n18] => μ x14 l15 c16 b17 n18 s | _ => 0), ⟨⟨⟨_, _, _, rfl⟩, ⟨⟨_, rfl⟩, ⟨⟨_, rfl⟩, trivial⟩⟩⟩, ⟨_, _, _, _, _, rfl, h0⟩⟩, ?_⟩
  intro x14 l15 c16 b17 n18 s hI j
  obtain ⟨x14', l15', c16', b17', n18', hy, hI⟩ := hI
  have hI' : I x14 l15 c16 b17 n18 s := by cases hy; exact hI
  have hh := hr x14 l15 c16 b17 n18 s hI'
  rw [← B_ref13_most_0_eq W R zp0 zl1 zl2 za3 x14 l15 c16 b17 n18 _ j] at hh
  refine vc_mono ?_ _ _ hh
  exact KLoop_mono (fun vs s' h => by obtain ⟨x141, l151, c161, b171, n181, rfl, h1, h2⟩ := h; exact ⟨⟨⟨_, _, _, rfl⟩, ⟨⟨_, rfl⟩, ⟨⟨_, rfl⟩, trivial⟩⟩⟩, ⟨_, _, _, _, _, rfl, h1⟩, h2⟩)
def T_ref13_most (W : World) (x1 : Option Addr) (l2 : Nat) (c3 : Nat) (x4 : Option Addr) (l5 : Nat) (c6 : Nat) (x7 : Option Addr) (l8 : Nat) (c9 : Nat) (R : Ending → Hp → Prop) : Hp → Prop :=
  NEW 25 [(.slice x1 l2 c3), (.slice x4 l5 c6)] fun B10 =>
    RDL (Addr.add ⟨B10, 0, none⟩ 1) fun x11 l12 c13 =>
      BR ((↑l8 : Int) == (↑l12 : Int))
        (R (.returned (.slice x7 l8 c9)))
        (L_ref13_most_0 W R x7 l8 c9 ⟨B10, 0, none⟩ none 0 0 false (-1))
theorem T_ref13_most_eq (W : World) (x1 : Option Addr) (l2 : Nat) (c3 : Nat) (x4 : Option Addr) (l5 : Nat) (c6 : Nat) (x7 : Option Addr) (l8 : Nat) (c9 : Nat) (R : Ending → Hp → Prop) : vfun Pg W an_66 Try.f66 [(.agg #[(.slice x1 l2 c3), (.slice x4 l5 c6)]), (.slice x7 l8 c9)] R = T_ref13_most W x1 l2 c3 x4 l5 c6 x7 l8 c9 R := by kernel_rfl
theorem does_ref13_most (W : World) (x1 : Option Addr) (l2 : Nat) (c3 : Nat) (x4 : Option Addr) (l5 : Nat) (c6 : Nat) (x7 : Option Addr) (l8 : Nat) (c9 : Nat) (R : Ending → Hp → Prop) (s : Hp) (h : T_ref13_most W x1 l2 c3 x4 l5 c6 x7 l8 c9 R s) : Does Pg W F_ref13_most #[(.agg #[(.slice x1 l2 c3), (.slice x4 l5 c6)]), (.slice x7 l8 c9)] s R :=
  does_of_vfun Pg W an_66 Try.func66 rfl (by kernel_rfl) (by rw [T_ref13_most_eq]; exact h)
def an_69 : Nat → Ann := fun b => match b with
  | 0 => { ms := [3, 4], ks := [.i .i64, .i .i64], us := [0, 13], rt := false, ex := [] }
  | _ => {}
abbrev rv_69 : List ResultVar := [.tmp 2]
abbrev rs_69 : List Nat := [13, 2]
def L_ref13_power_0 (W : World) (R : Ending → Hp → Prop) (zn0 : Int) (n2 : Int) (n3 : Int) : Hp → Prop :=
  LOOPN [.i .i64, .i .i64] (fun ys next s => ∀ j : Tm, vc Pg W 13 rs_69 an_69 false (sub (bodyOf Try.f69) [1, 1, 0, 1, 0, 0]) 0 (KLoop [3, 4] [0, 13] [(.int .i64 zn0), (.tuple #[])] next (KBlk 0 (KS Pg W 13 rs_69 an_69 false (sub (bodyOf Try.f69) [1, 1, 1]) 0 (fin Pg W 13 rv_69 R)))) (known [3, 4] ys (known [0, 13] [(.int .i64 zn0), (.tuple #[])] j)) s) [(.int .i64 n2), (.int .i64 n3)]
def B_ref13_power_0 (W : World) (R : Ending → Hp → Prop) (zn0 : Int) (n2 : Int) (n3 : Int) (nx0 : List Value → Hp → Prop) : Hp → Prop :=
  BR (decide (n3 < zn0))
    (NX [(.int .i64 zn0), (.tuple #[])] [(.int .i64 zn0), (.tuple #[])] (nx0 [(.int .i64 (IntKind.wrap .i64 (2 * n2))), (.int .i64 (IntKind.wrap .i64 (n3 + 1)))]))
    (R (.returned (.int .i64 n2)))
theorem B_ref13_power_0_eq (W : World) (R : Ending → Hp → Prop) (zn0 : Int) (n2 : Int) (n3 : Int) (nx0 : List Value → Hp → Prop) (j : Tm) : vc Pg W 13 rs_69 an_69 false (sub (bodyOf Try.f69) [1, 1, 0, 1, 0, 0]) 0 (KLoop [3, 4] [0, 13] [(.int .i64 zn0), (.tuple #[])] nx0 (KBlk 0 (KS Pg W 13 rs_69 an_69 false (sub (bodyOf Try.f69) [1, 1, 1]) 0 (fin Pg W 13 rv_69 R)))) (known [3, 4] [(.int .i64 n2), (.int .i64 n3)] (known [0, 13] [(.int .i64 zn0), (.tuple #[])] j)) = B_ref13_power_0 W R zn0 n2 n3 nx0 := by kernel_rfl
def N_ref13_power_0 (I : Int → Int → Hp → Prop) (μ : Int → Int → Hp → Nat) (n20 : Int) (n30 : Int) (s : Hp) (vs : List Value) : Hp → Prop := fun s' => ∃ n2 n3, vs = [(.int .i64 n2), (.int .i64 n3)] ∧ I n2 n3 s' ∧ μ n2 n3 s' < μ n20 n30 s
theorem L_ref13_power_0_rule (W : World) (R : Ending → Hp → Prop) (zn0 : Int) (I : Int → Int → Hp → Prop) (μ : Int → Int → Hp → Nat) (n20 : Int) (n30 : Int) (s : Hp) (h0 : I n20 n30 s)
    (hr : ∀ (n2 : Int) (n3 : Int) (s : Hp), I n2 n3 s → B_ref13_power_0 W R zn0 n2 n3 (fun vs => N_ref13_power_0 I μ n2 n3 s vs) s) : L_ref13_power_0 W R zn0 n20 n30 s := by
  refine ⟨fun vs s => ∃ n2 n3, vs = [(.int .i64 n2), (.int .i64 n3)] ∧ I n2 n3 s, fun vs s => (match vs with | [.int _ n2, .int _ n3] => μ n2 n3 s | _ => 0), ⟨⟨⟨_, rfl⟩, ⟨⟨_, rfl⟩, trivial⟩⟩, ⟨_, _, rfl, h0⟩⟩, ?_⟩
  intro n2 n3 s hI j
  obtain ⟨n2', n3', hy, hI⟩ := hI
  have hI' : I n2 n3 s := by cases hy; exact hI
  have hh := hr n2 n3 s hI'
  rw [← B_ref13_power_0_eq W R zn0 n2 n3 _ j] at hh
  refine vc_mono ?_ _ _ hh
  exact KLoop_mono (fun vs s' h => by obtain ⟨n21, n31, rfl, h1, h2⟩ := h; exact ⟨⟨⟨_, rfl⟩, ⟨⟨_, rfl⟩, trivial⟩⟩, ⟨_, _, rfl, h1⟩, h2⟩)
def T_ref13_power (W : World) (n1 : Int) (R : Ending → Hp → Prop) : Hp → Prop :=
  L_ref13_power_0 W R n1 1 0
theorem T_ref13_power_eq (W : World) (n1 : Int) (R : Ending → Hp → Prop) : vfun Pg W an_69 Try.f69 [(.int .i64 n1)] R = T_ref13_power W n1 R := by kernel_rfl
theorem does_ref13_power (W : World) (n1 : Int) (R : Ending → Hp → Prop) (s : Hp) (h : T_ref13_power W n1 R s) : Does Pg W F_ref13_power #[(.int .i64 n1)] s R :=
  does_of_vfun Pg W an_69 Try.func69 rfl (by kernel_rfl) (by rw [T_ref13_power_eq]; exact h)
end Go.Proofs.Ytfaeokcbfnlgbaa.G

/- Prize: the document's Many, most, Most. -/
set_option linter.unusedSimpArgs false
set_option linter.unusedVariables false
set_option maxRecDepth 20000
namespace Go.Proofs.Ytfaeokcbfnlgbaa.G
open Go.V
section
variable {W : World} {K : VK} {E : List PanicEntry → Hp → Prop} {s : Hp} {T : PT}
theorem cntG_take {ds : List Int} {k : Nat} (h : k < ds.length) : cntG (ds.take (k + 1)) = cntG (ds.take k) + if ds.getD k 0 ≥ 0 then 1 else 0 := by
  unfold cntG
  rw [List.take_add_one, List.getElem?_eq_getElem h, getD_lt h, List.filter_append, List.length_append]
  congr 1
  show (List.filter _ [ds[k]]).length = _
  by_cases h1 : ds[k] ≥ 0
  · rw [if_pos h1, List.filter_cons, if_pos (decide_eq_true h1)]; rfl
  · rw [if_neg h1, List.filter_cons, if_neg (by simpa using h1)]; rfl
theorem cntG_le (ds : List Int) : cntG ds ≤ ds.length := List.length_filter_le _ _
theorem f_Many {x : Option Addr} {c l : Nat} {ds : List Int} (hx : RowAt s x (ints ds)) (hl : l = ds.length) (h8 : ds.length ≤ 100000) (h : K (.int .i64 (cntG ds : Nat)) s) : CALL Pg W F_ref13_Many [.slice x l c] K E s := by
  subst hl
  refine does_ref13_Many W x ds.length c _ s ?_
  unfold T_ref13_Many
  refine L_ref13_Many_0_rule W _ x ds.length c (fun n4 n5 t => t = s ∧ ∃ k : Nat, k ≤ ds.length ∧ n5 = k ∧ n4 = (cntG (ds.take k) : Nat)) (fun _ n5 _ => ((ds.length : Int) - n5).toNat) 0 0 s ⟨rfl, 0, by omega, rfl, rfl⟩ ?_
  rintro n4 n5 t ⟨rfl, k, hk, rfl, rfl⟩
  unfold B_ref13_Many_0
  refine BR_dec (fun h1 => ?_) (fun h1 => ?_)
  · have hkl : k < ds.length := by omega
    obtain ⟨a, ha, g⟩ := row_int hx hkl
    have hc := cntG_take hkl
    have hle := cntG_le (ds.take k)
    rw [List.length_take] at hle
    refine IXS_at ha hkl ?_
    refine ⟨_, g, ?_⟩
    refine BR_dec (fun h2 => ?_) (fun h2 => ?_)
    · rw [if_pos h2] at hc
      refine ⟨rfl, _, _, rfl, ⟨rfl, k + 1, hkl, wrap_succ (by omega), ?_⟩, ms_succ hkl (by omega)⟩
      rw [hc, wrap_succ (by omega)]
    · rw [if_neg h2] at hc
      refine ⟨rfl, _, _, rfl, ⟨rfl, k + 1, hkl, wrap_succ (by omega), ?_⟩, ms_succ hkl (by omega)⟩
      rw [hc]; rfl
  · have hkl : k = ds.length := by omega
    subst hkl
    rw [List.take_length]
    exact h
theorem f_most {x y : Option Addr} {c c' : Nat} (hok : okP T = true) (hx : MnAt s x T.men) (hy : PzAt s y T.list) : ∀ (r : Nat) (b : List (Option Nat)) (u : Hp) (q : Option Addr) (cq : Nat) (K : VK) (E : List PanicEntry → Hp → Prop), b.length + r = T.z → Ext s u → RowAt u q (ints (manL b)) →
    (∀ u' w cw, Ext u u' → RowAt u' w (ints (manL (b ++ bestG T r b.length (freeG b)))) → K (.slice w T.z cw) u') → CALL Pg W F_ref13_most [.agg #[.slice x T.n c, .slice y T.z c'], .slice q b.length cq] K E u := by
  have hv := okP_vd hok
  have h8 := hv.n8
  have h6 := hv.z6
  intro r
  induction r with
  | zero =>
    intro b u q cq K E hb eu hq h
    refine does_ref13_most W x T.n c y T.z c' q b.length cq _ u ?_
    unfold T_ref13_most
    refine ne2 fun s1 e1 z1 o1 o2 => ?_
    refine ⟨_, _, _, o2.cell, ?_⟩
    refine BR_eq (fun h1 => ?_) (fun h1 => absurd (by omega) h1)
    have := h s1 q cq e1 (by
      have e : bestG T 0 b.length (freeG b) = [] := rfl
      rw [e, List.append_nil]; exact hq.ext e1)
    have e : b.length = T.z := hb
    rw [e]; exact this
  | succ r ih =>
    intro b u q cq K E hb eu hq h
    have hbz : b.length < T.z := by omega
    refine does_ref13_most W x T.n c y T.z c' q b.length cq _ u ?_
    unfold T_ref13_most
    refine ne2 fun s1 e1 z1 o1 o2 => ?_
    refine ⟨_, _, _, o2.cell, ?_⟩
    refine BR_eq (fun h1 => absurd h1 (by omega)) (fun _ => ?_)
    have hml : (manL b).length = b.length := by unfold manL; rw [List.length_map]
    refine L_ref13_most_0_rule W _ q b.length cq ⟨u.size, 0, none⟩ (fun x14 l15 c16 b17 n18 t => Ext s1 t ∧ ∃ k : Nat, k ≤ T.n + 1 ∧ n18 = (k : Int) - 1 ∧ b17 = decide (0 < k) ∧ (0 < k → l15 = T.z ∧ RowAt t x14 (ints (manL (b ++ stG T r b.length (freeG b) (k - 1))))))
      (fun _ _ _ _ n18 _ => ((T.n : Int) - n18).toNat) none 0 0 false (-1) s1 ⟨Ext.refl _, 0, by omega, rfl, rfl, fun hh => by omega⟩ ?_
    rintro x14 l15 c16 b17 n18 t ⟨et, k, hk, rfl, rfl, hres⟩
    unfold B_ref13_most_0
    have eut := e1.trans et
    have est := eu.trans eut
    have o1t := et.cell o1.cell
    have o2t := et.cell o2.cell
    refine ⟨_, _, _, o1t, ?_⟩
    have hw : IntKind.i64.wrap (((k : Int) - 1) + 1) = ((k + 1 : Nat) : Int) - 1 := by rw [wrap_i64 (by omega) (by omega)]; omega
    refine BR_dec (fun h1 => ?_) (fun h1 => ?_)
    · have hkn : k ≤ T.n := by omega
      have hms : ((T.n : Int) - (((k + 1 : Nat) : Int) - 1)).toNat < ((T.n : Int) - ((k : Int) - 1)).toNat := by omega
      generalize hnx : (fun vs => N_ref13_most_0 _ _ _ _ _ _ _ t vs) = nx
      -- somebody who is not asked
      have skip : 0 < k → (freeG b (k - 1) && canP T (k - 1) b.length) = false → ∀ t', Ext t t' → J_ref13_most_2 W (endK K E) true q b.length cq ⟨u.size, 0, none⟩ nx x14 l15 c16 (decide (0 < k)) ((k : Int) - 1) t' := by
        intro h0 hno t ft
        have et := et.trans ft
        have eut := eut.trans ft
        have est := est.trans ft
        have o1t := ft.cell o1t
        have o2t := ft.cell o2t
        have hres : 0 < k → l15 = T.z ∧ RowAt t x14 (ints (manL (b ++ stG T r b.length (freeG b) (k - 1)))) := fun h0 => ⟨(hres h0).1, (hres h0).2.ext ft⟩
        unfold J_ref13_most_2
        obtain ⟨g1, g2⟩ := hres h0
        rw [← hnx]
        refine ⟨rfl, _, _, _, _, _, rfl, ⟨et, k + 1, by omega, hw, ?_, fun _ => ⟨g1, ?_⟩⟩, ?_⟩
        · rw [decide_eq_true h0, decide_eq_true (show 0 < k + 1 by omega)]
        · have : stG T r b.length (freeG b) (k + 1 - 1) = stG T r b.length (freeG b) (k - 1) := by
            have e : k + 1 - 1 = (k - 1) + 1 := by omega
            rw [e]; exact stG_no hno
          rw [this]; exact g2
        · rw [hw]; exact hms
      -- a prize more
      have try1 : ∀ o : Option Nat, manI o = (k : Int) - 1 → (k = 0 → o = none) → (0 < k → o = some (k - 1) ∧ (freeG b (k - 1) && canP T (k - 1) b.length) = true) → ∀ t', Ext t t' → J_ref13_most_2 W (endK K E) false q b.length cq ⟨u.size, 0, none⟩ nx x14 l15 c16 (decide (0 < k)) ((k : Int) - 1) t' := by
        intro o ho hk0 hk1 t ft
        have et := et.trans ft
        have eut := eut.trans ft
        have est := est.trans ft
        have o1t := ft.cell o1t
        have o2t := ft.cell o2t
        have hres : 0 < k → l15 = T.z ∧ RowAt t x14 (ints (manL (b ++ stG T r b.length (freeG b) (k - 1)))) := fun h0 => ⟨(hres h0).1, (hres h0).2.ext ft⟩
        unfold J_ref13_most_2
        have hbo : manL (b ++ [o]) = manL b ++ [(k : Int) - 1] := by rw [manL_app]; unfold manL; rw [List.map_singleton, ho]
        have hlo : (b ++ [o]).length = b.length + 1 := by simp
        have fin : ∀ (v : Hp) (w : Option Addr) (cw : Nat), Ext t v → RowAt v w (ints (manL (b ++ [o]))) →
            CALL Pg W F_ref13_most [.agg #[.slice x T.n c, .slice y T.z c'], .slice w (b.length + 1) cw] (fun v64 => TYL v64 fun x66 l67 c68 => J_ref13_most_1 W (endK K E) (decide (0 < k)) q b.length cq ⟨u.size, 0, none⟩ nx x66 l67 c68 ((k : Int) - 1) x14 l15 c16) (fun e => endK K E (.panicked e)) v := by
          intro v w cw ev hw'
          rw [← hlo]
          refine ih (b ++ [o]) v w cw _ _ (by omega) (est.trans ev) hw' fun v' w' cw' ev' hr => ?_
          try simp only [TUP_mk, AGG_mk, HD_mk, NL_mk, TYI_mk, TYB_mk, TYP_mk, TYL_mk, TYS_mk, TYM_mk, SO_mk, NX_mk, endK_mk, endK_mk', add_0]
          unfold J_ref13_most_1
          rw [hlo, List.append_assoc] at hr
          have etv := ev.trans ev'
          by_cases h0 : 0 < k
          · obtain ⟨ho', hcan⟩ := hk1 h0
            obtain ⟨g1, g2⟩ := hres h0
            subst ho'
            rw [freeG_some] at hr
            have hcs : ([some (k - 1)] ++ bestG T r (b.length + 1) (less (freeG b) (k - 1))) = some (k - 1) :: bestG T r (b.length + 1) (less (freeG b) (k - 1)) := rfl
            rw [hcs] at hr
            refine BR_ff (by rw [decide_eq_true h0]; rfl) ?_
            have hlen1 : T.z = (manL (b ++ (some (k - 1) :: bestG T r (b.length + 1) (less (freeG b) (k - 1))))).length := by unfold manL; simp [bestG_len]; omega
            have hlen2 : T.z = (manL (b ++ stG T r b.length (freeG b) (k - 1))).length := by unfold manL; simp [stG_len]; omega
            refine f_Many hr hlen1 (by omega) ?_
            try simp only [TUP_mk, AGG_mk, HD_mk, NL_mk, TYI_mk, TYB_mk, TYP_mk, TYL_mk, TYS_mk, TYM_mk, SO_mk, NX_mk, endK_mk, endK_mk', add_0]
            refine f_Many (g2.ext etv) (by rw [g1]; exact hlen2) (by omega) ?_
            try simp only [TUP_mk, AGG_mk, HD_mk, NL_mk, TYI_mk, TYB_mk, TYP_mk, TYL_mk, TYS_mk, TYM_mk, SO_mk, NX_mk, endK_mk, endK_mk', add_0]
            rw [cntG_man, cntG_man, many_app, many_app]
            have hs := stG_succ (r := r) hcan
            have ek : k + 1 - 1 = (k - 1) + 1 := by omega
            unfold J_ref13_most_0
            refine BR_dec (fun h2 => ?_) (fun h2 => ?_)
            · rw [if_pos (by omega)] at hs
              rw [← hnx]
              refine ⟨rfl, _, _, _, _, _, rfl, ⟨et.trans etv, k + 1, by omega, hw, (decide_eq_true (show 0 < k + 1 by omega)).symm, fun _ => ⟨rfl, ?_⟩⟩, ?_⟩
              · rw [ek, hs]; exact hr
              · rw [hw]; exact hms
            · rw [if_neg (by omega)] at hs
              rw [← hnx]
              refine ⟨rfl, _, _, _, _, _, rfl, ⟨et.trans etv, k + 1, by omega, hw, by rw [decide_eq_true h0, decide_eq_true (show 0 < k + 1 by omega)], fun _ => ⟨g1, ?_⟩⟩, ?_⟩
              · rw [ek, hs]; exact g2.ext etv
              · rw [hw]; exact hms
          · have hkz : k = 0 := by omega
            subst hkz
            have ho' := hk0 rfl
            subst ho'
            rw [freeG_none] at hr
            refine BR_tt rfl ?_
            unfold J_ref13_most_0
            refine BR_tt rfl ?_
            rw [← hnx]
            refine ⟨rfl, _, _, _, _, _, rfl, ⟨et.trans etv, 1, by omega, hw, rfl, fun _ => ⟨rfl, ?_⟩⟩, ?_⟩
            · rw [show 1 - 1 = 0 from rfl, stG_zero]; exact hr
            · rw [hw]; exact hms
        refine ⟨_, _, _, o1t, _, _, _, o2t, ?_⟩
        have rd : ∀ v, Ext t v → (RDL (Addr.add ⟨u.size, 0, none⟩ 0) fun x33 l34 c35 => RDL (Addr.add ⟨u.size, 0, none⟩ 1) fun x36 l37 c38 => fun _ => ((.agg #[(.slice x33 l34 c35), (.slice x36 l37 c38)]) : Value) = (.agg #[(.slice x T.n c), (.slice y T.z c')])) v := fun v ev => ⟨_, _, _, ev.cell o1t, _, _, _, ev.cell o2t, rfl⟩
        have hqt : ∀ v, Ext t v → RowAt v q (ints (manL b)) := fun v ev => hq.ext (eut.trans ev)
        have hmb : (ints (manL b)).length = b.length * 1 := by rw [ints_len, hml]; omega
        have fr0 : ∀ (v : Hp) (B lo : Nat), lo ≤ B → Fr lo v (some ⟨B, 0, none⟩) 0 0 1 [] := fun v B lo hB => ⟨⟨Nat.le_refl _, fun i hi => by omega⟩, rfl, fun a ha => by cases ha; exact hB, by omega⟩
        have rown : ∀ (v : Hp) (B : Nat), cellAt v ⟨B, 0, none⟩ = some (.int .i64 ((k : Int) - 1)) → RowAt v (some ⟨B, 0, none⟩) [.int .i64 ((k : Int) - 1)] := fun v B hc i hi => by
          have hi0 : i = 0 := by simp at hi; omega
          subst hi0
          exact ⟨_, rfl, hc⟩
        have last : ∀ v w cw, Fr t.size v w (0 + b.length + 1) cw 1 ([] ++ ints (manL b) ++ [.int .i64 ((k : Int) - 1)]) → RowAt v w (ints (manL (b ++ [o]))) := fun v w cw f => by
          rw [hbo, ints_app]
          have := f.row
          rw [List.nil_append] at this
          exact this
        have hz0 : 0 + b.length + 1 = b.length + 1 := by omega
        refine CONJ_two ?_ ?_
        · refine NEW_rule fun t1 f1 y1 n1 _ => ?_
          refine ANDS_i (rd t1 f1) ?_
          refine CONJ_two ?_ ?_
          · refine APP_fr (lo := t.size) (fr0 t1 _ _ (Nat.le_refl _)) f1.1 (ws := ints (manL b)) (hqt t1 f1) hmb zc_3 rfl (by omega) (ints_one _) (by omega) fun t2 x2 c2 k2 hx2 g2 => ?_
            have f2 : Ext t t2 := kp_nil f1 (fun b hb => by obtain ⟨a, ha, rfl⟩ := hb; cases ha; exact Nat.le_refl _) k2
            refine ANDS_i (rd t2 f2) ?_
            refine ne1 fun t3 f3 y3 n3 => ?_
            have f03 := f2.trans f3
            refine ANDS_i (rd t3 f03) ?_
            refine APP_fr (lo := t.size) (g2.ext f3) f03.1 (ws := [.int .i64 ((k : Int) - 1)]) (rown t3 _ n3.cell) rfl zc_3 rfl (by omega) (by simp [oneCell]) (by omega) fun t4 x4 c4 k4 hx4 g4 => ?_
            have f4 : Ext t t4 := kp_nil f03 (fun b hb => by obtain ⟨a, ha, rfl⟩ := hb; exact g2.fr a ha) k4
            refine ANDS_i (rd t4 f4) ?_
            rw [hz0]
            exact fin t4 x4 c4 f4 (last _ _ _ g4)
          · refine ne1 fun t2 f2 y2 n2 => ?_
            have f02 := f1.trans f2
            refine ANDS_i (rd t2 f02) ?_
            refine APP_fr (lo := t.size) (fr0 t2 _ _ (Nat.le_refl _)) f02.1 (ws := ints (manL b)) (hqt t2 f02) hmb zc_3 rfl (by omega) (ints_one _) (by omega) fun t3 x3 c3 k3 hx3 g3 => ?_
            have f3 : Ext t t3 := kp_nil f02 (fun b hb => by obtain ⟨a, ha, rfl⟩ := hb; cases ha; exact Nat.le_refl _) k3
            have n3 : Own t3 ⟨t1.size, 0, none⟩ (.int .i64 ((k : Int) - 1)) := k3.own (fun hb => by obtain ⟨a, ha, hb⟩ := hb; cases ha; have hb' : t.size = t1.size := hb; omega) n2
            refine ANDS_i (rd t3 f3) ?_
            refine APP_fr (lo := t.size) g3 f3.1 (ws := [.int .i64 ((k : Int) - 1)]) (rown t3 _ n3.cell) rfl zc_3 rfl (by omega) (by simp [oneCell]) (by omega) fun t4 x4 c4 k4 hx4 g4 => ?_
            have f4 : Ext t t4 := kp_nil f3 (fun b hb => by obtain ⟨a, ha, rfl⟩ := hb; exact g3.fr a ha) k4
            refine ANDS_i (rd t4 f4) ?_
            rw [hz0]
            exact fin t4 x4 c4 f4 (last _ _ _ g4)
        · refine ne1 fun t1 f1 y1 n1 => ?_
          refine ANDS_i (rd t1 f1) ?_
          refine NEW_rule fun t2 f2 y2 _ _ => ?_
          have f02 := f1.trans f2
          refine ANDS_i (rd t2 f02) ?_
          refine APP_fr (lo := t.size) (fr0 t2 _ _ f1.1) f02.1 (ws := ints (manL b)) (hqt t2 f02) hmb zc_3 rfl (by omega) (ints_one _) (by omega) fun t3 x3 c3 k3 hx3 g3 => ?_
          have f3 : Ext t t3 := kp_nil f02 (fun b hb => by obtain ⟨a, ha, rfl⟩ := hb; cases ha; exact f1.1) k3
          have n3 : Own t3 ⟨t.size, 0, none⟩ (.int .i64 ((k : Int) - 1)) := k3.own (fun hb => by obtain ⟨a, ha, hb⟩ := hb; cases ha; have hb' : t1.size = t.size := hb; omega) (f2.own n1)
          refine ANDS_i (rd t3 f3) ?_
          refine APP_fr (lo := t.size) g3 f3.1 (ws := [.int .i64 ((k : Int) - 1)]) (rown t3 _ n3.cell) rfl zc_3 rfl (by omega) (by simp [oneCell]) (by omega) fun t4 x4 c4 k4 hx4 g4 => ?_
          have f4 : Ext t t4 := kp_nil f3 (fun b hb => by obtain ⟨a, ha, rfl⟩ := hb; exact g3.fr a ha) k4
          refine ANDS_i (rd t4 f4) ?_
          rw [hz0]
          exact fin t4 x4 c4 f4 (last _ _ _ g4)
      refine BR_dec (fun h2 => ?_) (fun h2 => ?_)
      · have h0 : 0 < k := by omega
        obtain ⟨j, rfl⟩ : ∃ j, k = j + 1 := ⟨k - 1, by omega⟩
        have ej : ((j + 1 : Nat) : Int) - 1 = (j : Nat) := by omega
        have ej2 : j + 1 - 1 = j := rfl
        rw [ej2] at skip try1
        rw [ej] at skip try1 ⊢
        refine f_has (hq.ext eut) hml.symm (by omega) ?_
        try simp only [TUP_mk, AGG_mk, HD_mk, NL_mk, TYI_mk, TYB_mk, TYP_mk, TYL_mk, TYS_mk, TYM_mk, SO_mk, NX_mk, endK_mk, endK_mk', add_0]
        refine BR_bool (fun h3 => ?_) (fun h3 => ?_)
        · have hm := man_mem_iff.1 (of_decide_eq_true h3)
          refine skip h0 ?_ _ (Ext.refl _)
          have : freeG b j = false := by unfold freeG tkF; rw [decide_eq_true hm]; rfl
          rw [this]; rfl
        · have hm : ¬ some j ∈ b := fun hm => (of_decide_eq_false h3) (man_mem_iff.2 hm)
          have hf : freeG b j = true := by unfold freeG tkF; rw [decide_eq_false hm]; rfl
          refine ⟨_, _, _, o1t, _, _, _, o2t, ?_⟩
          refine f_can (hx.ext est) (hy.ext est) (by omega) hbz fun t1 f1 => ?_
          try simp only [TUP_mk, AGG_mk, HD_mk, NL_mk, TYI_mk, TYB_mk, TYP_mk, TYL_mk, TYS_mk, TYM_mk, SO_mk, NX_mk, endK_mk, endK_mk', add_0]
          cases hcan : canP T j b.length with
          | true => exact try1 (some j) rfl (fun hh => by omega) (fun _ => ⟨rfl, by rw [hf, hcan]; rfl⟩) t1 f1
          | false => exact skip h0 (by rw [hf, hcan]; rfl) t1 f1
      · have h0 : k = 0 := by omega
        subst h0
        exact try1 none rfl (fun _ => rfl) (fun hh => by omega) _ (Ext.refl _)
    · have hkn : k = T.n + 1 := by omega
      subst hkn
      obtain ⟨g1, g2⟩ := hres (by omega)
      subst g1
      have := h t x14 c16 eut (by
        have e : T.n + 1 - 1 = T.n := by omega
        rw [e, stG_full] at g2
        exact g2)
      exact this
theorem f_Most {x y : Option Addr} {c c' : Nat} (hx : MnAt s x T.men) (hy : PzAt s y T.list) (h : ∀ s' q cq, Ext s s' → RowAt s' q (ints (mostR T).2.1) → K (.tuple #[.int .i64 (mostR T).1, .slice q (mostR T).2.1.length cq, .int .i64 (mostR T).2.2]) s') :
    CALL Pg W F_ref13_Most [.agg #[.slice x T.n c, .slice y T.z c']] K E s := by
  refine does_ref13_Most W x T.n c y T.z c' _ s ?_
  unfold T_ref13_Most
  refine ne2 fun s1 e1 z1 o1 o2 => ?_
  refine ⟨_, _, _, o1.cell, _, _, _, o2.cell, ?_⟩
  refine f_check (hx.ext e1) (hy.ext e1) fun s2 e2 => ?_
  try simp only [TUP_mk, AGG_mk, HD_mk, NL_mk, TYI_mk, TYB_mk, TYP_mk, TYL_mk, TYS_mk, TYM_mk, SO_mk, NX_mk, endK_mk, endK_mk', add_0]
  have e02 := e1.trans e2
  cases hok : okP T with
  | false =>
    refine BR_ne (fun _ => ?_) (fun h3 => by cases h3)
    have := h s2 none 0 e02
    unfold mostR at this
    rw [hok] at this
    exact this (fun i hi => by simp [ints] at hi)
  | true =>
    have hv := okP_vd hok
    have h6 := hv.z6
    refine BR_ne (fun h3 => absurd rfl h3) (fun _ => ?_)
    refine ⟨_, _, _, e2.cell o1.cell, _, _, _, e2.cell o2.cell, ?_⟩
    refine f_most (b := []) hok (hx.ext e02) (hy.ext e02) T.z s2 none 0 _ _ (by simp) (Ext.refl _) (fun i hi => by simp [ints, manL] at hi) fun s3 w cw e3 hr => ?_
    try simp only [TUP_mk, AGG_mk, HD_mk, NL_mk, TYI_mk, TYB_mk, TYP_mk, TYL_mk, TYS_mk, TYM_mk, SO_mk, NX_mk, endK_mk, endK_mk', add_0]
    rw [freeG_nil, List.nil_append] at hr
    have hlen : T.z = (manL (bestG T T.z 0 allF)).length := by unfold manL; simp [bestG_len]
    have hr' : RowAt s3 w (ints (manL (bestG T T.z 0 allF))) := hr
    refine f_Many hr' hlen (by omega) ?_
    try simp only [TUP_mk, AGG_mk, HD_mk, NL_mk, TYI_mk, TYB_mk, TYP_mk, TYL_mk, TYS_mk, TYM_mk, SO_mk, NX_mk, endK_mk, endK_mk', add_0]
    rw [cntG_man, bestG_many]
    have := h s3 w cw (e02.trans e3)
    unfold mostR at this
    rw [if_pos hok] at this
    have := this hr'
    rw [← hlen] at this
    exact this
end
end Go.Proofs.Ytfaeokcbfnlgbaa.G

/- Prize: the document's power, Without, and due without anybody. -/
set_option linter.unusedSimpArgs false
set_option linter.unusedVariables false
set_option maxRecDepth 20000
namespace Go.Proofs.Ytfaeokcbfnlgbaa.G
open Go.V
def wL (T : PT) (m k : Nat) : List Mn := ((T.men.take k).eraseIdx m).map (decP (T.man m).place)
theorem wL_full (T : PT) (m : Nat) : wL T m T.n = (withoutP T m).men := by unfold wL withoutP PT.n; rw [List.take_length]
theorem wL_succ {T : PT} {m k : Nat} (h : k < T.n) : wL T m (k + 1) = if k = m then wL T m k else wL T m k ++ [decP (T.man m).place (T.man k)] := by
  unfold wL
  have hk : T.men.take (k + 1) = T.men.take k ++ [T.man k] := by
    rw [List.take_add_one, List.getElem?_eq_getElem h]
    unfold PT.man
    rw [getD_lt h]; rfl
  have hl : (T.men.take k).length = k := by rw [List.length_take]; exact Nat.min_eq_left (Nat.le_of_lt h)
  rw [hk]
  by_cases e : k = m
  · subst e
    rw [if_pos rfl, List.eraseIdx_append_of_length_le (by omega), hl, Nat.sub_self, List.eraseIdx_of_length_le (l := T.men.take k) (by omega)]
    simp
  · rw [if_neg e]
    by_cases e2 : k < m
    · rw [List.eraseIdx_of_length_le (l := T.men.take k ++ [T.man k]) (by rw [List.length_append, hl]; show k + 1 ≤ m; omega), List.eraseIdx_of_length_le (l := T.men.take k) (by omega), List.map_append]; rfl
    · rw [List.eraseIdx_append_of_lt_length (by omega), List.map_append]; rfl
theorem mnV_app (a : List Mn) (w : Mn) : mnV (a ++ [w]) = mnV a ++ mn4 w := by unfold mnV; rw [List.flatMap_append]; simp
section
variable {W : World} {K : VK} {E : List PanicEntry → Hp → Prop} {s : Hp} {T : PT}
theorem f_power {n : Nat} (h8 : n ≤ 8) (h : K (.int .i64 ((2 ^ n : Nat) : Int)) s) : CALL Pg W F_ref13_power [.int .i64 (n : Nat)] K E s := by
  refine does_ref13_power W n _ s ?_
  unfold T_ref13_power
  refine L_ref13_power_0_rule W _ n (fun n2 n3 t => t = s ∧ ∃ k : Nat, k ≤ n ∧ n3 = k ∧ n2 = ((2 ^ k : Nat) : Int)) (fun _ n3 _ => ((n : Int) - n3).toNat) 1 0 s ⟨rfl, 0, by omega, rfl, rfl⟩ ?_
  rintro n2 n3 t ⟨rfl, k, hk, rfl, rfl⟩
  unfold B_ref13_power_0
  refine BR_dec (fun h1 => ?_) (fun h1 => ?_)
  · have hkn : k < n := by omega
    have hp : (2 : Nat) ^ (k + 1) ≤ 2 ^ 8 := Nat.pow_le_pow_right (by omega) (by omega)
    have hp2 : (2 : Nat) ^ (k + 1) = 2 * 2 ^ k := by rw [Nat.pow_succ]; omega
    refine ⟨rfl, _, _, rfl, ⟨rfl, k + 1, hkn, wrap_succ (by omega), ?_⟩, ms_succ hkn (by omega)⟩
    rw [wrap_i64 (by omega) (by omega), hp2]
    omega
  · have hkn : k = n := by omega
    subst hkn
    exact h
theorem f_Without {x y : Option Addr} {c c' m : Nat} (hv : VdP T) (hm : m < T.n) (hx : MnAt s x T.men) (hy : PzAt s y T.list) (h : ∀ s' q cq, Ext s s' → Fr s.size s' q (withoutP T m).n cq 4 (mnV (withoutP T m).men) → K (.agg #[.slice q (withoutP T m).n cq, .slice y T.z c']) s') :
    CALL Pg W F_ref13_Without [.agg #[.slice x T.n c, .slice y T.z c'], .int .i64 (m : Nat)] K E s := by
  have h8 := hv.n8
  refine does_ref13_Without W x T.n c y T.z c' m _ s ?_
  unfold T_ref13_Without
  refine ne2 fun s1 e1 z1 o1 o2 => ?_
  refine nz2 zc_25 fun s2 e2 z2 q1 q2 => ?_
  refine ⟨_, _, _, e2.cell o1.cell, _, _, _, e2.cell o2.cell, ?_⟩
  refine nw2 zc_25 rfl rfl fun s3 e3 z3 p1 p2 => ?_
  refine WR_own p1 rfl ?_
  have p1w := own_set (v := .slice none 0 0) p1
  have p2w : Own (setC s3 ⟨s2.size, 0, none⟩ (.slice none 0 0)) ⟨s2.size, 1, none⟩ (.slice y T.z c') := own_set_ne (.inr (by show (1 : Nat) ≠ 0; omega)) p2
  have e24 : Ext s2 (setC s3 ⟨s2.size, 0, none⟩ (.slice none 0 0)) := Ext.setC e3 (Nat.le_refl _)
  have hsz4 : s2.size + 1 ≤ (setC s3 ⟨s2.size, 0, none⟩ (.slice none 0 0)).size := by rw [setC_size]; omega
  refine L_ref13_Without_0_rule W _ m ⟨s.size, 0, none⟩ ⟨s1.size, 0, none⟩ ⟨s2.size, 0, none⟩
    (fun n17 t => Ext s2 t ∧ Own t ⟨s2.size, 1, none⟩ (.slice y T.z c') ∧ s2.size + 1 ≤ t.size ∧ ∃ k : Nat, k ≤ T.n ∧ n17 = k ∧ ∃ xo lo co, Own t ⟨s2.size, 0, none⟩ (.slice xo lo co) ∧ Fr (s2.size + 1) t xo lo co 4 (mnV (wL T m k)))
    (fun n17 _ => ((T.n : Int) - n17).toNat) 0 _ ⟨e24, p2w, hsz4, 0, by omega, rfl, none, 0, 0, p1w, Fr.nil _ _ _⟩ ?_
  rintro n17 t ⟨et, p2, hsz, k, hk, rfl, xo, lo, co, p1, hfr⟩
  unfold B_ref13_Without_0
  have e1t := e2.trans et
  have e0t := e1.trans e1t
  refine ⟨_, _, _, e1t.cell o1.cell, ?_⟩
  refine BR_dec (fun h1 => ?_) (fun h1 => ?_)
  · have hkn : k < T.n := by omega
    have hws := wL_succ (m := m) hkn
    have hwl : (wL T m k).length = lo := by
      have := hfr.len
      rw [mnV_len] at this; omega
    have hwk : (wL T m k).length ≤ k := by
      unfold wL
      rw [List.length_map]
      exact Nat.le_trans (List.length_eraseIdx_le _ _) (by rw [List.length_take]; omega)
    refine BR_eq (fun h2 => ?_) (fun h2 => ?_)
    · have hkm : k = m := by omega
      unfold J_ref13_Without_0
      refine ⟨rfl, _, rfl, ⟨et, p2, hsz, k + 1, hkn, wrap_succ (by omega), xo, lo, co, p1, ?_⟩, ms_succ hkn (by omega)⟩
      rw [hws, if_pos hkm]; exact hfr
    · have hkm : ¬ k = m := fun e => h2 (by rw [e])
      rw [if_neg hkm] at hws
      obtain ⟨ax, w0, w1, w2, w3, w4⟩ := man_row (hx.ext e0t) hkn
      refine ⟨_, _, _, e1t.cell o1.cell, ?_⟩
      refine IXS_at w0 hkn ?_
      refine ⟨_, w1, _, w2, _, w3, _, w4, ?_⟩
      refine nw4 zc_48 rfl rfl rfl rfl fun t2 f2 y2 r1 r2 r3 r4 => ?_
      refine ⟨_, r1.cell, ?_⟩
      refine ⟨_, _, _, (e1t.trans f2).cell o1.cell, ?_⟩
      obtain ⟨am, v0, v1, _⟩ := man_row (hx.ext (e0t.trans f2)) hm
      refine IXS_at v0 hm ?_
      refine ⟨_, v1, ?_⟩
      have J1 : ∀ (t3 : Hp) (w : Mn), w = decP (T.man m).place (T.man k) → Ext t t3 → Own t3 ⟨t.size, 0, none⟩ (.int .i64 w.place) → Own t3 ⟨t.size, 1, none⟩ (.int .i64 w.club) → Own t3 ⟨t.size, 2, none⟩ (.bool w.nov) → Own t3 ⟨t.size, 3, none⟩ (.bool w.hor) →
          J_ref13_Without_1 W (endK K E) ⟨s2.size, 0, none⟩ t.size m ⟨s.size, 0, none⟩ ⟨s1.size, 0, none⟩ (fun vs => N_ref13_Without_0 (fun n17 t => Ext s2 t ∧ Own t ⟨s2.size, 1, none⟩ (.slice y T.z c') ∧ s2.size + 1 ≤ t.size ∧ ∃ k : Nat, k ≤ T.n ∧ n17 = k ∧ ∃ xo lo co, Own t ⟨s2.size, 0, none⟩ (.slice xo lo co) ∧ Fr (s2.size + 1) t xo lo co 4 (mnV (wL T m k))) (fun n17 _ => ((T.n : Int) - n17).toNat) k t vs) k t3 := by
        intro t3 w hw f3 r1 r2 r3 r4
        unfold J_ref13_Without_1
        have p1' := f3.own p1
        refine ⟨_, _, _, p1'.cell, _, r1.cell, _, r2.cell, _, r3.cell, _, r4.cell, ?_⟩
        refine NEW_rule fun t4 f4 y4 n4 _ => ?_
        have f04 := f3.trans f4
        refine APP_fr (lo := s2.size + 1) (hfr.ext f04) (Nat.le_trans hsz f04.1) (ws := mn4 w) (row_new (vs := mn4 w) n4) rfl zc_48 rfl (by omega) (by simp [mn4, oneCell]) (by omega) fun t5 x5 c5 k5 hx5 g5 => ?_
        have f5 : Ext s2 t5 := kp_nil (et.trans f04) (fun b hb => by obtain ⟨a, ha, rfl⟩ := hb; have := hfr.fr a ha; omega) k5
        have hnb : ∀ a, xo = some a → ¬ a.block = s2.size := fun a ha hb => by have := hfr.fr a ha; omega
        have p1x : Own t5 ⟨s2.size, 0, none⟩ (.slice xo lo co) := k5.own (fun hb => by obtain ⟨a, ha, hb⟩ := hb; exact hnb a ha hb) (f4.own p1')
        have p2x : Own t5 ⟨s2.size, 1, none⟩ (.slice y T.z c') := k5.own (fun hb => by obtain ⟨a, ha, hb⟩ := hb; exact hnb a ha hb) (f04.own p2)
        refine WR_own p1x rfl ?_
        unfold J_ref13_Without_0
        have hsz5 : s2.size + 1 ≤ t5.size := Nat.le_trans hsz (Nat.le_trans f04.1 k5.1)
        refine ⟨rfl, _, rfl, ⟨Ext.setC f5 (Nat.le_refl _), own_set_ne (.inr (by show (1 : Nat) ≠ 0; omega)) p2x, by rw [setC_size]; exact hsz5, k + 1, hkn, wrap_succ (by omega), x5, lo + 1, c5, own_set p1x, ?_⟩, ms_succ hkn (by omega)⟩
        rw [hws, mnV_app, ← hw]
        exact g5.kp (D := (· = s2.size)) (Kp.setC (Kp.refl _) (.inl rfl)) fun a ha hb => by have := g5.fr a ha; have hb' : a.block = s2.size := hb; omega
      refine BR_dec (fun h3 => ?_) (fun h3 => ?_)
      · refine ⟨_, r1.cell, ?_⟩
        have hp1 := hv.pl k hkn
        have hp2 := hv.pl m hm
        refine (fun hh => by rw [wrap_i64 (by omega) (by omega)]; exact hh : WR _ (.int .i64 ((T.man k).place - 1)) _ _ → WR _ (.int .i64 (IntKind.i64.wrap ((T.man k).place - 1))) _ _) ?_
        refine WR_own r1 rfl ?_
        refine J1 _ { T.man k with place := (T.man k).place - 1 } ?_ (Ext.setC f2 (Nat.le_refl _)) (own_set r1) (own_set_ne (.inr (by show (1 : Nat) ≠ 0; omega)) r2) (own_set_ne (.inr (by show (2 : Nat) ≠ 0; omega)) r3) (own_set_ne (.inr (by show (3 : Nat) ≠ 0; omega)) r4)
        unfold decP
        rw [if_pos h3]
      · refine J1 t2 (T.man k) ?_ f2 r1 r2 r3 r4
        unfold decP
        rw [if_neg h3]
  · have hkn : k = T.n := by omega
    subst hkn
    rw [wL_full] at hfr
    have hlo : lo = (withoutP T m).n := by
      have := hfr.len
      rw [mnV_len] at this
      show lo = (withoutP T m).men.length
      omega
    subst hlo
    refine ⟨_, _, _, p1.cell, _, _, _, p2.cell, ?_⟩
    refine wr2 (a := ⟨s1.size, 0, none⟩) rfl rfl (fun j hj => ?_) fun t2 k2 z2 r0 r1 => ?_
    · match j, hj with
      | 0, _ => exact ⟨_, et.own q1⟩
      | 1, _ => exact ⟨_, et.own q2⟩
    · refine ⟨_, _, _, r0.cell, _, _, _, r1.cell, ?_⟩
      have hs := e1.1
      refine h t2 xo co (ext_kp e0t hs k2) ?_
      exact (hfr.le (by have := e2.1; omega)).kp k2 fun a ha hb => by have := hfr.fr a ha; have hb' : a.block = s1.size := hb; omega
theorem f_due_0 {x y : Option Addr} {c c' : Nat} (h0 : T.n = 0) (h6 : T.z ≤ 6) (hy : PzAt s y T.list) (h : ∀ s' q cq, Ext s s' → Fr s.size s' q T.z cq 1 (ints (List.replicate T.z (-1))) → K (.slice q T.z cq) s') : CALL Pg W F_ref13_due [.agg #[.slice x T.n c, .slice y T.z c']] K E s := by
  refine does_ref13_due W x T.n c y T.z c' _ s ?_
  unfold T_ref13_due
  refine ne2 fun s1 e1 z1 o1 o2 => ?_
  refine L_ref13_due_0_rule W _ ⟨s.size, 0, none⟩ (fun x l c n t => Ext s1 t ∧ ∃ k : Nat, k ≤ T.z ∧ n = k ∧ Fr s1.size t x l c 1 (ints (List.replicate k (-1)))) (fun _ _ _ n _ => (T.z - n).toNat) none 0 0 0 s1 ⟨Ext.refl _, 0, by omega, rfl, Fr.nil _ _ _⟩ ?_
  rintro qx ql qc n t ⟨et, k, hk, rfl, hfr⟩
  have hlen : ql = k := by have := hfr.len; rw [ints_len, List.length_replicate] at this; omega
  unfold B_ref13_due_0
  refine ⟨_, _, _, et.cell o2.cell, ?_⟩
  generalize hnx : (fun vs : List Value => _) = nx
  refine BR_dec (fun h1 => ?_) (fun h1 => ?_)
  · have hkz : k < T.z := by omega
    refine L_ref13_due_1_rule W _ nx ⟨s.size, 0, none⟩ qx ql qc k (fun w i t' => t' = t ∧ w = -1 ∧ i = 1) (fun _ _ _ => 0) (-1) 1 t ⟨rfl, rfl, rfl⟩ ?_
    rintro w i t' ⟨rfl, rfl, rfl⟩
    unfold B_ref13_due_1
    refine ⟨_, _, _, et.cell o1.cell, ?_⟩
    refine BR_dec (fun h2 => absurd h2 (by omega)) (fun h2 => ?_)
    unfold J_ref13_due_4
    refine BR_ff rfl ?_
    refine ne1 fun t3 e3' z3' q3 => ?_
    have et3 := et.trans e3'
    refine APP_fr (lo := s1.size) (hfr.ext e3') et3.1 (ws := [.int .i64 (-1)]) (fun i hi => ⟨⟨t'.size, 0, none⟩, rfl, ?_⟩) rfl zc_3 rfl (by omega) (by simp [oneCell]) (by omega) fun t4 x4 c4 k4 hx4 g4 => ?_
    · have hi0 : i = 0 := by simp at hi; omega
      subst hi0; exact q3.cell
    have e4 : Ext s1 t4 := kp_nil et3 (fun b hb => by obtain ⟨y, hy, rfl⟩ := hb; exact hfr.fr y hy) k4
    rw [← hnx]
    refine ⟨rfl, _, _, _, _, rfl, ⟨e4, k + 1, hkz, wrap_succ (by omega), ?_⟩, ms_succ hkz (by omega)⟩
    have e : List.replicate (k + 1) (-1 : Int) = List.replicate k (-1) ++ [-1] := List.replicate_succ'
    rw [e, ints_app]
    exact g4
  · have hkz : k = T.z := by omega
    subst hkz
    subst hlen
    exact h t qx qc (e1.trans et) (hfr.le e1.1)
end
end Go.Proofs.Ytfaeokcbfnlgbaa.G

/- Prize: the document's Stay. -/
set_option linter.unusedSimpArgs false
set_option linter.unusedVariables false
set_option maxRecDepth 20000
namespace Go.Proofs.Ytfaeokcbfnlgbaa.G
open Go.V
section
variable {W : World} {K : VK} {E : List PanicEntry → Hp → Prop} {s : Hp} {T : PT}
theorem f_worthsL {x y q : Option Addr} {c c' cq l : Nat} {ds : List Int} (hll : l = ds.length) (hx : MnAt s x T.men) (hy : PzAt s y T.list) (h8 : T.n ≤ 8) (h6 : T.z ≤ 6) (hl : ds.length = T.z) (hd : ∀ d ∈ ds, d = -1 ∨ (0 ≤ d ∧ d < T.n)) (hq : RowAt s q (ints ds)) (h : ∀ s' w c', Ext s s' → Fr s.size s' w T.n c' 1 (ints (worP T ds)) → K (.slice w T.n c') s') :
    CALL Pg W F_ref13_worths [.agg #[.slice x T.n c, .slice y T.z c'], .slice q l cq] K E s := by
  subst hll
  exact f_worthsG hx hy h8 h6 hl hd hq h
theorem f_Stay {x y : Option Addr} {c c' : Nat} {m : Int} (h4 : T.n ≤ 100000) (hx : MnAt s x T.men) (hy : PzAt s y T.list) (h : ∀ s', Ext s s' → K (.tuple #[.int .i64 (stayR T m).1, .int .i64 (stayR T m).2]) s') :
    CALL Pg W F_ref13_Stay [.agg #[.slice x T.n c, .slice y T.z c'], .int .i64 m] K E s := by
  refine does_ref13_Stay W x T.n c y T.z c' m _ s ?_
  unfold T_ref13_Stay
  refine ne2 fun s1 e1 z1 o1 o2 => ?_
  have rd : ∀ v, Ext s1 v → (RDL (Addr.add ⟨s.size, 0, none⟩ 0) fun x33 l34 c35 => RDL (Addr.add ⟨s.size, 0, none⟩ 1) fun x36 l37 c38 => fun _ => ((.agg #[(.slice x33 l34 c35), (.slice x36 l37 c38)]) : Value) = (.agg #[(.slice x T.n c), (.slice y T.z c')])) v := fun v ev => ⟨_, _, _, ev.cell o1.cell, _, _, _, ev.cell o2.cell, rfl⟩
  refine ⟨_, _, _, o1.cell, _, _, _, o2.cell, _, _, _, o1.cell, _, _, _, o2.cell, ?_⟩
  refine f_Man h4 fun s2 e2 => ?_
  try simp only [TUP_mk, AGG_mk, HD_mk, NL_mk, TYI_mk, TYB_mk, TYP_mk, TYL_mk, TYS_mk, TYM_mk, SO_mk, NX_mk, endK_mk, endK_mk', add_0]
  refine ANDS_i (rd s2 e2) ?_
  have e02 := e1.trans e2
  refine f_check (hx.ext e02) (hy.ext e02) fun s3 e3 => ?_
  try simp only [TUP_mk, AGG_mk, HD_mk, NL_mk, TYI_mk, TYB_mk, TYP_mk, TYL_mk, TYS_mk, TYM_mk, SO_mk, NX_mk, endK_mk, endK_mk', add_0]
  have e13 := e2.trans e3
  have e03 := e1.trans e13
  have hdec : decide (0 ≤ m ∧ m < T.n) = isM T m := rfl
  rw [hdec]
  cases hok : okP T with
  | false =>
    refine BR_ne (fun _ => ?_) (fun h3 => by cases h3)
    have := h s3 e03
    unfold stayR at this
    rw [hok] at this
    exact this
  | true =>
    cases hM : isM T m with
    | false =>
      refine BR_ne (fun _ => ?_) (fun h3 => by cases h3)
      have := h s3 e03
      unfold stayR at this
      rw [if_pos hok, hM] at this
      exact this
    | true =>
      refine BR_ne (fun h3 => absurd rfl h3) (fun _ => ?_)
      have hv := okP_vd hok
      have h8 := hv.n8
      have h6 := hv.z6
      have hm' := of_decide_eq_true hM
      obtain ⟨j, rfl⟩ := Int.eq_ofNat_of_zero_le hm'.1
      have hj : j < T.n := by omega
      have hR : stayR T (j : Int) = if T.n = 1 then (0, 0) else (((setK (gainB T j) T.n : Nat) : Int), 0) := by unfold stayR; rw [if_pos hok, if_pos hM, toNat_nat]
      rw [hR] at h
      have hWn := without_n hj
      refine ⟨_, _, _, e13.cell o1.cell, _, _, _, e13.cell o2.cell, ?_⟩
      refine f_Without hv hj (hx.ext e03) (hy.ext e03) fun s4 q cq e4 f4 => ?_
      try simp only [TUP_mk, AGG_mk, HD_mk, NL_mk, TYI_mk, TYB_mk, TYP_mk, TYL_mk, TYS_mk, TYM_mk, SO_mk, NX_mk, endK_mk, endK_mk', add_0]
      have e14 := e13.trans e4
      refine nw2 zc_25 rfl rfl fun s5 e5 z5 p1 p2 => ?_
      have e15 := e14.trans e5
      have e05 := e1.trans e15
      have rd5 : ∀ v, Ext s5 v → (RDL (Addr.add ⟨s4.size, 0, none⟩ 0) fun x33 l34 c35 => RDL (Addr.add ⟨s4.size, 0, none⟩ 1) fun x36 l37 c38 => fun _ => ((.agg #[(.slice x33 l34 c35), (.slice x36 l37 c38)]) : Value) = (.agg #[(.slice q (withoutP T j).n cq), (.slice y T.z c')])) v := fun v ev => ⟨_, _, _, ev.cell p1.cell, _, _, _, ev.cell p2.cell, rfl⟩
      refine ⟨_, _, _, e15.cell o1.cell, ?_⟩
      refine ⟨_, _, _, e15.cell o2.cell, ?_⟩
      refine ⟨_, _, _, e15.cell o1.cell, ?_⟩
      refine ⟨_, _, _, e15.cell o2.cell, ?_⟩
      refine ⟨_, _, _, p1.cell, ?_⟩
      refine ⟨_, _, _, p2.cell, ?_⟩
      refine ⟨_, _, _, p1.cell, ?_⟩
      refine ⟨_, _, _, p2.cell, ?_⟩
      refine f_due hok (hx.ext e05) (hy.ext e05) fun s6 d cd e6 f6 => ?_
      try simp only [TUP_mk, AGG_mk, HD_mk, NL_mk, TYI_mk, TYB_mk, TYP_mk, TYL_mk, TYS_mk, TYM_mk, SO_mk, NX_mk, endK_mk, endK_mk', add_0]
      refine ANDS_i (rd5 s6 e6) ?_
      refine ANDS_i (rd5 s6 e6) ?_
      refine ANDS_i (rd s6 (e15.trans e6)) ?_
      have e06 := e05.trans e6
      have hdl : (manL (dueP T)).length = T.z := by unfold manL dueP; simp [dueL_len]
      refine f_worthsL hdl.symm (hx.ext e06) (hy.ext e06) h8 h6 hdl (due_range hv T.z) f6.row fun s7 w cw e7 f7 => ?_
      try simp only [TUP_mk, AGG_mk, HD_mk, NL_mk, TYI_mk, TYB_mk, TYP_mk, TYL_mk, TYS_mk, TYM_mk, SO_mk, NX_mk, endK_mk, endK_mk', add_0]
      have e57 := e6.trans e7
      have e17 := e15.trans e57
      have e07 := e1.trans e17
      refine ANDS_i (rd5 s7 e57) ?_
      refine ANDS_i (rd5 s7 e57) ?_
      -- the last loop
      have key : ∀ (t : Hp) (w' : Option Addr) (cw' : Nat) (ws : List Int), Ext s7 t → ws.length = T.n - 1 → RowAt t w' (ints ws) → (2 ≤ T.n → ws = worP (withoutP T j) (manL (dueP (withoutP T j)))) →
          L_ref13_Stay_0 W (endK K E) j ⟨s.size, 0, none⟩ w T.n cw w' (withoutP T j).n cw' 0 0 0 t := by
        intro t w' cw' ws et hwl hrow hws
        have hwn : (worP T (manL (dueP T))).length = T.n := worP_len
        have e1t := e17.trans et
        have hBj : gainB T j j = false := by unfold gainB; simp
        refine L_ref13_Stay_0_rule W _ j ⟨s.size, 0, none⟩ w T.n cw w' (withoutP T j).n cw' (fun n133 n134 n135 u => Ext t u ∧ ∃ i : Nat, i ≤ T.n ∧ n135 = i ∧ n134 = ((if i ≤ j then i else i - 1 : Nat) : Int) ∧ n133 = (setK (gainB T j) i : Nat)) (fun _ _ n135 _ => ((T.n : Int) - n135).toNat) 0 0 0 t ⟨Ext.refl _, 0, by omega, rfl, by rw [if_pos (by omega)]; rfl, rfl⟩ ?_
        rintro n133 n134 n135 u ⟨eu, i, hi, rfl, rfl, rfl⟩
        unfold B_ref13_Stay_0
        refine ⟨_, _, _, (e1t.trans eu).cell o1.cell, ?_⟩
        refine BR_dec (fun h1 => ?_) (fun h1 => ?_)
        · have hin : i < T.n := by omega
          generalize hnx : (fun vs => N_ref13_Stay_0 _ _ _ _ _ u vs) = nx
          have hlt : setK (gainB T j) i < 2 ^ i := setK_lt _ i
          have hp : (2 : Nat) ^ i ≤ 2 ^ 8 := Nat.pow_le_pow_right (by omega) (by omega)
          refine BR_eq (fun h2 => ?_) (fun h2 => ?_)
          · have hij : i = j := by omega
            subst hij
            unfold J_ref13_Stay_0
            rw [← hnx]
            refine ⟨rfl, _, _, _, rfl, ⟨eu, i + 1, hin, wrap_succ (by omega), ?_, ?_⟩, ms_succ hin (by omega)⟩
            · rw [if_pos (Nat.le_refl _), if_neg (by omega)]; rfl
            · show _ = ((setK (gainB T i) i + (if gainB T i i then 2 ^ i else 0) : Nat) : Int)
              rw [hBj]; simp
          · have hij : ¬ i = j := fun e => h2 (by rw [e])
            have h2n : 2 ≤ T.n := by omega
            have hws' := hws h2n
            have hidx : (if i ≤ j then i else i - 1) = (if i > j then i - 1 else i) := by
              by_cases hl : i ≤ j
              · rw [if_pos hl, if_neg (by omega)]
              · rw [if_neg hl, if_pos (by omega)]
            have hkl : (if i ≤ j then i else i - 1) < ws.length := by rw [hwl]; split <;> omega
            obtain ⟨b1, hb1, g1⟩ := row_int (hrow.ext eu) hkl
            refine IXS_at hb1 (by rw [hWn]; omega) ?_
            refine ⟨_, g1, ?_⟩
            have hin' : i < (worP T (manL (dueP T))).length := by omega
            obtain ⟨b2, hb2, g2⟩ := row_int (f7.row.ext (et.trans eu)) hin'
            refine IXS_at hb2 hin ?_
            refine ⟨_, g2, ?_⟩
            have hgain : gainB T j i = decide (ws.getD (if i ≤ j then i else i - 1) 0 > (worP T (manL (dueP T))).getD i 0) := by
              rw [hws', hidx]
              unfold gainB
              rw [decide_eq_false hij]; rfl
            have hstep : ((if i + 1 ≤ j then i + 1 else i + 1 - 1 : Nat) : Int) = IntKind.i64.wrap (((if i ≤ j then i else i - 1 : Nat) : Int) + 1) := by
              by_cases hl : i ≤ j
              · rw [if_pos hl, if_pos (by omega), wrap_succ (by omega)]
              · rw [if_neg hl, if_neg (by omega), wrap_succ (by omega)]; omega
            refine BR_dec (fun h3 => ?_) (fun h3 => ?_)
            · rw [decide_eq_true h3] at hgain
              refine f_power (by omega) ?_
              try simp only [TUP_mk, AGG_mk, HD_mk, NL_mk, TYI_mk, TYB_mk, TYP_mk, TYL_mk, TYS_mk, TYM_mk, SO_mk, NX_mk, endK_mk, endK_mk', add_0]
              unfold J_ref13_Stay_1 J_ref13_Stay_0
              rw [← hnx]
              refine ⟨rfl, _, _, _, rfl, ⟨eu, i + 1, hin, wrap_succ (by omega), hstep.symm, ?_⟩, ms_succ hin (by omega)⟩
              show _ = ((setK (gainB T j) i + (if gainB T j i then 2 ^ i else 0) : Nat) : Int)
              rw [hgain, wrap_i64 (by omega) (by omega)]
              simp
            · rw [decide_eq_false h3] at hgain
              unfold J_ref13_Stay_1 J_ref13_Stay_0
              rw [← hnx]
              refine ⟨rfl, _, _, _, rfl, ⟨eu, i + 1, hin, wrap_succ (by omega), hstep.symm, ?_⟩, ms_succ hin (by omega)⟩
              show _ = ((setK (gainB T j) i + (if gainB T j i then 2 ^ i else 0) : Nat) : Int)
              rw [hgain]; simp
        · have hin : i = T.n := by omega
          subst hin
          have := h u (e07.trans (et.trans eu))
          by_cases h1n : T.n = 1
          · rw [if_pos h1n] at this
            have hz : setK (gainB T j) T.n = 0 := by
              have hj0 : j = 0 := by omega
              rw [h1n]
              show setK (gainB T j) 0 + (if gainB T j 0 then 2 ^ 0 else 0) = 0
              rw [hj0] at hBj ⊢
              rw [hBj]; rfl
            rw [hz]
            exact this
          · rw [if_neg h1n] at this
            exact this
      by_cases h2n : 2 ≤ T.n
      · have hokW := ok_without hok hj h2n
        have hvW := okP_vd hokW
        have e45 := e5.trans e57
        refine f_due (T := withoutP T j) hokW (row_mn (f4.row.ext e45)) (hy.ext e07) fun s8 d' cd' e8 f8 => ?_
        try simp only [TUP_mk, AGG_mk, HD_mk, NL_mk, TYI_mk, TYB_mk, TYP_mk, TYL_mk, TYS_mk, TYM_mk, SO_mk, NX_mk, endK_mk, endK_mk', add_0]
        refine ANDS_i (rd5 s8 (e57.trans e8)) ?_
        have hdl' : (manL (dueP (withoutP T j))).length = (withoutP T j).z := by unfold manL dueP; simp [dueL_len]
        refine f_worthsL (T := withoutP T j) hdl'.symm (row_mn (f4.row.ext (e45.trans e8))) (hy.ext (e07.trans e8)) hvW.n8 hvW.z6 hdl' (due_range hvW (withoutP T j).z) f8.row fun s9 w' cw' e9 f9 => ?_
        try simp only [TUP_mk, AGG_mk, HD_mk, NL_mk, TYI_mk, TYB_mk, TYP_mk, TYL_mk, TYS_mk, TYM_mk, SO_mk, NX_mk, endK_mk, endK_mk', add_0]
        exact key s9 w' cw' _ (e8.trans e9) (by rw [worP_len, hWn]) f9.row (fun _ => rfl)
      · have e45 := e5.trans e57
        have hWn0 : (withoutP T j).n = 0 := by omega
        refine f_due_0 (T := withoutP T j) hWn0 h6 (hy.ext e07) fun s8 d' cd' e8 f8 => ?_
        try simp only [TUP_mk, AGG_mk, HD_mk, NL_mk, TYI_mk, TYB_mk, TYP_mk, TYL_mk, TYS_mk, TYM_mk, SO_mk, NX_mk, endK_mk, endK_mk', add_0]
        refine ANDS_i (rd5 s8 (e57.trans e8)) ?_
        have hdl' : (List.replicate (withoutP T j).z (-1 : Int)).length = (withoutP T j).z := List.length_replicate
        refine f_worthsL (T := withoutP T j) hdl'.symm (row_mn (f4.row.ext (e45.trans e8))) (hy.ext (e07.trans e8)) (by omega) h6 hdl' (fun d hd => .inl (List.eq_of_mem_replicate hd)) f8.row fun s9 w' cw' e9 f9 => ?_
        try simp only [TUP_mk, AGG_mk, HD_mk, NL_mk, TYI_mk, TYB_mk, TYP_mk, TYL_mk, TYS_mk, TYM_mk, SO_mk, NX_mk, endK_mk, endK_mk', add_0]
        exact key s9 w' cw' _ (e8.trans e9) (by rw [worP_len, hWn]) f9.row (fun hh => absurd hh h2n)
end
end Go.Proofs.Ytfaeokcbfnlgbaa.G

/- More of the functions' shallow texts, by gen.py. -/
set_option linter.unusedVariables false
set_option maxRecDepth 100000
namespace Go.Proofs.Ytfaeokcbfnlgbaa.G
open Go.V
def an_9 : Nat → Ann := fun b => match b with
  | 0 => { ms := [4, 137], ks := [.b, .i .i64], us := [2, 5, 6, 8, 10, 16, 136, 200], rt := false, ex := [] }
  | 2 => { ms := [21, 168], ks := [.b, .i .i64], us := [4, 5, 6, 8, 166, 167, 200], rt := false, ex := [] }
  | 4 => { ms := [21, 181], ks := [.b, .i .i64], us := [4, 5, 6, 179, 180, 200], rt := false, ex := [] }
  | _ => {}
abbrev rv_9 : List ResultVar := [.tmp 4]
abbrev rs_9 : List Nat := [200, 4]
def L_law13_PrizeStay_0 (W : World) (R : Ending → Hp → Prop) (za0 : Addr) (zn1 : Int) (zn2 : Int) (zp3 : Option Addr) (zl4 : Nat) (zl5 : Nat) (zp6 : Option Addr) (zl7 : Nat) (zl8 : Nat) (zp9 : Option Addr) (zl10 : Nat) (zl11 : Nat) (zn12 : Int) (b169 : Bool) (n170 : Int) : Hp → Prop :=
  LOOPN [.b, .i .i64] (fun ys next s => ∀ j : Tm, vc Pg W 200 rs_9 an_9 false (sub (bodyOf Try.f9) [1, 1, 1, 1, 1, 1, 1, 1, 1, 1, 1, 1, 0, 1, 0, 0]) 0 (KLoop [4, 137] [2, 5, 6, 8, 10, 16, 136, 200] [(.pointer (some za0)), (.int .i64 zn1), (.int .i64 zn2), (.slice zp3 zl4 zl5), (.slice zp6 zl7 zl8), (.slice zp9 zl10 zl11), (.int .i64 zn12), (.tuple #[])] next (KBlk 0 (KS Pg W 200 rs_9 an_9 false (sub (bodyOf Try.f9) [1, 1, 1, 1, 1, 1, 1, 1, 1, 1, 1, 1, 1]) 0 (fin Pg W 200 rv_9 R)))) (known [4, 137] ys (known [2, 5, 6, 8, 10, 16, 136, 200] [(.pointer (some za0)), (.int .i64 zn1), (.int .i64 zn2), (.slice zp3 zl4 zl5), (.slice zp6 zl7 zl8), (.slice zp9 zl10 zl11), (.int .i64 zn12), (.tuple #[])] j)) s) [(.bool b169), (.int .i64 n170)]
def L_law13_PrizeStay_1 (W : World) (R : Ending → Hp → Prop) (zb0 : Bool) (zn1 : Int) (zn2 : Int) (zp3 : Option Addr) (zl4 : Nat) (zl5 : Nat) (zp6 : Option Addr) (zl7 : Nat) (zl8 : Nat) (zn9 : Int) (b180 : Bool) (n181 : Int) : Hp → Prop :=
  LOOPN [.b, .i .i64] (fun ys next s => ∀ j : Tm, vc Pg W 200 rs_9 an_9 false (sub (bodyOf Try.f9) [1, 1, 1, 1, 1, 1, 1, 1, 1, 1, 1, 1, 1, 1, 0, 1, 0, 0]) 2 (KLoop [21, 168] [4, 5, 6, 8, 166, 167, 200] [(.bool zb0), (.int .i64 zn1), (.int .i64 zn2), (.slice zp3 zl4 zl5), (.slice zp6 zl7 zl8), (.int .i64 zn9), (.tuple #[])] next (KBlk 2 (KS Pg W 200 rs_9 an_9 false (sub (bodyOf Try.f9) [1, 1, 1, 1, 1, 1, 1, 1, 1, 1, 1, 1, 1, 1, 1]) 0 (fin Pg W 200 rv_9 R)))) (known [21, 168] ys (known [4, 5, 6, 8, 166, 167, 200] [(.bool zb0), (.int .i64 zn1), (.int .i64 zn2), (.slice zp3 zl4 zl5), (.slice zp6 zl7 zl8), (.int .i64 zn9), (.tuple #[])] j)) s) [(.bool b180), (.int .i64 n181)]
def L_law13_PrizeStay_2 (W : World) (R : Ending → Hp → Prop) (zb0 : Bool) (zn1 : Int) (zn2 : Int) (zp3 : Option Addr) (zl4 : Nat) (zl5 : Nat) (zn6 : Int) (b188 : Bool) (n189 : Int) : Hp → Prop :=
  LOOPN [.b, .i .i64] (fun ys next s => ∀ j : Tm, vc Pg W 200 rs_9 an_9 false (sub (bodyOf Try.f9) [1, 1, 1, 1, 1, 1, 1, 1, 1, 1, 1, 1, 1, 1, 1, 0, 1, 0, 0]) 4 (KLoop [21, 181] [4, 5, 6, 179, 180, 200] [(.bool zb0), (.int .i64 zn1), (.int .i64 zn2), (.slice zp3 zl4 zl5), (.int .i64 zn6), (.tuple #[])] next (KBlk 4 (KS Pg W 200 rs_9 an_9 false (sub (bodyOf Try.f9) [1, 1, 1, 1, 1, 1, 1, 1, 1, 1, 1, 1, 1, 1, 1, 1]) 0 (fin Pg W 200 rv_9 R)))) (known [21, 181] ys (known [4, 5, 6, 179, 180, 200] [(.bool zb0), (.int .i64 zn1), (.int .i64 zn2), (.slice zp3 zl4 zl5), (.int .i64 zn6), (.tuple #[])] j)) s) [(.bool b188), (.int .i64 n189)]
def J_law13_PrizeStay_0 (W : World) (R : Ending → Hp → Prop) (b147 : Bool) (B8 : Nat) (n7 : Int) (l23 : Nat) (n36 : Int) (x51 : Option Addr) (l52 : Nat) (c53 : Nat) (x68 : Option Addr) (l69 : Nat) (c70 : Nat) (x136 : Option Addr) (l137 : Nat) (c138 : Nat) : Hp → Prop :=
  BR b147
    (R (.returned (.bool false)))
    (RDL (Addr.add ⟨B8, 0, none⟩ 0) fun x148 l149 c150 =>
      L_law13_PrizeStay_0 W R ⟨B8, 0, none⟩ (Int.tmod (IntKind.wrap .i64 n7) (↑l23 : Int)) n36 x51 l52 c53 x68 l69 c70 x136 l137 c138 (↑l149 : Int) false 0)
def J_law13_PrizeStay_1 (W : World) (R : Ending → Hp → Prop) (b146 : Bool) (B8 : Nat) (n7 : Int) (l23 : Nat) (n36 : Int) (x51 : Option Addr) (l52 : Nat) (c53 : Nat) (x68 : Option Addr) (l69 : Nat) (c70 : Nat) (x136 : Option Addr) (l137 : Nat) (c138 : Nat) : Hp → Prop :=
  BR b146
    (J_law13_PrizeStay_0 W R true B8 n7 l23 n36 x51 l52 c53 x68 l69 c70 x136 l137 c138)
    (RDL (Addr.add ⟨B8, 0, none⟩ 0) fun x151 l152 c153 =>
      J_law13_PrizeStay_0 W R ((↑l69 : Int) != (↑l152 : Int)) B8 n7 l23 n36 x51 l52 c53 x68 l69 c70 x136 l137 c138)
def J_law13_PrizeStay_2 (W : World) (R : Ending → Hp → Prop) (b145 : Bool) (B8 : Nat) (n7 : Int) (l23 : Nat) (n36 : Int) (x51 : Option Addr) (l52 : Nat) (c53 : Nat) (x68 : Option Addr) (l69 : Nat) (c70 : Nat) (x136 : Option Addr) (l137 : Nat) (c138 : Nat) : Hp → Prop :=
  BR b145
    (J_law13_PrizeStay_1 W R true B8 n7 l23 n36 x51 l52 c53 x68 l69 c70 x136 l137 c138)
    (RDL (Addr.add ⟨B8, 0, none⟩ 0) fun x154 l155 c156 =>
      J_law13_PrizeStay_1 W R ((↑l137 : Int) != (IntKind.wrap .i64 ((↑l155 : Int) - 1))) B8 n7 l23 n36 x51 l52 c53 x68 l69 c70 x136 l137 c138)
def J_law13_PrizeStay_3 (W : World) (R : Ending → Hp → Prop) (b81 : Bool) (B8 : Nat) (n36 : Int) (n7 : Int) (l23 : Nat) (x51 : Option Addr) (l52 : Nat) (c53 : Nat) (x68 : Option Addr) (l69 : Nat) (c70 : Nat) : Hp → Prop :=
  BR b81
    (R (.returned (.bool false)))
    (RDL (Addr.add ⟨B8, 0, none⟩ 0) fun x82 l83 c84 =>
      BR ((↑l83 : Int) == 1)
        (BR (n36 == 0)
          (CALL Pg W F_law13_awake []
            (fun v85 => TYB v85 fun b87 =>
              R (.returned (.bool b87)))
              (fun e86 => R (.panicked e86)))
          (R (.returned (.bool false))))
        (RDL (Addr.add ⟨B8, 0, none⟩ 0) fun x88 l89 c90 =>
          RDL (Addr.add ⟨B8, 0, none⟩ 1) fun x91 l92 c93 =>
            CALL Pg W F_ref13_Without [(.agg #[(.slice x88 l89 c90), (.slice x91 l92 c93)]), (.int .i64 (Int.tmod (IntKind.wrap .i64 n7) (↑l23 : Int)))]
              (fun v94 => AGG v94 fun q96 => HD q96 fun v97 r98 => TYL v97 fun x99 l100 c101 =>
                HD r98 fun v102 r103 => TYL v102 fun x104 l105 c106 =>
                  NL r103 <|
                    NEWZ Pg 25 fun B107 =>
                      WR (Addr.add ⟨B107, 0, none⟩ 0) (.slice x99 l100 c101) <|
                        WR (Addr.add ⟨B107, 0, none⟩ 1) (.slice x104 l105 c106) <|
                          RDL (Addr.add ⟨B107, 0, none⟩ 0) fun x108 l109 c110 =>
                            RDL (Addr.add ⟨B107, 0, none⟩ 1) fun x111 l112 c113 =>
                              CALL Pg W F_prize_Due [(.agg #[(.slice x108 l109 c110), (.slice x111 l112 c113)])]
                                (fun v114 => TUP v114 fun q116 => HD q116 fun v117 r118 => TYL v117 fun x119 l120 c121 =>
                                  HD r118 fun v122 r123 => TYI .i64 v122 fun n124 =>
                                    NL r123 <|
                                      RDL (Addr.add ⟨B107, 0, none⟩ 0) fun x125 l126 c127 =>
                                        RDL (Addr.add ⟨B107, 0, none⟩ 1) fun x128 l129 c130 =>
                                          CALL Pg W F_prize_Worth [(.agg #[(.slice x125 l126 c127), (.slice x128 l129 c130)]), (.slice x119 l120 c121)]
                                            (fun v131 => TUP v131 fun q133 => HD q133 fun v134 r135 => TYL v134 fun x136 l137 c138 =>
                                              HD r135 fun v139 r140 => TYI .i64 v139 fun n141 =>
                                                HD r140 fun v142 r143 => TYI .i64 v142 fun n144 =>
                                                  NL r143 <|
                                                    BR (n124 != 0)
                                                      (J_law13_PrizeStay_2 W R true B8 n7 l23 n36 x51 l52 c53 x68 l69 c70 x136 l137 c138)
                                                      (J_law13_PrizeStay_2 W R (n144 != 0) B8 n7 l23 n36 x51 l52 c53 x68 l69 c70 x136 l137 c138))
                                              (fun e132 => R (.panicked e132)))
                                  (fun e115 => R (.panicked e115)))
                (fun e95 => R (.panicked e95))))
def J_law13_PrizeStay_4 (W : World) (R : Ending → Hp → Prop) (b80 : Bool) (B8 : Nat) (n36 : Int) (n7 : Int) (l23 : Nat) (x51 : Option Addr) (l52 : Nat) (c53 : Nat) (x68 : Option Addr) (l69 : Nat) (c70 : Nat) : Hp → Prop :=
  BR b80
    (J_law13_PrizeStay_3 W R true B8 n36 n7 l23 x51 l52 c53 x68 l69 c70)
    (NNI (Int.tmod (IntKind.wrap .i64 n7) (↑l23 : Int)) <|
      J_law13_PrizeStay_3 W R ((andv .i64 (shrv .i64 n36 (Int.tmod (IntKind.wrap .i64 n7) (↑l23 : Int))) 1) == 1) B8 n36 n7 l23 x51 l52 c53 x68 l69 c70)
def J_law13_PrizeStay_5 (W : World) (R : Ending → Hp → Prop) (b79 : Bool) (B8 : Nat) (n36 : Int) (n7 : Int) (l23 : Nat) (x51 : Option Addr) (l52 : Nat) (c53 : Nat) (x68 : Option Addr) (l69 : Nat) (c70 : Nat) : Hp → Prop :=
  BR b79
    (J_law13_PrizeStay_4 W R true B8 n36 n7 l23 x51 l52 c53 x68 l69 c70)
    (RDL (Addr.add ⟨B8, 0, none⟩ 0) fun x157 l158 c159 =>
      NNI (↑l158 : Int) <|
        J_law13_PrizeStay_4 W R ((shrv .i64 n36 (↑l158 : Int)) != 0) B8 n36 n7 l23 x51 l52 c53 x68 l69 c70)
def J_law13_PrizeStay_6 (W : World) (R : Ending → Hp → Prop) (b78 : Bool) (B8 : Nat) (n36 : Int) (n7 : Int) (l23 : Nat) (x51 : Option Addr) (l52 : Nat) (c53 : Nat) (x68 : Option Addr) (l69 : Nat) (c70 : Nat) : Hp → Prop :=
  BR b78
    (J_law13_PrizeStay_5 W R true B8 n36 n7 l23 x51 l52 c53 x68 l69 c70)
    (J_law13_PrizeStay_5 W R (decide (n36 < 0)) B8 n36 n7 l23 x51 l52 c53 x68 l69 c70)
def J_law13_PrizeStay_7 (W : World) (R : Ending → Hp → Prop) (b77 : Bool) (B8 : Nat) (n36 : Int) (n7 : Int) (l23 : Nat) (x51 : Option Addr) (l52 : Nat) (c53 : Nat) (x68 : Option Addr) (l69 : Nat) (c70 : Nat) (n76 : Int) : Hp → Prop :=
  BR b77
    (J_law13_PrizeStay_6 W R true B8 n36 n7 l23 x51 l52 c53 x68 l69 c70)
    (J_law13_PrizeStay_6 W R (n76 != 0) B8 n36 n7 l23 x51 l52 c53 x68 l69 c70)
def J_law13_PrizeStay_8 (W : World) (R : Ending → Hp → Prop) (b18 : Bool) (B8 : Nat) (n7 : Int) : Hp → Prop :=
  BR b18
    (CALL Pg W F_law13_awake []
      (fun v19 => TYB v19 fun b21 =>
        R (.returned (.bool b21)))
        (fun e20 => R (.panicked e20)))
    (RDL (Addr.add ⟨B8, 0, none⟩ 0) fun x22 l23 c24 =>
      NZI (↑l23 : Int) <|
        RDL (Addr.add ⟨B8, 0, none⟩ 0) fun x25 l26 c27 =>
          RDL (Addr.add ⟨B8, 0, none⟩ 1) fun x28 l29 c30 =>
            CALL Pg W F_prize_Stay [(.agg #[(.slice x25 l26 c27), (.slice x28 l29 c30)]), (.int .i64 (Int.tmod (IntKind.wrap .i64 n7) (↑l23 : Int)))]
              (fun v31 => TUP v31 fun q33 => HD q33 fun v34 r35 => TYI .i64 v34 fun n36 =>
                HD r35 fun v37 r38 => TYI .i64 v37 fun n39 =>
                  NL r38 <|
                    RDL (Addr.add ⟨B8, 0, none⟩ 0) fun x40 l41 c42 =>
                      RDL (Addr.add ⟨B8, 0, none⟩ 1) fun x43 l44 c45 =>
                        CALL Pg W F_prize_Due [(.agg #[(.slice x40 l41 c42), (.slice x43 l44 c45)])]
                          (fun v46 => TUP v46 fun q48 => HD q48 fun v49 r50 => TYL v49 fun x51 l52 c53 =>
                            HD r50 fun v54 r55 => TYI .i64 v54 fun n56 =>
                              NL r55 <|
                                RDL (Addr.add ⟨B8, 0, none⟩ 0) fun x57 l58 c59 =>
                                  RDL (Addr.add ⟨B8, 0, none⟩ 1) fun x60 l61 c62 =>
                                    CALL Pg W F_prize_Worth [(.agg #[(.slice x57 l58 c59), (.slice x60 l61 c62)]), (.slice x51 l52 c53)]
                                      (fun v63 => TUP v63 fun q65 => HD q65 fun v66 r67 => TYL v66 fun x68 l69 c70 =>
                                        HD r67 fun v71 r72 => TYI .i64 v71 fun n73 =>
                                          HD r72 fun v74 r75 => TYI .i64 v74 fun n76 =>
                                            NL r75 <|
                                              BR (n39 != 0)
                                                (J_law13_PrizeStay_7 W R true B8 n36 n7 l23 x51 l52 c53 x68 l69 c70 n76)
                                                (J_law13_PrizeStay_7 W R (n56 != 0) B8 n36 n7 l23 x51 l52 c53 x68 l69 c70 n76))
                                        (fun e64 => R (.panicked e64)))
                            (fun e47 => R (.panicked e47)))
                (fun e32 => R (.panicked e32)))
def J_law13_PrizeStay_9 (W : World) (R : Ending → Hp → Prop) (za0 : Addr) (zn1 : Int) (zn2 : Int) (zp3 : Option Addr) (zl4 : Nat) (zl5 : Nat) (zp6 : Option Addr) (zl7 : Nat) (zl8 : Nat) (zp9 : Option Addr) (zl10 : Nat) (zl11 : Nat) (zn12 : Int) (nx0 : List Value → Hp → Prop) (b171 : Bool) (n170 : Int) : Hp → Prop :=
  NX [(.pointer (some za0)), (.int .i64 zn1), (.int .i64 zn2), (.slice zp3 zl4 zl5), (.slice zp6 zl7 zl8), (.slice zp9 zl10 zl11), (.int .i64 zn12), (.tuple #[])] [(.pointer (some za0)), (.int .i64 zn1), (.int .i64 zn2), (.slice zp3 zl4 zl5), (.slice zp6 zl7 zl8), (.slice zp9 zl10 zl11), (.int .i64 zn12), (.tuple #[])] (nx0 [(.bool b171), (.int .i64 (IntKind.wrap .i64 (n170 + 1)))])
def J_law13_PrizeStay_10 (W : World) (R : Ending → Hp → Prop) (n170 : Int) (zp9 : Option Addr) (zl10 : Nat) (n172 : Int) (zp6 : Option Addr) (zl7 : Nat) (zn2 : Int) (za0 : Addr) (zn1 : Int) (zp3 : Option Addr) (zl4 : Nat) (zl5 : Nat) (zl8 : Nat) (zl11 : Nat) (zn12 : Int) (nx0 : List Value → Hp → Prop) (b169 : Bool) : Hp → Prop :=
  NNI n170 <|
    IXS zp9 zl10 n172 1 fun a173 =>
      RDI .i64 a173 fun n174 =>
        IXS zp6 zl7 n170 1 fun a175 =>
          RDI .i64 a175 fun n176 =>
            BR (!(((andv .i64 (shrv .i64 zn2 n170) 1) == 1) == (decide (n174 > n176))))
              (R (.returned (.bool false)))
              (J_law13_PrizeStay_9 W R za0 zn1 zn2 zp3 zl4 zl5 zp6 zl7 zl8 zp9 zl10 zl11 zn12 nx0 b169 n170)
def J_law13_PrizeStay_11 (W : World) (R : Ending → Hp → Prop) (zb0 : Bool) (zn1 : Int) (zn2 : Int) (zp3 : Option Addr) (zl4 : Nat) (zl5 : Nat) (zp6 : Option Addr) (zl7 : Nat) (zl8 : Nat) (zn9 : Int) (nx1 : List Value → Hp → Prop) (b186 : Bool) (n181 : Int) : Hp → Prop :=
  NX [(.bool zb0), (.int .i64 zn1), (.int .i64 zn2), (.slice zp3 zl4 zl5), (.slice zp6 zl7 zl8), (.int .i64 zn9), (.tuple #[])] [(.bool zb0), (.int .i64 zn1), (.int .i64 zn2), (.slice zp3 zl4 zl5), (.slice zp6 zl7 zl8), (.int .i64 zn9), (.tuple #[])] (nx1 [(.bool b186), (.int .i64 (IntKind.wrap .i64 (n181 + 1)))])
def J_law13_PrizeStay_12 (W : World) (R : Ending → Hp → Prop) (zb0 : Bool) (zn1 : Int) (zn2 : Int) (zp3 : Option Addr) (zl4 : Nat) (zl5 : Nat) (zn6 : Int) (nx2 : List Value → Hp → Prop) (b192 : Bool) (n189 : Int) : Hp → Prop :=
  NX [(.bool zb0), (.int .i64 zn1), (.int .i64 zn2), (.slice zp3 zl4 zl5), (.int .i64 zn6), (.tuple #[])] [(.bool zb0), (.int .i64 zn1), (.int .i64 zn2), (.slice zp3 zl4 zl5), (.int .i64 zn6), (.tuple #[])] (nx2 [(.bool b192), (.int .i64 (IntKind.wrap .i64 (n189 + 1)))])
def B_law13_PrizeStay_0 (W : World) (R : Ending → Hp → Prop) (za0 : Addr) (zn1 : Int) (zn2 : Int) (zp3 : Option Addr) (zl4 : Nat) (zl5 : Nat) (zp6 : Option Addr) (zl7 : Nat) (zl8 : Nat) (zp9 : Option Addr) (zl10 : Nat) (zl11 : Nat) (zn12 : Int) (b169 : Bool) (n170 : Int) (nx0 : List Value → Hp → Prop) : Hp → Prop :=
  BR (decide (n170 < zn12))
    (BR (n170 == zn1)
      (J_law13_PrizeStay_9 W R za0 zn1 zn2 zp3 zl4 zl5 zp6 zl7 zl8 zp9 zl10 zl11 zn12 nx0 b169 n170)
      (BR (decide (n170 > zn1))
        (J_law13_PrizeStay_10 W R n170 zp9 zl10 (IntKind.wrap .i64 (n170 - 1)) zp6 zl7 zn2 za0 zn1 zp3 zl4 zl5 zl8 zl11 zn12 nx0 b169)
        (J_law13_PrizeStay_10 W R n170 zp9 zl10 n170 zp6 zl7 zn2 za0 zn1 zp3 zl4 zl5 zl8 zl11 zn12 nx0 b169)))
    (RDL (Addr.add za0 1) fun x177 l178 c179 =>
      L_law13_PrizeStay_1 W R b169 zn1 zn2 zp3 zl4 zl5 x177 l178 c179 (↑l178 : Int) false 0)
theorem B_law13_PrizeStay_0_eq (W : World) (R : Ending → Hp → Prop) (za0 : Addr) (zn1 : Int) (zn2 : Int) (zp3 : Option Addr) (zl4 : Nat) (zl5 : Nat) (zp6 : Option Addr) (zl7 : Nat) (zl8 : Nat) (zp9 : Option Addr) (zl10 : Nat) (zl11 : Nat) (zn12 : Int) (b169 : Bool) (n170 : Int) (nx0 : List Value → Hp → Prop) (j : Tm) : vc Pg W 200 rs_9 an_9 false (sub (bodyOf Try.f9) [1, 1, 1, 1, 1, 1, 1, 1, 1, 1, 1, 1, 0, 1, 0, 0]) 0 (KLoop [4, 137] [2, 5, 6, 8, 10, 16, 136, 200] [(.pointer (some za0)), (.int .i64 zn1), (.int .i64 zn2), (.slice zp3 zl4 zl5), (.slice zp6 zl7 zl8), (.slice zp9 zl10 zl11), (.int .i64 zn12), (.tuple #[])] nx0 (KBlk 0 (KS Pg W 200 rs_9 an_9 false (sub (bodyOf Try.f9) [1, 1, 1, 1, 1, 1, 1, 1, 1, 1, 1, 1, 1]) 0 (fin Pg W 200 rv_9 R)))) (known [4, 137] [(.bool b169), (.int .i64 n170)] (known [2, 5, 6, 8, 10, 16, 136, 200] [(.pointer (some za0)), (.int .i64 zn1), (.int .i64 zn2), (.slice zp3 zl4 zl5), (.slice zp6 zl7 zl8), (.slice zp9 zl10 zl11), (.int .i64 zn12), (.tuple #[])] j)) = B_law13_PrizeStay_0 W R za0 zn1 zn2 zp3 zl4 zl5 zp6 zl7 zl8 zp9 zl10 zl11 zn12 b169 n170 nx0 := by kernel_rfl
def N_law13_PrizeStay_0 (I : Bool → Int → Hp → Prop) (μ : Bool → Int → Hp → Nat) (b1690 : Bool) (n1700 : Int) (s : Hp) (vs : List Value) : Hp → Prop := fun s' => ∃ b169 n170, vs = [(.bool b169), (.int .i64 n170)] ∧ I b169 n170 s' ∧ μ b169 n170 s' < μ b1690 n1700 s
theorem L_law13_PrizeStay_0_rule (W : World) (R : Ending → Hp → Prop) (za0 : Addr) (zn1 : Int) (zn2 : Int) (zp3 : Option Addr) (zl4 : Nat) (zl5 : Nat) (zp6 : Option Addr) (zl7 : Nat) (zl8 : Nat) (zp9 : Option Addr) (zl10 : Nat) (zl11 : Nat) (zn12 : Int) (I : Bool → Int → Hp → Prop) (μ : Bool → Int → Hp → Nat) (b1690 : Bool) (n1700 : Int) (s : Hp) (h0 : I b1690 n1700 s)
    (hr : ∀ (b169 : Bool) (n170 : Int) (s : Hp), I b169 n170 s → B_law13_PrizeStay_0 W R za0 zn1 zn2 zp3 zl4 zl5 zp6 zl7 zl8 zp9 zl10 zl11 zn12 b169 n170 (fun vs => N_law13_PrizeStay_0 I μ b169 n170 s vs) s) : L_law13_PrizeStay_0 W R za0 zn1 zn2 zp3 zl4 zl5 zp6 zl7 zl8 zp9 zl10 zl11 zn12 b1690 n1700 s := by
  refine ⟨fun vs s => ∃ b169 n170, vs = [(.bool b169), (.int .i64 n170)] ∧ I b169 n170 s, fun vs s => (match vs with | [.bool b169, .int _ n170] => μ b169 n170 s | _ => 0), ⟨⟨⟨_, rfl⟩, ⟨⟨_, rfl⟩, trivial⟩⟩, ⟨_, _, rfl, h0⟩⟩, ?_⟩
  intro b169 n170 s hI j
  obtain ⟨b169', n170', hy, hI⟩ := hI
  have hI' : I b169 n170 s := by cases hy; exact hI
  have hh := hr b169 n170 s hI'
  rw [← B_law13_PrizeStay_0_eq W R za0 zn1 zn2 zp3 zl4 zl5 zp6 zl7 zl8 zp9 zl10 zl11 zn12 b169 n170 _ j] at hh
  refine vc_mono ?_ _ _ hh
  exact KLoop_mono (fun vs s' h => by obtain ⟨b1691, n1701, rfl, h1, h2⟩ := h; exact ⟨⟨⟨_, rfl⟩, ⟨⟨_, rfl⟩, trivial⟩⟩, ⟨_, _, rfl, h1⟩, h2⟩)
def B_law13_PrizeStay_1 (W : World) (R : Ending → Hp → Prop) (zb0 : Bool) (zn1 : Int) (zn2 : Int) (zp3 : Option Addr) (zl4 : Nat) (zl5 : Nat) (zp6 : Option Addr) (zl7 : Nat) (zl8 : Nat) (zn9 : Int) (b180 : Bool) (n181 : Int) (nx1 : List Value → Hp → Prop) : Hp → Prop :=
  BR (decide (n181 < zn9))
    (IXS zp6 zl7 n181 2 fun a182 =>
      RDI .i64 (Addr.add a182 0) fun n183 =>
        RDI .i64 (Addr.add a182 1) fun n184 =>
          NEWZ Pg 50 fun B185 =>
            WR (Addr.add ⟨B185, 0, none⟩ 0) (.int .i64 n183) <|
              WR (Addr.add ⟨B185, 0, none⟩ 1) (.int .i64 n184) <|
                BR b180
                  (J_law13_PrizeStay_11 W R zb0 zn1 zn2 zp3 zl4 zl5 zp6 zl7 zl8 zn9 nx1 true n181)
                  (RDI .i64 (Addr.add ⟨B185, 0, none⟩ 0) fun n187 =>
                    J_law13_PrizeStay_11 W R zb0 zn1 zn2 zp3 zl4 zl5 zp6 zl7 zl8 zn9 nx1 (n187 == 4) n181))
    (L_law13_PrizeStay_2 W R zb0 zn1 zn2 zp3 zl4 zl5 (↑zl4 : Int) b180 0)
theorem B_law13_PrizeStay_1_eq (W : World) (R : Ending → Hp → Prop) (zb0 : Bool) (zn1 : Int) (zn2 : Int) (zp3 : Option Addr) (zl4 : Nat) (zl5 : Nat) (zp6 : Option Addr) (zl7 : Nat) (zl8 : Nat) (zn9 : Int) (b180 : Bool) (n181 : Int) (nx1 : List Value → Hp → Prop) (j : Tm) : vc Pg W 200 rs_9 an_9 false (sub (bodyOf Try.f9) [1, 1, 1, 1, 1, 1, 1, 1, 1, 1, 1, 1, 1, 1, 0, 1, 0, 0]) 2 (KLoop [21, 168] [4, 5, 6, 8, 166, 167, 200] [(.bool zb0), (.int .i64 zn1), (.int .i64 zn2), (.slice zp3 zl4 zl5), (.slice zp6 zl7 zl8), (.int .i64 zn9), (.tuple #[])] nx1 (KBlk 2 (KS Pg W 200 rs_9 an_9 false (sub (bodyOf Try.f9) [1, 1, 1, 1, 1, 1, 1, 1, 1, 1, 1, 1, 1, 1, 1]) 0 (fin Pg W 200 rv_9 R)))) (known [21, 168] [(.bool b180), (.int .i64 n181)] (known [4, 5, 6, 8, 166, 167, 200] [(.bool zb0), (.int .i64 zn1), (.int .i64 zn2), (.slice zp3 zl4 zl5), (.slice zp6 zl7 zl8), (.int .i64 zn9), (.tuple #[])] j)) = B_law13_PrizeStay_1 W R zb0 zn1 zn2 zp3 zl4 zl5 zp6 zl7 zl8 zn9 b180 n181 nx1 := by kernel_rfl
def N_law13_PrizeStay_1 (I : Bool → Int → Hp → Prop) (μ : Bool → Int → Hp → Nat) (b1800 : Bool) (n1810 : Int) (s : Hp) (vs : List Value) : Hp → Prop := fun s' => ∃ b180 n181, vs = [(.bool b180), (.int .i64 n181)] ∧ I b180 n181 s' ∧ μ b180 n181 s' < μ b1800 n1810 s
theorem L_law13_PrizeStay_1_rule (W : World) (R : Ending → Hp → Prop) (zb0 : Bool) (zn1 : Int) (zn2 : Int) (zp3 : Option Addr) (zl4 : Nat) (zl5 : Nat) (zp6 : Option Addr) (zl7 : Nat) (zl8 : Nat) (zn9 : Int) (I : Bool → Int → Hp → Prop) (μ : Bool → Int → Hp → Nat) (b1800 : Bool) (n1810 : Int) (s : Hp) (h0 : I b1800 n1810 s)
    (hr : ∀ (b180 : Bool) (n181 : Int) (s : Hp), I b180 n181 s → B_law13_PrizeStay_1 W R zb0 zn1 zn2 zp3 zl4 zl5 zp6 zl7 zl8 zn9 b180 n181 (fun vs => N_law13_PrizeStay_1 I μ b180 n181 s vs) s) : L_law13_PrizeStay_1 W R zb0 zn1 zn2 zp3 zl4 zl5 zp6 zl7 zl8 zn9 b1800 n1810 s := by
  refine ⟨fun vs s => ∃ b180 n181, vs = [(.bool b180), (.int .i64 n181)] ∧ I b180 n181 s, fun vs s => (match vs with | [.bool b180, .int _ n181] => μ b180 n181 s | _ => 0), ⟨⟨⟨_, rfl⟩, ⟨⟨_, rfl⟩, trivial⟩⟩, ⟨_, _, rfl, h0⟩⟩, ?_⟩
  intro b180 n181 s hI j
  obtain ⟨b180', n181', hy, hI⟩ := hI
  have hI' : I b180 n181 s := by cases hy; exact hI
  have hh := hr b180 n181 s hI'
  rw [← B_law13_PrizeStay_1_eq W R zb0 zn1 zn2 zp3 zl4 zl5 zp6 zl7 zl8 zn9 b180 n181 _ j] at hh
  refine vc_mono ?_ _ _ hh
  exact KLoop_mono (fun vs s' h => by obtain ⟨b1801, n1811, rfl, h1, h2⟩ := h; exact ⟨⟨⟨_, rfl⟩, ⟨⟨_, rfl⟩, trivial⟩⟩, ⟨_, _, rfl, h1⟩, h2⟩)
def B_law13_PrizeStay_2 (W : World) (R : Ending → Hp → Prop) (zb0 : Bool) (zn1 : Int) (zn2 : Int) (zp3 : Option Addr) (zl4 : Nat) (zl5 : Nat) (zn6 : Int) (b188 : Bool) (n189 : Int) (nx2 : List Value → Hp → Prop) : Hp → Prop :=
  BR (decide (n189 < zn6))
    (IXS zp3 zl4 n189 1 fun a190 =>
      RDI .i64 a190 fun n191 =>
        BR b188
          (J_law13_PrizeStay_12 W R zb0 zn1 zn2 zp3 zl4 zl5 zn6 nx2 true n189)
          (J_law13_PrizeStay_12 W R zb0 zn1 zn2 zp3 zl4 zl5 zn6 nx2 (n191 == zn1) n189))
    (BR b188
      (CALL Pg W F_law13_awake []
        (fun v193 => TYB v193 fun b195 =>
          R (.returned (.bool b195)))
          (fun e194 => R (.panicked e194)))
      (BR (zn2 == 0)
        (CALL Pg W F_law13_awake []
          (fun v196 => TYB v196 fun b198 =>
            R (.returned (.bool b198)))
            (fun e197 => R (.panicked e197)))
        (R (.returned (.bool false)))))
theorem B_law13_PrizeStay_2_eq (W : World) (R : Ending → Hp → Prop) (zb0 : Bool) (zn1 : Int) (zn2 : Int) (zp3 : Option Addr) (zl4 : Nat) (zl5 : Nat) (zn6 : Int) (b188 : Bool) (n189 : Int) (nx2 : List Value → Hp → Prop) (j : Tm) : vc Pg W 200 rs_9 an_9 false (sub (bodyOf Try.f9) [1, 1, 1, 1, 1, 1, 1, 1, 1, 1, 1, 1, 1, 1, 1, 0, 1, 0, 0]) 4 (KLoop [21, 181] [4, 5, 6, 179, 180, 200] [(.bool zb0), (.int .i64 zn1), (.int .i64 zn2), (.slice zp3 zl4 zl5), (.int .i64 zn6), (.tuple #[])] nx2 (KBlk 4 (KS Pg W 200 rs_9 an_9 false (sub (bodyOf Try.f9) [1, 1, 1, 1, 1, 1, 1, 1, 1, 1, 1, 1, 1, 1, 1, 1]) 0 (fin Pg W 200 rv_9 R)))) (known [21, 181] [(.bool b188), (.int .i64 n189)] (known [4, 5, 6, 179, 180, 200] [(.bool zb0), (.int .i64 zn1), (.int .i64 zn2), (.slice zp3 zl4 zl5), (.int .i64 zn6), (.tuple #[])] j)) = B_law13_PrizeStay_2 W R zb0 zn1 zn2 zp3 zl4 zl5 zn6 b188 n189 nx2 := by kernel_rfl
def N_law13_PrizeStay_2 (I : Bool → Int → Hp → Prop) (μ : Bool → Int → Hp → Nat) (b1880 : Bool) (n1890 : Int) (s : Hp) (vs : List Value) : Hp → Prop := fun s' => ∃ b188 n189, vs = [(.bool b188), (.int .i64 n189)] ∧ I b188 n189 s' ∧ μ b188 n189 s' < μ b1880 n1890 s
theorem L_law13_PrizeStay_2_rule (W : World) (R : Ending → Hp → Prop) (zb0 : Bool) (zn1 : Int) (zn2 : Int) (zp3 : Option Addr) (zl4 : Nat) (zl5 : Nat) (zn6 : Int) (I : Bool → Int → Hp → Prop) (μ : Bool → Int → Hp → Nat) (b1880 : Bool) (n1890 : Int) (s : Hp) (h0 : I b1880 n1890 s)
    (hr : ∀ (b188 : Bool) (n189 : Int) (s : Hp), I b188 n189 s → B_law13_PrizeStay_2 W R zb0 zn1 zn2 zp3 zl4 zl5 zn6 b188 n189 (fun vs => N_law13_PrizeStay_2 I μ b188 n189 s vs) s) : L_law13_PrizeStay_2 W R zb0 zn1 zn2 zp3 zl4 zl5 zn6 b1880 n1890 s := by
  refine ⟨fun vs s => ∃ b188 n189, vs = [(.bool b188), (.int .i64 n189)] ∧ I b188 n189 s, fun vs s => (match vs with | [.bool b188, .int _ n189] => μ b188 n189 s | _ => 0), ⟨⟨⟨_, rfl⟩, ⟨⟨_, rfl⟩, trivial⟩⟩, ⟨_, _, rfl, h0⟩⟩, ?_⟩
  intro b188 n189 s hI j
  obtain ⟨b188', n189', hy, hI⟩ := hI
  have hI' : I b188 n189 s := by cases hy; exact hI
  have hh := hr b188 n189 s hI'
  rw [← B_law13_PrizeStay_2_eq W R zb0 zn1 zn2 zp3 zl4 zl5 zn6 b188 n189 _ j] at hh
  refine vc_mono ?_ _ _ hh
  exact KLoop_mono (fun vs s' h => by obtain ⟨b1881, n1891, rfl, h1, h2⟩ := h; exact ⟨⟨⟨_, rfl⟩, ⟨⟨_, rfl⟩, trivial⟩⟩, ⟨_, _, rfl, h1⟩, h2⟩)
def T_law13_PrizeStay (W : World) (x1 : Option Addr) (l2 : Nat) (c3 : Nat) (x4 : Option Addr) (l5 : Nat) (c6 : Nat) (n7 : Int) (R : Ending → Hp → Prop) : Hp → Prop :=
  NEW 25 [(.slice x1 l2 c3), (.slice x4 l5 c6)] fun B8 =>
    RDL (Addr.add ⟨B8, 0, none⟩ 0) fun x9 l10 c11 =>
      RDL (Addr.add ⟨B8, 0, none⟩ 1) fun x12 l13 c14 =>
        CALL Pg W F_law13_far [(.agg #[(.slice x9 l10 c11), (.slice x12 l13 c14)]), (.slice none 0 0)]
          (fun v15 => TYB v15 fun b17 =>
            BR b17
              (J_law13_PrizeStay_8 W R true B8 n7)
              (RDL (Addr.add ⟨B8, 0, none⟩ 0) fun x160 l161 c162 =>
                RDL (Addr.add ⟨B8, 0, none⟩ 1) fun x163 l164 c165 =>
                  CALL Pg W F_ref13_Prizes [(.agg #[(.slice x160 l161 c162), (.slice x163 l164 c165)])]
                    (fun v166 => TYB v166 fun b168 =>
                      J_law13_PrizeStay_8 W R (!b168) B8 n7)
                      (fun e167 => R (.panicked e167))))
            (fun e16 => R (.panicked e16))
theorem T_law13_PrizeStay_eq (W : World) (x1 : Option Addr) (l2 : Nat) (c3 : Nat) (x4 : Option Addr) (l5 : Nat) (c6 : Nat) (n7 : Int) (R : Ending → Hp → Prop) : vfun Pg W an_9 Try.f9 [(.agg #[(.slice x1 l2 c3), (.slice x4 l5 c6)]), (.int .u8 n7)] R = T_law13_PrizeStay W x1 l2 c3 x4 l5 c6 n7 R := by kernel_rfl
theorem does_law13_PrizeStay (W : World) (x1 : Option Addr) (l2 : Nat) (c3 : Nat) (x4 : Option Addr) (l5 : Nat) (c6 : Nat) (n7 : Int) (R : Ending → Hp → Prop) (s : Hp) (h : T_law13_PrizeStay W x1 l2 c3 x4 l5 c6 n7 R s) : Does Pg W F_law13_PrizeStay #[(.agg #[(.slice x1 l2 c3), (.slice x4 l5 c6)]), (.int .u8 n7)] s R :=
  does_of_vfun Pg W an_9 Try.func9 rfl (by kernel_rfl) (by rw [T_law13_PrizeStay_eq]; exact h)
end Go.Proofs.Ytfaeokcbfnlgbaa.G

/- The statement PrizeStay. -/
set_option linter.unusedSimpArgs false
set_option linter.unusedVariables false
set_option maxRecDepth 20000
namespace Go.Proofs.Ytfaeokcbfnlgbaa.G
open Go.V
theorem tm_mod {z n : Nat} (hz : z < 256) : Int.tmod (IntKind.wrap .i64 (z : Int)) (n : Int) = ((z % n : Nat) : Int) := by rw [wrap_i64 (by omega) (by omega)]; rfl
theorem setK_256 (B : Nat → Bool) {n : Nat} (h : n ≤ 8) : setK B n < 256 := Nat.lt_of_lt_of_le (setK_lt B n) (Nat.pow_le_pow_right (by omega) h)
theorem bit_isN (B : Nat → Bool) {n i : Nat} (hn : n ≤ 8) (h : i < n) : (andv .i64 (shrv .i64 ((setK B n : Nat) : Int) (i : Int)) 1 == 1) = B i := by
  rw [bit_tab _ (setK_256 B hn) i (by omega), setK_bit B n i h]
  cases B i <;> rfl
theorem shr_all (B : Nat → Bool) {n : Nat} (hn : n ≤ 8) : shrv .i64 ((setK B n : Nat) : Int) (n : Int) = 0 := by
  rw [shr_tab _ (setK_256 B hn) n (by omega), Nat.div_eq_of_lt (setK_lt B n)]; rfl
theorem stay_val {T : PT} (hok : okP T = true) {m : Nat} (hm : m < T.n) : stayR T (m : Nat) = (((setK (gainB T m) T.n : Nat) : Int), 0) := by
  unfold stayR
  have hM : isM T (m : Nat) = true := decide_eq_true (by omega)
  rw [if_pos hok, if_pos hM, toNat_nat]
  by_cases h1 : T.n = 1
  · rw [if_pos h1, h1]
    have h0 : m = 0 := by omega
    have : gainB T m 0 = false := by unfold gainB; simp [h0]
    show (0, 0) = (((setK (gainB T m) 0 + (if gainB T m 0 then 2 ^ 0 else 0) : Nat) : Int), 0)
    rw [this]; rfl
  · rw [if_neg h1]
section
variable {W : World} {K : VK} {E : List PanicEntry → Hp → Prop} {s : Hp} {T : PT}
theorem w_PrizeStay {x y : Option Addr} {c c' u : Nat} (hx : MnAt s x T.men) (hy : PzAt s y T.list) (hu : u < 256) (h : ∀ s', Ext s s' → K (.bool true) s') :
    CALL Pg W F_law13_PrizeStay [.agg #[.slice x T.n c, .slice y T.z c'], .int .u8 (u : Nat)] K E s := by
  refine does_law13_PrizeStay W x T.n c y T.z c' u _ s ?_
  unfold T_law13_PrizeStay
  refine ne2 fun s1 e1 z1 o1 o2 => ?_
  have c0 := o1.cell
  have c1 := o2.cell
  refine ⟨_, _, _, c0, _, _, _, c1, ?_⟩
  refine c_far fun s2 b e2 hb => ?_
  try simp only [TUP_mk, AGG_mk, HD_mk, NL_mk, TYI_mk, TYB_mk, TYP_mk, TYL_mk, TYS_mk, TYM_mk, SO_mk, NX_mk, endK_mk, endK_mk', add_0]
  have rx : ∀ {t : Hp}, Ext s1 t → MnAt t x T.men := fun e => hx.ext (e1.trans e)
  have ry : ∀ {t : Hp}, Ext s1 t → PzAt t y T.list := fun e => hy.ext (e1.trans e)
  have J8 : ∀ (b : Bool) (t : Hp), Ext s1 t → (b = false → okP T = true) → J_law13_PrizeStay_8 W (endK K E) b s.size u t := by
    intro b t et hb
    unfold J_law13_PrizeStay_8
    refine BR_bool (fun _ => c_awake' et fun u eu => h u (e1.trans eu)) (fun hf => ?_)
    have hok := hb hf
    have hv := okP_vd hok
    have h8 := hv.n8
    have h6 := hv.z6
    have hn1 := hv.n1
    refine ⟨_, _, _, et.cell c0, ?_⟩
    refine NZI_pos (by omega) ?_
    have hm : u % T.n < T.n := Nat.mod_lt _ (by omega)
    have tmm : Int.tmod (IntKind.wrap .i64 (u : Int)) (T.n : Int) = ((u % T.n : Nat) : Int) := tm_mod hu
    generalize u % T.n = m at hm tmm
    rw [tmm]
    refine ⟨_, _, _, et.cell c0, _, _, _, et.cell c1, ?_⟩
    refine c_Stay (rx et) (ry et) fun t1 f1 => ?_
    rw [stay_val hok hm]
    try simp only [TUP_mk, AGG_mk, HD_mk, NL_mk, TYI_mk, TYB_mk, TYP_mk, TYL_mk, TYS_mk, TYM_mk, SO_mk, NX_mk, endK_mk, endK_mk', add_0]
    have g1 := et.trans f1
    refine ⟨_, _, _, g1.cell c0, _, _, _, g1.cell c1, ?_⟩
    refine c_DueV hok (rx g1) (ry g1) fun t2 d cd f2 r2 => ?_
    try simp only [TUP_mk, AGG_mk, HD_mk, NL_mk, TYI_mk, TYB_mk, TYP_mk, TYL_mk, TYS_mk, TYM_mk, SO_mk, NX_mk, endK_mk, endK_mk', add_0]
    have g2 := g1.trans f2
    refine ⟨_, _, _, g2.cell c0, _, _, _, g2.cell c1, ?_⟩
    refine c_WorthL (due_len T).symm (rx g2) (ry g2) r2.row fun t3 w3 cw3 f3 r3 => ?_
    rw [worth_ok (g := dueP T) hok (due_okG hv T.z) (due_canG hv) (dueL_len T T.z)] at r3 ⊢
    try simp only [TUP_mk, AGG_mk, HD_mk, NL_mk, TYI_mk, TYB_mk, TYP_mk, TYL_mk, TYS_mk, TYM_mk, SO_mk, NX_mk, endK_mk, endK_mk', add_0]
    have g3 := g2.trans f3
    have rd : ∀ {v : Hp}, Ext t3 v → RowAt v d (ints (manL (dueP T))) := fun e => r2.row.ext (f3.trans e)
    have rw3 : ∀ {v : Hp}, Ext t3 v → RowAt v w3 (ints (worP T (manL (dueP T)))) := fun e => r3.row.ext e
    have hwl : (worP T (manL (dueP T))).length = T.n := worP_len
    rw [hwl]
    have hBm : gainB T m m = false := by unfold gainB; simp
    refine BR_ff rfl ?_
    unfold J_law13_PrizeStay_7
    refine BR_ff rfl ?_
    unfold J_law13_PrizeStay_6
    refine BR_ff rfl ?_
    unfold J_law13_PrizeStay_5
    refine BR_ff (decide_eq_false (by omega)) ?_
    refine ⟨_, _, _, g3.cell c0, ?_⟩
    refine NNI_of (by omega) ?_
    unfold J_law13_PrizeStay_4
    refine BR_ff (by rw [shr_all _ h8]; rfl) ?_
    rw [tmm]
    refine NNI_of (by omega) ?_
    unfold J_law13_PrizeStay_3
    refine BR_ff (by rw [bit_isN _ h8 hm, hBm]) ?_
    refine ⟨_, _, _, g3.cell c0, ?_⟩
    refine BR_eq (fun hn => ?_) (fun hn => ?_)
    · have hn' : T.n = 1 := by omega
      have h0 : setK (gainB T m) T.n = 0 := by
        rw [← setK_zero T.n]
        exact setK_congr T.n fun i hi => by
          have : i = m := by omega
          rw [this]; exact hBm
      rw [h0]
      refine BR_tt rfl ?_
      exact c_awake' g3 fun v ev => h v (e1.trans ev)
    have h2 : 2 ≤ T.n := by
      rcases Nat.lt_or_ge T.n 2 with h3 | h3
      · exact absurd (by have : T.n = 1 := by omega
                         rw [this]; rfl) hn
      · exact h3
    have hokW := ok_without hok hm h2
    have hvW := okP_vd hokW
    have hnW := without_n hm
    refine ⟨_, _, _, g3.cell c0, _, _, _, g3.cell c1, ?_⟩
    rw [tmm]
    refine f_Without hv hm (rx g3) (ry g3) fun t4 p cp f4 r4 => ?_
    try simp only [TUP_mk, AGG_mk, HD_mk, NL_mk, TYI_mk, TYB_mk, TYP_mk, TYL_mk, TYS_mk, TYM_mk, SO_mk, NX_mk, endK_mk, endK_mk', add_0]
    have g4 := g3.trans f4
    refine nw2 zc_25 rfl rfl fun t5 f5 y5 p1 p2 => ?_
    have g5 := g4.trans f5
    refine ⟨_, _, _, p1.cell, _, _, _, p2.cell, ?_⟩
    refine c_DueV (T := withoutP T m) hokW (row_mn (r4.row.ext f5)) (ry g5) fun t6 d6 cd6 f6 r6 => ?_
    try simp only [TUP_mk, AGG_mk, HD_mk, NL_mk, TYI_mk, TYB_mk, TYP_mk, TYL_mk, TYS_mk, TYM_mk, SO_mk, NX_mk, endK_mk, endK_mk', add_0]
    have g6 := g5.trans f6
    refine ⟨_, _, _, (f6.own p1).cell, _, _, _, (f6.own p2).cell, ?_⟩
    refine c_WorthL (T := withoutP T m) (due_len _).symm (row_mn (r4.row.ext (f5.trans f6))) (ry g6) r6.row fun t7 w7 cw7 f7 r7 => ?_
    rw [worth_ok (g := dueP (withoutP T m)) hokW (due_okG hvW _) (due_canG hvW) (dueL_len _ _)] at r7 ⊢
    try simp only [TUP_mk, AGG_mk, HD_mk, NL_mk, TYI_mk, TYB_mk, TYP_mk, TYL_mk, TYS_mk, TYM_mk, SO_mk, NX_mk, endK_mk, endK_mk', add_0]
    have g7 := g6.trans f7
    have e37 := f4.trans (f5.trans (f6.trans f7))
    have hwl7 : (worP (withoutP T m) (manL (dueP (withoutP T m)))).length = T.n - 1 := by rw [worP_len, hnW]
    rw [hwl7] at r7 ⊢
    refine BR_ff rfl ?_
    unfold J_law13_PrizeStay_2
    refine BR_ff rfl ?_
    refine ⟨_, _, _, g7.cell c0, ?_⟩
    unfold J_law13_PrizeStay_1
    refine BR_ff (by rw [wrap_i64 (by omega) (by omega)]; have : ((T.n - 1 : Nat) : Int) = (T.n : Int) - 1 := by omega
                     rw [this]; simp) ?_
    refine ⟨_, _, _, g7.cell c0, ?_⟩
    unfold J_law13_PrizeStay_0
    refine BR_ff (by simp) ?_
    refine ⟨_, _, _, g7.cell c0, ?_⟩
    rw [tmm]
    generalize hBB : gainB T m = B at *
    -- who is told
    refine L_law13_PrizeStay_0_rule W _ ⟨s.size, 0, none⟩ m (setK B T.n : Nat) d T.z cd w3 T.n cw3 w7 (T.n - 1) cw7 T.n (fun _ n170 v => v = t7 ∧ ∃ k : Nat, k ≤ T.n ∧ n170 = k) (fun _ n170 _ => ((T.n : Int) - n170).toNat) false 0 t7 ⟨rfl, 0, by omega, rfl⟩ ?_
    rintro b169 n170 v ⟨rfl, k, hk, rfl⟩
    unfold B_law13_PrizeStay_0
    refine BR_dec (fun hlt => ?_) (fun hlt => ?_)
    · have hkn : k < T.n := by omega
      generalize hnx : (fun vs => N_law13_PrizeStay_0 _ _ _ _ v vs) = nx
      have J9 : J_law13_PrizeStay_9 W (endK K E) ⟨s.size, 0, none⟩ m (setK B T.n : Nat) d T.z cd w3 T.n cw3 w7 (T.n - 1) cw7 T.n nx b169 k v := by
        unfold J_law13_PrizeStay_9
        rw [← hnx]
        exact ⟨rfl, _, _, rfl, ⟨rfl, k + 1, hkn, wrap_succ (by omega)⟩, ms_succ hkn (by omega)⟩
      have J10 : ¬ k = m → ∀ n : Int, n = (if k > m then k - 1 else k : Nat) → J_law13_PrizeStay_10 W (endK K E) k w7 (T.n - 1) n w3 T.n (setK B T.n : Nat) ⟨s.size, 0, none⟩ m d T.z cd cw3 cw7 T.n nx b169 v := by
        intro hkm n hn
        subst hn
        have hidx : (if k > m then k - 1 else k) < T.n - 1 := by split <;> omega
        have hgain : B k = decide ((worP (withoutP T m) (manL (dueP (withoutP T m)))).getD (if k > m then k - 1 else k) 0 > (worP T (manL (dueP T))).getD k 0) := by
          rw [← hBB]
          unfold gainB
          rw [decide_eq_false hkm]; rfl
        unfold J_law13_PrizeStay_10
        refine NNI_of (by omega) ?_
        obtain ⟨a1, ha1, ca1⟩ := row_int r7.row (by omega : (if k > m then k - 1 else k) < (worP (withoutP T m) (manL (dueP (withoutP T m)))).length)
        refine IXS_at ha1 hidx ?_
        refine ⟨_, ca1, ?_⟩
        obtain ⟨a2, ha2, ca2⟩ := row_int (rw3 e37) (by omega : k < (worP T (manL (dueP T))).length)
        refine IXS_at ha2 hkn ?_
        refine ⟨_, ca2, ?_⟩
        refine BR_ff ?_ J9
        rw [bit_isN _ h8 hkn, hgain]
        simp
      refine BR_eq (fun _ => J9) (fun hne => ?_)
      have hkm : ¬ k = m := fun e => hne (by rw [e])
      refine BR_dec (fun hgt => ?_) (fun hgt => ?_)
      · refine J10 hkm _ ?_
        rw [if_pos (by omega), wrap_i64 (by omega) (by omega)]
        omega
      · refine J10 hkm _ ?_
        rw [if_neg (by omega)]
    · refine ⟨_, _, _, g7.cell c1, ?_⟩
      refine L_law13_PrizeStay_1_rule W _ b169 m (setK B T.n : Nat) d T.z cd y T.z c' T.z (fun b180 n181 v' => Ext v v' ∧ ∃ k : Nat, k ≤ T.z ∧ n181 = k ∧ (b180 = false → ∀ j, j < k → ¬ (T.pz j).kind = 4)) (fun _ n181 _ => ((T.z : Int) - n181).toNat) false 0 v ⟨Ext.refl _, 0, by omega, rfl, fun _ j hj => by omega⟩ ?_
      rintro b180 n181 v' ⟨ev, k2, hk2, rfl, hcl⟩
      unfold B_law13_PrizeStay_1
      have gv := g7.trans ev
      refine BR_dec (fun hlt2 => ?_) (fun hlt2 => ?_)
      · have hkz : k2 < T.z := by omega
        obtain ⟨az, v0, v1, v2⟩ := pz_row (ry gv) hkz
        refine IXS_at v0 hkz ?_
        refine ⟨_, v1, _, v2, ?_⟩
        refine nw2 zc_50 rfl rfl fun v3 j3 y3 p3 p4 => ?_
        have fin : ∀ b' : Bool, (b' = false → b180 = false ∧ ¬ (T.pz k2).kind = 4) → J_law13_PrizeStay_11 W (endK K E) b169 m (setK B T.n : Nat) d T.z cd y T.z c' T.z (fun vs => N_law13_PrizeStay_1 (fun b180 n181 v' => Ext v v' ∧ ∃ k : Nat, k ≤ T.z ∧ n181 = k ∧ (b180 = false → ∀ j, j < k → ¬ (T.pz j).kind = 4)) (fun _ n181 _ => ((T.z : Int) - n181).toNat) b180 k2 v' vs) b' k2 v3 := by
          intro b' hb'
          unfold J_law13_PrizeStay_11
          refine ⟨rfl, _, _, rfl, ⟨ev.trans j3, k2 + 1, hkz, wrap_succ (by omega), fun hf j hj => ?_⟩, ms_succ hkz (by omega)⟩
          obtain ⟨q1, q2⟩ := hb' hf
          by_cases e : j = k2
          · rw [e]; exact q2
          · exact hcl q1 j (by omega)
        refine BR_bool (fun _ => fin true (fun hh => by cases hh)) (fun hb0 => ?_)
        refine ⟨_, p3.cell, ?_⟩
        exact fin _ (fun hh => ⟨hb0, by simpa using hh⟩)
      · have hkz : k2 = T.z := by omega
        subst hkz
        refine L_law13_PrizeStay_2_rule W _ b169 m (setK B T.n : Nat) d T.z cd T.z (fun b188 n189 v2 => v2 = v' ∧ ∃ k : Nat, k ≤ T.z ∧ n189 = k ∧ (b188 = false → (∀ j, j < T.z → ¬ (T.pz j).kind = 4) ∧ ∀ j, j < k → (manL (dueP T)).getD j 0 ≠ (m : Nat))) (fun _ n189 _ => ((T.z : Int) - n189).toNat) b180 0 v' ⟨rfl, 0, by omega, rfl, fun hf => ⟨hcl hf, fun j hj => by omega⟩⟩ ?_
        rintro b188 n189 v2 ⟨rfl, k3, hk3, rfl, hcl3⟩
        unfold B_law13_PrizeStay_2
        refine BR_dec (fun hlt3 => ?_) (fun hlt3 => ?_)
        · have hkz : k3 < T.z := by omega
          obtain ⟨a, ha, ca⟩ := row_int (rd (e37.trans ev)) (by rw [due_len]; exact hkz : k3 < (manL (dueP T)).length)
          refine IXS_at ha hkz ?_
          refine ⟨_, ca, ?_⟩
          have fin : ∀ b' : Bool, (b' = false → b188 = false ∧ (manL (dueP T)).getD k3 0 ≠ (m : Nat)) → J_law13_PrizeStay_12 W (endK K E) b169 m (setK B T.n : Nat) d T.z cd T.z (fun vs => N_law13_PrizeStay_2 (fun b188 n189 v3 => v3 = v2 ∧ ∃ k : Nat, k ≤ T.z ∧ n189 = k ∧ (b188 = false → (∀ j, j < T.z → ¬ (T.pz j).kind = 4) ∧ ∀ j, j < k → (manL (dueP T)).getD j 0 ≠ (m : Nat))) (fun _ n189 _ => ((T.z : Int) - n189).toNat) b188 k3 v2 vs) b' k3 v2 := by
            intro b' hb'
            unfold J_law13_PrizeStay_12
            refine ⟨rfl, _, _, rfl, ⟨rfl, k3 + 1, hkz, wrap_succ (by omega), fun hf => ?_⟩, ms_succ hkz (by omega)⟩
            obtain ⟨q1, q2⟩ := hb' hf
            obtain ⟨q3, q4⟩ := hcl3 q1
            refine ⟨q3, fun j hj => ?_⟩
            by_cases e : j = k3
            · rw [e]; exact q2
            · exact q4 j (by omega)
          refine BR_bool (fun _ => fin true (fun hh => by cases hh)) (fun hb0 => ?_)
          exact fin _ (fun hh => ⟨hb0, fun e => by rw [e] at hh; simp at hh⟩)
        · have hkz : k3 = T.z := by omega
          subst hkz
          refine BR_bool (fun _ => c_awake' gv fun v3 ev3 => h v3 (e1.trans ev3)) (fun hb0 => ?_)
          obtain ⟨q1, q2⟩ := hcl3 hb0
          have hnc : noClub T = true := by
            unfold noClub
            rw [List.all_eq_true]
            intro z hz
            obtain ⟨i, hi, e⟩ := List.mem_iff_getElem.1 hz
            have := q1 i hi
            unfold PT.pz at this
            rw [getD_lt hi, e] at this
            simpa using this
          have hmd : ¬ some m ∈ dueP T := fun hh => by
            obtain ⟨i, hi, e⟩ := List.mem_iff_getElem.1 hh
            have hiz : i < T.z := by rw [show (dueP T).length = T.z from dueL_len T T.z] at hi; exact hi
            have := q2 i hiz
            rw [man_getD hi, getD_lt hi, e] at this
            exact this rfl
          have h0 := stay_none hok hm h2 hnc hmd
          rw [hBB] at h0
          rw [h0]
          refine BR_tt rfl ?_
          exact c_awake' gv fun v3 ev3 => h v3 (e1.trans ev3)
  refine BR_bool (fun _ => J8 true s2 e2 (fun hh => by cases hh)) (fun hf => ?_)
  refine ⟨_, _, _, e2.cell c0, _, _, _, e2.cell c1, ?_⟩
  refine f_Prizes (rx e2) (ry e2) fun s3 e3 => ?_
  try simp only [TUP_mk, AGG_mk, HD_mk, NL_mk, TYI_mk, TYB_mk, TYP_mk, TYL_mk, TYS_mk, TYM_mk, SO_mk, NX_mk, endK_mk, endK_mk', add_0]
  exact J8 _ s3 (e2.trans e3) (fun hh => by simpa using hh)
end
end Go.Proofs.Ytfaeokcbfnlgbaa.G
