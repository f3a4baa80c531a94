import Derived.Test.YtfaeokcbfnlgbaaC3
/- Each prize of the due giving goes to somebody who can have it, of the best club if it is for a club; nobody gets two; whoever has a lesser place and could have it has one that was given before, or is of another club; and it is nobody's only if all who could have it have one. -/
/- More of the functions' shallow texts, by gen.py. -/
set_option linter.unusedVariables false
set_option maxRecDepth 100000
namespace Go.Proofs.Ytfaeokcbfnlgbaa.G
open Go.V
def an_14 : Nat → Ann := fun b => match b with
  | _ => {}
abbrev rv_14 : List ResultVar := [.tmp 0]
abbrev rs_14 : List Nat := [147, 0]
def J_law13_awake_0 (W : World) (R : Ending → Hp → Prop) (b212 : Bool) (n151 : Int) (n170 : Int) (n173 : Int) (n192 : Int) (n195 : Int) : Hp → Prop :=
  BR b212
    (BR (n151 == 0)
      (BR (n170 == 24)
        (BR (n173 == 0)
          (BR (n192 == 3)
            (R (.returned (.bool (n195 == 0))))
            (R (.returned (.bool false))))
          (R (.returned (.bool false))))
        (R (.returned (.bool false))))
      (R (.returned (.bool false))))
    (R (.returned (.bool false)))
def J_law13_awake_1 (W : World) (R : Ending → Hp → Prop) (b207 : Bool) (n143 : Int) (x146 : Option Addr) (l147 : Nat) (c148 : Nat) (n151 : Int) (n170 : Int) (n173 : Int) (n192 : Int) (n195 : Int) : Hp → Prop :=
  BR b207
    (R (.returned (.bool false)))
    (BR (n143 == 5)
      (NEW 3 [(.int .i64 0), (.int .i64 2), (.int .i64 1), (.int .i64 4), (.int .i64 3)] fun B208 =>
        CALL Pg W F_ref13_Ints [(.slice x146 l147 c148), (.slice (some ⟨B208, 0, none⟩) 5 5)]
          (fun v209 => TYB v209 fun b211 =>
            J_law13_awake_0 W R b211 n151 n170 n173 n192 n195)
            (fun e210 => R (.panicked e210)))
      (J_law13_awake_0 W R false n151 n170 n173 n192 n195))
def J_law13_awake_2 (W : World) (R : Ending → Hp → Prop) (b206 : Bool) (n143 : Int) (x146 : Option Addr) (l147 : Nat) (c148 : Nat) (n151 : Int) (n170 : Int) (n173 : Int) (n192 : Int) (n195 : Int) (n124 : Int) : Hp → Prop :=
  BR b206
    (J_law13_awake_1 W R true n143 x146 l147 c148 n151 n170 n173 n192 n195)
    (J_law13_awake_1 W R (n124 != 0) n143 x146 l147 c148 n151 n170 n173 n192 n195)
def J_law13_awake_3 (W : World) (R : Ending → Hp → Prop) (b205 : Bool) (n143 : Int) (x146 : Option Addr) (l147 : Nat) (c148 : Nat) (n151 : Int) (n170 : Int) (n173 : Int) (n192 : Int) (n195 : Int) (n124 : Int) (n121 : Int) : Hp → Prop :=
  BR b205
    (J_law13_awake_2 W R true n143 x146 l147 c148 n151 n170 n173 n192 n195 n124)
    (J_law13_awake_2 W R (n121 != 290) n143 x146 l147 c148 n151 n170 n173 n192 n195 n124)
def J_law13_awake_4 (W : World) (R : Ending → Hp → Prop) (b204 : Bool) (n143 : Int) (x146 : Option Addr) (l147 : Nat) (c148 : Nat) (n151 : Int) (n170 : Int) (n173 : Int) (n192 : Int) (n195 : Int) (n124 : Int) (n121 : Int) (x116 : Option Addr) (l117 : Nat) (c118 : Nat) : Hp → Prop :=
  BR b204
    (J_law13_awake_3 W R true n143 x146 l147 c148 n151 n170 n173 n192 n195 n124 n121)
    (NEW 3 [(.int .i64 80), (.int .i64 100), (.int .i64 50), (.int .i64 20), (.int .i64 40)] fun B213 =>
      CALL Pg W F_ref13_Ints [(.slice x116 l117 c118), (.slice (some ⟨B213, 0, none⟩) 5 5)]
        (fun v214 => TYB v214 fun b216 =>
          J_law13_awake_3 W R (!b216) n143 x146 l147 c148 n151 n170 n173 n192 n195 n124 n121)
          (fun e215 => R (.panicked e215)))
def J_law13_awake_5 (W : World) (R : Ending → Hp → Prop) (b203 : Bool) (n143 : Int) (x146 : Option Addr) (l147 : Nat) (c148 : Nat) (n151 : Int) (n170 : Int) (n173 : Int) (n192 : Int) (n195 : Int) (n124 : Int) (n121 : Int) (x116 : Option Addr) (l117 : Nat) (c118 : Nat) (n97 : Int) : Hp → Prop :=
  BR b203
    (J_law13_awake_4 W R true n143 x146 l147 c148 n151 n170 n173 n192 n195 n124 n121 x116 l117 c118)
    (J_law13_awake_4 W R (n97 != 0) n143 x146 l147 c148 n151 n170 n173 n192 n195 n124 n121 x116 l117 c118)
def J_law13_awake_6 (W : World) (R : Ending → Hp → Prop) (b202 : Bool) (n143 : Int) (x146 : Option Addr) (l147 : Nat) (c148 : Nat) (n151 : Int) (n170 : Int) (n173 : Int) (n192 : Int) (n195 : Int) (n124 : Int) (n121 : Int) (x116 : Option Addr) (l117 : Nat) (c118 : Nat) (n97 : Int) (n94 : Int) : Hp → Prop :=
  BR b202
    (J_law13_awake_5 W R true n143 x146 l147 c148 n151 n170 n173 n192 n195 n124 n121 x116 l117 c118 n97)
    (J_law13_awake_5 W R (n94 != 5) n143 x146 l147 c148 n151 n170 n173 n192 n195 n124 n121 x116 l117 c118 n97)
def J_law13_awake_7 (W : World) (R : Ending → Hp → Prop) (b201 : Bool) (n143 : Int) (x146 : Option Addr) (l147 : Nat) (c148 : Nat) (n151 : Int) (n170 : Int) (n173 : Int) (n192 : Int) (n195 : Int) (n124 : Int) (n121 : Int) (x116 : Option Addr) (l117 : Nat) (c118 : Nat) (n97 : Int) (n94 : Int) (n91 : Int) : Hp → Prop :=
  BR b201
    (J_law13_awake_6 W R true n143 x146 l147 c148 n151 n170 n173 n192 n195 n124 n121 x116 l117 c118 n97 n94)
    (J_law13_awake_6 W R (n91 != 1) n143 x146 l147 c148 n151 n170 n173 n192 n195 n124 n121 x116 l117 c118 n97 n94)
def J_law13_awake_8 (W : World) (R : Ending → Hp → Prop) (b200 : Bool) (n143 : Int) (x146 : Option Addr) (l147 : Nat) (c148 : Nat) (n151 : Int) (n170 : Int) (n173 : Int) (n192 : Int) (n195 : Int) (n124 : Int) (n121 : Int) (x116 : Option Addr) (l117 : Nat) (c118 : Nat) (n97 : Int) (n94 : Int) (n91 : Int) (n72 : Int) : Hp → Prop :=
  BR b200
    (J_law13_awake_7 W R true n143 x146 l147 c148 n151 n170 n173 n192 n195 n124 n121 x116 l117 c118 n97 n94 n91)
    (J_law13_awake_7 W R (n72 != 0) n143 x146 l147 c148 n151 n170 n173 n192 n195 n124 n121 x116 l117 c118 n97 n94 n91)
def J_law13_awake_9 (W : World) (R : Ending → Hp → Prop) (b199 : Bool) (n143 : Int) (x146 : Option Addr) (l147 : Nat) (c148 : Nat) (n151 : Int) (n170 : Int) (n173 : Int) (n192 : Int) (n195 : Int) (n124 : Int) (n121 : Int) (x116 : Option Addr) (l117 : Nat) (c118 : Nat) (n97 : Int) (n94 : Int) (n91 : Int) (n72 : Int) (n69 : Int) : Hp → Prop :=
  BR b199
    (J_law13_awake_8 W R true n143 x146 l147 c148 n151 n170 n173 n192 n195 n124 n121 x116 l117 c118 n97 n94 n91 n72)
    (J_law13_awake_8 W R (n69 != 3) n143 x146 l147 c148 n151 n170 n173 n192 n195 n124 n121 x116 l117 c118 n97 n94 n91 n72)
def J_law13_awake_10 (W : World) (R : Ending → Hp → Prop) (b198 : Bool) (n143 : Int) (x146 : Option Addr) (l147 : Nat) (c148 : Nat) (n151 : Int) (n170 : Int) (n173 : Int) (n192 : Int) (n195 : Int) (n124 : Int) (n121 : Int) (x116 : Option Addr) (l117 : Nat) (c118 : Nat) (n97 : Int) (n94 : Int) (n91 : Int) (n72 : Int) (n69 : Int) (n66 : Int) : Hp → Prop :=
  BR b198
    (J_law13_awake_9 W R true n143 x146 l147 c148 n151 n170 n173 n192 n195 n124 n121 x116 l117 c118 n97 n94 n91 n72 n69)
    (J_law13_awake_9 W R (n66 != 4) n143 x146 l147 c148 n151 n170 n173 n192 n195 n124 n121 x116 l117 c118 n97 n94 n91 n72 n69)
def J_law13_awake_11 (W : World) (R : Ending → Hp → Prop) (b197 : Bool) (n143 : Int) (x146 : Option Addr) (l147 : Nat) (c148 : Nat) (n151 : Int) (n170 : Int) (n173 : Int) (n192 : Int) (n195 : Int) (n124 : Int) (n121 : Int) (x116 : Option Addr) (l117 : Nat) (c118 : Nat) (n97 : Int) (n94 : Int) (n91 : Int) (n72 : Int) (n69 : Int) (n66 : Int) (n46 : Int) : Hp → Prop :=
  BR b197
    (J_law13_awake_10 W R true n143 x146 l147 c148 n151 n170 n173 n192 n195 n124 n121 x116 l117 c118 n97 n94 n91 n72 n69 n66)
    (J_law13_awake_10 W R (n46 != 0) n143 x146 l147 c148 n151 n170 n173 n192 n195 n124 n121 x116 l117 c118 n97 n94 n91 n72 n69 n66)
def J_law13_awake_12 (W : World) (R : Ending → Hp → Prop) (b196 : Bool) (n143 : Int) (x146 : Option Addr) (l147 : Nat) (c148 : Nat) (n151 : Int) (n170 : Int) (n173 : Int) (n192 : Int) (n195 : Int) (n124 : Int) (n121 : Int) (x116 : Option Addr) (l117 : Nat) (c118 : Nat) (n97 : Int) (n94 : Int) (n91 : Int) (n72 : Int) (n69 : Int) (n66 : Int) (n46 : Int) (x41 : Option Addr) (l42 : Nat) (c43 : Nat) : Hp → Prop :=
  BR b196
    (J_law13_awake_11 W R true n143 x146 l147 c148 n151 n170 n173 n192 n195 n124 n121 x116 l117 c118 n97 n94 n91 n72 n69 n66 n46)
    (NEW 3 [(.int .i64 1), (.int .i64 2), (.int .i64 0), (.int .i64 4), (.int .i64 3)] fun B217 =>
      CALL Pg W F_ref13_Ints [(.slice x41 l42 c43), (.slice (some ⟨B217, 0, none⟩) 5 5)]
        (fun v218 => TYB v218 fun b220 =>
          J_law13_awake_11 W R (!b220) n143 x146 l147 c148 n151 n170 n173 n192 n195 n124 n121 x116 l117 c118 n97 n94 n91 n72 n69 n66 n46)
          (fun e219 => R (.panicked e219)))
def T_law13_awake (W : World) (R : Ending → Hp → Prop) : Hp → Prop :=
  CALL Pg W F_law13_sample []
    (fun v1 => AGG v1 fun q3 => HD q3 fun v4 r5 => TYL v4 fun x6 l7 c8 =>
      HD r5 fun v9 r10 => TYL v9 fun x11 l12 c13 =>
        NL r10 <|
          CALL Pg W F_prize_Can [(.agg #[(.slice x6 l7 c8), (.slice x11 l12 c13)]), (.int .i64 3), (.int .i64 2)]
            (fun v14 => TUP v14 fun q16 => HD q16 fun v17 r18 => TYB v17 fun b19 =>
              HD r18 fun v20 r21 => TYI .i64 v20 fun n22 =>
                NL r21 <|
                  CALL Pg W F_law13_sample []
                    (fun v23 => AGG v23 fun q25 => HD q25 fun v26 r27 => TYL v26 fun x28 l29 c30 =>
                      HD r27 fun v31 r32 => TYL v31 fun x33 l34 c35 =>
                        NL r32 <|
                          CALL Pg W F_prize_Due [(.agg #[(.slice x28 l29 c30), (.slice x33 l34 c35)])]
                            (fun v36 => TUP v36 fun q38 => HD q38 fun v39 r40 => TYL v39 fun x41 l42 c43 =>
                              HD r40 fun v44 r45 => TYI .i64 v44 fun n46 =>
                                NL r45 <|
                                  CALL Pg W F_law13_sample []
                                    (fun v47 => AGG v47 fun q49 => HD q49 fun v50 r51 => TYL v50 fun x52 l53 c54 =>
                                      HD r51 fun v55 r56 => TYL v55 fun x57 l58 c59 =>
                                        NL r56 <|
                                          NEW 3 [(.int .i64 1), (.int .i64 2), (.int .i64 0), (.int .i64 4), (.int .i64 (-1))] fun B60 =>
                                            CALL Pg W F_prize_Wrong [(.agg #[(.slice x52 l53 c54), (.slice x57 l58 c59)]), (.slice (some ⟨B60, 0, none⟩) 5 5)]
                                              (fun v61 => TUP v61 fun q63 => HD q63 fun v64 r65 => TYI .i64 v64 fun n66 =>
                                                HD r65 fun v67 r68 => TYI .i64 v67 fun n69 =>
                                                  HD r68 fun v70 r71 => TYI .i64 v70 fun n72 =>
                                                    NL r71 <|
                                                      CALL Pg W F_law13_sample []
                                                        (fun v73 => AGG v73 fun q75 => HD q75 fun v76 r77 => TYL v76 fun x78 l79 c80 =>
                                                          HD r77 fun v81 r82 => TYL v81 fun x83 l84 c85 =>
                                                            NL r82 <|
                                                              CALL Pg W F_prize_Club [(.agg #[(.slice x78 l79 c80), (.slice x83 l84 c85)])]
                                                                (fun v86 => TUP v86 fun q88 => HD q88 fun v89 r90 => TYI .i64 v89 fun n91 =>
                                                                  HD r90 fun v92 r93 => TYI .i64 v92 fun n94 =>
                                                                    HD r93 fun v95 r96 => TYI .i64 v95 fun n97 =>
                                                                      NL r96 <|
                                                                        CALL Pg W F_law13_sample []
                                                                          (fun v98 => AGG v98 fun q100 => HD q100 fun v101 r102 => TYL v101 fun x103 l104 c105 =>
                                                                            HD r102 fun v106 r107 => TYL v106 fun x108 l109 c110 =>
                                                                              NL r107 <|
                                                                                CALL Pg W F_prize_Worth [(.agg #[(.slice x103 l104 c105), (.slice x108 l109 c110)]), (.slice x41 l42 c43)]
                                                                                  (fun v111 => TUP v111 fun q113 => HD q113 fun v114 r115 => TYL v114 fun x116 l117 c118 =>
                                                                                    HD r115 fun v119 r120 => TYI .i64 v119 fun n121 =>
                                                                                      HD r120 fun v122 r123 => TYI .i64 v122 fun n124 =>
                                                                                        NL r123 <|
                                                                                          CALL Pg W F_law13_sample []
                                                                                            (fun v125 => AGG v125 fun q127 => HD q127 fun v128 r129 => TYL v128 fun x130 l131 c132 =>
                                                                                              HD r129 fun v133 r134 => TYL v133 fun x135 l136 c137 =>
                                                                                                NL r134 <|
                                                                                                  CALL Pg W F_prize_Most [(.agg #[(.slice x130 l131 c132), (.slice x135 l136 c137)])]
                                                                                                    (fun v138 => TUP v138 fun q140 => HD q140 fun v141 r142 => TYI .i64 v141 fun n143 =>
                                                                                                      HD r142 fun v144 r145 => TYL v144 fun x146 l147 c148 =>
                                                                                                        HD r145 fun v149 r150 => TYI .i64 v149 fun n151 =>
                                                                                                          NL r150 <|
                                                                                                            CALL Pg W F_law13_sample []
                                                                                                              (fun v152 => AGG v152 fun q154 => HD q154 fun v155 r156 => TYL v155 fun x157 l158 c159 =>
                                                                                                                HD r156 fun v160 r161 => TYL v160 fun x162 l163 c164 =>
                                                                                                                  NL r161 <|
                                                                                                                    CALL Pg W F_prize_Stay [(.agg #[(.slice x157 l158 c159), (.slice x162 l163 c164)]), (.int .i64 0)]
                                                                                                                      (fun v165 => TUP v165 fun q167 => HD q167 fun v168 r169 => TYI .i64 v168 fun n170 =>
                                                                                                                        HD r169 fun v171 r172 => TYI .i64 v171 fun n173 =>
                                                                                                                          NL r172 <|
                                                                                                                            CALL Pg W F_law13_sample []
                                                                                                                              (fun v174 => AGG v174 fun q176 => HD q176 fun v177 r178 => TYL v177 fun x179 l180 c181 =>
                                                                                                                                HD r178 fun v182 r183 => TYL v182 fun x184 l185 c186 =>
                                                                                                                                  NL r183 <|
                                                                                                                                    CALL Pg W F_prize_For [(.agg #[(.slice x179 l180 c181), (.slice x184 l185 c186)]), (.int .i64 0)]
                                                                                                                                      (fun v187 => TUP v187 fun q189 => HD q189 fun v190 r191 => TYI .i64 v190 fun n192 =>
                                                                                                                                        HD r191 fun v193 r194 => TYI .i64 v193 fun n195 =>
                                                                                                                                          NL r194 <|
                                                                                                                                            BR b19
                                                                                                                                              (J_law13_awake_12 W R true n143 x146 l147 c148 n151 n170 n173 n192 n195 n124 n121 x116 l117 c118 n97 n94 n91 n72 n69 n66 n46 x41 l42 c43)
                                                                                                                                              (J_law13_awake_12 W R (n22 != 0) n143 x146 l147 c148 n151 n170 n173 n192 n195 n124 n121 x116 l117 c118 n97 n94 n91 n72 n69 n66 n46 x41 l42 c43))
                                                                                                                                        (fun e188 => R (.panicked e188)))
                                                                                                                                (fun e175 => R (.panicked e175)))
                                                                                                                        (fun e166 => R (.panicked e166)))
                                                                                                                (fun e153 => R (.panicked e153)))
                                                                                                      (fun e139 => R (.panicked e139)))
                                                                                              (fun e126 => R (.panicked e126)))
                                                                                    (fun e112 => R (.panicked e112)))
                                                                            (fun e99 => R (.panicked e99)))
                                                                  (fun e87 => R (.panicked e87)))
                                                          (fun e74 => R (.panicked e74)))
                                                (fun e62 => R (.panicked e62)))
                                      (fun e48 => R (.panicked e48)))
                              (fun e37 => R (.panicked e37)))
                      (fun e24 => R (.panicked e24)))
              (fun e15 => R (.panicked e15)))
      (fun e2 => R (.panicked e2))
theorem T_law13_awake_eq (W : World) (R : Ending → Hp → Prop) : vfun Pg W an_14 Try.f14 [] R = T_law13_awake W R := by kernel_rfl
theorem does_law13_awake (W : World) (R : Ending → Hp → Prop) (s : Hp) (h : T_law13_awake W R s) : Does Pg W F_law13_awake #[] s R :=
  does_of_vfun Pg W an_14 Try.func14 rfl (by kernel_rfl) (by rw [T_law13_awake_eq]; exact h)
end Go.Proofs.Ytfaeokcbfnlgbaa.G

/- Prize: what the document fixes. -/
set_option linter.unusedSimpArgs false
set_option linter.unusedVariables false
set_option maxRecDepth 20000
namespace Go.Proofs.Ytfaeokcbfnlgbaa.G
open Go.V
def pz2 (m : Pz) : List Value := [.int .i64 m.kind, .int .i64 m.worth]
def pzV (l : List Pz) : List Value := l.flatMap pz2
theorem pzV_len : ∀ l : List Pz, (pzV l).length = l.length * 2
  | [] => rfl
  | x :: l => by
    have ih := pzV_len l
    show (pz2 x ++ pzV l).length = _
    rw [List.length_append, ih, List.length_cons]
    show 2 + _ = _
    omega
theorem pzV_one (l : List Pz) : ∀ v ∈ pzV l, oneCell v = true := by
  intro v hv
  obtain ⟨m, _, h⟩ := List.mem_flatMap.1 hv
  simp [pz2] at h
  rcases h with rfl | rfl <;> rfl
theorem pzV_get : ∀ (l : List Pz) (k : Nat) (h : k < l.length), (pzV l)[k * 2]? = some (.int .i64 l[k].kind) ∧ (pzV l)[k * 2 + 1]? = some (.int .i64 l[k].worth)
  | [], k, h => by simp at h
  | x :: l, 0, h => ⟨rfl, rfl⟩
  | x :: l, k + 1, h => by
    obtain ⟨h1, h2⟩ := pzV_get l k (by simpa using h)
    have e : ∀ j : Nat, (pzV (x :: l))[2 + j]? = (pzV l)[j]? := fun j => by
      show (pz2 x ++ pzV l)[2 + j]? = _
      rw [List.getElem?_append_right (show (pz2 x).length ≤ 2 + j by show 2 ≤ _; omega)]
      congr 1
      show 2 + j - 2 = j
      omega
    refine ⟨?_, ?_⟩
    · rw [show (k + 1) * 2 = 2 + k * 2 by omega, e, h1]; rfl
    · rw [show (k + 1) * 2 + 1 = 2 + (k * 2 + 1) by omega, e, h2]; rfl
theorem row_pz {s : Hp} {x : Option Addr} {l : List Pz} (h : RowAt s x (pzV l)) : PzAt s x l := fun i hi => by
  obtain ⟨g1, g2⟩ := pzV_get l i hi
  obtain ⟨a, h0, h1⟩ := row_get h g1
  obtain ⟨b, k0, h2⟩ := row_get h g2
  rw [h0] at k0; cases k0
  exact ⟨a, h0, by rw [addr_add]; exact h1, by rw [addr_add]; exact h2⟩
theorem pz_row' {s : Hp} {x : Option Addr} {l : List Pz} (h : PzAt s x l) : RowAt s x (pzV l) := fun i hi => by
  have hi' := hi
  rw [pzV_len] at hi'
  have hk : i / 2 < l.length := by omega
  obtain ⟨a, h0, h1, h2⟩ := h (i / 2) hk
  obtain ⟨g1, g2⟩ := pzV_get l (i / 2) hk
  refine ⟨a, h0, ?_⟩
  rw [Nat.mul_one]
  rcases Nat.mod_two_eq_zero_or_one i with e | e
  · have e' : i / 2 * 2 = i := by omega
    rw [addr_add] at h1
    simp only [e', Nat.add_zero] at h1 g1
    rw [h1, ← g1, List.getElem?_eq_getElem hi]
  · have e' : i / 2 * 2 + 1 = i := by omega
    rw [addr_add] at h2
    simp only [e'] at h2 g2
    rw [h2, ← g2, List.getElem?_eq_getElem hi]
/-- The prizes of the document's examples. -/
def SP : PT := ⟨[⟨2, 1, false, false⟩, ⟨1, 2, false, false⟩, ⟨3, 1, true, false⟩, ⟨5, 0, true, true⟩, ⟨4, 2, false, true⟩], [⟨0, 100⟩, ⟨1, 50⟩, ⟨4, 80⟩, ⟨2, 40⟩, ⟨3, 20⟩]⟩
theorem sp_can : canR SP 3 2 = (false, 0) := by decide +kernel
theorem sp_due : dueR SP = ([1, 2, 0, 4, 3], 0) := by decide +kernel
theorem sp_wrong : wrongR SP [1, 2, 0, 4, -1] = (4, 3, 0) := by decide +kernel
theorem sp_club : clubR SP = (1, 5, 0) := by decide +kernel
theorem sp_worth : worthR SP [1, 2, 0, 4, 3] = ([80, 100, 50, 20, 40], 290, 0) := by decide +kernel
theorem sp_most : mostR SP = (5, [0, 2, 1, 4, 3], 0) := by decide +kernel
theorem sp_stay : stayR SP 0 = (24, 0) := by decide +kernel
theorem sp_for : forR SP 0 = (3, 0) := by decide +kernel
section
variable {W : World} {K : VK} {E : List PanicEntry → Hp → Prop} {s : Hp} {T : PT}
theorem c_far {x y q : Option Addr} {c c' l cq : Nat} (h : ∀ s' b, Ext s s' → (b = false → T.n ≤ 40 ∧ T.z ≤ 40 ∧ l ≤ 40) → K (.bool b) s') :
    CALL Pg W F_law13_far [.agg #[.slice x T.n c, .slice y T.z c'], .slice q l cq] K E s := by
  refine does_law13_far W x T.n c y T.z c' q l cq _ s ?_
  unfold T_law13_far
  refine ne2 fun s1 e1 z1 o1 o2 => ?_
  refine ⟨_, _, _, o1.cell, ?_⟩
  refine BR_dec (fun h1 => h s1 true e1 (fun hh => by cases hh)) (fun h1 => ?_)
  refine ⟨_, _, _, o2.cell, ?_⟩
  refine BR_dec (fun h2 => h s1 true e1 (fun hh => by cases hh)) (fun h2 => ?_)
  exact h s1 _ e1 (fun hh => by have := of_decide_eq_false hh; omega)
theorem wr2 {a : Addr} {v0 v1 : Value} {K : Hp → Prop} (h0 : oneCell v0 = true) (h1 : oneCell v1 = true) (ha : ∀ j, j < 2 → ∃ y, Own s (a.add j) y) (h : ∀ s', Kp (· = a.block) s s' → s'.size = s.size → Own s' (a.add 0) v0 → Own s' (a.add 1) v1 → K s') :
    (WR (a.add 0) v0 <| WR (a.add 1) v1 <| K) s := by
  show wrN [v0, v1] a 0 K s
  refine wrN_rule _ a 0 K s (fun i hi => ?_) ?_ ?_
  · rw [Nat.zero_add]; exact ha i hi
  · intro w hw
    simp at hw
    rcases hw with rfl | rfl <;> assumption
  · intro s' k z ho _
    exact h s' k z (ho 0 (by simp)) (ho 1 (by simp))
theorem c_sample (h : ∀ s' x y, Ext s s' → MnAt s' x SP.men → PzAt s' y SP.list → K (.agg #[.slice x 5 5, .slice y 5 5]) s') : CALL Pg W F_law13_sample [] K E s := by
  refine does_law13_sample W _ s ?_
  unfold T_law13_sample
  refine nz2 zc_25 fun s1 e1 z1 q1 q2 => ?_
  refine NEW_rule fun s2 e2 z2 n2 _ => ?_
  refine NEW_rule fun s3 e3 z3 n3 _ => ?_
  have e13 := e2.trans e3
  have hs12 : s.size < s1.size := by omega
  refine wr2 (a := ⟨s.size, 0, none⟩) rfl rfl (fun j hj => ?_) fun t k z o0 o1 => ?_
  · match j, hj with
    | 0, _ => exact ⟨_, e13.own q1⟩
    | 1, _ => exact ⟨_, e13.own q2⟩
  · refine ⟨_, _, _, o0.cell, _, _, _, o1.cell, ?_⟩
    refine h t _ _ (ext_kp (e1.trans e13) (Nat.le_refl _) k) (row_mn ?_) (row_pz ?_)
    · exact ((row_new (vs := mnV SP.men) n2).ext e3).keep k (fun a ha => by cases ha; show ¬ s1.size = s.size; omega)
    · exact (row_new (vs := pzV SP.list) n3).keep k (fun a ha => by cases ha; show ¬ s2.size = s.size; have := e2.1; omega)
theorem x_Can {x y : Option Addr} {c c' : Nat} (hx : MnAt s x SP.men) (hy : PzAt s y SP.list) (h : ∀ s', Ext s s' → K (.tuple #[.bool false, .int .i64 0]) s') : CALL Pg W F_prize_Can [.agg #[.slice x 5 c, .slice y 5 c'], .int .i64 3, .int .i64 2] K E s :=
  c_Can (T := SP) (m := 3) (z := 2) hx hy (by rw [sp_can]; exact h)
theorem x_Due {x y : Option Addr} {c c' : Nat} (hx : MnAt s x SP.men) (hy : PzAt s y SP.list) (h : ∀ s' q cq, Ext s s' → RowAt s' q (ints [1, 2, 0, 4, 3]) → K (.tuple #[.slice q 5 cq, .int .i64 0]) s') : CALL Pg W F_prize_Due [.agg #[.slice x 5 c, .slice y 5 c']] K E s :=
  c_Due (T := SP) hx hy (by rw [sp_due]; exact fun s' q cq e f => h s' q cq e f.row)
theorem x_Wrong {x y q : Option Addr} {c c' cq : Nat} (hx : MnAt s x SP.men) (hy : PzAt s y SP.list) (hq : RowAt s q (ints [1, 2, 0, 4, -1])) (h : ∀ s', Ext s s' → K (.tuple #[.int .i64 4, .int .i64 3, .int .i64 0]) s') : CALL Pg W F_prize_Wrong [.agg #[.slice x 5 c, .slice y 5 c'], .slice q 5 cq] K E s :=
  c_Wrong (T := SP) (ds := [1, 2, 0, 4, -1]) hx hy hq (by rw [sp_wrong]; exact h)
theorem x_Club {x y : Option Addr} {c c' : Nat} (hx : MnAt s x SP.men) (hy : PzAt s y SP.list) (h : ∀ s', Ext s s' → K (.tuple #[.int .i64 1, .int .i64 5, .int .i64 0]) s') : CALL Pg W F_prize_Club [.agg #[.slice x 5 c, .slice y 5 c']] K E s :=
  c_Club (T := SP) hx hy (by rw [sp_club]; exact h)
theorem x_Worth {x y q : Option Addr} {c c' cq : Nat} (hx : MnAt s x SP.men) (hy : PzAt s y SP.list) (hq : RowAt s q (ints [1, 2, 0, 4, 3])) (h : ∀ s' w cw, Ext s s' → RowAt s' w (ints [80, 100, 50, 20, 40]) → K (.tuple #[.slice w 5 cw, .int .i64 290, .int .i64 0]) s') : CALL Pg W F_prize_Worth [.agg #[.slice x 5 c, .slice y 5 c'], .slice q 5 cq] K E s :=
  c_Worth (T := SP) (ds := [1, 2, 0, 4, 3]) hx hy hq (by rw [sp_worth]; exact fun s' w cw e f => h s' w cw e f.row)
theorem x_Most {x y : Option Addr} {c c' : Nat} (hx : MnAt s x SP.men) (hy : PzAt s y SP.list) (h : ∀ s' q cq, Ext s s' → RowAt s' q (ints [0, 2, 1, 4, 3]) → K (.tuple #[.int .i64 5, .slice q 5 cq, .int .i64 0]) s') : CALL Pg W F_prize_Most [.agg #[.slice x 5 c, .slice y 5 c']] K E s :=
  c_Most (T := SP) hx hy (by rw [sp_most]; exact fun s' q cq e f => h s' q cq e f.row)
theorem x_Stay {x y : Option Addr} {c c' : Nat} (hx : MnAt s x SP.men) (hy : PzAt s y SP.list) (h : ∀ s', Ext s s' → K (.tuple #[.int .i64 24, .int .i64 0]) s') : CALL Pg W F_prize_Stay [.agg #[.slice x 5 c, .slice y 5 c'], .int .i64 0] K E s :=
  c_Stay (T := SP) (m := 0) hx hy (by rw [sp_stay]; exact h)
theorem x_For {x y : Option Addr} {c c' : Nat} (hx : MnAt s x SP.men) (hy : PzAt s y SP.list) (h : ∀ s', Ext s s' → K (.tuple #[.int .i64 3, .int .i64 0]) s') : CALL Pg W F_prize_For [.agg #[.slice x 5 c, .slice y 5 c'], .int .i64 0] K E s :=
  c_For (T := SP) (m := 0) hx hy (by rw [sp_for]; exact h)
theorem c_awake (h : ∀ s', Ext s s' → K (.bool true) s') : CALL Pg W F_law13_awake [] K E s := by
  refine does_law13_awake W _ s ?_
  unfold T_law13_awake
  refine c_sample fun s1 x1 y1 e1 r1 q1 => ?_
  try simp only [TUP_mk, AGG_mk, HD_mk, NL_mk, TYI_mk, TYB_mk, TYP_mk, TYL_mk, TYS_mk, TYM_mk, SO_mk, NX_mk, endK_mk, endK_mk', add_0]
  refine x_Can r1 q1 fun s2 e2 => ?_
  try simp only [TUP_mk, AGG_mk, HD_mk, NL_mk, TYI_mk, TYB_mk, TYP_mk, TYL_mk, TYS_mk, TYM_mk, SO_mk, NX_mk, endK_mk, endK_mk', add_0]
  refine c_sample fun s3 x3 y3 e3 r3 q3 => ?_
  try simp only [TUP_mk, AGG_mk, HD_mk, NL_mk, TYI_mk, TYB_mk, TYP_mk, TYL_mk, TYS_mk, TYM_mk, SO_mk, NX_mk, endK_mk, endK_mk', add_0]
  refine x_Due r3 q3 fun s4 d4 cd4 e4 w4 => ?_
  try simp only [TUP_mk, AGG_mk, HD_mk, NL_mk, TYI_mk, TYB_mk, TYP_mk, TYL_mk, TYS_mk, TYM_mk, SO_mk, NX_mk, endK_mk, endK_mk', add_0]
  refine c_sample fun s5 x5 y5 e5 r5 q5 => ?_
  try simp only [TUP_mk, AGG_mk, HD_mk, NL_mk, TYI_mk, TYB_mk, TYP_mk, TYL_mk, TYS_mk, TYM_mk, SO_mk, NX_mk, endK_mk, endK_mk', add_0]
  refine NEW_rule fun s6 e6 z6 n6 _ => ?_
  refine x_Wrong (r5.ext e6) (q5.ext e6) (row_new (vs := ints [1, 2, 0, 4, -1]) n6) fun s7 e7 => ?_
  try simp only [TUP_mk, AGG_mk, HD_mk, NL_mk, TYI_mk, TYB_mk, TYP_mk, TYL_mk, TYS_mk, TYM_mk, SO_mk, NX_mk, endK_mk, endK_mk', add_0]
  refine c_sample fun s8 x8 y8 e8 r8 q8 => ?_
  try simp only [TUP_mk, AGG_mk, HD_mk, NL_mk, TYI_mk, TYB_mk, TYP_mk, TYL_mk, TYS_mk, TYM_mk, SO_mk, NX_mk, endK_mk, endK_mk', add_0]
  refine x_Club r8 q8 fun s9 e9 => ?_
  try simp only [TUP_mk, AGG_mk, HD_mk, NL_mk, TYI_mk, TYB_mk, TYP_mk, TYL_mk, TYS_mk, TYM_mk, SO_mk, NX_mk, endK_mk, endK_mk', add_0]
  refine c_sample fun t1 x11 y11 f1 r11 q11 => ?_
  try simp only [TUP_mk, AGG_mk, HD_mk, NL_mk, TYI_mk, TYB_mk, TYP_mk, TYL_mk, TYS_mk, TYM_mk, SO_mk, NX_mk, endK_mk, endK_mk', add_0]
  have g5 := e5.trans (e6.trans (e7.trans (e8.trans (e9.trans f1))))
  refine x_Worth r11 q11 (w4.ext g5) fun t2 w2 cw2 f2 v2 => ?_
  try simp only [TUP_mk, AGG_mk, HD_mk, NL_mk, TYI_mk, TYB_mk, TYP_mk, TYL_mk, TYS_mk, TYM_mk, SO_mk, NX_mk, endK_mk, endK_mk', add_0]
  refine c_sample fun t3 x13 y13 f3 r13 q13 => ?_
  try simp only [TUP_mk, AGG_mk, HD_mk, NL_mk, TYI_mk, TYB_mk, TYP_mk, TYL_mk, TYS_mk, TYM_mk, SO_mk, NX_mk, endK_mk, endK_mk', add_0]
  refine x_Most r13 q13 fun t4 m4 cm4 f4 v4 => ?_
  try simp only [TUP_mk, AGG_mk, HD_mk, NL_mk, TYI_mk, TYB_mk, TYP_mk, TYL_mk, TYS_mk, TYM_mk, SO_mk, NX_mk, endK_mk, endK_mk', add_0]
  refine c_sample fun t5 x15 y15 f5 r15 q15 => ?_
  try simp only [TUP_mk, AGG_mk, HD_mk, NL_mk, TYI_mk, TYB_mk, TYP_mk, TYL_mk, TYS_mk, TYM_mk, SO_mk, NX_mk, endK_mk, endK_mk', add_0]
  refine x_Stay r15 q15 fun t6 f6 => ?_
  try simp only [TUP_mk, AGG_mk, HD_mk, NL_mk, TYI_mk, TYB_mk, TYP_mk, TYL_mk, TYS_mk, TYM_mk, SO_mk, NX_mk, endK_mk, endK_mk', add_0]
  refine c_sample fun t7 x17 y17 f7 r17 q17 => ?_
  try simp only [TUP_mk, AGG_mk, HD_mk, NL_mk, TYI_mk, TYB_mk, TYP_mk, TYL_mk, TYS_mk, TYM_mk, SO_mk, NX_mk, endK_mk, endK_mk', add_0]
  refine x_For r17 q17 fun t8 f8 => ?_
  try simp only [TUP_mk, AGG_mk, HD_mk, NL_mk, TYI_mk, TYB_mk, TYP_mk, TYL_mk, TYS_mk, TYM_mk, SO_mk, NX_mk, endK_mk, endK_mk', add_0]
  have g8 := f5.trans (f6.trans (f7.trans f8))
  have g28 := f3.trans (f4.trans g8)
  have e0t := e1.trans (e2.trans (e3.trans (e4.trans (g5.trans (f2.trans g28)))))
  refine BR_bool (fun hh => by cases hh) (fun _ => ?_)
  unfold J_law13_awake_12
  refine BR_ne (fun hh => absurd rfl hh) (fun _ => ?_)
  refine NEW_rule fun u1 h1 _ n1 _ => ?_
  refine f_Ints (a := [1, 2, 0, 4, 3]) (b := [1, 2, 0, 4, 3]) (w4.ext (g5.trans (f2.trans (g28.trans h1)))) (row_new (vs := ints [1, 2, 0, 4, 3]) n1) rfl rfl (by decide) ?_
  try simp only [TUP_mk, AGG_mk, HD_mk, NL_mk, TYI_mk, TYB_mk, TYP_mk, TYL_mk, TYS_mk, TYM_mk, SO_mk, NX_mk, endK_mk, endK_mk', add_0]
  unfold J_law13_awake_11
  refine BR_bool (fun hh => absurd hh (by decide)) (fun _ => ?_)
  unfold J_law13_awake_10
  refine BR_ne (fun hh => absurd rfl hh) (fun _ => ?_)
  unfold J_law13_awake_9
  refine BR_ne (fun hh => absurd rfl hh) (fun _ => ?_)
  unfold J_law13_awake_8
  refine BR_ne (fun hh => absurd rfl hh) (fun _ => ?_)
  unfold J_law13_awake_7
  refine BR_ne (fun hh => absurd rfl hh) (fun _ => ?_)
  unfold J_law13_awake_6
  refine BR_ne (fun hh => absurd rfl hh) (fun _ => ?_)
  unfold J_law13_awake_5
  refine BR_ne (fun hh => absurd rfl hh) (fun _ => ?_)
  unfold J_law13_awake_4
  refine BR_ne (fun hh => absurd rfl hh) (fun _ => ?_)
  refine NEW_rule fun u2 h2 _ n2 _ => ?_
  refine f_Ints (a := [80, 100, 50, 20, 40]) (b := [80, 100, 50, 20, 40]) (v2.ext (g28.trans (h1.trans h2))) (row_new (vs := ints [80, 100, 50, 20, 40]) n2) rfl rfl (by decide) ?_
  try simp only [TUP_mk, AGG_mk, HD_mk, NL_mk, TYI_mk, TYB_mk, TYP_mk, TYL_mk, TYS_mk, TYM_mk, SO_mk, NX_mk, endK_mk, endK_mk', add_0]
  unfold J_law13_awake_3
  refine BR_bool (fun hh => absurd hh (by decide)) (fun _ => ?_)
  unfold J_law13_awake_2
  refine BR_ne (fun hh => absurd rfl hh) (fun _ => ?_)
  unfold J_law13_awake_1
  refine BR_ne (fun hh => absurd rfl hh) (fun _ => ?_)
  refine BR_eq (fun _ => ?_) (fun hh => absurd rfl hh)
  refine NEW_rule fun u3 h3 _ n3 _ => ?_
  refine f_Ints (a := [0, 2, 1, 4, 3]) (b := [0, 2, 1, 4, 3]) (v4.ext (g8.trans (h1.trans (h2.trans h3)))) (row_new (vs := ints [0, 2, 1, 4, 3]) n3) rfl rfl (by decide) ?_
  try simp only [TUP_mk, AGG_mk, HD_mk, NL_mk, TYI_mk, TYB_mk, TYP_mk, TYL_mk, TYS_mk, TYM_mk, SO_mk, NX_mk, endK_mk, endK_mk', add_0]
  unfold J_law13_awake_0
  refine BR_bool (fun _ => ?_) (fun hh => absurd hh (by decide))
  refine BR_eq (fun _ => ?_) (fun hh => absurd rfl hh)
  refine BR_eq (fun _ => ?_) (fun hh => absurd rfl hh)
  refine BR_eq (fun _ => ?_) (fun hh => absurd rfl hh)
  refine BR_eq (fun _ => ?_) (fun hh => absurd rfl hh)
  exact h u3 (e0t.trans (h1.trans (h2.trans h3)))
theorem c_awake' {s0 : Hp} (e : Ext s0 s) (h : ∀ s', Ext s0 s' → K (.bool true) s') : CALL Pg W F_law13_awake [] K E s := c_awake fun s' e' => h s' (e.trans e')
end
end Go.Proofs.Ytfaeokcbfnlgbaa.G

/- Prize: contracts for valid prizes. -/
set_option linter.unusedSimpArgs false
set_option linter.unusedVariables false
set_option maxRecDepth 20000
namespace Go.Proofs.Ytfaeokcbfnlgbaa.G
open Go.V
theorem due_len (T : PT) : (manL (dueP T)).length = T.z := by unfold manL dueP; rw [List.length_map, dueL_len]
section
variable {W : World} {K : VK} {E : List PanicEntry → Hp → Prop} {s : Hp} {T : PT}
theorem c_DueV {x y : Option Addr} {c c' : Nat} (hok : okP T = true) (hx : MnAt s x T.men) (hy : PzAt s y T.list) (h : ∀ s' q cq, Ext s s' → Fr s.size s' q T.z cq 1 (ints (manL (dueP T))) → K (.tuple #[.slice q T.z cq, .int .i64 0]) s') :
    CALL Pg W F_prize_Due [.agg #[.slice x T.n c, .slice y T.z c']] K E s := by
  refine c_Due hx hy fun s' q cq e f => ?_
  have hD : dueR T = (manL (dueP T), 0) := by unfold dueR; rw [if_pos hok]
  have hl := due_len T
  rw [hD] at f ⊢
  simp only [hl] at f ⊢
  exact h s' q cq e f
theorem c_DueN {x y : Option Addr} {c c' : Nat} (hok : okP T = false) (hx : MnAt s x T.men) (hy : PzAt s y T.list) (h : ∀ s' q cq, Ext s s' → K (.tuple #[.slice q 0 cq, .int .i64 1]) s') :
    CALL Pg W F_prize_Due [.agg #[.slice x T.n c, .slice y T.z c']] K E s := by
  refine c_Due hx hy fun s' q cq e f => ?_
  have hD : dueR T = ([], 1) := by unfold dueR; rw [hok]; rfl
  rw [hD]
  exact h s' q cq e
theorem c_ClubN {x y : Option Addr} {c c' : Nat} (hok : okP T = false) (hx : MnAt s x T.men) (hy : PzAt s y T.list) (h : ∀ s', Ext s s' → K (.tuple #[.int .i64 0, .int .i64 0, .int .i64 1]) s') :
    CALL Pg W F_prize_Club [.agg #[.slice x T.n c, .slice y T.z c']] K E s := by
  refine c_Club hx hy fun s' e => ?_
  have hD : clubR T = (0, 0, 1) := by unfold clubR; rw [hok]; rfl
  rw [hD]
  exact h s' e
theorem c_ClubV {x y : Option Addr} {c c' : Nat} (hok : okP T = true) (hx : MnAt s x T.men) (hy : PzAt s y T.list) (h : ∀ s', Ext s s' → K (.tuple #[.int .i64 (bestP T).1, .int .i64 (bestP T).2, .int .i64 (if bestP T = (0, 0) then 4 else 0)]) s') :
    CALL Pg W F_prize_Club [.agg #[.slice x T.n c, .slice y T.z c']] K E s := by
  refine c_Club hx hy fun s' e => ?_
  have hD : clubR T = ((bestP T).1, (bestP T).2, if bestP T = (0, 0) then 4 else 0) := by
    unfold clubR
    rw [if_pos hok]
    by_cases hb : bestP T = (0, 0)
    · rw [if_pos hb, if_pos hb, hb]
    · rw [if_neg hb, if_neg hb]
  rw [hD]
  exact h s' e
theorem c_CanV {x y : Option Addr} {c c' m z : Nat} (hok : okP T = true) (hm : m < T.n) (hz : z < T.z) (hx : MnAt s x T.men) (hy : PzAt s y T.list) (h : ∀ s', Ext s s' → K (.tuple #[.bool (canP T m z), .int .i64 0]) s') :
    CALL Pg W F_prize_Can [.agg #[.slice x T.n c, .slice y T.z c'], .int .i64 (m : Nat), .int .i64 (z : Nat)] K E s := by
  refine c_Can hx hy fun s' e => ?_
  have h1 : isM T (m : Nat) = true := decide_eq_true (by omega)
  have h2 : isZ T (z : Nat) = true := decide_eq_true (by omega)
  have hD : canR T (m : Nat) (z : Nat) = (canP T m z, 0) := by unfold canR; rw [if_pos hok, h1, h2, toNat_nat, toNat_nat]; rfl
  rw [hD]
  exact h s' e
theorem c_WrongL {x y q : Option Addr} {c c' cq l : Nat} {ds : List Int} (hl : l = ds.length) (hx : MnAt s x T.men) (hy : PzAt s y T.list) (hq : RowAt s q (ints ds)) (h : ∀ s', Ext s s' → K (.tuple #[.int .i64 (wrongR T ds).1, .int .i64 (wrongR T ds).2.1, .int .i64 (wrongR T ds).2.2]) s') :
    CALL Pg W F_prize_Wrong [.agg #[.slice x T.n c, .slice y T.z c'], .slice q l cq] K E s := by
  subst hl; exact c_Wrong hx hy hq h
theorem c_WorthL {x y q : Option Addr} {c c' cq l : Nat} {ds : List Int} (hl : l = ds.length) (hx : MnAt s x T.men) (hy : PzAt s y T.list) (hq : RowAt s q (ints ds)) (h : ∀ s' w cw, Ext s s' → Fr s.size s' w (worthR T ds).1.length cw 1 (ints (worthR T ds).1) → K (.tuple #[.slice w (worthR T ds).1.length cw, .int .i64 (worthR T ds).2.1, .int .i64 (worthR T ds).2.2]) s') :
    CALL Pg W F_prize_Worth [.agg #[.slice x T.n c, .slice y T.z c'], .slice q l cq] K E s := by
  subst hl; exact c_Worth hx hy hq h
end
theorem canC_no {T : PT} {k z : Nat} (hb : bestP T = (0, 0)) (h4 : (T.pz z).kind = 4) : canC T k z = false := by
  unfold canC canP canK
  rw [h4, hb]
  by_cases hc : (T.man k).club = 0 <;> simp [hc]
theorem canC_not4 {T : PT} {k z : Nat} (h4 : ¬ (T.pz z).kind = 4) : canC T k z = canP T k z := by
  unfold canC
  rw [decide_eq_true h4]; simp
theorem canC_4 {T : PT} {k z : Nat} (h4 : (T.pz z).kind = 4) : canC T k z = (canP T k z && ((T.man k).club == (bestP T).1)) := by
  unfold canC
  rw [h4]; simp
end Go.Proofs.Ytfaeokcbfnlgbaa.G

/- More of the functions' shallow texts, by gen.py. -/
set_option linter.unusedVariables false
set_option maxRecDepth 100000
namespace Go.Proofs.Ytfaeokcbfnlgbaa.G
open Go.V
def an_5 : Nat → Ann := fun b => match b with
  | 0 => { ms := [2, 8, 74], ks := [.b, .i .i64, .i .i64], us := [1, 3, 5, 7, 72, 73, 186], rt := false, ex := [] }
  | 2 => { ms := [2, 102], ks := [.b, .i .i64], us := [1, 3, 5, 7, 8, 9, 10, 72, 73, 74, 100, 101, 186], rt := false, ex := [] }
  | _ => {}
abbrev rv_5 : List ResultVar := [.tmp 2]
abbrev rs_5 : List Nat := [186, 2]
def L_law13_PrizeDue_0 (W : World) (R : Ending → Hp → Prop) (za0 : Addr) (zp1 : Option Addr) (zl2 : Nat) (zl3 : Nat) (zn4 : Int) (zn5 : Int) (zn6 : Int) (b72 : Bool) (n73 : Int) (n74 : Int) : Hp → Prop :=
  LOOPN [.b, .i .i64, .i .i64] (fun ys next s => ∀ j : Tm, vc Pg W 186 rs_5 an_5 false (sub (bodyOf Try.f5) [1, 1, 1, 1, 1, 1, 1, 0, 1, 0, 0]) 0 (KLoop [2, 8, 74] [1, 3, 5, 7, 72, 73, 186] [(.pointer (some za0)), (.slice zp1 zl2 zl3), (.int .i64 zn4), (.int .i64 zn5), (.slice zp1 zl2 zl3), (.int .i64 zn6), (.tuple #[])] next (KBlk 0 (KS Pg W 186 rs_5 an_5 false (sub (bodyOf Try.f5) [1, 1, 1, 1, 1, 1, 1, 1]) 0 (fin Pg W 186 rv_5 R)))) (known [2, 8, 74] ys (known [1, 3, 5, 7, 72, 73, 186] [(.pointer (some za0)), (.slice zp1 zl2 zl3), (.int .i64 zn4), (.int .i64 zn5), (.slice zp1 zl2 zl3), (.int .i64 zn6), (.tuple #[])] j)) s) [(.bool b72), (.int .i64 n73), (.int .i64 n74)]
def L_law13_PrizeDue_1 (W : World) (R : Ending → Hp → Prop) (nx0 : List Value → Hp → Prop) (za0 : Addr) (zp1 : Option Addr) (zl2 : Nat) (zl3 : Nat) (zn4 : Int) (zn5 : Int) (zn6 : Int) (zn7 : Int) (zn8 : Int) (zn9 : Int) (zp10 : Option Addr) (zl11 : Nat) (zl12 : Nat) (zn13 : Int) (b106 : Bool) (n107 : Int) : Hp → Prop :=
  LOOPN [.b, .i .i64] (fun ys next s => ∀ j : Tm, vc Pg W 186 rs_5 an_5 false (sub (bodyOf Try.f5) [1, 1, 1, 1, 1, 1, 1, 0, 1, 0, 0, 1, 1, 0, 0, 1, 1, 0, 1, 0, 0]) 2 (KLoop [2, 102] [1, 3, 5, 7, 8, 9, 10, 72, 73, 74, 100, 101, 186] [(.pointer (some za0)), (.slice zp1 zl2 zl3), (.int .i64 zn4), (.int .i64 zn5), (.int .i64 zn6), (.int .i64 zn7), (.int .i64 zn8), (.slice zp1 zl2 zl3), (.int .i64 zn9), (.int .i64 zn7), (.slice zp10 zl11 zl12), (.int .i64 zn13), (.tuple #[])] next (KBlk 2 (KS Pg W 186 rs_5 an_5 false (sub (bodyOf Try.f5) [1, 1, 1, 1, 1, 1, 1, 0, 1, 0, 0, 1, 1, 0, 0, 1, 1, 1]) 1 (KBlk 1 (KS Pg W 186 rs_5 an_5 false (sub (bodyOf Try.f5) [1, 1, 1, 1, 1, 1, 1, 0, 1, 0, 0, 1, 1, 1]) 0 (KLoop [2, 8, 74] [1, 3, 5, 7, 72, 73, 186] [(.pointer (some za0)), (.slice zp1 zl2 zl3), (.int .i64 zn4), (.int .i64 zn5), (.slice zp1 zl2 zl3), (.int .i64 zn9), (.tuple #[])] nx0 (KBlk 0 (KS Pg W 186 rs_5 an_5 false (sub (bodyOf Try.f5) [1, 1, 1, 1, 1, 1, 1, 1]) 0 (fin Pg W 186 rv_5 R))))))))) (known [2, 102] ys (known [1, 3, 5, 7, 8, 9, 10, 72, 73, 74, 100, 101, 186] [(.pointer (some za0)), (.slice zp1 zl2 zl3), (.int .i64 zn4), (.int .i64 zn5), (.int .i64 zn6), (.int .i64 zn7), (.int .i64 zn8), (.slice zp1 zl2 zl3), (.int .i64 zn9), (.int .i64 zn7), (.slice zp10 zl11 zl12), (.int .i64 zn13), (.tuple #[])] j)) s) [(.bool b106), (.int .i64 n107)]
def J_law13_PrizeDue_0 (W : World) (R : Ending → Hp → Prop) (b68 : Bool) (B7 : Nat) (x31 : Option Addr) (l32 : Nat) (c33 : Nat) (n48 : Int) (n54 : Int) : Hp → Prop :=
  BR b68
    (R (.returned (.bool false)))
    (L_law13_PrizeDue_0 W R ⟨B7, 0, none⟩ x31 l32 c33 n48 n54 (↑l32 : Int) false 0 0)
def J_law13_PrizeDue_1 (W : World) (R : Ending → Hp → Prop) (b67 : Bool) (B7 : Nat) (x31 : Option Addr) (l32 : Nat) (c33 : Nat) (n48 : Int) (n54 : Int) : Hp → Prop :=
  BR b67
    (J_law13_PrizeDue_0 W R true B7 x31 l32 c33 n48 n54)
    (BR (n54 != 0)
      (BR (n54 != 4)
        (J_law13_PrizeDue_0 W R true B7 x31 l32 c33 n48 n54)
        (J_law13_PrizeDue_0 W R (n48 != 0) B7 x31 l32 c33 n48 n54))
      (J_law13_PrizeDue_0 W R false B7 x31 l32 c33 n48 n54))
def J_law13_PrizeDue_2 (W : World) (R : Ending → Hp → Prop) (b78 : Bool) (za0 : Addr) (nx0 : List Value → Hp → Prop) (zp1 : Option Addr) (zl2 : Nat) (zl3 : Nat) (zn4 : Int) (zn5 : Int) (n73 : Int) (n74 : Int) (n76 : Int) (zn6 : Int) (b72 : Bool) : Hp → Prop :=
  BR b78
    (R (.returned (.bool false)))
    (RDL (Addr.add za0 0) fun x79 l80 c81 =>
      L_law13_PrizeDue_1 W R nx0 za0 zp1 zl2 zl3 zn4 zn5 n73 n74 n76 zn6 x79 l80 c81 (↑l80 : Int) b72 0)
def J_law13_PrizeDue_3 (W : World) (R : Ending → Hp → Prop) (b77 : Bool) (za0 : Addr) (nx0 : List Value → Hp → Prop) (zp1 : Option Addr) (zl2 : Nat) (zl3 : Nat) (zn4 : Int) (zn5 : Int) (n73 : Int) (n74 : Int) (n76 : Int) (zn6 : Int) (b72 : Bool) : Hp → Prop :=
  BR b77
    (J_law13_PrizeDue_2 W R true za0 nx0 zp1 zl2 zl3 zn4 zn5 n73 n74 n76 zn6 b72)
    (BR (decide (n76 ≥ 0))
      (NNI n76 <|
        J_law13_PrizeDue_2 W R ((andv .i64 (shrv .i64 n73 n76) 1) == 1) za0 nx0 zp1 zl2 zl3 zn4 zn5 n73 n74 n76 zn6 b72)
      (J_law13_PrizeDue_2 W R false za0 nx0 zp1 zl2 zl3 zn4 zn5 n73 n74 n76 zn6 b72))
def J_law13_PrizeDue_4 (W : World) (R : Ending → Hp → Prop) (b139 : Bool) (za0 : Addr) (zp1 : Option Addr) (zl2 : Nat) (zl3 : Nat) (zn4 : Int) (zn5 : Int) (zn6 : Int) (zn7 : Int) (zn8 : Int) (zn9 : Int) (zp10 : Option Addr) (zl11 : Nat) (zl12 : Nat) (zn13 : Int) (nx1 : List Value → Hp → Prop) (b106 : Bool) (n107 : Int) : Hp → Prop :=
  BR b139
    (R (.returned (.bool false)))
    (NX [(.pointer (some za0)), (.slice zp1 zl2 zl3), (.int .i64 zn4), (.int .i64 zn5), (.int .i64 zn6), (.int .i64 zn7), (.int .i64 zn8), (.slice zp1 zl2 zl3), (.int .i64 zn9), (.int .i64 zn7), (.slice zp10 zl11 zl12), (.int .i64 zn13), (.tuple #[])] [(.pointer (some za0)), (.slice zp1 zl2 zl3), (.int .i64 zn4), (.int .i64 zn5), (.int .i64 zn6), (.int .i64 zn7), (.int .i64 zn8), (.slice zp1 zl2 zl3), (.int .i64 zn9), (.int .i64 zn7), (.slice zp10 zl11 zl12), (.int .i64 zn13), (.tuple #[])] (nx1 [(.bool b106), (.int .i64 (IntKind.wrap .i64 (n107 + 1)))]))
def J_law13_PrizeDue_5 (W : World) (R : Ending → Hp → Prop) (b138 : Bool) (zn8 : Int) (za0 : Addr) (zp1 : Option Addr) (zl2 : Nat) (zl3 : Nat) (zn4 : Int) (zn5 : Int) (zn6 : Int) (zn7 : Int) (zn9 : Int) (zp10 : Option Addr) (zl11 : Nat) (zl12 : Nat) (zn13 : Int) (nx1 : List Value → Hp → Prop) (b106 : Bool) (n107 : Int) (B113 : Nat) : Hp → Prop :=
  BR b138
    (BR (decide (zn8 < 0))
      (J_law13_PrizeDue_4 W R true za0 zp1 zl2 zl3 zn4 zn5 zn6 zn7 zn8 zn9 zp10 zl11 zl12 zn13 nx1 b106 n107)
      (RDI .i64 (Addr.add ⟨B113, 0, none⟩ 0) fun n140 =>
        RDL (Addr.add za0 0) fun x141 l142 c143 =>
          IXS x141 l142 zn8 4 fun a144 =>
            RDI .i64 (Addr.add a144 0) fun n145 =>
              J_law13_PrizeDue_4 W R (decide (n140 < n145)) za0 zp1 zl2 zl3 zn4 zn5 zn6 zn7 zn8 zn9 zp10 zl11 zl12 zn13 nx1 b106 n107))
    (J_law13_PrizeDue_4 W R false za0 zp1 zl2 zl3 zn4 zn5 zn6 zn7 zn8 zn9 zp10 zl11 zl12 zn13 nx1 b106 n107)
def J_law13_PrizeDue_6 (W : World) (R : Ending → Hp → Prop) (b137 : Bool) (b136 : Bool) (n107 : Int) (zn6 : Int) (zn8 : Int) (za0 : Addr) (zp1 : Option Addr) (zl2 : Nat) (zl3 : Nat) (zn4 : Int) (zn5 : Int) (zn7 : Int) (zn9 : Int) (zp10 : Option Addr) (zl11 : Nat) (zl12 : Nat) (zn13 : Int) (nx1 : List Value → Hp → Prop) (b106 : Bool) (B113 : Nat) : Hp → Prop :=
  BR b137
    (R (.returned (.bool false)))
    (BR b136
      (NNI n107 <|
        J_law13_PrizeDue_5 W R ((andv .i64 (shrv .i64 zn6 n107) 1) == 0) zn8 za0 zp1 zl2 zl3 zn4 zn5 zn6 zn7 zn9 zp10 zl11 zl12 zn13 nx1 b106 n107 B113)
      (J_law13_PrizeDue_5 W R false zn8 za0 zp1 zl2 zl3 zn4 zn5 zn6 zn7 zn9 zp10 zl11 zl12 zn13 nx1 b106 n107 B113))
def J_law13_PrizeDue_7 (W : World) (R : Ending → Hp → Prop) (n128 : Int) (b136 : Bool) (n107 : Int) (zn6 : Int) (zn8 : Int) (za0 : Addr) (zp1 : Option Addr) (zl2 : Nat) (zl3 : Nat) (zn4 : Int) (zn5 : Int) (zn7 : Int) (zn9 : Int) (zp10 : Option Addr) (zl11 : Nat) (zl12 : Nat) (zn13 : Int) (nx1 : List Value → Hp → Prop) (b106 : Bool) (B113 : Nat) : Hp → Prop :=
  BR (n128 != 0)
    (J_law13_PrizeDue_6 W R true b136 n107 zn6 zn8 za0 zp1 zl2 zl3 zn4 zn5 zn7 zn9 zp10 zl11 zl12 zn13 nx1 b106 B113)
    (BR (zn8 == n107)
      (J_law13_PrizeDue_6 W R (!b136) b136 n107 zn6 zn8 za0 zp1 zl2 zl3 zn4 zn5 zn7 zn9 zp10 zl11 zl12 zn13 nx1 b106 B113)
      (J_law13_PrizeDue_6 W R false b136 n107 zn6 zn8 za0 zp1 zl2 zl3 zn4 zn5 zn7 zn9 zp10 zl11 zl12 zn13 nx1 b106 B113))
def J_law13_PrizeDue_8 (W : World) (R : Ending → Hp → Prop) (b134 : Bool) (B113 : Nat) (n128 : Int) (zn4 : Int) (n107 : Int) (zn6 : Int) (zn8 : Int) (za0 : Addr) (zp1 : Option Addr) (zl2 : Nat) (zl3 : Nat) (zn5 : Int) (zn7 : Int) (zn9 : Int) (zp10 : Option Addr) (zl11 : Nat) (zl12 : Nat) (zn13 : Int) (nx1 : List Value → Hp → Prop) (b106 : Bool) : Hp → Prop :=
  BR b134
    (RDI .i64 (Addr.add ⟨B113, 0, none⟩ 1) fun n135 =>
      J_law13_PrizeDue_7 W R n128 (n135 == zn4) n107 zn6 zn8 za0 zp1 zl2 zl3 zn4 zn5 zn7 zn9 zp10 zl11 zl12 zn13 nx1 b106 B113)
    (J_law13_PrizeDue_7 W R n128 false n107 zn6 zn8 za0 zp1 zl2 zl3 zn4 zn5 zn7 zn9 zp10 zl11 zl12 zn13 nx1 b106 B113)
def B_law13_PrizeDue_0 (W : World) (R : Ending → Hp → Prop) (za0 : Addr) (zp1 : Option Addr) (zl2 : Nat) (zl3 : Nat) (zn4 : Int) (zn5 : Int) (zn6 : Int) (b72 : Bool) (n73 : Int) (n74 : Int) (nx0 : List Value → Hp → Prop) : Hp → Prop :=
  BR (decide (n74 < zn6))
    (IXS zp1 zl2 n74 1 fun a75 =>
      RDI .i64 a75 fun n76 =>
        BR (decide (n76 < (-1)))
          (J_law13_PrizeDue_3 W R true za0 nx0 zp1 zl2 zl3 zn4 zn5 n73 n74 n76 zn6 b72)
          (RDL (Addr.add za0 0) fun x82 l83 c84 =>
            J_law13_PrizeDue_3 W R (decide (n76 ≥ (↑l83 : Int))) za0 nx0 zp1 zl2 zl3 zn4 zn5 n73 n74 n76 zn6 b72))
    (RDL (Addr.add za0 0) fun x85 l86 c87 =>
      RDL (Addr.add za0 1) fun x88 l89 c90 =>
        CALL Pg W F_prize_Wrong [(.agg #[(.slice x85 l86 c87), (.slice x88 l89 c90)]), (.slice zp1 zl2 zl3)]
          (fun v91 => TUP v91 fun q93 => HD q93 fun v94 r95 => TYI .i64 v94 fun n96 =>
            HD r95 fun v97 r98 => TYI .i64 v97 fun n99 =>
              HD r98 fun v100 r101 => TYI .i64 v100 fun n102 =>
                NL r101 <|
                  BR (n102 == 4)
                    (CALL Pg W F_law13_awake []
                      (fun v103 => TYB v103 fun b105 =>
                        R (.returned (.bool b105)))
                        (fun e104 => R (.panicked e104)))
                    (R (.returned (.bool false))))
            (fun e92 => R (.panicked e92)))
theorem B_law13_PrizeDue_0_eq (W : World) (R : Ending → Hp → Prop) (za0 : Addr) (zp1 : Option Addr) (zl2 : Nat) (zl3 : Nat) (zn4 : Int) (zn5 : Int) (zn6 : Int) (b72 : Bool) (n73 : Int) (n74 : Int) (nx0 : List Value → Hp → Prop) (j : Tm) : vc Pg W 186 rs_5 an_5 false (sub (bodyOf Try.f5) [1, 1, 1, 1, 1, 1, 1, 0, 1, 0, 0]) 0 (KLoop [2, 8, 74] [1, 3, 5, 7, 72, 73, 186] [(.pointer (some za0)), (.slice zp1 zl2 zl3), (.int .i64 zn4), (.int .i64 zn5), (.slice zp1 zl2 zl3), (.int .i64 zn6), (.tuple #[])] nx0 (KBlk 0 (KS Pg W 186 rs_5 an_5 false (sub (bodyOf Try.f5) [1, 1, 1, 1, 1, 1, 1, 1]) 0 (fin Pg W 186 rv_5 R)))) (known [2, 8, 74] [(.bool b72), (.int .i64 n73), (.int .i64 n74)] (known [1, 3, 5, 7, 72, 73, 186] [(.pointer (some za0)), (.slice zp1 zl2 zl3), (.int .i64 zn4), (.int .i64 zn5), (.slice zp1 zl2 zl3), (.int .i64 zn6), (.tuple #[])] j)) = B_law13_PrizeDue_0 W R za0 zp1 zl2 zl3 zn4 zn5 zn6 b72 n73 n74 nx0 := by kernel_rfl
def N_law13_PrizeDue_0 (I : Bool → Int → Int → Hp → Prop) (μ : Bool → Int → Int → Hp → Nat) (b720 : Bool) (n730 : Int) (n740 : Int) (s : Hp) (vs : List Value) : Hp → Prop := fun s' => ∃ b72 n73 n74, vs = [(.bool b72), (.int .i64 n73), (.int .i64 n74)] ∧ I b72 n73 n74 s' ∧ μ b72 n73 n74 s' < μ b720 n730 n740 s
theorem L_law13_PrizeDue_0_rule (W : World) (R : Ending → Hp → Prop) (za0 : Addr) (zp1 : Option Addr) (zl2 : Nat) (zl3 : Nat) (zn4 : Int) (zn5 : Int) (zn6 : Int) (I : Bool → Int → Int → Hp → Prop) (μ : Bool → Int → Int → Hp → Nat) (b720 : Bool) (n730 : Int) (n740 : Int) (s : Hp) (h0 : I b720 n730 n740 s)
    (hr : ∀ (b72 : Bool) (n73 : Int) (n74 : Int) (s : Hp), I b72 n73 n74 s → B_law13_PrizeDue_0 W R za0 zp1 zl2 zl3 zn4 zn5 zn6 b72 n73 n74 (fun vs => N_law13_PrizeDue_0 I μ b72 n73 n74 s vs) s) : L_law13_PrizeDue_0 W R za0 zp1 zl2 zl3 zn4 zn5 zn6 b720 n730 n740 s := by
  refine ⟨fun vs s => ∃ b72 n73 n74, vs = [(.bool b72), (.int .i64 n73), (.int .i64 n74)] ∧ I b72 n73 n74 s, fun vs s => (match vs with | [.bool b72, .int _ n73, .int _ n74] => μ b72 n73 n74 s | _ => 0), ⟨⟨⟨_, rfl⟩, ⟨⟨_, rfl⟩, ⟨⟨_, rfl⟩, trivial⟩⟩⟩, ⟨_, _, _, rfl, h0⟩⟩, ?_⟩
  intro b72 n73 n74 s hI j
  obtain ⟨b72', n73', n74', hy, hI⟩ := hI
  have hI' : I b72 n73 n74 s := by cases hy; exact hI
  have hh := hr b72 n73 n74 s hI'
  rw [← B_law13_PrizeDue_0_eq W R za0 zp1 zl2 zl3 zn4 zn5 zn6 b72 n73 n74 _ j] at hh
  refine vc_mono ?_ _ _ hh
  exact KLoop_mono (fun vs s' h => by obtain ⟨b721, n731, n741, rfl, h1, h2⟩ := h; exact ⟨⟨⟨_, rfl⟩, ⟨⟨_, rfl⟩, ⟨⟨_, rfl⟩, trivial⟩⟩⟩, ⟨_, _, _, rfl, h1⟩, h2⟩)
def B_law13_PrizeDue_1 (W : World) (R : Ending → Hp → Prop) (nx0 : List Value → Hp → Prop) (za0 : Addr) (zp1 : Option Addr) (zl2 : Nat) (zl3 : Nat) (zn4 : Int) (zn5 : Int) (zn6 : Int) (zn7 : Int) (zn8 : Int) (zn9 : Int) (zp10 : Option Addr) (zl11 : Nat) (zl12 : Nat) (zn13 : Int) (b106 : Bool) (n107 : Int) (nx1 : List Value → Hp → Prop) : Hp → Prop :=
  BR (decide (n107 < zn13))
    (IXS zp10 zl11 n107 4 fun a108 =>
      RDI .i64 (Addr.add a108 0) fun n109 =>
        RDI .i64 (Addr.add a108 1) fun n110 =>
          RDB (Addr.add a108 2) fun b111 =>
            RDB (Addr.add a108 3) fun b112 =>
              NEWZ Pg 48 fun B113 =>
                WR (Addr.add ⟨B113, 0, none⟩ 0) (.int .i64 n109) <|
                  WR (Addr.add ⟨B113, 0, none⟩ 1) (.int .i64 n110) <|
                    WR (Addr.add ⟨B113, 0, none⟩ 2) (.bool b111) <|
                      WR (Addr.add ⟨B113, 0, none⟩ 3) (.bool b112) <|
                        RDL (Addr.add za0 0) fun x114 l115 c116 =>
                          RDL (Addr.add za0 1) fun x117 l118 c119 =>
                            CALL Pg W F_prize_Can [(.agg #[(.slice x114 l115 c116), (.slice x117 l118 c119)]), (.int .i64 n107), (.int .i64 zn7)]
                              (fun v120 => TUP v120 fun q122 => HD q122 fun v123 r124 => TYB v123 fun b125 =>
                                HD r124 fun v126 r127 => TYI .i64 v126 fun n128 =>
                                  NL r127 <|
                                    RDL (Addr.add za0 1) fun x129 l130 c131 =>
                                      IXS x129 l130 zn7 2 fun a132 =>
                                        RDI .i64 (Addr.add a132 0) fun n133 =>
                                          BR (n133 == 4)
                                            (BR b125
                                              (J_law13_PrizeDue_8 W R (zn5 == 0) B113 n128 zn4 n107 zn6 zn8 za0 zp1 zl2 zl3 zn5 zn7 zn9 zp10 zl11 zl12 zn13 nx1 b106)
                                              (J_law13_PrizeDue_8 W R false B113 n128 zn4 n107 zn6 zn8 za0 zp1 zl2 zl3 zn5 zn7 zn9 zp10 zl11 zl12 zn13 nx1 b106))
                                            (J_law13_PrizeDue_7 W R n128 b125 n107 zn6 zn8 za0 zp1 zl2 zl3 zn4 zn5 zn7 zn9 zp10 zl11 zl12 zn13 nx1 b106 B113))
                                (fun e121 => R (.panicked e121)))
    (BR (decide (zn8 ≥ 0))
      (NNI zn8 <|
        NX [(.pointer (some za0)), (.slice zp1 zl2 zl3), (.int .i64 zn4), (.int .i64 zn5), (.slice zp1 zl2 zl3), (.int .i64 zn9), (.tuple #[])] [(.pointer (some za0)), (.slice zp1 zl2 zl3), (.int .i64 zn4), (.int .i64 zn5), (.slice zp1 zl2 zl3), (.int .i64 zn9), (.tuple #[])] (nx0 [(.bool b106), (.int .i64 (orv .i64 zn6 (shlv .i64 1 zn8))), (.int .i64 (IntKind.wrap .i64 (zn7 + 1)))]))
      (NX [(.pointer (some za0)), (.slice zp1 zl2 zl3), (.int .i64 zn4), (.int .i64 zn5), (.slice zp1 zl2 zl3), (.int .i64 zn9), (.tuple #[])] [(.pointer (some za0)), (.slice zp1 zl2 zl3), (.int .i64 zn4), (.int .i64 zn5), (.slice zp1 zl2 zl3), (.int .i64 zn9), (.tuple #[])] (nx0 [(.bool b106), (.int .i64 zn6), (.int .i64 (IntKind.wrap .i64 (zn7 + 1)))])))
theorem B_law13_PrizeDue_1_eq (W : World) (R : Ending → Hp → Prop) (nx0 : List Value → Hp → Prop) (za0 : Addr) (zp1 : Option Addr) (zl2 : Nat) (zl3 : Nat) (zn4 : Int) (zn5 : Int) (zn6 : Int) (zn7 : Int) (zn8 : Int) (zn9 : Int) (zp10 : Option Addr) (zl11 : Nat) (zl12 : Nat) (zn13 : Int) (b106 : Bool) (n107 : Int) (nx1 : List Value → Hp → Prop) (j : Tm) : vc Pg W 186 rs_5 an_5 false (sub (bodyOf Try.f5) [1, 1, 1, 1, 1, 1, 1, 0, 1, 0, 0, 1, 1, 0, 0, 1, 1, 0, 1, 0, 0]) 2 (KLoop [2, 102] [1, 3, 5, 7, 8, 9, 10, 72, 73, 74, 100, 101, 186] [(.pointer (some za0)), (.slice zp1 zl2 zl3), (.int .i64 zn4), (.int .i64 zn5), (.int .i64 zn6), (.int .i64 zn7), (.int .i64 zn8), (.slice zp1 zl2 zl3), (.int .i64 zn9), (.int .i64 zn7), (.slice zp10 zl11 zl12), (.int .i64 zn13), (.tuple #[])] nx1 (KBlk 2 (KS Pg W 186 rs_5 an_5 false (sub (bodyOf Try.f5) [1, 1, 1, 1, 1, 1, 1, 0, 1, 0, 0, 1, 1, 0, 0, 1, 1, 1]) 1 (KBlk 1 (KS Pg W 186 rs_5 an_5 false (sub (bodyOf Try.f5) [1, 1, 1, 1, 1, 1, 1, 0, 1, 0, 0, 1, 1, 1]) 0 (KLoop [2, 8, 74] [1, 3, 5, 7, 72, 73, 186] [(.pointer (some za0)), (.slice zp1 zl2 zl3), (.int .i64 zn4), (.int .i64 zn5), (.slice zp1 zl2 zl3), (.int .i64 zn9), (.tuple #[])] nx0 (KBlk 0 (KS Pg W 186 rs_5 an_5 false (sub (bodyOf Try.f5) [1, 1, 1, 1, 1, 1, 1, 1]) 0 (fin Pg W 186 rv_5 R))))))))) (known [2, 102] [(.bool b106), (.int .i64 n107)] (known [1, 3, 5, 7, 8, 9, 10, 72, 73, 74, 100, 101, 186] [(.pointer (some za0)), (.slice zp1 zl2 zl3), (.int .i64 zn4), (.int .i64 zn5), (.int .i64 zn6), (.int .i64 zn7), (.int .i64 zn8), (.slice zp1 zl2 zl3), (.int .i64 zn9), (.int .i64 zn7), (.slice zp10 zl11 zl12), (.int .i64 zn13), (.tuple #[])] j)) = B_law13_PrizeDue_1 W R nx0 za0 zp1 zl2 zl3 zn4 zn5 zn6 zn7 zn8 zn9 zp10 zl11 zl12 zn13 b106 n107 nx1 := by kernel_rfl
def N_law13_PrizeDue_1 (I : Bool → Int → Hp → Prop) (μ : Bool → Int → Hp → Nat) (b1060 : Bool) (n1070 : Int) (s : Hp) (vs : List Value) : Hp → Prop := fun s' => ∃ b106 n107, vs = [(.bool b106), (.int .i64 n107)] ∧ I b106 n107 s' ∧ μ b106 n107 s' < μ b1060 n1070 s
theorem L_law13_PrizeDue_1_rule (W : World) (R : Ending → Hp → Prop) (nx0 : List Value → Hp → Prop) (za0 : Addr) (zp1 : Option Addr) (zl2 : Nat) (zl3 : Nat) (zn4 : Int) (zn5 : Int) (zn6 : Int) (zn7 : Int) (zn8 : Int) (zn9 : Int) (zp10 : Option Addr) (zl11 : Nat) (zl12 : Nat) (zn13 : Int) (I : Bool → Int → Hp → Prop) (μ : Bool → Int → Hp → Nat) (b1060 : Bool) (n1070 : Int) (s : Hp) (h0 : I b1060 n1070 s)
    (hr : ∀ (b106 : Bool) (n107 : Int) (s : Hp), I b106 n107 s → B_law13_PrizeDue_1 W R nx0 za0 zp1 zl2 zl3 zn4 zn5 zn6 zn7 zn8 zn9 zp10 zl11 zl12 zn13 b106 n107 (fun vs => N_law13_PrizeDue_1 I μ b106 n107 s vs) s) : L_law13_PrizeDue_1 W R nx0 za0 zp1 zl2 zl3 zn4 zn5 zn6 zn7 zn8 zn9 zp10 zl11 zl12 zn13 b1060 n1070 s := by
  refine ⟨fun vs s => ∃ b106 n107, vs = [(.bool b106), (.int .i64 n107)] ∧ I b106 n107 s, fun vs s => (match vs with | [.bool b106, .int _ n107] => μ b106 n107 s | _ => 0), ⟨⟨⟨_, rfl⟩, ⟨⟨_, rfl⟩, trivial⟩⟩, ⟨_, _, rfl, h0⟩⟩, ?_⟩
  intro b106 n107 s hI j
  obtain ⟨b106', n107', hy, hI⟩ := hI
  have hI' : I b106 n107 s := by cases hy; exact hI
  have hh := hr b106 n107 s hI'
  rw [← B_law13_PrizeDue_1_eq W R nx0 za0 zp1 zl2 zl3 zn4 zn5 zn6 zn7 zn8 zn9 zp10 zl11 zl12 zn13 b106 n107 _ j] at hh
  refine vc_mono ?_ _ _ hh
  exact KLoop_mono (fun vs s' h => by obtain ⟨b1061, n1071, rfl, h1, h2⟩ := h; exact ⟨⟨⟨_, rfl⟩, ⟨⟨_, rfl⟩, trivial⟩⟩, ⟨_, _, rfl, h1⟩, h2⟩)
def T_law13_PrizeDue (W : World) (x1 : Option Addr) (l2 : Nat) (c3 : Nat) (x4 : Option Addr) (l5 : Nat) (c6 : Nat) (R : Ending → Hp → Prop) : Hp → Prop :=
  NEW 25 [(.slice x1 l2 c3), (.slice x4 l5 c6)] fun B7 =>
    RDL (Addr.add ⟨B7, 0, none⟩ 0) fun x8 l9 c10 =>
      RDL (Addr.add ⟨B7, 0, none⟩ 1) fun x11 l12 c13 =>
        CALL Pg W F_law13_far [(.agg #[(.slice x8 l9 c10), (.slice x11 l12 c13)]), (.slice none 0 0)]
          (fun v14 => TYB v14 fun b16 =>
            BR b16
              (CALL Pg W F_law13_awake []
                (fun v17 => TYB v17 fun b19 =>
                  R (.returned (.bool b19)))
                  (fun e18 => R (.panicked e18)))
              (RDL (Addr.add ⟨B7, 0, none⟩ 0) fun x20 l21 c22 =>
                RDL (Addr.add ⟨B7, 0, none⟩ 1) fun x23 l24 c25 =>
                  CALL Pg W F_prize_Due [(.agg #[(.slice x20 l21 c22), (.slice x23 l24 c25)])]
                    (fun v26 => TUP v26 fun q28 => HD q28 fun v29 r30 => TYL v29 fun x31 l32 c33 =>
                      HD r30 fun v34 r35 => TYI .i64 v34 fun n36 =>
                        NL r35 <|
                          RDL (Addr.add ⟨B7, 0, none⟩ 0) fun x37 l38 c39 =>
                            RDL (Addr.add ⟨B7, 0, none⟩ 1) fun x40 l41 c42 =>
                              CALL Pg W F_prize_Club [(.agg #[(.slice x37 l38 c39), (.slice x40 l41 c42)])]
                                (fun v43 => TUP v43 fun q45 => HD q45 fun v46 r47 => TYI .i64 v46 fun n48 =>
                                  HD r47 fun v49 r50 => TYI .i64 v49 fun n51 =>
                                    HD r50 fun v52 r53 => TYI .i64 v52 fun n54 =>
                                      NL r53 <|
                                        RDL (Addr.add ⟨B7, 0, none⟩ 0) fun x55 l56 c57 =>
                                          RDL (Addr.add ⟨B7, 0, none⟩ 1) fun x58 l59 c60 =>
                                            CALL Pg W F_ref13_Prizes [(.agg #[(.slice x55 l56 c57), (.slice x58 l59 c60)])]
                                              (fun v61 => TYB v61 fun b63 =>
                                                BR (!b63)
                                                  (BR (n36 == 1)
                                                    (BR (n54 == n36)
                                                      (BR ((↑l32 : Int) == 0)
                                                        (CALL Pg W F_law13_awake []
                                                          (fun v64 => TYB v64 fun b66 =>
                                                            R (.returned (.bool b66)))
                                                            (fun e65 => R (.panicked e65)))
                                                        (R (.returned (.bool false))))
                                                      (R (.returned (.bool false))))
                                                    (R (.returned (.bool false))))
                                                  (BR (n36 != 0)
                                                    (J_law13_PrizeDue_1 W R true B7 x31 l32 c33 n48 n54)
                                                    (RDL (Addr.add ⟨B7, 0, none⟩ 1) fun x69 l70 c71 =>
                                                      J_law13_PrizeDue_1 W R ((↑l32 : Int) != (↑l70 : Int)) B7 x31 l32 c33 n48 n54)))
                                                (fun e62 => R (.panicked e62)))
                                  (fun e44 => R (.panicked e44)))
                      (fun e27 => R (.panicked e27))))
            (fun e15 => R (.panicked e15))
theorem T_law13_PrizeDue_eq (W : World) (x1 : Option Addr) (l2 : Nat) (c3 : Nat) (x4 : Option Addr) (l5 : Nat) (c6 : Nat) (R : Ending → Hp → Prop) : vfun Pg W an_5 Try.f5 [(.agg #[(.slice x1 l2 c3), (.slice x4 l5 c6)])] R = T_law13_PrizeDue W x1 l2 c3 x4 l5 c6 R := by kernel_rfl
theorem does_law13_PrizeDue (W : World) (x1 : Option Addr) (l2 : Nat) (c3 : Nat) (x4 : Option Addr) (l5 : Nat) (c6 : Nat) (R : Ending → Hp → Prop) (s : Hp) (h : T_law13_PrizeDue W x1 l2 c3 x4 l5 c6 R s) : Does Pg W F_law13_PrizeDue #[(.agg #[(.slice x1 l2 c3), (.slice x4 l5 c6)])] s R :=
  does_of_vfun Pg W an_5 Try.func5 rfl (by kernel_rfl) (by rw [T_law13_PrizeDue_eq]; exact h)
end Go.Proofs.Ytfaeokcbfnlgbaa.G

/- The statement PrizeDue. -/
set_option linter.unusedSimpArgs false
set_option linter.unusedVariables false
set_option maxRecDepth 20000
namespace Go.Proofs.Ytfaeokcbfnlgbaa.G
open Go.V
section
variable {W : World} {K : VK} {E : List PanicEntry → Hp → Prop} {s : Hp} {T : PT}
theorem w_PrizeDue {x y : Option Addr} {c c' : Nat} (hx : MnAt s x T.men) (hy : PzAt s y T.list) (h : ∀ s', Ext s s' → K (.bool true) s') :
    CALL Pg W F_law13_PrizeDue [.agg #[.slice x T.n c, .slice y T.z c']] K E s := by
  refine does_law13_PrizeDue W x T.n c y T.z c' _ s ?_
  unfold T_law13_PrizeDue
  refine ne2 fun s1 e1 z1 o1 o2 => ?_
  have c0 := o1.cell
  have c1 := o2.cell
  refine ⟨_, _, _, c0, _, _, _, c1, ?_⟩
  refine c_far fun s2 b e2 hb => ?_
  try simp only [TUP_mk, AGG_mk, HD_mk, NL_mk, TYI_mk, TYB_mk, TYP_mk, TYL_mk, TYS_mk, TYM_mk, SO_mk, NX_mk, endK_mk, endK_mk', add_0]
  refine BR_bool (fun _ => c_awake' e2 fun t et => h t (e1.trans et)) (fun hf => ?_)
  obtain ⟨h1, h2, h3⟩ := hb hf
  have rx : ∀ {t : Hp}, Ext s1 t → MnAt t x T.men := fun e => hx.ext (e1.trans e)
  have ry : ∀ {t : Hp}, Ext s1 t → PzAt t y T.list := fun e => hy.ext (e1.trans e)
  refine ⟨_, _, _, e2.cell c0, _, _, _, e2.cell c1, ?_⟩
  cases hok : okP T with
  | false =>
    refine c_DueN hok (rx e2) (ry e2) fun s3 q cq e3 => ?_
    try simp only [TUP_mk, AGG_mk, HD_mk, NL_mk, TYI_mk, TYB_mk, TYP_mk, TYL_mk, TYS_mk, TYM_mk, SO_mk, NX_mk, endK_mk, endK_mk', add_0]
    have g3 := e2.trans e3
    refine ⟨_, _, _, g3.cell c0, _, _, _, g3.cell c1, ?_⟩
    refine c_ClubN hok (rx g3) (ry g3) fun s4 e4 => ?_
    try simp only [TUP_mk, AGG_mk, HD_mk, NL_mk, TYI_mk, TYB_mk, TYP_mk, TYL_mk, TYS_mk, TYM_mk, SO_mk, NX_mk, endK_mk, endK_mk', add_0]
    have g4 := g3.trans e4
    refine ⟨_, _, _, g4.cell c0, _, _, _, g4.cell c1, ?_⟩
    refine f_Prizes (rx g4) (ry g4) fun s5 e5 => ?_
    try simp only [TUP_mk, AGG_mk, HD_mk, NL_mk, TYI_mk, TYB_mk, TYP_mk, TYL_mk, TYS_mk, TYM_mk, SO_mk, NX_mk, endK_mk, endK_mk', add_0]
    have g5 := g4.trans e5
    rw [hok]
    refine BR_tt rfl ?_
    refine BR_tt rfl ?_
    refine BR_tt rfl ?_
    refine BR_tt rfl ?_
    exact c_awake' g5 fun t et => h t (e1.trans et)
  | true =>
    have hv := okP_vd hok
    have h8 := hv.n8
    have h6 := hv.z6
    refine c_DueV hok (rx e2) (ry e2) fun s3 q cq e3 f3 => ?_
    try simp only [TUP_mk, AGG_mk, HD_mk, NL_mk, TYI_mk, TYB_mk, TYP_mk, TYL_mk, TYS_mk, TYM_mk, SO_mk, NX_mk, endK_mk, endK_mk', add_0]
    have g3 := e2.trans e3
    refine ⟨_, _, _, g3.cell c0, _, _, _, g3.cell c1, ?_⟩
    refine c_ClubV hok (rx g3) (ry g3) fun s4 e4 => ?_
    try simp only [TUP_mk, AGG_mk, HD_mk, NL_mk, TYI_mk, TYB_mk, TYP_mk, TYL_mk, TYS_mk, TYM_mk, SO_mk, NX_mk, endK_mk, endK_mk', add_0]
    have g4 := g3.trans e4
    refine ⟨_, _, _, g4.cell c0, _, _, _, g4.cell c1, ?_⟩
    refine f_Prizes (rx g4) (ry g4) fun s5 e5 => ?_
    try simp only [TUP_mk, AGG_mk, HD_mk, NL_mk, TYI_mk, TYB_mk, TYP_mk, TYL_mk, TYS_mk, TYM_mk, SO_mk, NX_mk, endK_mk, endK_mk', add_0]
    have g5 := g4.trans e5
    rw [hok]
    refine BR_ff rfl ?_
    refine BR_ff rfl ?_
    refine ⟨_, _, _, g5.cell c1, ?_⟩
    unfold J_law13_PrizeDue_1
    refine BR_ff (by simp) ?_
    have rq : ∀ {t : Hp}, Ext s5 t → RowAt t q (ints (manL (dueP T))) := fun e => f3.row.ext (e4.trans (e5.trans e))
    generalize hfe : (if bestP T = (0, 0) then (4 : Int) else 0) = fe
    have hfe2 : (fe = 4 ∧ bestP T = (0, 0)) ∨ (fe = 0 ∧ bestP T ≠ (0, 0)) := by
      by_cases hb0 : bestP T = (0, 0)
      · rw [if_pos hb0] at hfe; exact .inl ⟨hfe.symm, hb0⟩
      · rw [if_neg hb0] at hfe; exact .inr ⟨hfe.symm, hb0⟩
    have main : L_law13_PrizeDue_0 W (endK K E) ⟨s.size, 0, none⟩ q T.z cq (bestP T).1 fe (T.z : Int) false 0 0 s5 := by
      refine L_law13_PrizeDue_0_rule W _ ⟨s.size, 0, none⟩ q T.z cq (bestP T).1 fe T.z (fun _ n73 n74 t => Ext s5 t ∧ ∃ z : Nat, z ≤ T.z ∧ n74 = z ∧ n73 = (setK (tkF (dueL T z)) 8 : Nat)) (fun _ _ n74 _ => ((T.z : Int) - n74).toNat) false 0 0 s5 ⟨Ext.refl _, 0, by omega, rfl, ?_⟩ ?_
      · have : tkF (dueL T 0) = fun _ => false := by funext m; simp [tkF, dueL]
        rw [this, setK_zero]; rfl
      rintro b72 n73 n74 t ⟨et, z, hz, rfl, rfl⟩
      unfold B_law13_PrizeDue_0
      have g1t := g5.trans et
      refine BR_dec (fun hlt => ?_) (fun hlt => ?_)
      · have hzl : z < T.z := by omega
        obtain ⟨a, ha, cz⟩ := row_int (rq et) (by rw [due_len]; exact hzl : z < (manL (dueP T)).length)
        rw [due_getD hzl] at cz
        have hstep := dueL_succ T z
        generalize hnx : (fun vs => N_law13_PrizeDue_0 _ _ _ _ _ t vs) = nx
        generalize ho : (ordP T).find? (qP T z) = o at *
        refine IXS_at ha hzl ?_
        refine ⟨_, cz, ?_⟩
        have hge : -1 ≤ manI o := by cases o with
          | none => exact Int.le_refl _
          | some m => have : (0 : Int) ≤ manI (some m) := Int.natCast_nonneg m; omega
        have hlt' : manI o < T.n := by cases o with
          | none => have := hv.n1; show (-1 : Int) < _; omega
          | some m => have := (due_one hv ho).1; show ((m : Nat) : Int) < _; omega
        refine BR_ff (decide_eq_false (by omega)) ?_
        refine ⟨_, _, _, g1t.cell c0, ?_⟩
        unfold J_law13_PrizeDue_3
        refine BR_ff (decide_eq_false (by omega)) ?_
        -- the inner loop
        have J2 : J_law13_PrizeDue_2 W (endK K E) false ⟨s.size, 0, none⟩ nx q T.z cq (bestP T).1 fe (setK (tkF (dueL T z)) 8 : Nat) z (manI o) T.z b72 t := by
          unfold J_law13_PrizeDue_2
          refine BR_ff rfl ?_
          refine ⟨_, _, _, g1t.cell c0, ?_⟩
          refine L_law13_PrizeDue_1_rule W _ nx ⟨s.size, 0, none⟩ q T.z cq (bestP T).1 fe (setK (tkF (dueL T z)) 8 : Nat) z (manI o) T.z x T.n c T.n (fun _ n107 u => Ext t u ∧ ∃ k : Nat, k ≤ T.n ∧ n107 = k) (fun _ n107 _ => ((T.n : Int) - n107).toNat) b72 0 t ⟨Ext.refl _, 0, by omega, rfl⟩ ?_
          rintro b106 n107 u ⟨eu, k, hk, rfl⟩
          unfold B_law13_PrizeDue_1
          have g1u := g1t.trans eu
          refine BR_dec (fun hlt2 => ?_) (fun hlt2 => ?_)
          · have hkn : k < T.n := by omega
            obtain ⟨ax, w0, w1, w2, w3, w4⟩ := man_row (rx g1u) hkn
            refine IXS_at w0 hkn ?_
            refine ⟨_, w1, _, w2, _, w3, _, w4, ?_⟩
            refine nw4 zc_48 rfl rfl rfl rfl fun u1 j1 y1 r1 r2 r3 r4 => ?_
            have g1u1 := g1u.trans j1
            refine ⟨_, _, _, g1u1.cell c0, _, _, _, g1u1.cell c1, ?_⟩
            refine c_CanV hok hkn hzl (rx g1u1) (ry g1u1) fun u2 j2 => ?_
            try simp only [TUP_mk, AGG_mk, HD_mk, NL_mk, TYI_mk, TYB_mk, TYP_mk, TYL_mk, TYS_mk, TYM_mk, SO_mk, NX_mk, endK_mk, endK_mk', add_0]
            have g1u2 := g1u1.trans j2
            have r1' := j2.own r1
            have r2' := j2.own r2
            refine ⟨_, _, _, g1u2.cell c1, ?_⟩
            obtain ⟨az, v0, v1, v2⟩ := pz_row (ry g1u2) hzl
            refine IXS_at v0 hzl ?_
            refine ⟨_, v1, ?_⟩
            generalize hnx1 : (fun vs => N_law13_PrizeDue_1 _ _ _ _ u vs) = nx1
            have J4 : J_law13_PrizeDue_4 W (endK K E) false ⟨s.size, 0, none⟩ q T.z cq (bestP T).1 fe (setK (tkF (dueL T z)) 8 : Nat) z (manI o) T.z x T.n c T.n nx1 b106 k u2 := by
              unfold J_law13_PrizeDue_4
              refine BR_ff rfl ?_
              rw [← hnx1]
              exact ⟨rfl, _, _, rfl, ⟨eu.trans (j1.trans j2), k + 1, hkn, wrap_succ (by omega)⟩, ms_succ hkn (by omega)⟩
            have J7 : ∀ b, b = canC T k z → J_law13_PrizeDue_7 W (endK K E) 0 b k (setK (tkF (dueL T z)) 8 : Nat) (manI o) ⟨s.size, 0, none⟩ q T.z cq (bestP T).1 fe z T.z x T.n c T.n nx1 b106 u.size u2 := by
              intro b hb
              subst hb
              unfold J_law13_PrizeDue_7
              refine BR_ff rfl ?_
              have J6 : J_law13_PrizeDue_6 W (endK K E) false (canC T k z) k (setK (tkF (dueL T z)) 8 : Nat) (manI o) ⟨s.size, 0, none⟩ q T.z cq (bestP T).1 fe z T.z x T.n c T.n nx1 b106 u.size u2 := by
                unfold J_law13_PrizeDue_6
                refine BR_ff rfl ?_
                refine BR_bool (fun hcan => ?_) (fun hcan => ?_)
                · refine NNI_of (by omega) ?_
                  unfold J_law13_PrizeDue_5
                  refine BR_bool (fun hbit => ?_) (fun hbit => J4)
                  rw [bit_no _ (by omega)] at hbit
                  have hfree : tkF (dueL T z) k = false := by simpa using hbit
                  cases o with
                  | none => have := due_no hv ho k hkn hcan; rw [hfree] at this; cases this
                  | some m =>
                    obtain ⟨hm, _, _, hleast⟩ := due_one hv ho
                    have hle := hleast k hkn hcan hfree
                    refine BR_ff (decide_eq_false (by show ¬ ((m : Nat) : Int) < 0; omega)) ?_
                    refine ⟨_, r1'.cell, ?_⟩
                    refine ⟨_, _, _, g1u2.cell c0, ?_⟩
                    obtain ⟨am, p0, p1, _⟩ := man_row (rx g1u2) hm
                    refine IXS_at p0 hm ?_
                    refine ⟨_, p1, ?_⟩
                    exact (fun (b : Bool) (hb : b = false) => (by subst hb; exact J4 : J_law13_PrizeDue_4 W (endK K E) b ⟨s.size, 0, none⟩ q T.z cq (bestP T).1 fe (setK (tkF (dueL T z)) 8 : Nat) z (manI (some m)) T.z x T.n c T.n nx1 b106 k u2)) _ (decide_eq_false (by omega))
                · unfold J_law13_PrizeDue_5
                  exact BR_ff rfl J4
              refine BR_bool (fun heq => ?_) (fun _ => J6)
              have heq' : manI o = (k : Nat) := by simpa using heq
              have hok' : o = some k := by
                cases o with
                | none => have : (-1 : Int) = (k : Nat) := heq'; omega
                | some m => have : ((m : Nat) : Int) = (k : Nat) := heq'; congr 1; omega
              have hcan := (due_one hv (ho.trans hok')).2.1
              have : (!canC T k z) = false := by rw [hcan]; rfl
              rw [this]
              exact J6
            refine BR_eq (fun h4 => ?_) (fun h4 => ?_)
            · have J8 : ∀ b, b = (canP T k z && (fe == 0)) → J_law13_PrizeDue_8 W (endK K E) b u.size 0 (bestP T).1 k (setK (tkF (dueL T z)) 8 : Nat) (manI o) ⟨s.size, 0, none⟩ q T.z cq fe z T.z x T.n c T.n nx1 b106 u2 := by
                intro b hb
                unfold J_law13_PrizeDue_8
                refine BR_bool (fun hbt => ?_) (fun hbf => ?_)
                · refine ⟨_, r2'.cell, ?_⟩
                  refine J7 _ ?_
                  rw [hb] at hbt
                  simp only [Bool.and_eq_true] at hbt
                  rw [canC_4 h4, hbt.1]; rfl
                · refine J7 _ ?_
                  rw [hb] at hbf
                  rcases hfe2 with ⟨hf1, hf2⟩ | ⟨hf1, hf2⟩
                  · rw [canC_no hf2 h4]
                  · rw [hf1] at hbf
                    have : canP T k z = false := by simpa using hbf
                    rw [canC_4 h4, this]; rfl
              refine BR_bool (fun hc => J8 _ (by rw [hc]; rfl)) (fun hc => J8 _ (by rw [hc]; rfl))
            · exact J7 _ (canC_not4 h4).symm
          · have hkn : k = T.n := by omega
            cases o with
            | none =>
              refine BR_ff (decide_eq_false (by show ¬ (-1 : Int) ≥ 0; omega)) ?_
              rw [← hnx]
              refine ⟨rfl, _, _, _, rfl, ⟨et.trans eu, z + 1, hzl, wrap_succ (by omega), ?_⟩, ms_succ hzl (by omega)⟩
              rw [hstep, tkF_none]
            | some m =>
              obtain ⟨hm, _, hfree, _⟩ := due_one hv ho
              refine BR_tt (decide_eq_true (by show ((m : Nat) : Int) ≥ 0; omega)) ?_
              refine NNI_of (by show 0 ≤ ((m : Nat) : Int); omega) ?_
              rw [← hnx]
              refine ⟨rfl, _, _, _, rfl, ⟨et.trans eu, z + 1, hzl, wrap_succ (by omega), ?_⟩, ms_succ hzl (by omega)⟩
              rw [hstep, tkF_some]
              exact bit_put (by omega) hfree
        cases o with
        | none => exact BR_ff (decide_eq_false (by show ¬ (-1 : Int) ≥ 0; omega)) J2
        | some m =>
          obtain ⟨hm, _, hfree, _⟩ := due_one hv ho
          refine BR_tt (decide_eq_true (by show ((m : Nat) : Int) ≥ 0; omega)) ?_
          refine NNI_of (by show 0 ≤ ((m : Nat) : Int); omega) ?_
          have : (andv .i64 (shrv .i64 ((setK (tkF (dueL T z)) 8 : Nat) : Int) (manI (some m))) 1 == 1) = false := by
            have := bit_is (tkF (dueL T z)) (i := m) (by omega)
            rw [hfree] at this; exact this
          rw [this]
          exact J2
      · have hzl : z = T.z := by omega
        subst hzl
        refine ⟨_, _, _, g1t.cell c0, _, _, _, g1t.cell c1, ?_⟩
        refine c_WrongL (due_len T).symm (rx g1t) (ry g1t) (rq et) fun u eu => ?_
        rw [wrong_due hok]
        try simp only [TUP_mk, AGG_mk, HD_mk, NL_mk, TYI_mk, TYB_mk, TYP_mk, TYL_mk, TYS_mk, TYM_mk, SO_mk, NX_mk, endK_mk, endK_mk', add_0]
        refine BR_tt rfl ?_
        exact c_awake' (g1t.trans eu) fun v ev => h v (e1.trans ev)
    have J0 : J_law13_PrizeDue_0 W (endK K E) false s.size q T.z cq (bestP T).1 fe s5 := by
      unfold J_law13_PrizeDue_0
      exact BR_ff rfl main
    rcases hfe2 with ⟨hf1, hf2⟩ | ⟨hf1, hf2⟩
    · subst hf1
      refine BR_tt rfl ?_
      refine BR_ff rfl ?_
      have : ((bestP T).1 != 0) = false := by rw [hf2]; rfl
      rw [this]
      exact J0
    · subst hf1
      exact BR_ff rfl J0
end
end Go.Proofs.Ytfaeokcbfnlgbaa.G

/- PrizeDue, from any arguments. -/
namespace Go.Proofs.Ytfaeokcbfnlgbaa.G
open Go.V
theorem v_PrizeDue {W : World} {s : Hp} {v0 : Value} (k0 : RdV Pg s 25 v0) : CALL Pg W F_law13_PrizeDue [v0] (fun v s' => v = .bool true ∧ Ext s s') (fun _ _ => False) s := by
  obtain ⟨x, c, y, c', T, rfl, hx, hy⟩ := prizes_rd k0
  exact w_PrizeDue hx hy fun s' e => ⟨rfl, e⟩
end Go.Proofs.Ytfaeokcbfnlgbaa.G

/- The row of the statement PrizeDue. -/
namespace Go.Proofs.Ytfaeokcbfnlgbaa.prizeDue
open Go.ChangeShapes Go.WideShapes Go.ChangeAt Go.RowKit Go.V
set_option linter.unusedVariables false
theorem own : ownKnob Try.prog.godebug = none := by kernel_rfl
theorem laidOut : laidOutB Try.prog = true := by kernel_rfl
set_option maxRecDepth 100000 in
theorem lifted (os : Os) (started : os.Started) (H : Type) (enc : TypeId × Value → H) :
    ReturnsInHanded {} Try.checked os 5 .any (Rows.prizeDueSpec.pre6 enc Try.prog Try.f5 Rows.prizeDueRow.domain false) (Rows.prizeDueSpec.post enc Try.prog Try.f5 false true false false) := by
  refine returnsInHanded_of_change_sized (C := Try.checked) own started (by kernel_rfl) Try.func5
    (ChangeSpec.witness6 (enc := enc) (C := Try.checked) false ⟨#[], #[(.agg #[(.slice none 0 0), (.slice none 0 0)])], []⟩ 8 (by kernel_rfl) (by kernel_rfl) (by kernel_rfl) (by kernel_rfl)) ?_
  intro W base args ds gs before hval0 hW hcnd hsz0 _
  have hsz : (DataW.weightsEach Try.prog (Try.f5.params.toList ++ Rows.prizeDueSpec.plain.varTypes Try.prog) (ds ++ gs)).all (· ≤ reachBytes) = true := hsz0
  have hval : ∀ (j : Nat) t v, Try.f5.params[j]? = some t → args[j]? = some v → Value.okWide Try.prog W .any base t v := hval0
  have hW' := hW
  obtain ⟨p, q, hA0, hV, rfl, hfz, hnd⟩ := hW
  have hA : DataW.TrodAll enc Try.prog W 0 (fun _ => true) true Try.f5.params.toList args.toList ds p := hA0
  rw [Try.params5] at hA hval hsz
  obtain ⟨v0, vs0, d0, ds0, p0, q0, hargs, rfl, rfl, h0, r0⟩ := trodAll_cons hA
  obtain ⟨rfl, rfl, rfl⟩ := trodAll_nil r0
  obtain rfl : args = #[v0] := by cases args; simp_all
  obtain ⟨rfl, rfl⟩ := trodVars_none hV
  have k0 := trod_rdV (hval 0 25 v0 rfl rfl) h0
  have lt0 : ∀ x ∈ p0, x.block < W.heap.size := by obtain ⟨m, hm⟩ := h0; exact DataW.trod_lt m _ _ _ hm
  refine (calls_of_does (does_of_call (G.v_PrizeDue (W := W) (s := W.heap) k0))).mono fun e W' ⟨he, bel⟩ => ?_
  subst he
  exact ⟨_, rfl, _, _, _, [], _, [], hW', trodAll_mk1 (shut_bool Try.underlying4 _), (trodAll_cons_mk (Below.trod laidOut (by kernel_rfl) (of_decide_eq_true (by kernel_rfl)) h0 bel lt0) trodAll_mk0), rfl, bel.frame _, fun h => by cases h⟩
theorem over : Rows.prizeDueRow.holds Try.pinned (OpenSpec.ofChange Rows.prizeDueSpec) :=
  OpenClaim.holds_of_wide 5 Try.f5 rfl rfl rfl rfl rfl rfl rfl ⟨rfl, rfl, rfl, rfl, rfl⟩ rfl rfl rfl rfl rfl (by kernel_rfl) Try.func5 (by kernel_rfl)
    (of_decide_eq_true (by kernel_rfl)) (by unfold Func.isWrapper; first | (rw [if_pos (by decide +kernel)]; kernel_rfl) | (rw [if_neg (by decide +kernel)]; exact ⟨rfl, rfl⟩))
    (fun os started H enc _ => lifted os started H enc)
theorem proved : Rows.PrizeDueSaid := over
end Go.Proofs.Ytfaeokcbfnlgbaa.prizeDue
namespace Go.Proofs.Ytfaeokcbfnlgbaa
/-- The row, under a short name. -/
theorem prizeDue_holds : Rows.PrizeDueSaid := prizeDue.proved
end Go.Proofs.Ytfaeokcbfnlgbaa
