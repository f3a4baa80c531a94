import Derived.Test.YtfaeokcbfnlgbaaC3
/- The sum of the best club is that of its two best ploughmen, and no club has less, or as much and a lesser number; and there is none just if nobody has a club. -/
/- More of the functions' shallow texts, by gen.py. -/
set_option linter.unusedVariables false
set_option maxRecDepth 100000
namespace Go.Proofs.Ytfaeokcbfnlgbaa.G
open Go.V
def an_14 : Nat → Ann := fun b => match b with
  | _ => {}
abbrev rv_14 : List ResultVar := [.tmp 0]
abbrev rs_14 : List Nat := [147, 0]
def J_law13_awake_0 (W : World) (R : Ending → Hp → Prop) (b212 : Bool) (n151 : Int) (n170 : Int) (n173 : Int) (n192 : Int) (n195 : Int) : Hp → Prop :=
  BR b212
    (BR (n151 == 0)
      (BR (n170 == 24)
        (BR (n173 == 0)
          (BR (n192 == 3)
            (R (.returned (.bool (n195 == 0))))
            (R (.returned (.bool false))))
          (R (.returned (.bool false))))
        (R (.returned (.bool false))))
      (R (.returned (.bool false))))
    (R (.returned (.bool false)))
def J_law13_awake_1 (W : World) (R : Ending → Hp → Prop) (b207 : Bool) (n143 : Int) (x146 : Option Addr) (l147 : Nat) (c148 : Nat) (n151 : Int) (n170 : Int) (n173 : Int) (n192 : Int) (n195 : Int) : Hp → Prop :=
  BR b207
    (R (.returned (.bool false)))
    (BR (n143 == 5)
      (NEW 3 [(.int .i64 0), (.int .i64 2), (.int .i64 1), (.int .i64 4), (.int .i64 3)] fun B208 =>
        CALL Pg W F_ref13_Ints [(.slice x146 l147 c148), (.slice (some ⟨B208, 0, none⟩) 5 5)]
          (fun v209 => TYB v209 fun b211 =>
            J_law13_awake_0 W R b211 n151 n170 n173 n192 n195)
            (fun e210 => R (.panicked e210)))
      (J_law13_awake_0 W R false n151 n170 n173 n192 n195))
def J_law13_awake_2 (W : World) (R : Ending → Hp → Prop) (b206 : Bool) (n143 : Int) (x146 : Option Addr) (l147 : Nat) (c148 : Nat) (n151 : Int) (n170 : Int) (n173 : Int) (n192 : Int) (n195 : Int) (n124 : Int) : Hp → Prop :=
  BR b206
    (J_law13_awake_1 W R true n143 x146 l147 c148 n151 n170 n173 n192 n195)
    (J_law13_awake_1 W R (n124 != 0) n143 x146 l147 c148 n151 n170 n173 n192 n195)
def J_law13_awake_3 (W : World) (R : Ending → Hp → Prop) (b205 : Bool) (n143 : Int) (x146 : Option Addr) (l147 : Nat) (c148 : Nat) (n151 : Int) (n170 : Int) (n173 : Int) (n192 : Int) (n195 : Int) (n124 : Int) (n121 : Int) : Hp → Prop :=
  BR b205
    (J_law13_awake_2 W R true n143 x146 l147 c148 n151 n170 n173 n192 n195 n124)
    (J_law13_awake_2 W R (n121 != 290) n143 x146 l147 c148 n151 n170 n173 n192 n195 n124)
def J_law13_awake_4 (W : World) (R : Ending → Hp → Prop) (b204 : Bool) (n143 : Int) (x146 : Option Addr) (l147 : Nat) (c148 : Nat) (n151 : Int) (n170 : Int) (n173 : Int) (n192 : Int) (n195 : Int) (n124 : Int) (n121 : Int) (x116 : Option Addr) (l117 : Nat) (c118 : Nat) : Hp → Prop :=
  BR b204
    (J_law13_awake_3 W R true n143 x146 l147 c148 n151 n170 n173 n192 n195 n124 n121)
    (NEW 3 [(.int .i64 80), (.int .i64 100), (.int .i64 50), (.int .i64 20), (.int .i64 40)] fun B213 =>
      CALL Pg W F_ref13_Ints [(.slice x116 l117 c118), (.slice (some ⟨B213, 0, none⟩) 5 5)]
        (fun v214 => TYB v214 fun b216 =>
          J_law13_awake_3 W R (!b216) n143 x146 l147 c148 n151 n170 n173 n192 n195 n124 n121)
          (fun e215 => R (.panicked e215)))
def J_law13_awake_5 (W : World) (R : Ending → Hp → Prop) (b203 : Bool) (n143 : Int) (x146 : Option Addr) (l147 : Nat) (c148 : Nat) (n151 : Int) (n170 : Int) (n173 : Int) (n192 : Int) (n195 : Int) (n124 : Int) (n121 : Int) (x116 : Option Addr) (l117 : Nat) (c118 : Nat) (n97 : Int) : Hp → Prop :=
  BR b203
    (J_law13_awake_4 W R true n143 x146 l147 c148 n151 n170 n173 n192 n195 n124 n121 x116 l117 c118)
    (J_law13_awake_4 W R (n97 != 0) n143 x146 l147 c148 n151 n170 n173 n192 n195 n124 n121 x116 l117 c118)
def J_law13_awake_6 (W : World) (R : Ending → Hp → Prop) (b202 : Bool) (n143 : Int) (x146 : Option Addr) (l147 : Nat) (c148 : Nat) (n151 : Int) (n170 : Int) (n173 : Int) (n192 : Int) (n195 : Int) (n124 : Int) (n121 : Int) (x116 : Option Addr) (l117 : Nat) (c118 : Nat) (n97 : Int) (n94 : Int) : Hp → Prop :=
  BR b202
    (J_law13_awake_5 W R true n143 x146 l147 c148 n151 n170 n173 n192 n195 n124 n121 x116 l117 c118 n97)
    (J_law13_awake_5 W R (n94 != 5) n143 x146 l147 c148 n151 n170 n173 n192 n195 n124 n121 x116 l117 c118 n97)
def J_law13_awake_7 (W : World) (R : Ending → Hp → Prop) (b201 : Bool) (n143 : Int) (x146 : Option Addr) (l147 : Nat) (c148 : Nat) (n151 : Int) (n170 : Int) (n173 : Int) (n192 : Int) (n195 : Int) (n124 : Int) (n121 : Int) (x116 : Option Addr) (l117 : Nat) (c118 : Nat) (n97 : Int) (n94 : Int) (n91 : Int) : Hp → Prop :=
  BR b201
    (J_law13_awake_6 W R true n143 x146 l147 c148 n151 n170 n173 n192 n195 n124 n121 x116 l117 c118 n97 n94)
    (J_law13_awake_6 W R (n91 != 1) n143 x146 l147 c148 n151 n170 n173 n192 n195 n124 n121 x116 l117 c118 n97 n94)
def J_law13_awake_8 (W : World) (R : Ending → Hp → Prop) (b200 : Bool) (n143 : Int) (x146 : Option Addr) (l147 : Nat) (c148 : Nat) (n151 : Int) (n170 : Int) (n173 : Int) (n192 : Int) (n195 : Int) (n124 : Int) (n121 : Int) (x116 : Option Addr) (l117 : Nat) (c118 : Nat) (n97 : Int) (n94 : Int) (n91 : Int) (n72 : Int) : Hp → Prop :=
  BR b200
    (J_law13_awake_7 W R true n143 x146 l147 c148 n151 n170 n173 n192 n195 n124 n121 x116 l117 c118 n97 n94 n91)
    (J_law13_awake_7 W R (n72 != 0) n143 x146 l147 c148 n151 n170 n173 n192 n195 n124 n121 x116 l117 c118 n97 n94 n91)
def J_law13_awake_9 (W : World) (R : Ending → Hp → Prop) (b199 : Bool) (n143 : Int) (x146 : Option Addr) (l147 : Nat) (c148 : Nat) (n151 : Int) (n170 : Int) (n173 : Int) (n192 : Int) (n195 : Int) (n124 : Int) (n121 : Int) (x116 : Option Addr) (l117 : Nat) (c118 : Nat) (n97 : Int) (n94 : Int) (n91 : Int) (n72 : Int) (n69 : Int) : Hp → Prop :=
  BR b199
    (J_law13_awake_8 W R true n143 x146 l147 c148 n151 n170 n173 n192 n195 n124 n121 x116 l117 c118 n97 n94 n91 n72)
    (J_law13_awake_8 W R (n69 != 3) n143 x146 l147 c148 n151 n170 n173 n192 n195 n124 n121 x116 l117 c118 n97 n94 n91 n72)
def J_law13_awake_10 (W : World) (R : Ending → Hp → Prop) (b198 : Bool) (n143 : Int) (x146 : Option Addr) (l147 : Nat) (c148 : Nat) (n151 : Int) (n170 : Int) (n173 : Int) (n192 : Int) (n195 : Int) (n124 : Int) (n121 : Int) (x116 : Option Addr) (l117 : Nat) (c118 : Nat) (n97 : Int) (n94 : Int) (n91 : Int) (n72 : Int) (n69 : Int) (n66 : Int) : Hp → Prop :=
  BR b198
    (J_law13_awake_9 W R true n143 x146 l147 c148 n151 n170 n173 n192 n195 n124 n121 x116 l117 c118 n97 n94 n91 n72 n69)
    (J_law13_awake_9 W R (n66 != 4) n143 x146 l147 c148 n151 n170 n173 n192 n195 n124 n121 x116 l117 c118 n97 n94 n91 n72 n69)
def J_law13_awake_11 (W : World) (R : Ending → Hp → Prop) (b197 : Bool) (n143 : Int) (x146 : Option Addr) (l147 : Nat) (c148 : Nat) (n151 : Int) (n170 : Int) (n173 : Int) (n192 : Int) (n195 : Int) (n124 : Int) (n121 : Int) (x116 : Option Addr) (l117 : Nat) (c118 : Nat) (n97 : Int) (n94 : Int) (n91 : Int) (n72 : Int) (n69 : Int) (n66 : Int) (n46 : Int) : Hp → Prop :=
  BR b197
    (J_law13_awake_10 W R true n143 x146 l147 c148 n151 n170 n173 n192 n195 n124 n121 x116 l117 c118 n97 n94 n91 n72 n69 n66)
    (J_law13_awake_10 W R (n46 != 0) n143 x146 l147 c148 n151 n170 n173 n192 n195 n124 n121 x116 l117 c118 n97 n94 n91 n72 n69 n66)
def J_law13_awake_12 (W : World) (R : Ending → Hp → Prop) (b196 : Bool) (n143 : Int) (x146 : Option Addr) (l147 : Nat) (c148 : Nat) (n151 : Int) (n170 : Int) (n173 : Int) (n192 : Int) (n195 : Int) (n124 : Int) (n121 : Int) (x116 : Option Addr) (l117 : Nat) (c118 : Nat) (n97 : Int) (n94 : Int) (n91 : Int) (n72 : Int) (n69 : Int) (n66 : Int) (n46 : Int) (x41 : Option Addr) (l42 : Nat) (c43 : Nat) : Hp → Prop :=
  BR b196
    (J_law13_awake_11 W R true n143 x146 l147 c148 n151 n170 n173 n192 n195 n124 n121 x116 l117 c118 n97 n94 n91 n72 n69 n66 n46)
    (NEW 3 [(.int .i64 1), (.int .i64 2), (.int .i64 0), (.int .i64 4), (.int .i64 3)] fun B217 =>
      CALL Pg W F_ref13_Ints [(.slice x41 l42 c43), (.slice (some ⟨B217, 0, none⟩) 5 5)]
        (fun v218 => TYB v218 fun b220 =>
          J_law13_awake_11 W R (!b220) n143 x146 l147 c148 n151 n170 n173 n192 n195 n124 n121 x116 l117 c118 n97 n94 n91 n72 n69 n66 n46)
          (fun e219 => R (.panicked e219)))
def T_law13_awake (W : World) (R : Ending → Hp → Prop) : Hp → Prop :=
  CALL Pg W F_law13_sample []
    (fun v1 => AGG v1 fun q3 => HD q3 fun v4 r5 => TYL v4 fun x6 l7 c8 =>
      HD r5 fun v9 r10 => TYL v9 fun x11 l12 c13 =>
        NL r10 <|
          CALL Pg W F_prize_Can [(.agg #[(.slice x6 l7 c8), (.slice x11 l12 c13)]), (.int .i64 3), (.int .i64 2)]
            (fun v14 => TUP v14 fun q16 => HD q16 fun v17 r18 => TYB v17 fun b19 =>
              HD r18 fun v20 r21 => TYI .i64 v20 fun n22 =>
                NL r21 <|
                  CALL Pg W F_law13_sample []
                    (fun v23 => AGG v23 fun q25 => HD q25 fun v26 r27 => TYL v26 fun x28 l29 c30 =>
                      HD r27 fun v31 r32 => TYL v31 fun x33 l34 c35 =>
                        NL r32 <|
                          CALL Pg W F_prize_Due [(.agg #[(.slice x28 l29 c30), (.slice x33 l34 c35)])]
                            (fun v36 => TUP v36 fun q38 => HD q38 fun v39 r40 => TYL v39 fun x41 l42 c43 =>
                              HD r40 fun v44 r45 => TYI .i64 v44 fun n46 =>
                                NL r45 <|
                                  CALL Pg W F_law13_sample []
                                    (fun v47 => AGG v47 fun q49 => HD q49 fun v50 r51 => TYL v50 fun x52 l53 c54 =>
                                      HD r51 fun v55 r56 => TYL v55 fun x57 l58 c59 =>
                                        NL r56 <|
                                          NEW 3 [(.int .i64 1), (.int .i64 2), (.int .i64 0), (.int .i64 4), (.int .i64 (-1))] fun B60 =>
                                            CALL Pg W F_prize_Wrong [(.agg #[(.slice x52 l53 c54), (.slice x57 l58 c59)]), (.slice (some ⟨B60, 0, none⟩) 5 5)]
                                              (fun v61 => TUP v61 fun q63 => HD q63 fun v64 r65 => TYI .i64 v64 fun n66 =>
                                                HD r65 fun v67 r68 => TYI .i64 v67 fun n69 =>
                                                  HD r68 fun v70 r71 => TYI .i64 v70 fun n72 =>
                                                    NL r71 <|
                                                      CALL Pg W F_law13_sample []
                                                        (fun v73 => AGG v73 fun q75 => HD q75 fun v76 r77 => TYL v76 fun x78 l79 c80 =>
                                                          HD r77 fun v81 r82 => TYL v81 fun x83 l84 c85 =>
                                                            NL r82 <|
                                                              CALL Pg W F_prize_Club [(.agg #[(.slice x78 l79 c80), (.slice x83 l84 c85)])]
                                                                (fun v86 => TUP v86 fun q88 => HD q88 fun v89 r90 => TYI .i64 v89 fun n91 =>
                                                                  HD r90 fun v92 r93 => TYI .i64 v92 fun n94 =>
                                                                    HD r93 fun v95 r96 => TYI .i64 v95 fun n97 =>
                                                                      NL r96 <|
                                                                        CALL Pg W F_law13_sample []
                                                                          (fun v98 => AGG v98 fun q100 => HD q100 fun v101 r102 => TYL v101 fun x103 l104 c105 =>
                                                                            HD r102 fun v106 r107 => TYL v106 fun x108 l109 c110 =>
                                                                              NL r107 <|
                                                                                CALL Pg W F_prize_Worth [(.agg #[(.slice x103 l104 c105), (.slice x108 l109 c110)]), (.slice x41 l42 c43)]
                                                                                  (fun v111 => TUP v111 fun q113 => HD q113 fun v114 r115 => TYL v114 fun x116 l117 c118 =>
                                                                                    HD r115 fun v119 r120 => TYI .i64 v119 fun n121 =>
                                                                                      HD r120 fun v122 r123 => TYI .i64 v122 fun n124 =>
                                                                                        NL r123 <|
                                                                                          CALL Pg W F_law13_sample []
                                                                                            (fun v125 => AGG v125 fun q127 => HD q127 fun v128 r129 => TYL v128 fun x130 l131 c132 =>
                                                                                              HD r129 fun v133 r134 => TYL v133 fun x135 l136 c137 =>
                                                                                                NL r134 <|
                                                                                                  CALL Pg W F_prize_Most [(.agg #[(.slice x130 l131 c132), (.slice x135 l136 c137)])]
                                                                                                    (fun v138 => TUP v138 fun q140 => HD q140 fun v141 r142 => TYI .i64 v141 fun n143 =>
                                                                                                      HD r142 fun v144 r145 => TYL v144 fun x146 l147 c148 =>
                                                                                                        HD r145 fun v149 r150 => TYI .i64 v149 fun n151 =>
                                                                                                          NL r150 <|
                                                                                                            CALL Pg W F_law13_sample []
                                                                                                              (fun v152 => AGG v152 fun q154 => HD q154 fun v155 r156 => TYL v155 fun x157 l158 c159 =>
                                                                                                                HD r156 fun v160 r161 => TYL v160 fun x162 l163 c164 =>
                                                                                                                  NL r161 <|
                                                                                                                    CALL Pg W F_prize_Stay [(.agg #[(.slice x157 l158 c159), (.slice x162 l163 c164)]), (.int .i64 0)]
                                                                                                                      (fun v165 => TUP v165 fun q167 => HD q167 fun v168 r169 => TYI .i64 v168 fun n170 =>
                                                                                                                        HD r169 fun v171 r172 => TYI .i64 v171 fun n173 =>
                                                                                                                          NL r172 <|
                                                                                                                            CALL Pg W F_law13_sample []
                                                                                                                              (fun v174 => AGG v174 fun q176 => HD q176 fun v177 r178 => TYL v177 fun x179 l180 c181 =>
                                                                                                                                HD r178 fun v182 r183 => TYL v182 fun x184 l185 c186 =>
                                                                                                                                  NL r183 <|
                                                                                                                                    CALL Pg W F_prize_For [(.agg #[(.slice x179 l180 c181), (.slice x184 l185 c186)]), (.int .i64 0)]
                                                                                                                                      (fun v187 => TUP v187 fun q189 => HD q189 fun v190 r191 => TYI .i64 v190 fun n192 =>
                                                                                                                                        HD r191 fun v193 r194 => TYI .i64 v193 fun n195 =>
                                                                                                                                          NL r194 <|
                                                                                                                                            BR b19
                                                                                                                                              (J_law13_awake_12 W R true n143 x146 l147 c148 n151 n170 n173 n192 n195 n124 n121 x116 l117 c118 n97 n94 n91 n72 n69 n66 n46 x41 l42 c43)
                                                                                                                                              (J_law13_awake_12 W R (n22 != 0) n143 x146 l147 c148 n151 n170 n173 n192 n195 n124 n121 x116 l117 c118 n97 n94 n91 n72 n69 n66 n46 x41 l42 c43))
                                                                                                                                        (fun e188 => R (.panicked e188)))
                                                                                                                                (fun e175 => R (.panicked e175)))
                                                                                                                        (fun e166 => R (.panicked e166)))
                                                                                                                (fun e153 => R (.panicked e153)))
                                                                                                      (fun e139 => R (.panicked e139)))
                                                                                              (fun e126 => R (.panicked e126)))
                                                                                    (fun e112 => R (.panicked e112)))
                                                                            (fun e99 => R (.panicked e99)))
                                                                  (fun e87 => R (.panicked e87)))
                                                          (fun e74 => R (.panicked e74)))
                                                (fun e62 => R (.panicked e62)))
                                      (fun e48 => R (.panicked e48)))
                              (fun e37 => R (.panicked e37)))
                      (fun e24 => R (.panicked e24)))
              (fun e15 => R (.panicked e15)))
      (fun e2 => R (.panicked e2))
theorem T_law13_awake_eq (W : World) (R : Ending → Hp → Prop) : vfun Pg W an_14 Try.f14 [] R = T_law13_awake W R := by kernel_rfl
theorem does_law13_awake (W : World) (R : Ending → Hp → Prop) (s : Hp) (h : T_law13_awake W R s) : Does Pg W F_law13_awake #[] s R :=
  does_of_vfun Pg W an_14 Try.func14 rfl (by kernel_rfl) (by rw [T_law13_awake_eq]; exact h)
end Go.Proofs.Ytfaeokcbfnlgbaa.G

/- Prize: what the document fixes. -/
set_option linter.unusedSimpArgs false
set_option linter.unusedVariables false
set_option maxRecDepth 20000
namespace Go.Proofs.Ytfaeokcbfnlgbaa.G
open Go.V
def pz2 (m : Pz) : List Value := [.int .i64 m.kind, .int .i64 m.worth]
def pzV (l : List Pz) : List Value := l.flatMap pz2
theorem pzV_len : ∀ l : List Pz, (pzV l).length = l.length * 2
  | [] => rfl
  | x :: l => by
    have ih := pzV_len l
    show (pz2 x ++ pzV l).length = _
    rw [List.length_append, ih, List.length_cons]
    show 2 + _ = _
    omega
theorem pzV_one (l : List Pz) : ∀ v ∈ pzV l, oneCell v = true := by
  intro v hv
  obtain ⟨m, _, h⟩ := List.mem_flatMap.1 hv
  simp [pz2] at h
  rcases h with rfl | rfl <;> rfl
theorem pzV_get : ∀ (l : List Pz) (k : Nat) (h : k < l.length), (pzV l)[k * 2]? = some (.int .i64 l[k].kind) ∧ (pzV l)[k * 2 + 1]? = some (.int .i64 l[k].worth)
  | [], k, h => by simp at h
  | x :: l, 0, h => ⟨rfl, rfl⟩
  | x :: l, k + 1, h => by
    obtain ⟨h1, h2⟩ := pzV_get l k (by simpa using h)
    have e : ∀ j : Nat, (pzV (x :: l))[2 + j]? = (pzV l)[j]? := fun j => by
      show (pz2 x ++ pzV l)[2 + j]? = _
      rw [List.getElem?_append_right (show (pz2 x).length ≤ 2 + j by show 2 ≤ _; omega)]
      congr 1
      show 2 + j - 2 = j
      omega
    refine ⟨?_, ?_⟩
    · rw [show (k + 1) * 2 = 2 + k * 2 by omega, e, h1]; rfl
    · rw [show (k + 1) * 2 + 1 = 2 + (k * 2 + 1) by omega, e, h2]; rfl
theorem row_pz {s : Hp} {x : Option Addr} {l : List Pz} (h : RowAt s x (pzV l)) : PzAt s x l := fun i hi => by
  obtain ⟨g1, g2⟩ := pzV_get l i hi
  obtain ⟨a, h0, h1⟩ := row_get h g1
  obtain ⟨b, k0, h2⟩ := row_get h g2
  rw [h0] at k0; cases k0
  exact ⟨a, h0, by rw [addr_add]; exact h1, by rw [addr_add]; exact h2⟩
theorem pz_row' {s : Hp} {x : Option Addr} {l : List Pz} (h : PzAt s x l) : RowAt s x (pzV l) := fun i hi => by
  have hi' := hi
  rw [pzV_len] at hi'
  have hk : i / 2 < l.length := by omega
  obtain ⟨a, h0, h1, h2⟩ := h (i / 2) hk
  obtain ⟨g1, g2⟩ := pzV_get l (i / 2) hk
  refine ⟨a, h0, ?_⟩
  rw [Nat.mul_one]
  rcases Nat.mod_two_eq_zero_or_one i with e | e
  · have e' : i / 2 * 2 = i := by omega
    rw [addr_add] at h1
    simp only [e', Nat.add_zero] at h1 g1
    rw [h1, ← g1, List.getElem?_eq_getElem hi]
  · have e' : i / 2 * 2 + 1 = i := by omega
    rw [addr_add] at h2
    simp only [e'] at h2 g2
    rw [h2, ← g2, List.getElem?_eq_getElem hi]
/-- The prizes of the document's examples. -/
def SP : PT := ⟨[⟨2, 1, false, false⟩, ⟨1, 2, false, false⟩, ⟨3, 1, true, false⟩, ⟨5, 0, true, true⟩, ⟨4, 2, false, true⟩], [⟨0, 100⟩, ⟨1, 50⟩, ⟨4, 80⟩, ⟨2, 40⟩, ⟨3, 20⟩]⟩
theorem sp_can : canR SP 3 2 = (false, 0) := by decide +kernel
theorem sp_due : dueR SP = ([1, 2, 0, 4, 3], 0) := by decide +kernel
theorem sp_wrong : wrongR SP [1, 2, 0, 4, -1] = (4, 3, 0) := by decide +kernel
theorem sp_club : clubR SP = (1, 5, 0) := by decide +kernel
theorem sp_worth : worthR SP [1, 2, 0, 4, 3] = ([80, 100, 50, 20, 40], 290, 0) := by decide +kernel
theorem sp_most : mostR SP = (5, [0, 2, 1, 4, 3], 0) := by decide +kernel
theorem sp_stay : stayR SP 0 = (24, 0) := by decide +kernel
theorem sp_for : forR SP 0 = (3, 0) := by decide +kernel
section
variable {W : World} {K : VK} {E : List PanicEntry → Hp → Prop} {s : Hp} {T : PT}
theorem c_far {x y q : Option Addr} {c c' l cq : Nat} (h : ∀ s' b, Ext s s' → (b = false → T.n ≤ 40 ∧ T.z ≤ 40 ∧ l ≤ 40) → K (.bool b) s') :
    CALL Pg W F_law13_far [.agg #[.slice x T.n c, .slice y T.z c'], .slice q l cq] K E s := by
  refine does_law13_far W x T.n c y T.z c' q l cq _ s ?_
  unfold T_law13_far
  refine ne2 fun s1 e1 z1 o1 o2 => ?_
  refine ⟨_, _, _, o1.cell, ?_⟩
  refine BR_dec (fun h1 => h s1 true e1 (fun hh => by cases hh)) (fun h1 => ?_)
  refine ⟨_, _, _, o2.cell, ?_⟩
  refine BR_dec (fun h2 => h s1 true e1 (fun hh => by cases hh)) (fun h2 => ?_)
  exact h s1 _ e1 (fun hh => by have := of_decide_eq_false hh; omega)
theorem wr2 {a : Addr} {v0 v1 : Value} {K : Hp → Prop} (h0 : oneCell v0 = true) (h1 : oneCell v1 = true) (ha : ∀ j, j < 2 → ∃ y, Own s (a.add j) y) (h : ∀ s', Kp (· = a.block) s s' → s'.size = s.size → Own s' (a.add 0) v0 → Own s' (a.add 1) v1 → K s') :
    (WR (a.add 0) v0 <| WR (a.add 1) v1 <| K) s := by
  show wrN [v0, v1] a 0 K s
  refine wrN_rule _ a 0 K s (fun i hi => ?_) ?_ ?_
  · rw [Nat.zero_add]; exact ha i hi
  · intro w hw
    simp at hw
    rcases hw with rfl | rfl <;> assumption
  · intro s' k z ho _
    exact h s' k z (ho 0 (by simp)) (ho 1 (by simp))
theorem c_sample (h : ∀ s' x y, Ext s s' → MnAt s' x SP.men → PzAt s' y SP.list → K (.agg #[.slice x 5 5, .slice y 5 5]) s') : CALL Pg W F_law13_sample [] K E s := by
  refine does_law13_sample W _ s ?_
  unfold T_law13_sample
  refine nz2 zc_25 fun s1 e1 z1 q1 q2 => ?_
  refine NEW_rule fun s2 e2 z2 n2 _ => ?_
  refine NEW_rule fun s3 e3 z3 n3 _ => ?_
  have e13 := e2.trans e3
  have hs12 : s.size < s1.size := by omega
  refine wr2 (a := ⟨s.size, 0, none⟩) rfl rfl (fun j hj => ?_) fun t k z o0 o1 => ?_
  · match j, hj with
    | 0, _ => exact ⟨_, e13.own q1⟩
    | 1, _ => exact ⟨_, e13.own q2⟩
  · refine ⟨_, _, _, o0.cell, _, _, _, o1.cell, ?_⟩
    refine h t _ _ (ext_kp (e1.trans e13) (Nat.le_refl _) k) (row_mn ?_) (row_pz ?_)
    · exact ((row_new (vs := mnV SP.men) n2).ext e3).keep k (fun a ha => by cases ha; show ¬ s1.size = s.size; omega)
    · exact (row_new (vs := pzV SP.list) n3).keep k (fun a ha => by cases ha; show ¬ s2.size = s.size; have := e2.1; omega)
theorem x_Can {x y : Option Addr} {c c' : Nat} (hx : MnAt s x SP.men) (hy : PzAt s y SP.list) (h : ∀ s', Ext s s' → K (.tuple #[.bool false, .int .i64 0]) s') : CALL Pg W F_prize_Can [.agg #[.slice x 5 c, .slice y 5 c'], .int .i64 3, .int .i64 2] K E s :=
  c_Can (T := SP) (m := 3) (z := 2) hx hy (by rw [sp_can]; exact h)
theorem x_Due {x y : Option Addr} {c c' : Nat} (hx : MnAt s x SP.men) (hy : PzAt s y SP.list) (h : ∀ s' q cq, Ext s s' → RowAt s' q (ints [1, 2, 0, 4, 3]) → K (.tuple #[.slice q 5 cq, .int .i64 0]) s') : CALL Pg W F_prize_Due [.agg #[.slice x 5 c, .slice y 5 c']] K E s :=
  c_Due (T := SP) hx hy (by rw [sp_due]; exact fun s' q cq e f => h s' q cq e f.row)
theorem x_Wrong {x y q : Option Addr} {c c' cq : Nat} (hx : MnAt s x SP.men) (hy : PzAt s y SP.list) (hq : RowAt s q (ints [1, 2, 0, 4, -1])) (h : ∀ s', Ext s s' → K (.tuple #[.int .i64 4, .int .i64 3, .int .i64 0]) s') : CALL Pg W F_prize_Wrong [.agg #[.slice x 5 c, .slice y 5 c'], .slice q 5 cq] K E s :=
  c_Wrong (T := SP) (ds := [1, 2, 0, 4, -1]) hx hy hq (by rw [sp_wrong]; exact h)
theorem x_Club {x y : Option Addr} {c c' : Nat} (hx : MnAt s x SP.men) (hy : PzAt s y SP.list) (h : ∀ s', Ext s s' → K (.tuple #[.int .i64 1, .int .i64 5, .int .i64 0]) s') : CALL Pg W F_prize_Club [.agg #[.slice x 5 c, .slice y 5 c']] K E s :=
  c_Club (T := SP) hx hy (by rw [sp_club]; exact h)
theorem x_Worth {x y q : Option Addr} {c c' cq : Nat} (hx : MnAt s x SP.men) (hy : PzAt s y SP.list) (hq : RowAt s q (ints [1, 2, 0, 4, 3])) (h : ∀ s' w cw, Ext s s' → RowAt s' w (ints [80, 100, 50, 20, 40]) → K (.tuple #[.slice w 5 cw, .int .i64 290, .int .i64 0]) s') : CALL Pg W F_prize_Worth [.agg #[.slice x 5 c, .slice y 5 c'], .slice q 5 cq] K E s :=
  c_Worth (T := SP) (ds := [1, 2, 0, 4, 3]) hx hy hq (by rw [sp_worth]; exact fun s' w cw e f => h s' w cw e f.row)
theorem x_Most {x y : Option Addr} {c c' : Nat} (hx : MnAt s x SP.men) (hy : PzAt s y SP.list) (h : ∀ s' q cq, Ext s s' → RowAt s' q (ints [0, 2, 1, 4, 3]) → K (.tuple #[.int .i64 5, .slice q 5 cq, .int .i64 0]) s') : CALL Pg W F_prize_Most [.agg #[.slice x 5 c, .slice y 5 c']] K E s :=
  c_Most (T := SP) hx hy (by rw [sp_most]; exact fun s' q cq e f => h s' q cq e f.row)
theorem x_Stay {x y : Option Addr} {c c' : Nat} (hx : MnAt s x SP.men) (hy : PzAt s y SP.list) (h : ∀ s', Ext s s' → K (.tuple #[.int .i64 24, .int .i64 0]) s') : CALL Pg W F_prize_Stay [.agg #[.slice x 5 c, .slice y 5 c'], .int .i64 0] K E s :=
  c_Stay (T := SP) (m := 0) hx hy (by rw [sp_stay]; exact h)
theorem x_For {x y : Option Addr} {c c' : Nat} (hx : MnAt s x SP.men) (hy : PzAt s y SP.list) (h : ∀ s', Ext s s' → K (.tuple #[.int .i64 3, .int .i64 0]) s') : CALL Pg W F_prize_For [.agg #[.slice x 5 c, .slice y 5 c'], .int .i64 0] K E s :=
  c_For (T := SP) (m := 0) hx hy (by rw [sp_for]; exact h)
theorem c_awake (h : ∀ s', Ext s s' → K (.bool true) s') : CALL Pg W F_law13_awake [] K E s := by
  refine does_law13_awake W _ s ?_
  unfold T_law13_awake
  refine c_sample fun s1 x1 y1 e1 r1 q1 => ?_
  try simp only [TUP_mk, AGG_mk, HD_mk, NL_mk, TYI_mk, TYB_mk, TYP_mk, TYL_mk, TYS_mk, TYM_mk, SO_mk, NX_mk, endK_mk, endK_mk', add_0]
  refine x_Can r1 q1 fun s2 e2 => ?_
  try simp only [TUP_mk, AGG_mk, HD_mk, NL_mk, TYI_mk, TYB_mk, TYP_mk, TYL_mk, TYS_mk, TYM_mk, SO_mk, NX_mk, endK_mk, endK_mk', add_0]
  refine c_sample fun s3 x3 y3 e3 r3 q3 => ?_
  try simp only [TUP_mk, AGG_mk, HD_mk, NL_mk, TYI_mk, TYB_mk, TYP_mk, TYL_mk, TYS_mk, TYM_mk, SO_mk, NX_mk, endK_mk, endK_mk', add_0]
  refine x_Due r3 q3 fun s4 d4 cd4 e4 w4 => ?_
  try simp only [TUP_mk, AGG_mk, HD_mk, NL_mk, TYI_mk, TYB_mk, TYP_mk, TYL_mk, TYS_mk, TYM_mk, SO_mk, NX_mk, endK_mk, endK_mk', add_0]
  refine c_sample fun s5 x5 y5 e5 r5 q5 => ?_
  try simp only [TUP_mk, AGG_mk, HD_mk, NL_mk, TYI_mk, TYB_mk, TYP_mk, TYL_mk, TYS_mk, TYM_mk, SO_mk, NX_mk, endK_mk, endK_mk', add_0]
  refine NEW_rule fun s6 e6 z6 n6 _ => ?_
  refine x_Wrong (r5.ext e6) (q5.ext e6) (row_new (vs := ints [1, 2, 0, 4, -1]) n6) fun s7 e7 => ?_
  try simp only [TUP_mk, AGG_mk, HD_mk, NL_mk, TYI_mk, TYB_mk, TYP_mk, TYL_mk, TYS_mk, TYM_mk, SO_mk, NX_mk, endK_mk, endK_mk', add_0]
  refine c_sample fun s8 x8 y8 e8 r8 q8 => ?_
  try simp only [TUP_mk, AGG_mk, HD_mk, NL_mk, TYI_mk, TYB_mk, TYP_mk, TYL_mk, TYS_mk, TYM_mk, SO_mk, NX_mk, endK_mk, endK_mk', add_0]
  refine x_Club r8 q8 fun s9 e9 => ?_
  try simp only [TUP_mk, AGG_mk, HD_mk, NL_mk, TYI_mk, TYB_mk, TYP_mk, TYL_mk, TYS_mk, TYM_mk, SO_mk, NX_mk, endK_mk, endK_mk', add_0]
  refine c_sample fun t1 x11 y11 f1 r11 q11 => ?_
  try simp only [TUP_mk, AGG_mk, HD_mk, NL_mk, TYI_mk, TYB_mk, TYP_mk, TYL_mk, TYS_mk, TYM_mk, SO_mk, NX_mk, endK_mk, endK_mk', add_0]
  have g5 := e5.trans (e6.trans (e7.trans (e8.trans (e9.trans f1))))
  refine x_Worth r11 q11 (w4.ext g5) fun t2 w2 cw2 f2 v2 => ?_
  try simp only [TUP_mk, AGG_mk, HD_mk, NL_mk, TYI_mk, TYB_mk, TYP_mk, TYL_mk, TYS_mk, TYM_mk, SO_mk, NX_mk, endK_mk, endK_mk', add_0]
  refine c_sample fun t3 x13 y13 f3 r13 q13 => ?_
  try simp only [TUP_mk, AGG_mk, HD_mk, NL_mk, TYI_mk, TYB_mk, TYP_mk, TYL_mk, TYS_mk, TYM_mk, SO_mk, NX_mk, endK_mk, endK_mk', add_0]
  refine x_Most r13 q13 fun t4 m4 cm4 f4 v4 => ?_
  try simp only [TUP_mk, AGG_mk, HD_mk, NL_mk, TYI_mk, TYB_mk, TYP_mk, TYL_mk, TYS_mk, TYM_mk, SO_mk, NX_mk, endK_mk, endK_mk', add_0]
  refine c_sample fun t5 x15 y15 f5 r15 q15 => ?_
  try simp only [TUP_mk, AGG_mk, HD_mk, NL_mk, TYI_mk, TYB_mk, TYP_mk, TYL_mk, TYS_mk, TYM_mk, SO_mk, NX_mk, endK_mk, endK_mk', add_0]
  refine x_Stay r15 q15 fun t6 f6 => ?_
  try simp only [TUP_mk, AGG_mk, HD_mk, NL_mk, TYI_mk, TYB_mk, TYP_mk, TYL_mk, TYS_mk, TYM_mk, SO_mk, NX_mk, endK_mk, endK_mk', add_0]
  refine c_sample fun t7 x17 y17 f7 r17 q17 => ?_
  try simp only [TUP_mk, AGG_mk, HD_mk, NL_mk, TYI_mk, TYB_mk, TYP_mk, TYL_mk, TYS_mk, TYM_mk, SO_mk, NX_mk, endK_mk, endK_mk', add_0]
  refine x_For r17 q17 fun t8 f8 => ?_
  try simp only [TUP_mk, AGG_mk, HD_mk, NL_mk, TYI_mk, TYB_mk, TYP_mk, TYL_mk, TYS_mk, TYM_mk, SO_mk, NX_mk, endK_mk, endK_mk', add_0]
  have g8 := f5.trans (f6.trans (f7.trans f8))
  have g28 := f3.trans (f4.trans g8)
  have e0t := e1.trans (e2.trans (e3.trans (e4.trans (g5.trans (f2.trans g28)))))
  refine BR_bool (fun hh => by cases hh) (fun _ => ?_)
  unfold J_law13_awake_12
  refine BR_ne (fun hh => absurd rfl hh) (fun _ => ?_)
  refine NEW_rule fun u1 h1 _ n1 _ => ?_
  refine f_Ints (a := [1, 2, 0, 4, 3]) (b := [1, 2, 0, 4, 3]) (w4.ext (g5.trans (f2.trans (g28.trans h1)))) (row_new (vs := ints [1, 2, 0, 4, 3]) n1) rfl rfl (by decide) ?_
  try simp only [TUP_mk, AGG_mk, HD_mk, NL_mk, TYI_mk, TYB_mk, TYP_mk, TYL_mk, TYS_mk, TYM_mk, SO_mk, NX_mk, endK_mk, endK_mk', add_0]
  unfold J_law13_awake_11
  refine BR_bool (fun hh => absurd hh (by decide)) (fun _ => ?_)
  unfold J_law13_awake_10
  refine BR_ne (fun hh => absurd rfl hh) (fun _ => ?_)
  unfold J_law13_awake_9
  refine BR_ne (fun hh => absurd rfl hh) (fun _ => ?_)
  unfold J_law13_awake_8
  refine BR_ne (fun hh => absurd rfl hh) (fun _ => ?_)
  unfold J_law13_awake_7
  refine BR_ne (fun hh => absurd rfl hh) (fun _ => ?_)
  unfold J_law13_awake_6
  refine BR_ne (fun hh => absurd rfl hh) (fun _ => ?_)
  unfold J_law13_awake_5
  refine BR_ne (fun hh => absurd rfl hh) (fun _ => ?_)
  unfold J_law13_awake_4
  refine BR_ne (fun hh => absurd rfl hh) (fun _ => ?_)
  refine NEW_rule fun u2 h2 _ n2 _ => ?_
  refine f_Ints (a := [80, 100, 50, 20, 40]) (b := [80, 100, 50, 20, 40]) (v2.ext (g28.trans (h1.trans h2))) (row_new (vs := ints [80, 100, 50, 20, 40]) n2) rfl rfl (by decide) ?_
  try simp only [TUP_mk, AGG_mk, HD_mk, NL_mk, TYI_mk, TYB_mk, TYP_mk, TYL_mk, TYS_mk, TYM_mk, SO_mk, NX_mk, endK_mk, endK_mk', add_0]
  unfold J_law13_awake_3
  refine BR_bool (fun hh => absurd hh (by decide)) (fun _ => ?_)
  unfold J_law13_awake_2
  refine BR_ne (fun hh => absurd rfl hh) (fun _ => ?_)
  unfold J_law13_awake_1
  refine BR_ne (fun hh => absurd rfl hh) (fun _ => ?_)
  refine BR_eq (fun _ => ?_) (fun hh => absurd rfl hh)
  refine NEW_rule fun u3 h3 _ n3 _ => ?_
  refine f_Ints (a := [0, 2, 1, 4, 3]) (b := [0, 2, 1, 4, 3]) (v4.ext (g8.trans (h1.trans (h2.trans h3)))) (row_new (vs := ints [0, 2, 1, 4, 3]) n3) rfl rfl (by decide) ?_
  try simp only [TUP_mk, AGG_mk, HD_mk, NL_mk, TYI_mk, TYB_mk, TYP_mk, TYL_mk, TYS_mk, TYM_mk, SO_mk, NX_mk, endK_mk, endK_mk', add_0]
  unfold J_law13_awake_0
  refine BR_bool (fun _ => ?_) (fun hh => absurd hh (by decide))
  refine BR_eq (fun _ => ?_) (fun hh => absurd rfl hh)
  refine BR_eq (fun _ => ?_) (fun hh => absurd rfl hh)
  refine BR_eq (fun _ => ?_) (fun hh => absurd rfl hh)
  refine BR_eq (fun _ => ?_) (fun hh => absurd rfl hh)
  exact h u3 (e0t.trans (h1.trans (h2.trans h3)))
theorem c_awake' {s0 : Hp} (e : Ext s0 s) (h : ∀ s', Ext s0 s' → K (.bool true) s') : CALL Pg W F_law13_awake [] K E s := c_awake fun s' e' => h s' (e.trans e')
end
end Go.Proofs.Ytfaeokcbfnlgbaa.G

/- Prize: contracts for valid prizes. -/
set_option linter.unusedSimpArgs false
set_option linter.unusedVariables false
set_option maxRecDepth 20000
namespace Go.Proofs.Ytfaeokcbfnlgbaa.G
open Go.V
theorem due_len (T : PT) : (manL (dueP T)).length = T.z := by unfold manL dueP; rw [List.length_map, dueL_len]
section
variable {W : World} {K : VK} {E : List PanicEntry → Hp → Prop} {s : Hp} {T : PT}
theorem c_DueV {x y : Option Addr} {c c' : Nat} (hok : okP T = true) (hx : MnAt s x T.men) (hy : PzAt s y T.list) (h : ∀ s' q cq, Ext s s' → Fr s.size s' q T.z cq 1 (ints (manL (dueP T))) → K (.tuple #[.slice q T.z cq, .int .i64 0]) s') :
    CALL Pg W F_prize_Due [.agg #[.slice x T.n c, .slice y T.z c']] K E s := by
  refine c_Due hx hy fun s' q cq e f => ?_
  have hD : dueR T = (manL (dueP T), 0) := by unfold dueR; rw [if_pos hok]
  have hl := due_len T
  rw [hD] at f ⊢
  simp only [hl] at f ⊢
  exact h s' q cq e f
theorem c_DueN {x y : Option Addr} {c c' : Nat} (hok : okP T = false) (hx : MnAt s x T.men) (hy : PzAt s y T.list) (h : ∀ s' q cq, Ext s s' → K (.tuple #[.slice q 0 cq, .int .i64 1]) s') :
    CALL Pg W F_prize_Due [.agg #[.slice x T.n c, .slice y T.z c']] K E s := by
  refine c_Due hx hy fun s' q cq e f => ?_
  have hD : dueR T = ([], 1) := by unfold dueR; rw [hok]; rfl
  rw [hD]
  exact h s' q cq e
theorem c_ClubN {x y : Option Addr} {c c' : Nat} (hok : okP T = false) (hx : MnAt s x T.men) (hy : PzAt s y T.list) (h : ∀ s', Ext s s' → K (.tuple #[.int .i64 0, .int .i64 0, .int .i64 1]) s') :
    CALL Pg W F_prize_Club [.agg #[.slice x T.n c, .slice y T.z c']] K E s := by
  refine c_Club hx hy fun s' e => ?_
  have hD : clubR T = (0, 0, 1) := by unfold clubR; rw [hok]; rfl
  rw [hD]
  exact h s' e
theorem c_ClubV {x y : Option Addr} {c c' : Nat} (hok : okP T = true) (hx : MnAt s x T.men) (hy : PzAt s y T.list) (h : ∀ s', Ext s s' → K (.tuple #[.int .i64 (bestP T).1, .int .i64 (bestP T).2, .int .i64 (if bestP T = (0, 0) then 4 else 0)]) s') :
    CALL Pg W F_prize_Club [.agg #[.slice x T.n c, .slice y T.z c']] K E s := by
  refine c_Club hx hy fun s' e => ?_
  have hD : clubR T = ((bestP T).1, (bestP T).2, if bestP T = (0, 0) then 4 else 0) := by
    unfold clubR
    rw [if_pos hok]
    by_cases hb : bestP T = (0, 0)
    · rw [if_pos hb, if_pos hb, hb]
    · rw [if_neg hb, if_neg hb]
  rw [hD]
  exact h s' e
theorem c_CanV {x y : Option Addr} {c c' m z : Nat} (hok : okP T = true) (hm : m < T.n) (hz : z < T.z) (hx : MnAt s x T.men) (hy : PzAt s y T.list) (h : ∀ s', Ext s s' → K (.tuple #[.bool (canP T m z), .int .i64 0]) s') :
    CALL Pg W F_prize_Can [.agg #[.slice x T.n c, .slice y T.z c'], .int .i64 (m : Nat), .int .i64 (z : Nat)] K E s := by
  refine c_Can hx hy fun s' e => ?_
  have h1 : isM T (m : Nat) = true := decide_eq_true (by omega)
  have h2 : isZ T (z : Nat) = true := decide_eq_true (by omega)
  have hD : canR T (m : Nat) (z : Nat) = (canP T m z, 0) := by unfold canR; rw [if_pos hok, h1, h2, toNat_nat, toNat_nat]; rfl
  rw [hD]
  exact h s' e
theorem c_WrongL {x y q : Option Addr} {c c' cq l : Nat} {ds : List Int} (hl : l = ds.length) (hx : MnAt s x T.men) (hy : PzAt s y T.list) (hq : RowAt s q (ints ds)) (h : ∀ s', Ext s s' → K (.tuple #[.int .i64 (wrongR T ds).1, .int .i64 (wrongR T ds).2.1, .int .i64 (wrongR T ds).2.2]) s') :
    CALL Pg W F_prize_Wrong [.agg #[.slice x T.n c, .slice y T.z c'], .slice q l cq] K E s := by
  subst hl; exact c_Wrong hx hy hq h
theorem c_WorthL {x y q : Option Addr} {c c' cq l : Nat} {ds : List Int} (hl : l = ds.length) (hx : MnAt s x T.men) (hy : PzAt s y T.list) (hq : RowAt s q (ints ds)) (h : ∀ s' w cw, Ext s s' → Fr s.size s' w (worthR T ds).1.length cw 1 (ints (worthR T ds).1) → K (.tuple #[.slice w (worthR T ds).1.length cw, .int .i64 (worthR T ds).2.1, .int .i64 (worthR T ds).2.2]) s') :
    CALL Pg W F_prize_Worth [.agg #[.slice x T.n c, .slice y T.z c'], .slice q l cq] K E s := by
  subst hl; exact c_Worth hx hy hq h
end
theorem canC_no {T : PT} {k z : Nat} (hb : bestP T = (0, 0)) (h4 : (T.pz z).kind = 4) : canC T k z = false := by
  unfold canC canP canK
  rw [h4, hb]
  by_cases hc : (T.man k).club = 0 <;> simp [hc]
theorem canC_not4 {T : PT} {k z : Nat} (h4 : ¬ (T.pz z).kind = 4) : canC T k z = canP T k z := by
  unfold canC
  rw [decide_eq_true h4]; simp
theorem canC_4 {T : PT} {k z : Nat} (h4 : (T.pz z).kind = 4) : canC T k z = (canP T k z && ((T.man k).club == (bestP T).1)) := by
  unfold canC
  rw [h4]; simp
end Go.Proofs.Ytfaeokcbfnlgbaa.G

/- Prize: plain: the best club. -/
set_option linter.unusedSimpArgs false
set_option linter.unusedVariables false
set_option maxRecDepth 20000
namespace Go.Proofs.Ytfaeokcbfnlgbaa.G
open Go.V
def stepT (one two p : Int) : Int × Int := if one = 0 ∨ p < one then (p, one) else if two = 0 ∨ p < two then (one, p) else (one, two)
def Two (P : Int → Prop) (one two : Int) : Prop := (one = 0 ∧ two = 0 ∧ ∀ p, ¬ P p) ∨ (0 < one ∧ two = 0 ∧ ∀ p, P p ↔ p = one) ∨ (0 < one ∧ one < two ∧ P one ∧ P two ∧ ∀ p, P p → p = one ∨ two ≤ p)
theorem Two.step {P : Int → Prop} {one two p : Int} (h : Two P one two) (hp : 0 < p) (hn : ¬ P p) : Two (fun q => P q ∨ q = p) (stepT one two p).1 (stepT one two p).2 := by
  unfold stepT
  rcases h with ⟨rfl, rfl, h3⟩ | ⟨h1, rfl, h3⟩ | ⟨h1, h2, h3, h4, h5⟩
  · rw [if_pos (.inl rfl)]
    refine .inr (.inl ⟨hp, rfl, fun q => ⟨fun hq => ?_, fun hq => .inr hq⟩⟩)
    rcases hq with hq | hq
    · exact absurd hq (h3 q)
    · exact hq
  · have hne : p ≠ one := fun e => hn ((h3 p).2 e)
    by_cases hl : p < one
    · rw [if_pos (.inr hl)]
      refine .inr (.inr ⟨hp, hl, .inr rfl, .inl ((h3 one).2 rfl), fun q hq => ?_⟩)
      rcases hq with hq | hq
      · right; rw [(h3 q).1 hq]; exact Int.le_refl _
      · left; exact hq
    · rw [if_neg (by omega), if_pos (.inl rfl)]
      refine .inr (.inr ⟨h1, by show one < p; omega, .inl ((h3 one).2 rfl), .inr rfl, fun q hq => ?_⟩)
      rcases hq with hq | hq
      · left; exact (h3 q).1 hq
      · right; show p ≤ q; omega
  · have hne1 : p ≠ one := fun e => hn (e ▸ h3)
    have hne2 : p ≠ two := fun e => hn (e ▸ h4)
    by_cases hl : p < one
    · rw [if_pos (.inr hl)]
      refine .inr (.inr ⟨hp, hl, .inr rfl, .inl h3, fun q hq => ?_⟩)
      rcases hq with hq | hq
      · right
        rcases h5 q hq with e | e
        · show one ≤ q; omega
        · show one ≤ q; omega
      · left; exact hq
    · by_cases hl2 : p < two
      · rw [if_neg (by omega), if_pos (.inr hl2)]
        refine .inr (.inr ⟨h1, by show one < p; omega, .inl h3, .inr rfl, fun q hq => ?_⟩)
        rcases hq with hq | hq
        · rcases h5 q hq with e | e
          · left; exact e
          · right; show p ≤ q; omega
        · right; show p ≤ q; omega
      · rw [if_neg (by omega), if_neg (by omega)]
        refine .inr (.inr ⟨h1, h2, .inl h3, .inl h4, fun q hq => ?_⟩)
        rcases hq with hq | hq
        · exact h5 q hq
        · right; show two ≤ q; omega
theorem Two.congr {P Q : Int → Prop} {one two : Int} (h : Two P one two) (e : ∀ p, P p ↔ Q p) : Two Q one two := by
  have : P = Q := funext fun p => propext (e p)
  rw [← this]; exact h
theorem Two.sum {n : Nat} {l : List Int} {one two : Int} (hs : l.Pairwise (· < ·)) (hpos : ∀ p ∈ l, 0 < p) (h : Two (· ∈ l) one two) :
    (sumC n l).isSome = decide (one ≠ 0) ∧ (sumC n l).getD 0 = (if one ≠ 0 ∧ two = 0 then one + (n + 1) else one + two) := by
  cases l with
  | nil =>
    rcases h with ⟨h1, h2, _⟩ | ⟨h1, h2, h3⟩ | ⟨h1, h2, h3, _⟩
    · subst h1; subst h2; exact ⟨rfl, rfl⟩
    · exact absurd ((h3 one).2 rfl) (by simp)
    · exact absurd h3 (by simp)
  | cons a l =>
    cases l with
    | nil =>
      rcases h with ⟨h1, h2, h3⟩ | ⟨h1, h2, h3⟩ | ⟨h1, h2, h3, h4, _⟩
      · exact absurd (by simp) (h3 a)
      · have : a = one := (h3 a).1 (by simp)
        subst this
        have h0 : a ≠ 0 := by omega
        refine ⟨by rw [decide_eq_true h0]; rfl, ?_⟩
        rw [if_pos ⟨h0, h2⟩]
        show a + n + 1 = _
        omega
      · simp at h3 h4; omega
    | cons b r =>
      rw [List.pairwise_cons] at hs
      obtain ⟨hs1, hs2⟩ := hs
      rw [List.pairwise_cons] at hs2
      have hab := hs1 b (by simp)
      rcases h with ⟨h1, h2, h3⟩ | ⟨h1, h2, h3⟩ | ⟨h1, h2, h3, h4, h5⟩
      · exact absurd (by simp) (h3 a)
      · have e1 := (h3 a).1 (by simp)
        have e2 := (h3 b).1 (by simp)
        omega
      · have e1 : a = one := by
          rcases h5 a (by simp) with e | e
          · exact e
          · rcases List.mem_cons.1 h3 with e3 | e3
            · omega
            · have := hs1 one e3; omega
        have e2 : b = two := by
          have hb : two ≤ b := by
            rcases h5 b (by simp) with e | e
            · omega
            · exact e
          rcases List.mem_cons.1 h4 with e3 | e3
          · omega
          · rcases List.mem_cons.1 e3 with e4 | e4
            · exact e4.symm
            · have := hs2.1 two e4; omega
        subst e1; subst e2
        have h0 : a ≠ 0 := by omega
        have h0' : b ≠ 0 := by omega
        refine ⟨by rw [decide_eq_true h0]; rfl, ?_⟩
        rw [if_neg (fun hh => h0' hh.2)]
        rfl
theorem places_sorted {T : PT} (hv : VdP T) (c : Int) : (places T c).Pairwise (· < ·) := by
  unfold places ordF
  rw [List.pairwise_map]
  exact (ord_sorted hv).filter _
theorem places_iff {T : PT} (hv : VdP T) {c p : Int} : p ∈ places T c ↔ ∃ i, i < T.n ∧ (T.man i).club = c ∧ (T.man i).place = p := by
  unfold places ordF
  constructor
  · intro h
    obtain ⟨m, hm, e⟩ := List.mem_map.1 h
    obtain ⟨h1, h2⟩ := List.mem_filter.1 hm
    exact ⟨m, (ord_mem hv).1 h1, by simpa using h2, e⟩
  · rintro ⟨i, hi, h1, h2⟩
    exact List.mem_map.2 ⟨i, List.mem_filter.2 ⟨(ord_mem hv).2 hi, by simpa using h1⟩, h2⟩
/-- The places of a club's first so many. -/
def ClP (T : PT) (c : Int) (k : Nat) (p : Int) : Prop := ∃ i, i < k ∧ (T.man i).club = c ∧ (T.man i).place = p
theorem clubs_sorted (T : PT) : ∀ k, (clubsL T k).Pairwise fun a b => a.1 < b.1
  | 0 => List.Pairwise.nil
  | k + 1 => by
    rw [clubsL_succ]
    refine List.pairwise_append.2 ⟨clubs_sorted T k, ?_, fun a ha b hb => ?_⟩
    · split <;> simp
    · have h1 := (clubs_mem ha).1.2
      split at hb
      · have hb' : b = (((k + 1 : Nat) : Int), _) := List.mem_singleton.1 hb
        rw [hb']
        show a.1 < ((k + 1 : Nat) : Int)
        omega
      · cases hb
theorem firstL_min {l : List (Int × Int)} (hs : l.Pairwise fun a b => a.1 < b.1) {x : Int × Int} (hx : x ∈ l) : (firstL l).2 ≤ x.2 ∧ ((firstL l).2 = x.2 → (firstL l).1 ≤ x.1) := by
  have key : ∀ (r : List (Int × Int)) (b : Int × Int), (b :: r).Pairwise (fun a b => a.1 < b.1) → ∀ x ∈ b :: r, (r.foldl minC b).2 ≤ x.2 ∧ ((r.foldl minC b).2 = x.2 → (r.foldl minC b).1 ≤ x.1) := by
    intro r
    induction r with
    | nil => intro b _ x hx; rw [List.mem_singleton.1 hx]; exact ⟨Int.le_refl _, fun _ => Int.le_refl _⟩
    | cons y r ih =>
      intro b hp x hx
      rw [List.pairwise_cons] at hp
      obtain ⟨hp1, hp2⟩ := hp
      have hyp := hp1 y (by simp)
      rw [List.pairwise_cons] at hp2
      show ((r.foldl minC (minC b y))).2 ≤ _ ∧ _
      by_cases hlt : y.2 < b.2
      · have e : minC b y = y := by unfold minC; rw [if_pos hlt]
        rw [List.foldl_cons, e]
        have hy := ih y (List.pairwise_cons.2 hp2)
        rcases List.mem_cons.1 hx with rfl | hx
        · have := (hy y (by simp)).1
          exact ⟨by omega, fun hh => by omega⟩
        · exact hy x hx
      · have e : minC b y = b := by unfold minC; rw [if_neg hlt]
        rw [List.foldl_cons, e]
        have hb := ih b (List.pairwise_cons.2 ⟨fun z hz => hp1 z (by simp [hz]), hp2.2⟩)
        rcases List.mem_cons.1 hx with rfl | hx
        · exact hb x (by simp)
        · rcases List.mem_cons.1 hx with rfl | hx
          · have h1 := hb b (by simp)
            refine ⟨by omega, fun hh => ?_⟩
            have := h1.2 (by omega)
            omega
          · exact hb x (by simp [hx])
  cases l with
  | nil => cases hx
  | cons y r => exact key r y hs x hx
theorem clubs_in {T : PT} {c m : Int} (h1 : 1 ≤ c) (h5 : c ≤ 5) (h : sumC T.n (places T c) = some m) : (c, m) ∈ clubsL T 5 := by
  unfold clubsL
  refine List.mem_filterMap.2 ⟨(c - 1).toNat, List.mem_range.2 (by omega), ?_⟩
  have e : (((c - 1).toNat + 1 : Nat) : Int) = c := by omega
  rw [e, h]
  rfl
/-- What the best club is. -/
theorem best_one {T : PT} {c m : Int} (h1 : 1 ≤ c) (h5 : c ≤ 5) (h : sumC T.n (places T c) = some m) : bestP T ≠ (0, 0) ∧ (bestP T).2 ≤ m ∧ (m = (bestP T).2 → (bestP T).1 ≤ c) ∧ (c = (bestP T).1 → m = (bestP T).2) ∧ sumC T.n (places T (bestP T).1) = some (bestP T).2 := by
  have hin := clubs_in h1 h5 h
  have hne : clubsL T 5 ≠ [] := fun e => by rw [e] at hin; cases hin
  have hb := clubs_mem (firstL_mem _ hne)
  have hm := firstL_min (clubs_sorted T 5) hin
  refine ⟨fun e => ?_, hm.1, fun e => hm.2 e.symm, fun e => ?_, hb.2⟩
  · have h := hb.1.1
    have : (firstL (clubsL T 5)) = (0, 0) := e
    rw [this] at h
    have : (1 : Int) ≤ 0 := h
    omega
  · have h2 := hb.2
    have : (firstL (clubsL T 5)).1 = c := e.symm
    rw [this, h] at h2
    exact Option.some.inj h2
theorem best_none {T : PT} (h : ∀ c : Int, 1 ≤ c → c ≤ 5 → sumC T.n (places T c) = none) : bestP T = (0, 0) := by
  unfold bestP
  have : clubsL T 5 = [] := by
    refine List.eq_nil_iff_forall_not_mem.2 fun x hx => ?_
    obtain ⟨h1, h2⟩ := clubs_mem hx
    rw [h x.1 h1.1 h1.2] at h2
    cases h2
  rw [this]; rfl
end Go.Proofs.Ytfaeokcbfnlgbaa.G

/- More of the functions' shallow texts, by gen.py. -/
set_option linter.unusedVariables false
set_option maxRecDepth 100000
namespace Go.Proofs.Ytfaeokcbfnlgbaa.G
open Go.V
def an_33 : Nat → Ann := fun b => match b with
  | 0 => { ms := [6, 7, 13], ks := [.i .i64, .i .i64, .i .i64], us := [1, 2, 4, 5, 11, 12, 60], rt := false, ex := [] }
  | _ => {}
abbrev rv_33 : List ResultVar := [.tmp 4, .tmp 5]
abbrev rs_33 : List Nat := [60, 4, 5]
def L_law13_sum_0 (W : World) (R : Ending → Hp → Prop) (zn0 : Int) (za1 : Addr) (zp2 : Option Addr) (zl3 : Nat) (zl4 : Nat) (zn5 : Int) (n12 : Int) (n13 : Int) (n14 : Int) : Hp → Prop :=
  LOOPN [.i .i64, .i .i64, .i .i64] (fun ys next s => ∀ j : Tm, vc Pg W 60 rs_33 an_33 false (sub (bodyOf Try.f33) [1, 1, 0, 1, 0, 0]) 0 (KLoop [6, 7, 13] [1, 2, 4, 5, 11, 12, 60] [(.int .i64 zn0), (.pointer (some za1)), (.int .i64 0), (.bool false), (.slice zp2 zl3 zl4), (.int .i64 zn5), (.tuple #[])] next (KBlk 0 (KS Pg W 60 rs_33 an_33 false (sub (bodyOf Try.f33) [1, 1, 1]) 0 (fin Pg W 60 rv_33 R)))) (known [6, 7, 13] ys (known [1, 2, 4, 5, 11, 12, 60] [(.int .i64 zn0), (.pointer (some za1)), (.int .i64 0), (.bool false), (.slice zp2 zl3 zl4), (.int .i64 zn5), (.tuple #[])] j)) s) [(.int .i64 n12), (.int .i64 n13), (.int .i64 n14)]
def J_law13_sum_0 (W : World) (R : Ending → Hp → Prop) (zn0 : Int) (za1 : Addr) (zp2 : Option Addr) (zl3 : Nat) (zl4 : Nat) (zn5 : Int) (nx0 : List Value → Hp → Prop) (n22 : Int) (n23 : Int) (n14 : Int) : Hp → Prop :=
  NX [(.int .i64 zn0), (.pointer (some za1)), (.int .i64 0), (.bool false), (.slice zp2 zl3 zl4), (.int .i64 zn5), (.tuple #[])] [(.int .i64 zn0), (.pointer (some za1)), (.int .i64 0), (.bool false), (.slice zp2 zl3 zl4), (.int .i64 zn5), (.tuple #[])] (nx0 [(.int .i64 n22), (.int .i64 n23), (.int .i64 (IntKind.wrap .i64 (n14 + 1)))])
def J_law13_sum_1 (W : World) (R : Ending → Hp → Prop) (b26 : Bool) (B20 : Nat) (zn0 : Int) (za1 : Addr) (zp2 : Option Addr) (zl3 : Nat) (zl4 : Nat) (zn5 : Int) (nx0 : List Value → Hp → Prop) (n12 : Int) (n14 : Int) (n13 : Int) : Hp → Prop :=
  BR b26
    (RDI .i64 (Addr.add ⟨B20, 0, none⟩ 0) fun n27 =>
      J_law13_sum_0 W R zn0 za1 zp2 zl3 zl4 zn5 nx0 n12 n27 n14)
    (J_law13_sum_0 W R zn0 za1 zp2 zl3 zl4 zn5 nx0 n12 n13 n14)
def J_law13_sum_2 (W : World) (R : Ending → Hp → Prop) (b24 : Bool) (B20 : Nat) (zn0 : Int) (za1 : Addr) (zp2 : Option Addr) (zl3 : Nat) (zl4 : Nat) (zn5 : Int) (nx0 : List Value → Hp → Prop) (n12 : Int) (n14 : Int) (n13 : Int) : Hp → Prop :=
  BR b24
    (RDI .i64 (Addr.add ⟨B20, 0, none⟩ 0) fun n25 =>
      J_law13_sum_0 W R zn0 za1 zp2 zl3 zl4 zn5 nx0 n25 n12 n14)
    (BR (n13 == 0)
      (J_law13_sum_1 W R true B20 zn0 za1 zp2 zl3 zl4 zn5 nx0 n12 n14 n13)
      (RDI .i64 (Addr.add ⟨B20, 0, none⟩ 0) fun n28 =>
        J_law13_sum_1 W R (decide (n28 < n13)) B20 zn0 za1 zp2 zl3 zl4 zn5 nx0 n12 n14 n13))
def J_law13_sum_3 (W : World) (R : Ending → Hp → Prop) (b30 : Bool) (za1 : Addr) (n12 : Int) (n13 : Int) : Hp → Prop :=
  BR b30
    (RDL (Addr.add za1 0) fun x31 l32 c33 =>
      R (.returned (.tuple #[(.int .i64 (IntKind.wrap .i64 (n12 + (IntKind.wrap .i64 ((↑l32 : Int) + 1))))), (.bool (n12 != 0))])))
    (R (.returned (.tuple #[(.int .i64 (IntKind.wrap .i64 (n12 + n13))), (.bool (n12 != 0))])))
def B_law13_sum_0 (W : World) (R : Ending → Hp → Prop) (zn0 : Int) (za1 : Addr) (zp2 : Option Addr) (zl3 : Nat) (zl4 : Nat) (zn5 : Int) (n12 : Int) (n13 : Int) (n14 : Int) (nx0 : List Value → Hp → Prop) : Hp → Prop :=
  BR (decide (n14 < zn5))
    (IXS zp2 zl3 n14 4 fun a15 =>
      RDI .i64 (Addr.add a15 0) fun n16 =>
        RDI .i64 (Addr.add a15 1) fun n17 =>
          RDB (Addr.add a15 2) fun b18 =>
            RDB (Addr.add a15 3) fun b19 =>
              NEWZ Pg 48 fun B20 =>
                WR (Addr.add ⟨B20, 0, none⟩ 0) (.int .i64 n16) <|
                  WR (Addr.add ⟨B20, 0, none⟩ 1) (.int .i64 n17) <|
                    WR (Addr.add ⟨B20, 0, none⟩ 2) (.bool b18) <|
                      WR (Addr.add ⟨B20, 0, none⟩ 3) (.bool b19) <|
                        RDI .i64 (Addr.add ⟨B20, 0, none⟩ 1) fun n21 =>
                          BR (n21 != zn0)
                            (J_law13_sum_0 W R zn0 za1 zp2 zl3 zl4 zn5 nx0 n12 n13 n14)
                            (BR (n12 == 0)
                              (J_law13_sum_2 W R true B20 zn0 za1 zp2 zl3 zl4 zn5 nx0 n12 n14 n13)
                              (RDI .i64 (Addr.add ⟨B20, 0, none⟩ 0) fun n29 =>
                                J_law13_sum_2 W R (decide (n29 < n12)) B20 zn0 za1 zp2 zl3 zl4 zn5 nx0 n12 n14 n13)))
    (BR (n12 != 0)
      (J_law13_sum_3 W R (n13 == 0) za1 n12 n13)
      (J_law13_sum_3 W R false za1 n12 n13))
theorem B_law13_sum_0_eq (W : World) (R : Ending → Hp → Prop) (zn0 : Int) (za1 : Addr) (zp2 : Option Addr) (zl3 : Nat) (zl4 : Nat) (zn5 : Int) (n12 : Int) (n13 : Int) (n14 : Int) (nx0 : List Value → Hp → Prop) (j : Tm) : vc Pg W 60 rs_33 an_33 false (sub (bodyOf Try.f33) [1, 1, 0, 1, 0, 0]) 0 (KLoop [6, 7, 13] [1, 2, 4, 5, 11, 12, 60] [(.int .i64 zn0), (.pointer (some za1)), (.int .i64 0), (.bool false), (.slice zp2 zl3 zl4), (.int .i64 zn5), (.tuple #[])] nx0 (KBlk 0 (KS Pg W 60 rs_33 an_33 false (sub (bodyOf Try.f33) [1, 1, 1]) 0 (fin Pg W 60 rv_33 R)))) (known [6, 7, 13] [(.int .i64 n12), (.int .i64 n13), (.int .i64 n14)] (known [1, 2, 4, 5, 11, 12, 60] [(.int .i64 zn0), (.pointer (some za1)), (.int .i64 0), (.bool false), (.slice zp2 zl3 zl4), (.int .i64 zn5), (.tuple #[])] j)) = B_law13_sum_0 W R zn0 za1 zp2 zl3 zl4 zn5 n12 n13 n14 nx0 := by kernel_rfl
def N_law13_sum_0 (I : Int → Int → Int → Hp → Prop) (μ : Int → Int → Int → Hp → Nat) (n120 : Int) (n130 : Int) (n140 : Int) (s : Hp) (vs : List Value) : Hp → Prop := fun s' => ∃ n12 n13 n14, vs = [(.int .i64 n12), (.int .i64 n13), (.int .i64 n14)] ∧ I n12 n13 n14 s' ∧ μ n12 n13 n14 s' < μ n120 n130 n140 s
theorem L_law13_sum_0_rule (W : World) (R : Ending → Hp → Prop) (zn0 : Int) (za1 : Addr) (zp2 : Option Addr) (zl3 : Nat) (zl4 : Nat) (zn5 : Int) (I : Int → Int → Int → Hp → Prop) (μ : Int → Int → Int → Hp → Nat) (n120 : Int) (n130 : Int) (n140 : Int) (s : Hp) (h0 : I n120 n130 n140 s)
    (hr : ∀ (n12 : Int) (n13 : Int) (n14 : Int) (s : Hp), I n12 n13 n14 s → B_law13_sum_0 W R zn0 za1 zp2 zl3 zl4 zn5 n12 n13 n14 (fun vs => N_law13_sum_0 I μ n12 n13 n14 s vs) s) : L_law13_sum_0 W R zn0 za1 zp2 zl3 zl4 zn5 n120 n130 n140 s := by
  refine ⟨fun vs s => ∃ n12 n13 n14, vs = [(.int .i64 n12), (.int .i64 n13), (.int .i64 n14)] ∧ I n12 n13 n14 s, fun vs s => (match vs with | [.int _ n12, .int _ n13, .int _ n14] => μ n12 n13 n14 s | _ => 0), ⟨⟨⟨_, rfl⟩, ⟨⟨_, rfl⟩, ⟨⟨_, rfl⟩, trivial⟩⟩⟩, ⟨_, _, _, rfl, h0⟩⟩, ?_⟩
  intro n12 n13 n14 s hI j
  obtain ⟨n12', n13', n14', hy, hI⟩ := hI
  have hI' : I n12 n13 n14 s := by cases hy; exact hI
  have hh := hr n12 n13 n14 s hI'
  rw [← B_law13_sum_0_eq W R zn0 za1 zp2 zl3 zl4 zn5 n12 n13 n14 _ j] at hh
  refine vc_mono ?_ _ _ hh
  exact KLoop_mono (fun vs s' h => by obtain ⟨n121, n131, n141, rfl, h1, h2⟩ := h; exact ⟨⟨⟨_, rfl⟩, ⟨⟨_, rfl⟩, ⟨⟨_, rfl⟩, trivial⟩⟩⟩, ⟨_, _, _, rfl, h1⟩, h2⟩)
def T_law13_sum (W : World) (x1 : Option Addr) (l2 : Nat) (c3 : Nat) (x4 : Option Addr) (l5 : Nat) (c6 : Nat) (n7 : Int) (R : Ending → Hp → Prop) : Hp → Prop :=
  NEW 25 [(.slice x1 l2 c3), (.slice x4 l5 c6)] fun B8 =>
    RDL (Addr.add ⟨B8, 0, none⟩ 0) fun x9 l10 c11 =>
      L_law13_sum_0 W R n7 ⟨B8, 0, none⟩ x9 l10 c11 (↑l10 : Int) 0 0 0
theorem T_law13_sum_eq (W : World) (x1 : Option Addr) (l2 : Nat) (c3 : Nat) (x4 : Option Addr) (l5 : Nat) (c6 : Nat) (n7 : Int) (R : Ending → Hp → Prop) : vfun Pg W an_33 Try.f33 [(.agg #[(.slice x1 l2 c3), (.slice x4 l5 c6)]), (.int .i64 n7)] R = T_law13_sum W x1 l2 c3 x4 l5 c6 n7 R := by kernel_rfl
theorem does_law13_sum (W : World) (x1 : Option Addr) (l2 : Nat) (c3 : Nat) (x4 : Option Addr) (l5 : Nat) (c6 : Nat) (n7 : Int) (R : Ending → Hp → Prop) (s : Hp) (h : T_law13_sum W x1 l2 c3 x4 l5 c6 n7 R s) : Does Pg W F_law13_sum #[(.agg #[(.slice x1 l2 c3), (.slice x4 l5 c6)]), (.int .i64 n7)] s R :=
  does_of_vfun Pg W an_33 Try.func33 rfl (by kernel_rfl) (by rw [T_law13_sum_eq]; exact h)
def an_34 : Nat → Ann := fun b => match b with
  | 0 => { ms := [7, 8, 17], ks := [.l, .i .i64, .i .i64], us := [1, 2, 3, 6, 16, 73], rt := false, ex := [] }
  | _ => {}
abbrev rv_34 : List ResultVar := [.tmp 6]
abbrev rs_34 : List Nat := [73, 6]
def L_law13_made_0 (W : World) (R : Ending → Hp → Prop) (zp0 : Option Addr) (zl1 : Nat) (zl2 : Nat) (zb3 : Bool) (za4 : Addr) (zn5 : Int) (x16 : Option Addr) (l17 : Nat) (c18 : Nat) (n19 : Int) (n20 : Int) : Hp → Prop :=
  LOOPN [.l, .i .i64, .i .i64] (fun ys next s => ∀ j : Tm, vc Pg W 73 rs_34 an_34 false (sub (bodyOf Try.f34) [1, 1, 1, 0, 1, 0, 0]) 0 (KLoop [7, 8, 17] [1, 2, 3, 6, 16, 73] [(.slice zp0 zl1 zl2), (.bool zb3), (.pointer (some za4)), (.slice none 0 0), (.int .i64 zn5), (.tuple #[])] next (KBlk 0 (KS Pg W 73 rs_34 an_34 false (sub (bodyOf Try.f34) [1, 1, 1, 1]) 0 (fin Pg W 73 rv_34 R)))) (known [7, 8, 17] ys (known [1, 2, 3, 6, 16, 73] [(.slice zp0 zl1 zl2), (.bool zb3), (.pointer (some za4)), (.slice none 0 0), (.int .i64 zn5), (.tuple #[])] j)) s) [(.slice x16 l17 c18), (.int .i64 n19), (.int .i64 n20)]
def J_law13_made_0 (W : World) (R : Ending → Hp → Prop) (n43 : Int) (x16 : Option Addr) (l17 : Nat) (c18 : Nat) (zp0 : Option Addr) (zl1 : Nat) (zl2 : Nat) (zb3 : Bool) (za4 : Addr) (zn5 : Int) (nx0 : List Value → Hp → Prop) (n44 : Int) (n20 : Int) : Hp → Prop :=
  NEW 3 [(.int .i64 n43)] fun B45 =>
    APP Pg 3 1 x16 l17 c18 (some ⟨B45, 0, none⟩) 1 fun x46 l47 c48 =>
      NX [(.slice zp0 zl1 zl2), (.bool zb3), (.pointer (some za4)), (.slice none 0 0), (.int .i64 zn5), (.tuple #[])] [(.slice zp0 zl1 zl2), (.bool zb3), (.pointer (some za4)), (.slice none 0 0), (.int .i64 zn5), (.tuple #[])] (nx0 [(.slice x46 l47 c48), (.int .i64 n44), (.int .i64 (IntKind.wrap .i64 (n20 + 1)))])
def J_law13_made_1 (W : World) (R : Ending → Hp → Prop) (n43 : Int) (x16 : Option Addr) (l17 : Nat) (c18 : Nat) (zp0 : Option Addr) (zl1 : Nat) (zl2 : Nat) (zb3 : Bool) (za4 : Addr) (zn5 : Int) (nx0 : List Value → Hp → Prop) (n19 : Int) (n20 : Int) : Hp → Prop :=
  BR (decide (n43 ≥ 0))
    (NNI n43 <|
      J_law13_made_0 W R n43 x16 l17 c18 zp0 zl1 zl2 zb3 za4 zn5 nx0 (orv .i64 n19 (shlv .i64 1 n43)) n20)
    (J_law13_made_0 W R n43 x16 l17 c18 zp0 zl1 zl2 zb3 za4 zn5 nx0 n19 n20)
def J_law13_made_2 (W : World) (R : Ending → Hp → Prop) (b42 : Bool) (x16 : Option Addr) (l17 : Nat) (c18 : Nat) (zp0 : Option Addr) (zl1 : Nat) (zl2 : Nat) (zb3 : Bool) (za4 : Addr) (zn5 : Int) (nx0 : List Value → Hp → Prop) (n19 : Int) (n20 : Int) (n26 : Int) : Hp → Prop :=
  BR b42
    (J_law13_made_1 W R (-1) x16 l17 c18 zp0 zl1 zl2 zb3 za4 zn5 nx0 n19 n20)
    (J_law13_made_1 W R n26 x16 l17 c18 zp0 zl1 zl2 zb3 za4 zn5 nx0 n19 n20)
def J_law13_made_3 (W : World) (R : Ending → Hp → Prop) (n26 : Int) (za4 : Addr) (n20 : Int) (n19 : Int) (x16 : Option Addr) (l17 : Nat) (c18 : Nat) (zp0 : Option Addr) (zl1 : Nat) (zl2 : Nat) (zb3 : Bool) (zn5 : Int) (nx0 : List Value → Hp → Prop) : Hp → Prop :=
  BR (decide (n26 ≥ 0))
    (RDL (Addr.add za4 0) fun x27 l28 c29 =>
      RDL (Addr.add za4 1) fun x30 l31 c32 =>
        CALL Pg W F_prize_Can [(.agg #[(.slice x27 l28 c29), (.slice x30 l31 c32)]), (.int .i64 n26), (.int .i64 n20)]
          (fun v33 => TUP v33 fun q35 => HD q35 fun v36 r37 => TYB v36 fun b38 =>
            HD r37 fun v39 r40 => TYI .i64 v39 fun n41 =>
              NL r40 <|
                NNI n26 <|
                  BR ((andv .i64 (shrv .i64 n19 n26) 1) == 1)
                    (J_law13_made_2 W R true x16 l17 c18 zp0 zl1 zl2 zb3 za4 zn5 nx0 n19 n20 n26)
                    (BR zb3
                      (J_law13_made_2 W R (!b38) x16 l17 c18 zp0 zl1 zl2 zb3 za4 zn5 nx0 n19 n20 n26)
                      (J_law13_made_2 W R false x16 l17 c18 zp0 zl1 zl2 zb3 za4 zn5 nx0 n19 n20 n26)))
            (fun e34 => R (.panicked e34)))
    (J_law13_made_1 W R n26 x16 l17 c18 zp0 zl1 zl2 zb3 za4 zn5 nx0 n19 n20)
def B_law13_made_0 (W : World) (R : Ending → Hp → Prop) (zp0 : Option Addr) (zl1 : Nat) (zl2 : Nat) (zb3 : Bool) (za4 : Addr) (zn5 : Int) (x16 : Option Addr) (l17 : Nat) (c18 : Nat) (n19 : Int) (n20 : Int) (nx0 : List Value → Hp → Prop) : Hp → Prop :=
  BR (decide (n20 < zn5))
    (BR (decide ((↑zl1 : Int) > 0))
      (NZI (↑zl1 : Int) <|
        IXS zp0 zl1 (Int.tmod n20 (↑zl1 : Int)) 1 fun a21 =>
          RDI .u8 a21 fun n22 =>
            RDL (Addr.add za4 0) fun x23 l24 c25 =>
              NZI (IntKind.wrap .i64 ((↑l24 : Int) + 1)) <|
                J_law13_made_3 W R (IntKind.wrap .i64 ((Int.tmod (IntKind.wrap .i64 ((IntKind.wrap .i64 n22) + (IntKind.wrap .i64 (5 * n20)))) (IntKind.wrap .i64 ((↑l24 : Int) + 1))) - 1)) za4 n20 n19 x16 l17 c18 zp0 zl1 zl2 zb3 zn5 nx0)
      (J_law13_made_3 W R (-1) za4 n20 n19 x16 l17 c18 zp0 zl1 zl2 zb3 zn5 nx0))
    (R (.returned (.slice x16 l17 c18)))
theorem B_law13_made_0_eq (W : World) (R : Ending → Hp → Prop) (zp0 : Option Addr) (zl1 : Nat) (zl2 : Nat) (zb3 : Bool) (za4 : Addr) (zn5 : Int) (x16 : Option Addr) (l17 : Nat) (c18 : Nat) (n19 : Int) (n20 : Int) (nx0 : List Value → Hp → Prop) (j : Tm) : vc Pg W 73 rs_34 an_34 false (sub (bodyOf Try.f34) [1, 1, 1, 0, 1, 0, 0]) 0 (KLoop [7, 8, 17] [1, 2, 3, 6, 16, 73] [(.slice zp0 zl1 zl2), (.bool zb3), (.pointer (some za4)), (.slice none 0 0), (.int .i64 zn5), (.tuple #[])] nx0 (KBlk 0 (KS Pg W 73 rs_34 an_34 false (sub (bodyOf Try.f34) [1, 1, 1, 1]) 0 (fin Pg W 73 rv_34 R)))) (known [7, 8, 17] [(.slice x16 l17 c18), (.int .i64 n19), (.int .i64 n20)] (known [1, 2, 3, 6, 16, 73] [(.slice zp0 zl1 zl2), (.bool zb3), (.pointer (some za4)), (.slice none 0 0), (.int .i64 zn5), (.tuple #[])] j)) = B_law13_made_0 W R zp0 zl1 zl2 zb3 za4 zn5 x16 l17 c18 n19 n20 nx0 := by kernel_rfl
def N_law13_made_0 (I : Option Addr → Nat → Nat → Int → Int → Hp → Prop) (μ : Option Addr → Nat → Nat → Int → Int → Hp → Nat) (x160 : Option Addr) (l170 : Nat) (c180 : Nat) (n190 : Int) (n200 : Int) (s : Hp) (vs : List Value) : Hp → Prop := fun s' => ∃ x16 l17 c18 n19 n20, vs = [(.slice x16 l17 c18), (.int .i64 n19), (.int .i64 n20)] ∧ I x16 l17 c18 n19 n20 s' ∧ μ x16 l17 c18 n19 n20 s' < μ x160 l170 c180 n190 n200 s
theorem L_law13_made_0_rule (W : World) (R : Ending → Hp → Prop) (zp0 : Option Addr) (zl1 : Nat) (zl2 : Nat) (zb3 : Bool) (za4 : Addr) (zn5 : Int) (I : Option Addr → Nat → Nat → Int → Int → Hp → Prop) (μ : Option Addr → Nat → Nat → Int → Int → Hp → Nat) (x160 : Option Addr) (l170 : Nat) (c180 : Nat) (n190 : Int) (n200 : Int) (s : Hp) (h0 : I x160 l170 c180 n190 n200 s)
    (hr : ∀ (x16 : Option Addr) (l17 : Nat) (c18 : Nat) (n19 : Int) (n20 : Int) (s : Hp), I x16 l17 c18 n19 n20 s → B_law13_made_0 W R zp0 zl1 zl2 zb3 za4 zn5 x16 l17 c18 n19 n20 (fun vs => N_law13_made_0 I μ x16 l17 c18 n19 n20 s vs) s) : L_law13_made_0 W R zp0 zl1 zl2 zb3 za4 zn5 x160 l170 c180 n190 n200 s := by
  refine ⟨fun vs s => ∃ x16 l17 c18 n19 n20, vs = [(.slice x16 l17 c18), (.int .i64 n19), (.int .i64 n20)] ∧ I x16 l17 c18 n19 n20 s, fun vs s => (match vs with | [.slice x16 l17 c18, .int _ n19, .int _ n20] => μ x16 l17 c18 n19 n20 s | _ => 0), ⟨⟨⟨_, _, _, rfl⟩, ⟨⟨_, rfl⟩, ⟨⟨_, rfl⟩, trivial⟩⟩⟩, ⟨_, _, _, _, _, rfl, h0⟩⟩, ?_⟩
  intro x16 l17 c18 n19 n20 s hI j
  obtain ⟨x16', l17', c18', n19', n20', hy, hI⟩ := hI
  have hI' : I x16 l17 c18 n19 n20 s := by cases hy; exact hI
  have hh := hr x16 l17 c18 n19 n20 s hI'
  rw [← B_law13_made_0_eq W R zp0 zl1 zl2 zb3 za4 zn5 x16 l17 c18 n19 n20 _ j] at hh
  refine vc_mono ?_ _ _ hh
  exact KLoop_mono (fun vs s' h => by obtain ⟨x161, l171, c181, n191, n201, rfl, h1, h2⟩ := h; exact ⟨⟨⟨_, _, _, rfl⟩, ⟨⟨_, rfl⟩, ⟨⟨_, rfl⟩, trivial⟩⟩⟩, ⟨_, _, _, _, _, rfl, h1⟩, h2⟩)
def T_law13_made (W : World) (x1 : Option Addr) (l2 : Nat) (c3 : Nat) (x4 : Option Addr) (l5 : Nat) (c6 : Nat) (x7 : Option Addr) (l8 : Nat) (c9 : Nat) (b10 : Bool) (R : Ending → Hp → Prop) : Hp → Prop :=
  NEW 25 [(.slice x1 l2 c3), (.slice x4 l5 c6)] fun B11 =>
    NEW 3 [] fun B12 =>
      RDL (Addr.add ⟨B11, 0, none⟩ 1) fun x13 l14 c15 =>
        L_law13_made_0 W R x7 l8 c9 b10 ⟨B11, 0, none⟩ (↑l14 : Int) (some ⟨B12, 0, none⟩) 0 0 0 0
theorem T_law13_made_eq (W : World) (x1 : Option Addr) (l2 : Nat) (c3 : Nat) (x4 : Option Addr) (l5 : Nat) (c6 : Nat) (x7 : Option Addr) (l8 : Nat) (c9 : Nat) (b10 : Bool) (R : Ending → Hp → Prop) : vfun Pg W an_34 Try.f34 [(.agg #[(.slice x1 l2 c3), (.slice x4 l5 c6)]), (.slice x7 l8 c9), (.bool b10)] R = T_law13_made W x1 l2 c3 x4 l5 c6 x7 l8 c9 b10 R := by kernel_rfl
theorem does_law13_made (W : World) (x1 : Option Addr) (l2 : Nat) (c3 : Nat) (x4 : Option Addr) (l5 : Nat) (c6 : Nat) (x7 : Option Addr) (l8 : Nat) (c9 : Nat) (b10 : Bool) (R : Ending → Hp → Prop) (s : Hp) (h : T_law13_made W x1 l2 c3 x4 l5 c6 x7 l8 c9 b10 R s) : Does Pg W F_law13_made #[(.agg #[(.slice x1 l2 c3), (.slice x4 l5 c6)]), (.slice x7 l8 c9), (.bool b10)] s R :=
  does_of_vfun Pg W an_34 Try.func34 rfl (by kernel_rfl) (by rw [T_law13_made_eq]; exact h)
def an_39 : Nat → Ann := fun b => match b with
  | 0 => { ms := [8], ks := [.i .i64], us := [6, 7, 16], rt := false, ex := [] }
  | _ => {}
abbrev rv_39 : List ResultVar := [.tmp 2]
abbrev rs_39 : List Nat := [16, 2]
def L_law13_hasClub_0 (W : World) (R : Ending → Hp → Prop) (zp0 : Option Addr) (zl1 : Nat) (zl2 : Nat) (zn3 : Int) (n11 : Int) : Hp → Prop :=
  LOOPN [.i .i64] (fun ys next s => ∀ j : Tm, vc Pg W 16 rs_39 an_39 false (sub (bodyOf Try.f39) [1, 0, 1, 0, 0]) 0 (KLoop [8] [6, 7, 16] [(.slice zp0 zl1 zl2), (.int .i64 zn3), (.tuple #[])] next (KBlk 0 (KS Pg W 16 rs_39 an_39 false (sub (bodyOf Try.f39) [1, 1]) 0 (fin Pg W 16 rv_39 R)))) (known [8] ys (known [6, 7, 16] [(.slice zp0 zl1 zl2), (.int .i64 zn3), (.tuple #[])] j)) s) [(.int .i64 n11)]
def B_law13_hasClub_0 (W : World) (R : Ending → Hp → Prop) (zp0 : Option Addr) (zl1 : Nat) (zl2 : Nat) (zn3 : Int) (n11 : Int) (nx0 : List Value → Hp → Prop) : Hp → Prop :=
  BR (decide (n11 < zn3))
    (IXS zp0 zl1 n11 2 fun a12 =>
      RDI .i64 (Addr.add a12 0) fun n13 =>
        RDI .i64 (Addr.add a12 1) fun n14 =>
          NEWZ Pg 50 fun B15 =>
            WR (Addr.add ⟨B15, 0, none⟩ 0) (.int .i64 n13) <|
              WR (Addr.add ⟨B15, 0, none⟩ 1) (.int .i64 n14) <|
                RDI .i64 (Addr.add ⟨B15, 0, none⟩ 0) fun n16 =>
                  BR (n16 == 4)
                    (R (.returned (.bool true)))
                    (NX [(.slice zp0 zl1 zl2), (.int .i64 zn3), (.tuple #[])] [(.slice zp0 zl1 zl2), (.int .i64 zn3), (.tuple #[])] (nx0 [(.int .i64 (IntKind.wrap .i64 (n11 + 1)))])))
    (R (.returned (.bool false)))
theorem B_law13_hasClub_0_eq (W : World) (R : Ending → Hp → Prop) (zp0 : Option Addr) (zl1 : Nat) (zl2 : Nat) (zn3 : Int) (n11 : Int) (nx0 : List Value → Hp → Prop) (j : Tm) : vc Pg W 16 rs_39 an_39 false (sub (bodyOf Try.f39) [1, 0, 1, 0, 0]) 0 (KLoop [8] [6, 7, 16] [(.slice zp0 zl1 zl2), (.int .i64 zn3), (.tuple #[])] nx0 (KBlk 0 (KS Pg W 16 rs_39 an_39 false (sub (bodyOf Try.f39) [1, 1]) 0 (fin Pg W 16 rv_39 R)))) (known [8] [(.int .i64 n11)] (known [6, 7, 16] [(.slice zp0 zl1 zl2), (.int .i64 zn3), (.tuple #[])] j)) = B_law13_hasClub_0 W R zp0 zl1 zl2 zn3 n11 nx0 := by kernel_rfl
def N_law13_hasClub_0 (I : Int → Hp → Prop) (μ : Int → Hp → Nat) (n110 : Int) (s : Hp) (vs : List Value) : Hp → Prop := fun s' => ∃ n11, vs = [(.int .i64 n11)] ∧ I n11 s' ∧ μ n11 s' < μ n110 s
theorem L_law13_hasClub_0_rule (W : World) (R : Ending → Hp → Prop) (zp0 : Option Addr) (zl1 : Nat) (zl2 : Nat) (zn3 : Int) (I : Int → Hp → Prop) (μ : Int → Hp → Nat) (n110 : Int) (s : Hp) (h0 : I n110 s)
    (hr : ∀ (n11 : Int) (s : Hp), I n11 s → B_law13_hasClub_0 W R zp0 zl1 zl2 zn3 n11 (fun vs => N_law13_hasClub_0 I μ n11 s vs) s) : L_law13_hasClub_0 W R zp0 zl1 zl2 zn3 n110 s := by
  refine ⟨fun vs s => ∃ n11, vs = [(.int .i64 n11)] ∧ I n11 s, fun vs s => (match vs with | [.int _ n11] => μ n11 s | _ => 0), ⟨⟨⟨_, rfl⟩, trivial⟩, ⟨_, rfl, h0⟩⟩, ?_⟩
  intro n11 s hI j
  obtain ⟨n11', hy, hI⟩ := hI
  have hI' : I n11 s := by cases hy; exact hI
  have hh := hr n11 s hI'
  rw [← B_law13_hasClub_0_eq W R zp0 zl1 zl2 zn3 n11 _ j] at hh
  refine vc_mono ?_ _ _ hh
  exact KLoop_mono (fun vs s' h => by obtain ⟨n111, rfl, h1, h2⟩ := h; exact ⟨⟨⟨_, rfl⟩, trivial⟩, ⟨_, rfl, h1⟩, h2⟩)
def T_law13_hasClub (W : World) (x1 : Option Addr) (l2 : Nat) (c3 : Nat) (x4 : Option Addr) (l5 : Nat) (c6 : Nat) (R : Ending → Hp → Prop) : Hp → Prop :=
  NEW 25 [(.slice x1 l2 c3), (.slice x4 l5 c6)] fun B7 =>
    RDL (Addr.add ⟨B7, 0, none⟩ 1) fun x8 l9 c10 =>
      L_law13_hasClub_0 W R x8 l9 c10 (↑l9 : Int) 0
theorem T_law13_hasClub_eq (W : World) (x1 : Option Addr) (l2 : Nat) (c3 : Nat) (x4 : Option Addr) (l5 : Nat) (c6 : Nat) (R : Ending → Hp → Prop) : vfun Pg W an_39 Try.f39 [(.agg #[(.slice x1 l2 c3), (.slice x4 l5 c6)])] R = T_law13_hasClub W x1 l2 c3 x4 l5 c6 R := by kernel_rfl
theorem does_law13_hasClub (W : World) (x1 : Option Addr) (l2 : Nat) (c3 : Nat) (x4 : Option Addr) (l5 : Nat) (c6 : Nat) (R : Ending → Hp → Prop) (s : Hp) (h : T_law13_hasClub W x1 l2 c3 x4 l5 c6 R s) : Does Pg W F_law13_hasClub #[(.agg #[(.slice x1 l2 c3), (.slice x4 l5 c6)])] s R :=
  does_of_vfun Pg W an_39 Try.func39 rfl (by kernel_rfl) (by rw [T_law13_hasClub_eq]; exact h)
end Go.Proofs.Ytfaeokcbfnlgbaa.G

/- More of the functions' shallow texts, by gen.py. -/
set_option linter.unusedVariables false
set_option maxRecDepth 100000
namespace Go.Proofs.Ytfaeokcbfnlgbaa.G
open Go.V
def an_6 : Nat → Ann := fun b => match b with
  | 0 => { ms := [2, 6, 7], ks := [.b, .b, .i .i64], us := [1, 3, 4, 5, 89], rt := false, ex := [] }
  | _ => {}
abbrev rv_6 : List ResultVar := [.tmp 2]
abbrev rs_6 : List Nat := [89, 2]
def L_law13_PrizeClub_0 (W : World) (R : Ending → Hp → Prop) (za0 : Addr) (zn1 : Int) (zn2 : Int) (zn3 : Int) (b48 : Bool) (b49 : Bool) (n50 : Int) : Hp → Prop :=
  LOOPN [.b, .b, .i .i64] (fun ys next s => ∀ j : Tm, vc Pg W 89 rs_6 an_6 false (sub (bodyOf Try.f6) [1, 1, 1, 1, 0, 1, 0, 0]) 0 (KLoop [2, 6, 7] [1, 3, 4, 5, 89] [(.pointer (some za0)), (.int .i64 zn1), (.int .i64 zn2), (.int .i64 zn3), (.tuple #[])] next (KBlk 0 (KS Pg W 89 rs_6 an_6 false (sub (bodyOf Try.f6) [1, 1, 1, 1, 1]) 0 (fin Pg W 89 rv_6 R)))) (known [2, 6, 7] ys (known [1, 3, 4, 5, 89] [(.pointer (some za0)), (.int .i64 zn1), (.int .i64 zn2), (.int .i64 zn3), (.tuple #[])] j)) s) [(.bool b48), (.bool b49), (.int .i64 n50)]
def J_law13_PrizeClub_0 (W : World) (R : Ending → Hp → Prop) (b17 : Bool) (B7 : Nat) : Hp → Prop :=
  BR b17
    (CALL Pg W F_law13_awake []
      (fun v18 => TYB v18 fun b20 =>
        R (.returned (.bool b20)))
        (fun e19 => R (.panicked e19)))
    (RDL (Addr.add ⟨B7, 0, none⟩ 0) fun x21 l22 c23 =>
      RDL (Addr.add ⟨B7, 0, none⟩ 1) fun x24 l25 c26 =>
        CALL Pg W F_prize_Club [(.agg #[(.slice x21 l22 c23), (.slice x24 l25 c26)])]
          (fun v27 => TUP v27 fun q29 => HD q29 fun v30 r31 => TYI .i64 v30 fun n32 =>
            HD r31 fun v33 r34 => TYI .i64 v33 fun n35 =>
              HD r34 fun v36 r37 => TYI .i64 v36 fun n38 =>
                NL r37 <|
                  L_law13_PrizeClub_0 W R ⟨B7, 0, none⟩ n32 n35 n38 false false 1)
            (fun e28 => R (.panicked e28)))
def J_law13_PrizeClub_1 (W : World) (R : Ending → Hp → Prop) (za0 : Addr) (zn1 : Int) (zn2 : Int) (zn3 : Int) (nx0 : List Value → Hp → Prop) (b66 : Bool) (b67 : Bool) (n50 : Int) : Hp → Prop :=
  NX [(.pointer (some za0)), (.int .i64 zn1), (.int .i64 zn2), (.int .i64 zn3), (.tuple #[])] [(.pointer (some za0)), (.int .i64 zn1), (.int .i64 zn2), (.int .i64 zn3), (.tuple #[])] (nx0 [(.bool b66), (.bool b67), (.int .i64 (IntKind.wrap .i64 (n50 + 1)))])
def J_law13_PrizeClub_2 (W : World) (R : Ending → Hp → Prop) (b70 : Bool) (za0 : Addr) (zn1 : Int) (zn2 : Int) (zn3 : Int) (nx0 : List Value → Hp → Prop) (b48 : Bool) (n50 : Int) : Hp → Prop :=
  BR b70
    (R (.returned (.bool false)))
    (J_law13_PrizeClub_1 W R za0 zn1 zn2 zn3 nx0 b48 true n50)
def J_law13_PrizeClub_3 (W : World) (R : Ending → Hp → Prop) (b69 : Bool) (za0 : Addr) (zn1 : Int) (zn2 : Int) (zn3 : Int) (nx0 : List Value → Hp → Prop) (b48 : Bool) (n50 : Int) (n62 : Int) : Hp → Prop :=
  BR b69
    (J_law13_PrizeClub_2 W R true za0 zn1 zn2 zn3 nx0 b48 n50)
    (BR (n50 == zn1)
      (J_law13_PrizeClub_2 W R (n62 != zn2) za0 zn1 zn2 zn3 nx0 b48 n50)
      (J_law13_PrizeClub_2 W R false za0 zn1 zn2 zn3 nx0 b48 n50))
def J_law13_PrizeClub_4 (W : World) (R : Ending → Hp → Prop) (b68 : Bool) (za0 : Addr) (zn1 : Int) (zn2 : Int) (zn3 : Int) (nx0 : List Value → Hp → Prop) (b48 : Bool) (n50 : Int) (n62 : Int) : Hp → Prop :=
  BR b68
    (J_law13_PrizeClub_3 W R true za0 zn1 zn2 zn3 nx0 b48 n50 n62)
    (BR (n62 == zn2)
      (J_law13_PrizeClub_3 W R (decide (n50 < zn1)) za0 zn1 zn2 zn3 nx0 b48 n50 n62)
      (J_law13_PrizeClub_3 W R false za0 zn1 zn2 zn3 nx0 b48 n50 n62))
def B_law13_PrizeClub_0 (W : World) (R : Ending → Hp → Prop) (za0 : Addr) (zn1 : Int) (zn2 : Int) (zn3 : Int) (b48 : Bool) (b49 : Bool) (n50 : Int) (nx0 : List Value → Hp → Prop) : Hp → Prop :=
  BR (decide (n50 ≤ 5))
    (RDL (Addr.add za0 0) fun x51 l52 c53 =>
      RDL (Addr.add za0 1) fun x54 l55 c56 =>
        CALL Pg W F_law13_sum [(.agg #[(.slice x51 l52 c53), (.slice x54 l55 c56)]), (.int .i64 n50)]
          (fun v57 => TUP v57 fun q59 => HD q59 fun v60 r61 => TYI .i64 v60 fun n62 =>
            HD r61 fun v63 r64 => TYB v63 fun b65 =>
              NL r64 <|
                BR (!b65)
                  (J_law13_PrizeClub_1 W R za0 zn1 zn2 zn3 nx0 b48 b49 n50)
                  (BR (zn3 != 0)
                    (J_law13_PrizeClub_4 W R true za0 zn1 zn2 zn3 nx0 b48 n50 n62)
                    (J_law13_PrizeClub_4 W R (decide (n62 < zn2)) za0 zn1 zn2 zn3 nx0 b48 n50 n62)))
            (fun e58 => R (.panicked e58)))
    (BR b49
      (RDL (Addr.add za0 0) fun x71 l72 c73 =>
        RDL (Addr.add za0 1) fun x74 l75 c76 =>
          CALL Pg W F_law13_sum [(.agg #[(.slice x71 l72 c73), (.slice x74 l75 c76)]), (.int .i64 zn1)]
            (fun v77 => TUP v77 fun q79 => HD q79 fun v80 r81 => TYI .i64 v80 fun n82 =>
              HD r81 fun v83 r84 => TYB v83 fun b85 =>
                NL r84 <|
                  BR b85
                    (CALL Pg W F_law13_awake []
                      (fun v86 => TYB v86 fun b88 =>
                        R (.returned (.bool b88)))
                        (fun e87 => R (.panicked e87)))
                    (R (.returned (.bool false))))
              (fun e78 => R (.panicked e78)))
      (BR (zn3 == 4)
        (BR (zn1 == 0)
          (BR (zn2 == 0)
            (CALL Pg W F_law13_awake []
              (fun v89 => TYB v89 fun b91 =>
                R (.returned (.bool b91)))
                (fun e90 => R (.panicked e90)))
            (R (.returned (.bool false))))
          (R (.returned (.bool false))))
        (R (.returned (.bool false)))))
theorem B_law13_PrizeClub_0_eq (W : World) (R : Ending → Hp → Prop) (za0 : Addr) (zn1 : Int) (zn2 : Int) (zn3 : Int) (b48 : Bool) (b49 : Bool) (n50 : Int) (nx0 : List Value → Hp → Prop) (j : Tm) : vc Pg W 89 rs_6 an_6 false (sub (bodyOf Try.f6) [1, 1, 1, 1, 0, 1, 0, 0]) 0 (KLoop [2, 6, 7] [1, 3, 4, 5, 89] [(.pointer (some za0)), (.int .i64 zn1), (.int .i64 zn2), (.int .i64 zn3), (.tuple #[])] nx0 (KBlk 0 (KS Pg W 89 rs_6 an_6 false (sub (bodyOf Try.f6) [1, 1, 1, 1, 1]) 0 (fin Pg W 89 rv_6 R)))) (known [2, 6, 7] [(.bool b48), (.bool b49), (.int .i64 n50)] (known [1, 3, 4, 5, 89] [(.pointer (some za0)), (.int .i64 zn1), (.int .i64 zn2), (.int .i64 zn3), (.tuple #[])] j)) = B_law13_PrizeClub_0 W R za0 zn1 zn2 zn3 b48 b49 n50 nx0 := by kernel_rfl
def N_law13_PrizeClub_0 (I : Bool → Bool → Int → Hp → Prop) (μ : Bool → Bool → Int → Hp → Nat) (b480 : Bool) (b490 : Bool) (n500 : Int) (s : Hp) (vs : List Value) : Hp → Prop := fun s' => ∃ b48 b49 n50, vs = [(.bool b48), (.bool b49), (.int .i64 n50)] ∧ I b48 b49 n50 s' ∧ μ b48 b49 n50 s' < μ b480 b490 n500 s
theorem L_law13_PrizeClub_0_rule (W : World) (R : Ending → Hp → Prop) (za0 : Addr) (zn1 : Int) (zn2 : Int) (zn3 : Int) (I : Bool → Bool → Int → Hp → Prop) (μ : Bool → Bool → Int → Hp → Nat) (b480 : Bool) (b490 : Bool) (n500 : Int) (s : Hp) (h0 : I b480 b490 n500 s)
    (hr : ∀ (b48 : Bool) (b49 : Bool) (n50 : Int) (s : Hp), I b48 b49 n50 s → B_law13_PrizeClub_0 W R za0 zn1 zn2 zn3 b48 b49 n50 (fun vs => N_law13_PrizeClub_0 I μ b48 b49 n50 s vs) s) : L_law13_PrizeClub_0 W R za0 zn1 zn2 zn3 b480 b490 n500 s := by
  refine ⟨fun vs s => ∃ b48 b49 n50, vs = [(.bool b48), (.bool b49), (.int .i64 n50)] ∧ I b48 b49 n50 s, fun vs s => (match vs with | [.bool b48, .bool b49, .int _ n50] => μ b48 b49 n50 s | _ => 0), ⟨⟨⟨_, rfl⟩, ⟨⟨_, rfl⟩, ⟨⟨_, rfl⟩, trivial⟩⟩⟩, ⟨_, _, _, rfl, h0⟩⟩, ?_⟩
  intro b48 b49 n50 s hI j
  obtain ⟨b48', b49', n50', hy, hI⟩ := hI
  have hI' : I b48 b49 n50 s := by cases hy; exact hI
  have hh := hr b48 b49 n50 s hI'
  rw [← B_law13_PrizeClub_0_eq W R za0 zn1 zn2 zn3 b48 b49 n50 _ j] at hh
  refine vc_mono ?_ _ _ hh
  exact KLoop_mono (fun vs s' h => by obtain ⟨b481, b491, n501, rfl, h1, h2⟩ := h; exact ⟨⟨⟨_, rfl⟩, ⟨⟨_, rfl⟩, ⟨⟨_, rfl⟩, trivial⟩⟩⟩, ⟨_, _, _, rfl, h1⟩, h2⟩)
def T_law13_PrizeClub (W : World) (x1 : Option Addr) (l2 : Nat) (c3 : Nat) (x4 : Option Addr) (l5 : Nat) (c6 : Nat) (R : Ending → Hp → Prop) : Hp → Prop :=
  NEW 25 [(.slice x1 l2 c3), (.slice x4 l5 c6)] fun B7 =>
    RDL (Addr.add ⟨B7, 0, none⟩ 0) fun x8 l9 c10 =>
      RDL (Addr.add ⟨B7, 0, none⟩ 1) fun x11 l12 c13 =>
        CALL Pg W F_law13_far [(.agg #[(.slice x8 l9 c10), (.slice x11 l12 c13)]), (.slice none 0 0)]
          (fun v14 => TYB v14 fun b16 =>
            BR b16
              (J_law13_PrizeClub_0 W R true B7)
              (RDL (Addr.add ⟨B7, 0, none⟩ 0) fun x39 l40 c41 =>
                RDL (Addr.add ⟨B7, 0, none⟩ 1) fun x42 l43 c44 =>
                  CALL Pg W F_ref13_Prizes [(.agg #[(.slice x39 l40 c41), (.slice x42 l43 c44)])]
                    (fun v45 => TYB v45 fun b47 =>
                      J_law13_PrizeClub_0 W R (!b47) B7)
                      (fun e46 => R (.panicked e46))))
            (fun e15 => R (.panicked e15))
theorem T_law13_PrizeClub_eq (W : World) (x1 : Option Addr) (l2 : Nat) (c3 : Nat) (x4 : Option Addr) (l5 : Nat) (c6 : Nat) (R : Ending → Hp → Prop) : vfun Pg W an_6 Try.f6 [(.agg #[(.slice x1 l2 c3), (.slice x4 l5 c6)])] R = T_law13_PrizeClub W x1 l2 c3 x4 l5 c6 R := by kernel_rfl
theorem does_law13_PrizeClub (W : World) (x1 : Option Addr) (l2 : Nat) (c3 : Nat) (x4 : Option Addr) (l5 : Nat) (c6 : Nat) (R : Ending → Hp → Prop) (s : Hp) (h : T_law13_PrizeClub W x1 l2 c3 x4 l5 c6 R s) : Does Pg W F_law13_PrizeClub #[(.agg #[(.slice x1 l2 c3), (.slice x4 l5 c6)])] s R :=
  does_of_vfun Pg W an_6 Try.func6 rfl (by kernel_rfl) (by rw [T_law13_PrizeClub_eq]; exact h)
end Go.Proofs.Ytfaeokcbfnlgbaa.G

/- The statement PrizeClub. -/
set_option linter.unusedSimpArgs false
set_option linter.unusedVariables false
set_option maxRecDepth 20000
namespace Go.Proofs.Ytfaeokcbfnlgbaa.G
open Go.V
section
variable {W : World} {K : VK} {E : List PanicEntry → Hp → Prop} {s : Hp} {T : PT}
theorem w_sum {x y : Option Addr} {c c' : Nat} {n : Int} (hok : okP T = true) (hx : MnAt s x T.men) (h : ∀ s', Ext s s' → K (.tuple #[.int .i64 ((sumC T.n (places T n)).getD 0), .bool (sumC T.n (places T n)).isSome]) s') :
    CALL Pg W F_law13_sum [.agg #[.slice x T.n c, .slice y T.z c'], .int .i64 n] K E s := by
  have hv := okP_vd hok
  have h8 := hv.n8
  refine does_law13_sum W x T.n c y T.z c' n _ s ?_
  unfold T_law13_sum
  refine ne2 fun s1 e1 z1 o1 o2 => ?_
  refine ⟨_, _, _, o1.cell, ?_⟩
  refine L_law13_sum_0_rule W _ n ⟨s.size, 0, none⟩ x T.n c T.n (fun n12 n13 n14 t => Ext s1 t ∧ (0 ≤ n12 ∧ n12 ≤ 8) ∧ (0 ≤ n13 ∧ n13 ≤ 8) ∧ ∃ k : Nat, k ≤ T.n ∧ n14 = k ∧ Two (ClP T n k) n12 n13) (fun _ _ n14 _ => ((T.n : Int) - n14).toNat) 0 0 0 s1 ⟨Ext.refl _, ⟨by omega, by omega⟩, ⟨by omega, by omega⟩, 0, by omega, rfl, .inl ⟨rfl, rfl, fun p ⟨i, hi, _⟩ => by omega⟩⟩ ?_
  rintro one two n14 t ⟨et, r1, r2, k, hk, rfl, hT⟩
  unfold B_law13_sum_0
  have e0t := e1.trans et
  refine BR_dec (fun h1 => ?_) (fun h1 => ?_)
  · have hkn : k < T.n := by omega
    obtain ⟨ax, w0, w1, w2, w3, w4⟩ := man_row (hx.ext e0t) hkn
    refine IXS_at w0 hkn ?_
    refine ⟨_, w1, _, w2, _, w3, _, w4, ?_⟩
    refine nw4 zc_48 rfl rfl rfl rfl fun u j1 y1 p1 p2 p3 p4 => ?_
    have hp := hv.pl k hkn
    refine ⟨_, p2.cell, ?_⟩
    generalize hnx : (fun vs => N_law13_sum_0 _ _ _ _ _ t vs) = nx
    have etu := et.trans j1
    have J0 : ∀ a b : Int, (0 ≤ a ∧ a ≤ 8) → (0 ≤ b ∧ b ≤ 8) → Two (ClP T n (k + 1)) a b → J_law13_sum_0 W (endK K E) n ⟨s.size, 0, none⟩ x T.n c T.n nx a b k u := by
      intro a b ha hb hT'
      unfold J_law13_sum_0
      rw [← hnx]
      exact ⟨rfl, _, _, _, rfl, ⟨etu, ha, hb, k + 1, hkn, wrap_succ (by omega), hT'⟩, ms_succ hkn (by omega)⟩
    refine BR_ne (fun h2 => ?_) (fun h2 => ?_)
    · refine J0 one two r1 r2 (hT.congr fun p => ⟨fun ⟨i, hi, g1, g2⟩ => ⟨i, by omega, g1, g2⟩, fun ⟨i, hi, g1, g2⟩ => ⟨i, ?_, g1, g2⟩⟩)
      by_cases e : i = k
      · subst e; exact absurd g1 h2
      · omega
    · have hstep := (hT.step (p := (T.man k).place) (by omega) (fun ⟨i, hi, g1, g2⟩ => by have := hv.inj i k (by omega) hkn g2; omega)).congr (Q := ClP T n (k + 1)) fun p => ⟨fun hq => by
          rcases hq with ⟨i, hi, g1, g2⟩ | hq
          · exact ⟨i, by omega, g1, g2⟩
          · exact ⟨k, by omega, h2, hq.symm⟩, fun ⟨i, hi, g1, g2⟩ => by
          by_cases e : i = k
          · subst e; exact .inr g2.symm
          · exact .inl ⟨i, by omega, g1, g2⟩⟩
      have A : (one = 0 ∨ (T.man k).place < one) → J_law13_sum_2 W (endK K E) true t.size n ⟨s.size, 0, none⟩ x T.n c T.n nx one k two u := by
        intro hc
        unfold J_law13_sum_2
        refine BR_tt rfl ?_
        refine ⟨_, p1.cell, ?_⟩
        unfold stepT at hstep
        rw [if_pos hc] at hstep
        exact J0 _ _ ⟨by omega, by omega⟩ r1 hstep
      have B : ¬ (one = 0 ∨ (T.man k).place < one) → J_law13_sum_2 W (endK K E) false t.size n ⟨s.size, 0, none⟩ x T.n c T.n nx one k two u := by
        intro hc
        unfold J_law13_sum_2
        refine BR_ff rfl ?_
        unfold stepT at hstep
        rw [if_neg hc] at hstep
        refine BR_eq (fun h3 => ?_) (fun h3 => ?_)
        · rw [if_pos (.inl h3)] at hstep
          unfold J_law13_sum_1
          refine BR_tt rfl ?_
          exact ⟨_, p1.cell, J0 _ _ r1 ⟨by omega, by omega⟩ hstep⟩
        · refine ⟨_, p1.cell, ?_⟩
          unfold J_law13_sum_1
          refine BR_dec (fun h4 => ?_) (fun h4 => ?_)
          · rw [if_pos (.inr h4)] at hstep
            exact ⟨_, p1.cell, J0 _ _ r1 ⟨by omega, by omega⟩ hstep⟩
          · rw [if_neg (fun hh => hh.elim h3 h4)] at hstep
            exact J0 _ _ r1 r2 hstep
      refine BR_eq (fun h3 => A (.inl h3)) (fun h3 => ?_)
      refine ⟨_, p1.cell, ?_⟩
      by_cases h4 : (T.man k).place < one
      · have e := decide_eq_true h4
        dsimp only
        rw [e]; exact A (.inr h4)
      · have e := decide_eq_false h4
        dsimp only
        rw [e]; exact B (fun hh => hh.elim h3 h4)
  · have hkn : k = T.n := by omega
    subst hkn
    have hpl : ∀ p, ClP T n T.n p ↔ p ∈ places T n := fun p => (places_iff hv).symm
    obtain ⟨g1, g2⟩ := (hT.congr hpl).sum (n := T.n) (places_sorted hv n) fun p hp => by have := places_mem hv hp; omega
    have := h t e0t
    rw [g1, g2] at this
    refine BR_ne (fun h2 => ?_) (fun h2 => ?_)
    · unfold J_law13_sum_3
      rw [decide_eq_true h2] at this
      refine BR_eq (fun h3 => ?_) (fun h3 => ?_)
      · refine ⟨_, _, _, et.cell o1.cell, ?_⟩
        rw [if_pos ⟨h2, h3⟩] at this
        have ew : IntKind.i64.wrap (one + IntKind.i64.wrap ((T.n : Int) + 1)) = one + (T.n + 1) := by rw [wrap_i64 (n := (T.n : Int) + 1) (by omega) (by omega), wrap_i64 (by omega) (by omega)]
        have eb : (one != 0) = true := by simpa using h2
        show endK K E (.returned (.tuple #[.int .i64 (IntKind.i64.wrap (one + IntKind.i64.wrap ((T.n : Int) + 1))), .bool (one != 0)])) t
        rw [ew, eb]; exact this
      · rw [if_neg (fun hh => h3 hh.2)] at this
        have eb : (one != 0) = true := by simpa using h2
        show endK K E (.returned (.tuple #[.int .i64 (IntKind.i64.wrap (one + two)), .bool (one != 0)])) t
        rw [wrap_i64 (by omega) (by omega), eb]; exact this
    · unfold J_law13_sum_3
      refine BR_ff rfl ?_
      rw [if_neg (fun hh => hh.1 h2), decide_eq_false (by simpa using h2)] at this
      have eb : (one != 0) = false := by simpa using h2
      show endK K E (.returned (.tuple #[.int .i64 (IntKind.i64.wrap (one + two)), .bool (one != 0)])) t
      rw [wrap_i64 (by omega) (by omega), eb]; exact this
theorem w_PrizeClub {x y : Option Addr} {c c' : Nat} (hx : MnAt s x T.men) (hy : PzAt s y T.list) (h : ∀ s', Ext s s' → K (.bool true) s') :
    CALL Pg W F_law13_PrizeClub [.agg #[.slice x T.n c, .slice y T.z c']] K E s := by
  refine does_law13_PrizeClub W x T.n c y T.z c' _ s ?_
  unfold T_law13_PrizeClub
  refine ne2 fun s1 e1 z1 o1 o2 => ?_
  have c0 := o1.cell
  have c1 := o2.cell
  refine ⟨_, _, _, c0, _, _, _, c1, ?_⟩
  refine c_far fun s2 b e2 hb => ?_
  try simp only [TUP_mk, AGG_mk, HD_mk, NL_mk, TYI_mk, TYB_mk, TYP_mk, TYL_mk, TYS_mk, TYM_mk, SO_mk, NX_mk, endK_mk, endK_mk', add_0]
  have rx : ∀ {t : Hp}, Ext s1 t → MnAt t x T.men := fun e => hx.ext (e1.trans e)
  have ry : ∀ {t : Hp}, Ext s1 t → PzAt t y T.list := fun e => hy.ext (e1.trans e)
  have J0 : ∀ (b : Bool) (t : Hp), Ext s1 t → (b = false → okP T = true) → J_law13_PrizeClub_0 W (endK K E) b s.size t := by
    intro b t et hb
    unfold J_law13_PrizeClub_0
    refine BR_bool (fun _ => c_awake' et fun u eu => h u (e1.trans eu)) (fun hf => ?_)
    have hok := hb hf
    have hv := okP_vd hok
    refine ⟨_, _, _, et.cell c0, _, _, _, et.cell c1, ?_⟩
    refine c_ClubV hok (rx et) (ry et) fun t1 f1 => ?_
    try simp only [TUP_mk, AGG_mk, HD_mk, NL_mk, TYI_mk, TYB_mk, TYP_mk, TYL_mk, TYS_mk, TYM_mk, SO_mk, NX_mk, endK_mk, endK_mk', add_0]
    have g1 := et.trans f1
    generalize hfe : (if bestP T = (0, 0) then (4 : Int) else 0) = fe
    refine L_law13_PrizeClub_0_rule W _ ⟨s.size, 0, none⟩ (bestP T).1 (bestP T).2 fe (fun b48 b49 n50 u => b48 = false ∧ Ext t1 u ∧ ∃ k : Nat, k ≤ 5 ∧ n50 = ((k + 1 : Nat) : Int) ∧ (b49 = true → ∃ (c : Int) (m : Int), 1 ≤ c ∧ c ≤ 5 ∧ sumC T.n (places T c) = some m) ∧ (b49 = false → ∀ c : Int, 1 ≤ c → c ≤ k → sumC T.n (places T c) = none)) (fun _ _ n50 _ => ((6 : Int) - n50).toNat) false false 1 t1
      ⟨rfl, Ext.refl _, 0, by omega, rfl, fun hh => (by cases hh), fun _ c h1 h2 => (by omega)⟩ ?_
    rintro b48 b49 n50 u ⟨rfl, eu, k, hk, rfl, hy1, hn1⟩
    unfold B_law13_PrizeClub_0
    have gu := g1.trans eu
    refine BR_dec (fun hlt => ?_) (fun hlt => ?_)
    · have hk5 : k < 5 := by omega
      have hw : IntKind.i64.wrap (((k + 1 : Nat) : Int) + 1) = ((k + 1 + 1 : Nat) : Int) := wrap_succ (by omega)
      refine ⟨_, _, _, gu.cell c0, _, _, _, gu.cell c1, ?_⟩
      refine w_sum hok (rx gu) fun u1 f2 => ?_
      try simp only [TUP_mk, AGG_mk, HD_mk, NL_mk, TYI_mk, TYB_mk, TYP_mk, TYL_mk, TYS_mk, TYM_mk, SO_mk, NX_mk, endK_mk, endK_mk', add_0]
      generalize hnx : (fun vs => N_law13_PrizeClub_0 _ _ _ _ _ u vs) = nx
      have eu1 := eu.trans f2
      have hms : ((6 : Int) - ((k + 1 + 1 : Nat) : Int)).toNat < ((6 : Int) - ((k + 1 : Nat) : Int)).toNat := by omega
      cases hs : sumC T.n (places T ((k + 1 : Nat) : Int)) with
      | none =>
        refine BR_tt rfl ?_
        unfold J_law13_PrizeClub_1
        rw [← hnx]
        refine ⟨rfl, _, _, _, rfl, ⟨rfl, eu1, k + 1, hk5, hw, hy1, fun hb c h1 h2 => ?_⟩, by rw [hw]; exact hms⟩
        by_cases e : c = ((k + 1 : Nat) : Int)
        · rw [e]; exact hs
        · exact hn1 hb c h1 (by omega)
      | some m =>
        obtain ⟨q1, q2, q3, q4, q5⟩ := best_one (by omega) (by omega) hs
        rw [if_neg q1] at hfe
        subst hfe
        refine BR_ff rfl ?_
        refine BR_ff rfl ?_
        have J2 : J_law13_PrizeClub_2 W (endK K E) false ⟨s.size, 0, none⟩ (bestP T).1 (bestP T).2 0 nx false ((k + 1 : Nat) : Int) u1 := by
          unfold J_law13_PrizeClub_2
          refine BR_ff rfl ?_
          unfold J_law13_PrizeClub_1
          rw [← hnx]
          exact ⟨rfl, _, _, _, rfl, ⟨rfl, eu1, k + 1, hk5, hw, fun _ => ⟨_, m, by omega, by omega, hs⟩, fun hb => (by cases hb)⟩, by rw [hw]; exact hms⟩
        have J3 : J_law13_PrizeClub_3 W (endK K E) false ⟨s.size, 0, none⟩ (bestP T).1 (bestP T).2 0 nx false ((k + 1 : Nat) : Int) m u1 := by
          unfold J_law13_PrizeClub_3
          refine BR_ff rfl ?_
          refine BR_eq (fun he => ?_) (fun _ => J2)
          have : (m != (bestP T).2) = false := by rw [q4 he]; simp
          rw [this]; exact J2
        show J_law13_PrizeClub_4 W (endK K E) (decide (m < (bestP T).2)) _ _ _ _ _ _ _ _ u1
        rw [decide_eq_false (show ¬ m < (bestP T).2 by omega)]
        unfold J_law13_PrizeClub_4
        refine BR_ff rfl ?_
        refine BR_eq (fun he => ?_) (fun _ => J3)
        have := q3 he
        show J_law13_PrizeClub_3 W (endK K E) (decide (((k + 1 : Nat) : Int) < (bestP T).1)) _ _ _ _ _ _ _ _ u1
        rw [decide_eq_false (show ¬ ((k + 1 : Nat) : Int) < (bestP T).1 by omega)]
        exact J3
    · have hk5 : k = 5 := by omega
      subst hk5
      refine BR_bool (fun hb => ?_) (fun hb => ?_)
      · obtain ⟨c, m, p1, p2, p3⟩ := hy1 hb
        have hbs := (best_one p1 p2 p3).2.2.2.2
        refine ⟨_, _, _, gu.cell c0, _, _, _, gu.cell c1, ?_⟩
        refine w_sum hok (rx gu) fun u1 f2 => ?_
        try simp only [TUP_mk, AGG_mk, HD_mk, NL_mk, TYI_mk, TYB_mk, TYP_mk, TYL_mk, TYS_mk, TYM_mk, SO_mk, NX_mk, endK_mk, endK_mk', add_0]
        rw [hbs]
        refine BR_tt rfl ?_
        exact c_awake' (gu.trans f2) fun v ev => h v (e1.trans ev)
      · have hbn := best_none (T := T) (fun c p1 p2 => hn1 hb c p1 p2)
        rw [if_pos hbn] at hfe
        subst hfe
        refine BR_tt rfl ?_
        rw [hbn]
        refine BR_tt rfl ?_
        refine BR_tt rfl ?_
        exact c_awake' gu fun v ev => h v (e1.trans ev)
  refine BR_bool (fun _ => J0 true s2 e2 (fun hh => by cases hh)) (fun hf => ?_)
  refine ⟨_, _, _, e2.cell c0, _, _, _, e2.cell c1, ?_⟩
  refine f_Prizes (rx e2) (ry e2) fun s3 e3 => ?_
  try simp only [TUP_mk, AGG_mk, HD_mk, NL_mk, TYI_mk, TYB_mk, TYP_mk, TYL_mk, TYS_mk, TYM_mk, SO_mk, NX_mk, endK_mk, endK_mk', add_0]
  exact J0 _ s3 (e2.trans e3) (fun hh => by simpa using hh)
end
end Go.Proofs.Ytfaeokcbfnlgbaa.G

/- PrizeClub, from any arguments. -/
namespace Go.Proofs.Ytfaeokcbfnlgbaa.G
open Go.V
theorem v_PrizeClub {W : World} {s : Hp} {v0 : Value} (k0 : RdV Pg s 25 v0) : CALL Pg W F_law13_PrizeClub [v0] (fun v s' => v = .bool true ∧ Ext s s') (fun _ _ => False) s := by
  obtain ⟨x, c, y, c', T, rfl, hx, hy⟩ := prizes_rd k0
  exact w_PrizeClub hx hy fun s' e => ⟨rfl, e⟩
end Go.Proofs.Ytfaeokcbfnlgbaa.G

/- The row of the statement PrizeClub. -/
namespace Go.Proofs.Ytfaeokcbfnlgbaa.prizeClub
open Go.ChangeShapes Go.WideShapes Go.ChangeAt Go.RowKit Go.V
set_option linter.unusedVariables false
theorem own : ownKnob Try.prog.godebug = none := by kernel_rfl
theorem laidOut : laidOutB Try.prog = true := by kernel_rfl
set_option maxRecDepth 100000 in
theorem lifted (os : Os) (started : os.Started) (H : Type) (enc : TypeId × Value → H) :
    ReturnsInHanded {} Try.checked os 6 .any (Rows.prizeClubSpec.pre6 enc Try.prog Try.f6 Rows.prizeClubRow.domain false) (Rows.prizeClubSpec.post enc Try.prog Try.f6 false true false false) := by
  refine returnsInHanded_of_change_sized (C := Try.checked) own started (by kernel_rfl) Try.func6
    (ChangeSpec.witness6 (enc := enc) (C := Try.checked) false ⟨#[], #[(.agg #[(.slice none 0 0), (.slice none 0 0)])], []⟩ 8 (by kernel_rfl) (by kernel_rfl) (by kernel_rfl) (by kernel_rfl)) ?_
  intro W base args ds gs before hval0 hW hcnd hsz0 _
  have hsz : (DataW.weightsEach Try.prog (Try.f6.params.toList ++ Rows.prizeClubSpec.plain.varTypes Try.prog) (ds ++ gs)).all (· ≤ reachBytes) = true := hsz0
  have hval : ∀ (j : Nat) t v, Try.f6.params[j]? = some t → args[j]? = some v → Value.okWide Try.prog W .any base t v := hval0
  have hW' := hW
  obtain ⟨p, q, hA0, hV, rfl, hfz, hnd⟩ := hW
  have hA : DataW.TrodAll enc Try.prog W 0 (fun _ => true) true Try.f6.params.toList args.toList ds p := hA0
  rw [Try.params6] at hA hval hsz
  obtain ⟨v0, vs0, d0, ds0, p0, q0, hargs, rfl, rfl, h0, r0⟩ := trodAll_cons hA
  obtain ⟨rfl, rfl, rfl⟩ := trodAll_nil r0
  obtain rfl : args = #[v0] := by cases args; simp_all
  obtain ⟨rfl, rfl⟩ := trodVars_none hV
  have k0 := trod_rdV (hval 0 25 v0 rfl rfl) h0
  have lt0 : ∀ x ∈ p0, x.block < W.heap.size := by obtain ⟨m, hm⟩ := h0; exact DataW.trod_lt m _ _ _ hm
  refine (calls_of_does (does_of_call (G.v_PrizeClub (W := W) (s := W.heap) k0))).mono fun e W' ⟨he, bel⟩ => ?_
  subst he
  exact ⟨_, rfl, _, _, _, [], _, [], hW', trodAll_mk1 (shut_bool Try.underlying4 _), (trodAll_cons_mk (Below.trod laidOut (by kernel_rfl) (of_decide_eq_true (by kernel_rfl)) h0 bel lt0) trodAll_mk0), rfl, bel.frame _, fun h => by cases h⟩
theorem over : Rows.prizeClubRow.holds Try.pinned (OpenSpec.ofChange Rows.prizeClubSpec) :=
  OpenClaim.holds_of_wide 6 Try.f6 rfl rfl rfl rfl rfl rfl rfl ⟨rfl, rfl, rfl, rfl, rfl⟩ rfl rfl rfl rfl rfl (by kernel_rfl) Try.func6 (by kernel_rfl)
    (of_decide_eq_true (by kernel_rfl)) (by unfold Func.isWrapper; first | (rw [if_pos (by decide +kernel)]; kernel_rfl) | (rw [if_neg (by decide +kernel)]; exact ⟨rfl, rfl⟩))
    (fun os started H enc _ => lifted os started H enc)
theorem proved : Rows.PrizeClubSaid := over
end Go.Proofs.Ytfaeokcbfnlgbaa.prizeClub
namespace Go.Proofs.Ytfaeokcbfnlgbaa
/-- The row, under a short name. -/
theorem prizeClub_holds : Rows.PrizeClubSaid := prizeClub.proved
end Go.Proofs.Ytfaeokcbfnlgbaa
