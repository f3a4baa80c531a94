import Derived.Test.YtfaeokcbfnlgbaaC3
/- What a giving, by remainders, is worth is what each of its prizes is, to who has it, and all of them together, just if it is fair; the due giving is fair; and what is wrong with it is the first prize that another one is due. -/
/- More of the functions' shallow texts, by gen.py. -/
set_option linter.unusedVariables false
set_option maxRecDepth 100000
namespace Go.Proofs.Ytfaeokcbfnlgbaa.G
open Go.V
def an_14 : Nat → Ann := fun b => match b with
  | _ => {}
abbrev rv_14 : List ResultVar := [.tmp 0]
abbrev rs_14 : List Nat := [147, 0]
def J_law13_awake_0 (W : World) (R : Ending → Hp → Prop) (b212 : Bool) (n151 : Int) (n170 : Int) (n173 : Int) (n192 : Int) (n195 : Int) : Hp → Prop :=
  BR b212
    (BR (n151 == 0)
      (BR (n170 == 24)
        (BR (n173 == 0)
          (BR (n192 == 3)
            (R (.returned (.bool (n195 == 0))))
            (R (.returned (.bool false))))
          (R (.returned (.bool false))))
        (R (.returned (.bool false))))
      (R (.returned (.bool false))))
    (R (.returned (.bool false)))
def J_law13_awake_1 (W : World) (R : Ending → Hp → Prop) (b207 : Bool) (n143 : Int) (x146 : Option Addr) (l147 : Nat) (c148 : Nat) (n151 : Int) (n170 : Int) (n173 : Int) (n192 : Int) (n195 : Int) : Hp → Prop :=
  BR b207
    (R (.returned (.bool false)))
    (BR (n143 == 5)
      (NEW 3 [(.int .i64 0), (.int .i64 2), (.int .i64 1), (.int .i64 4), (.int .i64 3)] fun B208 =>
        CALL Pg W F_ref13_Ints [(.slice x146 l147 c148), (.slice (some ⟨B208, 0, none⟩) 5 5)]
          (fun v209 => TYB v209 fun b211 =>
            J_law13_awake_0 W R b211 n151 n170 n173 n192 n195)
            (fun e210 => R (.panicked e210)))
      (J_law13_awake_0 W R false n151 n170 n173 n192 n195))
def J_law13_awake_2 (W : World) (R : Ending → Hp → Prop) (b206 : Bool) (n143 : Int) (x146 : Option Addr) (l147 : Nat) (c148 : Nat) (n151 : Int) (n170 : Int) (n173 : Int) (n192 : Int) (n195 : Int) (n124 : Int) : Hp → Prop :=
  BR b206
    (J_law13_awake_1 W R true n143 x146 l147 c148 n151 n170 n173 n192 n195)
    (J_law13_awake_1 W R (n124 != 0) n143 x146 l147 c148 n151 n170 n173 n192 n195)
def J_law13_awake_3 (W : World) (R : Ending → Hp → Prop) (b205 : Bool) (n143 : Int) (x146 : Option Addr) (l147 : Nat) (c148 : Nat) (n151 : Int) (n170 : Int) (n173 : Int) (n192 : Int) (n195 : Int) (n124 : Int) (n121 : Int) : Hp → Prop :=
  BR b205
    (J_law13_awake_2 W R true n143 x146 l147 c148 n151 n170 n173 n192 n195 n124)
    (J_law13_awake_2 W R (n121 != 290) n143 x146 l147 c148 n151 n170 n173 n192 n195 n124)
def J_law13_awake_4 (W : World) (R : Ending → Hp → Prop) (b204 : Bool) (n143 : Int) (x146 : Option Addr) (l147 : Nat) (c148 : Nat) (n151 : Int) (n170 : Int) (n173 : Int) (n192 : Int) (n195 : Int) (n124 : Int) (n121 : Int) (x116 : Option Addr) (l117 : Nat) (c118 : Nat) : Hp → Prop :=
  BR b204
    (J_law13_awake_3 W R true n143 x146 l147 c148 n151 n170 n173 n192 n195 n124 n121)
    (NEW 3 [(.int .i64 80), (.int .i64 100), (.int .i64 50), (.int .i64 20), (.int .i64 40)] fun B213 =>
      CALL Pg W F_ref13_Ints [(.slice x116 l117 c118), (.slice (some ⟨B213, 0, none⟩) 5 5)]
        (fun v214 => TYB v214 fun b216 =>
          J_law13_awake_3 W R (!b216) n143 x146 l147 c148 n151 n170 n173 n192 n195 n124 n121)
          (fun e215 => R (.panicked e215)))
def J_law13_awake_5 (W : World) (R : Ending → Hp → Prop) (b203 : Bool) (n143 : Int) (x146 : Option Addr) (l147 : Nat) (c148 : Nat) (n151 : Int) (n170 : Int) (n173 : Int) (n192 : Int) (n195 : Int) (n124 : Int) (n121 : Int) (x116 : Option Addr) (l117 : Nat) (c118 : Nat) (n97 : Int) : Hp → Prop :=
  BR b203
    (J_law13_awake_4 W R true n143 x146 l147 c148 n151 n170 n173 n192 n195 n124 n121 x116 l117 c118)
    (J_law13_awake_4 W R (n97 != 0) n143 x146 l147 c148 n151 n170 n173 n192 n195 n124 n121 x116 l117 c118)
def J_law13_awake_6 (W : World) (R : Ending → Hp → Prop) (b202 : Bool) (n143 : Int) (x146 : Option Addr) (l147 : Nat) (c148 : Nat) (n151 : Int) (n170 : Int) (n173 : Int) (n192 : Int) (n195 : Int) (n124 : Int) (n121 : Int) (x116 : Option Addr) (l117 : Nat) (c118 : Nat) (n97 : Int) (n94 : Int) : Hp → Prop :=
  BR b202
    (J_law13_awake_5 W R true n143 x146 l147 c148 n151 n170 n173 n192 n195 n124 n121 x116 l117 c118 n97)
    (J_law13_awake_5 W R (n94 != 5) n143 x146 l147 c148 n151 n170 n173 n192 n195 n124 n121 x116 l117 c118 n97)
def J_law13_awake_7 (W : World) (R : Ending → Hp → Prop) (b201 : Bool) (n143 : Int) (x146 : Option Addr) (l147 : Nat) (c148 : Nat) (n151 : Int) (n170 : Int) (n173 : Int) (n192 : Int) (n195 : Int) (n124 : Int) (n121 : Int) (x116 : Option Addr) (l117 : Nat) (c118 : Nat) (n97 : Int) (n94 : Int) (n91 : Int) : Hp → Prop :=
  BR b201
    (J_law13_awake_6 W R true n143 x146 l147 c148 n151 n170 n173 n192 n195 n124 n121 x116 l117 c118 n97 n94)
    (J_law13_awake_6 W R (n91 != 1) n143 x146 l147 c148 n151 n170 n173 n192 n195 n124 n121 x116 l117 c118 n97 n94)
def J_law13_awake_8 (W : World) (R : Ending → Hp → Prop) (b200 : Bool) (n143 : Int) (x146 : Option Addr) (l147 : Nat) (c148 : Nat) (n151 : Int) (n170 : Int) (n173 : Int) (n192 : Int) (n195 : Int) (n124 : Int) (n121 : Int) (x116 : Option Addr) (l117 : Nat) (c118 : Nat) (n97 : Int) (n94 : Int) (n91 : Int) (n72 : Int) : Hp → Prop :=
  BR b200
    (J_law13_awake_7 W R true n143 x146 l147 c148 n151 n170 n173 n192 n195 n124 n121 x116 l117 c118 n97 n94 n91)
    (J_law13_awake_7 W R (n72 != 0) n143 x146 l147 c148 n151 n170 n173 n192 n195 n124 n121 x116 l117 c118 n97 n94 n91)
def J_law13_awake_9 (W : World) (R : Ending → Hp → Prop) (b199 : Bool) (n143 : Int) (x146 : Option Addr) (l147 : Nat) (c148 : Nat) (n151 : Int) (n170 : Int) (n173 : Int) (n192 : Int) (n195 : Int) (n124 : Int) (n121 : Int) (x116 : Option Addr) (l117 : Nat) (c118 : Nat) (n97 : Int) (n94 : Int) (n91 : Int) (n72 : Int) (n69 : Int) : Hp → Prop :=
  BR b199
    (J_law13_awake_8 W R true n143 x146 l147 c148 n151 n170 n173 n192 n195 n124 n121 x116 l117 c118 n97 n94 n91 n72)
    (J_law13_awake_8 W R (n69 != 3) n143 x146 l147 c148 n151 n170 n173 n192 n195 n124 n121 x116 l117 c118 n97 n94 n91 n72)
def J_law13_awake_10 (W : World) (R : Ending → Hp → Prop) (b198 : Bool) (n143 : Int) (x146 : Option Addr) (l147 : Nat) (c148 : Nat) (n151 : Int) (n170 : Int) (n173 : Int) (n192 : Int) (n195 : Int) (n124 : Int) (n121 : Int) (x116 : Option Addr) (l117 : Nat) (c118 : Nat) (n97 : Int) (n94 : Int) (n91 : Int) (n72 : Int) (n69 : Int) (n66 : Int) : Hp → Prop :=
  BR b198
    (J_law13_awake_9 W R true n143 x146 l147 c148 n151 n170 n173 n192 n195 n124 n121 x116 l117 c118 n97 n94 n91 n72 n69)
    (J_law13_awake_9 W R (n66 != 4) n143 x146 l147 c148 n151 n170 n173 n192 n195 n124 n121 x116 l117 c118 n97 n94 n91 n72 n69)
def J_law13_awake_11 (W : World) (R : Ending → Hp → Prop) (b197 : Bool) (n143 : Int) (x146 : Option Addr) (l147 : Nat) (c148 : Nat) (n151 : Int) (n170 : Int) (n173 : Int) (n192 : Int) (n195 : Int) (n124 : Int) (n121 : Int) (x116 : Option Addr) (l117 : Nat) (c118 : Nat) (n97 : Int) (n94 : Int) (n91 : Int) (n72 : Int) (n69 : Int) (n66 : Int) (n46 : Int) : Hp → Prop :=
  BR b197
    (J_law13_awake_10 W R true n143 x146 l147 c148 n151 n170 n173 n192 n195 n124 n121 x116 l117 c118 n97 n94 n91 n72 n69 n66)
    (J_law13_awake_10 W R (n46 != 0) n143 x146 l147 c148 n151 n170 n173 n192 n195 n124 n121 x116 l117 c118 n97 n94 n91 n72 n69 n66)
def J_law13_awake_12 (W : World) (R : Ending → Hp → Prop) (b196 : Bool) (n143 : Int) (x146 : Option Addr) (l147 : Nat) (c148 : Nat) (n151 : Int) (n170 : Int) (n173 : Int) (n192 : Int) (n195 : Int) (n124 : Int) (n121 : Int) (x116 : Option Addr) (l117 : Nat) (c118 : Nat) (n97 : Int) (n94 : Int) (n91 : Int) (n72 : Int) (n69 : Int) (n66 : Int) (n46 : Int) (x41 : Option Addr) (l42 : Nat) (c43 : Nat) : Hp → Prop :=
  BR b196
    (J_law13_awake_11 W R true n143 x146 l147 c148 n151 n170 n173 n192 n195 n124 n121 x116 l117 c118 n97 n94 n91 n72 n69 n66 n46)
    (NEW 3 [(.int .i64 1), (.int .i64 2), (.int .i64 0), (.int .i64 4), (.int .i64 3)] fun B217 =>
      CALL Pg W F_ref13_Ints [(.slice x41 l42 c43), (.slice (some ⟨B217, 0, none⟩) 5 5)]
        (fun v218 => TYB v218 fun b220 =>
          J_law13_awake_11 W R (!b220) n143 x146 l147 c148 n151 n170 n173 n192 n195 n124 n121 x116 l117 c118 n97 n94 n91 n72 n69 n66 n46)
          (fun e219 => R (.panicked e219)))
def T_law13_awake (W : World) (R : Ending → Hp → Prop) : Hp → Prop :=
  CALL Pg W F_law13_sample []
    (fun v1 => AGG v1 fun q3 => HD q3 fun v4 r5 => TYL v4 fun x6 l7 c8 =>
      HD r5 fun v9 r10 => TYL v9 fun x11 l12 c13 =>
        NL r10 <|
          CALL Pg W F_prize_Can [(.agg #[(.slice x6 l7 c8), (.slice x11 l12 c13)]), (.int .i64 3), (.int .i64 2)]
            (fun v14 => TUP v14 fun q16 => HD q16 fun v17 r18 => TYB v17 fun b19 =>
              HD r18 fun v20 r21 => TYI .i64 v20 fun n22 =>
                NL r21 <|
                  CALL Pg W F_law13_sample []
                    (fun v23 => AGG v23 fun q25 => HD q25 fun v26 r27 => TYL v26 fun x28 l29 c30 =>
                      HD r27 fun v31 r32 => TYL v31 fun x33 l34 c35 =>
                        NL r32 <|
                          CALL Pg W F_prize_Due [(.agg #[(.slice x28 l29 c30), (.slice x33 l34 c35)])]
                            (fun v36 => TUP v36 fun q38 => HD q38 fun v39 r40 => TYL v39 fun x41 l42 c43 =>
                              HD r40 fun v44 r45 => TYI .i64 v44 fun n46 =>
                                NL r45 <|
                                  CALL Pg W F_law13_sample []
                                    (fun v47 => AGG v47 fun q49 => HD q49 fun v50 r51 => TYL v50 fun x52 l53 c54 =>
                                      HD r51 fun v55 r56 => TYL v55 fun x57 l58 c59 =>
                                        NL r56 <|
                                          NEW 3 [(.int .i64 1), (.int .i64 2), (.int .i64 0), (.int .i64 4), (.int .i64 (-1))] fun B60 =>
                                            CALL Pg W F_prize_Wrong [(.agg #[(.slice x52 l53 c54), (.slice x57 l58 c59)]), (.slice (some ⟨B60, 0, none⟩) 5 5)]
                                              (fun v61 => TUP v61 fun q63 => HD q63 fun v64 r65 => TYI .i64 v64 fun n66 =>
                                                HD r65 fun v67 r68 => TYI .i64 v67 fun n69 =>
                                                  HD r68 fun v70 r71 => TYI .i64 v70 fun n72 =>
                                                    NL r71 <|
                                                      CALL Pg W F_law13_sample []
                                                        (fun v73 => AGG v73 fun q75 => HD q75 fun v76 r77 => TYL v76 fun x78 l79 c80 =>
                                                          HD r77 fun v81 r82 => TYL v81 fun x83 l84 c85 =>
                                                            NL r82 <|
                                                              CALL Pg W F_prize_Club [(.agg #[(.slice x78 l79 c80), (.slice x83 l84 c85)])]
                                                                (fun v86 => TUP v86 fun q88 => HD q88 fun v89 r90 => TYI .i64 v89 fun n91 =>
                                                                  HD r90 fun v92 r93 => TYI .i64 v92 fun n94 =>
                                                                    HD r93 fun v95 r96 => TYI .i64 v95 fun n97 =>
                                                                      NL r96 <|
                                                                        CALL Pg W F_law13_sample []
                                                                          (fun v98 => AGG v98 fun q100 => HD q100 fun v101 r102 => TYL v101 fun x103 l104 c105 =>
                                                                            HD r102 fun v106 r107 => TYL v106 fun x108 l109 c110 =>
                                                                              NL r107 <|
                                                                                CALL Pg W F_prize_Worth [(.agg #[(.slice x103 l104 c105), (.slice x108 l109 c110)]), (.slice x41 l42 c43)]
                                                                                  (fun v111 => TUP v111 fun q113 => HD q113 fun v114 r115 => TYL v114 fun x116 l117 c118 =>
                                                                                    HD r115 fun v119 r120 => TYI .i64 v119 fun n121 =>
                                                                                      HD r120 fun v122 r123 => TYI .i64 v122 fun n124 =>
                                                                                        NL r123 <|
                                                                                          CALL Pg W F_law13_sample []
                                                                                            (fun v125 => AGG v125 fun q127 => HD q127 fun v128 r129 => TYL v128 fun x130 l131 c132 =>
                                                                                              HD r129 fun v133 r134 => TYL v133 fun x135 l136 c137 =>
                                                                                                NL r134 <|
                                                                                                  CALL Pg W F_prize_Most [(.agg #[(.slice x130 l131 c132), (.slice x135 l136 c137)])]
                                                                                                    (fun v138 => TUP v138 fun q140 => HD q140 fun v141 r142 => TYI .i64 v141 fun n143 =>
                                                                                                      HD r142 fun v144 r145 => TYL v144 fun x146 l147 c148 =>
                                                                                                        HD r145 fun v149 r150 => TYI .i64 v149 fun n151 =>
                                                                                                          NL r150 <|
                                                                                                            CALL Pg W F_law13_sample []
                                                                                                              (fun v152 => AGG v152 fun q154 => HD q154 fun v155 r156 => TYL v155 fun x157 l158 c159 =>
                                                                                                                HD r156 fun v160 r161 => TYL v160 fun x162 l163 c164 =>
                                                                                                                  NL r161 <|
                                                                                                                    CALL Pg W F_prize_Stay [(.agg #[(.slice x157 l158 c159), (.slice x162 l163 c164)]), (.int .i64 0)]
                                                                                                                      (fun v165 => TUP v165 fun q167 => HD q167 fun v168 r169 => TYI .i64 v168 fun n170 =>
                                                                                                                        HD r169 fun v171 r172 => TYI .i64 v171 fun n173 =>
                                                                                                                          NL r172 <|
                                                                                                                            CALL Pg W F_law13_sample []
                                                                                                                              (fun v174 => AGG v174 fun q176 => HD q176 fun v177 r178 => TYL v177 fun x179 l180 c181 =>
                                                                                                                                HD r178 fun v182 r183 => TYL v182 fun x184 l185 c186 =>
                                                                                                                                  NL r183 <|
                                                                                                                                    CALL Pg W F_prize_For [(.agg #[(.slice x179 l180 c181), (.slice x184 l185 c186)]), (.int .i64 0)]
                                                                                                                                      (fun v187 => TUP v187 fun q189 => HD q189 fun v190 r191 => TYI .i64 v190 fun n192 =>
                                                                                                                                        HD r191 fun v193 r194 => TYI .i64 v193 fun n195 =>
                                                                                                                                          NL r194 <|
                                                                                                                                            BR b19
                                                                                                                                              (J_law13_awake_12 W R true n143 x146 l147 c148 n151 n170 n173 n192 n195 n124 n121 x116 l117 c118 n97 n94 n91 n72 n69 n66 n46 x41 l42 c43)
                                                                                                                                              (J_law13_awake_12 W R (n22 != 0) n143 x146 l147 c148 n151 n170 n173 n192 n195 n124 n121 x116 l117 c118 n97 n94 n91 n72 n69 n66 n46 x41 l42 c43))
                                                                                                                                        (fun e188 => R (.panicked e188)))
                                                                                                                                (fun e175 => R (.panicked e175)))
                                                                                                                        (fun e166 => R (.panicked e166)))
                                                                                                                (fun e153 => R (.panicked e153)))
                                                                                                      (fun e139 => R (.panicked e139)))
                                                                                              (fun e126 => R (.panicked e126)))
                                                                                    (fun e112 => R (.panicked e112)))
                                                                            (fun e99 => R (.panicked e99)))
                                                                  (fun e87 => R (.panicked e87)))
                                                          (fun e74 => R (.panicked e74)))
                                                (fun e62 => R (.panicked e62)))
                                      (fun e48 => R (.panicked e48)))
                              (fun e37 => R (.panicked e37)))
                      (fun e24 => R (.panicked e24)))
              (fun e15 => R (.panicked e15)))
      (fun e2 => R (.panicked e2))
theorem T_law13_awake_eq (W : World) (R : Ending → Hp → Prop) : vfun Pg W an_14 Try.f14 [] R = T_law13_awake W R := by kernel_rfl
theorem does_law13_awake (W : World) (R : Ending → Hp → Prop) (s : Hp) (h : T_law13_awake W R s) : Does Pg W F_law13_awake #[] s R :=
  does_of_vfun Pg W an_14 Try.func14 rfl (by kernel_rfl) (by rw [T_law13_awake_eq]; exact h)
end Go.Proofs.Ytfaeokcbfnlgbaa.G

/- Prize: what the document fixes. -/
set_option linter.unusedSimpArgs false
set_option linter.unusedVariables false
set_option maxRecDepth 20000
namespace Go.Proofs.Ytfaeokcbfnlgbaa.G
open Go.V
def pz2 (m : Pz) : List Value := [.int .i64 m.kind, .int .i64 m.worth]
def pzV (l : List Pz) : List Value := l.flatMap pz2
theorem pzV_len : ∀ l : List Pz, (pzV l).length = l.length * 2
  | [] => rfl
  | x :: l => by
    have ih := pzV_len l
    show (pz2 x ++ pzV l).length = _
    rw [List.length_append, ih, List.length_cons]
    show 2 + _ = _
    omega
theorem pzV_one (l : List Pz) : ∀ v ∈ pzV l, oneCell v = true := by
  intro v hv
  obtain ⟨m, _, h⟩ := List.mem_flatMap.1 hv
  simp [pz2] at h
  rcases h with rfl | rfl <;> rfl
theorem pzV_get : ∀ (l : List Pz) (k : Nat) (h : k < l.length), (pzV l)[k * 2]? = some (.int .i64 l[k].kind) ∧ (pzV l)[k * 2 + 1]? = some (.int .i64 l[k].worth)
  | [], k, h => by simp at h
  | x :: l, 0, h => ⟨rfl, rfl⟩
  | x :: l, k + 1, h => by
    obtain ⟨h1, h2⟩ := pzV_get l k (by simpa using h)
    have e : ∀ j : Nat, (pzV (x :: l))[2 + j]? = (pzV l)[j]? := fun j => by
      show (pz2 x ++ pzV l)[2 + j]? = _
      rw [List.getElem?_append_right (show (pz2 x).length ≤ 2 + j by show 2 ≤ _; omega)]
      congr 1
      show 2 + j - 2 = j
      omega
    refine ⟨?_, ?_⟩
    · rw [show (k + 1) * 2 = 2 + k * 2 by omega, e, h1]; rfl
    · rw [show (k + 1) * 2 + 1 = 2 + (k * 2 + 1) by omega, e, h2]; rfl
theorem row_pz {s : Hp} {x : Option Addr} {l : List Pz} (h : RowAt s x (pzV l)) : PzAt s x l := fun i hi => by
  obtain ⟨g1, g2⟩ := pzV_get l i hi
  obtain ⟨a, h0, h1⟩ := row_get h g1
  obtain ⟨b, k0, h2⟩ := row_get h g2
  rw [h0] at k0; cases k0
  exact ⟨a, h0, by rw [addr_add]; exact h1, by rw [addr_add]; exact h2⟩
theorem pz_row' {s : Hp} {x : Option Addr} {l : List Pz} (h : PzAt s x l) : RowAt s x (pzV l) := fun i hi => by
  have hi' := hi
  rw [pzV_len] at hi'
  have hk : i / 2 < l.length := by omega
  obtain ⟨a, h0, h1, h2⟩ := h (i / 2) hk
  obtain ⟨g1, g2⟩ := pzV_get l (i / 2) hk
  refine ⟨a, h0, ?_⟩
  rw [Nat.mul_one]
  rcases Nat.mod_two_eq_zero_or_one i with e | e
  · have e' : i / 2 * 2 = i := by omega
    rw [addr_add] at h1
    simp only [e', Nat.add_zero] at h1 g1
    rw [h1, ← g1, List.getElem?_eq_getElem hi]
  · have e' : i / 2 * 2 + 1 = i := by omega
    rw [addr_add] at h2
    simp only [e'] at h2 g2
    rw [h2, ← g2, List.getElem?_eq_getElem hi]
/-- The prizes of the document's examples. -/
def SP : PT := ⟨[⟨2, 1, false, false⟩, ⟨1, 2, false, false⟩, ⟨3, 1, true, false⟩, ⟨5, 0, true, true⟩, ⟨4, 2, false, true⟩], [⟨0, 100⟩, ⟨1, 50⟩, ⟨4, 80⟩, ⟨2, 40⟩, ⟨3, 20⟩]⟩
theorem sp_can : canR SP 3 2 = (false, 0) := by decide +kernel
theorem sp_due : dueR SP = ([1, 2, 0, 4, 3], 0) := by decide +kernel
theorem sp_wrong : wrongR SP [1, 2, 0, 4, -1] = (4, 3, 0) := by decide +kernel
theorem sp_club : clubR SP = (1, 5, 0) := by decide +kernel
theorem sp_worth : worthR SP [1, 2, 0, 4, 3] = ([80, 100, 50, 20, 40], 290, 0) := by decide +kernel
theorem sp_most : mostR SP = (5, [0, 2, 1, 4, 3], 0) := by decide +kernel
theorem sp_stay : stayR SP 0 = (24, 0) := by decide +kernel
theorem sp_for : forR SP 0 = (3, 0) := by decide +kernel
section
variable {W : World} {K : VK} {E : List PanicEntry → Hp → Prop} {s : Hp} {T : PT}
theorem c_far {x y q : Option Addr} {c c' l cq : Nat} (h : ∀ s' b, Ext s s' → (b = false → T.n ≤ 40 ∧ T.z ≤ 40 ∧ l ≤ 40) → K (.bool b) s') :
    CALL Pg W F_law13_far [.agg #[.slice x T.n c, .slice y T.z c'], .slice q l cq] K E s := by
  refine does_law13_far W x T.n c y T.z c' q l cq _ s ?_
  unfold T_law13_far
  refine ne2 fun s1 e1 z1 o1 o2 => ?_
  refine ⟨_, _, _, o1.cell, ?_⟩
  refine BR_dec (fun h1 => h s1 true e1 (fun hh => by cases hh)) (fun h1 => ?_)
  refine ⟨_, _, _, o2.cell, ?_⟩
  refine BR_dec (fun h2 => h s1 true e1 (fun hh => by cases hh)) (fun h2 => ?_)
  exact h s1 _ e1 (fun hh => by have := of_decide_eq_false hh; omega)
theorem wr2 {a : Addr} {v0 v1 : Value} {K : Hp → Prop} (h0 : oneCell v0 = true) (h1 : oneCell v1 = true) (ha : ∀ j, j < 2 → ∃ y, Own s (a.add j) y) (h : ∀ s', Kp (· = a.block) s s' → s'.size = s.size → Own s' (a.add 0) v0 → Own s' (a.add 1) v1 → K s') :
    (WR (a.add 0) v0 <| WR (a.add 1) v1 <| K) s := by
  show wrN [v0, v1] a 0 K s
  refine wrN_rule _ a 0 K s (fun i hi => ?_) ?_ ?_
  · rw [Nat.zero_add]; exact ha i hi
  · intro w hw
    simp at hw
    rcases hw with rfl | rfl <;> assumption
  · intro s' k z ho _
    exact h s' k z (ho 0 (by simp)) (ho 1 (by simp))
theorem c_sample (h : ∀ s' x y, Ext s s' → MnAt s' x SP.men → PzAt s' y SP.list → K (.agg #[.slice x 5 5, .slice y 5 5]) s') : CALL Pg W F_law13_sample [] K E s := by
  refine does_law13_sample W _ s ?_
  unfold T_law13_sample
  refine nz2 zc_25 fun s1 e1 z1 q1 q2 => ?_
  refine NEW_rule fun s2 e2 z2 n2 _ => ?_
  refine NEW_rule fun s3 e3 z3 n3 _ => ?_
  have e13 := e2.trans e3
  have hs12 : s.size < s1.size := by omega
  refine wr2 (a := ⟨s.size, 0, none⟩) rfl rfl (fun j hj => ?_) fun t k z o0 o1 => ?_
  · match j, hj with
    | 0, _ => exact ⟨_, e13.own q1⟩
    | 1, _ => exact ⟨_, e13.own q2⟩
  · refine ⟨_, _, _, o0.cell, _, _, _, o1.cell, ?_⟩
    refine h t _ _ (ext_kp (e1.trans e13) (Nat.le_refl _) k) (row_mn ?_) (row_pz ?_)
    · exact ((row_new (vs := mnV SP.men) n2).ext e3).keep k (fun a ha => by cases ha; show ¬ s1.size = s.size; omega)
    · exact (row_new (vs := pzV SP.list) n3).keep k (fun a ha => by cases ha; show ¬ s2.size = s.size; have := e2.1; omega)
theorem x_Can {x y : Option Addr} {c c' : Nat} (hx : MnAt s x SP.men) (hy : PzAt s y SP.list) (h : ∀ s', Ext s s' → K (.tuple #[.bool false, .int .i64 0]) s') : CALL Pg W F_prize_Can [.agg #[.slice x 5 c, .slice y 5 c'], .int .i64 3, .int .i64 2] K E s :=
  c_Can (T := SP) (m := 3) (z := 2) hx hy (by rw [sp_can]; exact h)
theorem x_Due {x y : Option Addr} {c c' : Nat} (hx : MnAt s x SP.men) (hy : PzAt s y SP.list) (h : ∀ s' q cq, Ext s s' → RowAt s' q (ints [1, 2, 0, 4, 3]) → K (.tuple #[.slice q 5 cq, .int .i64 0]) s') : CALL Pg W F_prize_Due [.agg #[.slice x 5 c, .slice y 5 c']] K E s :=
  c_Due (T := SP) hx hy (by rw [sp_due]; exact fun s' q cq e f => h s' q cq e f.row)
theorem x_Wrong {x y q : Option Addr} {c c' cq : Nat} (hx : MnAt s x SP.men) (hy : PzAt s y SP.list) (hq : RowAt s q (ints [1, 2, 0, 4, -1])) (h : ∀ s', Ext s s' → K (.tuple #[.int .i64 4, .int .i64 3, .int .i64 0]) s') : CALL Pg W F_prize_Wrong [.agg #[.slice x 5 c, .slice y 5 c'], .slice q 5 cq] K E s :=
  c_Wrong (T := SP) (ds := [1, 2, 0, 4, -1]) hx hy hq (by rw [sp_wrong]; exact h)
theorem x_Club {x y : Option Addr} {c c' : Nat} (hx : MnAt s x SP.men) (hy : PzAt s y SP.list) (h : ∀ s', Ext s s' → K (.tuple #[.int .i64 1, .int .i64 5, .int .i64 0]) s') : CALL Pg W F_prize_Club [.agg #[.slice x 5 c, .slice y 5 c']] K E s :=
  c_Club (T := SP) hx hy (by rw [sp_club]; exact h)
theorem x_Worth {x y q : Option Addr} {c c' cq : Nat} (hx : MnAt s x SP.men) (hy : PzAt s y SP.list) (hq : RowAt s q (ints [1, 2, 0, 4, 3])) (h : ∀ s' w cw, Ext s s' → RowAt s' w (ints [80, 100, 50, 20, 40]) → K (.tuple #[.slice w 5 cw, .int .i64 290, .int .i64 0]) s') : CALL Pg W F_prize_Worth [.agg #[.slice x 5 c, .slice y 5 c'], .slice q 5 cq] K E s :=
  c_Worth (T := SP) (ds := [1, 2, 0, 4, 3]) hx hy hq (by rw [sp_worth]; exact fun s' w cw e f => h s' w cw e f.row)
theorem x_Most {x y : Option Addr} {c c' : Nat} (hx : MnAt s x SP.men) (hy : PzAt s y SP.list) (h : ∀ s' q cq, Ext s s' → RowAt s' q (ints [0, 2, 1, 4, 3]) → K (.tuple #[.int .i64 5, .slice q 5 cq, .int .i64 0]) s') : CALL Pg W F_prize_Most [.agg #[.slice x 5 c, .slice y 5 c']] K E s :=
  c_Most (T := SP) hx hy (by rw [sp_most]; exact fun s' q cq e f => h s' q cq e f.row)
theorem x_Stay {x y : Option Addr} {c c' : Nat} (hx : MnAt s x SP.men) (hy : PzAt s y SP.list) (h : ∀ s', Ext s s' → K (.tuple #[.int .i64 24, .int .i64 0]) s') : CALL Pg W F_prize_Stay [.agg #[.slice x 5 c, .slice y 5 c'], .int .i64 0] K E s :=
  c_Stay (T := SP) (m := 0) hx hy (by rw [sp_stay]; exact h)
theorem x_For {x y : Option Addr} {c c' : Nat} (hx : MnAt s x SP.men) (hy : PzAt s y SP.list) (h : ∀ s', Ext s s' → K (.tuple #[.int .i64 3, .int .i64 0]) s') : CALL Pg W F_prize_For [.agg #[.slice x 5 c, .slice y 5 c'], .int .i64 0] K E s :=
  c_For (T := SP) (m := 0) hx hy (by rw [sp_for]; exact h)
theorem c_awake (h : ∀ s', Ext s s' → K (.bool true) s') : CALL Pg W F_law13_awake [] K E s := by
  refine does_law13_awake W _ s ?_
  unfold T_law13_awake
  refine c_sample fun s1 x1 y1 e1 r1 q1 => ?_
  try simp only [TUP_mk, AGG_mk, HD_mk, NL_mk, TYI_mk, TYB_mk, TYP_mk, TYL_mk, TYS_mk, TYM_mk, SO_mk, NX_mk, endK_mk, endK_mk', add_0]
  refine x_Can r1 q1 fun s2 e2 => ?_
  try simp only [TUP_mk, AGG_mk, HD_mk, NL_mk, TYI_mk, TYB_mk, TYP_mk, TYL_mk, TYS_mk, TYM_mk, SO_mk, NX_mk, endK_mk, endK_mk', add_0]
  refine c_sample fun s3 x3 y3 e3 r3 q3 => ?_
  try simp only [TUP_mk, AGG_mk, HD_mk, NL_mk, TYI_mk, TYB_mk, TYP_mk, TYL_mk, TYS_mk, TYM_mk, SO_mk, NX_mk, endK_mk, endK_mk', add_0]
  refine x_Due r3 q3 fun s4 d4 cd4 e4 w4 => ?_
  try simp only [TUP_mk, AGG_mk, HD_mk, NL_mk, TYI_mk, TYB_mk, TYP_mk, TYL_mk, TYS_mk, TYM_mk, SO_mk, NX_mk, endK_mk, endK_mk', add_0]
  refine c_sample fun s5 x5 y5 e5 r5 q5 => ?_
  try simp only [TUP_mk, AGG_mk, HD_mk, NL_mk, TYI_mk, TYB_mk, TYP_mk, TYL_mk, TYS_mk, TYM_mk, SO_mk, NX_mk, endK_mk, endK_mk', add_0]
  refine NEW_rule fun s6 e6 z6 n6 _ => ?_
  refine x_Wrong (r5.ext e6) (q5.ext e6) (row_new (vs := ints [1, 2, 0, 4, -1]) n6) fun s7 e7 => ?_
  try simp only [TUP_mk, AGG_mk, HD_mk, NL_mk, TYI_mk, TYB_mk, TYP_mk, TYL_mk, TYS_mk, TYM_mk, SO_mk, NX_mk, endK_mk, endK_mk', add_0]
  refine c_sample fun s8 x8 y8 e8 r8 q8 => ?_
  try simp only [TUP_mk, AGG_mk, HD_mk, NL_mk, TYI_mk, TYB_mk, TYP_mk, TYL_mk, TYS_mk, TYM_mk, SO_mk, NX_mk, endK_mk, endK_mk', add_0]
  refine x_Club r8 q8 fun s9 e9 => ?_
  try simp only [TUP_mk, AGG_mk, HD_mk, NL_mk, TYI_mk, TYB_mk, TYP_mk, TYL_mk, TYS_mk, TYM_mk, SO_mk, NX_mk, endK_mk, endK_mk', add_0]
  refine c_sample fun t1 x11 y11 f1 r11 q11 => ?_
  try simp only [TUP_mk, AGG_mk, HD_mk, NL_mk, TYI_mk, TYB_mk, TYP_mk, TYL_mk, TYS_mk, TYM_mk, SO_mk, NX_mk, endK_mk, endK_mk', add_0]
  have g5 := e5.trans (e6.trans (e7.trans (e8.trans (e9.trans f1))))
  refine x_Worth r11 q11 (w4.ext g5) fun t2 w2 cw2 f2 v2 => ?_
  try simp only [TUP_mk, AGG_mk, HD_mk, NL_mk, TYI_mk, TYB_mk, TYP_mk, TYL_mk, TYS_mk, TYM_mk, SO_mk, NX_mk, endK_mk, endK_mk', add_0]
  refine c_sample fun t3 x13 y13 f3 r13 q13 => ?_
  try simp only [TUP_mk, AGG_mk, HD_mk, NL_mk, TYI_mk, TYB_mk, TYP_mk, TYL_mk, TYS_mk, TYM_mk, SO_mk, NX_mk, endK_mk, endK_mk', add_0]
  refine x_Most r13 q13 fun t4 m4 cm4 f4 v4 => ?_
  try simp only [TUP_mk, AGG_mk, HD_mk, NL_mk, TYI_mk, TYB_mk, TYP_mk, TYL_mk, TYS_mk, TYM_mk, SO_mk, NX_mk, endK_mk, endK_mk', add_0]
  refine c_sample fun t5 x15 y15 f5 r15 q15 => ?_
  try simp only [TUP_mk, AGG_mk, HD_mk, NL_mk, TYI_mk, TYB_mk, TYP_mk, TYL_mk, TYS_mk, TYM_mk, SO_mk, NX_mk, endK_mk, endK_mk', add_0]
  refine x_Stay r15 q15 fun t6 f6 => ?_
  try simp only [TUP_mk, AGG_mk, HD_mk, NL_mk, TYI_mk, TYB_mk, TYP_mk, TYL_mk, TYS_mk, TYM_mk, SO_mk, NX_mk, endK_mk, endK_mk', add_0]
  refine c_sample fun t7 x17 y17 f7 r17 q17 => ?_
  try simp only [TUP_mk, AGG_mk, HD_mk, NL_mk, TYI_mk, TYB_mk, TYP_mk, TYL_mk, TYS_mk, TYM_mk, SO_mk, NX_mk, endK_mk, endK_mk', add_0]
  refine x_For r17 q17 fun t8 f8 => ?_
  try simp only [TUP_mk, AGG_mk, HD_mk, NL_mk, TYI_mk, TYB_mk, TYP_mk, TYL_mk, TYS_mk, TYM_mk, SO_mk, NX_mk, endK_mk, endK_mk', add_0]
  have g8 := f5.trans (f6.trans (f7.trans f8))
  have g28 := f3.trans (f4.trans g8)
  have e0t := e1.trans (e2.trans (e3.trans (e4.trans (g5.trans (f2.trans g28)))))
  refine BR_bool (fun hh => by cases hh) (fun _ => ?_)
  unfold J_law13_awake_12
  refine BR_ne (fun hh => absurd rfl hh) (fun _ => ?_)
  refine NEW_rule fun u1 h1 _ n1 _ => ?_
  refine f_Ints (a := [1, 2, 0, 4, 3]) (b := [1, 2, 0, 4, 3]) (w4.ext (g5.trans (f2.trans (g28.trans h1)))) (row_new (vs := ints [1, 2, 0, 4, 3]) n1) rfl rfl (by decide) ?_
  try simp only [TUP_mk, AGG_mk, HD_mk, NL_mk, TYI_mk, TYB_mk, TYP_mk, TYL_mk, TYS_mk, TYM_mk, SO_mk, NX_mk, endK_mk, endK_mk', add_0]
  unfold J_law13_awake_11
  refine BR_bool (fun hh => absurd hh (by decide)) (fun _ => ?_)
  unfold J_law13_awake_10
  refine BR_ne (fun hh => absurd rfl hh) (fun _ => ?_)
  unfold J_law13_awake_9
  refine BR_ne (fun hh => absurd rfl hh) (fun _ => ?_)
  unfold J_law13_awake_8
  refine BR_ne (fun hh => absurd rfl hh) (fun _ => ?_)
  unfold J_law13_awake_7
  refine BR_ne (fun hh => absurd rfl hh) (fun _ => ?_)
  unfold J_law13_awake_6
  refine BR_ne (fun hh => absurd rfl hh) (fun _ => ?_)
  unfold J_law13_awake_5
  refine BR_ne (fun hh => absurd rfl hh) (fun _ => ?_)
  unfold J_law13_awake_4
  refine BR_ne (fun hh => absurd rfl hh) (fun _ => ?_)
  refine NEW_rule fun u2 h2 _ n2 _ => ?_
  refine f_Ints (a := [80, 100, 50, 20, 40]) (b := [80, 100, 50, 20, 40]) (v2.ext (g28.trans (h1.trans h2))) (row_new (vs := ints [80, 100, 50, 20, 40]) n2) rfl rfl (by decide) ?_
  try simp only [TUP_mk, AGG_mk, HD_mk, NL_mk, TYI_mk, TYB_mk, TYP_mk, TYL_mk, TYS_mk, TYM_mk, SO_mk, NX_mk, endK_mk, endK_mk', add_0]
  unfold J_law13_awake_3
  refine BR_bool (fun hh => absurd hh (by decide)) (fun _ => ?_)
  unfold J_law13_awake_2
  refine BR_ne (fun hh => absurd rfl hh) (fun _ => ?_)
  unfold J_law13_awake_1
  refine BR_ne (fun hh => absurd rfl hh) (fun _ => ?_)
  refine BR_eq (fun _ => ?_) (fun hh => absurd rfl hh)
  refine NEW_rule fun u3 h3 _ n3 _ => ?_
  refine f_Ints (a := [0, 2, 1, 4, 3]) (b := [0, 2, 1, 4, 3]) (v4.ext (g8.trans (h1.trans (h2.trans h3)))) (row_new (vs := ints [0, 2, 1, 4, 3]) n3) rfl rfl (by decide) ?_
  try simp only [TUP_mk, AGG_mk, HD_mk, NL_mk, TYI_mk, TYB_mk, TYP_mk, TYL_mk, TYS_mk, TYM_mk, SO_mk, NX_mk, endK_mk, endK_mk', add_0]
  unfold J_law13_awake_0
  refine BR_bool (fun _ => ?_) (fun hh => absurd hh (by decide))
  refine BR_eq (fun _ => ?_) (fun hh => absurd rfl hh)
  refine BR_eq (fun _ => ?_) (fun hh => absurd rfl hh)
  refine BR_eq (fun _ => ?_) (fun hh => absurd rfl hh)
  refine BR_eq (fun _ => ?_) (fun hh => absurd rfl hh)
  exact h u3 (e0t.trans (h1.trans (h2.trans h3)))
theorem c_awake' {s0 : Hp} (e : Ext s0 s) (h : ∀ s', Ext s0 s' → K (.bool true) s') : CALL Pg W F_law13_awake [] K E s := c_awake fun s' e' => h s' (e.trans e')
end
end Go.Proofs.Ytfaeokcbfnlgbaa.G

/- Prize: contracts for valid prizes. -/
set_option linter.unusedSimpArgs false
set_option linter.unusedVariables false
set_option maxRecDepth 20000
namespace Go.Proofs.Ytfaeokcbfnlgbaa.G
open Go.V
theorem due_len (T : PT) : (manL (dueP T)).length = T.z := by unfold manL dueP; rw [List.length_map, dueL_len]
section
variable {W : World} {K : VK} {E : List PanicEntry → Hp → Prop} {s : Hp} {T : PT}
theorem c_DueV {x y : Option Addr} {c c' : Nat} (hok : okP T = true) (hx : MnAt s x T.men) (hy : PzAt s y T.list) (h : ∀ s' q cq, Ext s s' → Fr s.size s' q T.z cq 1 (ints (manL (dueP T))) → K (.tuple #[.slice q T.z cq, .int .i64 0]) s') :
    CALL Pg W F_prize_Due [.agg #[.slice x T.n c, .slice y T.z c']] K E s := by
  refine c_Due hx hy fun s' q cq e f => ?_
  have hD : dueR T = (manL (dueP T), 0) := by unfold dueR; rw [if_pos hok]
  have hl := due_len T
  rw [hD] at f ⊢
  simp only [hl] at f ⊢
  exact h s' q cq e f
theorem c_DueN {x y : Option Addr} {c c' : Nat} (hok : okP T = false) (hx : MnAt s x T.men) (hy : PzAt s y T.list) (h : ∀ s' q cq, Ext s s' → K (.tuple #[.slice q 0 cq, .int .i64 1]) s') :
    CALL Pg W F_prize_Due [.agg #[.slice x T.n c, .slice y T.z c']] K E s := by
  refine c_Due hx hy fun s' q cq e f => ?_
  have hD : dueR T = ([], 1) := by unfold dueR; rw [hok]; rfl
  rw [hD]
  exact h s' q cq e
theorem c_ClubN {x y : Option Addr} {c c' : Nat} (hok : okP T = false) (hx : MnAt s x T.men) (hy : PzAt s y T.list) (h : ∀ s', Ext s s' → K (.tuple #[.int .i64 0, .int .i64 0, .int .i64 1]) s') :
    CALL Pg W F_prize_Club [.agg #[.slice x T.n c, .slice y T.z c']] K E s := by
  refine c_Club hx hy fun s' e => ?_
  have hD : clubR T = (0, 0, 1) := by unfold clubR; rw [hok]; rfl
  rw [hD]
  exact h s' e
theorem c_ClubV {x y : Option Addr} {c c' : Nat} (hok : okP T = true) (hx : MnAt s x T.men) (hy : PzAt s y T.list) (h : ∀ s', Ext s s' → K (.tuple #[.int .i64 (bestP T).1, .int .i64 (bestP T).2, .int .i64 (if bestP T = (0, 0) then 4 else 0)]) s') :
    CALL Pg W F_prize_Club [.agg #[.slice x T.n c, .slice y T.z c']] K E s := by
  refine c_Club hx hy fun s' e => ?_
  have hD : clubR T = ((bestP T).1, (bestP T).2, if bestP T = (0, 0) then 4 else 0) := by
    unfold clubR
    rw [if_pos hok]
    by_cases hb : bestP T = (0, 0)
    · rw [if_pos hb, if_pos hb, hb]
    · rw [if_neg hb, if_neg hb]
  rw [hD]
  exact h s' e
theorem c_CanV {x y : Option Addr} {c c' m z : Nat} (hok : okP T = true) (hm : m < T.n) (hz : z < T.z) (hx : MnAt s x T.men) (hy : PzAt s y T.list) (h : ∀ s', Ext s s' → K (.tuple #[.bool (canP T m z), .int .i64 0]) s') :
    CALL Pg W F_prize_Can [.agg #[.slice x T.n c, .slice y T.z c'], .int .i64 (m : Nat), .int .i64 (z : Nat)] K E s := by
  refine c_Can hx hy fun s' e => ?_
  have h1 : isM T (m : Nat) = true := decide_eq_true (by omega)
  have h2 : isZ T (z : Nat) = true := decide_eq_true (by omega)
  have hD : canR T (m : Nat) (z : Nat) = (canP T m z, 0) := by unfold canR; rw [if_pos hok, h1, h2, toNat_nat, toNat_nat]; rfl
  rw [hD]
  exact h s' e
theorem c_WrongL {x y q : Option Addr} {c c' cq l : Nat} {ds : List Int} (hl : l = ds.length) (hx : MnAt s x T.men) (hy : PzAt s y T.list) (hq : RowAt s q (ints ds)) (h : ∀ s', Ext s s' → K (.tuple #[.int .i64 (wrongR T ds).1, .int .i64 (wrongR T ds).2.1, .int .i64 (wrongR T ds).2.2]) s') :
    CALL Pg W F_prize_Wrong [.agg #[.slice x T.n c, .slice y T.z c'], .slice q l cq] K E s := by
  subst hl; exact c_Wrong hx hy hq h
theorem c_WorthL {x y q : Option Addr} {c c' cq l : Nat} {ds : List Int} (hl : l = ds.length) (hx : MnAt s x T.men) (hy : PzAt s y T.list) (hq : RowAt s q (ints ds)) (h : ∀ s' w cw, Ext s s' → Fr s.size s' w (worthR T ds).1.length cw 1 (ints (worthR T ds).1) → K (.tuple #[.slice w (worthR T ds).1.length cw, .int .i64 (worthR T ds).2.1, .int .i64 (worthR T ds).2.2]) s') :
    CALL Pg W F_prize_Worth [.agg #[.slice x T.n c, .slice y T.z c'], .slice q l cq] K E s := by
  subst hl; exact c_Worth hx hy hq h
end
theorem canC_no {T : PT} {k z : Nat} (hb : bestP T = (0, 0)) (h4 : (T.pz z).kind = 4) : canC T k z = false := by
  unfold canC canP canK
  rw [h4, hb]
  by_cases hc : (T.man k).club = 0 <;> simp [hc]
theorem canC_not4 {T : PT} {k z : Nat} (h4 : ¬ (T.pz z).kind = 4) : canC T k z = canP T k z := by
  unfold canC
  rw [decide_eq_true h4]; simp
theorem canC_4 {T : PT} {k z : Nat} (h4 : (T.pz z).kind = 4) : canC T k z = (canP T k z && ((T.man k).club == (bestP T).1)) := by
  unfold canC
  rw [h4]; simp
end Go.Proofs.Ytfaeokcbfnlgbaa.G

/- More of the functions' shallow texts, by gen.py. -/
set_option linter.unusedVariables false
set_option maxRecDepth 100000
namespace Go.Proofs.Ytfaeokcbfnlgbaa.G
open Go.V
def an_33 : Nat → Ann := fun b => match b with
  | 0 => { ms := [6, 7, 13], ks := [.i .i64, .i .i64, .i .i64], us := [1, 2, 4, 5, 11, 12, 60], rt := false, ex := [] }
  | _ => {}
abbrev rv_33 : List ResultVar := [.tmp 4, .tmp 5]
abbrev rs_33 : List Nat := [60, 4, 5]
def L_law13_sum_0 (W : World) (R : Ending → Hp → Prop) (zn0 : Int) (za1 : Addr) (zp2 : Option Addr) (zl3 : Nat) (zl4 : Nat) (zn5 : Int) (n12 : Int) (n13 : Int) (n14 : Int) : Hp → Prop :=
  LOOPN [.i .i64, .i .i64, .i .i64] (fun ys next s => ∀ j : Tm, vc Pg W 60 rs_33 an_33 false (sub (bodyOf Try.f33) [1, 1, 0, 1, 0, 0]) 0 (KLoop [6, 7, 13] [1, 2, 4, 5, 11, 12, 60] [(.int .i64 zn0), (.pointer (some za1)), (.int .i64 0), (.bool false), (.slice zp2 zl3 zl4), (.int .i64 zn5), (.tuple #[])] next (KBlk 0 (KS Pg W 60 rs_33 an_33 false (sub (bodyOf Try.f33) [1, 1, 1]) 0 (fin Pg W 60 rv_33 R)))) (known [6, 7, 13] ys (known [1, 2, 4, 5, 11, 12, 60] [(.int .i64 zn0), (.pointer (some za1)), (.int .i64 0), (.bool false), (.slice zp2 zl3 zl4), (.int .i64 zn5), (.tuple #[])] j)) s) [(.int .i64 n12), (.int .i64 n13), (.int .i64 n14)]
def J_law13_sum_0 (W : World) (R : Ending → Hp → Prop) (zn0 : Int) (za1 : Addr) (zp2 : Option Addr) (zl3 : Nat) (zl4 : Nat) (zn5 : Int) (nx0 : List Value → Hp → Prop) (n22 : Int) (n23 : Int) (n14 : Int) : Hp → Prop :=
  NX [(.int .i64 zn0), (.pointer (some za1)), (.int .i64 0), (.bool false), (.slice zp2 zl3 zl4), (.int .i64 zn5), (.tuple #[])] [(.int .i64 zn0), (.pointer (some za1)), (.int .i64 0), (.bool false), (.slice zp2 zl3 zl4), (.int .i64 zn5), (.tuple #[])] (nx0 [(.int .i64 n22), (.int .i64 n23), (.int .i64 (IntKind.wrap .i64 (n14 + 1)))])
def J_law13_sum_1 (W : World) (R : Ending → Hp → Prop) (b26 : Bool) (B20 : Nat) (zn0 : Int) (za1 : Addr) (zp2 : Option Addr) (zl3 : Nat) (zl4 : Nat) (zn5 : Int) (nx0 : List Value → Hp → Prop) (n12 : Int) (n14 : Int) (n13 : Int) : Hp → Prop :=
  BR b26
    (RDI .i64 (Addr.add ⟨B20, 0, none⟩ 0) fun n27 =>
      J_law13_sum_0 W R zn0 za1 zp2 zl3 zl4 zn5 nx0 n12 n27 n14)
    (J_law13_sum_0 W R zn0 za1 zp2 zl3 zl4 zn5 nx0 n12 n13 n14)
def J_law13_sum_2 (W : World) (R : Ending → Hp → Prop) (b24 : Bool) (B20 : Nat) (zn0 : Int) (za1 : Addr) (zp2 : Option Addr) (zl3 : Nat) (zl4 : Nat) (zn5 : Int) (nx0 : List Value → Hp → Prop) (n12 : Int) (n14 : Int) (n13 : Int) : Hp → Prop :=
  BR b24
    (RDI .i64 (Addr.add ⟨B20, 0, none⟩ 0) fun n25 =>
      J_law13_sum_0 W R zn0 za1 zp2 zl3 zl4 zn5 nx0 n25 n12 n14)
    (BR (n13 == 0)
      (J_law13_sum_1 W R true B20 zn0 za1 zp2 zl3 zl4 zn5 nx0 n12 n14 n13)
      (RDI .i64 (Addr.add ⟨B20, 0, none⟩ 0) fun n28 =>
        J_law13_sum_1 W R (decide (n28 < n13)) B20 zn0 za1 zp2 zl3 zl4 zn5 nx0 n12 n14 n13))
def J_law13_sum_3 (W : World) (R : Ending → Hp → Prop) (b30 : Bool) (za1 : Addr) (n12 : Int) (n13 : Int) : Hp → Prop :=
  BR b30
    (RDL (Addr.add za1 0) fun x31 l32 c33 =>
      R (.returned (.tuple #[(.int .i64 (IntKind.wrap .i64 (n12 + (IntKind.wrap .i64 ((↑l32 : Int) + 1))))), (.bool (n12 != 0))])))
    (R (.returned (.tuple #[(.int .i64 (IntKind.wrap .i64 (n12 + n13))), (.bool (n12 != 0))])))
def B_law13_sum_0 (W : World) (R : Ending → Hp → Prop) (zn0 : Int) (za1 : Addr) (zp2 : Option Addr) (zl3 : Nat) (zl4 : Nat) (zn5 : Int) (n12 : Int) (n13 : Int) (n14 : Int) (nx0 : List Value → Hp → Prop) : Hp → Prop :=
  BR (decide (n14 < zn5))
    (IXS zp2 zl3 n14 4 fun a15 =>
      RDI .i64 (Addr.add a15 0) fun n16 =>
        RDI .i64 (Addr.add a15 1) fun n17 =>
          RDB (Addr.add a15 2) fun b18 =>
            RDB (Addr.add a15 3) fun b19 =>
              NEWZ Pg 48 fun B20 =>
                WR (Addr.add ⟨B20, 0, none⟩ 0) (.int .i64 n16) <|
                  WR (Addr.add ⟨B20, 0, none⟩ 1) (.int .i64 n17) <|
                    WR (Addr.add ⟨B20, 0, none⟩ 2) (.bool b18) <|
                      WR (Addr.add ⟨B20, 0, none⟩ 3) (.bool b19) <|
                        RDI .i64 (Addr.add ⟨B20, 0, none⟩ 1) fun n21 =>
                          BR (n21 != zn0)
                            (J_law13_sum_0 W R zn0 za1 zp2 zl3 zl4 zn5 nx0 n12 n13 n14)
                            (BR (n12 == 0)
                              (J_law13_sum_2 W R true B20 zn0 za1 zp2 zl3 zl4 zn5 nx0 n12 n14 n13)
                              (RDI .i64 (Addr.add ⟨B20, 0, none⟩ 0) fun n29 =>
                                J_law13_sum_2 W R (decide (n29 < n12)) B20 zn0 za1 zp2 zl3 zl4 zn5 nx0 n12 n14 n13)))
    (BR (n12 != 0)
      (J_law13_sum_3 W R (n13 == 0) za1 n12 n13)
      (J_law13_sum_3 W R false za1 n12 n13))
theorem B_law13_sum_0_eq (W : World) (R : Ending → Hp → Prop) (zn0 : Int) (za1 : Addr) (zp2 : Option Addr) (zl3 : Nat) (zl4 : Nat) (zn5 : Int) (n12 : Int) (n13 : Int) (n14 : Int) (nx0 : List Value → Hp → Prop) (j : Tm) : vc Pg W 60 rs_33 an_33 false (sub (bodyOf Try.f33) [1, 1, 0, 1, 0, 0]) 0 (KLoop [6, 7, 13] [1, 2, 4, 5, 11, 12, 60] [(.int .i64 zn0), (.pointer (some za1)), (.int .i64 0), (.bool false), (.slice zp2 zl3 zl4), (.int .i64 zn5), (.tuple #[])] nx0 (KBlk 0 (KS Pg W 60 rs_33 an_33 false (sub (bodyOf Try.f33) [1, 1, 1]) 0 (fin Pg W 60 rv_33 R)))) (known [6, 7, 13] [(.int .i64 n12), (.int .i64 n13), (.int .i64 n14)] (known [1, 2, 4, 5, 11, 12, 60] [(.int .i64 zn0), (.pointer (some za1)), (.int .i64 0), (.bool false), (.slice zp2 zl3 zl4), (.int .i64 zn5), (.tuple #[])] j)) = B_law13_sum_0 W R zn0 za1 zp2 zl3 zl4 zn5 n12 n13 n14 nx0 := by kernel_rfl
def N_law13_sum_0 (I : Int → Int → Int → Hp → Prop) (μ : Int → Int → Int → Hp → Nat) (n120 : Int) (n130 : Int) (n140 : Int) (s : Hp) (vs : List Value) : Hp → Prop := fun s' => ∃ n12 n13 n14, vs = [(.int .i64 n12), (.int .i64 n13), (.int .i64 n14)] ∧ I n12 n13 n14 s' ∧ μ n12 n13 n14 s' < μ n120 n130 n140 s
theorem L_law13_sum_0_rule (W : World) (R : Ending → Hp → Prop) (zn0 : Int) (za1 : Addr) (zp2 : Option Addr) (zl3 : Nat) (zl4 : Nat) (zn5 : Int) (I : Int → Int → Int → Hp → Prop) (μ : Int → Int → Int → Hp → Nat) (n120 : Int) (n130 : Int) (n140 : Int) (s : Hp) (h0 : I n120 n130 n140 s)
    (hr : ∀ (n12 : Int) (n13 : Int) (n14 : Int) (s : Hp), I n12 n13 n14 s → B_law13_sum_0 W R zn0 za1 zp2 zl3 zl4 zn5 n12 n13 n14 (fun vs => N_law13_sum_0 I μ n12 n13 n14 s vs) s) : L_law13_sum_0 W R zn0 za1 zp2 zl3 zl4 zn5 n120 n130 n140 s := by
  refine ⟨fun vs s => ∃ n12 n13 n14, vs = [(.int .i64 n12), (.int .i64 n13), (.int .i64 n14)] ∧ I n12 n13 n14 s, fun vs s => (match vs with | [.int _ n12, .int _ n13, .int _ n14] => μ n12 n13 n14 s | _ => 0), ⟨⟨⟨_, rfl⟩, ⟨⟨_, rfl⟩, ⟨⟨_, rfl⟩, trivial⟩⟩⟩, ⟨_, _, _, rfl, h0⟩⟩, ?_⟩
  intro n12 n13 n14 s hI j
  obtain ⟨n12', n13', n14', hy, hI⟩ := hI
  have hI' : I n12 n13 n14 s := by cases hy; exact hI
  have hh := hr n12 n13 n14 s hI'
  rw [← B_law13_sum_0_eq W R zn0 za1 zp2 zl3 zl4 zn5 n12 n13 n14 _ j] at hh
  refine vc_mono ?_ _ _ hh
  exact KLoop_mono (fun vs s' h => by obtain ⟨n121, n131, n141, rfl, h1, h2⟩ := h; exact ⟨⟨⟨_, rfl⟩, ⟨⟨_, rfl⟩, ⟨⟨_, rfl⟩, trivial⟩⟩⟩, ⟨_, _, _, rfl, h1⟩, h2⟩)
def T_law13_sum (W : World) (x1 : Option Addr) (l2 : Nat) (c3 : Nat) (x4 : Option Addr) (l5 : Nat) (c6 : Nat) (n7 : Int) (R : Ending → Hp → Prop) : Hp → Prop :=
  NEW 25 [(.slice x1 l2 c3), (.slice x4 l5 c6)] fun B8 =>
    RDL (Addr.add ⟨B8, 0, none⟩ 0) fun x9 l10 c11 =>
      L_law13_sum_0 W R n7 ⟨B8, 0, none⟩ x9 l10 c11 (↑l10 : Int) 0 0 0
theorem T_law13_sum_eq (W : World) (x1 : Option Addr) (l2 : Nat) (c3 : Nat) (x4 : Option Addr) (l5 : Nat) (c6 : Nat) (n7 : Int) (R : Ending → Hp → Prop) : vfun Pg W an_33 Try.f33 [(.agg #[(.slice x1 l2 c3), (.slice x4 l5 c6)]), (.int .i64 n7)] R = T_law13_sum W x1 l2 c3 x4 l5 c6 n7 R := by kernel_rfl
theorem does_law13_sum (W : World) (x1 : Option Addr) (l2 : Nat) (c3 : Nat) (x4 : Option Addr) (l5 : Nat) (c6 : Nat) (n7 : Int) (R : Ending → Hp → Prop) (s : Hp) (h : T_law13_sum W x1 l2 c3 x4 l5 c6 n7 R s) : Does Pg W F_law13_sum #[(.agg #[(.slice x1 l2 c3), (.slice x4 l5 c6)]), (.int .i64 n7)] s R :=
  does_of_vfun Pg W an_33 Try.func33 rfl (by kernel_rfl) (by rw [T_law13_sum_eq]; exact h)
def an_34 : Nat → Ann := fun b => match b with
  | 0 => { ms := [7, 8, 17], ks := [.l, .i .i64, .i .i64], us := [1, 2, 3, 6, 16, 73], rt := false, ex := [] }
  | _ => {}
abbrev rv_34 : List ResultVar := [.tmp 6]
abbrev rs_34 : List Nat := [73, 6]
def L_law13_made_0 (W : World) (R : Ending → Hp → Prop) (zp0 : Option Addr) (zl1 : Nat) (zl2 : Nat) (zb3 : Bool) (za4 : Addr) (zn5 : Int) (x16 : Option Addr) (l17 : Nat) (c18 : Nat) (n19 : Int) (n20 : Int) : Hp → Prop :=
  LOOPN [.l, .i .i64, .i .i64] (fun ys next s => ∀ j : Tm, vc Pg W 73 rs_34 an_34 false (sub (bodyOf Try.f34) [1, 1, 1, 0, 1, 0, 0]) 0 (KLoop [7, 8, 17] [1, 2, 3, 6, 16, 73] [(.slice zp0 zl1 zl2), (.bool zb3), (.pointer (some za4)), (.slice none 0 0), (.int .i64 zn5), (.tuple #[])] next (KBlk 0 (KS Pg W 73 rs_34 an_34 false (sub (bodyOf Try.f34) [1, 1, 1, 1]) 0 (fin Pg W 73 rv_34 R)))) (known [7, 8, 17] ys (known [1, 2, 3, 6, 16, 73] [(.slice zp0 zl1 zl2), (.bool zb3), (.pointer (some za4)), (.slice none 0 0), (.int .i64 zn5), (.tuple #[])] j)) s) [(.slice x16 l17 c18), (.int .i64 n19), (.int .i64 n20)]
def J_law13_made_0 (W : World) (R : Ending → Hp → Prop) (n43 : Int) (x16 : Option Addr) (l17 : Nat) (c18 : Nat) (zp0 : Option Addr) (zl1 : Nat) (zl2 : Nat) (zb3 : Bool) (za4 : Addr) (zn5 : Int) (nx0 : List Value → Hp → Prop) (n44 : Int) (n20 : Int) : Hp → Prop :=
  NEW 3 [(.int .i64 n43)] fun B45 =>
    APP Pg 3 1 x16 l17 c18 (some ⟨B45, 0, none⟩) 1 fun x46 l47 c48 =>
      NX [(.slice zp0 zl1 zl2), (.bool zb3), (.pointer (some za4)), (.slice none 0 0), (.int .i64 zn5), (.tuple #[])] [(.slice zp0 zl1 zl2), (.bool zb3), (.pointer (some za4)), (.slice none 0 0), (.int .i64 zn5), (.tuple #[])] (nx0 [(.slice x46 l47 c48), (.int .i64 n44), (.int .i64 (IntKind.wrap .i64 (n20 + 1)))])
def J_law13_made_1 (W : World) (R : Ending → Hp → Prop) (n43 : Int) (x16 : Option Addr) (l17 : Nat) (c18 : Nat) (zp0 : Option Addr) (zl1 : Nat) (zl2 : Nat) (zb3 : Bool) (za4 : Addr) (zn5 : Int) (nx0 : List Value → Hp → Prop) (n19 : Int) (n20 : Int) : Hp → Prop :=
  BR (decide (n43 ≥ 0))
    (NNI n43 <|
      J_law13_made_0 W R n43 x16 l17 c18 zp0 zl1 zl2 zb3 za4 zn5 nx0 (orv .i64 n19 (shlv .i64 1 n43)) n20)
    (J_law13_made_0 W R n43 x16 l17 c18 zp0 zl1 zl2 zb3 za4 zn5 nx0 n19 n20)
def J_law13_made_2 (W : World) (R : Ending → Hp → Prop) (b42 : Bool) (x16 : Option Addr) (l17 : Nat) (c18 : Nat) (zp0 : Option Addr) (zl1 : Nat) (zl2 : Nat) (zb3 : Bool) (za4 : Addr) (zn5 : Int) (nx0 : List Value → Hp → Prop) (n19 : Int) (n20 : Int) (n26 : Int) : Hp → Prop :=
  BR b42
    (J_law13_made_1 W R (-1) x16 l17 c18 zp0 zl1 zl2 zb3 za4 zn5 nx0 n19 n20)
    (J_law13_made_1 W R n26 x16 l17 c18 zp0 zl1 zl2 zb3 za4 zn5 nx0 n19 n20)
def J_law13_made_3 (W : World) (R : Ending → Hp → Prop) (n26 : Int) (za4 : Addr) (n20 : Int) (n19 : Int) (x16 : Option Addr) (l17 : Nat) (c18 : Nat) (zp0 : Option Addr) (zl1 : Nat) (zl2 : Nat) (zb3 : Bool) (zn5 : Int) (nx0 : List Value → Hp → Prop) : Hp → Prop :=
  BR (decide (n26 ≥ 0))
    (RDL (Addr.add za4 0) fun x27 l28 c29 =>
      RDL (Addr.add za4 1) fun x30 l31 c32 =>
        CALL Pg W F_prize_Can [(.agg #[(.slice x27 l28 c29), (.slice x30 l31 c32)]), (.int .i64 n26), (.int .i64 n20)]
          (fun v33 => TUP v33 fun q35 => HD q35 fun v36 r37 => TYB v36 fun b38 =>
            HD r37 fun v39 r40 => TYI .i64 v39 fun n41 =>
              NL r40 <|
                NNI n26 <|
                  BR ((andv .i64 (shrv .i64 n19 n26) 1) == 1)
                    (J_law13_made_2 W R true x16 l17 c18 zp0 zl1 zl2 zb3 za4 zn5 nx0 n19 n20 n26)
                    (BR zb3
                      (J_law13_made_2 W R (!b38) x16 l17 c18 zp0 zl1 zl2 zb3 za4 zn5 nx0 n19 n20 n26)
                      (J_law13_made_2 W R false x16 l17 c18 zp0 zl1 zl2 zb3 za4 zn5 nx0 n19 n20 n26)))
            (fun e34 => R (.panicked e34)))
    (J_law13_made_1 W R n26 x16 l17 c18 zp0 zl1 zl2 zb3 za4 zn5 nx0 n19 n20)
def B_law13_made_0 (W : World) (R : Ending → Hp → Prop) (zp0 : Option Addr) (zl1 : Nat) (zl2 : Nat) (zb3 : Bool) (za4 : Addr) (zn5 : Int) (x16 : Option Addr) (l17 : Nat) (c18 : Nat) (n19 : Int) (n20 : Int) (nx0 : List Value → Hp → Prop) : Hp → Prop :=
  BR (decide (n20 < zn5))
    (BR (decide ((↑zl1 : Int) > 0))
      (NZI (↑zl1 : Int) <|
        IXS zp0 zl1 (Int.tmod n20 (↑zl1 : Int)) 1 fun a21 =>
          RDI .u8 a21 fun n22 =>
            RDL (Addr.add za4 0) fun x23 l24 c25 =>
              NZI (IntKind.wrap .i64 ((↑l24 : Int) + 1)) <|
                J_law13_made_3 W R (IntKind.wrap .i64 ((Int.tmod (IntKind.wrap .i64 ((IntKind.wrap .i64 n22) + (IntKind.wrap .i64 (5 * n20)))) (IntKind.wrap .i64 ((↑l24 : Int) + 1))) - 1)) za4 n20 n19 x16 l17 c18 zp0 zl1 zl2 zb3 zn5 nx0)
      (J_law13_made_3 W R (-1) za4 n20 n19 x16 l17 c18 zp0 zl1 zl2 zb3 zn5 nx0))
    (R (.returned (.slice x16 l17 c18)))
theorem B_law13_made_0_eq (W : World) (R : Ending → Hp → Prop) (zp0 : Option Addr) (zl1 : Nat) (zl2 : Nat) (zb3 : Bool) (za4 : Addr) (zn5 : Int) (x16 : Option Addr) (l17 : Nat) (c18 : Nat) (n19 : Int) (n20 : Int) (nx0 : List Value → Hp → Prop) (j : Tm) : vc Pg W 73 rs_34 an_34 false (sub (bodyOf Try.f34) [1, 1, 1, 0, 1, 0, 0]) 0 (KLoop [7, 8, 17] [1, 2, 3, 6, 16, 73] [(.slice zp0 zl1 zl2), (.bool zb3), (.pointer (some za4)), (.slice none 0 0), (.int .i64 zn5), (.tuple #[])] nx0 (KBlk 0 (KS Pg W 73 rs_34 an_34 false (sub (bodyOf Try.f34) [1, 1, 1, 1]) 0 (fin Pg W 73 rv_34 R)))) (known [7, 8, 17] [(.slice x16 l17 c18), (.int .i64 n19), (.int .i64 n20)] (known [1, 2, 3, 6, 16, 73] [(.slice zp0 zl1 zl2), (.bool zb3), (.pointer (some za4)), (.slice none 0 0), (.int .i64 zn5), (.tuple #[])] j)) = B_law13_made_0 W R zp0 zl1 zl2 zb3 za4 zn5 x16 l17 c18 n19 n20 nx0 := by kernel_rfl
def N_law13_made_0 (I : Option Addr → Nat → Nat → Int → Int → Hp → Prop) (μ : Option Addr → Nat → Nat → Int → Int → Hp → Nat) (x160 : Option Addr) (l170 : Nat) (c180 : Nat) (n190 : Int) (n200 : Int) (s : Hp) (vs : List Value) : Hp → Prop := fun s' => ∃ x16 l17 c18 n19 n20, vs = [(.slice x16 l17 c18), (.int .i64 n19), (.int .i64 n20)] ∧ I x16 l17 c18 n19 n20 s' ∧ μ x16 l17 c18 n19 n20 s' < μ x160 l170 c180 n190 n200 s
theorem L_law13_made_0_rule (W : World) (R : Ending → Hp → Prop) (zp0 : Option Addr) (zl1 : Nat) (zl2 : Nat) (zb3 : Bool) (za4 : Addr) (zn5 : Int) (I : Option Addr → Nat → Nat → Int → Int → Hp → Prop) (μ : Option Addr → Nat → Nat → Int → Int → Hp → Nat) (x160 : Option Addr) (l170 : Nat) (c180 : Nat) (n190 : Int) (n200 : Int) (s : Hp) (h0 : I x160 l170 c180 n190 n200 s)
    (hr : ∀ (x16 : Option Addr) (l17 : Nat) (c18 : Nat) (n19 : Int) (n20 : Int) (s : Hp), I x16 l17 c18 n19 n20 s → B_law13_made_0 W R zp0 zl1 zl2 zb3 za4 zn5 x16 l17 c18 n19 n20 (fun vs => N_law13_made_0 I μ x16 l17 c18 n19 n20 s vs) s) : L_law13_made_0 W R zp0 zl1 zl2 zb3 za4 zn5 x160 l170 c180 n190 n200 s := by
  refine ⟨fun vs s => ∃ x16 l17 c18 n19 n20, vs = [(.slice x16 l17 c18), (.int .i64 n19), (.int .i64 n20)] ∧ I x16 l17 c18 n19 n20 s, fun vs s => (match vs with | [.slice x16 l17 c18, .int _ n19, .int _ n20] => μ x16 l17 c18 n19 n20 s | _ => 0), ⟨⟨⟨_, _, _, rfl⟩, ⟨⟨_, rfl⟩, ⟨⟨_, rfl⟩, trivial⟩⟩⟩, ⟨_, _, _, _, _, rfl, h0⟩⟩, ?_⟩
  intro x16 l17 c18 n19 n20 s hI j
  obtain ⟨x16', l17', c18', n19', n20', hy, hI⟩ := hI
  have hI' : I x16 l17 c18 n19 n20 s := by cases hy; exact hI
  have hh := hr x16 l17 c18 n19 n20 s hI'
  rw [← B_law13_made_0_eq W R zp0 zl1 zl2 zb3 za4 zn5 x16 l17 c18 n19 n20 _ j] at hh
  refine vc_mono ?_ _ _ hh
  exact KLoop_mono (fun vs s' h => by obtain ⟨x161, l171, c181, n191, n201, rfl, h1, h2⟩ := h; exact ⟨⟨⟨_, _, _, rfl⟩, ⟨⟨_, rfl⟩, ⟨⟨_, rfl⟩, trivial⟩⟩⟩, ⟨_, _, _, _, _, rfl, h1⟩, h2⟩)
def T_law13_made (W : World) (x1 : Option Addr) (l2 : Nat) (c3 : Nat) (x4 : Option Addr) (l5 : Nat) (c6 : Nat) (x7 : Option Addr) (l8 : Nat) (c9 : Nat) (b10 : Bool) (R : Ending → Hp → Prop) : Hp → Prop :=
  NEW 25 [(.slice x1 l2 c3), (.slice x4 l5 c6)] fun B11 =>
    NEW 3 [] fun B12 =>
      RDL (Addr.add ⟨B11, 0, none⟩ 1) fun x13 l14 c15 =>
        L_law13_made_0 W R x7 l8 c9 b10 ⟨B11, 0, none⟩ (↑l14 : Int) (some ⟨B12, 0, none⟩) 0 0 0 0
theorem T_law13_made_eq (W : World) (x1 : Option Addr) (l2 : Nat) (c3 : Nat) (x4 : Option Addr) (l5 : Nat) (c6 : Nat) (x7 : Option Addr) (l8 : Nat) (c9 : Nat) (b10 : Bool) (R : Ending → Hp → Prop) : vfun Pg W an_34 Try.f34 [(.agg #[(.slice x1 l2 c3), (.slice x4 l5 c6)]), (.slice x7 l8 c9), (.bool b10)] R = T_law13_made W x1 l2 c3 x4 l5 c6 x7 l8 c9 b10 R := by kernel_rfl
theorem does_law13_made (W : World) (x1 : Option Addr) (l2 : Nat) (c3 : Nat) (x4 : Option Addr) (l5 : Nat) (c6 : Nat) (x7 : Option Addr) (l8 : Nat) (c9 : Nat) (b10 : Bool) (R : Ending → Hp → Prop) (s : Hp) (h : T_law13_made W x1 l2 c3 x4 l5 c6 x7 l8 c9 b10 R s) : Does Pg W F_law13_made #[(.agg #[(.slice x1 l2 c3), (.slice x4 l5 c6)]), (.slice x7 l8 c9), (.bool b10)] s R :=
  does_of_vfun Pg W an_34 Try.func34 rfl (by kernel_rfl) (by rw [T_law13_made_eq]; exact h)
def an_39 : Nat → Ann := fun b => match b with
  | 0 => { ms := [8], ks := [.i .i64], us := [6, 7, 16], rt := false, ex := [] }
  | _ => {}
abbrev rv_39 : List ResultVar := [.tmp 2]
abbrev rs_39 : List Nat := [16, 2]
def L_law13_hasClub_0 (W : World) (R : Ending → Hp → Prop) (zp0 : Option Addr) (zl1 : Nat) (zl2 : Nat) (zn3 : Int) (n11 : Int) : Hp → Prop :=
  LOOPN [.i .i64] (fun ys next s => ∀ j : Tm, vc Pg W 16 rs_39 an_39 false (sub (bodyOf Try.f39) [1, 0, 1, 0, 0]) 0 (KLoop [8] [6, 7, 16] [(.slice zp0 zl1 zl2), (.int .i64 zn3), (.tuple #[])] next (KBlk 0 (KS Pg W 16 rs_39 an_39 false (sub (bodyOf Try.f39) [1, 1]) 0 (fin Pg W 16 rv_39 R)))) (known [8] ys (known [6, 7, 16] [(.slice zp0 zl1 zl2), (.int .i64 zn3), (.tuple #[])] j)) s) [(.int .i64 n11)]
def B_law13_hasClub_0 (W : World) (R : Ending → Hp → Prop) (zp0 : Option Addr) (zl1 : Nat) (zl2 : Nat) (zn3 : Int) (n11 : Int) (nx0 : List Value → Hp → Prop) : Hp → Prop :=
  BR (decide (n11 < zn3))
    (IXS zp0 zl1 n11 2 fun a12 =>
      RDI .i64 (Addr.add a12 0) fun n13 =>
        RDI .i64 (Addr.add a12 1) fun n14 =>
          NEWZ Pg 50 fun B15 =>
            WR (Addr.add ⟨B15, 0, none⟩ 0) (.int .i64 n13) <|
              WR (Addr.add ⟨B15, 0, none⟩ 1) (.int .i64 n14) <|
                RDI .i64 (Addr.add ⟨B15, 0, none⟩ 0) fun n16 =>
                  BR (n16 == 4)
                    (R (.returned (.bool true)))
                    (NX [(.slice zp0 zl1 zl2), (.int .i64 zn3), (.tuple #[])] [(.slice zp0 zl1 zl2), (.int .i64 zn3), (.tuple #[])] (nx0 [(.int .i64 (IntKind.wrap .i64 (n11 + 1)))])))
    (R (.returned (.bool false)))
theorem B_law13_hasClub_0_eq (W : World) (R : Ending → Hp → Prop) (zp0 : Option Addr) (zl1 : Nat) (zl2 : Nat) (zn3 : Int) (n11 : Int) (nx0 : List Value → Hp → Prop) (j : Tm) : vc Pg W 16 rs_39 an_39 false (sub (bodyOf Try.f39) [1, 0, 1, 0, 0]) 0 (KLoop [8] [6, 7, 16] [(.slice zp0 zl1 zl2), (.int .i64 zn3), (.tuple #[])] nx0 (KBlk 0 (KS Pg W 16 rs_39 an_39 false (sub (bodyOf Try.f39) [1, 1]) 0 (fin Pg W 16 rv_39 R)))) (known [8] [(.int .i64 n11)] (known [6, 7, 16] [(.slice zp0 zl1 zl2), (.int .i64 zn3), (.tuple #[])] j)) = B_law13_hasClub_0 W R zp0 zl1 zl2 zn3 n11 nx0 := by kernel_rfl
def N_law13_hasClub_0 (I : Int → Hp → Prop) (μ : Int → Hp → Nat) (n110 : Int) (s : Hp) (vs : List Value) : Hp → Prop := fun s' => ∃ n11, vs = [(.int .i64 n11)] ∧ I n11 s' ∧ μ n11 s' < μ n110 s
theorem L_law13_hasClub_0_rule (W : World) (R : Ending → Hp → Prop) (zp0 : Option Addr) (zl1 : Nat) (zl2 : Nat) (zn3 : Int) (I : Int → Hp → Prop) (μ : Int → Hp → Nat) (n110 : Int) (s : Hp) (h0 : I n110 s)
    (hr : ∀ (n11 : Int) (s : Hp), I n11 s → B_law13_hasClub_0 W R zp0 zl1 zl2 zn3 n11 (fun vs => N_law13_hasClub_0 I μ n11 s vs) s) : L_law13_hasClub_0 W R zp0 zl1 zl2 zn3 n110 s := by
  refine ⟨fun vs s => ∃ n11, vs = [(.int .i64 n11)] ∧ I n11 s, fun vs s => (match vs with | [.int _ n11] => μ n11 s | _ => 0), ⟨⟨⟨_, rfl⟩, trivial⟩, ⟨_, rfl, h0⟩⟩, ?_⟩
  intro n11 s hI j
  obtain ⟨n11', hy, hI⟩ := hI
  have hI' : I n11 s := by cases hy; exact hI
  have hh := hr n11 s hI'
  rw [← B_law13_hasClub_0_eq W R zp0 zl1 zl2 zn3 n11 _ j] at hh
  refine vc_mono ?_ _ _ hh
  exact KLoop_mono (fun vs s' h => by obtain ⟨n111, rfl, h1, h2⟩ := h; exact ⟨⟨⟨_, rfl⟩, trivial⟩, ⟨_, rfl, h1⟩, h2⟩)
def T_law13_hasClub (W : World) (x1 : Option Addr) (l2 : Nat) (c3 : Nat) (x4 : Option Addr) (l5 : Nat) (c6 : Nat) (R : Ending → Hp → Prop) : Hp → Prop :=
  NEW 25 [(.slice x1 l2 c3), (.slice x4 l5 c6)] fun B7 =>
    RDL (Addr.add ⟨B7, 0, none⟩ 1) fun x8 l9 c10 =>
      L_law13_hasClub_0 W R x8 l9 c10 (↑l9 : Int) 0
theorem T_law13_hasClub_eq (W : World) (x1 : Option Addr) (l2 : Nat) (c3 : Nat) (x4 : Option Addr) (l5 : Nat) (c6 : Nat) (R : Ending → Hp → Prop) : vfun Pg W an_39 Try.f39 [(.agg #[(.slice x1 l2 c3), (.slice x4 l5 c6)])] R = T_law13_hasClub W x1 l2 c3 x4 l5 c6 R := by kernel_rfl
theorem does_law13_hasClub (W : World) (x1 : Option Addr) (l2 : Nat) (c3 : Nat) (x4 : Option Addr) (l5 : Nat) (c6 : Nat) (R : Ending → Hp → Prop) (s : Hp) (h : T_law13_hasClub W x1 l2 c3 x4 l5 c6 R s) : Does Pg W F_law13_hasClub #[(.agg #[(.slice x1 l2 c3), (.slice x4 l5 c6)])] s R :=
  does_of_vfun Pg W an_39 Try.func39 rfl (by kernel_rfl) (by rw [T_law13_hasClub_eq]; exact h)
end Go.Proofs.Ytfaeokcbfnlgbaa.G

/- Prize: a giving by remainders. -/
set_option linter.unusedSimpArgs false
set_option linter.unusedVariables false
set_option maxRecDepth 20000
namespace Go.Proofs.Ytfaeokcbfnlgbaa.G
open Go.V
def mkV (T : PT) (bs : List Nat) (k : Nat) : Nat := if bs.length = 0 then 0 else (bs.getD (k % bs.length) 0 + 5 * k) % (T.n + 1)
def mkM (T : PT) (bs : List Nat) (k : Nat) : Option Nat := match mkV T bs k with | 0 => none | v + 1 => some v
def mkO (T : PT) (bs : List Nat) (fair : Bool) (k : Nat) (g : List (Option Nat)) : Option Nat := match mkM T bs k with | none => none | some m => if tkF g m || (fair && !canP T m k) then none else some m
def madeL (T : PT) (bs : List Nat) (fair : Bool) : Nat → List (Option Nat)
  | 0 => []
  | k + 1 => madeL T bs fair k ++ [mkO T bs fair k (madeL T bs fair k)]
theorem madeL_len (T : PT) (bs : List Nat) (fair : Bool) : ∀ k, (madeL T bs fair k).length = k
  | 0 => rfl
  | k + 1 => by show (madeL T bs fair k ++ _).length = _; rw [List.length_append, madeL_len T bs fair k]; rfl
theorem mkV_lt (T : PT) (bs : List Nat) (k : Nat) : mkV T bs k < T.n + 1 := by
  unfold mkV
  split
  · omega
  · exact Nat.mod_lt _ (by omega)
theorem mkM_man (T : PT) (bs : List Nat) (k : Nat) : manI (mkM T bs k) = (mkV T bs k : Int) - 1 := by
  unfold mkM
  cases mkV T bs k with
  | zero => rfl
  | succ v => show ((v : Nat) : Int) = ((v + 1 : Nat) : Int) - 1; omega
theorem mkM_lt {T : PT} {bs : List Nat} {k m : Nat} (h : mkM T bs k = some m) : m < T.n := by
  have h1 := mkV_lt T bs k
  have h2 := mkM_man T bs k
  rw [h] at h2
  have h2 : ((m : Nat) : Int) = _ := h2
  omega
theorem mkO_some {T : PT} {bs : List Nat} {fair : Bool} {k m : Nat} {g : List (Option Nat)} (h : mkO T bs fair k g = some m) : m < T.n ∧ tkF g m = false ∧ (fair = true → canP T m k = true) := by
  unfold mkO at h
  split at h
  · cases h
  · rename_i q hq
    split at h
    · cases h
    · rename_i hn
      cases h
      simp only [Bool.or_eq_true, not_or, Bool.not_eq_true] at hn
      refine ⟨mkM_lt hq, hn.1, fun hf => ?_⟩
      have h2 := hn.2
      rw [hf] at h2
      simpa using h2
theorem made_okG (T : PT) (bs : List Nat) (fair : Bool) : ∀ k, OkG T (madeL T bs fair k)
  | 0 => OkG.nil T
  | k + 1 => (made_okG T bs fair k).snoc fun m hm => ⟨(mkO_some hm).1, (mkO_some hm).2.1⟩
theorem made_can (T : PT) (bs : List Nat) : ∀ (k i m : Nat), (madeL T bs true k)[i]? = some (some m) → canP T m i = true
  | 0, i, m, h => by simp [madeL] at h
  | k + 1, i, m, h => by
    have hl := madeL_len T bs true k
    have h' : (madeL T bs true k ++ [mkO T bs true k (madeL T bs true k)])[i]? = some (some m) := h
    by_cases e : i < k
    · rw [List.getElem?_append_left (by omega)] at h'
      exact made_can T bs k i m h'
    · rw [List.getElem?_append_right (by omega)] at h'
      have hlt := (List.getElem?_eq_some_iff.1 h').1
      have hik : i - (madeL T bs true k).length = 0 := by simpa using hlt
      rw [hik] at h'
      have hi : i = k := by omega
      have : mkO T bs true k (madeL T bs true k) = some m := by simpa using h'
      rw [hi]
      exact (mkO_some this).2.2 rfl
theorem row_byte {s : Hp} {y : Option Addr} {bs : List Nat} {k : Nat} (hy : RowAt s y (bytes bs)) (hk : k < bs.length) : ∃ a, y = some a ∧ cellAt s (a.add (k * 1)) = some (.int .u8 ((bs.getD k 0 : Nat) : Int)) := by
  have hkv : k < (bytes bs).length := by rw [bytes_len]; exact hk
  obtain ⟨a, ha, g⟩ := hy k hkv
  rw [bytes_get hkv] at g
  rw [getD_lt hk]
  exact ⟨a, ha, g⟩
theorem tmodN (a b : Nat) : Int.tmod (a : Int) (b : Int) = ((a % b : Nat) : Int) := rfl
section
variable {W : World} {K : VK} {E : List PanicEntry → Hp → Prop} {s : Hp} {T : PT}
theorem w_made {x y q : Option Addr} {c c' cq : Nat} {bs : List Nat} {fair : Bool} (hok : okP T = true) (hx : MnAt s x T.men) (hy : PzAt s y T.list) (hq : RowAt s q (bytes bs)) (h256 : ∀ b ∈ bs, b < 256) (h : ∀ s' w cw, Ext s s' → Fr s.size s' w T.z cw 1 (ints (manL (madeL T bs fair T.z))) → K (.slice w T.z cw) s') :
    CALL Pg W F_law13_made [.agg #[.slice x T.n c, .slice y T.z c'], .slice q bs.length cq, .bool fair] K E s := by
  have hv := okP_vd hok
  have h8 := hv.n8
  have h6 := hv.z6
  refine does_law13_made W x T.n c y T.z c' q bs.length cq fair _ s ?_
  unfold T_law13_made
  refine ne2 fun s1 e1 z1 o1 o2 => ?_
  refine NEW_rule fun s2 e2 z2 _ _ => ?_
  refine ⟨_, _, _, e2.cell o2.cell, ?_⟩
  refine L_law13_made_0_rule W _ q bs.length cq fair ⟨s.size, 0, none⟩ T.z (fun x l c n19 n20 t => Ext s1 t ∧ ∃ k : Nat, k ≤ T.z ∧ n20 = k ∧ n19 = (setK (tkF (madeL T bs fair k)) 8 : Nat) ∧ Fr s1.size t x l c 1 (ints (manL (madeL T bs fair k)))) (fun _ _ _ _ n20 _ => ((T.z : Int) - n20).toNat) (some ⟨s1.size, 0, none⟩) 0 0 0 0 s2
    ⟨e2, 0, by omega, rfl, ?_, ⟨⟨Nat.le_refl _, fun i hi => (by omega)⟩, rfl, fun a ha => (by cases ha; exact Nat.le_refl _), by omega⟩⟩ ?_
  · have : tkF (madeL T bs fair 0) = fun _ => false := by funext m; simp [tkF, madeL]
    rw [this, setK_zero]; rfl
  rintro x16 l17 c18 n19 n20 t ⟨et, k, hk, rfl, rfl, hfr⟩
  unfold B_law13_made_0
  have e0t := e1.trans et
  have hl17 : l17 = k := by
    have := hfr.len
    rw [ints_len] at this
    unfold manL at this
    rw [List.length_map, madeL_len] at this
    omega
  refine BR_dec (fun hlt => ?_) (fun hlt => ?_)
  · have hkz : k < T.z := by omega
    generalize hg : madeL T bs fair k = g at *
    have hstep : madeL T bs fair (k + 1) = g ++ [mkO T bs fair k g] := by
      show madeL T bs fair k ++ [mkO T bs fair k (madeL T bs fair k)] = _
      rw [hg]
    generalize hnx : (fun vs => N_law13_made_0 _ _ _ _ _ _ _ t vs) = nx
    have J1 : ∀ (t' : Hp), Ext t t' → J_law13_made_1 W (endK K E) (manI (mkO T bs fair k g)) x16 l17 c18 q bs.length cq fair ⟨s.size, 0, none⟩ T.z nx (setK (tkF g) 8 : Nat) k t' := by
      intro t' et'
      have J0 : ∀ n44 : Int, n44 = (setK (tkF (g ++ [mkO T bs fair k g])) 8 : Nat) → J_law13_made_0 W (endK K E) (manI (mkO T bs fair k g)) x16 l17 c18 q bs.length cq fair ⟨s.size, 0, none⟩ T.z nx n44 k t' := by
        intro n44 hn
        unfold J_law13_made_0
        refine ne1 fun t3 f3 y3 q3 => ?_
        have et3 := et.trans (et'.trans f3)
        refine APP_fr (lo := s1.size) (hfr.ext (et'.trans f3)) et3.1 (ws := [.int .i64 (manI (mkO T bs fair k g))]) (fun i hi => ⟨⟨t'.size, 0, none⟩, rfl, ?_⟩) rfl zc_3 rfl (by omega) (by simp [oneCell]) (by omega) fun t4 x4 c4 k4 hx4 g4 => ?_
        · have hi0 : i = 0 := by simp at hi; omega
          subst hi0; exact q3.cell
        have e4 : Ext s1 t4 := kp_nil et3 (fun b hb => by obtain ⟨y, hy, rfl⟩ := hb; exact hfr.fr y hy) k4
        rw [← hnx]
        refine ⟨rfl, _, _, _, _, _, rfl, ⟨e4, k + 1, hkz, wrap_succ (by omega), ?_, ?_⟩, ms_succ hkz (by omega)⟩
        · rw [hstep]; exact hn
        · rw [hstep, manL_app, ints_app]; exact g4
      unfold J_law13_made_1
      cases ho : mkO T bs fair k g with
      | none =>
        rw [ho] at J0
        refine BR_ff (decide_eq_false (by show ¬ (-1 : Int) ≥ 0; omega)) ?_
        exact J0 _ (by rw [tkF_none])
      | some m =>
        rw [ho] at J0
        obtain ⟨g1, g2, _⟩ := mkO_some ho
        refine BR_tt (decide_eq_true (by show ((m : Nat) : Int) ≥ 0; omega)) ?_
        refine NNI_of (by show 0 ≤ ((m : Nat) : Int); omega) ?_
        refine J0 _ ?_
        rw [tkF_some]
        exact bit_put (by omega) g2
    have J3 : ∀ n26 : Int, n26 = manI (mkM T bs k) → J_law13_made_3 W (endK K E) n26 ⟨s.size, 0, none⟩ k (setK (tkF g) 8 : Nat) x16 l17 c18 q bs.length cq fair T.z nx t := by
      intro n26 hn
      subst hn
      unfold J_law13_made_3
      cases hm : mkM T bs k with
      | none =>
        refine BR_ff (decide_eq_false (by show ¬ (-1 : Int) ≥ 0; omega)) ?_
        have : mkO T bs fair k g = none := by unfold mkO; rw [hm]
        have j := J1 t (Ext.refl _)
        rw [this] at j
        exact j
      | some m =>
        have hmn := mkM_lt hm
        refine BR_tt (decide_eq_true (by show ((m : Nat) : Int) ≥ 0; omega)) ?_
        refine ⟨_, _, _, et.cell o1.cell, _, _, _, et.cell o2.cell, ?_⟩
        refine c_CanV hok hmn hkz (hx.ext e0t) (hy.ext e0t) fun t1 f1 => ?_
        try simp only [TUP_mk, AGG_mk, HD_mk, NL_mk, TYI_mk, TYB_mk, TYP_mk, TYL_mk, TYS_mk, TYM_mk, SO_mk, NX_mk, endK_mk, endK_mk', add_0]
        refine NNI_of (by show 0 ≤ ((m : Nat) : Int); omega) ?_
        have hbit := bit_is (tkF g) (i := m) (by omega)
        have hO : mkO T bs fair k g = if tkF g m || (fair && !canP T m k) then none else some m := by unfold mkO; rw [hm]
        have j := J1 t1 f1
        refine (fun hh => by rw [show (andv .i64 (shrv .i64 ((setK (tkF g) 8 : Nat) : Int) (manI (some m))) 1 == 1) = tkF g m from hbit]; exact hh : BR (tkF g m) _ _ t1 → BR (andv .i64 (shrv .i64 ((setK (tkF g) 8 : Nat) : Int) (manI (some m))) 1 == 1) _ _ t1) ?_
        cases ht : tkF g m with
        | true =>
          rw [ht] at hO
          rw [hO] at j
          refine BR_tt rfl ?_
          unfold J_law13_made_2
          exact BR_tt rfl j
        | false =>
          rw [ht] at hO
          refine BR_ff rfl ?_
          unfold J_law13_made_2
          cases hf : fair with
          | true =>
            subst hf
            refine BR_tt rfl ?_
            cases hc : canP T m k with
            | true => rw [hc] at hO; rw [hO] at j; exact BR_ff rfl j
            | false => rw [hc] at hO; rw [hO] at j; exact BR_tt rfl j
          | false =>
            subst hf
            rw [hO] at j
            exact BR_ff rfl (BR_ff rfl j)
    refine BR_dec (fun hb => ?_) (fun hb => ?_)
    · have hb0 : 0 < bs.length := by omega
      refine NZI_pos (by omega) ?_
      have hmod : k % bs.length < bs.length := Nat.mod_lt _ hb0
      obtain ⟨a, ha, g1⟩ := row_byte (hq.ext e0t) hmod
      rw [tmodN]
      refine IXS_at ha hmod ?_
      refine ⟨_, g1, ?_⟩
      refine ⟨_, _, _, et.cell o1.cell, ?_⟩
      have hw1 : IntKind.i64.wrap ((T.n : Int) + 1) = ((T.n + 1 : Nat) : Int) := wrap_succ (by omega)
      dsimp only
      rw [hw1]
      refine NZI_pos (by omega) ?_
      refine J3 _ ?_
      have hb2 : bs.getD (k % bs.length) 0 < 256 := by
        rw [getD_lt hmod]
        exact h256 _ (List.getElem_mem hmod)
      rw [mkM_man]
      have hV : mkV T bs k = (bs.getD (k % bs.length) 0 + 5 * k) % (T.n + 1) := by unfold mkV; rw [if_neg (by omega)]
      have hVlt := mkV_lt T bs k
      generalize hB : bs.getD (k % bs.length) 0 = B at *
      have w1 : IntKind.i64.wrap (B : Int) = (B : Int) := wrap_i64 (by omega) (by omega)
      have w2 : IntKind.i64.wrap (5 * (k : Int)) = ((5 * k : Nat) : Int) := by rw [wrap_i64 (by omega) (by omega)]; omega
      have w3 : IntKind.i64.wrap ((B : Int) + ((5 * k : Nat) : Int)) = ((B + 5 * k : Nat) : Int) := by rw [wrap_i64 (by omega) (by omega)]; omega
      rw [w1, w2, w3, tmodN, ← hV, wrap_i64 (by omega) (by omega)]
    · have hb0 : bs.length = 0 := by omega
      refine J3 _ ?_
      unfold mkM mkV
      rw [if_pos hb0]
      rfl
  · have hkz : k = T.z := by omega
    subst hkz
    subst hl17
    exact h t x16 c18 e0t (hfr.le e1.1)
end
end Go.Proofs.Ytfaeokcbfnlgbaa.G

/- Prize: plain: the most prizes. -/
set_option linter.unusedSimpArgs false
set_option linter.unusedVariables false
set_option maxRecDepth 20000
namespace Go.Proofs.Ytfaeokcbfnlgbaa.G
open Go.V
theorem bestG_legit (T : PT) : ∀ (r z : Nat) (f : Nat → Bool), Legit T r z f (bestG T r z f)
  | 0, z, f => .nil z f
  | r + 1, z, f => by
    unfold bestG
    by_cases h : optN T r (z + 1) f = optN T (r + 1) z f
    · rw [if_pos h]; exact .none (bestG_legit T r (z + 1) f)
    · rw [if_neg h]
      split
      · rename_i m hm
        exact .some (cand_mem.1 (List.mem_of_find?_eq_some hm)) (bestG_legit T r (z + 1) (less f m))
      · exact .none (bestG_legit T r (z + 1) f)
theorem legit_of {T : PT} : ∀ (g : List (Option Nat)) (z : Nat) (f : Nat → Bool), (∀ (i m : Nat), g[i]? = some (some m) → Cand T f (z + i) m) → (∀ (i j m : Nat), g[i]? = some (some m) → g[j]? = some (some m) → i = j) → Legit T g.length z f g
  | [], z, f, _, _ => .nil z f
  | none :: g, z, f, hc, hu => .none (legit_of g (z + 1) f (fun i m h => by have := hc (i + 1) m (by simpa using h); rw [show z + (i + 1) = z + 1 + i by omega] at this; exact this) (fun i j m h1 h2 => by have := hu (i + 1) (j + 1) m (by simpa using h1) (by simpa using h2); omega))
  | some q :: g, z, f, hc, hu => .some (hc 0 q rfl) (legit_of g (z + 1) (less f q) (fun i m h => by
      have h1 := hc (i + 1) m (by simpa using h)
      rw [show z + (i + 1) = z + 1 + i by omega] at h1
      refine ⟨h1.1, ?_, h1.2.2⟩
      unfold less
      rw [h1.2.1]
      have : ¬ m = q := fun e => by
        have := hu 0 (i + 1) q rfl (by rw [← e]; simpa using h)
        omega
      simp [this]) (fun i j m h1 h2 => by have := hu (i + 1) (j + 1) m (by simpa using h1) (by simpa using h2); omega))
/-- Whoever gets a prize can have it. -/
def CanG (T : PT) (g : List (Option Nat)) : Prop := ∀ (i m : Nat), g[i]? = some (some m) → canP T m i = true
theorem okG_legit {T : PT} {g : List (Option Nat)} (h : OkG T g) (hc : CanG T g) : Legit T g.length 0 allF g :=
  legit_of g 0 allF (fun i m hi => by rw [Nat.zero_add]; exact ⟨h.lt m (List.mem_of_getElem? hi), rfl, hc i m hi⟩) h.un
theorem legit_okG {T : PT} {r : Nat} {f : Nat → Bool} {g : List (Option Nat)} (h : Legit T r 0 f g) : OkG T g ∧ CanG T g := by
  have h1 := legit_at h
  refine ⟨⟨fun m hm => ?_, fun i j m hi hj => ((h1 i m hi).2 j hj).symm⟩, fun i m hi => ?_⟩
  · obtain ⟨i, hi, e⟩ := List.mem_iff_getElem.1 hm
    exact (h1 i m (by rw [List.getElem?_eq_getElem hi, e])).1.1
  · have := (h1 i m hi).1.2.2
    rw [Nat.zero_add] at this; exact this
theorem many_le_n {T : PT} {g : List (Option Nat)} (h : OkG T g) : many g ≤ T.n := by
  have hl : ∀ g : List (Option Nat), (g.filterMap id).length = many g := by
    intro g
    induction g with
    | nil => rfl
    | cons o g ih =>
      rw [many_cons, ← ih]
      cases o with
      | none => simp
      | some m => simp [Nat.add_comm]
  have hnd : ∀ g : List (Option Nat), (∀ (i j m : Nat), g[i]? = some (some m) → g[j]? = some (some m) → i = j) → (g.filterMap id).Nodup := by
    intro g
    induction g with
    | nil => intro _; exact List.Pairwise.nil
    | cons o g ih =>
      intro hu
      have ih := ih (fun i j m h1 h2 => by have := hu (i + 1) (j + 1) m (by simpa using h1) (by simpa using h2); omega)
      cases o with
      | none => simpa using ih
      | some m =>
        rw [List.filterMap_cons]
        refine List.nodup_cons.2 ⟨fun hm => ?_, ih⟩
        obtain ⟨o, ho, e⟩ := List.mem_filterMap.1 hm
        have e : o = some m := e
        subst e
        obtain ⟨i, hi, e2⟩ := List.mem_iff_getElem.1 ho
        have := hu 0 (i + 1) m rfl (by rw [List.getElem?_cons_succ, List.getElem?_eq_getElem hi, e2])
        omega
  rw [← hl g]
  have := sub_len (g.filterMap id) (List.range T.n) (hnd g h.un) (fun m hm => by
    obtain ⟨o, ho, e⟩ := List.mem_filterMap.1 hm
    have e : o = some m := e
    subst e
    exact List.mem_range.2 (h.lt m ho))
  simpa using this
theorem find_first {p : Nat → Bool} : ∀ {l : List Nat} {m k : Nat}, l.Pairwise (· < ·) → l.find? p = some m → k ∈ l → p k = true → m ≤ k
  | [], m, k, _, h, _, _ => by cases h
  | x :: l, m, k, hp, h, hk, hq => by
    rw [List.pairwise_cons] at hp
    rw [List.find?_cons] at h
    cases hx : p x with
    | true =>
      rw [hx] at h
      cases h
      rcases List.mem_cons.1 hk with rfl | hk
      · exact Nat.le_refl _
      · exact Nat.le_of_lt (hp.1 k hk)
    | false =>
      rw [hx] at h
      rcases List.mem_cons.1 hk with rfl | hk
      · rw [hq] at hx; cases hx
      · exact find_first hp.2 h hk hq
theorem cand_sorted (T : PT) (f : Nat → Bool) (z : Nat) : (candL T f z).Pairwise (· < ·) := (List.pairwise_lt_range (n := T.n)).filter _
theorem manI_ge (o : Option Nat) : -1 ≤ manI o := by
  cases o with
  | none => exact Int.le_refl _
  | some m => have : (0 : Int) ≤ manI (some m) := Int.natCast_nonneg m; omega
/-- The first of the best. -/
theorem bestG_lex {T : PT} : ∀ (r z : Nat) (f : Nat → Bool) (g : List (Option Nat)), Legit T r z f g → many g = optN T r z f → ∀ i, (∀ j, j < i → g.getD j none = (bestG T r z f).getD j none) → manI ((bestG T r z f).getD i none) ≤ manI (g.getD i none)
  | 0, z, f, g, _, _, i, _ => by
    have : (bestG T 0 z f).getD i none = none := rfl
    rw [this]; exact manI_ge _
  | r + 1, z, f, g, hl, hm, i, ha => by
    by_cases h : optN T r (z + 1) f = optN T (r + 1) z f
    · have hb : bestG T (r + 1) z f = none :: bestG T r (z + 1) f := by
        conv => lhs; unfold bestG
        rw [if_pos h]
      rw [hb] at ha ⊢
      cases i with
      | zero => exact manI_ge _
      | succ i =>
        have h0 := ha 0 (by omega)
        cases hl with
        | none hl' =>
          rw [many_cons] at hm
          simp only [Option.isSome_none, Bool.false_eq_true, if_false, Nat.zero_add] at hm
          exact bestG_lex r (z + 1) f _ hl' (by omega) i fun j hj => ha (j + 1) (by omega)
        | some hc hl' => cases h0
    · have hx : ∃ m, (candL T f z).find? (fun m => decide (1 + optN T r (z + 1) (less f m) = optN T (r + 1) z f)) = some m := by
        cases hq : (candL T f z).find? (fun m => decide (1 + optN T r (z + 1) (less f m) = optN T (r + 1) z f)) with
        | some m => exact ⟨m, rfl⟩
        | none =>
          exfalso
          rcases opt_or (T := T) (r := r) (z := z) (f := f) with h1 | ⟨m, h1, h2⟩
          · exact h h1.symm
          · exact (List.find?_eq_none.1 hq m (cand_mem.2 h1)) (decide_eq_true h2.symm)
      obtain ⟨m, hfm⟩ := hx
      have hb : bestG T (r + 1) z f = some m :: bestG T r (z + 1) (less f m) := by
        conv => lhs; unfold bestG
        rw [if_neg h, hfm]
      rw [hb] at ha ⊢
      cases hl with
      | none hl' =>
        exfalso
        rw [many_cons] at hm
        simp only [Option.isSome_none, Bool.false_eq_true, if_false, Nat.zero_add] at hm
        have := legit_le hl'
        have := opt_none (T := T) (r := r) (z := z) (f := f)
        omega
      | some hc hl' =>
        rename_i m' g'
        rw [many_cons] at hm
        simp only [Option.isSome_some, if_true] at hm
        have h1 := legit_le hl'
        have h2 := opt_some (r := r) hc
        have hle := find_first (cand_sorted T f z) hfm (cand_mem.2 hc) (decide_eq_true (by omega))
        cases i with
        | zero => show ((m : Nat) : Int) ≤ ((m' : Nat) : Int); omega
        | succ i =>
          have h0 : some m' = some m := ha 0 (by omega)
          cases h0
          exact bestG_lex r (z + 1) (less f m) g' hl' (by omega) i fun j hj => ha (j + 1) (by omega)
theorem man_getD {g : List (Option Nat)} {i : Nat} (h : i < g.length) : (manL g).getD i 0 = manI (g.getD i none) := by
  unfold manL
  rw [getD_lt (by rw [List.length_map]; exact h), List.getElem_map, getD_lt h]
theorem worth_ok {T : PT} {g : List (Option Nat)} (hok : okP T = true) (h : OkG T g) (hc : CanG T g) (hl : g.length = T.z) : worthR T (manL g) = (worP T (manL g), (worP T (manL g)).sum, 0) := by
  unfold worthR
  rw [if_pos hok, if_pos (gv_okG h hl)]
  have : fairP T (manL g) = true := by
    unfold fairP
    rw [List.all_eq_true]
    intro i hi
    have hi := List.mem_range.1 hi
    have hi' : i < g.length := by unfold manL at hi; rw [List.length_map] at hi; exact hi
    rw [man_getD hi', getD_lt hi']
    cases ho : g[i] with
    | none => rfl
    | some m =>
      have := hc i m (by rw [List.getElem?_eq_getElem hi', ho])
      show ((((m : Nat) : Int) == -1) || canP T (((m : Nat) : Int)).toNat i) = true
      rw [toNat_nat, this]
      simp
  rw [if_pos this]
theorem due_canG {T : PT} (hv : VdP T) : CanG T (dueP T) := fun i m hi => by
  have hlt := (List.getElem?_eq_some_iff.1 hi).1
  have hiz : i < T.z := by rw [show (dueP T).length = T.z from dueL_len T T.z] at hlt; exact hlt
  rw [due_get hiz] at hi
  have h := (due_one hv (Option.some.inj hi)).2.1
  unfold canC at h
  simp only [Bool.and_eq_true] at h
  exact h.1
end Go.Proofs.Ytfaeokcbfnlgbaa.G

/- Prize: what a giving is worth, plainly; two lists that are made in any order. -/
set_option linter.unusedSimpArgs false
set_option linter.unusedVariables false
set_option maxRecDepth 20000
namespace Go.Proofs.Ytfaeokcbfnlgbaa.G
open Go.V
theorem sum_set : ∀ (l : List Int) (i : Nat) (v : Int) (h : i < l.length), (l.set i v).sum + l[i] = l.sum + v
  | [], i, v, h => by simp at h
  | x :: l, 0, v, h => by
    show (v :: l).sum + x = (x :: l).sum + v
    rw [List.sum_cons, List.sum_cons]; omega
  | x :: l, i + 1, v, h => by
    have ih := sum_set l i v (by simpa using h)
    show (x :: l.set i v).sum + l[i]'(by simpa using h) = (x :: l).sum + v
    rw [List.sum_cons, List.sum_cons]; omega
theorem sum_bd : ∀ (l : List Int) (n : Nat), (∀ x ∈ l, 0 ≤ x ∧ x ≤ n) → 0 ≤ l.sum ∧ l.sum ≤ n * l.length
  | [], n, _ => by simp
  | x :: l, n, h => by
    have ih := sum_bd l n (fun y hy => h y (by simp [hy]))
    have hx := h x (by simp)
    rw [List.sum_cons, List.length_cons]
    have : ((n * (l.length + 1) : Nat) : Int) = n * l.length + n := by rw [Nat.mul_succ]; omega
    push_cast at this ⊢
    omega
theorem worL_step {T : PT} {g : List (Option Nat)} {k : Nat} (h : k < g.length) : worL T (manL g) (k + 1) = match g.getD k none with | none => worL T (manL g) k | some m => (worL T (manL g) k).set m (T.pz k).worth := by
  conv => lhs; unfold worL
  rw [man_getD h]
  cases g.getD k none with
  | none => rfl
  | some m =>
    have : ¬ manI (some m) = -1 := by show ¬ ((m : Nat) : Int) = -1; omega
    rw [if_neg this]
    show (worL T (manL g) k).set (((m : Nat) : Int)).toNat _ = _
    rw [toNat_nat]
theorem worL_zero {T : PT} {g : List (Option Nat)} {m : Nat} (hm : m < T.n) : ∀ k, k ≤ g.length → (∀ j, j < k → g.getD j none ≠ some m) → (worL T (manL g) k).getD m 0 = 0
  | 0, _, _ => by unfold worL; simp [List.getD, hm]
  | k + 1, hk, h => by
    have ih := worL_zero (g := g) hm k (by omega) (fun j hj => h j (by omega))
    have hkg : k < g.length := by omega
    rw [worL_step hkg]
    cases hg : g.getD k none with
    | none => exact ih
    | some q =>
      have hne : q ≠ m := fun e => h k (by omega) (by rw [hg, e])
      show ((worL T (manL g) k).set q _).getD m 0 = 0
      simp only [List.getD] at ih ⊢
      rw [List.getElem?_set_ne hne]; exact ih
theorem worL_sum {T : PT} {g : List (Option Nat)} {k m : Nat} (hk : OkG T g) (h : k < g.length) (hg : g.getD k none = some m) : (worL T (manL g) (k + 1)).sum = (worL T (manL g) k).sum + (T.pz k).worth := by
  rw [worL_step h, hg]
  have hgk : g[k]? = some (some m) := by rw [getD_lt h] at hg; rw [List.getElem?_eq_getElem h, hg]
  have hm := hk.lt m (List.mem_of_getElem? hgk)
  have hz := worL_zero (g := g) hm k (by omega) (fun j hj e => by
    have hj' : j < g.length := by omega
    rw [getD_lt hj'] at e
    have := hk.un j k m (by rw [List.getElem?_eq_getElem hj', e]) hgk
    omega)
  have hl : m < (worL T (manL g) k).length := by rw [worL_len]; exact hm
  rw [getD_lt hl] at hz
  have := sum_set (worL T (manL g) k) m (T.pz k).worth hl
  show ((worL T (manL g) k).set m _).sum = _
  omega
theorem wrong_gv {T : PT} {g : List (Option Nat)} (hok : okP T = true) (h : OkG T g) (hl : g.length = T.z) : wrongR T (manL g) = wrongP T (manL g) := by
  unfold wrongR
  rw [if_pos hok, if_pos (gv_okG h hl)]
theorem worth_len {T : PT} {ds : List Int} (hok : okP T = true) (h : ds.length ≠ T.z) : worthR T ds = ([], 0, 2) := by
  unfold worthR
  have : gvP T ds = false := by
    unfold gvP
    rw [decide_eq_false h]; rfl
  rw [if_pos hok, this]; rfl
theorem worth_no {T : PT} {g : List (Option Nat)} (hok : okP T = true) (h : OkG T g) (hl : g.length = T.z) {i m : Nat} (hi : g[i]? = some (some m)) (hc : canP T m i = false) : worthR T (manL g) = ([], 0, 4) := by
  unfold worthR
  rw [if_pos hok, if_pos (gv_okG h hl)]
  have : fairP T (manL g) = false := by
    unfold fairP
    rw [List.all_eq_false]
    obtain ⟨hlt, e⟩ := List.getElem?_eq_some_iff.1 hi
    refine ⟨i, List.mem_range.2 (by unfold manL; rw [List.length_map]; exact hlt), ?_⟩
    rw [man_getD hlt, getD_lt hlt, e]
    show ¬ ((((m : Nat) : Int) == -1) || canP T (((m : Nat) : Int)).toNat i) = true
    rw [toNat_nat, hc]
    have : ¬ ((m : Nat) : Int) = -1 := by omega
    simp [this]
  rw [this]; rfl
structure Ent where
  x : Option Addr
  l : Nat
  c : Nat
  ds : List Int
structure P2 (t0 t : Hp) (A B : Option Ent) : Prop where
  ext : Ext t0 t
  a : ∀ e, A = some e → Fr t0.size t e.x e.l e.c 1 (ints e.ds) ∧ 0 < e.c
  b : ∀ e, B = some e → Fr t0.size t e.x e.l e.c 1 (ints e.ds) ∧ 0 < e.c
  ne : ∀ e f p q, A = some e → B = some f → e.x = some p → f.x = some q → p.block ≠ q.block
theorem fr_lt' {lo : Nat} {s : Hp} {x : Option Addr} {l c : Nat} {vs : List Value} (h : Fr lo s x l c 1 vs) (hc : 0 < c) {a : Addr} (hx : x = some a) : a.block < s.size := by
  obtain ⟨a', h1, y, h2, _⟩ := h.buf.own 0 (by omega)
  rw [hx] at h1; cases h1
  have := h2.lt
  rwa [add_blk] at this
section
variable {t0 t : Hp} {A B : Option Ent}
theorem P2.newA {K : Nat → Hp → Prop} (h : P2 t0 t none B) (hk : ∀ t', P2 t0 t' (some ⟨some ⟨t.size, 0, none⟩, 1, 1, [-1]⟩) B → K t.size t') : NEW 3 [.int .i64 (-1)] K t := by
  refine NEW_rule fun t' e z n _ => ?_
  refine hk t' ⟨h.ext.trans e, fun e' he => ?_, fun e' he => ⟨(h.b e' he).1.ext e, (h.b e' he).2⟩, fun e' f p q he hf hp hq => ?_⟩
  · cases he
    refine ⟨⟨⟨by simp [ints], fun i hi => ?_⟩, rfl, fun a ha => by cases ha; exact h.ext.1, by show 1 ≤ _; omega⟩, by show 0 < 1; omega⟩
    have hi0 : i = 0 := by simp at hi; omega
    subst hi0
    exact ⟨_, rfl, _, n 0 _ rfl, fun _ => rfl⟩
  · cases he; cases hp
    have := fr_lt' (h.b f hf).1 (h.b f hf).2 hq
    show t.size ≠ _
    omega
theorem P2.newB {K : Nat → Hp → Prop} {n : Nat} (hn : n ≤ 1000) (hn0 : 0 < n) (h : P2 t0 t A none) (hk : ∀ t', P2 t0 t' A (some ⟨some ⟨t.size, 0, none⟩, 0, n, []⟩) → K t.size t') : MKS Pg 3 0 (n : Int) K t := by
  refine MKS_cap zc_3 (by omega) fun t' e z f => ?_
  refine hk t' ⟨h.ext.trans e, fun e' he => ⟨(h.a e' he).1.ext e, (h.a e' he).2⟩, fun e' he => ?_, fun e' f p q he hf hp hq => ?_⟩
  · cases he
    exact ⟨f.le h.ext.1, hn0⟩
  · cases hf; cases hq
    have := fr_lt' (h.a e' he).1 (h.a e' he).2 hp
    show _ ≠ t.size
    omega
theorem P2.appA {K : Option Addr → Nat → Nat → Hp → Prop} {x q : Option Addr} {ds : List Int} {n : Nat} (hq : ∀ t, Ext t0 t → RowAt t q (ints ds)) (hl : ds.length = n) (hn : n ≤ 1000) (h : P2 t0 t (some ⟨x, 1, 1, [-1]⟩) B) (hk : ∀ t' x' c', P2 t0 t' (some ⟨x', 1 + n, c', -1 :: ds⟩) B → K x' (1 + n) c' t') : APP Pg 3 1 x 1 1 q n K t := by
  obtain ⟨fa, _⟩ := h.a _ rfl
  refine APP_fr (lo := t0.size) fa h.ext.1 (ws := ints ds) (hq t h.ext) (by rw [ints_len]; omega) zc_3 rfl (by omega) (ints_one ds) (by omega) fun t' x' c' k hx f => ?_
  have hne : ∀ e, B = some e → ∀ a, e.x = some a → ¬ (∃ p, x = some p ∧ p.block = a.block) := fun e he a ha ⟨p, hp, hpb⟩ => h.ne _ e p a rfl he hp ha hpb
  have hfb : ∀ e, B = some e → Fr t0.size t' e.x e.l e.c 1 (ints e.ds) := fun e he => (h.b e he).1.kp k (hne e he)
  refine hk t' x' c' ⟨kp_nil h.ext (fun b hb => by obtain ⟨p, hp, rfl⟩ := hb; exact fa.fr p hp) k, fun e he => ?_, fun e he => ⟨hfb e he, (h.b e he).2⟩, fun e f' p r he hf hp hr => ?_⟩
  · cases he
    refine ⟨f, ?_⟩
    have := f.buf.le
    rw [List.length_append, ints_len] at this
    simp at this
    show 0 < c'
    omega
  · cases he
    rcases hx p hp with ⟨p', hp', e⟩ | e
    · rw [← e]; exact h.ne _ f' p' r rfl hf hp' hr
    · have := fr_lt' (h.b f' hf).1 (h.b f' hf).2 hr
      omega
theorem P2.appB {K : Option Addr → Nat → Nat → Hp → Prop} {y q : Option Addr} {ds : List Int} {n c : Nat} (hq : ∀ t, Ext t0 t → RowAt t q (ints ds)) (hl : ds.length = n) (hn : n ≤ 1000) (hc : n ≤ c) (hc2 : c ≤ 1000) (h : P2 t0 t A (some ⟨y, 0, c, []⟩)) (hk : ∀ t', P2 t0 t' A (some ⟨y, n, c, ds⟩) → K y (0 + n) c t') : APP Pg 3 1 y 0 c q n K t := by
  obtain ⟨fb, hc0⟩ := h.b _ rfl
  refine APP_bufN fb.buf fb.len (hq t h.ext) (by rw [ints_len]; omega) zc_3 rfl (by omega) (ints_one ds) (by omega) (by show c ≤ _; omega) fun t' x' c' k g1 g2 g3 u => ?_
  obtain ⟨rfl, rfl⟩ := g1 (by omega)
  have hne : ∀ e, A = some e → ∀ a, e.x = some a → ¬ (∃ p, x' = some p ∧ p.block = a.block) := fun e he a ha ⟨p, hp, hpb⟩ => h.ne e _ a p he rfl ha hp hpb.symm
  refine hk t' ⟨kp_nil h.ext (fun b hb => by obtain ⟨p, hp, rfl⟩ := hb; exact fb.fr p hp) k, fun e he => ⟨(h.a e he).1.kp k (hne e he), (h.a e he).2⟩, fun e he => ?_, fun e f p r he hf hp hr => ?_⟩
  · cases he
    refine ⟨⟨?_, by rw [ints_len]; show ds.length = n * 1; omega, fb.fr, by omega⟩, hc0⟩
    have e : ints ([] : List Int) ++ ints ds = ints ds := rfl
    rw [e] at u
    exact u
  · cases hf
    exact h.ne e _ p r he rfl hp hr
end
end Go.Proofs.Ytfaeokcbfnlgbaa.G

/- More of the functions' shallow texts, by gen.py. -/
set_option linter.unusedVariables false
set_option maxRecDepth 100000
namespace Go.Proofs.Ytfaeokcbfnlgbaa.G
open Go.V
def an_7 : Nat → Ann := fun b => match b with
  | 0 => { ms := [19, 86], ks := [.i .i64, .i .i64], us := [2, 3, 6, 7, 8, 13, 14, 15, 16, 17, 18, 85, 245], rt := false, ex := [] }
  | 2 => { ms := [6, 22, 145], ks := [.b, .i .i64, .i .i64], us := [2, 3, 7, 13, 14, 15, 21, 143, 144, 245], rt := false, ex := [] }
  | 4 => { ms := [6, 225], ks := [.b, .i .i64], us := [3, 7, 223, 224, 245], rt := false, ex := [] }
  | _ => {}
abbrev rv_7 : List ResultVar := [.tmp 6]
abbrev rs_7 : List Nat := [245, 6]
def L_law13_PrizeWorth_0 (W : World) (R : Ending → Hp → Prop) (zb0 : Bool) (za1 : Addr) (zp2 : Option Addr) (zl3 : Nat) (zl4 : Nat) (zp5 : Option Addr) (zl6 : Nat) (zl7 : Nat) (zp8 : Option Addr) (zl9 : Nat) (zl10 : Nat) (zn11 : Int) (zn12 : Int) (zn13 : Int) (zn14 : Int) (zn15 : Int) (zn16 : Int) (n122 : Int) (n123 : Int) : Hp → Prop :=
  LOOPN [.i .i64, .i .i64] (fun ys next s => ∀ j : Tm, vc Pg W 245 rs_7 an_7 false (sub (bodyOf Try.f7) [1, 1, 1, 1, 1, 1, 1, 1, 1, 0, 1, 0, 0]) 0 (KLoop [19, 86] [2, 3, 6, 7, 8, 13, 14, 15, 16, 17, 18, 85, 245] [(.bool zb0), (.pointer (some za1)), (.bool false), (.slice zp2 zl3 zl4), (.slice zp5 zl6 zl7), (.slice zp8 zl9 zl10), (.int .i64 zn11), (.int .i64 zn12), (.int .i64 zn13), (.int .i64 zn14), (.int .i64 zn15), (.int .i64 zn16), (.tuple #[])] next (KBlk 0 (KS Pg W 245 rs_7 an_7 false (sub (bodyOf Try.f7) [1, 1, 1, 1, 1, 1, 1, 1, 1, 1]) 0 (fin Pg W 245 rv_7 R)))) (known [19, 86] ys (known [2, 3, 6, 7, 8, 13, 14, 15, 16, 17, 18, 85, 245] [(.bool zb0), (.pointer (some za1)), (.bool false), (.slice zp2 zl3 zl4), (.slice zp5 zl6 zl7), (.slice zp8 zl9 zl10), (.int .i64 zn11), (.int .i64 zn12), (.int .i64 zn13), (.int .i64 zn14), (.int .i64 zn15), (.int .i64 zn16), (.tuple #[])] j)) s) [(.int .i64 n122), (.int .i64 n123)]
def L_law13_PrizeWorth_1 (W : World) (R : Ending → Hp → Prop) (zb0 : Bool) (za1 : Addr) (zp2 : Option Addr) (zl3 : Nat) (zl4 : Nat) (zp5 : Option Addr) (zl6 : Nat) (zl7 : Nat) (zn8 : Int) (zn9 : Int) (za10 : Addr) (zl11 : Nat) (zn12 : Int) (b138 : Bool) (n139 : Int) (n140 : Int) : Hp → Prop :=
  LOOPN [.b, .i .i64, .i .i64] (fun ys next s => ∀ j : Tm, vc Pg W 245 rs_7 an_7 false (sub (bodyOf Try.f7) [1, 1, 1, 1, 1, 1, 1, 1, 1, 1, 1, 1, 0, 1, 0, 0]) 2 (KLoop [6, 22, 145] [2, 3, 7, 13, 14, 15, 21, 143, 144, 245] [(.bool zb0), (.pointer (some za1)), (.slice zp2 zl3 zl4), (.slice zp5 zl6 zl7), (.int .i64 zn8), (.int .i64 zn9), (.slice (some za10) zl11 zl11), (.slice zp2 zl3 zl4), (.int .i64 zn12), (.tuple #[])] next (KBlk 2 (KS Pg W 245 rs_7 an_7 false (sub (bodyOf Try.f7) [1, 1, 1, 1, 1, 1, 1, 1, 1, 1, 1, 1, 1]) 0 (fin Pg W 245 rv_7 R)))) (known [6, 22, 145] ys (known [2, 3, 7, 13, 14, 15, 21, 143, 144, 245] [(.bool zb0), (.pointer (some za1)), (.slice zp2 zl3 zl4), (.slice zp5 zl6 zl7), (.int .i64 zn8), (.int .i64 zn9), (.slice (some za10) zl11 zl11), (.slice zp2 zl3 zl4), (.int .i64 zn12), (.tuple #[])] j)) s) [(.bool b138), (.int .i64 n139), (.int .i64 n140)]
def L_law13_PrizeWorth_2 (W : World) (R : Ending → Hp → Prop) (za0 : Addr) (zp1 : Option Addr) (zl2 : Nat) (zl3 : Nat) (zp4 : Option Addr) (zl5 : Nat) (zl6 : Nat) (zn7 : Int) (b337 : Bool) (n338 : Int) : Hp → Prop :=
  LOOPN [.b, .i .i64] (fun ys next s => ∀ j : Tm, vc Pg W 245 rs_7 an_7 false (sub (bodyOf Try.f7) [1, 1, 1, 1, 1, 1, 1, 1, 1, 1, 1, 1, 1, 1, 0, 1, 0, 0]) 4 (KLoop [6, 225] [3, 7, 223, 224, 245] [(.pointer (some za0)), (.slice zp1 zl2 zl3), (.slice zp4 zl5 zl6), (.int .i64 zn7), (.tuple #[])] next (KBlk 4 (KS Pg W 245 rs_7 an_7 false (sub (bodyOf Try.f7) [1, 1, 1, 1, 1, 1, 1, 1, 1, 1, 1, 1, 1, 1, 1]) 0 (fin Pg W 245 rv_7 R)))) (known [6, 225] ys (known [3, 7, 223, 224, 245] [(.pointer (some za0)), (.slice zp1 zl2 zl3), (.slice zp4 zl5 zl6), (.int .i64 zn7), (.tuple #[])] j)) s) [(.bool b337), (.int .i64 n338)]
def J_law13_PrizeWorth_0 (W : World) (R : Ending → Hp → Prop) (b112 : Bool) (b10 : Bool) (B11 : Nat) (x33 : Option Addr) (l34 : Nat) (c35 : Nat) (x47 : Option Addr) (l48 : Nat) (c49 : Nat) (x84 : Option Addr) (l85 : Nat) (c86 : Nat) (n89 : Int) (n92 : Int) (n104 : Int) (n107 : Int) (n110 : Int) : Hp → Prop :=
  BR b112
    (R (.returned (.bool false)))
    (L_law13_PrizeWorth_0 W R b10 ⟨B11, 0, none⟩ x33 l34 c35 x47 l48 c49 x84 l85 c86 n89 n92 n104 n107 n110 (↑l34 : Int) (-1) 0)
def J_law13_PrizeWorth_1 (W : World) (R : Ending → Hp → Prop) (b111 : Bool) (b10 : Bool) (B11 : Nat) (x33 : Option Addr) (l34 : Nat) (c35 : Nat) (x47 : Option Addr) (l48 : Nat) (c49 : Nat) (x84 : Option Addr) (l85 : Nat) (c86 : Nat) (n89 : Int) (n92 : Int) (n104 : Int) (n107 : Int) (n110 : Int) : Hp → Prop :=
  BR b111
    (J_law13_PrizeWorth_0 W R true b10 B11 x33 l34 c35 x47 l48 c49 x84 l85 c86 n89 n92 n104 n107 n110)
    (J_law13_PrizeWorth_0 W R ((↑l48 : Int) != (↑l34 : Int)) b10 B11 x33 l34 c35 x47 l48 c49 x84 l85 c86 n89 n92 n104 n107 n110)
def J_law13_PrizeWorth_2 (W : World) (R : Ending → Hp → Prop) (b21 : Bool) (B11 : Nat) (x7 : Option Addr) (l8 : Nat) (c9 : Nat) (b10 : Bool) : Hp → Prop :=
  BR b21
    (CALL Pg W F_law13_awake []
      (fun v22 => TYB v22 fun b24 =>
        R (.returned (.bool b24)))
        (fun e23 => R (.panicked e23)))
    (RDL (Addr.add ⟨B11, 0, none⟩ 0) fun x25 l26 c27 =>
      RDL (Addr.add ⟨B11, 0, none⟩ 1) fun x28 l29 c30 =>
        CALL Pg W F_law13_made [(.agg #[(.slice x25 l26 c27), (.slice x28 l29 c30)]), (.slice x7 l8 c9), (.bool (!b10))]
          (fun v31 => TYL v31 fun x33 l34 c35 =>
            RDL (Addr.add ⟨B11, 0, none⟩ 0) fun x36 l37 c38 =>
              RDL (Addr.add ⟨B11, 0, none⟩ 1) fun x39 l40 c41 =>
                CALL Pg W F_prize_Due [(.agg #[(.slice x36 l37 c38), (.slice x39 l40 c41)])]
                  (fun v42 => TUP v42 fun q44 => HD q44 fun v45 r46 => TYL v45 fun x47 l48 c49 =>
                    HD r46 fun v50 r51 => TYI .i64 v50 fun n52 =>
                      NL r51 <|
                        RDL (Addr.add ⟨B11, 0, none⟩ 0) fun x53 l54 c55 =>
                          RDL (Addr.add ⟨B11, 0, none⟩ 1) fun x56 l57 c58 =>
                            CALL Pg W F_prize_Worth [(.agg #[(.slice x53 l54 c55), (.slice x56 l57 c58)]), (.slice x47 l48 c49)]
                              (fun v59 => TUP v59 fun q61 => HD q61 fun v62 r63 => TYL v62 fun x64 l65 c66 =>
                                HD r63 fun v67 r68 => TYI .i64 v67 fun n69 =>
                                  HD r68 fun v70 r71 => TYI .i64 v70 fun n72 =>
                                    NL r71 <|
                                      RDL (Addr.add ⟨B11, 0, none⟩ 0) fun x73 l74 c75 =>
                                        RDL (Addr.add ⟨B11, 0, none⟩ 1) fun x76 l77 c78 =>
                                          CALL Pg W F_prize_Worth [(.agg #[(.slice x73 l74 c75), (.slice x76 l77 c78)]), (.slice x33 l34 c35)]
                                            (fun v79 => TUP v79 fun q81 => HD q81 fun v82 r83 => TYL v82 fun x84 l85 c86 =>
                                              HD r83 fun v87 r88 => TYI .i64 v87 fun n89 =>
                                                HD r88 fun v90 r91 => TYI .i64 v90 fun n92 =>
                                                  NL r91 <|
                                                    RDL (Addr.add ⟨B11, 0, none⟩ 0) fun x93 l94 c95 =>
                                                      RDL (Addr.add ⟨B11, 0, none⟩ 1) fun x96 l97 c98 =>
                                                        CALL Pg W F_prize_Wrong [(.agg #[(.slice x93 l94 c95), (.slice x96 l97 c98)]), (.slice x33 l34 c35)]
                                                          (fun v99 => TUP v99 fun q101 => HD q101 fun v102 r103 => TYI .i64 v102 fun n104 =>
                                                            HD r103 fun v105 r106 => TYI .i64 v105 fun n107 =>
                                                              HD r106 fun v108 r109 => TYI .i64 v108 fun n110 =>
                                                                NL r109 <|
                                                                  BR (n52 != 0)
                                                                    (J_law13_PrizeWorth_1 W R true b10 B11 x33 l34 c35 x47 l48 c49 x84 l85 c86 n89 n92 n104 n107 n110)
                                                                    (J_law13_PrizeWorth_1 W R (n72 != 0) b10 B11 x33 l34 c35 x47 l48 c49 x84 l85 c86 n89 n92 n104 n107 n110))
                                                            (fun e100 => R (.panicked e100)))
                                              (fun e80 => R (.panicked e80)))
                                (fun e60 => R (.panicked e60)))
                    (fun e43 => R (.panicked e43)))
            (fun e32 => R (.panicked e32)))
def J_law13_PrizeWorth_3 (W : World) (R : Ending → Hp → Prop) (zb0 : Bool) (za1 : Addr) (zp2 : Option Addr) (zl3 : Nat) (zl4 : Nat) (zp5 : Option Addr) (zl6 : Nat) (zl7 : Nat) (zp8 : Option Addr) (zl9 : Nat) (zl10 : Nat) (zn11 : Int) (zn12 : Int) (zn13 : Int) (zn14 : Int) (zn15 : Int) (zn16 : Int) (nx0 : List Value → Hp → Prop) (n129 : Int) (n123 : Int) : Hp → Prop :=
  NX [(.bool zb0), (.pointer (some za1)), (.bool false), (.slice zp2 zl3 zl4), (.slice zp5 zl6 zl7), (.slice zp8 zl9 zl10), (.int .i64 zn11), (.int .i64 zn12), (.int .i64 zn13), (.int .i64 zn14), (.int .i64 zn15), (.int .i64 zn16), (.tuple #[])] [(.bool zb0), (.pointer (some za1)), (.bool false), (.slice zp2 zl3 zl4), (.slice zp5 zl6 zl7), (.slice zp8 zl9 zl10), (.int .i64 zn11), (.int .i64 zn12), (.int .i64 zn13), (.int .i64 zn14), (.int .i64 zn15), (.int .i64 zn16), (.tuple #[])] (nx0 [(.int .i64 n129), (.int .i64 (IntKind.wrap .i64 (n123 + 1)))])
def J_law13_PrizeWorth_4 (W : World) (R : Ending → Hp → Prop) (b128 : Bool) (zb0 : Bool) (za1 : Addr) (zp2 : Option Addr) (zl3 : Nat) (zl4 : Nat) (zp5 : Option Addr) (zl6 : Nat) (zl7 : Nat) (zp8 : Option Addr) (zl9 : Nat) (zl10 : Nat) (zn11 : Int) (zn12 : Int) (zn13 : Int) (zn14 : Int) (zn15 : Int) (zn16 : Int) (nx0 : List Value → Hp → Prop) (n123 : Int) (n122 : Int) : Hp → Prop :=
  BR b128
    (J_law13_PrizeWorth_3 W R zb0 za1 zp2 zl3 zl4 zp5 zl6 zl7 zp8 zl9 zl10 zn11 zn12 zn13 zn14 zn15 zn16 nx0 n123 n123)
    (J_law13_PrizeWorth_3 W R zb0 za1 zp2 zl3 zl4 zp5 zl6 zl7 zp8 zl9 zl10 zn11 zn12 zn13 zn14 zn15 zn16 nx0 n122 n123)
def J_law13_PrizeWorth_5 (W : World) (R : Ending → Hp → Prop) (b131 : Bool) (za1 : Addr) (zb0 : Bool) (zp2 : Option Addr) (zl3 : Nat) (zl4 : Nat) (zp8 : Option Addr) (zl9 : Nat) (zl10 : Nat) (zn11 : Int) (zn12 : Int) : Hp → Prop :=
  BR b131
    (R (.returned (.bool false)))
    (RDL (Addr.add za1 0) fun x132 l133 c134 =>
      MKS Pg 3 (↑l133 : Int) (↑l133 : Int) fun B135 =>
        L_law13_PrizeWorth_1 W R zb0 za1 zp2 zl3 zl4 zp8 zl9 zl10 zn11 zn12 ⟨B135, 0, none⟩ (Int.toNat (↑l133 : Int)) (↑zl3 : Int) false 0 0)
def J_law13_PrizeWorth_6 (W : World) (R : Ending → Hp → Prop) (b130 : Bool) (za1 : Addr) (zb0 : Bool) (zp2 : Option Addr) (zl3 : Nat) (zl4 : Nat) (zp8 : Option Addr) (zl9 : Nat) (zl10 : Nat) (zn11 : Int) (zn12 : Int) (n122 : Int) (zn15 : Int) (zn13 : Int) (zp5 : Option Addr) (zl6 : Nat) (zn14 : Int) : Hp → Prop :=
  BR b130
    (J_law13_PrizeWorth_5 W R true za1 zb0 zp2 zl3 zl4 zp8 zl9 zl10 zn11 zn12)
    (BR (decide (n122 ≥ 0))
      (BR (zn15 != 0)
        (J_law13_PrizeWorth_5 W R true za1 zb0 zp2 zl3 zl4 zp8 zl9 zl10 zn11 zn12)
        (BR (zn13 != n122)
          (J_law13_PrizeWorth_5 W R true za1 zb0 zp2 zl3 zl4 zp8 zl9 zl10 zn11 zn12)
          (IXS zp5 zl6 n122 1 fun a136 =>
            RDI .i64 a136 fun n137 =>
              J_law13_PrizeWorth_5 W R (zn14 != n137) za1 zb0 zp2 zl3 zl4 zp8 zl9 zl10 zn11 zn12)))
      (J_law13_PrizeWorth_5 W R false za1 zb0 zp2 zl3 zl4 zp8 zl9 zl10 zn11 zn12))
def J_law13_PrizeWorth_7 (W : World) (R : Ending → Hp → Prop) (zb0 : Bool) (za1 : Addr) (zp2 : Option Addr) (zl3 : Nat) (zl4 : Nat) (zp5 : Option Addr) (zl6 : Nat) (zl7 : Nat) (zn8 : Int) (zn9 : Int) (za10 : Addr) (zl11 : Nat) (zn12 : Int) (nx1 : List Value → Hp → Prop) (b143 : Bool) (n144 : Int) (n140 : Int) : Hp → Prop :=
  NX [(.bool zb0), (.pointer (some za1)), (.slice zp2 zl3 zl4), (.slice zp5 zl6 zl7), (.int .i64 zn8), (.int .i64 zn9), (.slice (some za10) zl11 zl11), (.slice zp2 zl3 zl4), (.int .i64 zn12), (.tuple #[])] [(.bool zb0), (.pointer (some za1)), (.slice zp2 zl3 zl4), (.slice zp5 zl6 zl7), (.int .i64 zn8), (.int .i64 zn9), (.slice (some za10) zl11 zl11), (.slice zp2 zl3 zl4), (.int .i64 zn12), (.tuple #[])] (nx1 [(.bool b143), (.int .i64 n144), (.int .i64 (IntKind.wrap .i64 (n140 + 1)))])
def J_law13_PrizeWorth_8 (W : World) (R : Ending → Hp → Prop) (b160 : Bool) (zl6 : Nat) (zn8 : Int) : Hp → Prop :=
  BR b160
    (BR ((↑zl6 : Int) == 0)
      (BR (zn8 == 0)
        (CALL Pg W F_law13_awake []
          (fun v161 => TYB v161 fun b163 =>
            R (.returned (.bool b163)))
            (fun e162 => R (.panicked e162)))
        (R (.returned (.bool false))))
      (R (.returned (.bool false))))
    (R (.returned (.bool false)))
def J_law13_PrizeWorth_9 (W : World) (R : Ending → Hp → Prop) (za1 : Addr) (zp2 : Option Addr) (zl3 : Nat) (zl4 : Nat) (x189 : Option Addr) (l190 : Nat) (c191 : Nat) (n192 : Int) (b138 : Bool) (n193 : Int) : Hp → Prop :=
  L_law13_PrizeWorth_2 W R za1 zp2 zl3 zl4 x189 l190 c191 n192 b138 n193
def J_law13_PrizeWorth_10 (W : World) (R : Ending → Hp → Prop) (b176 : Bool) (zp2 : Option Addr) (zl3 : Nat) (za1 : Addr) (zl4 : Nat) (b138 : Bool) : Hp → Prop :=
  BR b176
    (R (.returned (.bool false)))
    (CONJ [
      NEW 3 [(.int .i64 (-1))] fun B177 =>
        CONJ [
          APP Pg 3 1 (some ⟨B177, 0, none⟩) 1 1 zp2 zl3 fun x178 l179 c180 =>
            CONJ [
              MKS Pg 3 0 (IntKind.wrap .i64 ((↑zl3 : Int) + 1)) fun B181 =>
                CONJ [
                  APP Pg 3 1 (some ⟨B181, 0, none⟩) (Int.toNat 0) (Int.toNat (IntKind.wrap .i64 ((↑zl3 : Int) + 1))) zp2 zl3 fun x182 l183 c184 =>
                    SLS x182 c184 0 (if (IntKind.wrap .i64 ((↑zl3 : Int) - 1)) > 0 then (IntKind.wrap .i64 ((↑zl3 : Int) - 1)) else 0) 1 fun x185 l186 c187 =>
                      NEW 26 [(.slice x178 l179 c180), (.slice x185 l186 c187)] fun B188 =>
                        J_law13_PrizeWorth_9 W R za1 zp2 zl3 zl4 (some ⟨B188, 0, none⟩) 2 2 2 b138 0,
                  APP Pg 3 1 (some ⟨B181, 0, none⟩) (Int.toNat 0) (Int.toNat (IntKind.wrap .i64 ((↑zl3 : Int) + 1))) zp2 zl3 fun x194 l195 c196 =>
                    SLS x194 c196 0 (if (IntKind.wrap .i64 ((↑zl3 : Int) - 1)) > 0 then (IntKind.wrap .i64 ((↑zl3 : Int) - 1)) else 0) 1 fun x197 l198 c199 =>
                      NEW 26 [(.slice x178 l179 c180), (.slice x197 l198 c199)] fun B200 =>
                        J_law13_PrizeWorth_9 W R za1 zp2 zl3 zl4 (some ⟨B200, 0, none⟩) 2 2 2 b138 0],
              MKS Pg 3 0 (IntKind.wrap .i64 ((↑zl3 : Int) + 1)) fun B201 =>
                APP Pg 3 1 (some ⟨B201, 0, none⟩) (Int.toNat 0) (Int.toNat (IntKind.wrap .i64 ((↑zl3 : Int) + 1))) zp2 zl3 fun x202 l203 c204 =>
                  SLS x202 c204 0 (if (IntKind.wrap .i64 ((↑zl3 : Int) - 1)) > 0 then (IntKind.wrap .i64 ((↑zl3 : Int) - 1)) else 0) 1 fun x205 l206 c207 =>
                    NEW 26 [(.slice x178 l179 c180), (.slice x205 l206 c207)] fun B208 =>
                      J_law13_PrizeWorth_9 W R za1 zp2 zl3 zl4 (some ⟨B208, 0, none⟩) 2 2 2 b138 0],
          MKS Pg 3 0 (IntKind.wrap .i64 ((↑zl3 : Int) + 1)) fun B209 =>
            CONJ [
              APP Pg 3 1 (some ⟨B177, 0, none⟩) 1 1 zp2 zl3 fun x210 l211 c212 =>
                CONJ [
                  APP Pg 3 1 (some ⟨B209, 0, none⟩) (Int.toNat 0) (Int.toNat (IntKind.wrap .i64 ((↑zl3 : Int) + 1))) zp2 zl3 fun x213 l214 c215 =>
                    SLS x213 c215 0 (if (IntKind.wrap .i64 ((↑zl3 : Int) - 1)) > 0 then (IntKind.wrap .i64 ((↑zl3 : Int) - 1)) else 0) 1 fun x216 l217 c218 =>
                      NEW 26 [(.slice x210 l211 c212), (.slice x216 l217 c218)] fun B219 =>
                        J_law13_PrizeWorth_9 W R za1 zp2 zl3 zl4 (some ⟨B219, 0, none⟩) 2 2 2 b138 0,
                  APP Pg 3 1 (some ⟨B209, 0, none⟩) (Int.toNat 0) (Int.toNat (IntKind.wrap .i64 ((↑zl3 : Int) + 1))) zp2 zl3 fun x220 l221 c222 =>
                    SLS x220 c222 0 (if (IntKind.wrap .i64 ((↑zl3 : Int) - 1)) > 0 then (IntKind.wrap .i64 ((↑zl3 : Int) - 1)) else 0) 1 fun x223 l224 c225 =>
                      NEW 26 [(.slice x210 l211 c212), (.slice x223 l224 c225)] fun B226 =>
                        J_law13_PrizeWorth_9 W R za1 zp2 zl3 zl4 (some ⟨B226, 0, none⟩) 2 2 2 b138 0],
              APP Pg 3 1 (some ⟨B177, 0, none⟩) 1 1 zp2 zl3 fun x227 l228 c229 =>
                APP Pg 3 1 (some ⟨B209, 0, none⟩) (Int.toNat 0) (Int.toNat (IntKind.wrap .i64 ((↑zl3 : Int) + 1))) zp2 zl3 fun x230 l231 c232 =>
                  SLS x230 c232 0 (if (IntKind.wrap .i64 ((↑zl3 : Int) - 1)) > 0 then (IntKind.wrap .i64 ((↑zl3 : Int) - 1)) else 0) 1 fun x233 l234 c235 =>
                    NEW 26 [(.slice x227 l228 c229), (.slice x233 l234 c235)] fun B236 =>
                      J_law13_PrizeWorth_9 W R za1 zp2 zl3 zl4 (some ⟨B236, 0, none⟩) 2 2 2 b138 0],
          CONJ [
            APP Pg 3 1 (some ⟨B177, 0, none⟩) 1 1 zp2 zl3 fun x237 l238 c239 =>
              MKS Pg 3 0 (IntKind.wrap .i64 ((↑zl3 : Int) + 1)) fun B240 =>
                APP Pg 3 1 (some ⟨B240, 0, none⟩) (Int.toNat 0) (Int.toNat (IntKind.wrap .i64 ((↑zl3 : Int) + 1))) zp2 zl3 fun x241 l242 c243 =>
                  SLS x241 c243 0 (if (IntKind.wrap .i64 ((↑zl3 : Int) - 1)) > 0 then (IntKind.wrap .i64 ((↑zl3 : Int) - 1)) else 0) 1 fun x244 l245 c246 =>
                    NEW 26 [(.slice x237 l238 c239), (.slice x244 l245 c246)] fun B247 =>
                      J_law13_PrizeWorth_9 W R za1 zp2 zl3 zl4 (some ⟨B247, 0, none⟩) 2 2 2 b138 0,
            MKS Pg 3 0 (IntKind.wrap .i64 ((↑zl3 : Int) + 1)) fun B248 =>
              APP Pg 3 1 (some ⟨B177, 0, none⟩) 1 1 zp2 zl3 fun x249 l250 c251 =>
                APP Pg 3 1 (some ⟨B248, 0, none⟩) (Int.toNat 0) (Int.toNat (IntKind.wrap .i64 ((↑zl3 : Int) + 1))) zp2 zl3 fun x252 l253 c254 =>
                  SLS x252 c254 0 (if (IntKind.wrap .i64 ((↑zl3 : Int) - 1)) > 0 then (IntKind.wrap .i64 ((↑zl3 : Int) - 1)) else 0) 1 fun x255 l256 c257 =>
                    NEW 26 [(.slice x249 l250 c251), (.slice x255 l256 c257)] fun B258 =>
                      J_law13_PrizeWorth_9 W R za1 zp2 zl3 zl4 (some ⟨B258, 0, none⟩) 2 2 2 b138 0]],
      MKS Pg 3 0 (IntKind.wrap .i64 ((↑zl3 : Int) + 1)) fun B259 =>
        CONJ [
          NEW 3 [(.int .i64 (-1))] fun B260 =>
            CONJ [
              APP Pg 3 1 (some ⟨B260, 0, none⟩) 1 1 zp2 zl3 fun x261 l262 c263 =>
                CONJ [
                  APP Pg 3 1 (some ⟨B259, 0, none⟩) (Int.toNat 0) (Int.toNat (IntKind.wrap .i64 ((↑zl3 : Int) + 1))) zp2 zl3 fun x264 l265 c266 =>
                    SLS x264 c266 0 (if (IntKind.wrap .i64 ((↑zl3 : Int) - 1)) > 0 then (IntKind.wrap .i64 ((↑zl3 : Int) - 1)) else 0) 1 fun x267 l268 c269 =>
                      NEW 26 [(.slice x261 l262 c263), (.slice x267 l268 c269)] fun B270 =>
                        J_law13_PrizeWorth_9 W R za1 zp2 zl3 zl4 (some ⟨B270, 0, none⟩) 2 2 2 b138 0,
                  APP Pg 3 1 (some ⟨B259, 0, none⟩) (Int.toNat 0) (Int.toNat (IntKind.wrap .i64 ((↑zl3 : Int) + 1))) zp2 zl3 fun x271 l272 c273 =>
                    SLS x271 c273 0 (if (IntKind.wrap .i64 ((↑zl3 : Int) - 1)) > 0 then (IntKind.wrap .i64 ((↑zl3 : Int) - 1)) else 0) 1 fun x274 l275 c276 =>
                      NEW 26 [(.slice x261 l262 c263), (.slice x274 l275 c276)] fun B277 =>
                        J_law13_PrizeWorth_9 W R za1 zp2 zl3 zl4 (some ⟨B277, 0, none⟩) 2 2 2 b138 0],
              APP Pg 3 1 (some ⟨B260, 0, none⟩) 1 1 zp2 zl3 fun x278 l279 c280 =>
                APP Pg 3 1 (some ⟨B259, 0, none⟩) (Int.toNat 0) (Int.toNat (IntKind.wrap .i64 ((↑zl3 : Int) + 1))) zp2 zl3 fun x281 l282 c283 =>
                  SLS x281 c283 0 (if (IntKind.wrap .i64 ((↑zl3 : Int) - 1)) > 0 then (IntKind.wrap .i64 ((↑zl3 : Int) - 1)) else 0) 1 fun x284 l285 c286 =>
                    NEW 26 [(.slice x278 l279 c280), (.slice x284 l285 c286)] fun B287 =>
                      J_law13_PrizeWorth_9 W R za1 zp2 zl3 zl4 (some ⟨B287, 0, none⟩) 2 2 2 b138 0],
          NEW 3 [(.int .i64 (-1))] fun B288 =>
            APP Pg 3 1 (some ⟨B288, 0, none⟩) 1 1 zp2 zl3 fun x289 l290 c291 =>
              APP Pg 3 1 (some ⟨B259, 0, none⟩) (Int.toNat 0) (Int.toNat (IntKind.wrap .i64 ((↑zl3 : Int) + 1))) zp2 zl3 fun x292 l293 c294 =>
                SLS x292 c294 0 (if (IntKind.wrap .i64 ((↑zl3 : Int) - 1)) > 0 then (IntKind.wrap .i64 ((↑zl3 : Int) - 1)) else 0) 1 fun x295 l296 c297 =>
                  NEW 26 [(.slice x289 l290 c291), (.slice x295 l296 c297)] fun B298 =>
                    J_law13_PrizeWorth_9 W R za1 zp2 zl3 zl4 (some ⟨B298, 0, none⟩) 2 2 2 b138 0],
      CONJ [
        NEW 3 [(.int .i64 (-1))] fun B299 =>
          CONJ [
            APP Pg 3 1 (some ⟨B299, 0, none⟩) 1 1 zp2 zl3 fun x300 l301 c302 =>
              MKS Pg 3 0 (IntKind.wrap .i64 ((↑zl3 : Int) + 1)) fun B303 =>
                APP Pg 3 1 (some ⟨B303, 0, none⟩) (Int.toNat 0) (Int.toNat (IntKind.wrap .i64 ((↑zl3 : Int) + 1))) zp2 zl3 fun x304 l305 c306 =>
                  SLS x304 c306 0 (if (IntKind.wrap .i64 ((↑zl3 : Int) - 1)) > 0 then (IntKind.wrap .i64 ((↑zl3 : Int) - 1)) else 0) 1 fun x307 l308 c309 =>
                    NEW 26 [(.slice x300 l301 c302), (.slice x307 l308 c309)] fun B310 =>
                      J_law13_PrizeWorth_9 W R za1 zp2 zl3 zl4 (some ⟨B310, 0, none⟩) 2 2 2 b138 0,
            MKS Pg 3 0 (IntKind.wrap .i64 ((↑zl3 : Int) + 1)) fun B311 =>
              APP Pg 3 1 (some ⟨B299, 0, none⟩) 1 1 zp2 zl3 fun x312 l313 c314 =>
                APP Pg 3 1 (some ⟨B311, 0, none⟩) (Int.toNat 0) (Int.toNat (IntKind.wrap .i64 ((↑zl3 : Int) + 1))) zp2 zl3 fun x315 l316 c317 =>
                  SLS x315 c317 0 (if (IntKind.wrap .i64 ((↑zl3 : Int) - 1)) > 0 then (IntKind.wrap .i64 ((↑zl3 : Int) - 1)) else 0) 1 fun x318 l319 c320 =>
                    NEW 26 [(.slice x312 l313 c314), (.slice x318 l319 c320)] fun B321 =>
                      J_law13_PrizeWorth_9 W R za1 zp2 zl3 zl4 (some ⟨B321, 0, none⟩) 2 2 2 b138 0],
        MKS Pg 3 0 (IntKind.wrap .i64 ((↑zl3 : Int) + 1)) fun B322 =>
          NEW 3 [(.int .i64 (-1))] fun B323 =>
            APP Pg 3 1 (some ⟨B323, 0, none⟩) 1 1 zp2 zl3 fun x324 l325 c326 =>
              APP Pg 3 1 (some ⟨B322, 0, none⟩) (Int.toNat 0) (Int.toNat (IntKind.wrap .i64 ((↑zl3 : Int) + 1))) zp2 zl3 fun x327 l328 c329 =>
                SLS x327 c329 0 (if (IntKind.wrap .i64 ((↑zl3 : Int) - 1)) > 0 then (IntKind.wrap .i64 ((↑zl3 : Int) - 1)) else 0) 1 fun x330 l331 c332 =>
                  NEW 26 [(.slice x324 l325 c326), (.slice x330 l331 c332)] fun B333 =>
                    J_law13_PrizeWorth_9 W R za1 zp2 zl3 zl4 (some ⟨B333, 0, none⟩) 2 2 2 b138 0]])
def J_law13_PrizeWorth_11 (W : World) (R : Ending → Hp → Prop) (b175 : Bool) (zp2 : Option Addr) (zl3 : Nat) (za1 : Addr) (zl4 : Nat) (b138 : Bool) (zn8 : Int) (n139 : Int) : Hp → Prop :=
  BR b175
    (J_law13_PrizeWorth_10 W R true zp2 zl3 za1 zl4 b138)
    (J_law13_PrizeWorth_10 W R (zn8 != n139) zp2 zl3 za1 zl4 b138)
def J_law13_PrizeWorth_12 (W : World) (R : Ending → Hp → Prop) (za0 : Addr) (zp1 : Option Addr) (zl2 : Nat) (zl3 : Nat) (zp4 : Option Addr) (zl5 : Nat) (zl6 : Nat) (zn7 : Int) (nx2 : List Value → Hp → Prop) (b343 : Bool) (n338 : Int) : Hp → Prop :=
  NX [(.pointer (some za0)), (.slice zp1 zl2 zl3), (.slice zp4 zl5 zl6), (.int .i64 zn7), (.tuple #[])] [(.pointer (some za0)), (.slice zp1 zl2 zl3), (.slice zp4 zl5 zl6), (.int .i64 zn7), (.tuple #[])] (nx2 [(.bool b343), (.int .i64 (IntKind.wrap .i64 (n338 + 1)))])
def B_law13_PrizeWorth_0 (W : World) (R : Ending → Hp → Prop) (zb0 : Bool) (za1 : Addr) (zp2 : Option Addr) (zl3 : Nat) (zl4 : Nat) (zp5 : Option Addr) (zl6 : Nat) (zl7 : Nat) (zp8 : Option Addr) (zl9 : Nat) (zl10 : Nat) (zn11 : Int) (zn12 : Int) (zn13 : Int) (zn14 : Int) (zn15 : Int) (zn16 : Int) (n122 : Int) (n123 : Int) (nx0 : List Value → Hp → Prop) : Hp → Prop :=
  BR (decide (n123 < zn16))
    (IXS zp2 zl3 n123 1 fun a124 =>
      RDI .i64 a124 fun n125 =>
        IXS zp5 zl6 n123 1 fun a126 =>
          RDI .i64 a126 fun n127 =>
            BR (n125 != n127)
              (J_law13_PrizeWorth_4 W R (decide (n122 < 0)) zb0 za1 zp2 zl3 zl4 zp5 zl6 zl7 zp8 zl9 zl10 zn11 zn12 zn13 zn14 zn15 zn16 nx0 n123 n122)
              (J_law13_PrizeWorth_4 W R false zb0 za1 zp2 zl3 zl4 zp5 zl6 zl7 zp8 zl9 zl10 zn11 zn12 zn13 zn14 zn15 zn16 nx0 n123 n122))
    (BR (decide (n122 < 0))
      (BR (zn15 != 4)
        (J_law13_PrizeWorth_6 W R true za1 zb0 zp2 zl3 zl4 zp8 zl9 zl10 zn11 zn12 n122 zn15 zn13 zp5 zl6 zn14)
        (BR (zn13 != 0)
          (J_law13_PrizeWorth_6 W R true za1 zb0 zp2 zl3 zl4 zp8 zl9 zl10 zn11 zn12 n122 zn15 zn13 zp5 zl6 zn14)
          (J_law13_PrizeWorth_6 W R (zn14 != 0) za1 zb0 zp2 zl3 zl4 zp8 zl9 zl10 zn11 zn12 n122 zn15 zn13 zp5 zl6 zn14)))
      (J_law13_PrizeWorth_6 W R false za1 zb0 zp2 zl3 zl4 zp8 zl9 zl10 zn11 zn12 n122 zn15 zn13 zp5 zl6 zn14))
theorem B_law13_PrizeWorth_0_eq (W : World) (R : Ending → Hp → Prop) (zb0 : Bool) (za1 : Addr) (zp2 : Option Addr) (zl3 : Nat) (zl4 : Nat) (zp5 : Option Addr) (zl6 : Nat) (zl7 : Nat) (zp8 : Option Addr) (zl9 : Nat) (zl10 : Nat) (zn11 : Int) (zn12 : Int) (zn13 : Int) (zn14 : Int) (zn15 : Int) (zn16 : Int) (n122 : Int) (n123 : Int) (nx0 : List Value → Hp → Prop) (j : Tm) : vc Pg W 245 rs_7 an_7 false (sub (bodyOf Try.f7) [1, 1, 1, 1, 1, 1, 1, 1, 1, 0, 1, 0, 0]) 0 (KLoop [19, 86] [2, 3, 6, 7, 8, 13, 14, 15, 16, 17, 18, 85, 245] [(.bool zb0), (.pointer (some za1)), (.bool false), (.slice zp2 zl3 zl4), (.slice zp5 zl6 zl7), (.slice zp8 zl9 zl10), (.int .i64 zn11), (.int .i64 zn12), (.int .i64 zn13), (.int .i64 zn14), (.int .i64 zn15), (.int .i64 zn16), (.tuple #[])] nx0 (KBlk 0 (KS Pg W 245 rs_7 an_7 false (sub (bodyOf Try.f7) [1, 1, 1, 1, 1, 1, 1, 1, 1, 1]) 0 (fin Pg W 245 rv_7 R)))) (known [19, 86] [(.int .i64 n122), (.int .i64 n123)] (known [2, 3, 6, 7, 8, 13, 14, 15, 16, 17, 18, 85, 245] [(.bool zb0), (.pointer (some za1)), (.bool false), (.slice zp2 zl3 zl4), (.slice zp5 zl6 zl7), (.slice zp8 zl9 zl10), (.int .i64 zn11), (.int .i64 zn12), (.int .i64 zn13), (.int .i64 zn14), (.int .i64 zn15), (.int .i64 zn16), (.tuple #[])] j)) = B_law13_PrizeWorth_0 W R zb0 za1 zp2 zl3 zl4 zp5 zl6 zl7 zp8 zl9 zl10 zn11 zn12 zn13 zn14 zn15 zn16 n122 n123 nx0 := by kernel_rfl
def N_law13_PrizeWorth_0 (I : Int → Int → Hp → Prop) (μ : Int → Int → Hp → Nat) (n1220 : Int) (n1230 : Int) (s : Hp) (vs : List Value) : Hp → Prop := fun s' => ∃ n122 n123, vs = [(.int .i64 n122), (.int .i64 n123)] ∧ I n122 n123 s' ∧ μ n122 n123 s' < μ n1220 n1230 s
theorem L_law13_PrizeWorth_0_rule (W : World) (R : Ending → Hp → Prop) (zb0 : Bool) (za1 : Addr) (zp2 : Option Addr) (zl3 : Nat) (zl4 : Nat) (zp5 : Option Addr) (zl6 : Nat) (zl7 : Nat) (zp8 : Option Addr) (zl9 : Nat) (zl10 : Nat) (zn11 : Int) (zn12 : Int) (zn13 : Int) (zn14 : Int) (zn15 : Int) (zn16 : Int) (I : Int → Int → Hp → Prop) (μ : Int → Int → Hp → Nat) (n1220 : Int) (n1230 : Int) (s : Hp) (h0 : I n1220 n1230 s)
    (hr : ∀ (n122 : Int) (n123 : Int) (s : Hp), I n122 n123 s → B_law13_PrizeWorth_0 W R zb0 za1 zp2 zl3 zl4 zp5 zl6 zl7 zp8 zl9 zl10 zn11 zn12 zn13 zn14 zn15 zn16 n122 n123 (fun vs => N_law13_PrizeWorth_0 I μ n122 n123 s vs) s) : L_law13_PrizeWorth_0 W R zb0 za1 zp2 zl3 zl4 zp5 zl6 zl7 zp8 zl9 zl10 zn11 zn12 zn13 zn14 zn15 zn16 n1220 n1230 s := by
  refine ⟨fun vs s => ∃ n122 n123, vs = [(.int .i64 n122), (.int .i64 n123)] ∧ I n122 n123 s, fun vs s => (match vs with | [.int _ n122, .int _ n123] => μ n122 n123 s | _ => 0), ⟨⟨⟨_, rfl⟩, ⟨⟨_, rfl⟩, trivial⟩⟩, ⟨_, _, rfl, h0⟩⟩, ?_⟩
  intro n122 n123 s hI j
  obtain ⟨n122', n123', hy, hI⟩ := hI
  have hI' : I n122 n123 s := by cases hy; exact hI
  have hh := hr n122 n123 s hI'
  rw [← B_law13_PrizeWorth_0_eq W R zb0 za1 zp2 zl3 zl4 zp5 zl6 zl7 zp8 zl9 zl10 zn11 zn12 zn13 zn14 zn15 zn16 n122 n123 _ j] at hh
  refine vc_mono ?_ _ _ hh
  exact KLoop_mono (fun vs s' h => by obtain ⟨n1221, n1231, rfl, h1, h2⟩ := h; exact ⟨⟨⟨_, rfl⟩, ⟨⟨_, rfl⟩, trivial⟩⟩, ⟨_, _, rfl, h1⟩, h2⟩)
def B_law13_PrizeWorth_1 (W : World) (R : Ending → Hp → Prop) (zb0 : Bool) (za1 : Addr) (zp2 : Option Addr) (zl3 : Nat) (zl4 : Nat) (zp5 : Option Addr) (zl6 : Nat) (zl7 : Nat) (zn8 : Int) (zn9 : Int) (za10 : Addr) (zl11 : Nat) (zn12 : Int) (b138 : Bool) (n139 : Int) (n140 : Int) (nx1 : List Value → Hp → Prop) : Hp → Prop :=
  BR (decide (n140 < zn12))
    (IXS zp2 zl3 n140 1 fun a141 =>
      RDI .i64 a141 fun n142 =>
        BR (decide (n142 < 0))
          (J_law13_PrizeWorth_7 W R zb0 za1 zp2 zl3 zl4 zp5 zl6 zl7 zn8 zn9 za10 zl11 zn12 nx1 b138 n139 n140)
          (RDL (Addr.add za1 0) fun x145 l146 c147 =>
            RDL (Addr.add za1 1) fun x148 l149 c150 =>
              CALL Pg W F_prize_Can [(.agg #[(.slice x145 l146 c147), (.slice x148 l149 c150)]), (.int .i64 n142), (.int .i64 n140)]
                (fun v151 => TUP v151 fun q153 => HD q153 fun v154 r155 => TYB v154 fun b156 =>
                  HD r155 fun v157 r158 => TYI .i64 v157 fun n159 =>
                    NL r158 <|
                      BR (!b156)
                        (BR zb0
                          (J_law13_PrizeWorth_8 W R (zn9 == 4) zl6 zn8)
                          (J_law13_PrizeWorth_8 W R false zl6 zn8))
                        (RDL (Addr.add za1 1) fun x164 l165 c166 =>
                          IXS x164 l165 n140 2 fun a167 =>
                            RDI .i64 (Addr.add a167 1) fun n168 =>
                              RDL (Addr.add za1 1) fun x169 l170 c171 =>
                                IXS x169 l170 n140 2 fun a172 =>
                                  RDI .i64 (Addr.add a172 1) fun n173 =>
                                    IXS (some za10) zl11 n142 1 fun a174 =>
                                      WR (Addr.add a174 0) (.int .i64 n168) <|
                                        J_law13_PrizeWorth_7 W R zb0 za1 zp2 zl3 zl4 zp5 zl6 zl7 zn8 zn9 za10 zl11 zn12 nx1 b138 (IntKind.wrap .i64 (n139 + n173)) n140))
                  (fun e152 => R (.panicked e152))))
    (BR (zn9 != 0)
      (J_law13_PrizeWorth_11 W R true zp2 zl3 za1 zl4 b138 zn8 n139)
      (CALL Pg W F_ref13_Ints [(.slice zp5 zl6 zl7), (.slice (some za10) zl11 zl11)]
        (fun v334 => TYB v334 fun b336 =>
          J_law13_PrizeWorth_11 W R (!b336) zp2 zl3 za1 zl4 b138 zn8 n139)
          (fun e335 => R (.panicked e335))))
theorem B_law13_PrizeWorth_1_eq (W : World) (R : Ending → Hp → Prop) (zb0 : Bool) (za1 : Addr) (zp2 : Option Addr) (zl3 : Nat) (zl4 : Nat) (zp5 : Option Addr) (zl6 : Nat) (zl7 : Nat) (zn8 : Int) (zn9 : Int) (za10 : Addr) (zl11 : Nat) (zn12 : Int) (b138 : Bool) (n139 : Int) (n140 : Int) (nx1 : List Value → Hp → Prop) (j : Tm) : vc Pg W 245 rs_7 an_7 false (sub (bodyOf Try.f7) [1, 1, 1, 1, 1, 1, 1, 1, 1, 1, 1, 1, 0, 1, 0, 0]) 2 (KLoop [6, 22, 145] [2, 3, 7, 13, 14, 15, 21, 143, 144, 245] [(.bool zb0), (.pointer (some za1)), (.slice zp2 zl3 zl4), (.slice zp5 zl6 zl7), (.int .i64 zn8), (.int .i64 zn9), (.slice (some za10) zl11 zl11), (.slice zp2 zl3 zl4), (.int .i64 zn12), (.tuple #[])] nx1 (KBlk 2 (KS Pg W 245 rs_7 an_7 false (sub (bodyOf Try.f7) [1, 1, 1, 1, 1, 1, 1, 1, 1, 1, 1, 1, 1]) 0 (fin Pg W 245 rv_7 R)))) (known [6, 22, 145] [(.bool b138), (.int .i64 n139), (.int .i64 n140)] (known [2, 3, 7, 13, 14, 15, 21, 143, 144, 245] [(.bool zb0), (.pointer (some za1)), (.slice zp2 zl3 zl4), (.slice zp5 zl6 zl7), (.int .i64 zn8), (.int .i64 zn9), (.slice (some za10) zl11 zl11), (.slice zp2 zl3 zl4), (.int .i64 zn12), (.tuple #[])] j)) = B_law13_PrizeWorth_1 W R zb0 za1 zp2 zl3 zl4 zp5 zl6 zl7 zn8 zn9 za10 zl11 zn12 b138 n139 n140 nx1 := by kernel_rfl
def N_law13_PrizeWorth_1 (I : Bool → Int → Int → Hp → Prop) (μ : Bool → Int → Int → Hp → Nat) (b1380 : Bool) (n1390 : Int) (n1400 : Int) (s : Hp) (vs : List Value) : Hp → Prop := fun s' => ∃ b138 n139 n140, vs = [(.bool b138), (.int .i64 n139), (.int .i64 n140)] ∧ I b138 n139 n140 s' ∧ μ b138 n139 n140 s' < μ b1380 n1390 n1400 s
theorem L_law13_PrizeWorth_1_rule (W : World) (R : Ending → Hp → Prop) (zb0 : Bool) (za1 : Addr) (zp2 : Option Addr) (zl3 : Nat) (zl4 : Nat) (zp5 : Option Addr) (zl6 : Nat) (zl7 : Nat) (zn8 : Int) (zn9 : Int) (za10 : Addr) (zl11 : Nat) (zn12 : Int) (I : Bool → Int → Int → Hp → Prop) (μ : Bool → Int → Int → Hp → Nat) (b1380 : Bool) (n1390 : Int) (n1400 : Int) (s : Hp) (h0 : I b1380 n1390 n1400 s)
    (hr : ∀ (b138 : Bool) (n139 : Int) (n140 : Int) (s : Hp), I b138 n139 n140 s → B_law13_PrizeWorth_1 W R zb0 za1 zp2 zl3 zl4 zp5 zl6 zl7 zn8 zn9 za10 zl11 zn12 b138 n139 n140 (fun vs => N_law13_PrizeWorth_1 I μ b138 n139 n140 s vs) s) : L_law13_PrizeWorth_1 W R zb0 za1 zp2 zl3 zl4 zp5 zl6 zl7 zn8 zn9 za10 zl11 zn12 b1380 n1390 n1400 s := by
  refine ⟨fun vs s => ∃ b138 n139 n140, vs = [(.bool b138), (.int .i64 n139), (.int .i64 n140)] ∧ I b138 n139 n140 s, fun vs s => (match vs with | [.bool b138, .int _ n139, .int _ n140] => μ b138 n139 n140 s | _ => 0), ⟨⟨⟨_, rfl⟩, ⟨⟨_, rfl⟩, ⟨⟨_, rfl⟩, trivial⟩⟩⟩, ⟨_, _, _, rfl, h0⟩⟩, ?_⟩
  intro b138 n139 n140 s hI j
  obtain ⟨b138', n139', n140', hy, hI⟩ := hI
  have hI' : I b138 n139 n140 s := by cases hy; exact hI
  have hh := hr b138 n139 n140 s hI'
  rw [← B_law13_PrizeWorth_1_eq W R zb0 za1 zp2 zl3 zl4 zp5 zl6 zl7 zn8 zn9 za10 zl11 zn12 b138 n139 n140 _ j] at hh
  refine vc_mono ?_ _ _ hh
  exact KLoop_mono (fun vs s' h => by obtain ⟨b1381, n1391, n1401, rfl, h1, h2⟩ := h; exact ⟨⟨⟨_, rfl⟩, ⟨⟨_, rfl⟩, ⟨⟨_, rfl⟩, trivial⟩⟩⟩, ⟨_, _, _, rfl, h1⟩, h2⟩)
def B_law13_PrizeWorth_2 (W : World) (R : Ending → Hp → Prop) (za0 : Addr) (zp1 : Option Addr) (zl2 : Nat) (zl3 : Nat) (zp4 : Option Addr) (zl5 : Nat) (zl6 : Nat) (zn7 : Int) (b337 : Bool) (n338 : Int) (nx2 : List Value → Hp → Prop) : Hp → Prop :=
  BR (decide (n338 < zn7))
    (IXS zp4 zl5 n338 1 fun a339 =>
      RDL a339 fun x340 l341 c342 =>
        BR ((↑l341 : Int) == (↑zl2 : Int))
          (J_law13_PrizeWorth_12 W R za0 zp1 zl2 zl3 zp4 zl5 zl6 zn7 nx2 b337 n338)
          (RDL (Addr.add za0 0) fun x344 l345 c346 =>
            RDL (Addr.add za0 1) fun x347 l348 c349 =>
              CALL Pg W F_prize_Worth [(.agg #[(.slice x344 l345 c346), (.slice x347 l348 c349)]), (.slice x340 l341 c342)]
                (fun v350 => TUP v350 fun q352 => HD q352 fun v353 r354 => TYL v353 fun x355 l356 c357 =>
                  HD r354 fun v358 r359 => TYI .i64 v358 fun n360 =>
                    HD r359 fun v361 r362 => TYI .i64 v361 fun n363 =>
                      NL r362 <|
                        BR (n363 != 2)
                          (R (.returned (.bool false)))
                          (J_law13_PrizeWorth_12 W R za0 zp1 zl2 zl3 zp4 zl5 zl6 zn7 nx2 b337 n338))
                  (fun e351 => R (.panicked e351))))
    (CALL Pg W F_law13_awake []
      (fun v364 => TYB v364 fun b366 =>
        R (.returned (.bool b366)))
        (fun e365 => R (.panicked e365)))
theorem B_law13_PrizeWorth_2_eq (W : World) (R : Ending → Hp → Prop) (za0 : Addr) (zp1 : Option Addr) (zl2 : Nat) (zl3 : Nat) (zp4 : Option Addr) (zl5 : Nat) (zl6 : Nat) (zn7 : Int) (b337 : Bool) (n338 : Int) (nx2 : List Value → Hp → Prop) (j : Tm) : vc Pg W 245 rs_7 an_7 false (sub (bodyOf Try.f7) [1, 1, 1, 1, 1, 1, 1, 1, 1, 1, 1, 1, 1, 1, 0, 1, 0, 0]) 4 (KLoop [6, 225] [3, 7, 223, 224, 245] [(.pointer (some za0)), (.slice zp1 zl2 zl3), (.slice zp4 zl5 zl6), (.int .i64 zn7), (.tuple #[])] nx2 (KBlk 4 (KS Pg W 245 rs_7 an_7 false (sub (bodyOf Try.f7) [1, 1, 1, 1, 1, 1, 1, 1, 1, 1, 1, 1, 1, 1, 1]) 0 (fin Pg W 245 rv_7 R)))) (known [6, 225] [(.bool b337), (.int .i64 n338)] (known [3, 7, 223, 224, 245] [(.pointer (some za0)), (.slice zp1 zl2 zl3), (.slice zp4 zl5 zl6), (.int .i64 zn7), (.tuple #[])] j)) = B_law13_PrizeWorth_2 W R za0 zp1 zl2 zl3 zp4 zl5 zl6 zn7 b337 n338 nx2 := by kernel_rfl
def N_law13_PrizeWorth_2 (I : Bool → Int → Hp → Prop) (μ : Bool → Int → Hp → Nat) (b3370 : Bool) (n3380 : Int) (s : Hp) (vs : List Value) : Hp → Prop := fun s' => ∃ b337 n338, vs = [(.bool b337), (.int .i64 n338)] ∧ I b337 n338 s' ∧ μ b337 n338 s' < μ b3370 n3380 s
theorem L_law13_PrizeWorth_2_rule (W : World) (R : Ending → Hp → Prop) (za0 : Addr) (zp1 : Option Addr) (zl2 : Nat) (zl3 : Nat) (zp4 : Option Addr) (zl5 : Nat) (zl6 : Nat) (zn7 : Int) (I : Bool → Int → Hp → Prop) (μ : Bool → Int → Hp → Nat) (b3370 : Bool) (n3380 : Int) (s : Hp) (h0 : I b3370 n3380 s)
    (hr : ∀ (b337 : Bool) (n338 : Int) (s : Hp), I b337 n338 s → B_law13_PrizeWorth_2 W R za0 zp1 zl2 zl3 zp4 zl5 zl6 zn7 b337 n338 (fun vs => N_law13_PrizeWorth_2 I μ b337 n338 s vs) s) : L_law13_PrizeWorth_2 W R za0 zp1 zl2 zl3 zp4 zl5 zl6 zn7 b3370 n3380 s := by
  refine ⟨fun vs s => ∃ b337 n338, vs = [(.bool b337), (.int .i64 n338)] ∧ I b337 n338 s, fun vs s => (match vs with | [.bool b337, .int _ n338] => μ b337 n338 s | _ => 0), ⟨⟨⟨_, rfl⟩, ⟨⟨_, rfl⟩, trivial⟩⟩, ⟨_, _, rfl, h0⟩⟩, ?_⟩
  intro b337 n338 s hI j
  obtain ⟨b337', n338', hy, hI⟩ := hI
  have hI' : I b337 n338 s := by cases hy; exact hI
  have hh := hr b337 n338 s hI'
  rw [← B_law13_PrizeWorth_2_eq W R za0 zp1 zl2 zl3 zp4 zl5 zl6 zn7 b337 n338 _ j] at hh
  refine vc_mono ?_ _ _ hh
  exact KLoop_mono (fun vs s' h => by obtain ⟨b3371, n3381, rfl, h1, h2⟩ := h; exact ⟨⟨⟨_, rfl⟩, ⟨⟨_, rfl⟩, trivial⟩⟩, ⟨_, _, rfl, h1⟩, h2⟩)
def T_law13_PrizeWorth (W : World) (x1 : Option Addr) (l2 : Nat) (c3 : Nat) (x4 : Option Addr) (l5 : Nat) (c6 : Nat) (x7 : Option Addr) (l8 : Nat) (c9 : Nat) (b10 : Bool) (R : Ending → Hp → Prop) : Hp → Prop :=
  NEW 25 [(.slice x1 l2 c3), (.slice x4 l5 c6)] fun B11 =>
    RDL (Addr.add ⟨B11, 0, none⟩ 0) fun x12 l13 c14 =>
      RDL (Addr.add ⟨B11, 0, none⟩ 1) fun x15 l16 c17 =>
        CALL Pg W F_law13_far [(.agg #[(.slice x12 l13 c14), (.slice x15 l16 c17)]), (.slice none 0 0)]
          (fun v18 => TYB v18 fun b20 =>
            BR b20
              (J_law13_PrizeWorth_2 W R true B11 x7 l8 c9 b10)
              (RDL (Addr.add ⟨B11, 0, none⟩ 0) fun x113 l114 c115 =>
                RDL (Addr.add ⟨B11, 0, none⟩ 1) fun x116 l117 c118 =>
                  CALL Pg W F_ref13_Prizes [(.agg #[(.slice x113 l114 c115), (.slice x116 l117 c118)])]
                    (fun v119 => TYB v119 fun b121 =>
                      J_law13_PrizeWorth_2 W R (!b121) B11 x7 l8 c9 b10)
                      (fun e120 => R (.panicked e120))))
            (fun e19 => R (.panicked e19))
theorem T_law13_PrizeWorth_eq (W : World) (x1 : Option Addr) (l2 : Nat) (c3 : Nat) (x4 : Option Addr) (l5 : Nat) (c6 : Nat) (x7 : Option Addr) (l8 : Nat) (c9 : Nat) (b10 : Bool) (R : Ending → Hp → Prop) : vfun Pg W an_7 Try.f7 [(.agg #[(.slice x1 l2 c3), (.slice x4 l5 c6)]), (.slice x7 l8 c9), (.bool b10)] R = T_law13_PrizeWorth W x1 l2 c3 x4 l5 c6 x7 l8 c9 b10 R := by kernel_rfl
theorem does_law13_PrizeWorth (W : World) (x1 : Option Addr) (l2 : Nat) (c3 : Nat) (x4 : Option Addr) (l5 : Nat) (c6 : Nat) (x7 : Option Addr) (l8 : Nat) (c9 : Nat) (b10 : Bool) (R : Ending → Hp → Prop) (s : Hp) (h : T_law13_PrizeWorth W x1 l2 c3 x4 l5 c6 x7 l8 c9 b10 R s) : Does Pg W F_law13_PrizeWorth #[(.agg #[(.slice x1 l2 c3), (.slice x4 l5 c6)]), (.slice x7 l8 c9), (.bool b10)] s R :=
  does_of_vfun Pg W an_7 Try.func7 rfl (by kernel_rfl) (by rw [T_law13_PrizeWorth_eq]; exact h)
end Go.Proofs.Ytfaeokcbfnlgbaa.G

/- The statement PrizeWorth. -/
set_option linter.unusedSimpArgs false
set_option linter.unusedVariables false
set_option maxRecDepth 20000
namespace Go.Proofs.Ytfaeokcbfnlgbaa.G
open Go.V
section
variable {W : World} {K : VK} {E : List PanicEntry → Hp → Prop} {s : Hp} {T : PT}
theorem sl0 (c : Nat) (a : Addr) : (if c = ((0 : Int)).toNat then some a else (some a).map (·.add ((0 : Int).toNat * 1))) = some a := by split <;> rfl
/-- Giving lists of other lengths. -/
theorem worth_bad {x y l : Option Addr} {c c' cl : Nat} {b : Bool} {g : List (Option Nat)} (hok : okP T = true) (hx : MnAt s x T.men) (hy : PzAt s y T.list) {B0 : Nat} (c0 : cellAt s (Addr.add ⟨B0, 0, none⟩ 0) = some (.slice x T.n c)) (c1 : cellAt s (Addr.add ⟨B0, 0, none⟩ 1) = some (.slice y T.z c')) (hlg : g.length = T.z) (hg : RowAt s l (ints (manL g)))
    (h : ∀ s', Ext s s' → K (.bool true) s') : J_law13_PrizeWorth_10 W (endK K E) false l T.z ⟨B0, 0, none⟩ cl b s := by
  have h6 := (okP_vd hok).z6
  have lmg : (manL g).length = T.z := by unfold manL; rw [List.length_map]; exact hlg
  unfold J_law13_PrizeWorth_10
  refine BR_ff rfl ?_
  have hw : IntKind.i64.wrap ((T.z : Int) + 1) = ((T.z + 1 : Nat) : Int) := wrap_succ (by omega)
  have hif : (if IntKind.i64.wrap ((T.z : Int) - 1) > 0 then IntKind.i64.wrap ((T.z : Int) - 1) else 0) = ((T.z - 1 : Nat) : Int) := by
    rw [wrap_i64 (by omega) (by omega)]
    split <;> omega
  rw [hw, hif, toNat_nat, Int.toNat_zero]
  have hz : (T.z : Int) = (T.z : Nat) := rfl
  have leaf : ∀ (t : Hp) (x1 y1 : Option Addr) (c1' : Nat), P2 s t (some ⟨x1, 1 + T.z, c1', -1 :: manL g⟩) (some ⟨y1, T.z, T.z + 1, manL g⟩) → ∀ b : Bool,
      (SLS y1 (T.z + 1) 0 ((T.z - 1 : Nat) : Int) 1 fun x185 l186 c187 => NEW 26 [(.slice x1 (1 + T.z) c1'), (.slice x185 l186 c187)] fun B188 => J_law13_PrizeWorth_9 W (endK K E) ⟨B0, 0, none⟩ l T.z cl (some ⟨B188, 0, none⟩) 2 2 2 b 0) t := by
    intro t x1 y1 c1' hP b
    obtain ⟨fa, _⟩ := hP.a _ rfl
    obtain ⟨fb, _⟩ := hP.b _ rfl
    have fa : Fr s.size t x1 (1 + T.z) c1' 1 (ints (-1 :: manL g)) := fa
    have fb : Fr s.size t y1 T.z (T.z + 1) 1 (ints (manL g)) := fb
    refine ⟨⟨by omega, by omega, by omega⟩, ?_⟩
    have hy1 : ∃ a, y1 = some a := by
      obtain ⟨a, ha, _⟩ := fb.buf.own 0 (by omega)
      exact ⟨a, ha⟩
    obtain ⟨a, rfl⟩ := hy1
    rw [sl0]
    have e1 : ((T.z - 1 : Nat) : Int).toNat - (0 : Int).toNat = T.z - 1 := by rw [toNat_nat]; rfl
    rw [e1]
    refine ne2 fun u e z p1 p2 => ?_
    unfold J_law13_PrizeWorth_9
    have eu := hP.ext.trans e
    have r1 : RowAt t x1 (ints (-1 :: manL g)) := fa.row
    have r2 : RowAt t (some a) (ints ((manL g).take (T.z - 1))) := fun i hi => by
      rw [ints_len, List.length_take] at hi
      have hi' : i < (ints (manL g)).length := by rw [ints_len]; omega
      obtain ⟨a', ha', hc⟩ := fb.row i hi'
      refine ⟨a', ha', ?_⟩
      rw [hc, ints_get, ints_get, List.getElem_take]
    have get : ∀ i, i < 2 → ∀ v, Ext u v → ∃ x' l' c' ds, cellAt v ((⟨t.size, 0, none⟩ : Addr).add (i * 1)) = some (.slice x' l' c') ∧ RowAt v x' (ints ds) ∧ l' = ds.length := by
      intro i hi v ev
      match i, hi with
      | 0, _ => exact ⟨_, _, _, _, ev.cell p1.cell, (r1.ext e).ext ev, by rw [List.length_cons, lmg]; omega⟩
      | 1, _ => exact ⟨_, _, _, _, ev.cell p2.cell, (r2.ext e).ext ev, by rw [List.length_take, lmg]; omega⟩
    refine L_law13_PrizeWorth_2_rule W _ ⟨B0, 0, none⟩ l T.z cl (some ⟨t.size, 0, none⟩) 2 2 2 (fun _ n338 v => Ext u v ∧ ∃ i : Nat, i ≤ 2 ∧ n338 = i) (fun _ n338 _ => ((2 : Int) - n338).toNat) b 0 u ⟨Ext.refl _, 0, by omega, rfl⟩ ?_
    rintro b337 n338 v ⟨ev, i, hi, rfl⟩
    unfold B_law13_PrizeWorth_2
    have esv := eu.trans ev
    refine BR_dec (fun hlt => ?_) (fun hlt => ?_)
    · have hi2 : i < 2 := by omega
      obtain ⟨x', l', cx', ds, hc, hr, hl⟩ := get i hi2 v ev
      have hms : ((2 : Int) - IntKind.i64.wrap ((i : Int) + 1)).toNat < ((2 : Int) - (i : Int)).toNat := by rw [wrap_succ (by omega)]; omega
      refine IXS_nat hi2 ?_
      refine ⟨_, _, _, hc, ?_⟩
      refine BR_eq (fun _ => ?_) (fun hne => ?_)
      · unfold J_law13_PrizeWorth_12
        exact ⟨rfl, _, _, rfl, ⟨ev, i + 1, by omega, wrap_succ (by omega)⟩, hms⟩
      · refine ⟨_, _, _, esv.cell c0, _, _, _, esv.cell c1, ?_⟩
        refine c_WorthL hl (hx.ext esv) (hy.ext esv) hr fun w q cq f fq => ?_
        rw [worth_len hok (fun e => hne (by rw [hl, e]))] at fq ⊢
        try simp only [TUP_mk, AGG_mk, HD_mk, NL_mk, TYI_mk, TYB_mk, TYP_mk, TYL_mk, TYS_mk, TYM_mk, SO_mk, NX_mk, endK_mk, endK_mk', add_0]
        refine BR_ff rfl ?_
        unfold J_law13_PrizeWorth_12
        exact ⟨rfl, _, _, rfl, ⟨ev.trans f, i + 1, by omega, wrap_succ (by omega)⟩, hms⟩
    · exact c_awake' esv fun w ew => h w ew
  have hP0 : P2 s s none none := ⟨Ext.refl s, fun e he => (by cases he), fun e he => (by cases he), fun e f p q he => (by cases he)⟩
  have hq : ∀ t, Ext s t → RowAt t l (ints (manL g)) := fun t e => hg.ext e
  have h1000 : T.z ≤ 1000 := by omega
  have hz1 : T.z ≤ T.z + 1 := by omega
  have hz2 : T.z + 1 ≤ 1000 := by omega
  have hz3 : 0 < T.z + 1 := by omega
  repeat' (first
    | with_reducible refine CONJ_more ?_ ?_
    | with_reducible refine CONJ_one ?_
    | with_reducible refine P2.newA (t0 := s) (by assumption) fun t hP => ?_
    | with_reducible refine P2.newB (t0 := s) hz2 hz3 (by assumption) fun t hP => ?_
    | with_reducible refine P2.appA (t0 := s) hq lmg h1000 (by assumption) fun t x c hP => ?_
    | with_reducible refine P2.appB (t0 := s) hq lmg h1000 hz1 hz2 (by assumption) fun t hP => ?_
    | exact leaf _ _ _ _ (by assumption) _)
end
end Go.Proofs.Ytfaeokcbfnlgbaa.G

/- The statement PrizeWorth. -/
set_option linter.unusedSimpArgs false
set_option linter.unusedVariables false
set_option maxRecDepth 20000
namespace Go.Proofs.Ytfaeokcbfnlgbaa.G
open Go.V
theorem find_firstN {p : Nat → Bool} {n i : Nat} (hi : i < n) (hp : p i = true) (hno : ∀ j, j < i → p j = false) : (List.range n).find? p = some i := by
  rw [List.find?_eq_some_iff_getElem]
  refine ⟨hp, i, by simpa using hi, by simp, fun j hj => ?_⟩
  rw [List.getElem_range, hno j hj]; rfl
section
variable {W : World} {K : VK} {E : List PanicEntry → Hp → Prop} {s : Hp} {T : PT}
theorem w_PrizeWorth {x y q : Option Addr} {c c' cq : Nat} {bs : List Nat} {un : Bool} (hx : MnAt s x T.men) (hy : PzAt s y T.list) (hq : RowAt s q (bytes bs)) (h256 : ∀ b ∈ bs, b < 256) (h : ∀ s', Ext s s' → K (.bool true) s') :
    CALL Pg W F_law13_PrizeWorth [.agg #[.slice x T.n c, .slice y T.z c'], .slice q bs.length cq, .bool un] K E s := by
  refine does_law13_PrizeWorth W x T.n c y T.z c' q bs.length cq un _ s ?_
  unfold T_law13_PrizeWorth
  refine ne2 fun s1 e1 z1 o1 o2 => ?_
  have c0 := o1.cell
  have c1 := o2.cell
  refine ⟨_, _, _, c0, _, _, _, c1, ?_⟩
  refine c_far fun s2 b e2 hb => ?_
  try simp only [TUP_mk, AGG_mk, HD_mk, NL_mk, TYI_mk, TYB_mk, TYP_mk, TYL_mk, TYS_mk, TYM_mk, SO_mk, NX_mk, endK_mk, endK_mk', add_0]
  have rx : ∀ {t : Hp}, Ext s1 t → MnAt t x T.men := fun e => hx.ext (e1.trans e)
  have ry : ∀ {t : Hp}, Ext s1 t → PzAt t y T.list := fun e => hy.ext (e1.trans e)
  have J2 : ∀ (b : Bool) (t : Hp), Ext s1 t → (b = false → okP T = true) → J_law13_PrizeWorth_2 W (endK K E) b s.size q bs.length cq un t := by
    intro b t et hb
    unfold J_law13_PrizeWorth_2
    refine BR_bool (fun _ => c_awake' et fun u eu => h u (e1.trans eu)) (fun hf => ?_)
    have hok := hb hf
    have hv := okP_vd hok
    have h8 := hv.n8
    have h6 := hv.z6
    refine ⟨_, _, _, et.cell c0, _, _, _, et.cell c1, ?_⟩
    refine w_made hok (rx et) (ry et) (hq.ext (e1.trans et)) h256 fun t1 l cl f1 r1 => ?_
    try simp only [TUP_mk, AGG_mk, HD_mk, NL_mk, TYI_mk, TYB_mk, TYP_mk, TYL_mk, TYS_mk, TYM_mk, SO_mk, NX_mk, endK_mk, endK_mk', add_0]
    generalize hg : madeL T bs (!un) T.z = g at r1
    have kg : OkG T g := by rw [← hg]; exact made_okG T bs (!un) T.z
    have lg : g.length = T.z := by rw [← hg]; exact madeL_len T bs (!un) T.z
    have cg : un = false → CanG T g := fun hu => by rw [← hg, hu]; exact made_can T bs T.z
    have lmg : (manL g).length = T.z := by unfold manL; rw [List.length_map]; exact lg
    have g1 := et.trans f1
    refine ⟨_, _, _, g1.cell c0, _, _, _, g1.cell c1, ?_⟩
    refine c_DueV hok (rx g1) (ry g1) fun t2 d cd f2 r2 => ?_
    try simp only [TUP_mk, AGG_mk, HD_mk, NL_mk, TYI_mk, TYB_mk, TYP_mk, TYL_mk, TYS_mk, TYM_mk, SO_mk, NX_mk, endK_mk, endK_mk', add_0]
    have g2 := g1.trans f2
    refine ⟨_, _, _, g2.cell c0, _, _, _, g2.cell c1, ?_⟩
    refine c_WorthL (due_len T).symm (rx g2) (ry g2) r2.row fun t3 w3 cw3 f3 r3 => ?_
    rw [worth_ok (g := dueP T) hok (due_okG hv T.z) (due_canG hv) (dueL_len T T.z)] at r3 ⊢
    try simp only [TUP_mk, AGG_mk, HD_mk, NL_mk, TYI_mk, TYB_mk, TYP_mk, TYL_mk, TYS_mk, TYM_mk, SO_mk, NX_mk, endK_mk, endK_mk', add_0]
    have g3 := g2.trans f3
    refine ⟨_, _, _, g3.cell c0, _, _, _, g3.cell c1, ?_⟩
    refine c_WorthL lmg.symm (rx g3) (ry g3) (r1.row.ext (f2.trans f3)) fun t4 w4 cw4 f4 r4 => ?_
    try simp only [TUP_mk, AGG_mk, HD_mk, NL_mk, TYI_mk, TYB_mk, TYP_mk, TYL_mk, TYS_mk, TYM_mk, SO_mk, NX_mk, endK_mk, endK_mk', add_0]
    have g4 := g3.trans f4
    refine ⟨_, _, _, g4.cell c0, _, _, _, g4.cell c1, ?_⟩
    refine c_WrongL lmg.symm (rx g4) (ry g4) (r1.row.ext (f2.trans (f3.trans f4))) fun t5 f5 => ?_
    rw [wrong_gv hok kg lg]
    try simp only [TUP_mk, AGG_mk, HD_mk, NL_mk, TYI_mk, TYB_mk, TYP_mk, TYL_mk, TYS_mk, TYM_mk, SO_mk, NX_mk, endK_mk, endK_mk', add_0]
    have g5 := g4.trans f5
    have rl : ∀ {v : Hp}, Ext t5 v → RowAt v l (ints (manL g)) := fun e => r1.row.ext (f2.trans (f3.trans (f4.trans (f5.trans e))))
    have rd : ∀ {v : Hp}, Ext t5 v → RowAt v d (ints (manL (dueP T))) := fun e => r2.row.ext (f3.trans (f4.trans (f5.trans e)))
    have rw4 : ∀ {v : Hp}, Ext t5 v → RowAt v w4 (ints (worthR T (manL g)).1) := fun e => r4.row.ext (f5.trans e)
    generalize hWR : worthR T (manL g) = wr at rw4 ⊢
    generalize hWP : wrongP T (manL g) = wp
    refine BR_ff rfl ?_
    unfold J_law13_PrizeWorth_1
    refine BR_ff rfl ?_
    unfold J_law13_PrizeWorth_0
    refine BR_ff (by simp) ?_
    -- the second part: what it is worth
    have J5 : ∀ v, Ext t5 v → J_law13_PrizeWorth_5 W (endK K E) false ⟨s.size, 0, none⟩ un l T.z cl w4 wr.1.length cw4 wr.2.1 wr.2.2 v := by
      intro v ev
      unfold J_law13_PrizeWorth_5
      refine BR_ff rfl ?_
      have gv := g5.trans ev
      refine ⟨_, _, _, gv.cell c0, ?_⟩
      dsimp only
      rw [toNat_nat]
      refine MKS_rule zc_3 (by omega) fun v1 j1 y1 n1 => ?_
      refine L_law13_PrizeWorth_1_rule W _ un ⟨s.size, 0, none⟩ l T.z cl w4 wr.1.length cw4 wr.2.1 wr.2.2 ⟨v.size, 0, none⟩ T.n T.z
        (fun _ n139 n140 u => Ext v u ∧ ∃ k : Nat, k ≤ T.z ∧ n140 = k ∧ n139 = (worL T (manL g) k).sum ∧ Buf u (some ⟨v.size, 0, none⟩) T.n (ints (worL T (manL g) k)) ∧ ∀ i m, i < k → g[i]? = some (some m) → canP T m i = true)
        (fun _ _ n140 _ => ((T.z : Int) - n140).toNat) false 0 0 v1 ⟨j1, 0, by omega, rfl, ?_, ?_, fun i m hi => by omega⟩ ?_
      · unfold worL
        have : ∀ n : Nat, (List.replicate n (0 : Int)).sum = 0 := fun n => by
          induction n with
          | zero => rfl
          | succ n ih => rw [List.replicate_succ, List.sum_cons, ih]; rfl
        rw [this]
      · refine ⟨by rw [ints_len, worL_len]; exact Nat.le_refl _, fun i hi => ⟨_, rfl, .int .i64 0, ?_, fun hh => ?_⟩⟩
        · rw [add_nil, Nat.zero_add]; exact n1 i hi
        · rw [ints_get hh]; simp [worL]
      rintro b138 n139 n140 u ⟨eu, k, hk, rfl, rfl, hbuf, hcan⟩
      unfold B_law13_PrizeWorth_1
      have etu := ev.trans eu
      have gu := g5.trans etu
      refine BR_dec (fun hlt => ?_) (fun hlt => ?_)
      · have hkz : k < T.z := by omega
        obtain ⟨a, ha, ca⟩ := row_int (rl etu) (by omega : k < (manL g).length)
        rw [man_getD (by omega)] at ca
        refine IXS_at ha hkz ?_
        refine ⟨_, ca, ?_⟩
        have hstep := worL_step (T := T) (g := g) (k := k) (by omega)
        cases ho : g.getD k none with
        | none =>
          rw [ho] at hstep
          refine BR_tt (decide_eq_true (by show (-1 : Int) < 0; omega)) ?_
          unfold J_law13_PrizeWorth_7
          refine ⟨rfl, _, _, _, rfl, ⟨eu, k + 1, hkz, wrap_succ (by omega), ?_, ?_, fun i m hi hm => ?_⟩, ms_succ hkz (by omega)⟩
          · rw [hstep]
          · rw [hstep]; exact hbuf
          · by_cases e : i = k
            · subst e
              rw [getD_lt (by omega)] at ho
              rw [List.getElem?_eq_getElem (by omega), ho] at hm
              cases hm
            · exact hcan i m (by omega) hm
        | some m =>
          rw [ho] at hstep
          have hgk : g[k]? = some (some m) := by
            rw [getD_lt (by omega)] at ho
            rw [List.getElem?_eq_getElem (by omega), ho]
          have hm := kg.lt m (List.mem_of_getElem? hgk)
          refine BR_ff (decide_eq_false (by show ¬ ((m : Nat) : Int) < 0; omega)) ?_
          refine ⟨_, _, _, gu.cell c0, _, _, _, gu.cell c1, ?_⟩
          refine c_CanV hok hm hkz (rx gu) (ry gu) fun u1 p1 => ?_
          try simp only [TUP_mk, AGG_mk, HD_mk, NL_mk, TYI_mk, TYB_mk, TYP_mk, TYL_mk, TYS_mk, TYM_mk, SO_mk, NX_mk, endK_mk, endK_mk', add_0]
          cases hc : canP T m k with
          | false =>
            refine BR_tt rfl ?_
            have hwr : wr = ([], 0, 4) := by rw [← hWR]; exact worth_no hok kg lg hgk hc
            rw [hwr]
            refine BR_bool (fun hu => ?_) (fun hu => ?_)
            · unfold J_law13_PrizeWorth_8
              refine BR_tt rfl ?_
              refine BR_tt rfl ?_
              refine BR_tt rfl ?_
              exact c_awake' (gu.trans p1) fun z ez => h z (e1.trans ez)
            · have := cg hu k m hgk
              rw [hc] at this; cases this
          | true =>
            refine BR_ff rfl ?_
            have gu1 := gu.trans p1
            have hbuf1 := hbuf.ext p1
            obtain ⟨az, v0, v1', v2⟩ := pz_row (ry gu1) hkz
            refine ⟨_, _, _, gu1.cell c1, ?_⟩
            refine IXS_at v0 hkz ?_
            refine ⟨_, v2, ?_⟩
            refine ⟨_, _, _, gu1.cell c1, ?_⟩
            refine IXS_at v0 hkz ?_
            refine ⟨_, v2, ?_⟩
            refine IXS_nat hm ?_
            have hmi : m < (ints (worL T (manL g) k)).length := by rw [ints_len, worL_len]; exact hm
            have hat := hbuf1.at hmi
            have hset := hbuf1.set (v := .int .i64 (T.pz k).worth) hmi
            rw [Nat.mul_one]
            refine WR_own hat rfl ?_
            unfold J_law13_PrizeWorth_7
            have hsum := worL_sum (k := k) kg (by omega) ho
            have hbd := sum_bd (worL T (manL g) (k + 1)) 1000 (worL_bd hv (manL g) (k + 1) hkz)
            rw [worL_len] at hbd
            refine ⟨rfl, _, _, _, rfl, ⟨Ext.setC (eu.trans p1) (by rw [add_blk]; exact Nat.le_refl _), k + 1, hkz, wrap_succ (by omega), ?_, ?_, fun i m' hi hm' => ?_⟩, ms_succ hkz (by omega)⟩
            · rw [hsum] at hbd ⊢
              exact wrap_i64 (by omega) (by omega)
            · have e : ints (worL T (manL g) (k + 1)) = (ints (worL T (manL g) k)).set m (.int .i64 (T.pz k).worth) := by
                rw [hstep]
                show ints ((worL T (manL g) k).set m _) = _
                unfold ints
                rw [List.map_set]
              rw [e]; exact hset
            · by_cases e : i = k
              · subst e
                rw [hgk] at hm'
                cases hm'
                exact hc
              · exact hcan i m' (by omega) hm'
      · have hkz : k = T.z := by omega
        subst hkz
        have hcg : CanG T g := fun i m hi => hcan i m (by have := (List.getElem?_eq_some_iff.1 hi).1; omega) hi
        have hwr : wr = (worP T (manL g), (worP T (manL g)).sum, 0) := by rw [← hWR]; exact worth_ok hok kg hcg lg
        have hwp : worP T (manL g) = worL T (manL g) T.z := by unfold worP; rw [lmg]
        rw [hwp] at hwr
        have hr4 := rw4 etu
        rw [hwr] at hr4 ⊢
        refine BR_ff rfl ?_
        refine f_Ints (a := worL T (manL g) T.z) (b := worL T (manL g) T.z) hr4 (show RowAt u (some ⟨v.size, 0, none⟩) (ints (worL T (manL g) T.z)) from hbuf.row) rfl (worL_len _ _ _).symm (by rw [worL_len]; omega) ?_
        try simp only [TUP_mk, AGG_mk, HD_mk, NL_mk, TYI_mk, TYB_mk, TYP_mk, TYL_mk, TYS_mk, TYM_mk, SO_mk, NX_mk, endK_mk, endK_mk', add_0]
        unfold J_law13_PrizeWorth_11
        refine BR_ff (by simp) ?_
        have : ((worL T (manL g) T.z).sum != (worL T (manL g) T.z).sum) = false := by simp
        show J_law13_PrizeWorth_10 W (endK K E) ((worL T (manL g) T.z).sum != (worL T (manL g) T.z).sum) _ _ _ _ _ u
        rw [this]
        exact worth_bad hok (rx gu) (ry gu) (gu.cell c0) (gu.cell c1) lg (rl etu) fun z ez => h z (e1.trans (gu.trans ez))
    -- the first part: what is wrong with it
    refine L_law13_PrizeWorth_0_rule W _ un ⟨s.size, 0, none⟩ l T.z cl d T.z cd w4 wr.1.length cw4 wr.2.1 wr.2.2 wp.1 wp.2.1 wp.2.2 T.z
      (fun n122 n123 v => v = t5 ∧ ∃ k : Nat, k ≤ T.z ∧ n123 = k ∧ ((n122 = -1 ∧ ∀ j, j < k → (manL g).getD j 0 = (manL (dueP T)).getD j 0) ∨ ∃ i : Nat, i < k ∧ n122 = i ∧ (manL g).getD i 0 ≠ (manL (dueP T)).getD i 0 ∧ ∀ j, j < i → (manL g).getD j 0 = (manL (dueP T)).getD j 0))
      (fun _ n123 _ => ((T.z : Int) - n123).toNat) (-1) 0 t5 ⟨rfl, 0, by omega, rfl, .inl ⟨rfl, fun j hj => by omega⟩⟩ ?_
    rintro n122 n123 v ⟨rfl, k, hk, rfl, hst⟩
    unfold B_law13_PrizeWorth_0
    refine BR_dec (fun hlt => ?_) (fun hlt => ?_)
    · have hkz : k < T.z := by omega
      obtain ⟨a, ha, ca⟩ := row_int (rl (Ext.refl _)) (by omega : k < (manL g).length)
      obtain ⟨a2, ha2, ca2⟩ := row_int (rd (Ext.refl _)) (by rw [due_len]; omega : k < (manL (dueP T)).length)
      refine IXS_at ha hkz ?_
      refine ⟨_, ca, ?_⟩
      refine IXS_at ha2 hkz ?_
      refine ⟨_, ca2, ?_⟩
      generalize hnx : (fun vs => N_law13_PrizeWorth_0 _ _ _ _ v vs) = nx
      have J3 : ∀ n : Int, ((n = -1 ∧ ∀ j, j < k + 1 → (manL g).getD j 0 = (manL (dueP T)).getD j 0) ∨ ∃ i : Nat, i < k + 1 ∧ n = i ∧ (manL g).getD i 0 ≠ (manL (dueP T)).getD i 0 ∧ ∀ j, j < i → (manL g).getD j 0 = (manL (dueP T)).getD j 0) →
          J_law13_PrizeWorth_3 W (endK K E) un ⟨s.size, 0, none⟩ l T.z cl d T.z cd w4 wr.1.length cw4 wr.2.1 wr.2.2 wp.1 wp.2.1 wp.2.2 T.z nx n k v := by
        intro n hn
        unfold J_law13_PrizeWorth_3
        rw [← hnx]
        exact ⟨rfl, _, _, rfl, ⟨rfl, k + 1, hkz, wrap_succ (by omega), hn⟩, ms_succ hkz (by omega)⟩
      refine BR_ne (fun hne => ?_) (fun heq => ?_)
      · unfold J_law13_PrizeWorth_4
        rcases hst with ⟨h1, h2⟩ | ⟨i, h1, h2, h3, h4⟩
        · refine BR_tt (decide_eq_true (by omega)) ?_
          exact J3 _ (.inr ⟨k, by omega, rfl, hne, h2⟩)
        · refine BR_ff (decide_eq_false (by omega)) ?_
          exact J3 _ (.inr ⟨i, by omega, h2, h3, h4⟩)
      · unfold J_law13_PrizeWorth_4
        refine BR_ff rfl ?_
        rcases hst with ⟨h1, h2⟩ | ⟨i, h1, h2, h3, h4⟩
        · refine J3 _ (.inl ⟨h1, fun j hj => ?_⟩)
          by_cases e : j = k
          · rw [e]; exact heq
          · exact h2 j (by omega)
        · exact J3 _ (.inr ⟨i, by omega, h2, h3, h4⟩)
    · have hkz : k = T.z := by omega
      subst hkz
      rcases hst with ⟨h1, h2⟩ | ⟨i, h1, h2, h3, h4⟩
      · have hw : wp = (0, 0, 4) := by
          rw [← hWP]
          unfold wrongP
          have : (List.range T.z).find? (fun i => (manL g).getD i 0 != (manL (dueP T)).getD i 0) = none := by
            rw [List.find?_eq_none]
            intro i hi
            rw [h2 i (List.mem_range.1 hi)]
            simp
          rw [this]
        rw [hw]
        refine BR_tt (decide_eq_true (by omega)) ?_
        refine BR_ff rfl ?_
        refine BR_ff rfl ?_
        unfold J_law13_PrizeWorth_6
        refine BR_ff rfl ?_
        refine BR_ff (decide_eq_false (by omega)) ?_
        exact J5 v (Ext.refl _)
      · have hw : wp = ((i : Int), (manL (dueP T)).getD i 0, 0) := by
          rw [← hWP]
          unfold wrongP
          have : (List.range T.z).find? (fun i => (manL g).getD i 0 != (manL (dueP T)).getD i 0) = some i := find_firstN h1 (by simpa using h3) (fun j hj => by simpa using h4 j hj)
          rw [this]
        rw [hw, h2]
        refine BR_ff (decide_eq_false (by omega)) ?_
        unfold J_law13_PrizeWorth_6
        refine BR_ff rfl ?_
        refine BR_tt (decide_eq_true (by omega)) ?_
        refine BR_ff rfl ?_
        refine BR_ff (by simp) ?_
        obtain ⟨a2, ha2, ca2⟩ := row_int (rd (Ext.refl _)) (by rw [due_len]; omega : i < (manL (dueP T)).length)
        refine IXS_at ha2 h1 ?_
        refine ⟨_, ca2, ?_⟩
        have : ((manL (dueP T)).getD i 0 != (manL (dueP T)).getD i 0) = false := by simp
        show J_law13_PrizeWorth_5 W (endK K E) ((manL (dueP T)).getD i 0 != (manL (dueP T)).getD i 0) _ _ _ _ _ _ _ _ _ _ v
        rw [this]
        exact J5 v (Ext.refl _)
  refine BR_bool (fun _ => J2 true s2 e2 (fun hh => by cases hh)) (fun hf => ?_)
  refine ⟨_, _, _, e2.cell c0, _, _, _, e2.cell c1, ?_⟩
  refine f_Prizes (rx e2) (ry e2) fun s3 e3 => ?_
  try simp only [TUP_mk, AGG_mk, HD_mk, NL_mk, TYI_mk, TYB_mk, TYP_mk, TYL_mk, TYS_mk, TYM_mk, SO_mk, NX_mk, endK_mk, endK_mk', add_0]
  exact J2 _ s3 (e2.trans e3) (fun hh => by simpa using hh)
end
end Go.Proofs.Ytfaeokcbfnlgbaa.G

/- PrizeWorth, from any arguments. -/
namespace Go.Proofs.Ytfaeokcbfnlgbaa.G
open Go.V
theorem v_PrizeWorth {W : World} {s : Hp} {v0 v1 v2 : Value} (k0 : RdV Pg s 25 v0) (k1 : RdV Pg s 53 v1) (k2 : RdV Pg s 4 v2) : CALL Pg W F_law13_PrizeWorth [v0, v1, v2] (fun v s' => v = .bool true ∧ Ext s s') (fun _ _ => False) s := by
  obtain ⟨x, c, y, c', T, rfl, hx, hy⟩ := prizes_rd k0
  obtain ⟨q, cq, bs, rfl, hq, hb, _⟩ := u8s_rd k1
  obtain ⟨b, rfl⟩ := bool_rd k2
  exact w_PrizeWorth hx hy hq hb fun s' e => ⟨rfl, e⟩
end Go.Proofs.Ytfaeokcbfnlgbaa.G

/- The row of the statement PrizeWorth. -/
namespace Go.Proofs.Ytfaeokcbfnlgbaa.prizeWorth
open Go.ChangeShapes Go.WideShapes Go.ChangeAt Go.RowKit Go.V
set_option linter.unusedVariables false
theorem own : ownKnob Try.prog.godebug = none := by kernel_rfl
theorem laidOut : laidOutB Try.prog = true := by kernel_rfl
set_option maxRecDepth 100000 in
theorem lifted (os : Os) (started : os.Started) (H : Type) (enc : TypeId × Value → H) :
    ReturnsInHanded {} Try.checked os 7 .any (Rows.prizeWorthSpec.pre6 enc Try.prog Try.f7 Rows.prizeWorthRow.domain false) (Rows.prizeWorthSpec.post enc Try.prog Try.f7 false true false false) := by
  refine returnsInHanded_of_change_sized (C := Try.checked) own started (by kernel_rfl) Try.func7
    (ChangeSpec.witness6 (enc := enc) (C := Try.checked) false ⟨#[], #[(.agg #[(.slice none 0 0), (.slice none 0 0)]), (.slice none 0 0), (.bool false)], []⟩ 8 (by kernel_rfl) (by kernel_rfl) (by kernel_rfl) (by kernel_rfl)) ?_
  intro W base args ds gs before hval0 hW hcnd hsz0 _
  have hsz : (DataW.weightsEach Try.prog (Try.f7.params.toList ++ Rows.prizeWorthSpec.plain.varTypes Try.prog) (ds ++ gs)).all (· ≤ reachBytes) = true := hsz0
  have hval : ∀ (j : Nat) t v, Try.f7.params[j]? = some t → args[j]? = some v → Value.okWide Try.prog W .any base t v := hval0
  have hW' := hW
  obtain ⟨p, q, hA0, hV, rfl, hfz, hnd⟩ := hW
  have hA : DataW.TrodAll enc Try.prog W 0 (fun _ => true) true Try.f7.params.toList args.toList ds p := hA0
  rw [Try.params7] at hA hval hsz
  obtain ⟨v0, vs0, d0, ds0, p0, q0, hargs, rfl, rfl, h0, r0⟩ := trodAll_cons hA
  obtain ⟨v1, vs1, d1, ds1, p1, q1, rfl, rfl, rfl, h1, r1⟩ := trodAll_cons r0
  obtain ⟨v2, vs2, d2, ds2, p2, q2, rfl, rfl, rfl, h2, r2⟩ := trodAll_cons r1
  obtain ⟨rfl, rfl, rfl⟩ := trodAll_nil r2
  obtain rfl : args = #[v0, v1, v2] := by cases args; simp_all
  obtain ⟨rfl, rfl⟩ := trodVars_none hV
  have k0 := trod_rdV (hval 0 25 v0 rfl rfl) h0
  have lt0 : ∀ x ∈ p0, x.block < W.heap.size := by obtain ⟨m, hm⟩ := h0; exact DataW.trod_lt m _ _ _ hm
  have k1 := trod_rdV (hval 1 53 v1 rfl rfl) h1
  have lt1 : ∀ x ∈ p1, x.block < W.heap.size := by obtain ⟨m, hm⟩ := h1; exact DataW.trod_lt m _ _ _ hm
  have k2 := trod_rdV (hval 2 4 v2 rfl rfl) h2
  have lt2 : ∀ x ∈ p2, x.block < W.heap.size := by obtain ⟨m, hm⟩ := h2; exact DataW.trod_lt m _ _ _ hm
  refine (calls_of_does (does_of_call (G.v_PrizeWorth (W := W) (s := W.heap) k0 k1 k2))).mono fun e W' ⟨he, bel⟩ => ?_
  subst he
  exact ⟨_, rfl, _, _, _, [], _, [], hW', trodAll_mk1 (shut_bool Try.underlying4 _), (trodAll_cons_mk (Below.trod laidOut (by kernel_rfl) (of_decide_eq_true (by kernel_rfl)) h0 bel lt0) (trodAll_cons_mk (Below.trod laidOut (by kernel_rfl) (of_decide_eq_true (by kernel_rfl)) h1 bel lt1) (trodAll_cons_mk (Below.trod laidOut (by kernel_rfl) (of_decide_eq_true (by kernel_rfl)) h2 bel lt2) trodAll_mk0))), rfl, bel.frame _, fun h => by cases h⟩
theorem over : Rows.prizeWorthRow.holds Try.pinned (OpenSpec.ofChange Rows.prizeWorthSpec) :=
  OpenClaim.holds_of_wide 7 Try.f7 rfl rfl rfl rfl rfl rfl rfl ⟨rfl, rfl, rfl, rfl, rfl⟩ rfl rfl rfl rfl rfl (by kernel_rfl) Try.func7 (by kernel_rfl)
    (of_decide_eq_true (by kernel_rfl)) (by unfold Func.isWrapper; first | (rw [if_pos (by decide +kernel)]; kernel_rfl) | (rw [if_neg (by decide +kernel)]; exact ⟨rfl, rfl⟩))
    (fun os started H enc _ => lifted os started H enc)
theorem proved : Rows.PrizeWorthSaid := over
end Go.Proofs.Ytfaeokcbfnlgbaa.prizeWorth
namespace Go.Proofs.Ytfaeokcbfnlgbaa
/-- The row, under a short name. -/
theorem prizeWorth_holds : Rows.PrizeWorthSaid := prizeWorth.proved
end Go.Proofs.Ytfaeokcbfnlgbaa
