import Derived.Test.YtfaeokcbfnlgbaaC3
/- Who can have any prize, who is due which, what is wrong with any giving and what it is worth, and which club is best, are the document's, or why they are not known. -/
/- More of the functions' shallow texts, by gen.py. -/
set_option linter.unusedVariables false
set_option maxRecDepth 100000
namespace Go.Proofs.Ytfaeokcbfnlgbaa.G
open Go.V
def an_3 : Nat → Ann := fun b => match b with
  | _ => {}
abbrev rv_3 : List ResultVar := [.tmp 8]
abbrev rs_3 : List Nat := [169, 8]
def J_law13_PrizeReads_0 (W : World) (R : Ending → Hp → Prop) (b216 : Bool) (n177 : Int) (n197 : Int) (n180 : Int) (n200 : Int) : Hp → Prop :=
  BR b216
    (BR (n177 == n197)
      (BR (n180 == n200)
        (CALL Pg W F_law13_awake []
          (fun v217 => TYB v217 fun b219 =>
            R (.returned (.bool b219)))
            (fun e218 => R (.panicked e218)))
        (R (.returned (.bool false))))
      (R (.returned (.bool false))))
    (R (.returned (.bool false)))
def J_law13_PrizeReads_1 (W : World) (R : Ending → Hp → Prop) (b212 : Bool) (x172 : Option Addr) (l173 : Nat) (c174 : Nat) (x192 : Option Addr) (l193 : Nat) (c194 : Nat) (n177 : Int) (n197 : Int) (n180 : Int) (n200 : Int) : Hp → Prop :=
  BR b212
    (CALL Pg W F_ref13_Ints [(.slice x172 l173 c174), (.slice x192 l193 c194)]
      (fun v213 => TYB v213 fun b215 =>
        J_law13_PrizeReads_0 W R b215 n177 n197 n180 n200)
        (fun e214 => R (.panicked e214)))
    (J_law13_PrizeReads_0 W R false n177 n197 n180 n200)
def J_law13_PrizeReads_2 (W : World) (R : Ending → Hp → Prop) (b211 : Bool) (n142 : Int) (n160 : Int) (x172 : Option Addr) (l173 : Nat) (c174 : Nat) (x192 : Option Addr) (l193 : Nat) (c194 : Nat) (n177 : Int) (n197 : Int) (n180 : Int) (n200 : Int) : Hp → Prop :=
  BR b211
    (J_law13_PrizeReads_1 W R (n142 == n160) x172 l173 c174 x192 l193 c194 n177 n197 n180 n200)
    (J_law13_PrizeReads_1 W R false x172 l173 c174 x192 l193 c194 n177 n197 n180 n200)
def J_law13_PrizeReads_3 (W : World) (R : Ending → Hp → Prop) (b210 : Bool) (n139 : Int) (n157 : Int) (n142 : Int) (n160 : Int) (x172 : Option Addr) (l173 : Nat) (c174 : Nat) (x192 : Option Addr) (l193 : Nat) (c194 : Nat) (n177 : Int) (n197 : Int) (n180 : Int) (n200 : Int) : Hp → Prop :=
  BR b210
    (J_law13_PrizeReads_2 W R (n139 == n157) n142 n160 x172 l173 c174 x192 l193 c194 n177 n197 n180 n200)
    (J_law13_PrizeReads_2 W R false n142 n160 x172 l173 c174 x192 l193 c194 n177 n197 n180 n200)
def J_law13_PrizeReads_4 (W : World) (R : Ending → Hp → Prop) (b209 : Bool) (n136 : Int) (n154 : Int) (n139 : Int) (n157 : Int) (n142 : Int) (n160 : Int) (x172 : Option Addr) (l173 : Nat) (c174 : Nat) (x192 : Option Addr) (l193 : Nat) (c194 : Nat) (n177 : Int) (n197 : Int) (n180 : Int) (n200 : Int) : Hp → Prop :=
  BR b209
    (J_law13_PrizeReads_3 W R (n136 == n154) n139 n157 n142 n160 x172 l173 c174 x192 l193 c194 n177 n197 n180 n200)
    (J_law13_PrizeReads_3 W R false n139 n157 n142 n160 x172 l173 c174 x192 l193 c194 n177 n197 n180 n200)
def J_law13_PrizeReads_5 (W : World) (R : Ending → Hp → Prop) (b208 : Bool) (n106 : Int) (n124 : Int) (n136 : Int) (n154 : Int) (n139 : Int) (n157 : Int) (n142 : Int) (n160 : Int) (x172 : Option Addr) (l173 : Nat) (c174 : Nat) (x192 : Option Addr) (l193 : Nat) (c194 : Nat) (n177 : Int) (n197 : Int) (n180 : Int) (n200 : Int) : Hp → Prop :=
  BR b208
    (J_law13_PrizeReads_4 W R (n106 == n124) n136 n154 n139 n157 n142 n160 x172 l173 c174 x192 l193 c194 n177 n197 n180 n200)
    (J_law13_PrizeReads_4 W R false n136 n154 n139 n157 n142 n160 x172 l173 c174 x192 l193 c194 n177 n197 n180 n200)
def J_law13_PrizeReads_6 (W : World) (R : Ending → Hp → Prop) (b207 : Bool) (n103 : Int) (n121 : Int) (n106 : Int) (n124 : Int) (n136 : Int) (n154 : Int) (n139 : Int) (n157 : Int) (n142 : Int) (n160 : Int) (x172 : Option Addr) (l173 : Nat) (c174 : Nat) (x192 : Option Addr) (l193 : Nat) (c194 : Nat) (n177 : Int) (n197 : Int) (n180 : Int) (n200 : Int) : Hp → Prop :=
  BR b207
    (J_law13_PrizeReads_5 W R (n103 == n121) n106 n124 n136 n154 n139 n157 n142 n160 x172 l173 c174 x192 l193 c194 n177 n197 n180 n200)
    (J_law13_PrizeReads_5 W R false n106 n124 n136 n154 n139 n157 n142 n160 x172 l173 c174 x192 l193 c194 n177 n197 n180 n200)
def J_law13_PrizeReads_7 (W : World) (R : Ending → Hp → Prop) (b206 : Bool) (n100 : Int) (n118 : Int) (n103 : Int) (n121 : Int) (n106 : Int) (n124 : Int) (n136 : Int) (n154 : Int) (n139 : Int) (n157 : Int) (n142 : Int) (n160 : Int) (x172 : Option Addr) (l173 : Nat) (c174 : Nat) (x192 : Option Addr) (l193 : Nat) (c194 : Nat) (n177 : Int) (n197 : Int) (n180 : Int) (n200 : Int) : Hp → Prop :=
  BR b206
    (J_law13_PrizeReads_6 W R (n100 == n118) n103 n121 n106 n124 n136 n154 n139 n157 n142 n160 x172 l173 c174 x192 l193 c194 n177 n197 n180 n200)
    (J_law13_PrizeReads_6 W R false n103 n121 n106 n124 n136 n154 n139 n157 n142 n160 x172 l173 c174 x192 l193 c194 n177 n197 n180 n200)
def J_law13_PrizeReads_8 (W : World) (R : Ending → Hp → Prop) (b205 : Bool) (n71 : Int) (n88 : Int) (n100 : Int) (n118 : Int) (n103 : Int) (n121 : Int) (n106 : Int) (n124 : Int) (n136 : Int) (n154 : Int) (n139 : Int) (n157 : Int) (n142 : Int) (n160 : Int) (x172 : Option Addr) (l173 : Nat) (c174 : Nat) (x192 : Option Addr) (l193 : Nat) (c194 : Nat) (n177 : Int) (n197 : Int) (n180 : Int) (n200 : Int) : Hp → Prop :=
  BR b205
    (J_law13_PrizeReads_7 W R (n71 == n88) n100 n118 n103 n121 n106 n124 n136 n154 n139 n157 n142 n160 x172 l173 c174 x192 l193 c194 n177 n197 n180 n200)
    (J_law13_PrizeReads_7 W R false n100 n118 n103 n121 n106 n124 n136 n154 n139 n157 n142 n160 x172 l173 c174 x192 l193 c194 n177 n197 n180 n200)
def J_law13_PrizeReads_9 (W : World) (R : Ending → Hp → Prop) (b201 : Bool) (x66 : Option Addr) (l67 : Nat) (c68 : Nat) (x83 : Option Addr) (l84 : Nat) (c85 : Nat) (n71 : Int) (n88 : Int) (n100 : Int) (n118 : Int) (n103 : Int) (n121 : Int) (n106 : Int) (n124 : Int) (n136 : Int) (n154 : Int) (n139 : Int) (n157 : Int) (n142 : Int) (n160 : Int) (x172 : Option Addr) (l173 : Nat) (c174 : Nat) (x192 : Option Addr) (l193 : Nat) (c194 : Nat) (n177 : Int) (n197 : Int) (n180 : Int) (n200 : Int) : Hp → Prop :=
  BR b201
    (CALL Pg W F_ref13_Ints [(.slice x66 l67 c68), (.slice x83 l84 c85)]
      (fun v202 => TYB v202 fun b204 =>
        J_law13_PrizeReads_8 W R b204 n71 n88 n100 n118 n103 n121 n106 n124 n136 n154 n139 n157 n142 n160 x172 l173 c174 x192 l193 c194 n177 n197 n180 n200)
        (fun e203 => R (.panicked e203)))
    (J_law13_PrizeReads_8 W R false n71 n88 n100 n118 n103 n121 n106 n124 n136 n154 n139 n157 n142 n160 x172 l173 c174 x192 l193 c194 n177 n197 n180 n200)
def T_law13_PrizeReads (W : World) (x1 : Option Addr) (l2 : Nat) (c3 : Nat) (x4 : Option Addr) (l5 : Nat) (c6 : Nat) (x7 : Option Addr) (l8 : Nat) (c9 : Nat) (n10 : Int) (n11 : Int) (R : Ending → Hp → Prop) : Hp → Prop :=
  NEW 25 [(.slice x1 l2 c3), (.slice x4 l5 c6)] fun B12 =>
    RDL (Addr.add ⟨B12, 0, none⟩ 0) fun x13 l14 c15 =>
      RDL (Addr.add ⟨B12, 0, none⟩ 1) fun x16 l17 c18 =>
        CALL Pg W F_law13_far [(.agg #[(.slice x13 l14 c15), (.slice x16 l17 c18)]), (.slice x7 l8 c9)]
          (fun v19 => TYB v19 fun b21 =>
            BR b21
              (CALL Pg W F_law13_awake []
                (fun v22 => TYB v22 fun b24 =>
                  R (.returned (.bool b24)))
                  (fun e23 => R (.panicked e23)))
              (RDL (Addr.add ⟨B12, 0, none⟩ 0) fun x25 l26 c27 =>
                RDL (Addr.add ⟨B12, 0, none⟩ 1) fun x28 l29 c30 =>
                  CALL Pg W F_prize_Can [(.agg #[(.slice x25 l26 c27), (.slice x28 l29 c30)]), (.int .i64 n10), (.int .i64 n11)]
                    (fun v31 => TUP v31 fun q33 => HD q33 fun v34 r35 => TYB v34 fun b36 =>
                      HD r35 fun v37 r38 => TYI .i64 v37 fun n39 =>
                        NL r38 <|
                          RDL (Addr.add ⟨B12, 0, none⟩ 0) fun x40 l41 c42 =>
                            RDL (Addr.add ⟨B12, 0, none⟩ 1) fun x43 l44 c45 =>
                              CALL Pg W F_ref13_Can [(.agg #[(.slice x40 l41 c42), (.slice x43 l44 c45)]), (.int .i64 n10), (.int .i64 n11)]
                                (fun v46 => TUP v46 fun q48 => HD q48 fun v49 r50 => TYB v49 fun b51 =>
                                  HD r50 fun v52 r53 => TYI .i64 v52 fun n54 =>
                                    NL r53 <|
                                      RDL (Addr.add ⟨B12, 0, none⟩ 0) fun x55 l56 c57 =>
                                        RDL (Addr.add ⟨B12, 0, none⟩ 1) fun x58 l59 c60 =>
                                          CALL Pg W F_prize_Due [(.agg #[(.slice x55 l56 c57), (.slice x58 l59 c60)])]
                                            (fun v61 => TUP v61 fun q63 => HD q63 fun v64 r65 => TYL v64 fun x66 l67 c68 =>
                                              HD r65 fun v69 r70 => TYI .i64 v69 fun n71 =>
                                                NL r70 <|
                                                  RDL (Addr.add ⟨B12, 0, none⟩ 0) fun x72 l73 c74 =>
                                                    RDL (Addr.add ⟨B12, 0, none⟩ 1) fun x75 l76 c77 =>
                                                      CALL Pg W F_ref13_Due [(.agg #[(.slice x72 l73 c74), (.slice x75 l76 c77)])]
                                                        (fun v78 => TUP v78 fun q80 => HD q80 fun v81 r82 => TYL v81 fun x83 l84 c85 =>
                                                          HD r82 fun v86 r87 => TYI .i64 v86 fun n88 =>
                                                            NL r87 <|
                                                              RDL (Addr.add ⟨B12, 0, none⟩ 0) fun x89 l90 c91 =>
                                                                RDL (Addr.add ⟨B12, 0, none⟩ 1) fun x92 l93 c94 =>
                                                                  CALL Pg W F_prize_Wrong [(.agg #[(.slice x89 l90 c91), (.slice x92 l93 c94)]), (.slice x7 l8 c9)]
                                                                    (fun v95 => TUP v95 fun q97 => HD q97 fun v98 r99 => TYI .i64 v98 fun n100 =>
                                                                      HD r99 fun v101 r102 => TYI .i64 v101 fun n103 =>
                                                                        HD r102 fun v104 r105 => TYI .i64 v104 fun n106 =>
                                                                          NL r105 <|
                                                                            RDL (Addr.add ⟨B12, 0, none⟩ 0) fun x107 l108 c109 =>
                                                                              RDL (Addr.add ⟨B12, 0, none⟩ 1) fun x110 l111 c112 =>
                                                                                CALL Pg W F_ref13_Wrong [(.agg #[(.slice x107 l108 c109), (.slice x110 l111 c112)]), (.slice x7 l8 c9)]
                                                                                  (fun v113 => TUP v113 fun q115 => HD q115 fun v116 r117 => TYI .i64 v116 fun n118 =>
                                                                                    HD r117 fun v119 r120 => TYI .i64 v119 fun n121 =>
                                                                                      HD r120 fun v122 r123 => TYI .i64 v122 fun n124 =>
                                                                                        NL r123 <|
                                                                                          RDL (Addr.add ⟨B12, 0, none⟩ 0) fun x125 l126 c127 =>
                                                                                            RDL (Addr.add ⟨B12, 0, none⟩ 1) fun x128 l129 c130 =>
                                                                                              CALL Pg W F_prize_Club [(.agg #[(.slice x125 l126 c127), (.slice x128 l129 c130)])]
                                                                                                (fun v131 => TUP v131 fun q133 => HD q133 fun v134 r135 => TYI .i64 v134 fun n136 =>
                                                                                                  HD r135 fun v137 r138 => TYI .i64 v137 fun n139 =>
                                                                                                    HD r138 fun v140 r141 => TYI .i64 v140 fun n142 =>
                                                                                                      NL r141 <|
                                                                                                        RDL (Addr.add ⟨B12, 0, none⟩ 0) fun x143 l144 c145 =>
                                                                                                          RDL (Addr.add ⟨B12, 0, none⟩ 1) fun x146 l147 c148 =>
                                                                                                            CALL Pg W F_ref13_Club [(.agg #[(.slice x143 l144 c145), (.slice x146 l147 c148)])]
                                                                                                              (fun v149 => TUP v149 fun q151 => HD q151 fun v152 r153 => TYI .i64 v152 fun n154 =>
                                                                                                                HD r153 fun v155 r156 => TYI .i64 v155 fun n157 =>
                                                                                                                  HD r156 fun v158 r159 => TYI .i64 v158 fun n160 =>
                                                                                                                    NL r159 <|
                                                                                                                      RDL (Addr.add ⟨B12, 0, none⟩ 0) fun x161 l162 c163 =>
                                                                                                                        RDL (Addr.add ⟨B12, 0, none⟩ 1) fun x164 l165 c166 =>
                                                                                                                          CALL Pg W F_prize_Worth [(.agg #[(.slice x161 l162 c163), (.slice x164 l165 c166)]), (.slice x7 l8 c9)]
                                                                                                                            (fun v167 => TUP v167 fun q169 => HD q169 fun v170 r171 => TYL v170 fun x172 l173 c174 =>
                                                                                                                              HD r171 fun v175 r176 => TYI .i64 v175 fun n177 =>
                                                                                                                                HD r176 fun v178 r179 => TYI .i64 v178 fun n180 =>
                                                                                                                                  NL r179 <|
                                                                                                                                    RDL (Addr.add ⟨B12, 0, none⟩ 0) fun x181 l182 c183 =>
                                                                                                                                      RDL (Addr.add ⟨B12, 0, none⟩ 1) fun x184 l185 c186 =>
                                                                                                                                        CALL Pg W F_ref13_Worth [(.agg #[(.slice x181 l182 c183), (.slice x184 l185 c186)]), (.slice x7 l8 c9)]
                                                                                                                                          (fun v187 => TUP v187 fun q189 => HD q189 fun v190 r191 => TYL v190 fun x192 l193 c194 =>
                                                                                                                                            HD r191 fun v195 r196 => TYI .i64 v195 fun n197 =>
                                                                                                                                              HD r196 fun v198 r199 => TYI .i64 v198 fun n200 =>
                                                                                                                                                NL r199 <|
                                                                                                                                                  BR (b36 == b51)
                                                                                                                                                    (J_law13_PrizeReads_9 W R (n39 == n54) x66 l67 c68 x83 l84 c85 n71 n88 n100 n118 n103 n121 n106 n124 n136 n154 n139 n157 n142 n160 x172 l173 c174 x192 l193 c194 n177 n197 n180 n200)
                                                                                                                                                    (J_law13_PrizeReads_9 W R false x66 l67 c68 x83 l84 c85 n71 n88 n100 n118 n103 n121 n106 n124 n136 n154 n139 n157 n142 n160 x172 l173 c174 x192 l193 c194 n177 n197 n180 n200))
                                                                                                                                            (fun e188 => R (.panicked e188)))
                                                                                                                              (fun e168 => R (.panicked e168)))
                                                                                                                (fun e150 => R (.panicked e150)))
                                                                                                  (fun e132 => R (.panicked e132)))
                                                                                    (fun e114 => R (.panicked e114)))
                                                                      (fun e96 => R (.panicked e96)))
                                                          (fun e79 => R (.panicked e79)))
                                              (fun e62 => R (.panicked e62)))
                                  (fun e47 => R (.panicked e47)))
                      (fun e32 => R (.panicked e32))))
            (fun e20 => R (.panicked e20))
theorem T_law13_PrizeReads_eq (W : World) (x1 : Option Addr) (l2 : Nat) (c3 : Nat) (x4 : Option Addr) (l5 : Nat) (c6 : Nat) (x7 : Option Addr) (l8 : Nat) (c9 : Nat) (n10 : Int) (n11 : Int) (R : Ending → Hp → Prop) : vfun Pg W an_3 Try.f3 [(.agg #[(.slice x1 l2 c3), (.slice x4 l5 c6)]), (.slice x7 l8 c9), (.int .i64 n10), (.int .i64 n11)] R = T_law13_PrizeReads W x1 l2 c3 x4 l5 c6 x7 l8 c9 n10 n11 R := by kernel_rfl
theorem does_law13_PrizeReads (W : World) (x1 : Option Addr) (l2 : Nat) (c3 : Nat) (x4 : Option Addr) (l5 : Nat) (c6 : Nat) (x7 : Option Addr) (l8 : Nat) (c9 : Nat) (n10 : Int) (n11 : Int) (R : Ending → Hp → Prop) (s : Hp) (h : T_law13_PrizeReads W x1 l2 c3 x4 l5 c6 x7 l8 c9 n10 n11 R s) : Does Pg W F_law13_PrizeReads #[(.agg #[(.slice x1 l2 c3), (.slice x4 l5 c6)]), (.slice x7 l8 c9), (.int .i64 n10), (.int .i64 n11)] s R :=
  does_of_vfun Pg W an_3 Try.func3 rfl (by kernel_rfl) (by rw [T_law13_PrizeReads_eq]; exact h)
end Go.Proofs.Ytfaeokcbfnlgbaa.G

/- The statement PrizeReads. -/
set_option linter.unusedSimpArgs false
set_option linter.unusedVariables false
set_option maxRecDepth 20000
namespace Go.Proofs.Ytfaeokcbfnlgbaa.G
open Go.V
section
variable {W : World} {K : VK} {E : List PanicEntry → Hp → Prop} {s : Hp} {T : PT}
theorem w_PrizeReads {x y q : Option Addr} {c c' cq : Nat} {ds : List Int} {m z : Int} (hx : MnAt s x T.men) (hy : PzAt s y T.list) (hq : RowAt s q (ints ds)) (hcq : ds.length ≤ cq) (h : ∀ s', Ext s s' → K (.bool true) s') :
    CALL Pg W F_law13_PrizeReads [.agg #[.slice x T.n c, .slice y T.z c'], .slice q ds.length cq, .int .i64 m, .int .i64 z] K E s := by
  refine does_law13_PrizeReads W x T.n c y T.z c' q ds.length cq m z _ s ?_
  unfold T_law13_PrizeReads
  refine ne2 fun s1 e1 z1 o1 o2 => ?_
  have c0 := o1.cell
  have c1 := o2.cell
  refine ⟨_, _, _, c0, _, _, _, c1, ?_⟩
  refine c_far fun s2 b e2 hb => ?_
  try simp only [TUP_mk, AGG_mk, HD_mk, NL_mk, TYI_mk, TYB_mk, TYP_mk, TYL_mk, TYS_mk, TYM_mk, SO_mk, NX_mk, endK_mk, endK_mk', add_0]
  refine BR_bool (fun _ => c_awake' e2 fun t et => h t (e1.trans et)) (fun hf => ?_)
  obtain ⟨h1, h2, h3⟩ := hb hf
  have rx : ∀ {t : Hp}, Ext s1 t → MnAt t x T.men := fun e => hx.ext (e1.trans e)
  have ry : ∀ {t : Hp}, Ext s1 t → PzAt t y T.list := fun e => hy.ext (e1.trans e)
  have rq : ∀ {t : Hp}, Ext s1 t → RowAt t q (ints ds) := fun e => hq.ext (e1.trans e)
  refine ⟨_, _, _, e2.cell c0, _, _, _, e2.cell c1, ?_⟩
  refine c_Can (rx e2) (ry e2) fun t1 e11 => ?_
  try simp only [TUP_mk, AGG_mk, HD_mk, NL_mk, TYI_mk, TYB_mk, TYP_mk, TYL_mk, TYS_mk, TYM_mk, SO_mk, NX_mk, endK_mk, endK_mk', add_0]
  have g1 := e2.trans e11
  refine ⟨_, _, _, g1.cell c0, _, _, _, g1.cell c1, ?_⟩
  refine f_Can (by omega) (by omega) (rx g1) (ry g1) fun t2 e12 => ?_
  try simp only [TUP_mk, AGG_mk, HD_mk, NL_mk, TYI_mk, TYB_mk, TYP_mk, TYL_mk, TYS_mk, TYM_mk, SO_mk, NX_mk, endK_mk, endK_mk', add_0]
  have g2 := g1.trans e12
  refine ⟨_, _, _, g2.cell c0, _, _, _, g2.cell c1, ?_⟩
  refine c_Due (rx g2) (ry g2) fun t3 a3 b3 e13 f3 => ?_
  try simp only [TUP_mk, AGG_mk, HD_mk, NL_mk, TYI_mk, TYB_mk, TYP_mk, TYL_mk, TYS_mk, TYM_mk, SO_mk, NX_mk, endK_mk, endK_mk', add_0]
  have g3 := g2.trans e13
  refine ⟨_, _, _, g3.cell c0, _, _, _, g3.cell c1, ?_⟩
  refine f_Due (rx g3) (ry g3) fun t4 a4 b4 e14 f4 => ?_
  try simp only [TUP_mk, AGG_mk, HD_mk, NL_mk, TYI_mk, TYB_mk, TYP_mk, TYL_mk, TYS_mk, TYM_mk, SO_mk, NX_mk, endK_mk, endK_mk', add_0]
  have g4 := g3.trans e14
  refine ⟨_, _, _, g4.cell c0, _, _, _, g4.cell c1, ?_⟩
  refine c_Wrong (rx g4) (ry g4) (rq g4) fun t5 e15 => ?_
  try simp only [TUP_mk, AGG_mk, HD_mk, NL_mk, TYI_mk, TYB_mk, TYP_mk, TYL_mk, TYS_mk, TYM_mk, SO_mk, NX_mk, endK_mk, endK_mk', add_0]
  have g5 := g4.trans e15
  refine ⟨_, _, _, g5.cell c0, _, _, _, g5.cell c1, ?_⟩
  refine f_Wrong (by omega) (by omega) hcq (rx g5) (ry g5) (rq g5) fun t6 e16 => ?_
  try simp only [TUP_mk, AGG_mk, HD_mk, NL_mk, TYI_mk, TYB_mk, TYP_mk, TYL_mk, TYS_mk, TYM_mk, SO_mk, NX_mk, endK_mk, endK_mk', add_0]
  have g6 := g5.trans e16
  refine ⟨_, _, _, g6.cell c0, _, _, _, g6.cell c1, ?_⟩
  refine c_Club (rx g6) (ry g6) fun t7 e17 => ?_
  try simp only [TUP_mk, AGG_mk, HD_mk, NL_mk, TYI_mk, TYB_mk, TYP_mk, TYL_mk, TYS_mk, TYM_mk, SO_mk, NX_mk, endK_mk, endK_mk', add_0]
  have g7 := g6.trans e17
  refine ⟨_, _, _, g7.cell c0, _, _, _, g7.cell c1, ?_⟩
  refine f_Club (rx g7) (ry g7) fun t8 e18 => ?_
  try simp only [TUP_mk, AGG_mk, HD_mk, NL_mk, TYI_mk, TYB_mk, TYP_mk, TYL_mk, TYS_mk, TYM_mk, SO_mk, NX_mk, endK_mk, endK_mk', add_0]
  have g8 := g7.trans e18
  refine ⟨_, _, _, g8.cell c0, _, _, _, g8.cell c1, ?_⟩
  refine c_Worth (rx g8) (ry g8) (rq g8) fun t9 a9 b9 e19 f9 => ?_
  try simp only [TUP_mk, AGG_mk, HD_mk, NL_mk, TYI_mk, TYB_mk, TYP_mk, TYL_mk, TYS_mk, TYM_mk, SO_mk, NX_mk, endK_mk, endK_mk', add_0]
  have g9 := g8.trans e19
  refine ⟨_, _, _, g9.cell c0, _, _, _, g9.cell c1, ?_⟩
  refine f_Worth (by omega) (by omega) hcq (rx g9) (ry g9) (rq g9) fun t10 a10 b10 e20 f10 => ?_
  try simp only [TUP_mk, AGG_mk, HD_mk, NL_mk, TYI_mk, TYB_mk, TYP_mk, TYL_mk, TYS_mk, TYM_mk, SO_mk, NX_mk, endK_mk, endK_mk', add_0]
  have g10 := g9.trans e20
  refine BR_eq (fun _ => ?_) (fun hh => absurd rfl hh)
  unfold J_law13_PrizeReads_9
  refine BR_eq (fun _ => ?_) (fun hh => absurd rfl hh)
  have hdl : (dueR T).1.length ≤ 100000 := by unfold dueR; split <;> (try unfold manL dueP) <;> simp [dueL_len]; omega
  refine f_Ints (a := (dueR T).1) (b := (dueR T).1) (f3.row.ext (e14.trans (e15.trans (e16.trans (e17.trans (e18.trans (e19.trans (e20)))))))) (f4.row.ext (e15.trans (e16.trans (e17.trans (e18.trans (e19.trans (e20))))))) rfl rfl hdl ?_
  try simp only [TUP_mk, AGG_mk, HD_mk, NL_mk, TYI_mk, TYB_mk, TYP_mk, TYL_mk, TYS_mk, TYM_mk, SO_mk, NX_mk, endK_mk, endK_mk', add_0]
  unfold J_law13_PrizeReads_8
  refine BR_tt (by simp) ?_
  unfold J_law13_PrizeReads_7
  refine BR_eq (fun _ => ?_) (fun hh => absurd rfl hh)
  unfold J_law13_PrizeReads_6
  refine BR_eq (fun _ => ?_) (fun hh => absurd rfl hh)
  unfold J_law13_PrizeReads_5
  refine BR_eq (fun _ => ?_) (fun hh => absurd rfl hh)
  unfold J_law13_PrizeReads_4
  refine BR_eq (fun _ => ?_) (fun hh => absurd rfl hh)
  unfold J_law13_PrizeReads_3
  refine BR_eq (fun _ => ?_) (fun hh => absurd rfl hh)
  unfold J_law13_PrizeReads_2
  refine BR_eq (fun _ => ?_) (fun hh => absurd rfl hh)
  unfold J_law13_PrizeReads_1
  refine BR_eq (fun _ => ?_) (fun hh => absurd rfl hh)
  have hwl : (worthR T ds).1.length ≤ 100000 := by
    unfold worthR
    split
    · split
      · split
        · rw [worP_len]; omega
        · exact Nat.zero_le _
      · exact Nat.zero_le _
    · exact Nat.zero_le _
  refine f_Ints (a := (worthR T ds).1) (b := (worthR T ds).1) (f9.row.ext e20) f10.row rfl rfl hwl ?_
  try simp only [TUP_mk, AGG_mk, HD_mk, NL_mk, TYI_mk, TYB_mk, TYP_mk, TYL_mk, TYS_mk, TYM_mk, SO_mk, NX_mk, endK_mk, endK_mk', add_0]
  unfold J_law13_PrizeReads_0
  refine BR_tt (by simp) ?_
  refine BR_eq (fun _ => ?_) (fun hh => absurd rfl hh)
  refine BR_eq (fun _ => ?_) (fun hh => absurd rfl hh)
  exact c_awake' g10 fun t et => h t (e1.trans et)
end
end Go.Proofs.Ytfaeokcbfnlgbaa.G

/- PrizeReads, from any arguments. -/
namespace Go.Proofs.Ytfaeokcbfnlgbaa.G
open Go.V
theorem v_PrizeReads {W : World} {s : Hp} {v0 v1 v2 v3 : Value} (k0 : RdV Pg s 25 v0) (k1 : RdV Pg s 26 v1) (k2 : RdV Pg s 3 v2) (k3 : RdV Pg s 3 v3) : CALL Pg W F_law13_PrizeReads [v0, v1, v2, v3] (fun v s' => v = .bool true ∧ Ext s s') (fun _ _ => False) s := by
  obtain ⟨x, c, y, c', T, rfl, hx, hy⟩ := prizes_rd k0
  obtain ⟨q, cq, ds, rfl, hq, hc, _⟩ := ints_rd k1
  obtain ⟨n, rfl⟩ := int_rd k2
  obtain ⟨m, rfl⟩ := int_rd k3
  exact w_PrizeReads hx hy hq hc fun s' e => ⟨rfl, e⟩
end Go.Proofs.Ytfaeokcbfnlgbaa.G

/- The row of the statement PrizeReads. -/
namespace Go.Proofs.Ytfaeokcbfnlgbaa.prizeReads
open Go.ChangeShapes Go.WideShapes Go.ChangeAt Go.RowKit Go.V
set_option linter.unusedVariables false
theorem own : ownKnob Try.prog.godebug = none := by kernel_rfl
theorem laidOut : laidOutB Try.prog = true := by kernel_rfl
set_option maxRecDepth 100000 in
theorem lifted (os : Os) (started : os.Started) (H : Type) (enc : TypeId × Value → H) :
    ReturnsInHanded {} Try.checked os 3 .any (Rows.prizeReadsSpec.pre6 enc Try.prog Try.f3 Rows.prizeReadsRow.domain false) (Rows.prizeReadsSpec.post enc Try.prog Try.f3 false true false false) := by
  refine returnsInHanded_of_change_sized (C := Try.checked) own started (by kernel_rfl) Try.func3
    (ChangeSpec.witness6 (enc := enc) (C := Try.checked) false ⟨#[], #[(.agg #[(.slice none 0 0), (.slice none 0 0)]), (.slice none 0 0), (.int .i64 0), (.int .i64 0)], []⟩ 8 (by kernel_rfl) (by kernel_rfl) (by kernel_rfl) (by kernel_rfl)) ?_
  intro W base args ds gs before hval0 hW hcnd hsz0 _
  have hsz : (DataW.weightsEach Try.prog (Try.f3.params.toList ++ Rows.prizeReadsSpec.plain.varTypes Try.prog) (ds ++ gs)).all (· ≤ reachBytes) = true := hsz0
  have hval : ∀ (j : Nat) t v, Try.f3.params[j]? = some t → args[j]? = some v → Value.okWide Try.prog W .any base t v := hval0
  have hW' := hW
  obtain ⟨p, q, hA0, hV, rfl, hfz, hnd⟩ := hW
  have hA : DataW.TrodAll enc Try.prog W 0 (fun _ => true) true Try.f3.params.toList args.toList ds p := hA0
  rw [Try.params3] at hA hval hsz
  obtain ⟨v0, vs0, d0, ds0, p0, q0, hargs, rfl, rfl, h0, r0⟩ := trodAll_cons hA
  obtain ⟨v1, vs1, d1, ds1, p1, q1, rfl, rfl, rfl, h1, r1⟩ := trodAll_cons r0
  obtain ⟨v2, vs2, d2, ds2, p2, q2, rfl, rfl, rfl, h2, r2⟩ := trodAll_cons r1
  obtain ⟨v3, vs3, d3, ds3, p3, q3, rfl, rfl, rfl, h3, r3⟩ := trodAll_cons r2
  obtain ⟨rfl, rfl, rfl⟩ := trodAll_nil r3
  obtain rfl : args = #[v0, v1, v2, v3] := by cases args; simp_all
  obtain ⟨rfl, rfl⟩ := trodVars_none hV
  have k0 := trod_rdV (hval 0 25 v0 rfl rfl) h0
  have lt0 : ∀ x ∈ p0, x.block < W.heap.size := by obtain ⟨m, hm⟩ := h0; exact DataW.trod_lt m _ _ _ hm
  have k1 := trod_rdV (hval 1 26 v1 rfl rfl) h1
  have lt1 : ∀ x ∈ p1, x.block < W.heap.size := by obtain ⟨m, hm⟩ := h1; exact DataW.trod_lt m _ _ _ hm
  have k2 := trod_rdV (hval 2 3 v2 rfl rfl) h2
  have lt2 : ∀ x ∈ p2, x.block < W.heap.size := by obtain ⟨m, hm⟩ := h2; exact DataW.trod_lt m _ _ _ hm
  have k3 := trod_rdV (hval 3 3 v3 rfl rfl) h3
  have lt3 : ∀ x ∈ p3, x.block < W.heap.size := by obtain ⟨m, hm⟩ := h3; exact DataW.trod_lt m _ _ _ hm
  refine (calls_of_does (does_of_call (G.v_PrizeReads (W := W) (s := W.heap) k0 k1 k2 k3))).mono fun e W' ⟨he, bel⟩ => ?_
  subst he
  exact ⟨_, rfl, _, _, _, [], _, [], hW', trodAll_mk1 (shut_bool Try.underlying4 _), (trodAll_cons_mk (Below.trod laidOut (by kernel_rfl) (of_decide_eq_true (by kernel_rfl)) h0 bel lt0) (trodAll_cons_mk (Below.trod laidOut (by kernel_rfl) (of_decide_eq_true (by kernel_rfl)) h1 bel lt1) (trodAll_cons_mk (Below.trod laidOut (by kernel_rfl) (of_decide_eq_true (by kernel_rfl)) h2 bel lt2) (trodAll_cons_mk (Below.trod laidOut (by kernel_rfl) (of_decide_eq_true (by kernel_rfl)) h3 bel lt3) trodAll_mk0)))), rfl, bel.frame _, fun h => by cases h⟩
theorem over : Rows.prizeReadsRow.holds Try.pinned (OpenSpec.ofChange Rows.prizeReadsSpec) :=
  OpenClaim.holds_of_wide 3 Try.f3 rfl rfl rfl rfl rfl rfl rfl ⟨rfl, rfl, rfl, rfl, rfl⟩ rfl rfl rfl rfl rfl (by kernel_rfl) Try.func3 (by kernel_rfl)
    (of_decide_eq_true (by kernel_rfl)) (by unfold Func.isWrapper; first | (rw [if_pos (by decide +kernel)]; kernel_rfl) | (rw [if_neg (by decide +kernel)]; exact ⟨rfl, rfl⟩))
    (fun os started H enc _ => lifted os started H enc)
theorem proved : Rows.PrizeReadsSaid := over
end Go.Proofs.Ytfaeokcbfnlgbaa.prizeReads
namespace Go.Proofs.Ytfaeokcbfnlgbaa
/-- The row, under a short name. -/
theorem prizeReads_holds : Rows.PrizeReadsSaid := prizeReads.proved
end Go.Proofs.Ytfaeokcbfnlgbaa
