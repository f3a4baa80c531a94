import Derived.Test.YtocnkdkgajdejaaC3
/- Lemmas for: The statement LotOften holds of the given program: whatever the lots, the ploughman and the plot by remainders, LotOften returns true and leaves its arguments as they were; no condition. -/
/- More of the functions' shallow texts, by gen.py. -/
set_option linter.unusedVariables false
set_option maxRecDepth 100000
namespace Go.Proofs.Ytocnkdkgajdejaa.G
open Go.V
def an_3 : Nat → Ann := fun b => match b with
  | _ => {}
abbrev rv_3 : List ResultVar := [.tmp 8]
abbrev rs_3 : List Nat := [151, 8]
def J_law03_LotReads_0 (W : World) (R : Ending → Hp → Prop) (b175 : Bool) (x144 : Option Addr) (l145 : Nat) (c146 : Nat) (x159 : Option Addr) (l160 : Nat) (c161 : Nat) (n149 : Int) (n164 : Int) : Hp → Prop :=
  BR b175
    (CALL Pg W F_ref03_Ints [(.slice x144 l145 c146), (.slice x159 l160 c161)]
      (fun v176 => TYB v176 fun b178 =>
        BR b178
          (BR (n149 == n164)
            (CALL Pg W F_law03_awake []
              (fun v179 => TYB v179 fun b181 =>
                R (.returned (.bool b181)))
                (fun e180 => R (.panicked e180)))
            (R (.returned (.bool false))))
          (R (.returned (.bool false))))
        (fun e177 => R (.panicked e177)))
    (R (.returned (.bool false)))
def J_law03_LotReads_1 (W : World) (R : Ending → Hp → Prop) (b174 : Bool) (n121 : Int) (n134 : Int) (x144 : Option Addr) (l145 : Nat) (c146 : Nat) (x159 : Option Addr) (l160 : Nat) (c161 : Nat) (n149 : Int) (n164 : Int) : Hp → Prop :=
  BR b174
    (J_law03_LotReads_0 W R (n121 == n134) x144 l145 c146 x159 l160 c161 n149 n164)
    (J_law03_LotReads_0 W R false x144 l145 c146 x159 l160 c161 n149 n164)
def J_law03_LotReads_2 (W : World) (R : Ending → Hp → Prop) (b173 : Bool) (n118 : Int) (n131 : Int) (n121 : Int) (n134 : Int) (x144 : Option Addr) (l145 : Nat) (c146 : Nat) (x159 : Option Addr) (l160 : Nat) (c161 : Nat) (n149 : Int) (n164 : Int) : Hp → Prop :=
  BR b173
    (J_law03_LotReads_1 W R (n118 == n131) n121 n134 x144 l145 c146 x159 l160 c161 n149 n164)
    (J_law03_LotReads_1 W R false n121 n134 x144 l145 c146 x159 l160 c161 n149 n164)
def J_law03_LotReads_3 (W : World) (R : Ending → Hp → Prop) (b172 : Bool) (n93 : Int) (n108 : Int) (n118 : Int) (n131 : Int) (n121 : Int) (n134 : Int) (x144 : Option Addr) (l145 : Nat) (c146 : Nat) (x159 : Option Addr) (l160 : Nat) (c161 : Nat) (n149 : Int) (n164 : Int) : Hp → Prop :=
  BR b172
    (J_law03_LotReads_2 W R (n93 == n108) n118 n131 n121 n134 x144 l145 c146 x159 l160 c161 n149 n164)
    (J_law03_LotReads_2 W R false n118 n131 n121 n134 x144 l145 c146 x159 l160 c161 n149 n164)
def J_law03_LotReads_4 (W : World) (R : Ending → Hp → Prop) (b168 : Bool) (x88 : Option Addr) (l89 : Nat) (c90 : Nat) (x103 : Option Addr) (l104 : Nat) (c105 : Nat) (n93 : Int) (n108 : Int) (n118 : Int) (n131 : Int) (n121 : Int) (n134 : Int) (x144 : Option Addr) (l145 : Nat) (c146 : Nat) (x159 : Option Addr) (l160 : Nat) (c161 : Nat) (n149 : Int) (n164 : Int) : Hp → Prop :=
  BR b168
    (CALL Pg W F_ref03_Ints [(.slice x88 l89 c90), (.slice x103 l104 c105)]
      (fun v169 => TYB v169 fun b171 =>
        J_law03_LotReads_3 W R b171 n93 n108 n118 n131 n121 n134 x144 l145 c146 x159 l160 c161 n149 n164)
        (fun e170 => R (.panicked e170)))
    (J_law03_LotReads_3 W R false n93 n108 n118 n131 n121 n134 x144 l145 c146 x159 l160 c161 n149 n164)
def J_law03_LotReads_5 (W : World) (R : Ending → Hp → Prop) (b167 : Bool) (n65 : Int) (n78 : Int) (x88 : Option Addr) (l89 : Nat) (c90 : Nat) (x103 : Option Addr) (l104 : Nat) (c105 : Nat) (n93 : Int) (n108 : Int) (n118 : Int) (n131 : Int) (n121 : Int) (n134 : Int) (x144 : Option Addr) (l145 : Nat) (c146 : Nat) (x159 : Option Addr) (l160 : Nat) (c161 : Nat) (n149 : Int) (n164 : Int) : Hp → Prop :=
  BR b167
    (J_law03_LotReads_4 W R (n65 == n78) x88 l89 c90 x103 l104 c105 n93 n108 n118 n131 n121 n134 x144 l145 c146 x159 l160 c161 n149 n164)
    (J_law03_LotReads_4 W R false x88 l89 c90 x103 l104 c105 n93 n108 n118 n131 n121 n134 x144 l145 c146 x159 l160 c161 n149 n164)
def J_law03_LotReads_6 (W : World) (R : Ending → Hp → Prop) (b166 : Bool) (n62 : Int) (n75 : Int) (n65 : Int) (n78 : Int) (x88 : Option Addr) (l89 : Nat) (c90 : Nat) (x103 : Option Addr) (l104 : Nat) (c105 : Nat) (n93 : Int) (n108 : Int) (n118 : Int) (n131 : Int) (n121 : Int) (n134 : Int) (x144 : Option Addr) (l145 : Nat) (c146 : Nat) (x159 : Option Addr) (l160 : Nat) (c161 : Nat) (n149 : Int) (n164 : Int) : Hp → Prop :=
  BR b166
    (J_law03_LotReads_5 W R (n62 == n75) n65 n78 x88 l89 c90 x103 l104 c105 n93 n108 n118 n131 n121 n134 x144 l145 c146 x159 l160 c161 n149 n164)
    (J_law03_LotReads_5 W R false n65 n78 x88 l89 c90 x103 l104 c105 n93 n108 n118 n131 n121 n134 x144 l145 c146 x159 l160 c161 n149 n164)
def J_law03_LotReads_7 (W : World) (R : Ending → Hp → Prop) (b165 : Bool) (n36 : Int) (n52 : Int) (n62 : Int) (n75 : Int) (n65 : Int) (n78 : Int) (x88 : Option Addr) (l89 : Nat) (c90 : Nat) (x103 : Option Addr) (l104 : Nat) (c105 : Nat) (n93 : Int) (n108 : Int) (n118 : Int) (n131 : Int) (n121 : Int) (n134 : Int) (x144 : Option Addr) (l145 : Nat) (c146 : Nat) (x159 : Option Addr) (l160 : Nat) (c161 : Nat) (n149 : Int) (n164 : Int) : Hp → Prop :=
  BR b165
    (J_law03_LotReads_6 W R (n36 == n52) n62 n75 n65 n78 x88 l89 c90 x103 l104 c105 n93 n108 n118 n131 n121 n134 x144 l145 c146 x159 l160 c161 n149 n164)
    (J_law03_LotReads_6 W R false n62 n75 n65 n78 x88 l89 c90 x103 l104 c105 n93 n108 n118 n131 n121 n134 x144 l145 c146 x159 l160 c161 n149 n164)
def T_law03_LotReads (W : World) (x1 : Option Addr) (l2 : Nat) (c3 : Nat) (n4 : Int) (x5 : Option Addr) (l6 : Nat) (c7 : Nat) (n8 : Int) (n9 : Int) (R : Ending → Hp → Prop) : Hp → Prop :=
  NEW 24 [(.slice x1 l2 c3), (.int .i64 n4)] fun B10 =>
    RDL (Addr.add ⟨B10, 0, none⟩ 0) fun x11 l12 c13 =>
      RDI .i64 (Addr.add ⟨B10, 0, none⟩ 1) fun n14 =>
        CALL Pg W F_law03_far [(.agg #[(.slice x11 l12 c13), (.int .i64 n14)]), (.slice x5 l6 c7), (.int .i64 6)]
          (fun v15 => TYB v15 fun b17 =>
            BR b17
              (CALL Pg W F_law03_awake []
                (fun v18 => TYB v18 fun b20 =>
                  R (.returned (.bool b20)))
                  (fun e19 => R (.panicked e19)))
              (RDL (Addr.add ⟨B10, 0, none⟩ 0) fun x21 l22 c23 =>
                RDI .i64 (Addr.add ⟨B10, 0, none⟩ 1) fun n24 =>
                  CALL Pg W F_lot_Check [(.agg #[(.slice x21 l22 c23), (.int .i64 n24)]), (.slice x5 l6 c7)]
                    (fun v25 => TUP v25 fun q27 => HD q27 fun v28 r29 => TYI .i64 v28 fun n30 =>
                      HD r29 fun v31 r32 => TYI .i64 v31 fun n33 =>
                        HD r32 fun v34 r35 => TYI .i64 v34 fun n36 =>
                          NL r35 <|
                            RDL (Addr.add ⟨B10, 0, none⟩ 0) fun x37 l38 c39 =>
                              RDI .i64 (Addr.add ⟨B10, 0, none⟩ 1) fun n40 =>
                                CALL Pg W F_ref03_Check [(.agg #[(.slice x37 l38 c39), (.int .i64 n40)]), (.slice x5 l6 c7)]
                                  (fun v41 => TUP v41 fun q43 => HD q43 fun v44 r45 => TYI .i64 v44 fun n46 =>
                                    HD r45 fun v47 r48 => TYI .i64 v47 fun n49 =>
                                      HD r48 fun v50 r51 => TYI .i64 v50 fun n52 =>
                                        NL r51 <|
                                          RDL (Addr.add ⟨B10, 0, none⟩ 0) fun x53 l54 c55 =>
                                            RDI .i64 (Addr.add ⟨B10, 0, none⟩ 1) fun n56 =>
                                              CALL Pg W F_lot_Count [(.agg #[(.slice x53 l54 c55), (.int .i64 n56)])]
                                                (fun v57 => TUP v57 fun q59 => HD q59 fun v60 r61 => TYI .i64 v60 fun n62 =>
                                                  HD r61 fun v63 r64 => TYI .i64 v63 fun n65 =>
                                                    NL r64 <|
                                                      RDL (Addr.add ⟨B10, 0, none⟩ 0) fun x66 l67 c68 =>
                                                        RDI .i64 (Addr.add ⟨B10, 0, none⟩ 1) fun n69 =>
                                                          CALL Pg W F_ref03_Count [(.agg #[(.slice x66 l67 c68), (.int .i64 n69)])]
                                                            (fun v70 => TUP v70 fun q72 => HD q72 fun v73 r74 => TYI .i64 v73 fun n75 =>
                                                              HD r74 fun v76 r77 => TYI .i64 v76 fun n78 =>
                                                                NL r77 <|
                                                                  RDL (Addr.add ⟨B10, 0, none⟩ 0) fun x79 l80 c81 =>
                                                                    RDI .i64 (Addr.add ⟨B10, 0, none⟩ 1) fun n82 =>
                                                                      CALL Pg W F_lot_Nth [(.agg #[(.slice x79 l80 c81), (.int .i64 n82)]), (.int .i64 n8)]
                                                                        (fun v83 => TUP v83 fun q85 => HD q85 fun v86 r87 => TYL v86 fun x88 l89 c90 =>
                                                                          HD r87 fun v91 r92 => TYI .i64 v91 fun n93 =>
                                                                            NL r92 <|
                                                                              RDL (Addr.add ⟨B10, 0, none⟩ 0) fun x94 l95 c96 =>
                                                                                RDI .i64 (Addr.add ⟨B10, 0, none⟩ 1) fun n97 =>
                                                                                  CALL Pg W F_ref03_Nth [(.agg #[(.slice x94 l95 c96), (.int .i64 n97)]), (.int .i64 n8)]
                                                                                    (fun v98 => TUP v98 fun q100 => HD q100 fun v101 r102 => TYL v101 fun x103 l104 c105 =>
                                                                                      HD r102 fun v106 r107 => TYI .i64 v106 fun n108 =>
                                                                                        NL r107 <|
                                                                                          RDL (Addr.add ⟨B10, 0, none⟩ 0) fun x109 l110 c111 =>
                                                                                            RDI .i64 (Addr.add ⟨B10, 0, none⟩ 1) fun n112 =>
                                                                                              CALL Pg W F_lot_Place [(.agg #[(.slice x109 l110 c111), (.int .i64 n112)]), (.slice x5 l6 c7)]
                                                                                                (fun v113 => TUP v113 fun q115 => HD q115 fun v116 r117 => TYI .i64 v116 fun n118 =>
                                                                                                  HD r117 fun v119 r120 => TYI .i64 v119 fun n121 =>
                                                                                                    NL r120 <|
                                                                                                      RDL (Addr.add ⟨B10, 0, none⟩ 0) fun x122 l123 c124 =>
                                                                                                        RDI .i64 (Addr.add ⟨B10, 0, none⟩ 1) fun n125 =>
                                                                                                          CALL Pg W F_ref03_Place [(.agg #[(.slice x122 l123 c124), (.int .i64 n125)]), (.slice x5 l6 c7)]
                                                                                                            (fun v126 => TUP v126 fun q128 => HD q128 fun v129 r130 => TYI .i64 v129 fun n131 =>
                                                                                                              HD r130 fun v132 r133 => TYI .i64 v132 fun n134 =>
                                                                                                                NL r133 <|
                                                                                                                  RDL (Addr.add ⟨B10, 0, none⟩ 0) fun x135 l136 c137 =>
                                                                                                                    RDI .i64 (Addr.add ⟨B10, 0, none⟩ 1) fun n138 =>
                                                                                                                      CALL Pg W F_lot_Draw [(.agg #[(.slice x135 l136 c137), (.int .i64 n138)]), (.int .i64 n9)]
                                                                                                                        (fun v139 => TUP v139 fun q141 => HD q141 fun v142 r143 => TYL v142 fun x144 l145 c146 =>
                                                                                                                          HD r143 fun v147 r148 => TYI .i64 v147 fun n149 =>
                                                                                                                            NL r148 <|
                                                                                                                              RDL (Addr.add ⟨B10, 0, none⟩ 0) fun x150 l151 c152 =>
                                                                                                                                RDI .i64 (Addr.add ⟨B10, 0, none⟩ 1) fun n153 =>
                                                                                                                                  CALL Pg W F_ref03_Draw [(.agg #[(.slice x150 l151 c152), (.int .i64 n153)]), (.int .i64 n9)]
                                                                                                                                    (fun v154 => TUP v154 fun q156 => HD q156 fun v157 r158 => TYL v157 fun x159 l160 c161 =>
                                                                                                                                      HD r158 fun v162 r163 => TYI .i64 v162 fun n164 =>
                                                                                                                                        NL r163 <|
                                                                                                                                          BR (n30 == n46)
                                                                                                                                            (J_law03_LotReads_7 W R (n33 == n49) n36 n52 n62 n75 n65 n78 x88 l89 c90 x103 l104 c105 n93 n108 n118 n131 n121 n134 x144 l145 c146 x159 l160 c161 n149 n164)
                                                                                                                                            (J_law03_LotReads_7 W R false n36 n52 n62 n75 n65 n78 x88 l89 c90 x103 l104 c105 n93 n108 n118 n131 n121 n134 x144 l145 c146 x159 l160 c161 n149 n164))
                                                                                                                                      (fun e155 => R (.panicked e155)))
                                                                                                                          (fun e140 => R (.panicked e140)))
                                                                                                              (fun e127 => R (.panicked e127)))
                                                                                                  (fun e114 => R (.panicked e114)))
                                                                                      (fun e99 => R (.panicked e99)))
                                                                          (fun e84 => R (.panicked e84)))
                                                              (fun e71 => R (.panicked e71)))
                                                  (fun e58 => R (.panicked e58)))
                                    (fun e42 => R (.panicked e42)))
                      (fun e26 => R (.panicked e26))))
            (fun e16 => R (.panicked e16))
theorem T_law03_LotReads_eq (W : World) (x1 : Option Addr) (l2 : Nat) (c3 : Nat) (n4 : Int) (x5 : Option Addr) (l6 : Nat) (c7 : Nat) (n8 : Int) (n9 : Int) (R : Ending → Hp → Prop) : vfun Pg W an_3 Try.f3 [(.agg #[(.slice x1 l2 c3), (.int .i64 n4)]), (.slice x5 l6 c7), (.int .i64 n8), (.int .i64 n9)] R = T_law03_LotReads W x1 l2 c3 n4 x5 l6 c7 n8 n9 R := by kernel_rfl
theorem does_law03_LotReads (W : World) (x1 : Option Addr) (l2 : Nat) (c3 : Nat) (n4 : Int) (x5 : Option Addr) (l6 : Nat) (c7 : Nat) (n8 : Int) (n9 : Int) (R : Ending → Hp → Prop) (s : Hp) (h : T_law03_LotReads W x1 l2 c3 n4 x5 l6 c7 n8 n9 R s) : Does Pg W F_law03_LotReads #[(.agg #[(.slice x1 l2 c3), (.int .i64 n4)]), (.slice x5 l6 c7), (.int .i64 n8), (.int .i64 n9)] s R :=
  does_of_vfun Pg W an_3 Try.func3 rfl (by kernel_rfl) (by rw [T_law03_LotReads_eq]; exact h)
def an_4 : Nat → Ann := fun b => match b with
  | _ => {}
abbrev rv_4 : List ResultVar := [.tmp 8]
abbrev rs_4 : List Nat := [127, 8]
def J_law03_LotLooks_0 (W : World) (R : Ending → Hp → Prop) (b147 : Bool) (x115 : Option Addr) (l116 : Nat) (c117 : Nat) (x133 : Option Addr) (l134 : Nat) (c135 : Nat) (n120 : Int) (n138 : Int) : Hp → Prop :=
  BR b147
    (CALL Pg W F_ref03_Ints [(.slice x115 l116 c117), (.slice x133 l134 c135)]
      (fun v148 => TYB v148 fun b150 =>
        BR b150
          (BR (n120 == n138)
            (CALL Pg W F_law03_awake []
              (fun v151 => TYB v151 fun b153 =>
                R (.returned (.bool b153)))
                (fun e152 => R (.panicked e152)))
            (R (.returned (.bool false))))
          (R (.returned (.bool false))))
        (fun e149 => R (.panicked e149)))
    (R (.returned (.bool false)))
def J_law03_LotLooks_1 (W : World) (R : Ending → Hp → Prop) (b146 : Bool) (n112 : Int) (n130 : Int) (x115 : Option Addr) (l116 : Nat) (c117 : Nat) (x133 : Option Addr) (l134 : Nat) (c135 : Nat) (n120 : Int) (n138 : Int) : Hp → Prop :=
  BR b146
    (J_law03_LotLooks_0 W R (n112 == n130) x115 l116 c117 x133 l134 c135 n120 n138)
    (J_law03_LotLooks_0 W R false x115 l116 c117 x133 l134 c135 n120 n138)
def J_law03_LotLooks_2 (W : World) (R : Ending → Hp → Prop) (b145 : Bool) (n87 : Int) (n102 : Int) (n112 : Int) (n130 : Int) (x115 : Option Addr) (l116 : Nat) (c117 : Nat) (x133 : Option Addr) (l134 : Nat) (c135 : Nat) (n120 : Int) (n138 : Int) : Hp → Prop :=
  BR b145
    (J_law03_LotLooks_1 W R (n87 == n102) n112 n130 x115 l116 c117 x133 l134 c135 n120 n138)
    (J_law03_LotLooks_1 W R false n112 n130 x115 l116 c117 x133 l134 c135 n120 n138)
def J_law03_LotLooks_3 (W : World) (R : Ending → Hp → Prop) (b141 : Bool) (x82 : Option Addr) (l83 : Nat) (c84 : Nat) (x97 : Option Addr) (l98 : Nat) (c99 : Nat) (n87 : Int) (n102 : Int) (n112 : Int) (n130 : Int) (x115 : Option Addr) (l116 : Nat) (c117 : Nat) (x133 : Option Addr) (l134 : Nat) (c135 : Nat) (n120 : Int) (n138 : Int) : Hp → Prop :=
  BR b141
    (CALL Pg W F_ref03_Pairs [(.slice x82 l83 c84), (.slice x97 l98 c99)]
      (fun v142 => TYB v142 fun b144 =>
        J_law03_LotLooks_2 W R b144 n87 n102 n112 n130 x115 l116 c117 x133 l134 c135 n120 n138)
        (fun e143 => R (.panicked e143)))
    (J_law03_LotLooks_2 W R false n87 n102 n112 n130 x115 l116 c117 x133 l134 c135 n120 n138)
def J_law03_LotLooks_4 (W : World) (R : Ending → Hp → Prop) (b140 : Bool) (n59 : Int) (n72 : Int) (x82 : Option Addr) (l83 : Nat) (c84 : Nat) (x97 : Option Addr) (l98 : Nat) (c99 : Nat) (n87 : Int) (n102 : Int) (n112 : Int) (n130 : Int) (x115 : Option Addr) (l116 : Nat) (c117 : Nat) (x133 : Option Addr) (l134 : Nat) (c135 : Nat) (n120 : Int) (n138 : Int) : Hp → Prop :=
  BR b140
    (J_law03_LotLooks_3 W R (n59 == n72) x82 l83 c84 x97 l98 c99 n87 n102 n112 n130 x115 l116 c117 x133 l134 c135 n120 n138)
    (J_law03_LotLooks_3 W R false x82 l83 c84 x97 l98 c99 n87 n102 n112 n130 x115 l116 c117 x133 l134 c135 n120 n138)
def J_law03_LotLooks_5 (W : World) (R : Ending → Hp → Prop) (b139 : Bool) (n56 : Int) (n69 : Int) (n59 : Int) (n72 : Int) (x82 : Option Addr) (l83 : Nat) (c84 : Nat) (x97 : Option Addr) (l98 : Nat) (c99 : Nat) (n87 : Int) (n102 : Int) (n112 : Int) (n130 : Int) (x115 : Option Addr) (l116 : Nat) (c117 : Nat) (x133 : Option Addr) (l134 : Nat) (c135 : Nat) (n120 : Int) (n138 : Int) : Hp → Prop :=
  BR b139
    (J_law03_LotLooks_4 W R (n56 == n69) n59 n72 x82 l83 c84 x97 l98 c99 n87 n102 n112 n130 x115 l116 c117 x133 l134 c135 n120 n138)
    (J_law03_LotLooks_4 W R false n59 n72 x82 l83 c84 x97 l98 c99 n87 n102 n112 n130 x115 l116 c117 x133 l134 c135 n120 n138)
def T_law03_LotLooks (W : World) (x1 : Option Addr) (l2 : Nat) (c3 : Nat) (n4 : Int) (x5 : Option Addr) (l6 : Nat) (c7 : Nat) (n8 : Int) (n9 : Int) (R : Ending → Hp → Prop) : Hp → Prop :=
  NEW 24 [(.slice x1 l2 c3), (.int .i64 n4)] fun B10 =>
    RDL (Addr.add ⟨B10, 0, none⟩ 0) fun x11 l12 c13 =>
      RDI .i64 (Addr.add ⟨B10, 0, none⟩ 1) fun n14 =>
        CALL Pg W F_law03_far [(.agg #[(.slice x11 l12 c13), (.int .i64 n14)]), (.slice x5 l6 c7), (.int .i64 6)]
          (fun v15 => TYB v15 fun b17 =>
            BR b17
              (CALL Pg W F_law03_awake []
                (fun v18 => TYB v18 fun b20 =>
                  R (.returned (.bool b20)))
                  (fun e19 => R (.panicked e19)))
              (RDL (Addr.add ⟨B10, 0, none⟩ 0) fun x21 l22 c23 =>
                RDI .i64 (Addr.add ⟨B10, 0, none⟩ 1) fun n24 =>
                  CALL Pg W F_lot_Can [(.agg #[(.slice x21 l22 c23), (.int .i64 n24)]), (.int .i64 n8)]
                    (fun v25 => TUP v25 fun q27 => HD q27 fun v28 r29 => TYI .i64 v28 fun n30 =>
                      HD r29 fun v31 r32 => TYI .i64 v31 fun n33 =>
                        NL r32 <|
                          RDL (Addr.add ⟨B10, 0, none⟩ 0) fun x34 l35 c36 =>
                            RDI .i64 (Addr.add ⟨B10, 0, none⟩ 1) fun n37 =>
                              CALL Pg W F_ref03_Can [(.agg #[(.slice x34 l35 c36), (.int .i64 n37)]), (.int .i64 n8)]
                                (fun v38 => TUP v38 fun q40 => HD q40 fun v41 r42 => TYI .i64 v41 fun n43 =>
                                  HD r42 fun v44 r45 => TYI .i64 v44 fun n46 =>
                                    NL r45 <|
                                      RDL (Addr.add ⟨B10, 0, none⟩ 0) fun x47 l48 c49 =>
                                        RDI .i64 (Addr.add ⟨B10, 0, none⟩ 1) fun n50 =>
                                          CALL Pg W F_lot_Often [(.agg #[(.slice x47 l48 c49), (.int .i64 n50)]), (.int .i64 n8), (.int .i64 n9)]
                                            (fun v51 => TUP v51 fun q53 => HD q53 fun v54 r55 => TYI .i64 v54 fun n56 =>
                                              HD r55 fun v57 r58 => TYI .i64 v57 fun n59 =>
                                                NL r58 <|
                                                  RDL (Addr.add ⟨B10, 0, none⟩ 0) fun x60 l61 c62 =>
                                                    RDI .i64 (Addr.add ⟨B10, 0, none⟩ 1) fun n63 =>
                                                      CALL Pg W F_ref03_Often [(.agg #[(.slice x60 l61 c62), (.int .i64 n63)]), (.int .i64 n8), (.int .i64 n9)]
                                                        (fun v64 => TUP v64 fun q66 => HD q66 fun v67 r68 => TYI .i64 v67 fun n69 =>
                                                          HD r68 fun v70 r71 => TYI .i64 v70 fun n72 =>
                                                            NL r71 <|
                                                              RDL (Addr.add ⟨B10, 0, none⟩ 0) fun x73 l74 c75 =>
                                                                RDI .i64 (Addr.add ⟨B10, 0, none⟩ 1) fun n76 =>
                                                                  CALL Pg W F_lot_Swaps [(.agg #[(.slice x73 l74 c75), (.int .i64 n76)]), (.slice x5 l6 c7)]
                                                                    (fun v77 => TUP v77 fun q79 => HD q79 fun v80 r81 => TYL v80 fun x82 l83 c84 =>
                                                                      HD r81 fun v85 r86 => TYI .i64 v85 fun n87 =>
                                                                        NL r86 <|
                                                                          RDL (Addr.add ⟨B10, 0, none⟩ 0) fun x88 l89 c90 =>
                                                                            RDI .i64 (Addr.add ⟨B10, 0, none⟩ 1) fun n91 =>
                                                                              CALL Pg W F_ref03_Swaps [(.agg #[(.slice x88 l89 c90), (.int .i64 n91)]), (.slice x5 l6 c7)]
                                                                                (fun v92 => TUP v92 fun q94 => HD q94 fun v95 r96 => TYL v95 fun x97 l98 c99 =>
                                                                                  HD r96 fun v100 r101 => TYI .i64 v100 fun n102 =>
                                                                                    NL r101 <|
                                                                                      RDL (Addr.add ⟨B10, 0, none⟩ 0) fun x103 l104 c105 =>
                                                                                        RDI .i64 (Addr.add ⟨B10, 0, none⟩ 1) fun n106 =>
                                                                                          CALL Pg W F_lot_Least [(.agg #[(.slice x103 l104 c105), (.int .i64 n106)])]
                                                                                            (fun v107 => TUP v107 fun q109 => HD q109 fun v110 r111 => TYI .i64 v110 fun n112 =>
                                                                                              HD r111 fun v113 r114 => TYL v113 fun x115 l116 c117 =>
                                                                                                HD r114 fun v118 r119 => TYI .i64 v118 fun n120 =>
                                                                                                  NL r119 <|
                                                                                                    RDL (Addr.add ⟨B10, 0, none⟩ 0) fun x121 l122 c123 =>
                                                                                                      RDI .i64 (Addr.add ⟨B10, 0, none⟩ 1) fun n124 =>
                                                                                                        CALL Pg W F_ref03_Least [(.agg #[(.slice x121 l122 c123), (.int .i64 n124)])]
                                                                                                          (fun v125 => TUP v125 fun q127 => HD q127 fun v128 r129 => TYI .i64 v128 fun n130 =>
                                                                                                            HD r129 fun v131 r132 => TYL v131 fun x133 l134 c135 =>
                                                                                                              HD r132 fun v136 r137 => TYI .i64 v136 fun n138 =>
                                                                                                                NL r137 <|
                                                                                                                  BR (n30 == n43)
                                                                                                                    (J_law03_LotLooks_5 W R (n33 == n46) n56 n69 n59 n72 x82 l83 c84 x97 l98 c99 n87 n102 n112 n130 x115 l116 c117 x133 l134 c135 n120 n138)
                                                                                                                    (J_law03_LotLooks_5 W R false n56 n69 n59 n72 x82 l83 c84 x97 l98 c99 n87 n102 n112 n130 x115 l116 c117 x133 l134 c135 n120 n138))
                                                                                                            (fun e126 => R (.panicked e126)))
                                                                                              (fun e108 => R (.panicked e108)))
                                                                                  (fun e93 => R (.panicked e93)))
                                                                      (fun e78 => R (.panicked e78)))
                                                          (fun e65 => R (.panicked e65)))
                                              (fun e52 => R (.panicked e52)))
                                  (fun e39 => R (.panicked e39)))
                      (fun e26 => R (.panicked e26))))
            (fun e16 => R (.panicked e16))
theorem T_law03_LotLooks_eq (W : World) (x1 : Option Addr) (l2 : Nat) (c3 : Nat) (n4 : Int) (x5 : Option Addr) (l6 : Nat) (c7 : Nat) (n8 : Int) (n9 : Int) (R : Ending → Hp → Prop) : vfun Pg W an_4 Try.f4 [(.agg #[(.slice x1 l2 c3), (.int .i64 n4)]), (.slice x5 l6 c7), (.int .i64 n8), (.int .i64 n9)] R = T_law03_LotLooks W x1 l2 c3 n4 x5 l6 c7 n8 n9 R := by kernel_rfl
theorem does_law03_LotLooks (W : World) (x1 : Option Addr) (l2 : Nat) (c3 : Nat) (n4 : Int) (x5 : Option Addr) (l6 : Nat) (c7 : Nat) (n8 : Int) (n9 : Int) (R : Ending → Hp → Prop) (s : Hp) (h : T_law03_LotLooks W x1 l2 c3 n4 x5 l6 c7 n8 n9 R s) : Does Pg W F_law03_LotLooks #[(.agg #[(.slice x1 l2 c3), (.int .i64 n4)]), (.slice x5 l6 c7), (.int .i64 n8), (.int .i64 n9)] s R :=
  does_of_vfun Pg W an_4 Try.func4 rfl (by kernel_rfl) (by rw [T_law03_LotLooks_eq]; exact h)
def an_5 : Nat → Ann := fun b => match b with
  | 0 => { ms := [4, 189], ks := [.b, .i .i64], us := [2, 10, 13, 20, 21, 22, 188, 277], rt := false, ex := [] }
  | _ => {}
abbrev rv_5 : List ResultVar := [.tmp 4]
abbrev rs_5 : List Nat := [277, 4]
def L_law03_LotLawful_0 (W : World) (R : Ending → Hp → Prop) (za0 : Addr) (zp1 : Option Addr) (zl2 : Nat) (zl3 : Nat) (zn4 : Int) (zb5 : Bool) (zb6 : Bool) (zb7 : Bool) (zn8 : Int) (b174 : Bool) (n175 : Int) : Hp → Prop :=
  LOOPN [.b, .i .i64] (fun ys next s => ∀ j : Tm, vc Pg W 277 rs_5 an_5 false (sub (bodyOf Try.f5) [1, 1, 1, 1, 1, 1, 1, 1, 1, 1, 1, 1, 1, 1, 0, 1, 0, 0]) 0 (KLoop [4, 189] [2, 10, 13, 20, 21, 22, 188, 277] [(.pointer (some za0)), (.slice zp1 zl2 zl3), (.int .i64 zn4), (.bool zb5), (.bool zb6), (.bool zb7), (.int .i64 zn8), (.tuple #[])] next (KBlk 0 (KS Pg W 277 rs_5 an_5 false (sub (bodyOf Try.f5) [1, 1, 1, 1, 1, 1, 1, 1, 1, 1, 1, 1, 1, 1, 1]) 0 (fin Pg W 277 rv_5 R)))) (known [4, 189] ys (known [2, 10, 13, 20, 21, 22, 188, 277] [(.pointer (some za0)), (.slice zp1 zl2 zl3), (.int .i64 zn4), (.bool zb5), (.bool zb6), (.bool zb7), (.int .i64 zn8), (.tuple #[])] j)) s) [(.bool b174), (.int .i64 n175)]
def J_law03_LotLawful_0 (W : World) (R : Ending → Hp → Prop) (b119 : Bool) (n98 : Int) (n116 : Int) : Hp → Prop :=
  BR b119
    (BR (decide (n98 ≥ 0))
      (BR (n116 == 0)
        (CALL Pg W F_law03_awake []
          (fun v120 => TYB v120 fun b122 =>
            R (.returned (.bool b122)))
            (fun e121 => R (.panicked e121)))
        (R (.returned (.bool false))))
      (R (.returned (.bool false))))
    (R (.returned (.bool false)))
def J_law03_LotLawful_1 (W : World) (R : Ending → Hp → Prop) (b118 : Bool) (n101 : Int) (n98 : Int) (n116 : Int) : Hp → Prop :=
  BR b118
    (J_law03_LotLawful_0 W R (n101 == 0) n98 n116)
    (J_law03_LotLawful_0 W R false n98 n116)
def J_law03_LotLawful_2 (W : World) (R : Ending → Hp → Prop) (b117 : Bool) (n85 : Int) (n101 : Int) (n98 : Int) (n116 : Int) : Hp → Prop :=
  BR b117
    (J_law03_LotLawful_1 W R (n85 == 0) n101 n98 n116)
    (J_law03_LotLawful_1 W R false n101 n98 n116)
def J_law03_LotLawful_3 (W : World) (R : Ending → Hp → Prop) (B8 : Nat) (x63 : Option Addr) (l64 : Nat) (c65 : Nat) (n85 : Int) (b167 : Bool) (b170 : Bool) (b173 : Bool) (n82 : Int) : Hp → Prop :=
  L_law03_LotLawful_0 W R ⟨B8, 0, none⟩ x63 l64 c65 n85 b167 b170 b173 n82 false 0
def J_law03_LotLawful_4 (W : World) (R : Ending → Hp → Prop) (B138 : Nat) (B8 : Nat) (n82 : Int) (x63 : Option Addr) (l64 : Nat) (c65 : Nat) (n85 : Int) (b167 : Bool) (b170 : Bool) : Hp → Prop :=
  RDB (Addr.add ⟨B138, 0, none⟩ 2) fun b171 =>
    BR b171
      (RDI .i64 (Addr.add ⟨B8, 0, none⟩ 1) fun n172 =>
        NNI n82 <|
          J_law03_LotLawful_3 W R B8 x63 l64 c65 n85 b167 b170 ((andv .i64 (shrv .i64 n172 n82) 1) == 1) n82)
      (J_law03_LotLawful_3 W R B8 x63 l64 c65 n85 b167 b170 false n82)
def J_law03_LotLawful_5 (W : World) (R : Ending → Hp → Prop) (b169 : Bool) (B138 : Nat) (B8 : Nat) (n82 : Int) (x63 : Option Addr) (l64 : Nat) (c65 : Nat) (n85 : Int) (b167 : Bool) : Hp → Prop :=
  BR b169
    (J_law03_LotLawful_4 W R B138 B8 n82 x63 l64 c65 n85 b167 (decide (n82 < (IntKind.wrap .i64 ((↑l64 : Int) - 1)))))
    (J_law03_LotLawful_4 W R B138 B8 n82 x63 l64 c65 n85 b167 false)
def J_law03_LotLawful_6 (W : World) (R : Ending → Hp → Prop) (B138 : Nat) (n82 : Int) (B8 : Nat) (x63 : Option Addr) (l64 : Nat) (c65 : Nat) (n85 : Int) (b167 : Bool) : Hp → Prop :=
  RDB (Addr.add ⟨B138, 0, none⟩ 1) fun b168 =>
    BR b168
      (J_law03_LotLawful_5 W R (decide (n82 > 0)) B138 B8 n82 x63 l64 c65 n85 b167)
      (J_law03_LotLawful_5 W R false B138 B8 n82 x63 l64 c65 n85 b167)
def J_law03_LotLawful_7 (W : World) (R : Ending → Hp → Prop) (b150 : Bool) (B138 : Nat) (B8 : Nat) (x63 : Option Addr) (l64 : Nat) (n82 : Int) (c65 : Nat) (n85 : Int) : Hp → Prop :=
  BR b150
    (RDI .i64 (Addr.add ⟨B138, 0, none⟩ 0) fun n151 =>
      RDL (Addr.add ⟨B8, 0, none⟩ 0) fun x152 l153 c154 =>
        ANDS (RDL (Addr.add ⟨B8, 0, none⟩ 0) fun x158 l159 c160 =>
          fun _ => ((.slice x158 l159 c160) : Value) = (.slice x152 l153 c154)) <|
          ANDS (RDI .i64 (Addr.add ⟨B138, 0, none⟩ 0) fun n162 =>
            fun _ => ((.int .i64 n162) : Value) = (.int .i64 n151)) <|
            IXS x63 l64 (if (IntKind.wrap .i64 (n82 - 1)) > 0 then (IntKind.wrap .i64 (n82 - 1)) else 0) 1 fun a163 =>
              RDI .i64 a163 fun n164 =>
                IXS x152 l153 n164 3 fun a165 =>
                  RDI .i64 (Addr.add a165 0) fun n166 =>
                    J_law03_LotLawful_6 W R B138 n82 B8 x63 l64 c65 n85 (n151 == n166))
    (J_law03_LotLawful_6 W R B138 n82 B8 x63 l64 c65 n85 false)
def J_law03_LotLawful_8 (W : World) (R : Ending → Hp → Prop) (b128 : Bool) (B8 : Nat) (x63 : Option Addr) (l64 : Nat) (n82 : Int) (c65 : Nat) (n85 : Int) : Hp → Prop :=
  BR b128
    (R (.returned (.bool false)))
    (RDL (Addr.add ⟨B8, 0, none⟩ 0) fun x129 l130 c131 =>
      IXS x63 l64 n82 1 fun a132 =>
        RDI .i64 a132 fun n133 =>
          IXS x129 l130 n133 3 fun a134 =>
            RDI .i64 (Addr.add a134 0) fun n135 =>
              RDB (Addr.add a134 1) fun b136 =>
                RDB (Addr.add a134 2) fun b137 =>
                  NEWZ Pg 51 fun B138 =>
                    ANDS (RDI .i64 (Addr.add a134 0) fun n139 =>
                      RDB (Addr.add a134 1) fun b140 =>
                        RDB (Addr.add a134 2) fun b141 =>
                          fun _ => ((.agg #[(.int .i64 n139), (.bool b140), (.bool b141)]) : Value) = (.agg #[(.int .i64 n135), (.bool b136), (.bool b137)])) <|
                      ANDS (RDI .i64 a132 fun n142 =>
                        fun _ => ((.int .i64 n142) : Value) = (.int .i64 n133)) <|
                        ANDS (RDL (Addr.add ⟨B8, 0, none⟩ 0) fun x143 l144 c145 =>
                          fun _ => ((.slice x143 l144 c145) : Value) = (.slice x129 l130 c131)) <|
                          WR (Addr.add ⟨B138, 0, none⟩ 0) (.int .i64 n135) <|
                            WR (Addr.add ⟨B138, 0, none⟩ 1) (.bool b136) <|
                              WR (Addr.add ⟨B138, 0, none⟩ 2) (.bool b137) <|
                                BR (decide (n82 > 0))
                                  (RDI .i64 (Addr.add ⟨B138, 0, none⟩ 0) fun n146 =>
                                    J_law03_LotLawful_7 W R (n146 != 0) B138 B8 x63 l64 n82 c65 n85)
                                  (J_law03_LotLawful_7 W R false B138 B8 x63 l64 n82 c65 n85))
def J_law03_LotLawful_9 (W : World) (R : Ending → Hp → Prop) (b127 : Bool) (B8 : Nat) (x63 : Option Addr) (l64 : Nat) (n82 : Int) (c65 : Nat) (n85 : Int) : Hp → Prop :=
  BR b127
    (J_law03_LotLawful_8 W R true B8 x63 l64 n82 c65 n85)
    (J_law03_LotLawful_8 W R (decide (n82 ≥ (↑l64 : Int))) B8 x63 l64 n82 c65 n85)
def J_law03_LotLawful_10 (W : World) (R : Ending → Hp → Prop) (b126 : Bool) (B8 : Nat) (x63 : Option Addr) (l64 : Nat) (n82 : Int) (c65 : Nat) (n85 : Int) : Hp → Prop :=
  BR b126
    (J_law03_LotLawful_9 W R true B8 x63 l64 n82 c65 n85)
    (J_law03_LotLawful_9 W R (decide (n82 < 0)) B8 x63 l64 n82 c65 n85)
def J_law03_LotLawful_11 (W : World) (R : Ending → Hp → Prop) (b125 : Bool) (B8 : Nat) (x63 : Option Addr) (l64 : Nat) (n82 : Int) (c65 : Nat) (n85 : Int) (l112 : Nat) : Hp → Prop :=
  BR b125
    (J_law03_LotLawful_10 W R true B8 x63 l64 n82 c65 n85)
    (J_law03_LotLawful_10 W R ((↑l112 : Int) != 0) B8 x63 l64 n82 c65 n85)
def J_law03_LotLawful_12 (W : World) (R : Ending → Hp → Prop) (b124 : Bool) (B8 : Nat) (x63 : Option Addr) (l64 : Nat) (n82 : Int) (c65 : Nat) (n85 : Int) (l112 : Nat) (n116 : Int) : Hp → Prop :=
  BR b124
    (J_law03_LotLawful_11 W R true B8 x63 l64 n82 c65 n85 l112)
    (J_law03_LotLawful_11 W R (n116 != 4) B8 x63 l64 n82 c65 n85 l112)
def J_law03_LotLawful_13 (W : World) (R : Ending → Hp → Prop) (b123 : Bool) (B8 : Nat) (x63 : Option Addr) (l64 : Nat) (n82 : Int) (c65 : Nat) (n85 : Int) (l112 : Nat) (n116 : Int) (n98 : Int) : Hp → Prop :=
  BR b123
    (J_law03_LotLawful_12 W R true B8 x63 l64 n82 c65 n85 l112 n116)
    (J_law03_LotLawful_12 W R (n98 != 0) B8 x63 l64 n82 c65 n85 l112 n116)
def J_law03_LotLawful_14 (W : World) (R : Ending → Hp → Prop) (b239 : Bool) (za0 : Addr) (zp1 : Option Addr) (zl2 : Nat) (zl3 : Nat) (zn4 : Int) (zb5 : Bool) (zb6 : Bool) (zb7 : Bool) (zn8 : Int) (nx0 : List Value → Hp → Prop) (b174 : Bool) (n175 : Int) : Hp → Prop :=
  BR b239
    (R (.returned (.bool false)))
    (NX [(.pointer (some za0)), (.slice zp1 zl2 zl3), (.int .i64 zn4), (.bool zb5), (.bool zb6), (.bool zb7), (.int .i64 zn8), (.tuple #[])] [(.pointer (some za0)), (.slice zp1 zl2 zl3), (.int .i64 zn4), (.bool zb5), (.bool zb6), (.bool zb7), (.int .i64 zn8), (.tuple #[])] (nx0 [(.bool b174), (.int .i64 (IntKind.wrap .i64 (n175 + 1)))]))
def J_law03_LotLawful_15 (W : World) (R : Ending → Hp → Prop) (b238 : Bool) (za0 : Addr) (zp1 : Option Addr) (zl2 : Nat) (zl3 : Nat) (zn4 : Int) (zb5 : Bool) (zb6 : Bool) (zb7 : Bool) (zn8 : Int) (nx0 : List Value → Hp → Prop) (b174 : Bool) (n175 : Int) (B185 : Nat) : Hp → Prop :=
  BR b238
    (J_law03_LotLawful_14 W R true za0 zp1 zl2 zl3 zn4 zb5 zb6 zb7 zn8 nx0 b174 n175)
    (RDB (Addr.add ⟨B185, 0, none⟩ 2) fun b240 =>
      BR b240
        (RDI .i64 (Addr.add za0 1) fun n241 =>
          NNI n175 <|
            J_law03_LotLawful_14 W R ((andv .i64 (shrv .i64 n241 n175) 1) == 1) za0 zp1 zl2 zl3 zn4 zb5 zb6 zb7 zn8 nx0 b174 n175)
        (J_law03_LotLawful_14 W R false za0 zp1 zl2 zl3 zn4 zb5 zb6 zb7 zn8 nx0 b174 n175))
def J_law03_LotLawful_16 (W : World) (R : Ending → Hp → Prop) (b220 : Bool) (za0 : Addr) (zp1 : Option Addr) (zl2 : Nat) (zl3 : Nat) (zn4 : Int) (zb5 : Bool) (zb6 : Bool) (zb7 : Bool) (zn8 : Int) (nx0 : List Value → Hp → Prop) (b174 : Bool) (n175 : Int) (B185 : Nat) : Hp → Prop :=
  BR b220
    (J_law03_LotLawful_15 W R true za0 zp1 zl2 zl3 zn4 zb5 zb6 zb7 zn8 nx0 b174 n175 B185)
    (RDB (Addr.add ⟨B185, 0, none⟩ 1) fun b242 =>
      BR b242
        (J_law03_LotLawful_15 W R (decide (n175 > 0)) za0 zp1 zl2 zl3 zn4 zb5 zb6 zb7 zn8 nx0 b174 n175 B185)
        (J_law03_LotLawful_15 W R false za0 zp1 zl2 zl3 zn4 zb5 zb6 zb7 zn8 nx0 b174 n175 B185))
def J_law03_LotLawful_17 (W : World) (R : Ending → Hp → Prop) (b197 : Bool) (B185 : Nat) (za0 : Addr) (zp1 : Option Addr) (zl2 : Nat) (n175 : Int) (zl3 : Nat) (zn4 : Int) (zb5 : Bool) (zb6 : Bool) (zb7 : Bool) (zn8 : Int) (nx0 : List Value → Hp → Prop) (b174 : Bool) : Hp → Prop :=
  BR b197
    (RDI .i64 (Addr.add ⟨B185, 0, none⟩ 0) fun n198 =>
      RDL (Addr.add za0 0) fun x199 l200 c201 =>
        IXS zp1 zl2 (IntKind.wrap .i64 (n175 - 1)) 1 fun a202 =>
          RDI .i64 a202 fun n203 =>
            IXS x199 l200 n203 3 fun a204 =>
              RDI .i64 (Addr.add a204 0) fun n205 =>
                J_law03_LotLawful_16 W R (n198 == n205) za0 zp1 zl2 zl3 zn4 zb5 zb6 zb7 zn8 nx0 b174 n175 B185)
    (J_law03_LotLawful_16 W R false za0 zp1 zl2 zl3 zn4 zb5 zb6 zb7 zn8 nx0 b174 n175 B185)
def J_law03_LotLawful_18 (W : World) (R : Ending → Hp → Prop) (b244 : Bool) (zn4 : Int) (zb5 : Bool) (zb6 : Bool) (zb7 : Bool) : Hp → Prop :=
  BR b244
    (CALL Pg W F_law03_awake []
      (fun v245 => TYB v245 fun b247 =>
        R (.returned (.bool b247)))
        (fun e246 => R (.panicked e246)))
    (BR (zn4 == 3)
      (BR (!zb5)
        (BR (!zb6)
          (BR zb7
            (CALL Pg W F_law03_awake []
              (fun v248 => TYB v248 fun b250 =>
                R (.returned (.bool b250)))
                (fun e249 => R (.panicked e249)))
            (R (.returned (.bool false))))
          (R (.returned (.bool false))))
        (R (.returned (.bool false))))
      (R (.returned (.bool false))))
def J_law03_LotLawful_19 (W : World) (R : Ending → Hp → Prop) (b243 : Bool) (zn4 : Int) (zb5 : Bool) (zb6 : Bool) (zb7 : Bool) : Hp → Prop :=
  BR b243
    (J_law03_LotLawful_18 W R true zn4 zb5 zb6 zb7)
    (BR (zn4 == 2)
      (BR (!zb5)
        (J_law03_LotLawful_18 W R zb6 zn4 zb5 zb6 zb7)
        (J_law03_LotLawful_18 W R false zn4 zb5 zb6 zb7))
      (J_law03_LotLawful_18 W R false zn4 zb5 zb6 zb7))
def B_law03_LotLawful_0 (W : World) (R : Ending → Hp → Prop) (za0 : Addr) (zp1 : Option Addr) (zl2 : Nat) (zl3 : Nat) (zn4 : Int) (zb5 : Bool) (zb6 : Bool) (zb7 : Bool) (zn8 : Int) (b174 : Bool) (n175 : Int) (nx0 : List Value → Hp → Prop) : Hp → Prop :=
  BR (decide (n175 < zn8))
    (RDL (Addr.add za0 0) fun x176 l177 c178 =>
      IXS zp1 zl2 n175 1 fun a179 =>
        RDI .i64 a179 fun n180 =>
          IXS x176 l177 n180 3 fun a181 =>
            RDI .i64 (Addr.add a181 0) fun n182 =>
              RDB (Addr.add a181 1) fun b183 =>
                RDB (Addr.add a181 2) fun b184 =>
                  NEWZ Pg 51 fun B185 =>
                    ANDS (RDI .i64 (Addr.add a181 0) fun n186 =>
                      RDB (Addr.add a181 1) fun b187 =>
                        RDB (Addr.add a181 2) fun b188 =>
                          fun _ => ((.agg #[(.int .i64 n186), (.bool b187), (.bool b188)]) : Value) = (.agg #[(.int .i64 n182), (.bool b183), (.bool b184)])) <|
                      ANDS (RDI .i64 a179 fun n189 =>
                        fun _ => ((.int .i64 n189) : Value) = (.int .i64 n180)) <|
                        ANDS (RDL (Addr.add za0 0) fun x190 l191 c192 =>
                          fun _ => ((.slice x190 l191 c192) : Value) = (.slice x176 l177 c178)) <|
                          WR (Addr.add ⟨B185, 0, none⟩ 0) (.int .i64 n182) <|
                            WR (Addr.add ⟨B185, 0, none⟩ 1) (.bool b183) <|
                              WR (Addr.add ⟨B185, 0, none⟩ 2) (.bool b184) <|
                                BR (decide (n175 > 0))
                                  (RDI .i64 (Addr.add ⟨B185, 0, none⟩ 0) fun n193 =>
                                    J_law03_LotLawful_17 W R (n193 != 0) B185 za0 zp1 zl2 n175 zl3 zn4 zb5 zb6 zb7 zn8 nx0 b174)
                                  (J_law03_LotLawful_17 W R false B185 za0 zp1 zl2 n175 zl3 zn4 zb5 zb6 zb7 zn8 nx0 b174))
    (BR (zn4 == 1)
      (J_law03_LotLawful_19 W R zb5 zn4 zb5 zb6 zb7)
      (J_law03_LotLawful_19 W R false zn4 zb5 zb6 zb7))
theorem B_law03_LotLawful_0_eq (W : World) (R : Ending → Hp → Prop) (za0 : Addr) (zp1 : Option Addr) (zl2 : Nat) (zl3 : Nat) (zn4 : Int) (zb5 : Bool) (zb6 : Bool) (zb7 : Bool) (zn8 : Int) (b174 : Bool) (n175 : Int) (nx0 : List Value → Hp → Prop) (j : Tm) : vc Pg W 277 rs_5 an_5 false (sub (bodyOf Try.f5) [1, 1, 1, 1, 1, 1, 1, 1, 1, 1, 1, 1, 1, 1, 0, 1, 0, 0]) 0 (KLoop [4, 189] [2, 10, 13, 20, 21, 22, 188, 277] [(.pointer (some za0)), (.slice zp1 zl2 zl3), (.int .i64 zn4), (.bool zb5), (.bool zb6), (.bool zb7), (.int .i64 zn8), (.tuple #[])] nx0 (KBlk 0 (KS Pg W 277 rs_5 an_5 false (sub (bodyOf Try.f5) [1, 1, 1, 1, 1, 1, 1, 1, 1, 1, 1, 1, 1, 1, 1]) 0 (fin Pg W 277 rv_5 R)))) (known [4, 189] [(.bool b174), (.int .i64 n175)] (known [2, 10, 13, 20, 21, 22, 188, 277] [(.pointer (some za0)), (.slice zp1 zl2 zl3), (.int .i64 zn4), (.bool zb5), (.bool zb6), (.bool zb7), (.int .i64 zn8), (.tuple #[])] j)) = B_law03_LotLawful_0 W R za0 zp1 zl2 zl3 zn4 zb5 zb6 zb7 zn8 b174 n175 nx0 := by kernel_rfl
def N_law03_LotLawful_0 (I : Bool → Int → Hp → Prop) (μ : Bool → Int → Hp → Nat) (b1740 : Bool) (n1750 : Int) (s : Hp) (vs : List Value) : Hp → Prop := fun s' => ∃ b174 n175, vs = [(.bool b174), (.int .i64 n175)] ∧ I b174 n175 s' ∧ μ b174 n175 s' < μ b1740 n1750 s
theorem L_law03_LotLawful_0_rule (W : World) (R : Ending → Hp → Prop) (za0 : Addr) (zp1 : Option Addr) (zl2 : Nat) (zl3 : Nat) (zn4 : Int) (zb5 : Bool) (zb6 : Bool) (zb7 : Bool) (zn8 : Int) (I : Bool → Int → Hp → Prop) (μ : Bool → Int → Hp → Nat) (b1740 : Bool) (n1750 : Int) (s : Hp) (h0 : I b1740 n1750 s)
    (hr : ∀ (b174 : Bool) (n175 : Int) (s : Hp), I b174 n175 s → B_law03_LotLawful_0 W R za0 zp1 zl2 zl3 zn4 zb5 zb6 zb7 zn8 b174 n175 (fun vs => N_law03_LotLawful_0 I μ b174 n175 s vs) s) : L_law03_LotLawful_0 W R za0 zp1 zl2 zl3 zn4 zb5 zb6 zb7 zn8 b1740 n1750 s := by
  refine ⟨fun vs s => ∃ b174 n175, vs = [(.bool b174), (.int .i64 n175)] ∧ I b174 n175 s, fun vs s => (match vs with | [.bool b174, .int _ n175] => μ b174 n175 s | _ => 0), ⟨⟨⟨_, rfl⟩, ⟨⟨_, rfl⟩, trivial⟩⟩, ⟨_, _, rfl, h0⟩⟩, ?_⟩
  intro b174 n175 s hI j
  obtain ⟨b174', n175', hy, hI⟩ := hI
  have hI' : I b174 n175 s := by cases hy; exact hI
  have hh := hr b174 n175 s hI'
  rw [← B_law03_LotLawful_0_eq W R za0 zp1 zl2 zl3 zn4 zb5 zb6 zb7 zn8 b174 n175 _ j] at hh
  refine vc_mono ?_ _ _ hh
  exact KLoop_mono (fun vs s' h => by obtain ⟨b1741, n1751, rfl, h1, h2⟩ := h; exact ⟨⟨⟨_, rfl⟩, ⟨⟨_, rfl⟩, trivial⟩⟩, ⟨_, _, rfl, h1⟩, h2⟩)
def T_law03_LotLawful (W : World) (x1 : Option Addr) (l2 : Nat) (c3 : Nat) (n4 : Int) (x5 : Option Addr) (l6 : Nat) (c7 : Nat) (R : Ending → Hp → Prop) : Hp → Prop :=
  NEW 24 [(.slice x1 l2 c3), (.int .i64 n4)] fun B8 =>
    RDL (Addr.add ⟨B8, 0, none⟩ 0) fun x9 l10 c11 =>
      RDI .i64 (Addr.add ⟨B8, 0, none⟩ 1) fun n12 =>
        CALL Pg W F_law03_far [(.agg #[(.slice x9 l10 c11), (.int .i64 n12)]), (.slice none 0 0), (.int .i64 8)]
          (fun v13 => TYB v13 fun b15 =>
            BR b15
              (CALL Pg W F_law03_awake []
                (fun v16 => TYB v16 fun b18 =>
                  R (.returned (.bool b18)))
                  (fun e17 => R (.panicked e17)))
              (RDL (Addr.add ⟨B8, 0, none⟩ 0) fun x19 l20 c21 =>
                RDI .i64 (Addr.add ⟨B8, 0, none⟩ 1) fun n22 =>
                  CALL Pg W F_ref03_Lots [(.agg #[(.slice x19 l20 c21), (.int .i64 n22)])]
                    (fun v23 => TYB v23 fun b25 =>
                      BR (!b25)
                        (RDL (Addr.add ⟨B8, 0, none⟩ 0) fun x26 l27 c28 =>
                          RDI .i64 (Addr.add ⟨B8, 0, none⟩ 1) fun n29 =>
                            CALL Pg W F_lot_Check [(.agg #[(.slice x26 l27 c28), (.int .i64 n29)]), (.slice none 0 0)]
                              (fun v30 => TUP v30 fun q32 => HD q32 fun v33 r34 => TYI .i64 v33 fun n35 =>
                                HD r34 fun v36 r37 => TYI .i64 v36 fun n38 =>
                                  HD r37 fun v39 r40 => TYI .i64 v39 fun n41 =>
                                    NL r40 <|
                                      RDL (Addr.add ⟨B8, 0, none⟩ 0) fun x42 l43 c44 =>
                                        RDI .i64 (Addr.add ⟨B8, 0, none⟩ 1) fun n45 =>
                                          CALL Pg W F_lot_Place [(.agg #[(.slice x42 l43 c44), (.int .i64 n45)]), (.slice none 0 0)]
                                            (fun v46 => TUP v46 fun q48 => HD q48 fun v49 r50 => TYI .i64 v49 fun n51 =>
                                              HD r50 fun v52 r53 => TYI .i64 v52 fun n54 =>
                                                NL r53 <|
                                                  BR (n41 == 1)
                                                    (BR (n54 == n41)
                                                      (CALL Pg W F_law03_awake []
                                                        (fun v55 => TYB v55 fun b57 =>
                                                          R (.returned (.bool b57)))
                                                          (fun e56 => R (.panicked e56)))
                                                      (R (.returned (.bool false))))
                                                    (R (.returned (.bool false))))
                                              (fun e47 => R (.panicked e47)))
                                (fun e31 => R (.panicked e31)))
                        (RDL (Addr.add ⟨B8, 0, none⟩ 0) fun x58 l59 c60 =>
                          CALL Pg W F_law03_made [(.int .i64 (↑l59 : Int)), (.slice x5 l6 c7)]
                            (fun v61 => TYL v61 fun x63 l64 c65 =>
                              RDL (Addr.add ⟨B8, 0, none⟩ 0) fun x66 l67 c68 =>
                                RDI .i64 (Addr.add ⟨B8, 0, none⟩ 1) fun n69 =>
                                  CALL Pg W F_law03_lawful [(.agg #[(.slice x66 l67 c68), (.int .i64 n69)]), (.slice x63 l64 c65)]
                                    (fun v70 => TYB v70 fun b72 =>
                                      RDL (Addr.add ⟨B8, 0, none⟩ 0) fun x73 l74 c75 =>
                                        RDI .i64 (Addr.add ⟨B8, 0, none⟩ 1) fun n76 =>
                                          CALL Pg W F_lot_Check [(.agg #[(.slice x73 l74 c75), (.int .i64 n76)]), (.slice x63 l64 c65)]
                                            (fun v77 => TUP v77 fun q79 => HD q79 fun v80 r81 => TYI .i64 v80 fun n82 =>
                                              HD r81 fun v83 r84 => TYI .i64 v83 fun n85 =>
                                                HD r84 fun v86 r87 => TYI .i64 v86 fun n88 =>
                                                  NL r87 <|
                                                    RDL (Addr.add ⟨B8, 0, none⟩ 0) fun x89 l90 c91 =>
                                                      RDI .i64 (Addr.add ⟨B8, 0, none⟩ 1) fun n92 =>
                                                        CALL Pg W F_lot_Place [(.agg #[(.slice x89 l90 c91), (.int .i64 n92)]), (.slice x63 l64 c65)]
                                                          (fun v93 => TUP v93 fun q95 => HD q95 fun v96 r97 => TYI .i64 v96 fun n98 =>
                                                            HD r97 fun v99 r100 => TYI .i64 v99 fun n101 =>
                                                              NL r100 <|
                                                                RDL (Addr.add ⟨B8, 0, none⟩ 0) fun x102 l103 c104 =>
                                                                  RDI .i64 (Addr.add ⟨B8, 0, none⟩ 1) fun n105 =>
                                                                    CALL Pg W F_lot_Swaps [(.agg #[(.slice x102 l103 c104), (.int .i64 n105)]), (.slice x63 l64 c65)]
                                                                      (fun v106 => TUP v106 fun q108 => HD q108 fun v109 r110 => TYL v109 fun x111 l112 c113 =>
                                                                        HD r110 fun v114 r115 => TYI .i64 v114 fun n116 =>
                                                                          NL r115 <|
                                                                            BR b72
                                                                              (BR (n88 == 4)
                                                                                (J_law03_LotLawful_2 W R (n82 == 0) n85 n101 n98 n116)
                                                                                (J_law03_LotLawful_2 W R false n85 n101 n98 n116))
                                                                              (BR (n88 != 0)
                                                                                (J_law03_LotLawful_13 W R true B8 x63 l64 n82 c65 n85 l112 n116 n98)
                                                                                (J_law03_LotLawful_13 W R (n101 != 4) B8 x63 l64 n82 c65 n85 l112 n116 n98)))
                                                                        (fun e107 => R (.panicked e107)))
                                                            (fun e94 => R (.panicked e94)))
                                              (fun e78 => R (.panicked e78)))
                                      (fun e71 => R (.panicked e71)))
                              (fun e62 => R (.panicked e62))))
                      (fun e24 => R (.panicked e24))))
            (fun e14 => R (.panicked e14))
theorem T_law03_LotLawful_eq (W : World) (x1 : Option Addr) (l2 : Nat) (c3 : Nat) (n4 : Int) (x5 : Option Addr) (l6 : Nat) (c7 : Nat) (R : Ending → Hp → Prop) : vfun Pg W an_5 Try.f5 [(.agg #[(.slice x1 l2 c3), (.int .i64 n4)]), (.slice x5 l6 c7)] R = T_law03_LotLawful W x1 l2 c3 n4 x5 l6 c7 R := by kernel_rfl
theorem does_law03_LotLawful (W : World) (x1 : Option Addr) (l2 : Nat) (c3 : Nat) (n4 : Int) (x5 : Option Addr) (l6 : Nat) (c7 : Nat) (R : Ending → Hp → Prop) (s : Hp) (h : T_law03_LotLawful W x1 l2 c3 n4 x5 l6 c7 R s) : Does Pg W F_law03_LotLawful #[(.agg #[(.slice x1 l2 c3), (.int .i64 n4)]), (.slice x5 l6 c7)] s R :=
  does_of_vfun Pg W an_5 Try.func5 rfl (by kernel_rfl) (by rw [T_law03_LotLawful_eq]; exact h)
def an_6 : Nat → Ann := fun b => match b with
  | 0 => { ms := [4, 9, 10, 11, 80], ks := [.b, .i .i64, .i .i64, .i .i64, .i .i64], us := [2, 5, 79, 193], rt := false, ex := [] }
  | 2 => { ms := [4, 13, 14, 15], ks := [.b, .l, .l, .i .i64], us := [2, 5, 9, 11, 12, 79, 80, 193], rt := false, ex := [] }
  | 4 => { ms := [4, 18, 19], ks := [.b, .i .i64, .i .i64], us := [2, 5, 9, 11, 12, 13, 14, 16, 79, 80, 193], rt := false, ex := [] }
  | _ => {}
abbrev rv_6 : List ResultVar := [.tmp 4]
abbrev rs_6 : List Nat := [193, 4]
def L_law03_LotDraws_0 (W : World) (R : Ending → Hp → Prop) (za0 : Addr) (zp1 : Option Addr) (zl2 : Nat) (zl3 : Nat) (zn4 : Int) (b72 : Bool) (n73 : Int) (n74 : Int) (n75 : Int) (n76 : Int) : Hp → Prop :=
  LOOPN [.b, .i .i64, .i .i64, .i .i64, .i .i64] (fun ys next s => ∀ j : Tm, vc Pg W 193 rs_6 an_6 false (sub (bodyOf Try.f6) [1, 1, 1, 1, 1, 1, 1, 1, 1, 0, 1, 0, 0]) 0 (KLoop [4, 9, 10, 11, 80] [2, 5, 79, 193] [(.pointer (some za0)), (.slice zp1 zl2 zl3), (.int .i64 zn4), (.tuple #[])] next (KBlk 0 (KS Pg W 193 rs_6 an_6 false (sub (bodyOf Try.f6) [1, 1, 1, 1, 1, 1, 1, 1, 1, 1]) 0 (fin Pg W 193 rv_6 R)))) (known [4, 9, 10, 11, 80] ys (known [2, 5, 79, 193] [(.pointer (some za0)), (.slice zp1 zl2 zl3), (.int .i64 zn4), (.tuple #[])] j)) s) [(.bool b72), (.int .i64 n73), (.int .i64 n74), (.int .i64 n75), (.int .i64 n76)]
def L_law03_LotDraws_1 (W : World) (R : Ending → Hp → Prop) (nx0 : List Value → Hp → Prop) (za0 : Addr) (zp1 : Option Addr) (zl2 : Nat) (zl3 : Nat) (zn4 : Int) (zn5 : Int) (zn6 : Int) (zn7 : Int) (b80 : Bool) (x81 : Option Addr) (l82 : Nat) (c83 : Nat) (x84 : Option Addr) (l85 : Nat) (c86 : Nat) (n87 : Int) : Hp → Prop :=
  LOOPN [.b, .l, .l, .i .i64] (fun ys next s => ∀ j : Tm, vc Pg W 193 rs_6 an_6 false (sub (bodyOf Try.f6) [1, 1, 1, 1, 1, 1, 1, 1, 1, 0, 1, 0, 0, 1, 1, 0, 0, 1, 1, 1, 0, 1, 0, 0]) 2 (KLoop [4, 13, 14, 15] [2, 5, 9, 11, 12, 79, 80, 193] [(.pointer (some za0)), (.slice zp1 zl2 zl3), (.int .i64 zn4), (.int .i64 zn5), (.int .i64 zn6), (.int .i64 zn7), (.int .i64 zn6), (.tuple #[])] next (KBlk 2 (KS Pg W 193 rs_6 an_6 false (sub (bodyOf Try.f6) [1, 1, 1, 1, 1, 1, 1, 1, 1, 0, 1, 0, 0, 1, 1, 0, 0, 1, 1, 1, 1]) 1 (KBlk 1 (KS Pg W 193 rs_6 an_6 false (sub (bodyOf Try.f6) [1, 1, 1, 1, 1, 1, 1, 1, 1, 0, 1, 0, 0, 1, 1, 1]) 0 (KLoop [4, 9, 10, 11, 80] [2, 5, 79, 193] [(.pointer (some za0)), (.slice zp1 zl2 zl3), (.int .i64 zn7), (.tuple #[])] nx0 (KBlk 0 (KS Pg W 193 rs_6 an_6 false (sub (bodyOf Try.f6) [1, 1, 1, 1, 1, 1, 1, 1, 1, 1]) 0 (fin Pg W 193 rv_6 R))))))))) (known [4, 13, 14, 15] ys (known [2, 5, 9, 11, 12, 79, 80, 193] [(.pointer (some za0)), (.slice zp1 zl2 zl3), (.int .i64 zn4), (.int .i64 zn5), (.int .i64 zn6), (.int .i64 zn7), (.int .i64 zn6), (.tuple #[])] j)) s) [(.bool b80), (.slice x81 l82 c83), (.slice x84 l85 c86), (.int .i64 n87)]
def L_law03_LotDraws_2 (W : World) (R : Ending → Hp → Prop) (nx0 : List Value → Hp → Prop) (nx1 : List Value → Hp → Prop) (za0 : Addr) (zp1 : Option Addr) (zl2 : Nat) (zl3 : Nat) (zn4 : Int) (zn5 : Int) (zn6 : Int) (zp7 : Option Addr) (zl8 : Nat) (zl9 : Nat) (zp10 : Option Addr) (zl11 : Nat) (zl12 : Nat) (zp13 : Option Addr) (zl14 : Nat) (zl15 : Nat) (zn16 : Int) (b122 : Bool) (n123 : Int) (n124 : Int) : Hp → Prop :=
  LOOPN [.b, .i .i64, .i .i64] (fun ys next s => ∀ j : Tm, vc Pg W 193 rs_6 an_6 false (sub (bodyOf Try.f6) [1, 1, 1, 1, 1, 1, 1, 1, 1, 0, 1, 0, 0, 1, 1, 0, 0, 1, 1, 1, 0, 1, 0, 0, 1, 0, 1, 1, 1, 1, 0, 0, 0]) 4 (KLoop [4, 18, 19] [2, 5, 9, 11, 12, 13, 14, 16, 79, 80, 193] [(.pointer (some za0)), (.slice zp1 zl2 zl3), (.int .i64 zn4), (.int .i64 zn5), (.int .i64 zn6), (.slice zp7 zl8 zl9), (.slice zp10 zl11 zl12), (.slice zp13 zl14 zl15), (.int .i64 zn16), (.int .i64 zn6), (.tuple #[])] next (KBlk 4 (KS Pg W 193 rs_6 an_6 false (sub (bodyOf Try.f6) [1, 1, 1, 1, 1, 1, 1, 1, 1, 0, 1, 0, 0, 1, 1, 0, 0, 1, 1, 1, 0, 1, 0, 0, 1, 0, 1, 1, 1, 1, 1]) 3 (KBlk 3 (KLoop [4, 13, 14, 15] [2, 5, 9, 11, 12, 79, 80, 193] [(.pointer (some za0)), (.slice zp1 zl2 zl3), (.int .i64 zn4), (.int .i64 zn5), (.int .i64 zn6), (.int .i64 zn16), (.int .i64 zn6), (.tuple #[])] nx1 (KBlk 2 (KS Pg W 193 rs_6 an_6 false (sub (bodyOf Try.f6) [1, 1, 1, 1, 1, 1, 1, 1, 1, 0, 1, 0, 0, 1, 1, 0, 0, 1, 1, 1, 1]) 1 (KBlk 1 (KS Pg W 193 rs_6 an_6 false (sub (bodyOf Try.f6) [1, 1, 1, 1, 1, 1, 1, 1, 1, 0, 1, 0, 0, 1, 1, 1]) 0 (KLoop [4, 9, 10, 11, 80] [2, 5, 79, 193] [(.pointer (some za0)), (.slice zp1 zl2 zl3), (.int .i64 zn16), (.tuple #[])] nx0 (KBlk 0 (KS Pg W 193 rs_6 an_6 false (sub (bodyOf Try.f6) [1, 1, 1, 1, 1, 1, 1, 1, 1, 1]) 0 (fin Pg W 193 rv_6 R))))))))))))) (known [4, 18, 19] ys (known [2, 5, 9, 11, 12, 13, 14, 16, 79, 80, 193] [(.pointer (some za0)), (.slice zp1 zl2 zl3), (.int .i64 zn4), (.int .i64 zn5), (.int .i64 zn6), (.slice zp7 zl8 zl9), (.slice zp10 zl11 zl12), (.slice zp13 zl14 zl15), (.int .i64 zn16), (.int .i64 zn6), (.tuple #[])] j)) s) [(.bool b122), (.int .i64 n123), (.int .i64 n124)]
def J_law03_LotDraws_0 (W : World) (R : Ending → Hp → Prop) (b57 : Bool) (B6 : Nat) (x27 : Option Addr) (l28 : Nat) (c29 : Nat) (n5 : Int) (n42 : Int) : Hp → Prop :=
  BR b57
    (R (.returned (.bool false)))
    (L_law03_LotDraws_0 W R ⟨B6, 0, none⟩ x27 l28 c29 (↑l28 : Int) false (IntKind.wrap .i64 n5) 0 n42 0)
def J_law03_LotDraws_1 (W : World) (R : Ending → Hp → Prop) (b46 : Bool) (n32 : Int) (l28 : Nat) (B6 : Nat) (x27 : Option Addr) (c29 : Nat) (n5 : Int) (n42 : Int) : Hp → Prop :=
  BR b46
    (R (.returned (.bool false)))
    (BR (n32 != 0)
      (BR (n32 == 4)
        (BR ((↑l28 : Int) == 0)
          (CALL Pg W F_law03_awake []
            (fun v47 => TYB v47 fun b49 =>
              R (.returned (.bool b49)))
              (fun e48 => R (.panicked e48)))
          (R (.returned (.bool false))))
        (R (.returned (.bool false))))
      (RDL (Addr.add ⟨B6, 0, none⟩ 0) fun x50 l51 c52 =>
        RDI .i64 (Addr.add ⟨B6, 0, none⟩ 1) fun n53 =>
          CALL Pg W F_ref03_Full [(.agg #[(.slice x50 l51 c52), (.int .i64 n53)]), (.slice x27 l28 c29)]
            (fun v54 => TYB v54 fun b56 =>
              BR (!b56)
                (J_law03_LotDraws_0 W R true B6 x27 l28 c29 n5 n42)
                (RDL (Addr.add ⟨B6, 0, none⟩ 0) fun x58 l59 c60 =>
                  RDI .i64 (Addr.add ⟨B6, 0, none⟩ 1) fun n61 =>
                    CALL Pg W F_law03_lawful [(.agg #[(.slice x58 l59 c60), (.int .i64 n61)]), (.slice x27 l28 c29)]
                      (fun v62 => TYB v62 fun b64 =>
                        J_law03_LotDraws_0 W R (!b64) B6 x27 l28 c29 n5 n42)
                        (fun e63 => R (.panicked e63))))
              (fun e55 => R (.panicked e55))))
def J_law03_LotDraws_2 (W : World) (R : Ending → Hp → Prop) (b14 : Bool) (B6 : Nat) (n5 : Int) : Hp → Prop :=
  BR b14
    (CALL Pg W F_law03_awake []
      (fun v15 => TYB v15 fun b17 =>
        R (.returned (.bool b17)))
        (fun e16 => R (.panicked e16)))
    (RDL (Addr.add ⟨B6, 0, none⟩ 0) fun x18 l19 c20 =>
      RDI .i64 (Addr.add ⟨B6, 0, none⟩ 1) fun n21 =>
        CALL Pg W F_lot_Draw [(.agg #[(.slice x18 l19 c20), (.int .i64 n21)]), (.int .i64 (IntKind.wrap .i64 n5))]
          (fun v22 => TUP v22 fun q24 => HD q24 fun v25 r26 => TYL v25 fun x27 l28 c29 =>
            HD r26 fun v30 r31 => TYI .i64 v30 fun n32 =>
              NL r31 <|
                RDL (Addr.add ⟨B6, 0, none⟩ 0) fun x33 l34 c35 =>
                  RDI .i64 (Addr.add ⟨B6, 0, none⟩ 1) fun n36 =>
                    CALL Pg W F_lot_Count [(.agg #[(.slice x33 l34 c35), (.int .i64 n36)])]
                      (fun v37 => TUP v37 fun q39 => HD q39 fun v40 r41 => TYI .i64 v40 fun n42 =>
                        HD r41 fun v43 r44 => TYI .i64 v43 fun n45 =>
                          NL r44 <|
                            BR (n45 != 0)
                              (J_law03_LotDraws_1 W R true n32 l28 B6 x27 c29 n5 n42)
                              (J_law03_LotDraws_1 W R (!((n32 == 0) == (decide (n42 > 0)))) n32 l28 B6 x27 c29 n5 n42))
                        (fun e38 => R (.panicked e38)))
            (fun e23 => R (.panicked e23)))
def J_law03_LotDraws_3 (W : World) (R : Ending → Hp → Prop) (b103 : Bool) (x97 : Option Addr) (l98 : Nat) (zn6 : Int) (x81 : Option Addr) (l82 : Nat) (c83 : Nat) (n87 : Int) (x84 : Option Addr) (l85 : Nat) (c86 : Nat) (nx0 : List Value → Hp → Prop) (nx1 : List Value → Hp → Prop) (za0 : Addr) (zp1 : Option Addr) (zl2 : Nat) (zl3 : Nat) (zn4 : Int) (zn5 : Int) (c99 : Nat) (zn7 : Int) (b80 : Bool) : Hp → Prop :=
  BR b103
    (R (.returned (.bool false)))
    (IXS x97 l98 zn6 1 fun a104 =>
      RDI .i64 a104 fun n105 =>
        NEW 3 [(.int .i64 n105)] fun B106 =>
          APP Pg 3 1 x81 l82 c83 (some ⟨B106, 0, none⟩) 1 fun x107 l108 c109 =>
            NEW 3 [(.int .i64 n87)] fun B110 =>
              APP Pg 3 1 x84 l85 c86 (some ⟨B110, 0, none⟩) 1 fun x111 l112 c113 =>
                L_law03_LotDraws_2 W R nx0 nx1 za0 zp1 zl2 zl3 zn4 zn5 zn6 x107 l108 c109 x111 l112 c113 x97 l98 c99 zn7 b80 (IntKind.wrap .i64 (n87 + 1)) zn5)
def J_law03_LotDraws_4 (W : World) (R : Ending → Hp → Prop) (b140 : Bool) (x134 : Option Addr) (l135 : Nat) (zn6 : Int) (zp13 : Option Addr) (zl14 : Nat) (za0 : Addr) (zp1 : Option Addr) (zl2 : Nat) (zl3 : Nat) (zn4 : Int) (zn5 : Int) (zp7 : Option Addr) (zl8 : Nat) (zl9 : Nat) (zp10 : Option Addr) (zl11 : Nat) (zl12 : Nat) (zl15 : Nat) (zn16 : Int) (nx2 : List Value → Hp → Prop) (b122 : Bool) (n123 : Int) (n124 : Int) : Hp → Prop :=
  BR b140
    (R (.returned (.bool false)))
    (IXS x134 l135 zn6 1 fun a141 =>
      RDI .i64 a141 fun n142 =>
        IXS zp13 zl14 zn6 1 fun a143 =>
          RDI .i64 a143 fun n144 =>
            BR (n142 == n144)
              (NX [(.pointer (some za0)), (.slice zp1 zl2 zl3), (.int .i64 zn4), (.int .i64 zn5), (.int .i64 zn6), (.slice zp7 zl8 zl9), (.slice zp10 zl11 zl12), (.slice zp13 zl14 zl15), (.int .i64 zn16), (.int .i64 zn6), (.tuple #[])] [(.pointer (some za0)), (.slice zp1 zl2 zl3), (.int .i64 zn4), (.int .i64 zn5), (.int .i64 zn6), (.slice zp7 zl8 zl9), (.slice zp10 zl11 zl12), (.slice zp13 zl14 zl15), (.int .i64 zn16), (.int .i64 zn6), (.tuple #[])] (nx2 [(.bool b122), (.int .i64 (IntKind.wrap .i64 ((IntKind.wrap .i64 (Int.tdiv (IntKind.wrap .i64 (n123 + n124)) 2)) + 1))), (.int .i64 n124)]))
              (NX [(.pointer (some za0)), (.slice zp1 zl2 zl3), (.int .i64 zn4), (.int .i64 zn5), (.int .i64 zn6), (.slice zp7 zl8 zl9), (.slice zp10 zl11 zl12), (.slice zp13 zl14 zl15), (.int .i64 zn16), (.int .i64 zn6), (.tuple #[])] [(.pointer (some za0)), (.slice zp1 zl2 zl3), (.int .i64 zn4), (.int .i64 zn5), (.int .i64 zn6), (.slice zp7 zl8 zl9), (.slice zp10 zl11 zl12), (.slice zp13 zl14 zl15), (.int .i64 zn16), (.int .i64 zn6), (.tuple #[])] (nx2 [(.bool b122), (.int .i64 n123), (.int .i64 (IntKind.wrap .i64 (Int.tdiv (IntKind.wrap .i64 (n123 + n124)) 2)))])))
def B_law03_LotDraws_0 (W : World) (R : Ending → Hp → Prop) (za0 : Addr) (zp1 : Option Addr) (zl2 : Nat) (zl3 : Nat) (zn4 : Int) (b72 : Bool) (n73 : Int) (n74 : Int) (n75 : Int) (n76 : Int) (nx0 : List Value → Hp → Prop) : Hp → Prop :=
  BR (decide (n76 < zn4))
    (L_law03_LotDraws_1 W R nx0 za0 zp1 zl2 zl3 (Int.tmod (IntKind.wrap .i64 ((IntKind.wrap .i64 (75 * n73)) + 74)) 65537) n75 n76 zn4 b72 none 0 0 none 0 0 n74)
    (BR ((IntKind.wrap .i64 (n75 - n74)) == 1)
      (CALL Pg W F_law03_awake []
        (fun v77 => TYB v77 fun b79 =>
          R (.returned (.bool b79)))
          (fun e78 => R (.panicked e78)))
      (R (.returned (.bool false))))
theorem B_law03_LotDraws_0_eq (W : World) (R : Ending → Hp → Prop) (za0 : Addr) (zp1 : Option Addr) (zl2 : Nat) (zl3 : Nat) (zn4 : Int) (b72 : Bool) (n73 : Int) (n74 : Int) (n75 : Int) (n76 : Int) (nx0 : List Value → Hp → Prop) (j : Tm) : vc Pg W 193 rs_6 an_6 false (sub (bodyOf Try.f6) [1, 1, 1, 1, 1, 1, 1, 1, 1, 0, 1, 0, 0]) 0 (KLoop [4, 9, 10, 11, 80] [2, 5, 79, 193] [(.pointer (some za0)), (.slice zp1 zl2 zl3), (.int .i64 zn4), (.tuple #[])] nx0 (KBlk 0 (KS Pg W 193 rs_6 an_6 false (sub (bodyOf Try.f6) [1, 1, 1, 1, 1, 1, 1, 1, 1, 1]) 0 (fin Pg W 193 rv_6 R)))) (known [4, 9, 10, 11, 80] [(.bool b72), (.int .i64 n73), (.int .i64 n74), (.int .i64 n75), (.int .i64 n76)] (known [2, 5, 79, 193] [(.pointer (some za0)), (.slice zp1 zl2 zl3), (.int .i64 zn4), (.tuple #[])] j)) = B_law03_LotDraws_0 W R za0 zp1 zl2 zl3 zn4 b72 n73 n74 n75 n76 nx0 := by kernel_rfl
def N_law03_LotDraws_0 (I : Bool → Int → Int → Int → Int → Hp → Prop) (μ : Bool → Int → Int → Int → Int → Hp → Nat) (b720 : Bool) (n730 : Int) (n740 : Int) (n750 : Int) (n760 : Int) (s : Hp) (vs : List Value) : Hp → Prop := fun s' => ∃ b72 n73 n74 n75 n76, vs = [(.bool b72), (.int .i64 n73), (.int .i64 n74), (.int .i64 n75), (.int .i64 n76)] ∧ I b72 n73 n74 n75 n76 s' ∧ μ b72 n73 n74 n75 n76 s' < μ b720 n730 n740 n750 n760 s
theorem L_law03_LotDraws_0_rule (W : World) (R : Ending → Hp → Prop) (za0 : Addr) (zp1 : Option Addr) (zl2 : Nat) (zl3 : Nat) (zn4 : Int) (I : Bool → Int → Int → Int → Int → Hp → Prop) (μ : Bool → Int → Int → Int → Int → Hp → Nat) (b720 : Bool) (n730 : Int) (n740 : Int) (n750 : Int) (n760 : Int) (s : Hp) (h0 : I b720 n730 n740 n750 n760 s)
    (hr : ∀ (b72 : Bool) (n73 : Int) (n74 : Int) (n75 : Int) (n76 : Int) (s : Hp), I b72 n73 n74 n75 n76 s → B_law03_LotDraws_0 W R za0 zp1 zl2 zl3 zn4 b72 n73 n74 n75 n76 (fun vs => N_law03_LotDraws_0 I μ b72 n73 n74 n75 n76 s vs) s) : L_law03_LotDraws_0 W R za0 zp1 zl2 zl3 zn4 b720 n730 n740 n750 n760 s := by
  refine ⟨fun vs s => ∃ b72 n73 n74 n75 n76, vs = [(.bool b72), (.int .i64 n73), (.int .i64 n74), (.int .i64 n75), (.int .i64 n76)] ∧ I b72 n73 n74 n75 n76 s, fun vs s => (match vs with | [.bool b72, .int _ n73, .int _ n74, .int _ n75, .int _ n76] => μ b72 n73 n74 n75 n76 s | _ => 0), ⟨⟨⟨_, rfl⟩, ⟨⟨_, rfl⟩, ⟨⟨_, rfl⟩, ⟨⟨_, rfl⟩, ⟨⟨_, rfl⟩, trivial⟩⟩⟩⟩⟩, ⟨_, _, _, _, _, rfl, h0⟩⟩, ?_⟩
  intro b72 n73 n74 n75 n76 s hI j
  obtain ⟨b72', n73', n74', n75', n76', hy, hI⟩ := hI
  have hI' : I b72 n73 n74 n75 n76 s := by cases hy; exact hI
  have hh := hr b72 n73 n74 n75 n76 s hI'
  rw [← B_law03_LotDraws_0_eq W R za0 zp1 zl2 zl3 zn4 b72 n73 n74 n75 n76 _ j] at hh
  refine vc_mono ?_ _ _ hh
  exact KLoop_mono (fun vs s' h => by obtain ⟨b721, n731, n741, n751, n761, rfl, h1, h2⟩ := h; exact ⟨⟨⟨_, rfl⟩, ⟨⟨_, rfl⟩, ⟨⟨_, rfl⟩, ⟨⟨_, rfl⟩, ⟨⟨_, rfl⟩, trivial⟩⟩⟩⟩⟩, ⟨_, _, _, _, _, rfl, h1⟩, h2⟩)
def B_law03_LotDraws_1 (W : World) (R : Ending → Hp → Prop) (nx0 : List Value → Hp → Prop) (za0 : Addr) (zp1 : Option Addr) (zl2 : Nat) (zl3 : Nat) (zn4 : Int) (zn5 : Int) (zn6 : Int) (zn7 : Int) (b80 : Bool) (x81 : Option Addr) (l82 : Nat) (c83 : Nat) (x84 : Option Addr) (l85 : Nat) (c86 : Nat) (n87 : Int) (nx1 : List Value → Hp → Prop) : Hp → Prop :=
  BR (decide (n87 < zn5))
    (RDL (Addr.add za0 0) fun x88 l89 c90 =>
      RDI .i64 (Addr.add za0 1) fun n91 =>
        CALL Pg W F_lot_Nth [(.agg #[(.slice x88 l89 c90), (.int .i64 n91)]), (.int .i64 n87)]
          (fun v92 => TUP v92 fun q94 => HD q94 fun v95 r96 => TYL v95 fun x97 l98 c99 =>
            HD r96 fun v100 r101 => TYI .i64 v100 fun n102 =>
              NL r101 <|
                BR (n102 != 0)
                  (J_law03_LotDraws_3 W R true x97 l98 zn6 x81 l82 c83 n87 x84 l85 c86 nx0 nx1 za0 zp1 zl2 zl3 zn4 zn5 c99 zn7 b80)
                  (J_law03_LotDraws_3 W R ((↑l98 : Int) != (↑zl2 : Int)) x97 l98 zn6 x81 l82 c83 n87 x84 l85 c86 nx0 nx1 za0 zp1 zl2 zl3 zn4 zn5 c99 zn7 b80))
            (fun e93 => R (.panicked e93)))
    (BR ((↑l82 : Int) == 0)
      (R (.returned (.bool false)))
      (NZI (↑l82 : Int) <|
        IXS x81 l82 (Int.tmod zn4 (↑l82 : Int)) 1 fun a114 =>
          RDI .i64 a114 fun n115 =>
            IXS zp1 zl2 zn6 1 fun a116 =>
              RDI .i64 a116 fun n117 =>
                BR (n115 != n117)
                  (R (.returned (.bool false)))
                  (IXS x84 l85 (Int.tmod zn4 (↑l82 : Int)) 1 fun a118 =>
                    RDI .i64 a118 fun n119 =>
                      BR (decide ((IntKind.wrap .i64 ((Int.tmod zn4 (↑l82 : Int)) + 1)) < (↑l85 : Int)))
                        (IXS x84 l85 (IntKind.wrap .i64 ((Int.tmod zn4 (↑l82 : Int)) + 1)) 1 fun a120 =>
                          RDI .i64 a120 fun n121 =>
                            NX [(.pointer (some za0)), (.slice zp1 zl2 zl3), (.int .i64 zn7), (.tuple #[])] [(.pointer (some za0)), (.slice zp1 zl2 zl3), (.int .i64 zn7), (.tuple #[])] (nx0 [(.bool b80), (.int .i64 zn4), (.int .i64 n119), (.int .i64 n121), (.int .i64 (IntKind.wrap .i64 (zn6 + 1)))]))
                        (NX [(.pointer (some za0)), (.slice zp1 zl2 zl3), (.int .i64 zn7), (.tuple #[])] [(.pointer (some za0)), (.slice zp1 zl2 zl3), (.int .i64 zn7), (.tuple #[])] (nx0 [(.bool b80), (.int .i64 zn4), (.int .i64 n119), (.int .i64 zn5), (.int .i64 (IntKind.wrap .i64 (zn6 + 1)))])))))
theorem B_law03_LotDraws_1_eq (W : World) (R : Ending → Hp → Prop) (nx0 : List Value → Hp → Prop) (za0 : Addr) (zp1 : Option Addr) (zl2 : Nat) (zl3 : Nat) (zn4 : Int) (zn5 : Int) (zn6 : Int) (zn7 : Int) (b80 : Bool) (x81 : Option Addr) (l82 : Nat) (c83 : Nat) (x84 : Option Addr) (l85 : Nat) (c86 : Nat) (n87 : Int) (nx1 : List Value → Hp → Prop) (j : Tm) : vc Pg W 193 rs_6 an_6 false (sub (bodyOf Try.f6) [1, 1, 1, 1, 1, 1, 1, 1, 1, 0, 1, 0, 0, 1, 1, 0, 0, 1, 1, 1, 0, 1, 0, 0]) 2 (KLoop [4, 13, 14, 15] [2, 5, 9, 11, 12, 79, 80, 193] [(.pointer (some za0)), (.slice zp1 zl2 zl3), (.int .i64 zn4), (.int .i64 zn5), (.int .i64 zn6), (.int .i64 zn7), (.int .i64 zn6), (.tuple #[])] nx1 (KBlk 2 (KS Pg W 193 rs_6 an_6 false (sub (bodyOf Try.f6) [1, 1, 1, 1, 1, 1, 1, 1, 1, 0, 1, 0, 0, 1, 1, 0, 0, 1, 1, 1, 1]) 1 (KBlk 1 (KS Pg W 193 rs_6 an_6 false (sub (bodyOf Try.f6) [1, 1, 1, 1, 1, 1, 1, 1, 1, 0, 1, 0, 0, 1, 1, 1]) 0 (KLoop [4, 9, 10, 11, 80] [2, 5, 79, 193] [(.pointer (some za0)), (.slice zp1 zl2 zl3), (.int .i64 zn7), (.tuple #[])] nx0 (KBlk 0 (KS Pg W 193 rs_6 an_6 false (sub (bodyOf Try.f6) [1, 1, 1, 1, 1, 1, 1, 1, 1, 1]) 0 (fin Pg W 193 rv_6 R))))))))) (known [4, 13, 14, 15] [(.bool b80), (.slice x81 l82 c83), (.slice x84 l85 c86), (.int .i64 n87)] (known [2, 5, 9, 11, 12, 79, 80, 193] [(.pointer (some za0)), (.slice zp1 zl2 zl3), (.int .i64 zn4), (.int .i64 zn5), (.int .i64 zn6), (.int .i64 zn7), (.int .i64 zn6), (.tuple #[])] j)) = B_law03_LotDraws_1 W R nx0 za0 zp1 zl2 zl3 zn4 zn5 zn6 zn7 b80 x81 l82 c83 x84 l85 c86 n87 nx1 := by kernel_rfl
def N_law03_LotDraws_1 (I : Bool → Option Addr → Nat → Nat → Option Addr → Nat → Nat → Int → Hp → Prop) (μ : Bool → Option Addr → Nat → Nat → Option Addr → Nat → Nat → Int → Hp → Nat) (b800 : Bool) (x810 : Option Addr) (l820 : Nat) (c830 : Nat) (x840 : Option Addr) (l850 : Nat) (c860 : Nat) (n870 : Int) (s : Hp) (vs : List Value) : Hp → Prop := fun s' => ∃ b80 x81 l82 c83 x84 l85 c86 n87, vs = [(.bool b80), (.slice x81 l82 c83), (.slice x84 l85 c86), (.int .i64 n87)] ∧ I b80 x81 l82 c83 x84 l85 c86 n87 s' ∧ μ b80 x81 l82 c83 x84 l85 c86 n87 s' < μ b800 x810 l820 c830 x840 l850 c860 n870 s
theorem L_law03_LotDraws_1_rule (W : World) (R : Ending → Hp → Prop) (nx0 : List Value → Hp → Prop) (za0 : Addr) (zp1 : Option Addr) (zl2 : Nat) (zl3 : Nat) (zn4 : Int) (zn5 : Int) (zn6 : Int) (zn7 : Int) (I : Bool → Option Addr → Nat → Nat → Option Addr → Nat → Nat → Int → Hp → Prop) (μ : Bool → Option Addr → Nat → Nat → Option Addr → Nat → Nat → Int → Hp → Nat) (b800 : Bool) (x810 : Option Addr) (l820 : Nat) (c830 : Nat) (x840 : Option Addr) (l850 : Nat) (c860 : Nat) (n870 : Int) (s : Hp) (h0 : I b800 x810 l820 c830 x840 l850 c860 n870 s)
    (hr : ∀ (b80 : Bool) (x81 : Option Addr) (l82 : Nat) (c83 : Nat) (x84 : Option Addr) (l85 : Nat) (c86 : Nat) (n87 : Int) (s : Hp), I b80 x81 l82 c83 x84 l85 c86 n87 s → B_law03_LotDraws_1 W R nx0 za0 zp1 zl2 zl3 zn4 zn5 zn6 zn7 b80 x81 l82 c83 x84 l85 c86 n87 (fun vs => N_law03_LotDraws_1 I μ b80 x81 l82 c83 x84 l85 c86 n87 s vs) s) : L_law03_LotDraws_1 W R nx0 za0 zp1 zl2 zl3 zn4 zn5 zn6 zn7 b800 x810 l820 c830 x840 l850 c860 n870 s := by
  refine ⟨fun vs s => ∃ b80 x81 l82 c83 x84 l85 c86 n87, vs = [(.bool b80), (.slice x81 l82 c83), (.slice x84 l85 c86), (.int .i64 n87)] ∧ I b80 x81 l82 c83 x84 l85 c86 n87 s, fun vs s => (match vs with | [.bool b80, .slice x81 l82 c83, .slice x84 l85 c86, .int _ n87] => μ b80 x81 l82 c83 x84 l85 c86 n87 s | _ => 0), ⟨⟨⟨_, rfl⟩, ⟨⟨_, _, _, rfl⟩, ⟨⟨_, _, _, rfl⟩, ⟨⟨_, rfl⟩, trivial⟩⟩⟩⟩, ⟨_, _, _, _, _, _, _, _, rfl, h0⟩⟩, ?_⟩
  intro b80 x81 l82 c83 x84 l85 c86 n87 s hI j
  obtain ⟨b80', x81', l82', c83', x84', l85', c86', n87', hy, hI⟩ := hI
  have hI' : I b80 x81 l82 c83 x84 l85 c86 n87 s := by cases hy; exact hI
  have hh := hr b80 x81 l82 c83 x84 l85 c86 n87 s hI'
  rw [← B_law03_LotDraws_1_eq W R nx0 za0 zp1 zl2 zl3 zn4 zn5 zn6 zn7 b80 x81 l82 c83 x84 l85 c86 n87 _ j] at hh
  refine vc_mono ?_ _ _ hh
  exact KLoop_mono (fun vs s' h => by obtain ⟨b801, x811, l821, c831, x841, l851, c861, n871, rfl, h1, h2⟩ := h; exact ⟨⟨⟨_, rfl⟩, ⟨⟨_, _, _, rfl⟩, ⟨⟨_, _, _, rfl⟩, ⟨⟨_, rfl⟩, trivial⟩⟩⟩⟩, ⟨_, _, _, _, _, _, _, _, rfl, h1⟩, h2⟩)
def B_law03_LotDraws_2 (W : World) (R : Ending → Hp → Prop) (nx0 : List Value → Hp → Prop) (nx1 : List Value → Hp → Prop) (za0 : Addr) (zp1 : Option Addr) (zl2 : Nat) (zl3 : Nat) (zn4 : Int) (zn5 : Int) (zn6 : Int) (zp7 : Option Addr) (zl8 : Nat) (zl9 : Nat) (zp10 : Option Addr) (zl11 : Nat) (zl12 : Nat) (zp13 : Option Addr) (zl14 : Nat) (zl15 : Nat) (zn16 : Int) (b122 : Bool) (n123 : Int) (n124 : Int) (nx2 : List Value → Hp → Prop) : Hp → Prop :=
  BR (decide (n123 < n124))
    (RDL (Addr.add za0 0) fun x125 l126 c127 =>
      RDI .i64 (Addr.add za0 1) fun n128 =>
        CALL Pg W F_lot_Nth [(.agg #[(.slice x125 l126 c127), (.int .i64 n128)]), (.int .i64 (IntKind.wrap .i64 (Int.tdiv (IntKind.wrap .i64 (n123 + n124)) 2)))]
          (fun v129 => TUP v129 fun q131 => HD q131 fun v132 r133 => TYL v132 fun x134 l135 c136 =>
            HD r133 fun v137 r138 => TYI .i64 v137 fun n139 =>
              NL r138 <|
                BR (n139 != 0)
                  (J_law03_LotDraws_4 W R true x134 l135 zn6 zp13 zl14 za0 zp1 zl2 zl3 zn4 zn5 zp7 zl8 zl9 zp10 zl11 zl12 zl15 zn16 nx2 b122 n123 n124)
                  (J_law03_LotDraws_4 W R ((↑l135 : Int) != (↑zl2 : Int)) x134 l135 zn6 zp13 zl14 za0 zp1 zl2 zl3 zn4 zn5 zp7 zl8 zl9 zp10 zl11 zl12 zl15 zn16 nx2 b122 n123 n124))
            (fun e130 => R (.panicked e130)))
    (NX [(.pointer (some za0)), (.slice zp1 zl2 zl3), (.int .i64 zn4), (.int .i64 zn5), (.int .i64 zn6), (.int .i64 zn16), (.int .i64 zn6), (.tuple #[])] [(.pointer (some za0)), (.slice zp1 zl2 zl3), (.int .i64 zn4), (.int .i64 zn5), (.int .i64 zn6), (.int .i64 zn16), (.int .i64 zn6), (.tuple #[])] (nx1 [(.bool b122), (.slice zp7 zl8 zl9), (.slice zp10 zl11 zl12), (.int .i64 n123)]))
theorem B_law03_LotDraws_2_eq (W : World) (R : Ending → Hp → Prop) (nx0 : List Value → Hp → Prop) (nx1 : List Value → Hp → Prop) (za0 : Addr) (zp1 : Option Addr) (zl2 : Nat) (zl3 : Nat) (zn4 : Int) (zn5 : Int) (zn6 : Int) (zp7 : Option Addr) (zl8 : Nat) (zl9 : Nat) (zp10 : Option Addr) (zl11 : Nat) (zl12 : Nat) (zp13 : Option Addr) (zl14 : Nat) (zl15 : Nat) (zn16 : Int) (b122 : Bool) (n123 : Int) (n124 : Int) (nx2 : List Value → Hp → Prop) (j : Tm) : vc Pg W 193 rs_6 an_6 false (sub (bodyOf Try.f6) [1, 1, 1, 1, 1, 1, 1, 1, 1, 0, 1, 0, 0, 1, 1, 0, 0, 1, 1, 1, 0, 1, 0, 0, 1, 0, 1, 1, 1, 1, 0, 0, 0]) 4 (KLoop [4, 18, 19] [2, 5, 9, 11, 12, 13, 14, 16, 79, 80, 193] [(.pointer (some za0)), (.slice zp1 zl2 zl3), (.int .i64 zn4), (.int .i64 zn5), (.int .i64 zn6), (.slice zp7 zl8 zl9), (.slice zp10 zl11 zl12), (.slice zp13 zl14 zl15), (.int .i64 zn16), (.int .i64 zn6), (.tuple #[])] nx2 (KBlk 4 (KS Pg W 193 rs_6 an_6 false (sub (bodyOf Try.f6) [1, 1, 1, 1, 1, 1, 1, 1, 1, 0, 1, 0, 0, 1, 1, 0, 0, 1, 1, 1, 0, 1, 0, 0, 1, 0, 1, 1, 1, 1, 1]) 3 (KBlk 3 (KLoop [4, 13, 14, 15] [2, 5, 9, 11, 12, 79, 80, 193] [(.pointer (some za0)), (.slice zp1 zl2 zl3), (.int .i64 zn4), (.int .i64 zn5), (.int .i64 zn6), (.int .i64 zn16), (.int .i64 zn6), (.tuple #[])] nx1 (KBlk 2 (KS Pg W 193 rs_6 an_6 false (sub (bodyOf Try.f6) [1, 1, 1, 1, 1, 1, 1, 1, 1, 0, 1, 0, 0, 1, 1, 0, 0, 1, 1, 1, 1]) 1 (KBlk 1 (KS Pg W 193 rs_6 an_6 false (sub (bodyOf Try.f6) [1, 1, 1, 1, 1, 1, 1, 1, 1, 0, 1, 0, 0, 1, 1, 1]) 0 (KLoop [4, 9, 10, 11, 80] [2, 5, 79, 193] [(.pointer (some za0)), (.slice zp1 zl2 zl3), (.int .i64 zn16), (.tuple #[])] nx0 (KBlk 0 (KS Pg W 193 rs_6 an_6 false (sub (bodyOf Try.f6) [1, 1, 1, 1, 1, 1, 1, 1, 1, 1]) 0 (fin Pg W 193 rv_6 R))))))))))))) (known [4, 18, 19] [(.bool b122), (.int .i64 n123), (.int .i64 n124)] (known [2, 5, 9, 11, 12, 13, 14, 16, 79, 80, 193] [(.pointer (some za0)), (.slice zp1 zl2 zl3), (.int .i64 zn4), (.int .i64 zn5), (.int .i64 zn6), (.slice zp7 zl8 zl9), (.slice zp10 zl11 zl12), (.slice zp13 zl14 zl15), (.int .i64 zn16), (.int .i64 zn6), (.tuple #[])] j)) = B_law03_LotDraws_2 W R nx0 nx1 za0 zp1 zl2 zl3 zn4 zn5 zn6 zp7 zl8 zl9 zp10 zl11 zl12 zp13 zl14 zl15 zn16 b122 n123 n124 nx2 := by kernel_rfl
def N_law03_LotDraws_2 (I : Bool → Int → Int → Hp → Prop) (μ : Bool → Int → Int → Hp → Nat) (b1220 : Bool) (n1230 : Int) (n1240 : Int) (s : Hp) (vs : List Value) : Hp → Prop := fun s' => ∃ b122 n123 n124, vs = [(.bool b122), (.int .i64 n123), (.int .i64 n124)] ∧ I b122 n123 n124 s' ∧ μ b122 n123 n124 s' < μ b1220 n1230 n1240 s
theorem L_law03_LotDraws_2_rule (W : World) (R : Ending → Hp → Prop) (nx0 : List Value → Hp → Prop) (nx1 : List Value → Hp → Prop) (za0 : Addr) (zp1 : Option Addr) (zl2 : Nat) (zl3 : Nat) (zn4 : Int) (zn5 : Int) (zn6 : Int) (zp7 : Option Addr) (zl8 : Nat) (zl9 : Nat) (zp10 : Option Addr) (zl11 : Nat) (zl12 : Nat) (zp13 : Option Addr) (zl14 : Nat) (zl15 : Nat) (zn16 : Int) (I : Bool → Int → Int → Hp → Prop) (μ : Bool → Int → Int → Hp → Nat) (b1220 : Bool) (n1230 : Int) (n1240 : Int) (s : Hp) (h0 : I b1220 n1230 n1240 s)
    (hr : ∀ (b122 : Bool) (n123 : Int) (n124 : Int) (s : Hp), I b122 n123 n124 s → B_law03_LotDraws_2 W R nx0 nx1 za0 zp1 zl2 zl3 zn4 zn5 zn6 zp7 zl8 zl9 zp10 zl11 zl12 zp13 zl14 zl15 zn16 b122 n123 n124 (fun vs => N_law03_LotDraws_2 I μ b122 n123 n124 s vs) s) : L_law03_LotDraws_2 W R nx0 nx1 za0 zp1 zl2 zl3 zn4 zn5 zn6 zp7 zl8 zl9 zp10 zl11 zl12 zp13 zl14 zl15 zn16 b1220 n1230 n1240 s := by
  refine ⟨fun vs s => ∃ b122 n123 n124, vs = [(.bool b122), (.int .i64 n123), (.int .i64 n124)] ∧ I b122 n123 n124 s, fun vs s => (match vs with | [.bool b122, .int _ n123, .int _ n124] => μ b122 n123 n124 s | _ => 0), ⟨⟨⟨_, rfl⟩, ⟨⟨_, rfl⟩, ⟨⟨_, rfl⟩, trivial⟩⟩⟩, ⟨_, _, _, rfl, h0⟩⟩, ?_⟩
  intro b122 n123 n124 s hI j
  obtain ⟨b122', n123', n124', hy, hI⟩ := hI
  have hI' : I b122 n123 n124 s := by cases hy; exact hI
  have hh := hr b122 n123 n124 s hI'
  rw [← B_law03_LotDraws_2_eq W R nx0 nx1 za0 zp1 zl2 zl3 zn4 zn5 zn6 zp7 zl8 zl9 zp10 zl11 zl12 zp13 zl14 zl15 zn16 b122 n123 n124 _ j] at hh
  refine vc_mono ?_ _ _ hh
  exact KLoop_mono (fun vs s' h => by obtain ⟨b1221, n1231, n1241, rfl, h1, h2⟩ := h; exact ⟨⟨⟨_, rfl⟩, ⟨⟨_, rfl⟩, ⟨⟨_, rfl⟩, trivial⟩⟩⟩, ⟨_, _, _, rfl, h1⟩, h2⟩)
def T_law03_LotDraws (W : World) (x1 : Option Addr) (l2 : Nat) (c3 : Nat) (n4 : Int) (n5 : Int) (R : Ending → Hp → Prop) : Hp → Prop :=
  NEW 24 [(.slice x1 l2 c3), (.int .i64 n4)] fun B6 =>
    RDL (Addr.add ⟨B6, 0, none⟩ 0) fun x7 l8 c9 =>
      RDI .i64 (Addr.add ⟨B6, 0, none⟩ 1) fun n10 =>
        CALL Pg W F_law03_far [(.agg #[(.slice x7 l8 c9), (.int .i64 n10)]), (.slice none 0 0), (.int .i64 8)]
          (fun v11 => TYB v11 fun b13 =>
            BR b13
              (J_law03_LotDraws_2 W R true B6 n5)
              (RDL (Addr.add ⟨B6, 0, none⟩ 0) fun x65 l66 c67 =>
                RDI .i64 (Addr.add ⟨B6, 0, none⟩ 1) fun n68 =>
                  CALL Pg W F_ref03_Lots [(.agg #[(.slice x65 l66 c67), (.int .i64 n68)])]
                    (fun v69 => TYB v69 fun b71 =>
                      J_law03_LotDraws_2 W R (!b71) B6 n5)
                      (fun e70 => R (.panicked e70))))
            (fun e12 => R (.panicked e12))
theorem T_law03_LotDraws_eq (W : World) (x1 : Option Addr) (l2 : Nat) (c3 : Nat) (n4 : Int) (n5 : Int) (R : Ending → Hp → Prop) : vfun Pg W an_6 Try.f6 [(.agg #[(.slice x1 l2 c3), (.int .i64 n4)]), (.int .u16 n5)] R = T_law03_LotDraws W x1 l2 c3 n4 n5 R := by kernel_rfl
theorem does_law03_LotDraws (W : World) (x1 : Option Addr) (l2 : Nat) (c3 : Nat) (n4 : Int) (n5 : Int) (R : Ending → Hp → Prop) (s : Hp) (h : T_law03_LotDraws W x1 l2 c3 n4 n5 R s) : Does Pg W F_law03_LotDraws #[(.agg #[(.slice x1 l2 c3), (.int .i64 n4)]), (.int .u16 n5)] s R :=
  does_of_vfun Pg W an_6 Try.func6 rfl (by kernel_rfl) (by rw [T_law03_LotDraws_eq]; exact h)
def an_7 : Nat → Ann := fun b => match b with
  | 0 => { ms := [6, 46], ks := [.b, .i .i64], us := [1, 2, 3, 7, 44, 45, 182], rt := false, ex := [] }
  | _ => {}
abbrev rv_7 : List ResultVar := [.tmp 6]
abbrev rs_7 : List Nat := [182, 6]
def L_law03_LotOrder_0 (W : World) (R : Ending → Hp → Prop) (zn0 : Int) (zp1 : Option Addr) (zl2 : Nat) (zl3 : Nat) (za4 : Addr) (zn5 : Int) (za6 : Addr) (b43 : Bool) (n44 : Int) : Hp → Prop :=
  LOOPN [.b, .i .i64] (fun ys next s => ∀ j : Tm, vc Pg W 182 rs_7 an_7 false (sub (bodyOf Try.f7) [1, 1, 1, 1, 0, 1, 0, 0]) 0 (KLoop [6, 46] [1, 2, 3, 7, 44, 45, 182] [(.int .u16 zn0), (.slice zp1 zl2 zl3), (.pointer (some za4)), (.int .i64 zn5), (.slice (some za6) 2 2), (.int .i64 2), (.tuple #[])] next (KBlk 0 (KS Pg W 182 rs_7 an_7 false (sub (bodyOf Try.f7) [1, 1, 1, 1, 1]) 0 (fin Pg W 182 rv_7 R)))) (known [6, 46] ys (known [1, 2, 3, 7, 44, 45, 182] [(.int .u16 zn0), (.slice zp1 zl2 zl3), (.pointer (some za4)), (.int .i64 zn5), (.slice (some za6) 2 2), (.int .i64 2), (.tuple #[])] j)) s) [(.bool b43), (.int .i64 n44)]
def J_law03_LotOrder_0 (W : World) (R : Ending → Hp → Prop) (b34 : Bool) (n30 : Int) (n5 : Int) (x6 : Option Addr) (l7 : Nat) (c8 : Nat) (B9 : Nat) : Hp → Prop :=
  BR b34
    (R (.returned (.bool false)))
    (NEW 3 [(.int .i64 (-1)), (.int .i64 n30)] fun B35 =>
      L_law03_LotOrder_0 W R n5 x6 l7 c8 ⟨B9, 0, none⟩ n30 ⟨B35, 0, none⟩ false 0)
def J_law03_LotOrder_1 (W : World) (R : Ending → Hp → Prop) (b17 : Bool) (B9 : Nat) (n5 : Int) (x6 : Option Addr) (l7 : Nat) (c8 : Nat) : Hp → Prop :=
  BR b17
    (CALL Pg W F_law03_awake []
      (fun v18 => TYB v18 fun b20 =>
        R (.returned (.bool b20)))
        (fun e19 => R (.panicked e19)))
    (RDL (Addr.add ⟨B9, 0, none⟩ 0) fun x21 l22 c23 =>
      RDI .i64 (Addr.add ⟨B9, 0, none⟩ 1) fun n24 =>
        CALL Pg W F_lot_Count [(.agg #[(.slice x21 l22 c23), (.int .i64 n24)])]
          (fun v25 => TUP v25 fun q27 => HD q27 fun v28 r29 => TYI .i64 v28 fun n30 =>
            HD r29 fun v31 r32 => TYI .i64 v31 fun n33 =>
              NL r32 <|
                BR (n33 != 0)
                  (J_law03_LotOrder_0 W R true n30 n5 x6 l7 c8 B9)
                  (J_law03_LotOrder_0 W R (decide (n30 < 0)) n30 n5 x6 l7 c8 B9))
            (fun e26 => R (.panicked e26)))
def J_law03_LotOrder_2 (W : World) (R : Ending → Hp → Prop) (b62 : Bool) (zn0 : Int) (zp1 : Option Addr) (zl2 : Nat) (zl3 : Nat) (za4 : Addr) (zn5 : Int) (za6 : Addr) (nx0 : List Value → Hp → Prop) (b43 : Bool) (n44 : Int) : Hp → Prop :=
  BR b62
    (R (.returned (.bool false)))
    (NX [(.int .u16 zn0), (.slice zp1 zl2 zl3), (.pointer (some za4)), (.int .i64 zn5), (.slice (some za6) 2 2), (.int .i64 2), (.tuple #[])] [(.int .u16 zn0), (.slice zp1 zl2 zl3), (.pointer (some za4)), (.int .i64 zn5), (.slice (some za6) 2 2), (.int .i64 2), (.tuple #[])] (nx0 [(.bool b43), (.int .i64 (IntKind.wrap .i64 (n44 + 1)))]))
def J_law03_LotOrder_3 (W : World) (R : Ending → Hp → Prop) (b152 : Bool) (x121 : Option Addr) (l122 : Nat) (c123 : Nat) (x75 : Option Addr) (l76 : Nat) (c77 : Nat) (n143 : Int) (zn0 : Int) (zn5 : Int) : Hp → Prop :=
  BR b152
    (CALL Pg W F_ref03_Ints [(.slice x121 l122 c123), (.slice x75 l76 c77)]
      (fun v153 => TYB v153 fun b155 =>
        BR ((n143 == (Int.tmod (IntKind.wrap .i64 zn0) zn5)) == b155)
          (CALL Pg W F_law03_awake []
            (fun v156 => TYB v156 fun b158 =>
              R (.returned (.bool b158)))
              (fun e157 => R (.panicked e157)))
          (R (.returned (.bool false))))
        (fun e154 => R (.panicked e154)))
    (R (.returned (.bool false)))
def J_law03_LotOrder_4 (W : World) (R : Ending → Hp → Prop) (b148 : Bool) (x121 : Option Addr) (l122 : Nat) (c123 : Nat) (x75 : Option Addr) (l76 : Nat) (c77 : Nat) (n143 : Int) (zn0 : Int) (zn5 : Int) : Hp → Prop :=
  BR b148
    (CALLV Pg W (.func (.func 38) #[] #[]) [(.slice x121 l122 c123), (.slice x75 l76 c77)]
      (fun v149 => TYB v149 fun b151 =>
        J_law03_LotOrder_3 W R ((decide (n143 < (Int.tmod (IntKind.wrap .i64 zn0) zn5))) == b151) x121 l122 c123 x75 l76 c77 n143 zn0 zn5)
        (fun e150 => R (.panicked e150)))
    (J_law03_LotOrder_3 W R false x121 l122 c123 x75 l76 c77 n143 zn0 zn5)
def J_law03_LotOrder_5 (W : World) (R : Ending → Hp → Prop) (b147 : Bool) (n143 : Int) (zn5 : Int) (x121 : Option Addr) (l122 : Nat) (c123 : Nat) (x75 : Option Addr) (l76 : Nat) (c77 : Nat) (zn0 : Int) : Hp → Prop :=
  BR b147
    (J_law03_LotOrder_4 W R (decide (n143 < zn5)) x121 l122 c123 x75 l76 c77 n143 zn0 zn5)
    (J_law03_LotOrder_4 W R false x121 l122 c123 x75 l76 c77 n143 zn0 zn5)
def J_law03_LotOrder_6 (W : World) (R : Ending → Hp → Prop) (za4 : Addr) (zp1 : Option Addr) (zl2 : Nat) (zl3 : Nat) (zn5 : Int) (x75 : Option Addr) (l76 : Nat) (c77 : Nat) (zn0 : Int) : Hp → Prop :=
  RDL (Addr.add za4 0) fun x116 l117 c118 =>
    CALL Pg W F_law03_made [(.int .i64 (↑l117 : Int)), (.slice zp1 zl2 zl3)]
      (fun v119 => TYL v119 fun x121 l122 c123 =>
        RDL (Addr.add za4 0) fun x124 l125 c126 =>
          RDI .i64 (Addr.add za4 1) fun n127 =>
            CALL Pg W F_law03_lawful [(.agg #[(.slice x124 l125 c126), (.int .i64 n127)]), (.slice x121 l122 c123)]
              (fun v128 => TYB v128 fun b130 =>
                BR (!b130)
                  (CALL Pg W F_law03_awake []
                    (fun v131 => TYB v131 fun b133 =>
                      R (.returned (.bool b133)))
                      (fun e132 => R (.panicked e132)))
                  (RDL (Addr.add za4 0) fun x134 l135 c136 =>
                    RDI .i64 (Addr.add za4 1) fun n137 =>
                      CALL Pg W F_lot_Place [(.agg #[(.slice x134 l135 c136), (.int .i64 n137)]), (.slice x121 l122 c123)]
                        (fun v138 => TUP v138 fun q140 => HD q140 fun v141 r142 => TYI .i64 v141 fun n143 =>
                          HD r142 fun v144 r145 => TYI .i64 v144 fun n146 =>
                            NL r145 <|
                              BR (n146 == 0)
                                (J_law03_LotOrder_5 W R (decide (n143 ≥ 0)) n143 zn5 x121 l122 c123 x75 l76 c77 zn0)
                                (J_law03_LotOrder_5 W R false n143 zn5 x121 l122 c123 x75 l76 c77 zn0))
                          (fun e139 => R (.panicked e139))))
                (fun e129 => R (.panicked e129)))
        (fun e120 => R (.panicked e120))
def J_law03_LotOrder_7 (W : World) (R : Ending → Hp → Prop) (b114 : Bool) (za4 : Addr) (zp1 : Option Addr) (zl2 : Nat) (zl3 : Nat) (zn5 : Int) (x75 : Option Addr) (l76 : Nat) (c77 : Nat) (zn0 : Int) : Hp → Prop :=
  BR b114
    (R (.returned (.bool false)))
    (J_law03_LotOrder_6 W R za4 zp1 zl2 zl3 zn5 x75 l76 c77 zn0)
def J_law03_LotOrder_8 (W : World) (R : Ending → Hp → Prop) (b113 : Bool) (za4 : Addr) (zp1 : Option Addr) (zl2 : Nat) (zl3 : Nat) (zn5 : Int) (x75 : Option Addr) (l76 : Nat) (c77 : Nat) (zn0 : Int) (x107 : Option Addr) (l108 : Nat) (c109 : Nat) : Hp → Prop :=
  BR b113
    (J_law03_LotOrder_7 W R true za4 zp1 zl2 zl3 zn5 x75 l76 c77 zn0)
    (CALLV Pg W (.func (.func 38) #[] #[]) [(.slice x75 l76 c77), (.slice x107 l108 c109)]
      (fun v159 => TYB v159 fun b161 =>
        J_law03_LotOrder_7 W R (!b161) za4 zp1 zl2 zl3 zn5 x75 l76 c77 zn0)
        (fun e160 => R (.panicked e160)))
def J_law03_LotOrder_9 (W : World) (R : Ending → Hp → Prop) (b97 : Bool) (zn0 : Int) (zn5 : Int) (za4 : Addr) (zp1 : Option Addr) (zl2 : Nat) (zl3 : Nat) (x75 : Option Addr) (l76 : Nat) (c77 : Nat) : Hp → Prop :=
  BR b97
    (R (.returned (.bool false)))
    (BR (decide ((IntKind.wrap .i64 ((Int.tmod (IntKind.wrap .i64 zn0) zn5) + 1)) < zn5))
      (RDL (Addr.add za4 0) fun x98 l99 c100 =>
        RDI .i64 (Addr.add za4 1) fun n101 =>
          CALL Pg W F_lot_Nth [(.agg #[(.slice x98 l99 c100), (.int .i64 n101)]), (.int .i64 (IntKind.wrap .i64 ((Int.tmod (IntKind.wrap .i64 zn0) zn5) + 1)))]
            (fun v102 => TUP v102 fun q104 => HD q104 fun v105 r106 => TYL v105 fun x107 l108 c109 =>
              HD r106 fun v110 r111 => TYI .i64 v110 fun n112 =>
                NL r111 <|
                  BR (n112 != 0)
                    (J_law03_LotOrder_8 W R true za4 zp1 zl2 zl3 zn5 x75 l76 c77 zn0 x107 l108 c109)
                    (J_law03_LotOrder_8 W R ((↑l108 : Int) != (↑l76 : Int)) za4 zp1 zl2 zl3 zn5 x75 l76 c77 zn0 x107 l108 c109))
              (fun e103 => R (.panicked e103)))
      (J_law03_LotOrder_6 W R za4 zp1 zl2 zl3 zn5 x75 l76 c77 zn0))
def J_law03_LotOrder_10 (W : World) (R : Ending → Hp → Prop) (b96 : Bool) (zn0 : Int) (zn5 : Int) (za4 : Addr) (zp1 : Option Addr) (zl2 : Nat) (zl3 : Nat) (x75 : Option Addr) (l76 : Nat) (c77 : Nat) (n90 : Int) : Hp → Prop :=
  BR b96
    (J_law03_LotOrder_9 W R true zn0 zn5 za4 zp1 zl2 zl3 x75 l76 c77)
    (J_law03_LotOrder_9 W R (n90 != (Int.tmod (IntKind.wrap .i64 zn0) zn5)) zn0 zn5 za4 zp1 zl2 zl3 x75 l76 c77)
def J_law03_LotOrder_11 (W : World) (R : Ending → Hp → Prop) (b95 : Bool) (zn0 : Int) (zn5 : Int) (za4 : Addr) (zp1 : Option Addr) (zl2 : Nat) (zl3 : Nat) (x75 : Option Addr) (l76 : Nat) (c77 : Nat) (n90 : Int) (n93 : Int) : Hp → Prop :=
  BR b95
    (J_law03_LotOrder_10 W R true zn0 zn5 za4 zp1 zl2 zl3 x75 l76 c77 n90)
    (J_law03_LotOrder_10 W R (n93 != 0) zn0 zn5 za4 zp1 zl2 zl3 x75 l76 c77 n90)
def J_law03_LotOrder_12 (W : World) (R : Ending → Hp → Prop) (b94 : Bool) (zn0 : Int) (zn5 : Int) (za4 : Addr) (zp1 : Option Addr) (zl2 : Nat) (zl3 : Nat) (x75 : Option Addr) (l76 : Nat) (c77 : Nat) (n90 : Int) (n93 : Int) : Hp → Prop :=
  BR b94
    (J_law03_LotOrder_11 W R true zn0 zn5 za4 zp1 zl2 zl3 x75 l76 c77 n90 n93)
    (RDL (Addr.add za4 0) fun x162 l163 c164 =>
      RDI .i64 (Addr.add za4 1) fun n165 =>
        CALL Pg W F_law03_lawful [(.agg #[(.slice x162 l163 c164), (.int .i64 n165)]), (.slice x75 l76 c77)]
          (fun v166 => TYB v166 fun b168 =>
            J_law03_LotOrder_11 W R (!b168) zn0 zn5 za4 zp1 zl2 zl3 x75 l76 c77 n90 n93)
            (fun e167 => R (.panicked e167)))
def B_law03_LotOrder_0 (W : World) (R : Ending → Hp → Prop) (zn0 : Int) (zp1 : Option Addr) (zl2 : Nat) (zl3 : Nat) (za4 : Addr) (zn5 : Int) (za6 : Addr) (b43 : Bool) (n44 : Int) (nx0 : List Value → Hp → Prop) : Hp → Prop :=
  BR (decide (n44 < 2))
    (IXS (some za6) 2 n44 1 fun a45 =>
      RDI .i64 a45 fun n46 =>
        RDL (Addr.add za4 0) fun x47 l48 c49 =>
          RDI .i64 (Addr.add za4 1) fun n50 =>
            CALL Pg W F_lot_Nth [(.agg #[(.slice x47 l48 c49), (.int .i64 n50)]), (.int .i64 n46)]
              (fun v51 => TUP v51 fun q53 => HD q53 fun v54 r55 => TYL v54 fun x56 l57 c58 =>
                HD r55 fun v59 r60 => TYI .i64 v59 fun n61 =>
                  NL r60 <|
                    BR (n61 != 4)
                      (J_law03_LotOrder_2 W R true zn0 zp1 zl2 zl3 za4 zn5 za6 nx0 b43 n44)
                      (J_law03_LotOrder_2 W R ((↑l57 : Int) != 0) zn0 zp1 zl2 zl3 za4 zn5 za6 nx0 b43 n44))
                (fun e52 => R (.panicked e52)))
    (BR (zn5 == 0)
      (CALL Pg W F_law03_awake []
        (fun v63 => TYB v63 fun b65 =>
          R (.returned (.bool b65)))
          (fun e64 => R (.panicked e64)))
      (NZI zn5 <|
        RDL (Addr.add za4 0) fun x66 l67 c68 =>
          RDI .i64 (Addr.add za4 1) fun n69 =>
            CALL Pg W F_lot_Nth [(.agg #[(.slice x66 l67 c68), (.int .i64 n69)]), (.int .i64 (Int.tmod (IntKind.wrap .i64 zn0) zn5))]
              (fun v70 => TUP v70 fun q72 => HD q72 fun v73 r74 => TYL v73 fun x75 l76 c77 =>
                HD r74 fun v78 r79 => TYI .i64 v78 fun n80 =>
                  NL r79 <|
                    RDL (Addr.add za4 0) fun x81 l82 c83 =>
                      RDI .i64 (Addr.add za4 1) fun n84 =>
                        CALL Pg W F_lot_Place [(.agg #[(.slice x81 l82 c83), (.int .i64 n84)]), (.slice x75 l76 c77)]
                          (fun v85 => TUP v85 fun q87 => HD q87 fun v88 r89 => TYI .i64 v88 fun n90 =>
                            HD r89 fun v91 r92 => TYI .i64 v91 fun n93 =>
                              NL r92 <|
                                BR (n80 != 0)
                                  (J_law03_LotOrder_12 W R true zn0 zn5 za4 zp1 zl2 zl3 x75 l76 c77 n90 n93)
                                  (RDL (Addr.add za4 0) fun x169 l170 c171 =>
                                    RDI .i64 (Addr.add za4 1) fun n172 =>
                                      CALL Pg W F_ref03_Full [(.agg #[(.slice x169 l170 c171), (.int .i64 n172)]), (.slice x75 l76 c77)]
                                        (fun v173 => TYB v173 fun b175 =>
                                          J_law03_LotOrder_12 W R (!b175) zn0 zn5 za4 zp1 zl2 zl3 x75 l76 c77 n90 n93)
                                          (fun e174 => R (.panicked e174))))
                            (fun e86 => R (.panicked e86)))
                (fun e71 => R (.panicked e71))))
theorem B_law03_LotOrder_0_eq (W : World) (R : Ending → Hp → Prop) (zn0 : Int) (zp1 : Option Addr) (zl2 : Nat) (zl3 : Nat) (za4 : Addr) (zn5 : Int) (za6 : Addr) (b43 : Bool) (n44 : Int) (nx0 : List Value → Hp → Prop) (j : Tm) : vc Pg W 182 rs_7 an_7 false (sub (bodyOf Try.f7) [1, 1, 1, 1, 0, 1, 0, 0]) 0 (KLoop [6, 46] [1, 2, 3, 7, 44, 45, 182] [(.int .u16 zn0), (.slice zp1 zl2 zl3), (.pointer (some za4)), (.int .i64 zn5), (.slice (some za6) 2 2), (.int .i64 2), (.tuple #[])] nx0 (KBlk 0 (KS Pg W 182 rs_7 an_7 false (sub (bodyOf Try.f7) [1, 1, 1, 1, 1]) 0 (fin Pg W 182 rv_7 R)))) (known [6, 46] [(.bool b43), (.int .i64 n44)] (known [1, 2, 3, 7, 44, 45, 182] [(.int .u16 zn0), (.slice zp1 zl2 zl3), (.pointer (some za4)), (.int .i64 zn5), (.slice (some za6) 2 2), (.int .i64 2), (.tuple #[])] j)) = B_law03_LotOrder_0 W R zn0 zp1 zl2 zl3 za4 zn5 za6 b43 n44 nx0 := by kernel_rfl
def N_law03_LotOrder_0 (I : Bool → Int → Hp → Prop) (μ : Bool → Int → Hp → Nat) (b430 : Bool) (n440 : Int) (s : Hp) (vs : List Value) : Hp → Prop := fun s' => ∃ b43 n44, vs = [(.bool b43), (.int .i64 n44)] ∧ I b43 n44 s' ∧ μ b43 n44 s' < μ b430 n440 s
theorem L_law03_LotOrder_0_rule (W : World) (R : Ending → Hp → Prop) (zn0 : Int) (zp1 : Option Addr) (zl2 : Nat) (zl3 : Nat) (za4 : Addr) (zn5 : Int) (za6 : Addr) (I : Bool → Int → Hp → Prop) (μ : Bool → Int → Hp → Nat) (b430 : Bool) (n440 : Int) (s : Hp) (h0 : I b430 n440 s)
    (hr : ∀ (b43 : Bool) (n44 : Int) (s : Hp), I b43 n44 s → B_law03_LotOrder_0 W R zn0 zp1 zl2 zl3 za4 zn5 za6 b43 n44 (fun vs => N_law03_LotOrder_0 I μ b43 n44 s vs) s) : L_law03_LotOrder_0 W R zn0 zp1 zl2 zl3 za4 zn5 za6 b430 n440 s := by
  refine ⟨fun vs s => ∃ b43 n44, vs = [(.bool b43), (.int .i64 n44)] ∧ I b43 n44 s, fun vs s => (match vs with | [.bool b43, .int _ n44] => μ b43 n44 s | _ => 0), ⟨⟨⟨_, rfl⟩, ⟨⟨_, rfl⟩, trivial⟩⟩, ⟨_, _, rfl, h0⟩⟩, ?_⟩
  intro b43 n44 s hI j
  obtain ⟨b43', n44', hy, hI⟩ := hI
  have hI' : I b43 n44 s := by cases hy; exact hI
  have hh := hr b43 n44 s hI'
  rw [← B_law03_LotOrder_0_eq W R zn0 zp1 zl2 zl3 za4 zn5 za6 b43 n44 _ j] at hh
  refine vc_mono ?_ _ _ hh
  exact KLoop_mono (fun vs s' h => by obtain ⟨b431, n441, rfl, h1, h2⟩ := h; exact ⟨⟨⟨_, rfl⟩, ⟨⟨_, rfl⟩, trivial⟩⟩, ⟨_, _, rfl, h1⟩, h2⟩)
def T_law03_LotOrder (W : World) (x1 : Option Addr) (l2 : Nat) (c3 : Nat) (n4 : Int) (n5 : Int) (x6 : Option Addr) (l7 : Nat) (c8 : Nat) (R : Ending → Hp → Prop) : Hp → Prop :=
  NEW 24 [(.slice x1 l2 c3), (.int .i64 n4)] fun B9 =>
    RDL (Addr.add ⟨B9, 0, none⟩ 0) fun x10 l11 c12 =>
      RDI .i64 (Addr.add ⟨B9, 0, none⟩ 1) fun n13 =>
        CALL Pg W F_law03_far [(.agg #[(.slice x10 l11 c12), (.int .i64 n13)]), (.slice none 0 0), (.int .i64 8)]
          (fun v14 => TYB v14 fun b16 =>
            BR b16
              (J_law03_LotOrder_1 W R true B9 n5 x6 l7 c8)
              (RDL (Addr.add ⟨B9, 0, none⟩ 0) fun x36 l37 c38 =>
                RDI .i64 (Addr.add ⟨B9, 0, none⟩ 1) fun n39 =>
                  CALL Pg W F_ref03_Lots [(.agg #[(.slice x36 l37 c38), (.int .i64 n39)])]
                    (fun v40 => TYB v40 fun b42 =>
                      J_law03_LotOrder_1 W R (!b42) B9 n5 x6 l7 c8)
                      (fun e41 => R (.panicked e41))))
            (fun e15 => R (.panicked e15))
theorem T_law03_LotOrder_eq (W : World) (x1 : Option Addr) (l2 : Nat) (c3 : Nat) (n4 : Int) (n5 : Int) (x6 : Option Addr) (l7 : Nat) (c8 : Nat) (R : Ending → Hp → Prop) : vfun Pg W an_7 Try.f7 [(.agg #[(.slice x1 l2 c3), (.int .i64 n4)]), (.int .u16 n5), (.slice x6 l7 c8)] R = T_law03_LotOrder W x1 l2 c3 n4 n5 x6 l7 c8 R := by kernel_rfl
theorem does_law03_LotOrder (W : World) (x1 : Option Addr) (l2 : Nat) (c3 : Nat) (n4 : Int) (n5 : Int) (x6 : Option Addr) (l7 : Nat) (c8 : Nat) (R : Ending → Hp → Prop) (s : Hp) (h : T_law03_LotOrder W x1 l2 c3 n4 n5 x6 l7 c8 R s) : Does Pg W F_law03_LotOrder #[(.agg #[(.slice x1 l2 c3), (.int .i64 n4)]), (.int .u16 n5), (.slice x6 l7 c8)] s R :=
  does_of_vfun Pg W an_7 Try.func7 rfl (by kernel_rfl) (by rw [T_law03_LotOrder_eq]; exact h)
def an_8 : Nat → Ann := fun b => match b with
  | 0 => { ms := [6, 14, 15, 68], ks := [.b, .i .i64, .i .i64, .i .i64], us := [3, 7, 8, 9, 10, 12, 67, 163], rt := false, ex := [] }
  | _ => {}
abbrev rv_8 : List ResultVar := [.tmp 6]
abbrev rs_8 : List Nat := [163, 6]
def L_law03_LotOften_0 (W : World) (R : Ending → Hp → Prop) (za0 : Addr) (zn1 : Int) (zn2 : Int) (zn3 : Int) (zn4 : Int) (zn5 : Int) (b58 : Bool) (n59 : Int) (n60 : Int) (n61 : Int) : Hp → Prop :=
  LOOPN [.b, .i .i64, .i .i64, .i .i64] (fun ys next s => ∀ j : Tm, vc Pg W 163 rs_8 an_8 false (sub (bodyOf Try.f8) [1, 1, 1, 1, 1, 1, 1, 1, 0, 1, 0, 0]) 0 (KLoop [6, 14, 15, 68] [3, 7, 8, 9, 10, 12, 67, 163] [(.pointer (some za0)), (.int .i64 zn1), (.int .i64 zn2), (.int .i64 zn3), (.int .i64 zn4), (.int .i64 zn5), (.int .i64 zn1), (.tuple #[])] next (KBlk 0 (KS Pg W 163 rs_8 an_8 false (sub (bodyOf Try.f8) [1, 1, 1, 1, 1, 1, 1, 1, 1]) 0 (fin Pg W 163 rv_8 R)))) (known [6, 14, 15, 68] ys (known [3, 7, 8, 9, 10, 12, 67, 163] [(.pointer (some za0)), (.int .i64 zn1), (.int .i64 zn2), (.int .i64 zn3), (.int .i64 zn4), (.int .i64 zn5), (.int .i64 zn1), (.tuple #[])] j)) s) [(.bool b58), (.int .i64 n59), (.int .i64 n60), (.int .i64 n61)]
def J_law03_LotOften_0 (W : World) (R : Ending → Hp → Prop) (b50 : Bool) (B7 : Nat) (l20 : Nat) (n5 : Int) (n6 : Int) (n31 : Int) (n44 : Int) : Hp → Prop :=
  BR b50
    (R (.returned (.bool false)))
    (L_law03_LotOften_0 W R ⟨B7, 0, none⟩ (↑l20 : Int) (Int.tmod (IntKind.wrap .i64 n5) (↑l20 : Int)) (Int.tmod (IntKind.wrap .i64 n6) (↑l20 : Int)) n31 n44 false 0 0 0)
def J_law03_LotOften_1 (W : World) (R : Ending → Hp → Prop) (b49 : Bool) (B7 : Nat) (l20 : Nat) (n5 : Int) (n6 : Int) (n31 : Int) (n44 : Int) : Hp → Prop :=
  BR b49
    (J_law03_LotOften_0 W R true B7 l20 n5 n6 n31 n44)
    (NNI (↑l20 : Int) <|
      J_law03_LotOften_0 W R ((shrv .i64 n44 (↑l20 : Int)) != 0) B7 l20 n5 n6 n31 n44)
def J_law03_LotOften_2 (W : World) (R : Ending → Hp → Prop) (b48 : Bool) (B7 : Nat) (l20 : Nat) (n5 : Int) (n6 : Int) (n31 : Int) (n44 : Int) : Hp → Prop :=
  BR b48
    (J_law03_LotOften_1 W R true B7 l20 n5 n6 n31 n44)
    (J_law03_LotOften_1 W R (decide (n44 < 0)) B7 l20 n5 n6 n31 n44)
def J_law03_LotOften_3 (W : World) (R : Ending → Hp → Prop) (b15 : Bool) (B7 : Nat) (n5 : Int) (n6 : Int) : Hp → Prop :=
  BR b15
    (CALL Pg W F_law03_awake []
      (fun v16 => TYB v16 fun b18 =>
        R (.returned (.bool b18)))
        (fun e17 => R (.panicked e17)))
    (RDL (Addr.add ⟨B7, 0, none⟩ 0) fun x19 l20 c21 =>
      NZI (↑l20 : Int) <|
        NZI (↑l20 : Int) <|
          RDL (Addr.add ⟨B7, 0, none⟩ 0) fun x22 l23 c24 =>
            RDI .i64 (Addr.add ⟨B7, 0, none⟩ 1) fun n25 =>
              CALL Pg W F_lot_Count [(.agg #[(.slice x22 l23 c24), (.int .i64 n25)])]
                (fun v26 => TUP v26 fun q28 => HD q28 fun v29 r30 => TYI .i64 v29 fun n31 =>
                  HD r30 fun v32 r33 => TYI .i64 v32 fun n34 =>
                    NL r33 <|
                      RDL (Addr.add ⟨B7, 0, none⟩ 0) fun x35 l36 c37 =>
                        RDI .i64 (Addr.add ⟨B7, 0, none⟩ 1) fun n38 =>
                          CALL Pg W F_lot_Can [(.agg #[(.slice x35 l36 c37), (.int .i64 n38)]), (.int .i64 (Int.tmod (IntKind.wrap .i64 n5) (↑l20 : Int)))]
                            (fun v39 => TUP v39 fun q41 => HD q41 fun v42 r43 => TYI .i64 v42 fun n44 =>
                              HD r43 fun v45 r46 => TYI .i64 v45 fun n47 =>
                                NL r46 <|
                                  BR (n34 != 0)
                                    (J_law03_LotOften_2 W R true B7 l20 n5 n6 n31 n44)
                                    (J_law03_LotOften_2 W R (n47 != 0) B7 l20 n5 n6 n31 n44))
                              (fun e40 => R (.panicked e40)))
                  (fun e27 => R (.panicked e27)))
def J_law03_LotOften_4 (W : World) (R : Ending → Hp → Prop) (b97 : Bool) (za0 : Addr) (zn1 : Int) (zn2 : Int) (zn3 : Int) (zn4 : Int) (zn5 : Int) (nx0 : List Value → Hp → Prop) (b58 : Bool) (n59 : Int) (n71 : Int) (n60 : Int) (n84 : Int) (n61 : Int) : Hp → Prop :=
  BR b97
    (R (.returned (.bool false)))
    (NX [(.pointer (some za0)), (.int .i64 zn1), (.int .i64 zn2), (.int .i64 zn3), (.int .i64 zn4), (.int .i64 zn5), (.int .i64 zn1), (.tuple #[])] [(.pointer (some za0)), (.int .i64 zn1), (.int .i64 zn2), (.int .i64 zn3), (.int .i64 zn4), (.int .i64 zn5), (.int .i64 zn1), (.tuple #[])] (nx0 [(.bool b58), (.int .i64 (IntKind.wrap .i64 (n59 + n71))), (.int .i64 (IntKind.wrap .i64 (n60 + n84))), (.int .i64 (IntKind.wrap .i64 (n61 + 1)))]))
def J_law03_LotOften_5 (W : World) (R : Ending → Hp → Prop) (b91 : Bool) (n71 : Int) (za0 : Addr) (zn2 : Int) (n61 : Int) (zn1 : Int) (zn3 : Int) (zn4 : Int) (zn5 : Int) (nx0 : List Value → Hp → Prop) (b58 : Bool) (n59 : Int) (n60 : Int) (n84 : Int) : Hp → Prop :=
  BR b91
    (R (.returned (.bool false)))
    (BR (decide (n71 > 0))
      (RDL (Addr.add za0 0) fun x92 l93 c94 =>
        IXS x92 l93 zn2 3 fun a95 =>
          RDB (Addr.add a95 1) fun b96 =>
            BR b96
              (BR (decide (n61 > 0))
                (BR (decide (n61 < (IntKind.wrap .i64 (zn1 - 1))))
                  (J_law03_LotOften_4 W R true za0 zn1 zn2 zn3 zn4 zn5 nx0 b58 n59 n71 n60 n84 n61)
                  (RDL (Addr.add za0 0) fun x98 l99 c100 =>
                    IXS x98 l99 zn2 3 fun a101 =>
                      RDB (Addr.add a101 2) fun b102 =>
                        BR b102
                          (RDI .i64 (Addr.add za0 1) fun n103 =>
                            NNI n61 <|
                              J_law03_LotOften_4 W R ((andv .i64 (shrv .i64 n103 n61) 1) == 1) za0 zn1 zn2 zn3 zn4 zn5 nx0 b58 n59 n71 n60 n84 n61)
                          (J_law03_LotOften_4 W R false za0 zn1 zn2 zn3 zn4 zn5 nx0 b58 n59 n71 n60 n84 n61)))
                (RDL (Addr.add za0 0) fun x104 l105 c106 =>
                  IXS x104 l105 zn2 3 fun a107 =>
                    RDB (Addr.add a107 2) fun b108 =>
                      BR b108
                        (RDI .i64 (Addr.add za0 1) fun n109 =>
                          NNI n61 <|
                            J_law03_LotOften_4 W R ((andv .i64 (shrv .i64 n109 n61) 1) == 1) za0 zn1 zn2 zn3 zn4 zn5 nx0 b58 n59 n71 n60 n84 n61)
                        (J_law03_LotOften_4 W R false za0 zn1 zn2 zn3 zn4 zn5 nx0 b58 n59 n71 n60 n84 n61)))
              (RDL (Addr.add za0 0) fun x110 l111 c112 =>
                IXS x110 l111 zn2 3 fun a113 =>
                  RDB (Addr.add a113 2) fun b114 =>
                    BR b114
                      (RDI .i64 (Addr.add za0 1) fun n115 =>
                        NNI n61 <|
                          J_law03_LotOften_4 W R ((andv .i64 (shrv .i64 n115 n61) 1) == 1) za0 zn1 zn2 zn3 zn4 zn5 nx0 b58 n59 n71 n60 n84 n61)
                      (J_law03_LotOften_4 W R false za0 zn1 zn2 zn3 zn4 zn5 nx0 b58 n59 n71 n60 n84 n61)))
      (J_law03_LotOften_4 W R false za0 zn1 zn2 zn3 zn4 zn5 nx0 b58 n59 n71 n60 n84 n61))
def J_law03_LotOften_6 (W : World) (R : Ending → Hp → Prop) (b90 : Bool) (n71 : Int) (za0 : Addr) (zn2 : Int) (n61 : Int) (zn1 : Int) (zn3 : Int) (zn4 : Int) (zn5 : Int) (nx0 : List Value → Hp → Prop) (b58 : Bool) (n59 : Int) (n60 : Int) (n84 : Int) : Hp → Prop :=
  BR b90
    (J_law03_LotOften_5 W R true n71 za0 zn2 n61 zn1 zn3 zn4 zn5 nx0 b58 n59 n60 n84)
    (NNI n61 <|
      J_law03_LotOften_5 W R (!((decide (n71 > 0)) == ((andv .i64 (shrv .i64 zn5 n61) 1) == 1))) n71 za0 zn2 n61 zn1 zn3 zn4 zn5 nx0 b58 n59 n60 n84)
def J_law03_LotOften_7 (W : World) (R : Ending → Hp → Prop) (b89 : Bool) (n71 : Int) (za0 : Addr) (zn2 : Int) (n61 : Int) (zn1 : Int) (zn3 : Int) (zn4 : Int) (zn5 : Int) (nx0 : List Value → Hp → Prop) (b58 : Bool) (n59 : Int) (n60 : Int) (n84 : Int) : Hp → Prop :=
  BR b89
    (J_law03_LotOften_6 W R true n71 za0 zn2 n61 zn1 zn3 zn4 zn5 nx0 b58 n59 n60 n84)
    (J_law03_LotOften_6 W R (decide (n84 < 0)) n71 za0 zn2 n61 zn1 zn3 zn4 zn5 nx0 b58 n59 n60 n84)
def J_law03_LotOften_8 (W : World) (R : Ending → Hp → Prop) (b88 : Bool) (n71 : Int) (za0 : Addr) (zn2 : Int) (n61 : Int) (zn1 : Int) (zn3 : Int) (zn4 : Int) (zn5 : Int) (nx0 : List Value → Hp → Prop) (b58 : Bool) (n59 : Int) (n60 : Int) (n84 : Int) : Hp → Prop :=
  BR b88
    (J_law03_LotOften_7 W R true n71 za0 zn2 n61 zn1 zn3 zn4 zn5 nx0 b58 n59 n60 n84)
    (J_law03_LotOften_7 W R (decide (n71 < 0)) n71 za0 zn2 n61 zn1 zn3 zn4 zn5 nx0 b58 n59 n60 n84)
def B_law03_LotOften_0 (W : World) (R : Ending → Hp → Prop) (za0 : Addr) (zn1 : Int) (zn2 : Int) (zn3 : Int) (zn4 : Int) (zn5 : Int) (b58 : Bool) (n59 : Int) (n60 : Int) (n61 : Int) (nx0 : List Value → Hp → Prop) : Hp → Prop :=
  BR (decide (n61 < zn1))
    (RDL (Addr.add za0 0) fun x62 l63 c64 =>
      RDI .i64 (Addr.add za0 1) fun n65 =>
        CALL Pg W F_lot_Often [(.agg #[(.slice x62 l63 c64), (.int .i64 n65)]), (.int .i64 zn2), (.int .i64 n61)]
          (fun v66 => TUP v66 fun q68 => HD q68 fun v69 r70 => TYI .i64 v69 fun n71 =>
            HD r70 fun v72 r73 => TYI .i64 v72 fun n74 =>
              NL r73 <|
                RDL (Addr.add za0 0) fun x75 l76 c77 =>
                  RDI .i64 (Addr.add za0 1) fun n78 =>
                    CALL Pg W F_lot_Often [(.agg #[(.slice x75 l76 c77), (.int .i64 n78)]), (.int .i64 n61), (.int .i64 zn3)]
                      (fun v79 => TUP v79 fun q81 => HD q81 fun v82 r83 => TYI .i64 v82 fun n84 =>
                        HD r83 fun v85 r86 => TYI .i64 v85 fun n87 =>
                          NL r86 <|
                            BR (n74 != 0)
                              (J_law03_LotOften_8 W R true n71 za0 zn2 n61 zn1 zn3 zn4 zn5 nx0 b58 n59 n60 n84)
                              (J_law03_LotOften_8 W R (n87 != 0) n71 za0 zn2 n61 zn1 zn3 zn4 zn5 nx0 b58 n59 n60 n84))
                        (fun e80 => R (.panicked e80)))
            (fun e67 => R (.panicked e67)))
    (BR (n59 == zn4)
      (BR (n60 == zn4)
        (CALL Pg W F_law03_awake []
          (fun v116 => TYB v116 fun b118 =>
            R (.returned (.bool b118)))
            (fun e117 => R (.panicked e117)))
        (R (.returned (.bool false))))
      (R (.returned (.bool false))))
theorem B_law03_LotOften_0_eq (W : World) (R : Ending → Hp → Prop) (za0 : Addr) (zn1 : Int) (zn2 : Int) (zn3 : Int) (zn4 : Int) (zn5 : Int) (b58 : Bool) (n59 : Int) (n60 : Int) (n61 : Int) (nx0 : List Value → Hp → Prop) (j : Tm) : vc Pg W 163 rs_8 an_8 false (sub (bodyOf Try.f8) [1, 1, 1, 1, 1, 1, 1, 1, 0, 1, 0, 0]) 0 (KLoop [6, 14, 15, 68] [3, 7, 8, 9, 10, 12, 67, 163] [(.pointer (some za0)), (.int .i64 zn1), (.int .i64 zn2), (.int .i64 zn3), (.int .i64 zn4), (.int .i64 zn5), (.int .i64 zn1), (.tuple #[])] nx0 (KBlk 0 (KS Pg W 163 rs_8 an_8 false (sub (bodyOf Try.f8) [1, 1, 1, 1, 1, 1, 1, 1, 1]) 0 (fin Pg W 163 rv_8 R)))) (known [6, 14, 15, 68] [(.bool b58), (.int .i64 n59), (.int .i64 n60), (.int .i64 n61)] (known [3, 7, 8, 9, 10, 12, 67, 163] [(.pointer (some za0)), (.int .i64 zn1), (.int .i64 zn2), (.int .i64 zn3), (.int .i64 zn4), (.int .i64 zn5), (.int .i64 zn1), (.tuple #[])] j)) = B_law03_LotOften_0 W R za0 zn1 zn2 zn3 zn4 zn5 b58 n59 n60 n61 nx0 := by kernel_rfl
def N_law03_LotOften_0 (I : Bool → Int → Int → Int → Hp → Prop) (μ : Bool → Int → Int → Int → Hp → Nat) (b580 : Bool) (n590 : Int) (n600 : Int) (n610 : Int) (s : Hp) (vs : List Value) : Hp → Prop := fun s' => ∃ b58 n59 n60 n61, vs = [(.bool b58), (.int .i64 n59), (.int .i64 n60), (.int .i64 n61)] ∧ I b58 n59 n60 n61 s' ∧ μ b58 n59 n60 n61 s' < μ b580 n590 n600 n610 s
theorem L_law03_LotOften_0_rule (W : World) (R : Ending → Hp → Prop) (za0 : Addr) (zn1 : Int) (zn2 : Int) (zn3 : Int) (zn4 : Int) (zn5 : Int) (I : Bool → Int → Int → Int → Hp → Prop) (μ : Bool → Int → Int → Int → Hp → Nat) (b580 : Bool) (n590 : Int) (n600 : Int) (n610 : Int) (s : Hp) (h0 : I b580 n590 n600 n610 s)
    (hr : ∀ (b58 : Bool) (n59 : Int) (n60 : Int) (n61 : Int) (s : Hp), I b58 n59 n60 n61 s → B_law03_LotOften_0 W R za0 zn1 zn2 zn3 zn4 zn5 b58 n59 n60 n61 (fun vs => N_law03_LotOften_0 I μ b58 n59 n60 n61 s vs) s) : L_law03_LotOften_0 W R za0 zn1 zn2 zn3 zn4 zn5 b580 n590 n600 n610 s := by
  refine ⟨fun vs s => ∃ b58 n59 n60 n61, vs = [(.bool b58), (.int .i64 n59), (.int .i64 n60), (.int .i64 n61)] ∧ I b58 n59 n60 n61 s, fun vs s => (match vs with | [.bool b58, .int _ n59, .int _ n60, .int _ n61] => μ b58 n59 n60 n61 s | _ => 0), ⟨⟨⟨_, rfl⟩, ⟨⟨_, rfl⟩, ⟨⟨_, rfl⟩, ⟨⟨_, rfl⟩, trivial⟩⟩⟩⟩, ⟨_, _, _, _, rfl, h0⟩⟩, ?_⟩
  intro b58 n59 n60 n61 s hI j
  obtain ⟨b58', n59', n60', n61', hy, hI⟩ := hI
  have hI' : I b58 n59 n60 n61 s := by cases hy; exact hI
  have hh := hr b58 n59 n60 n61 s hI'
  rw [← B_law03_LotOften_0_eq W R za0 zn1 zn2 zn3 zn4 zn5 b58 n59 n60 n61 _ j] at hh
  refine vc_mono ?_ _ _ hh
  exact KLoop_mono (fun vs s' h => by obtain ⟨b581, n591, n601, n611, rfl, h1, h2⟩ := h; exact ⟨⟨⟨_, rfl⟩, ⟨⟨_, rfl⟩, ⟨⟨_, rfl⟩, ⟨⟨_, rfl⟩, trivial⟩⟩⟩⟩, ⟨_, _, _, _, rfl, h1⟩, h2⟩)
def T_law03_LotOften (W : World) (x1 : Option Addr) (l2 : Nat) (c3 : Nat) (n4 : Int) (n5 : Int) (n6 : Int) (R : Ending → Hp → Prop) : Hp → Prop :=
  NEW 24 [(.slice x1 l2 c3), (.int .i64 n4)] fun B7 =>
    RDL (Addr.add ⟨B7, 0, none⟩ 0) fun x8 l9 c10 =>
      RDI .i64 (Addr.add ⟨B7, 0, none⟩ 1) fun n11 =>
        CALL Pg W F_law03_far [(.agg #[(.slice x8 l9 c10), (.int .i64 n11)]), (.slice none 0 0), (.int .i64 8)]
          (fun v12 => TYB v12 fun b14 =>
            BR b14
              (J_law03_LotOften_3 W R true B7 n5 n6)
              (RDL (Addr.add ⟨B7, 0, none⟩ 0) fun x51 l52 c53 =>
                RDI .i64 (Addr.add ⟨B7, 0, none⟩ 1) fun n54 =>
                  CALL Pg W F_ref03_Lots [(.agg #[(.slice x51 l52 c53), (.int .i64 n54)])]
                    (fun v55 => TYB v55 fun b57 =>
                      J_law03_LotOften_3 W R (!b57) B7 n5 n6)
                      (fun e56 => R (.panicked e56))))
            (fun e13 => R (.panicked e13))
theorem T_law03_LotOften_eq (W : World) (x1 : Option Addr) (l2 : Nat) (c3 : Nat) (n4 : Int) (n5 : Int) (n6 : Int) (R : Ending → Hp → Prop) : vfun Pg W an_8 Try.f8 [(.agg #[(.slice x1 l2 c3), (.int .i64 n4)]), (.int .u8 n5), (.int .u8 n6)] R = T_law03_LotOften W x1 l2 c3 n4 n5 n6 R := by kernel_rfl
theorem does_law03_LotOften (W : World) (x1 : Option Addr) (l2 : Nat) (c3 : Nat) (n4 : Int) (n5 : Int) (n6 : Int) (R : Ending → Hp → Prop) (s : Hp) (h : T_law03_LotOften W x1 l2 c3 n4 n5 n6 R s) : Does Pg W F_law03_LotOften #[(.agg #[(.slice x1 l2 c3), (.int .i64 n4)]), (.int .u8 n5), (.int .u8 n6)] s R :=
  does_of_vfun Pg W an_8 Try.func8 rfl (by kernel_rfl) (by rw [T_law03_LotOften_eq]; exact h)
def an_9 : Nat → Ann := fun b => match b with
  | 0 => { ms := [4, 11, 68], ks := [.b, .i .i64, .i .i64], us := [2, 7, 9, 67, 173], rt := false, ex := [] }
  | 2 => { ms := [4, 11, 13], ks := [.b, .i .i64, .i .i64], us := [2, 7, 9, 12, 67, 68, 173], rt := false, ex := [] }
  | 4 => { ms := [18, 146], ks := [.b, .i .i64], us := [2, 4, 7, 9, 11, 12, 13, 17, 67, 68, 144, 145, 173], rt := false, ex := [] }
  | _ => {}
abbrev rv_9 : List ResultVar := [.tmp 4]
abbrev rs_9 : List Nat := [173, 4]
def L_law03_LotSwaps_0 (W : World) (R : Ending → Hp → Prop) (za0 : Addr) (zp1 : Option Addr) (zl2 : Nat) (zl3 : Nat) (zp4 : Option Addr) (zl5 : Nat) (zl6 : Nat) (zn7 : Int) (b79 : Bool) (n80 : Int) (n81 : Int) : Hp → Prop :=
  LOOPN [.b, .i .i64, .i .i64] (fun ys next s => ∀ j : Tm, vc Pg W 173 rs_9 an_9 false (sub (bodyOf Try.f9) [1, 1, 1, 1, 1, 1, 1, 1, 1, 0, 1, 0, 0]) 0 (KLoop [4, 11, 68] [2, 7, 9, 67, 173] [(.pointer (some za0)), (.slice zp1 zl2 zl3), (.slice zp4 zl5 zl6), (.int .i64 zn7), (.tuple #[])] next (KBlk 0 (KS Pg W 173 rs_9 an_9 false (sub (bodyOf Try.f9) [1, 1, 1, 1, 1, 1, 1, 1, 1, 1]) 0 (fin Pg W 173 rv_9 R)))) (known [4, 11, 68] ys (known [2, 7, 9, 67, 173] [(.pointer (some za0)), (.slice zp1 zl2 zl3), (.slice zp4 zl5 zl6), (.int .i64 zn7), (.tuple #[])] j)) s) [(.bool b79), (.int .i64 n80), (.int .i64 n81)]
def L_law03_LotSwaps_1 (W : World) (R : Ending → Hp → Prop) (nx0 : List Value → Hp → Prop) (za0 : Addr) (zp1 : Option Addr) (zl2 : Nat) (zl3 : Nat) (zp4 : Option Addr) (zl5 : Nat) (zl6 : Nat) (zn7 : Int) (zn8 : Int) (b85 : Bool) (n86 : Int) (n87 : Int) : Hp → Prop :=
  LOOPN [.b, .i .i64, .i .i64] (fun ys next s => ∀ j : Tm, vc Pg W 173 rs_9 an_9 false (sub (bodyOf Try.f9) [1, 1, 1, 1, 1, 1, 1, 1, 1, 0, 1, 0, 0, 1, 1, 0, 0, 1, 1, 0, 0]) 2 (KLoop [4, 11, 13] [2, 7, 9, 12, 67, 68, 173] [(.pointer (some za0)), (.slice zp1 zl2 zl3), (.slice zp4 zl5 zl6), (.int .i64 zn7), (.int .i64 zn8), (.int .i64 zn7), (.tuple #[])] next (KBlk 2 (KBlk 1 (KS Pg W 173 rs_9 an_9 false (sub (bodyOf Try.f9) [1, 1, 1, 1, 1, 1, 1, 1, 1, 0, 1, 0, 0, 1, 1, 1]) 0 (KLoop [4, 11, 68] [2, 7, 9, 67, 173] [(.pointer (some za0)), (.slice zp1 zl2 zl3), (.slice zp4 zl5 zl6), (.int .i64 zn8), (.tuple #[])] nx0 (KBlk 0 (KS Pg W 173 rs_9 an_9 false (sub (bodyOf Try.f9) [1, 1, 1, 1, 1, 1, 1, 1, 1, 1]) 0 (fin Pg W 173 rv_9 R)))))))) (known [4, 11, 13] ys (known [2, 7, 9, 12, 67, 68, 173] [(.pointer (some za0)), (.slice zp1 zl2 zl3), (.slice zp4 zl5 zl6), (.int .i64 zn7), (.int .i64 zn8), (.int .i64 zn7), (.tuple #[])] j)) s) [(.bool b85), (.int .i64 n86), (.int .i64 n87)]
def L_law03_LotSwaps_2 (W : World) (R : Ending → Hp → Prop) (nx0 : List Value → Hp → Prop) (nx1 : List Value → Hp → Prop) (za0 : Addr) (zb1 : Bool) (zp2 : Option Addr) (zl3 : Nat) (zl4 : Nat) (zp5 : Option Addr) (zl6 : Nat) (zl7 : Nat) (zn8 : Int) (zn9 : Int) (zn10 : Int) (zn11 : Int) (zn12 : Int) (zp13 : Option Addr) (zl14 : Nat) (zl15 : Nat) (zn16 : Int) (b143 : Bool) (n144 : Int) : Hp → Prop :=
  LOOPN [.b, .i .i64] (fun ys next s => ∀ j : Tm, vc Pg W 173 rs_9 an_9 false (sub (bodyOf Try.f9) [1, 1, 1, 1, 1, 1, 1, 1, 1, 0, 1, 0, 0, 1, 1, 0, 0, 1, 1, 0, 0, 1, 0, 0, 1, 1, 1, 1, 1, 1, 1, 1, 1, 0, 1, 0, 0]) 4 (KLoop [18, 146] [2, 4, 7, 9, 11, 12, 13, 17, 67, 68, 144, 145, 173] [(.pointer (some za0)), (.bool zb1), (.slice zp2 zl3 zl4), (.slice zp5 zl6 zl7), (.int .i64 zn8), (.int .i64 zn9), (.int .i64 zn10), (.int .i64 zn11), (.int .i64 zn12), (.int .i64 zn9), (.slice zp13 zl14 zl15), (.int .i64 zn16), (.tuple #[])] next (KBlk 4 (KS Pg W 173 rs_9 an_9 false (sub (bodyOf Try.f9) [1, 1, 1, 1, 1, 1, 1, 1, 1, 0, 1, 0, 0, 1, 1, 0, 0, 1, 1, 0, 0, 1, 0, 0, 1, 1, 1, 1, 1, 1, 1, 1, 1, 1]) 3 (KBlk 3 (KS Pg W 173 rs_9 an_9 false (sub (bodyOf Try.f9) [1, 1, 1, 1, 1, 1, 1, 1, 1, 0, 1, 0, 0, 1, 1, 0, 0, 1, 1, 0, 0, 1, 1]) 2 (KLoop [4, 11, 13] [2, 7, 9, 12, 67, 68, 173] [(.pointer (some za0)), (.slice zp2 zl3 zl4), (.slice zp5 zl6 zl7), (.int .i64 zn9), (.int .i64 zn12), (.int .i64 zn9), (.tuple #[])] nx1 (KBlk 2 (KBlk 1 (KS Pg W 173 rs_9 an_9 false (sub (bodyOf Try.f9) [1, 1, 1, 1, 1, 1, 1, 1, 1, 0, 1, 0, 0, 1, 1, 1]) 0 (KLoop [4, 11, 68] [2, 7, 9, 67, 173] [(.pointer (some za0)), (.slice zp2 zl3 zl4), (.slice zp5 zl6 zl7), (.int .i64 zn12), (.tuple #[])] nx0 (KBlk 0 (KS Pg W 173 rs_9 an_9 false (sub (bodyOf Try.f9) [1, 1, 1, 1, 1, 1, 1, 1, 1, 1]) 0 (fin Pg W 173 rv_9 R))))))))))))) (known [18, 146] ys (known [2, 4, 7, 9, 11, 12, 13, 17, 67, 68, 144, 145, 173] [(.pointer (some za0)), (.bool zb1), (.slice zp2 zl3 zl4), (.slice zp5 zl6 zl7), (.int .i64 zn8), (.int .i64 zn9), (.int .i64 zn10), (.int .i64 zn11), (.int .i64 zn12), (.int .i64 zn9), (.slice zp13 zl14 zl15), (.int .i64 zn16), (.tuple #[])] j)) s) [(.bool b143), (.int .i64 n144)]
def J_law03_LotSwaps_0 (W : World) (R : Ending → Hp → Prop) (b49 : Bool) (B6 : Nat) (x43 : Option Addr) (l44 : Nat) (c45 : Nat) : Hp → Prop :=
  BR b49
    (R (.returned (.bool false)))
    (RDL (Addr.add ⟨B6, 0, none⟩ 0) fun x50 l51 c52 =>
      RDI .i64 (Addr.add ⟨B6, 0, none⟩ 1) fun n53 =>
        CALL Pg W F_lot_Swaps [(.agg #[(.slice x50 l51 c52), (.int .i64 n53)]), (.slice x43 l44 c45)]
          (fun v54 => TUP v54 fun q56 => HD q56 fun v57 r58 => TYL v57 fun x59 l60 c61 =>
            HD r58 fun v62 r63 => TYI .i64 v62 fun n64 =>
              NL r63 <|
                BR (n64 != 0)
                  (R (.returned (.bool false)))
                  (L_law03_LotSwaps_0 W R ⟨B6, 0, none⟩ x43 l44 c45 x59 l60 c61 (↑l44 : Int) false 0 0))
            (fun e55 => R (.panicked e55)))
def J_law03_LotSwaps_1 (W : World) (R : Ending → Hp → Prop) (b14 : Bool) (B6 : Nat) (n5 : Int) : Hp → Prop :=
  BR b14
    (CALL Pg W F_law03_awake []
      (fun v15 => TYB v15 fun b17 =>
        R (.returned (.bool b17)))
        (fun e16 => R (.panicked e16)))
    (RDL (Addr.add ⟨B6, 0, none⟩ 0) fun x18 l19 c20 =>
      RDI .i64 (Addr.add ⟨B6, 0, none⟩ 1) fun n21 =>
        CALL Pg W F_lot_Count [(.agg #[(.slice x18 l19 c20), (.int .i64 n21)])]
          (fun v22 => TUP v22 fun q24 => HD q24 fun v25 r26 => TYI .i64 v25 fun n27 =>
            HD r26 fun v28 r29 => TYI .i64 v28 fun n30 =>
              NL r29 <|
                BR (decide (n27 ≤ 0))
                  (BR (n27 == 0)
                    (CALL Pg W F_law03_awake []
                      (fun v31 => TYB v31 fun b33 =>
                        R (.returned (.bool b33)))
                        (fun e32 => R (.panicked e32)))
                    (R (.returned (.bool false))))
                  (RDL (Addr.add ⟨B6, 0, none⟩ 0) fun x34 l35 c36 =>
                    RDI .i64 (Addr.add ⟨B6, 0, none⟩ 1) fun n37 =>
                      NZI n27 <|
                        CALL Pg W F_lot_Nth [(.agg #[(.slice x34 l35 c36), (.int .i64 n37)]), (.int .i64 (Int.tmod (IntKind.wrap .i64 n5) n27))]
                          (fun v38 => TUP v38 fun q40 => HD q40 fun v41 r42 => TYL v41 fun x43 l44 c45 =>
                            HD r42 fun v46 r47 => TYI .i64 v46 fun n48 =>
                              NL r47 <|
                                BR (n48 != 0)
                                  (J_law03_LotSwaps_0 W R true B6 x43 l44 c45)
                                  (RDL (Addr.add ⟨B6, 0, none⟩ 0) fun x65 l66 c67 =>
                                    RDI .i64 (Addr.add ⟨B6, 0, none⟩ 1) fun n68 =>
                                      CALL Pg W F_ref03_Full [(.agg #[(.slice x65 l66 c67), (.int .i64 n68)]), (.slice x43 l44 c45)]
                                        (fun v69 => TYB v69 fun b71 =>
                                          J_law03_LotSwaps_0 W R (!b71) B6 x43 l44 c45)
                                          (fun e70 => R (.panicked e70))))
                            (fun e39 => R (.panicked e39))))
            (fun e23 => R (.panicked e23)))
def J_law03_LotSwaps_2 (W : World) (R : Ending → Hp → Prop) (b124 : Bool) (za0 : Addr) (x89 : Option Addr) (l90 : Nat) (c91 : Nat) (nx0 : List Value → Hp → Prop) (nx1 : List Value → Hp → Prop) (b85 : Bool) (zp1 : Option Addr) (zl2 : Nat) (zl3 : Nat) (zp4 : Option Addr) (zl5 : Nat) (zl6 : Nat) (n86 : Int) (zn7 : Int) (n87 : Int) (zn8 : Int) : Hp → Prop :=
  BR b124
    (R (.returned (.bool false)))
    (RDL (Addr.add za0 0) fun x125 l126 c127 =>
      RDI .i64 (Addr.add za0 1) fun n128 =>
        CALL Pg W F_lot_Swaps [(.agg #[(.slice x125 l126 c127), (.int .i64 n128)]), (.slice x89 l90 c91)]
          (fun v129 => TUP v129 fun q131 => HD q131 fun v132 r133 => TYL v132 fun x134 l135 c136 =>
            HD r133 fun v137 r138 => TYI .i64 v137 fun n139 =>
              NL r138 <|
                L_law03_LotSwaps_2 W R nx0 nx1 za0 b85 zp1 zl2 zl3 zp4 zl5 zl6 (IntKind.wrap .i64 (n86 + 1)) zn7 n87 n139 zn8 x134 l135 c136 (↑l135 : Int) false 0)
            (fun e130 => R (.panicked e130)))
def J_law03_LotSwaps_3 (W : World) (R : Ending → Hp → Prop) (b123 : Bool) (b104 : Bool) (za0 : Addr) (zp1 : Option Addr) (zl2 : Nat) (zl3 : Nat) (zp4 : Option Addr) (zl5 : Nat) (zl6 : Nat) (zn7 : Int) (zn8 : Int) (nx1 : List Value → Hp → Prop) (b85 : Bool) (n86 : Int) (n87 : Int) (x89 : Option Addr) (l90 : Nat) (c91 : Nat) (nx0 : List Value → Hp → Prop) : Hp → Prop :=
  BR b123
    (R (.returned (.bool false)))
    (BR (!b104)
      (NX [(.pointer (some za0)), (.slice zp1 zl2 zl3), (.slice zp4 zl5 zl6), (.int .i64 zn7), (.int .i64 zn8), (.int .i64 zn7), (.tuple #[])] [(.pointer (some za0)), (.slice zp1 zl2 zl3), (.slice zp4 zl5 zl6), (.int .i64 zn7), (.int .i64 zn8), (.int .i64 zn7), (.tuple #[])] (nx1 [(.bool b85), (.int .i64 n86), (.int .i64 (IntKind.wrap .i64 (n87 + 1)))]))
      (BR (decide (n86 ≥ (↑zl5 : Int)))
        (J_law03_LotSwaps_2 W R true za0 x89 l90 c91 nx0 nx1 b85 zp1 zl2 zl3 zp4 zl5 zl6 n86 zn7 n87 zn8)
        (IXS zp4 zl5 n86 2 fun a140 =>
          RDI .i64 (Addr.add a140 0) fun n141 =>
            RDI .i64 (Addr.add a140 1) fun n142 =>
              J_law03_LotSwaps_2 W R (!((n141 == zn7) && (n142 == n87))) za0 x89 l90 c91 nx0 nx1 b85 zp1 zl2 zl3 zp4 zl5 zl6 n86 zn7 n87 zn8)))
def J_law03_LotSwaps_4 (W : World) (R : Ending → Hp → Prop) (za0 : Addr) (zb1 : Bool) (zp2 : Option Addr) (zl3 : Nat) (zl4 : Nat) (zp5 : Option Addr) (zl6 : Nat) (zl7 : Nat) (zn8 : Int) (zn9 : Int) (zn10 : Int) (zn11 : Int) (zn12 : Int) (zp13 : Option Addr) (zl14 : Nat) (zl15 : Nat) (zn16 : Int) (nx2 : List Value → Hp → Prop) (b149 : Bool) (n144 : Int) : Hp → Prop :=
  NX [(.pointer (some za0)), (.bool zb1), (.slice zp2 zl3 zl4), (.slice zp5 zl6 zl7), (.int .i64 zn8), (.int .i64 zn9), (.int .i64 zn10), (.int .i64 zn11), (.int .i64 zn12), (.int .i64 zn9), (.slice zp13 zl14 zl15), (.int .i64 zn16), (.tuple #[])] [(.pointer (some za0)), (.bool zb1), (.slice zp2 zl3 zl4), (.slice zp5 zl6 zl7), (.int .i64 zn8), (.int .i64 zn9), (.int .i64 zn10), (.int .i64 zn11), (.int .i64 zn12), (.int .i64 zn9), (.slice zp13 zl14 zl15), (.int .i64 zn16), (.tuple #[])] (nx2 [(.bool b149), (.int .i64 (IntKind.wrap .i64 (n144 + 1)))])
def J_law03_LotSwaps_5 (W : World) (R : Ending → Hp → Prop) (b152 : Bool) (za0 : Addr) (zp2 : Option Addr) (zl3 : Nat) (zl4 : Nat) (zp5 : Option Addr) (zl6 : Nat) (zl7 : Nat) (zn9 : Int) (zn12 : Int) (nx1 : List Value → Hp → Prop) (zb1 : Bool) (zn8 : Int) (zn10 : Int) : Hp → Prop :=
  BR b152
    (R (.returned (.bool false)))
    (NX [(.pointer (some za0)), (.slice zp2 zl3 zl4), (.slice zp5 zl6 zl7), (.int .i64 zn9), (.int .i64 zn12), (.int .i64 zn9), (.tuple #[])] [(.pointer (some za0)), (.slice zp2 zl3 zl4), (.slice zp5 zl6 zl7), (.int .i64 zn9), (.int .i64 zn12), (.int .i64 zn9), (.tuple #[])] (nx1 [(.bool zb1), (.int .i64 zn8), (.int .i64 (IntKind.wrap .i64 (zn10 + 1)))]))
def B_law03_LotSwaps_0 (W : World) (R : Ending → Hp → Prop) (za0 : Addr) (zp1 : Option Addr) (zl2 : Nat) (zl3 : Nat) (zp4 : Option Addr) (zl5 : Nat) (zl6 : Nat) (zn7 : Int) (b79 : Bool) (n80 : Int) (n81 : Int) (nx0 : List Value → Hp → Prop) : Hp → Prop :=
  BR (decide (n81 < zn7))
    (L_law03_LotSwaps_1 W R nx0 za0 zp1 zl2 zl3 zp4 zl5 zl6 n81 zn7 b79 n80 (IntKind.wrap .i64 (n81 + 1)))
    (BR (n80 == (↑zl5 : Int))
      (CALL Pg W F_law03_awake []
        (fun v82 => TYB v82 fun b84 =>
          R (.returned (.bool b84)))
          (fun e83 => R (.panicked e83)))
      (R (.returned (.bool false))))
theorem B_law03_LotSwaps_0_eq (W : World) (R : Ending → Hp → Prop) (za0 : Addr) (zp1 : Option Addr) (zl2 : Nat) (zl3 : Nat) (zp4 : Option Addr) (zl5 : Nat) (zl6 : Nat) (zn7 : Int) (b79 : Bool) (n80 : Int) (n81 : Int) (nx0 : List Value → Hp → Prop) (j : Tm) : vc Pg W 173 rs_9 an_9 false (sub (bodyOf Try.f9) [1, 1, 1, 1, 1, 1, 1, 1, 1, 0, 1, 0, 0]) 0 (KLoop [4, 11, 68] [2, 7, 9, 67, 173] [(.pointer (some za0)), (.slice zp1 zl2 zl3), (.slice zp4 zl5 zl6), (.int .i64 zn7), (.tuple #[])] nx0 (KBlk 0 (KS Pg W 173 rs_9 an_9 false (sub (bodyOf Try.f9) [1, 1, 1, 1, 1, 1, 1, 1, 1, 1]) 0 (fin Pg W 173 rv_9 R)))) (known [4, 11, 68] [(.bool b79), (.int .i64 n80), (.int .i64 n81)] (known [2, 7, 9, 67, 173] [(.pointer (some za0)), (.slice zp1 zl2 zl3), (.slice zp4 zl5 zl6), (.int .i64 zn7), (.tuple #[])] j)) = B_law03_LotSwaps_0 W R za0 zp1 zl2 zl3 zp4 zl5 zl6 zn7 b79 n80 n81 nx0 := by kernel_rfl
def N_law03_LotSwaps_0 (I : Bool → Int → Int → Hp → Prop) (μ : Bool → Int → Int → Hp → Nat) (b790 : Bool) (n800 : Int) (n810 : Int) (s : Hp) (vs : List Value) : Hp → Prop := fun s' => ∃ b79 n80 n81, vs = [(.bool b79), (.int .i64 n80), (.int .i64 n81)] ∧ I b79 n80 n81 s' ∧ μ b79 n80 n81 s' < μ b790 n800 n810 s
theorem L_law03_LotSwaps_0_rule (W : World) (R : Ending → Hp → Prop) (za0 : Addr) (zp1 : Option Addr) (zl2 : Nat) (zl3 : Nat) (zp4 : Option Addr) (zl5 : Nat) (zl6 : Nat) (zn7 : Int) (I : Bool → Int → Int → Hp → Prop) (μ : Bool → Int → Int → Hp → Nat) (b790 : Bool) (n800 : Int) (n810 : Int) (s : Hp) (h0 : I b790 n800 n810 s)
    (hr : ∀ (b79 : Bool) (n80 : Int) (n81 : Int) (s : Hp), I b79 n80 n81 s → B_law03_LotSwaps_0 W R za0 zp1 zl2 zl3 zp4 zl5 zl6 zn7 b79 n80 n81 (fun vs => N_law03_LotSwaps_0 I μ b79 n80 n81 s vs) s) : L_law03_LotSwaps_0 W R za0 zp1 zl2 zl3 zp4 zl5 zl6 zn7 b790 n800 n810 s := by
  refine ⟨fun vs s => ∃ b79 n80 n81, vs = [(.bool b79), (.int .i64 n80), (.int .i64 n81)] ∧ I b79 n80 n81 s, fun vs s => (match vs with | [.bool b79, .int _ n80, .int _ n81] => μ b79 n80 n81 s | _ => 0), ⟨⟨⟨_, rfl⟩, ⟨⟨_, rfl⟩, ⟨⟨_, rfl⟩, trivial⟩⟩⟩, ⟨_, _, _, rfl, h0⟩⟩, ?_⟩
  intro b79 n80 n81 s hI j
  obtain ⟨b79', n80', n81', hy, hI⟩ := hI
  have hI' : I b79 n80 n81 s := by cases hy; exact hI
  have hh := hr b79 n80 n81 s hI'
  rw [← B_law03_LotSwaps_0_eq W R za0 zp1 zl2 zl3 zp4 zl5 zl6 zn7 b79 n80 n81 _ j] at hh
  refine vc_mono ?_ _ _ hh
  exact KLoop_mono (fun vs s' h => by obtain ⟨b791, n801, n811, rfl, h1, h2⟩ := h; exact ⟨⟨⟨_, rfl⟩, ⟨⟨_, rfl⟩, ⟨⟨_, rfl⟩, trivial⟩⟩⟩, ⟨_, _, _, rfl, h1⟩, h2⟩)
def B_law03_LotSwaps_1 (W : World) (R : Ending → Hp → Prop) (nx0 : List Value → Hp → Prop) (za0 : Addr) (zp1 : Option Addr) (zl2 : Nat) (zl3 : Nat) (zp4 : Option Addr) (zl5 : Nat) (zl6 : Nat) (zn7 : Int) (zn8 : Int) (b85 : Bool) (n86 : Int) (n87 : Int) (nx1 : List Value → Hp → Prop) : Hp → Prop :=
  BR (decide (n87 < (↑zl2 : Int)))
    (NEW 3 [] fun B88 =>
      APP Pg 3 1 (some ⟨B88, 0, none⟩) 0 0 zp1 zl2 fun x89 l90 c91 =>
        IXS zp1 zl2 n87 1 fun a92 =>
          RDI .i64 a92 fun n93 =>
            IXS zp1 zl2 zn7 1 fun a94 =>
              RDI .i64 a94 fun n95 =>
                IXS x89 l90 zn7 1 fun a96 =>
                  WR (Addr.add a96 0) (.int .i64 n93) <|
                    IXS x89 l90 n87 1 fun a97 =>
                      WR (Addr.add a97 0) (.int .i64 n95) <|
                        RDL (Addr.add za0 0) fun x98 l99 c100 =>
                          RDI .i64 (Addr.add za0 1) fun n101 =>
                            CALL Pg W F_law03_lawful [(.agg #[(.slice x98 l99 c100), (.int .i64 n101)]), (.slice x89 l90 c91)]
                              (fun v102 => TYB v102 fun b104 =>
                                RDL (Addr.add za0 0) fun x105 l106 c107 =>
                                  IXS zp1 zl2 zn7 1 fun a108 =>
                                    RDI .i64 a108 fun n109 =>
                                      IXS x105 l106 n109 3 fun a110 =>
                                        RDI .i64 (Addr.add a110 0) fun n111 =>
                                          RDB (Addr.add a110 1) fun b112 =>
                                            RDB (Addr.add a110 2) fun b113 =>
                                              RDL (Addr.add za0 0) fun x114 l115 c116 =>
                                                IXS zp1 zl2 n87 1 fun a117 =>
                                                  RDI .i64 a117 fun n118 =>
                                                    IXS x114 l115 n118 3 fun a119 =>
                                                      RDI .i64 (Addr.add a119 0) fun n120 =>
                                                        RDB (Addr.add a119 1) fun b121 =>
                                                          RDB (Addr.add a119 2) fun b122 =>
                                                            BR ((n111 == n120) && ((b112 == b121) && (b113 == b122)))
                                                              (J_law03_LotSwaps_3 W R (!b104) b104 za0 zp1 zl2 zl3 zp4 zl5 zl6 zn7 zn8 nx1 b85 n86 n87 x89 l90 c91 nx0)
                                                              (J_law03_LotSwaps_3 W R false b104 za0 zp1 zl2 zl3 zp4 zl5 zl6 zn7 zn8 nx1 b85 n86 n87 x89 l90 c91 nx0))
                                (fun e103 => R (.panicked e103)))
    (NX [(.pointer (some za0)), (.slice zp1 zl2 zl3), (.slice zp4 zl5 zl6), (.int .i64 zn8), (.tuple #[])] [(.pointer (some za0)), (.slice zp1 zl2 zl3), (.slice zp4 zl5 zl6), (.int .i64 zn8), (.tuple #[])] (nx0 [(.bool b85), (.int .i64 n86), (.int .i64 (IntKind.wrap .i64 (zn7 + 1)))]))
theorem B_law03_LotSwaps_1_eq (W : World) (R : Ending → Hp → Prop) (nx0 : List Value → Hp → Prop) (za0 : Addr) (zp1 : Option Addr) (zl2 : Nat) (zl3 : Nat) (zp4 : Option Addr) (zl5 : Nat) (zl6 : Nat) (zn7 : Int) (zn8 : Int) (b85 : Bool) (n86 : Int) (n87 : Int) (nx1 : List Value → Hp → Prop) (j : Tm) : vc Pg W 173 rs_9 an_9 false (sub (bodyOf Try.f9) [1, 1, 1, 1, 1, 1, 1, 1, 1, 0, 1, 0, 0, 1, 1, 0, 0, 1, 1, 0, 0]) 2 (KLoop [4, 11, 13] [2, 7, 9, 12, 67, 68, 173] [(.pointer (some za0)), (.slice zp1 zl2 zl3), (.slice zp4 zl5 zl6), (.int .i64 zn7), (.int .i64 zn8), (.int .i64 zn7), (.tuple #[])] nx1 (KBlk 2 (KBlk 1 (KS Pg W 173 rs_9 an_9 false (sub (bodyOf Try.f9) [1, 1, 1, 1, 1, 1, 1, 1, 1, 0, 1, 0, 0, 1, 1, 1]) 0 (KLoop [4, 11, 68] [2, 7, 9, 67, 173] [(.pointer (some za0)), (.slice zp1 zl2 zl3), (.slice zp4 zl5 zl6), (.int .i64 zn8), (.tuple #[])] nx0 (KBlk 0 (KS Pg W 173 rs_9 an_9 false (sub (bodyOf Try.f9) [1, 1, 1, 1, 1, 1, 1, 1, 1, 1]) 0 (fin Pg W 173 rv_9 R)))))))) (known [4, 11, 13] [(.bool b85), (.int .i64 n86), (.int .i64 n87)] (known [2, 7, 9, 12, 67, 68, 173] [(.pointer (some za0)), (.slice zp1 zl2 zl3), (.slice zp4 zl5 zl6), (.int .i64 zn7), (.int .i64 zn8), (.int .i64 zn7), (.tuple #[])] j)) = B_law03_LotSwaps_1 W R nx0 za0 zp1 zl2 zl3 zp4 zl5 zl6 zn7 zn8 b85 n86 n87 nx1 := by kernel_rfl
def N_law03_LotSwaps_1 (I : Bool → Int → Int → Hp → Prop) (μ : Bool → Int → Int → Hp → Nat) (b850 : Bool) (n860 : Int) (n870 : Int) (s : Hp) (vs : List Value) : Hp → Prop := fun s' => ∃ b85 n86 n87, vs = [(.bool b85), (.int .i64 n86), (.int .i64 n87)] ∧ I b85 n86 n87 s' ∧ μ b85 n86 n87 s' < μ b850 n860 n870 s
theorem L_law03_LotSwaps_1_rule (W : World) (R : Ending → Hp → Prop) (nx0 : List Value → Hp → Prop) (za0 : Addr) (zp1 : Option Addr) (zl2 : Nat) (zl3 : Nat) (zp4 : Option Addr) (zl5 : Nat) (zl6 : Nat) (zn7 : Int) (zn8 : Int) (I : Bool → Int → Int → Hp → Prop) (μ : Bool → Int → Int → Hp → Nat) (b850 : Bool) (n860 : Int) (n870 : Int) (s : Hp) (h0 : I b850 n860 n870 s)
    (hr : ∀ (b85 : Bool) (n86 : Int) (n87 : Int) (s : Hp), I b85 n86 n87 s → B_law03_LotSwaps_1 W R nx0 za0 zp1 zl2 zl3 zp4 zl5 zl6 zn7 zn8 b85 n86 n87 (fun vs => N_law03_LotSwaps_1 I μ b85 n86 n87 s vs) s) : L_law03_LotSwaps_1 W R nx0 za0 zp1 zl2 zl3 zp4 zl5 zl6 zn7 zn8 b850 n860 n870 s := by
  refine ⟨fun vs s => ∃ b85 n86 n87, vs = [(.bool b85), (.int .i64 n86), (.int .i64 n87)] ∧ I b85 n86 n87 s, fun vs s => (match vs with | [.bool b85, .int _ n86, .int _ n87] => μ b85 n86 n87 s | _ => 0), ⟨⟨⟨_, rfl⟩, ⟨⟨_, rfl⟩, ⟨⟨_, rfl⟩, trivial⟩⟩⟩, ⟨_, _, _, rfl, h0⟩⟩, ?_⟩
  intro b85 n86 n87 s hI j
  obtain ⟨b85', n86', n87', hy, hI⟩ := hI
  have hI' : I b85 n86 n87 s := by cases hy; exact hI
  have hh := hr b85 n86 n87 s hI'
  rw [← B_law03_LotSwaps_1_eq W R nx0 za0 zp1 zl2 zl3 zp4 zl5 zl6 zn7 zn8 b85 n86 n87 _ j] at hh
  refine vc_mono ?_ _ _ hh
  exact KLoop_mono (fun vs s' h => by obtain ⟨b851, n861, n871, rfl, h1, h2⟩ := h; exact ⟨⟨⟨_, rfl⟩, ⟨⟨_, rfl⟩, ⟨⟨_, rfl⟩, trivial⟩⟩⟩, ⟨_, _, _, rfl, h1⟩, h2⟩)
def B_law03_LotSwaps_2 (W : World) (R : Ending → Hp → Prop) (nx0 : List Value → Hp → Prop) (nx1 : List Value → Hp → Prop) (za0 : Addr) (zb1 : Bool) (zp2 : Option Addr) (zl3 : Nat) (zl4 : Nat) (zp5 : Option Addr) (zl6 : Nat) (zl7 : Nat) (zn8 : Int) (zn9 : Int) (zn10 : Int) (zn11 : Int) (zn12 : Int) (zp13 : Option Addr) (zl14 : Nat) (zl15 : Nat) (zn16 : Int) (b143 : Bool) (n144 : Int) (nx2 : List Value → Hp → Prop) : Hp → Prop :=
  BR (decide (n144 < zn16))
    (IXS zp13 zl14 n144 2 fun a145 =>
      RDI .i64 (Addr.add a145 0) fun n146 =>
        RDI .i64 (Addr.add a145 1) fun n147 =>
          NEWZ Pg 57 fun B148 =>
            WR (Addr.add ⟨B148, 0, none⟩ 0) (.int .i64 n146) <|
              WR (Addr.add ⟨B148, 0, none⟩ 1) (.int .i64 n147) <|
                BR b143
                  (J_law03_LotSwaps_4 W R za0 zb1 zp2 zl3 zl4 zp5 zl6 zl7 zn8 zn9 zn10 zn11 zn12 zp13 zl14 zl15 zn16 nx2 true n144)
                  (RDI .i64 (Addr.add ⟨B148, 0, none⟩ 0) fun n150 =>
                    RDI .i64 (Addr.add ⟨B148, 0, none⟩ 1) fun n151 =>
                      J_law03_LotSwaps_4 W R za0 zb1 zp2 zl3 zl4 zp5 zl6 zl7 zn8 zn9 zn10 zn11 zn12 zp13 zl14 zl15 zn16 nx2 ((n150 == zn9) && (n151 == zn10)) n144))
    (BR (zn11 != 0)
      (J_law03_LotSwaps_5 W R true za0 zp2 zl3 zl4 zp5 zl6 zl7 zn9 zn12 nx1 zb1 zn8 zn10)
      (J_law03_LotSwaps_5 W R (!b143) za0 zp2 zl3 zl4 zp5 zl6 zl7 zn9 zn12 nx1 zb1 zn8 zn10))
theorem B_law03_LotSwaps_2_eq (W : World) (R : Ending → Hp → Prop) (nx0 : List Value → Hp → Prop) (nx1 : List Value → Hp → Prop) (za0 : Addr) (zb1 : Bool) (zp2 : Option Addr) (zl3 : Nat) (zl4 : Nat) (zp5 : Option Addr) (zl6 : Nat) (zl7 : Nat) (zn8 : Int) (zn9 : Int) (zn10 : Int) (zn11 : Int) (zn12 : Int) (zp13 : Option Addr) (zl14 : Nat) (zl15 : Nat) (zn16 : Int) (b143 : Bool) (n144 : Int) (nx2 : List Value → Hp → Prop) (j : Tm) : vc Pg W 173 rs_9 an_9 false (sub (bodyOf Try.f9) [1, 1, 1, 1, 1, 1, 1, 1, 1, 0, 1, 0, 0, 1, 1, 0, 0, 1, 1, 0, 0, 1, 0, 0, 1, 1, 1, 1, 1, 1, 1, 1, 1, 0, 1, 0, 0]) 4 (KLoop [18, 146] [2, 4, 7, 9, 11, 12, 13, 17, 67, 68, 144, 145, 173] [(.pointer (some za0)), (.bool zb1), (.slice zp2 zl3 zl4), (.slice zp5 zl6 zl7), (.int .i64 zn8), (.int .i64 zn9), (.int .i64 zn10), (.int .i64 zn11), (.int .i64 zn12), (.int .i64 zn9), (.slice zp13 zl14 zl15), (.int .i64 zn16), (.tuple #[])] nx2 (KBlk 4 (KS Pg W 173 rs_9 an_9 false (sub (bodyOf Try.f9) [1, 1, 1, 1, 1, 1, 1, 1, 1, 0, 1, 0, 0, 1, 1, 0, 0, 1, 1, 0, 0, 1, 0, 0, 1, 1, 1, 1, 1, 1, 1, 1, 1, 1]) 3 (KBlk 3 (KS Pg W 173 rs_9 an_9 false (sub (bodyOf Try.f9) [1, 1, 1, 1, 1, 1, 1, 1, 1, 0, 1, 0, 0, 1, 1, 0, 0, 1, 1, 0, 0, 1, 1]) 2 (KLoop [4, 11, 13] [2, 7, 9, 12, 67, 68, 173] [(.pointer (some za0)), (.slice zp2 zl3 zl4), (.slice zp5 zl6 zl7), (.int .i64 zn9), (.int .i64 zn12), (.int .i64 zn9), (.tuple #[])] nx1 (KBlk 2 (KBlk 1 (KS Pg W 173 rs_9 an_9 false (sub (bodyOf Try.f9) [1, 1, 1, 1, 1, 1, 1, 1, 1, 0, 1, 0, 0, 1, 1, 1]) 0 (KLoop [4, 11, 68] [2, 7, 9, 67, 173] [(.pointer (some za0)), (.slice zp2 zl3 zl4), (.slice zp5 zl6 zl7), (.int .i64 zn12), (.tuple #[])] nx0 (KBlk 0 (KS Pg W 173 rs_9 an_9 false (sub (bodyOf Try.f9) [1, 1, 1, 1, 1, 1, 1, 1, 1, 1]) 0 (fin Pg W 173 rv_9 R))))))))))))) (known [18, 146] [(.bool b143), (.int .i64 n144)] (known [2, 4, 7, 9, 11, 12, 13, 17, 67, 68, 144, 145, 173] [(.pointer (some za0)), (.bool zb1), (.slice zp2 zl3 zl4), (.slice zp5 zl6 zl7), (.int .i64 zn8), (.int .i64 zn9), (.int .i64 zn10), (.int .i64 zn11), (.int .i64 zn12), (.int .i64 zn9), (.slice zp13 zl14 zl15), (.int .i64 zn16), (.tuple #[])] j)) = B_law03_LotSwaps_2 W R nx0 nx1 za0 zb1 zp2 zl3 zl4 zp5 zl6 zl7 zn8 zn9 zn10 zn11 zn12 zp13 zl14 zl15 zn16 b143 n144 nx2 := by kernel_rfl
def N_law03_LotSwaps_2 (I : Bool → Int → Hp → Prop) (μ : Bool → Int → Hp → Nat) (b1430 : Bool) (n1440 : Int) (s : Hp) (vs : List Value) : Hp → Prop := fun s' => ∃ b143 n144, vs = [(.bool b143), (.int .i64 n144)] ∧ I b143 n144 s' ∧ μ b143 n144 s' < μ b1430 n1440 s
theorem L_law03_LotSwaps_2_rule (W : World) (R : Ending → Hp → Prop) (nx0 : List Value → Hp → Prop) (nx1 : List Value → Hp → Prop) (za0 : Addr) (zb1 : Bool) (zp2 : Option Addr) (zl3 : Nat) (zl4 : Nat) (zp5 : Option Addr) (zl6 : Nat) (zl7 : Nat) (zn8 : Int) (zn9 : Int) (zn10 : Int) (zn11 : Int) (zn12 : Int) (zp13 : Option Addr) (zl14 : Nat) (zl15 : Nat) (zn16 : Int) (I : Bool → Int → Hp → Prop) (μ : Bool → Int → Hp → Nat) (b1430 : Bool) (n1440 : Int) (s : Hp) (h0 : I b1430 n1440 s)
    (hr : ∀ (b143 : Bool) (n144 : Int) (s : Hp), I b143 n144 s → B_law03_LotSwaps_2 W R nx0 nx1 za0 zb1 zp2 zl3 zl4 zp5 zl6 zl7 zn8 zn9 zn10 zn11 zn12 zp13 zl14 zl15 zn16 b143 n144 (fun vs => N_law03_LotSwaps_2 I μ b143 n144 s vs) s) : L_law03_LotSwaps_2 W R nx0 nx1 za0 zb1 zp2 zl3 zl4 zp5 zl6 zl7 zn8 zn9 zn10 zn11 zn12 zp13 zl14 zl15 zn16 b1430 n1440 s := by
  refine ⟨fun vs s => ∃ b143 n144, vs = [(.bool b143), (.int .i64 n144)] ∧ I b143 n144 s, fun vs s => (match vs with | [.bool b143, .int _ n144] => μ b143 n144 s | _ => 0), ⟨⟨⟨_, rfl⟩, ⟨⟨_, rfl⟩, trivial⟩⟩, ⟨_, _, rfl, h0⟩⟩, ?_⟩
  intro b143 n144 s hI j
  obtain ⟨b143', n144', hy, hI⟩ := hI
  have hI' : I b143 n144 s := by cases hy; exact hI
  have hh := hr b143 n144 s hI'
  rw [← B_law03_LotSwaps_2_eq W R nx0 nx1 za0 zb1 zp2 zl3 zl4 zp5 zl6 zl7 zn8 zn9 zn10 zn11 zn12 zp13 zl14 zl15 zn16 b143 n144 _ j] at hh
  refine vc_mono ?_ _ _ hh
  exact KLoop_mono (fun vs s' h => by obtain ⟨b1431, n1441, rfl, h1, h2⟩ := h; exact ⟨⟨⟨_, rfl⟩, ⟨⟨_, rfl⟩, trivial⟩⟩, ⟨_, _, rfl, h1⟩, h2⟩)
def T_law03_LotSwaps (W : World) (x1 : Option Addr) (l2 : Nat) (c3 : Nat) (n4 : Int) (n5 : Int) (R : Ending → Hp → Prop) : Hp → Prop :=
  NEW 24 [(.slice x1 l2 c3), (.int .i64 n4)] fun B6 =>
    RDL (Addr.add ⟨B6, 0, none⟩ 0) fun x7 l8 c9 =>
      RDI .i64 (Addr.add ⟨B6, 0, none⟩ 1) fun n10 =>
        CALL Pg W F_law03_far [(.agg #[(.slice x7 l8 c9), (.int .i64 n10)]), (.slice none 0 0), (.int .i64 8)]
          (fun v11 => TYB v11 fun b13 =>
            BR b13
              (J_law03_LotSwaps_1 W R true B6 n5)
              (RDL (Addr.add ⟨B6, 0, none⟩ 0) fun x72 l73 c74 =>
                RDI .i64 (Addr.add ⟨B6, 0, none⟩ 1) fun n75 =>
                  CALL Pg W F_ref03_Lots [(.agg #[(.slice x72 l73 c74), (.int .i64 n75)])]
                    (fun v76 => TYB v76 fun b78 =>
                      J_law03_LotSwaps_1 W R (!b78) B6 n5)
                      (fun e77 => R (.panicked e77))))
            (fun e12 => R (.panicked e12))
theorem T_law03_LotSwaps_eq (W : World) (x1 : Option Addr) (l2 : Nat) (c3 : Nat) (n4 : Int) (n5 : Int) (R : Ending → Hp → Prop) : vfun Pg W an_9 Try.f9 [(.agg #[(.slice x1 l2 c3), (.int .i64 n4)]), (.int .u16 n5)] R = T_law03_LotSwaps W x1 l2 c3 n4 n5 R := by kernel_rfl
theorem does_law03_LotSwaps (W : World) (x1 : Option Addr) (l2 : Nat) (c3 : Nat) (n4 : Int) (n5 : Int) (R : Ending → Hp → Prop) (s : Hp) (h : T_law03_LotSwaps W x1 l2 c3 n4 n5 R s) : Does Pg W F_law03_LotSwaps #[(.agg #[(.slice x1 l2 c3), (.int .i64 n4)]), (.int .u16 n5)] s R :=
  does_of_vfun Pg W an_9 Try.func9 rfl (by kernel_rfl) (by rw [T_law03_LotSwaps_eq]; exact h)
def an_10 : Nat → Ann := fun b => match b with
  | 0 => { ms := [4, 102], ks := [.b, .i .i64], us := [5, 6, 12, 13, 101, 133], rt := false, ex := [] }
  | _ => {}
abbrev rv_10 : List ResultVar := [.tmp 4]
abbrev rs_10 : List Nat := [133, 4]
def L_law03_LotLeast_0 (W : World) (R : Ending → Hp → Prop) (zn0 : Int) (zp1 : Option Addr) (zl2 : Nat) (zl3 : Nat) (zp4 : Option Addr) (zl5 : Nat) (zl6 : Nat) (zn7 : Int) (zn8 : Int) (b111 : Bool) (n112 : Int) : Hp → Prop :=
  LOOPN [.b, .i .i64] (fun ys next s => ∀ j : Tm, vc Pg W 133 rs_10 an_10 false (sub (bodyOf Try.f10) [1, 1, 1, 1, 1, 1, 1, 1, 1, 1, 1, 0, 1, 0, 0]) 0 (KLoop [4, 102] [5, 6, 12, 13, 101, 133] [(.int .i64 zn0), (.slice zp1 zl2 zl3), (.slice zp4 zl5 zl6), (.int .i64 zn7), (.int .i64 zn8), (.tuple #[])] next (KBlk 0 (KS Pg W 133 rs_10 an_10 false (sub (bodyOf Try.f10) [1, 1, 1, 1, 1, 1, 1, 1, 1, 1, 1, 1]) 0 (fin Pg W 133 rv_10 R)))) (known [4, 102] ys (known [5, 6, 12, 13, 101, 133] [(.int .i64 zn0), (.slice zp1 zl2 zl3), (.slice zp4 zl5 zl6), (.int .i64 zn7), (.int .i64 zn8), (.tuple #[])] j)) s) [(.bool b111), (.int .i64 n112)]
def J_law03_LotLeast_0 (W : World) (R : Ending → Hp → Prop) (b78 : Bool) (B8 : Nat) (x5 : Option Addr) (l6 : Nat) (c7 : Nat) (n28 : Int) (x31 : Option Addr) (l32 : Nat) (c33 : Nat) : Hp → Prop :=
  BR b78
    (R (.returned (.bool false)))
    (RDL (Addr.add ⟨B8, 0, none⟩ 0) fun x79 l80 c81 =>
      CALL Pg W F_law03_made [(.int .i64 (↑l80 : Int)), (.slice x5 l6 c7)]
        (fun v82 => TYL v82 fun x84 l85 c86 =>
          RDL (Addr.add ⟨B8, 0, none⟩ 0) fun x87 l88 c89 =>
            RDI .i64 (Addr.add ⟨B8, 0, none⟩ 1) fun n90 =>
              CALL Pg W F_law03_rules [(.agg #[(.slice x87 l88 c89), (.int .i64 n90)]), (.slice x84 l85 c86)]
                (fun v91 => TYI .i64 v91 fun n93 =>
                  BR (decide (n93 < n28))
                    (R (.returned (.bool false)))
                    (L_law03_LotLeast_0 W R n28 x31 l32 c33 x84 l85 c86 n93 (↑l85 : Int) false 0))
                  (fun e92 => R (.panicked e92)))
          (fun e83 => R (.panicked e83)))
def J_law03_LotLeast_1 (W : World) (R : Ending → Hp → Prop) (b77 : Bool) (B8 : Nat) (x5 : Option Addr) (l6 : Nat) (c7 : Nat) (n28 : Int) (x31 : Option Addr) (l32 : Nat) (c33 : Nat) (n76 : Int) (x71 : Option Addr) (l72 : Nat) (c73 : Nat) : Hp → Prop :=
  BR b77
    (J_law03_LotLeast_0 W R true B8 x5 l6 c7 n28 x31 l32 c33)
    (BR (n28 == 0)
      (BR (n76 != 0)
        (J_law03_LotLeast_0 W R true B8 x5 l6 c7 n28 x31 l32 c33)
        (CALL Pg W F_ref03_Ints [(.slice x71 l72 c73), (.slice x31 l32 c33)]
          (fun v94 => TYB v94 fun b96 =>
            J_law03_LotLeast_0 W R (!b96) B8 x5 l6 c7 n28 x31 l32 c33)
            (fun e95 => R (.panicked e95))))
      (J_law03_LotLeast_0 W R false B8 x5 l6 c7 n28 x31 l32 c33))
def J_law03_LotLeast_2 (W : World) (R : Ending → Hp → Prop) (b48 : Bool) (B8 : Nat) (x5 : Option Addr) (l6 : Nat) (c7 : Nat) (n28 : Int) (x31 : Option Addr) (l32 : Nat) (c33 : Nat) : Hp → Prop :=
  BR b48
    (R (.returned (.bool false)))
    (RDL (Addr.add ⟨B8, 0, none⟩ 0) fun x49 l50 c51 =>
      RDI .i64 (Addr.add ⟨B8, 0, none⟩ 1) fun n52 =>
        CALL Pg W F_lot_Count [(.agg #[(.slice x49 l50 c51), (.int .i64 n52)])]
          (fun v53 => TUP v53 fun q55 => HD q55 fun v56 r57 => TYI .i64 v56 fun n58 =>
            HD r57 fun v59 r60 => TYI .i64 v59 fun n61 =>
              NL r60 <|
                RDL (Addr.add ⟨B8, 0, none⟩ 0) fun x62 l63 c64 =>
                  RDI .i64 (Addr.add ⟨B8, 0, none⟩ 1) fun n65 =>
                    CALL Pg W F_lot_Nth [(.agg #[(.slice x62 l63 c64), (.int .i64 n65)]), (.int .i64 0)]
                      (fun v66 => TUP v66 fun q68 => HD q68 fun v69 r70 => TYL v69 fun x71 l72 c73 =>
                        HD r70 fun v74 r75 => TYI .i64 v74 fun n76 =>
                          NL r75 <|
                            BR (n61 != 0)
                              (J_law03_LotLeast_1 W R true B8 x5 l6 c7 n28 x31 l32 c33 n76 x71 l72 c73)
                              (J_law03_LotLeast_1 W R (!((n28 == 0) == (decide (n58 > 0)))) B8 x5 l6 c7 n28 x31 l32 c33 n76 x71 l72 c73))
                        (fun e67 => R (.panicked e67)))
            (fun e54 => R (.panicked e54)))
def J_law03_LotLeast_3 (W : World) (R : Ending → Hp → Prop) (b47 : Bool) (B8 : Nat) (x5 : Option Addr) (l6 : Nat) (c7 : Nat) (n28 : Int) (x31 : Option Addr) (l32 : Nat) (c33 : Nat) : Hp → Prop :=
  BR b47
    (J_law03_LotLeast_2 W R true B8 x5 l6 c7 n28 x31 l32 c33)
    (RDL (Addr.add ⟨B8, 0, none⟩ 0) fun x97 l98 c99 =>
      RDI .i64 (Addr.add ⟨B8, 0, none⟩ 1) fun n100 =>
        CALL Pg W F_law03_rules [(.agg #[(.slice x97 l98 c99), (.int .i64 n100)]), (.slice x31 l32 c33)]
          (fun v101 => TYI .i64 v101 fun n103 =>
            J_law03_LotLeast_2 W R (n103 != n28) B8 x5 l6 c7 n28 x31 l32 c33)
            (fun e102 => R (.panicked e102)))
def B_law03_LotLeast_0 (W : World) (R : Ending → Hp → Prop) (zn0 : Int) (zp1 : Option Addr) (zl2 : Nat) (zl3 : Nat) (zp4 : Option Addr) (zl5 : Nat) (zl6 : Nat) (zn7 : Int) (zn8 : Int) (b111 : Bool) (n112 : Int) (nx0 : List Value → Hp → Prop) : Hp → Prop :=
  BR (decide (n112 < zn8))
    (IXS zp4 zl5 n112 1 fun a113 =>
      RDI .i64 a113 fun n114 =>
        IXS zp1 zl2 n112 1 fun a115 =>
          RDI .i64 a115 fun n116 =>
            BR (n114 != n116)
              (BR (decide (zn7 > zn0))
                (CALL Pg W F_law03_awake []
                  (fun v117 => TYB v117 fun b119 =>
                    R (.returned (.bool b119)))
                    (fun e118 => R (.panicked e118)))
                (IXS zp4 zl5 n112 1 fun a120 =>
                  RDI .i64 a120 fun n121 =>
                    IXS zp1 zl2 n112 1 fun a122 =>
                      RDI .i64 a122 fun n123 =>
                        BR (decide (n121 > n123))
                          (CALL Pg W F_law03_awake []
                            (fun v124 => TYB v124 fun b126 =>
                              R (.returned (.bool b126)))
                              (fun e125 => R (.panicked e125)))
                          (R (.returned (.bool false)))))
              (NX [(.int .i64 zn0), (.slice zp1 zl2 zl3), (.slice zp4 zl5 zl6), (.int .i64 zn7), (.int .i64 zn8), (.tuple #[])] [(.int .i64 zn0), (.slice zp1 zl2 zl3), (.slice zp4 zl5 zl6), (.int .i64 zn7), (.int .i64 zn8), (.tuple #[])] (nx0 [(.bool b111), (.int .i64 (IntKind.wrap .i64 (n112 + 1)))])))
    (CALL Pg W F_law03_awake []
      (fun v127 => TYB v127 fun b129 =>
        R (.returned (.bool b129)))
        (fun e128 => R (.panicked e128)))
theorem B_law03_LotLeast_0_eq (W : World) (R : Ending → Hp → Prop) (zn0 : Int) (zp1 : Option Addr) (zl2 : Nat) (zl3 : Nat) (zp4 : Option Addr) (zl5 : Nat) (zl6 : Nat) (zn7 : Int) (zn8 : Int) (b111 : Bool) (n112 : Int) (nx0 : List Value → Hp → Prop) (j : Tm) : vc Pg W 133 rs_10 an_10 false (sub (bodyOf Try.f10) [1, 1, 1, 1, 1, 1, 1, 1, 1, 1, 1, 0, 1, 0, 0]) 0 (KLoop [4, 102] [5, 6, 12, 13, 101, 133] [(.int .i64 zn0), (.slice zp1 zl2 zl3), (.slice zp4 zl5 zl6), (.int .i64 zn7), (.int .i64 zn8), (.tuple #[])] nx0 (KBlk 0 (KS Pg W 133 rs_10 an_10 false (sub (bodyOf Try.f10) [1, 1, 1, 1, 1, 1, 1, 1, 1, 1, 1, 1]) 0 (fin Pg W 133 rv_10 R)))) (known [4, 102] [(.bool b111), (.int .i64 n112)] (known [5, 6, 12, 13, 101, 133] [(.int .i64 zn0), (.slice zp1 zl2 zl3), (.slice zp4 zl5 zl6), (.int .i64 zn7), (.int .i64 zn8), (.tuple #[])] j)) = B_law03_LotLeast_0 W R zn0 zp1 zl2 zl3 zp4 zl5 zl6 zn7 zn8 b111 n112 nx0 := by kernel_rfl
def N_law03_LotLeast_0 (I : Bool → Int → Hp → Prop) (μ : Bool → Int → Hp → Nat) (b1110 : Bool) (n1120 : Int) (s : Hp) (vs : List Value) : Hp → Prop := fun s' => ∃ b111 n112, vs = [(.bool b111), (.int .i64 n112)] ∧ I b111 n112 s' ∧ μ b111 n112 s' < μ b1110 n1120 s
theorem L_law03_LotLeast_0_rule (W : World) (R : Ending → Hp → Prop) (zn0 : Int) (zp1 : Option Addr) (zl2 : Nat) (zl3 : Nat) (zp4 : Option Addr) (zl5 : Nat) (zl6 : Nat) (zn7 : Int) (zn8 : Int) (I : Bool → Int → Hp → Prop) (μ : Bool → Int → Hp → Nat) (b1110 : Bool) (n1120 : Int) (s : Hp) (h0 : I b1110 n1120 s)
    (hr : ∀ (b111 : Bool) (n112 : Int) (s : Hp), I b111 n112 s → B_law03_LotLeast_0 W R zn0 zp1 zl2 zl3 zp4 zl5 zl6 zn7 zn8 b111 n112 (fun vs => N_law03_LotLeast_0 I μ b111 n112 s vs) s) : L_law03_LotLeast_0 W R zn0 zp1 zl2 zl3 zp4 zl5 zl6 zn7 zn8 b1110 n1120 s := by
  refine ⟨fun vs s => ∃ b111 n112, vs = [(.bool b111), (.int .i64 n112)] ∧ I b111 n112 s, fun vs s => (match vs with | [.bool b111, .int _ n112] => μ b111 n112 s | _ => 0), ⟨⟨⟨_, rfl⟩, ⟨⟨_, rfl⟩, trivial⟩⟩, ⟨_, _, rfl, h0⟩⟩, ?_⟩
  intro b111 n112 s hI j
  obtain ⟨b111', n112', hy, hI⟩ := hI
  have hI' : I b111 n112 s := by cases hy; exact hI
  have hh := hr b111 n112 s hI'
  rw [← B_law03_LotLeast_0_eq W R zn0 zp1 zl2 zl3 zp4 zl5 zl6 zn7 zn8 b111 n112 _ j] at hh
  refine vc_mono ?_ _ _ hh
  exact KLoop_mono (fun vs s' h => by obtain ⟨b1111, n1121, rfl, h1, h2⟩ := h; exact ⟨⟨⟨_, rfl⟩, ⟨⟨_, rfl⟩, trivial⟩⟩, ⟨_, _, rfl, h1⟩, h2⟩)
def T_law03_LotLeast (W : World) (x1 : Option Addr) (l2 : Nat) (c3 : Nat) (n4 : Int) (x5 : Option Addr) (l6 : Nat) (c7 : Nat) (R : Ending → Hp → Prop) : Hp → Prop :=
  NEW 24 [(.slice x1 l2 c3), (.int .i64 n4)] fun B8 =>
    RDL (Addr.add ⟨B8, 0, none⟩ 0) fun x9 l10 c11 =>
      RDI .i64 (Addr.add ⟨B8, 0, none⟩ 1) fun n12 =>
        CALL Pg W F_law03_far [(.agg #[(.slice x9 l10 c11), (.int .i64 n12)]), (.slice none 0 0), (.int .i64 8)]
          (fun v13 => TYB v13 fun b15 =>
            BR b15
              (CALL Pg W F_law03_awake []
                (fun v16 => TYB v16 fun b18 =>
                  R (.returned (.bool b18)))
                  (fun e17 => R (.panicked e17)))
              (RDL (Addr.add ⟨B8, 0, none⟩ 0) fun x19 l20 c21 =>
                RDI .i64 (Addr.add ⟨B8, 0, none⟩ 1) fun n22 =>
                  CALL Pg W F_lot_Least [(.agg #[(.slice x19 l20 c21), (.int .i64 n22)])]
                    (fun v23 => TUP v23 fun q25 => HD q25 fun v26 r27 => TYI .i64 v26 fun n28 =>
                      HD r27 fun v29 r30 => TYL v29 fun x31 l32 c33 =>
                        HD r30 fun v34 r35 => TYI .i64 v34 fun n36 =>
                          NL r35 <|
                            RDL (Addr.add ⟨B8, 0, none⟩ 0) fun x37 l38 c39 =>
                              RDI .i64 (Addr.add ⟨B8, 0, none⟩ 1) fun n40 =>
                                CALL Pg W F_ref03_Lots [(.agg #[(.slice x37 l38 c39), (.int .i64 n40)])]
                                  (fun v41 => TYB v41 fun b43 =>
                                    BR (!b43)
                                      (BR (n36 == 1)
                                        (BR (n28 == 0)
                                          (BR ((↑l32 : Int) == 0)
                                            (CALL Pg W F_law03_awake []
                                              (fun v44 => TYB v44 fun b46 =>
                                                R (.returned (.bool b46)))
                                                (fun e45 => R (.panicked e45)))
                                            (R (.returned (.bool false))))
                                          (R (.returned (.bool false))))
                                        (R (.returned (.bool false))))
                                      (BR (n36 != 0)
                                        (J_law03_LotLeast_3 W R true B8 x5 l6 c7 n28 x31 l32 c33)
                                        (RDL (Addr.add ⟨B8, 0, none⟩ 0) fun x104 l105 c106 =>
                                          RDI .i64 (Addr.add ⟨B8, 0, none⟩ 1) fun n107 =>
                                            CALL Pg W F_ref03_Full [(.agg #[(.slice x104 l105 c106), (.int .i64 n107)]), (.slice x31 l32 c33)]
                                              (fun v108 => TYB v108 fun b110 =>
                                                J_law03_LotLeast_3 W R (!b110) B8 x5 l6 c7 n28 x31 l32 c33)
                                                (fun e109 => R (.panicked e109)))))
                                    (fun e42 => R (.panicked e42)))
                      (fun e24 => R (.panicked e24))))
            (fun e14 => R (.panicked e14))
theorem T_law03_LotLeast_eq (W : World) (x1 : Option Addr) (l2 : Nat) (c3 : Nat) (n4 : Int) (x5 : Option Addr) (l6 : Nat) (c7 : Nat) (R : Ending → Hp → Prop) : vfun Pg W an_10 Try.f10 [(.agg #[(.slice x1 l2 c3), (.int .i64 n4)]), (.slice x5 l6 c7)] R = T_law03_LotLeast W x1 l2 c3 n4 x5 l6 c7 R := by kernel_rfl
theorem does_law03_LotLeast (W : World) (x1 : Option Addr) (l2 : Nat) (c3 : Nat) (n4 : Int) (x5 : Option Addr) (l6 : Nat) (c7 : Nat) (R : Ending → Hp → Prop) (s : Hp) (h : T_law03_LotLeast W x1 l2 c3 n4 x5 l6 c7 R s) : Does Pg W F_law03_LotLeast #[(.agg #[(.slice x1 l2 c3), (.int .i64 n4)]), (.slice x5 l6 c7)] s R :=
  does_of_vfun Pg W an_10 Try.func10 rfl (by kernel_rfl) (by rw [T_law03_LotLeast_eq]; exact h)
def an_11 : Nat → Ann := fun b => match b with
  | 0 => { ms := [11, 65], ks := [.l, .i .i64], us := [3, 6, 7, 8, 9, 10, 281], rt := false, ex := [] }
  | 3 => { ms := [6, 136], ks := [.b, .i .i64], us := [3, 7, 8, 9, 10, 14, 16, 19, 134, 135, 281], rt := false, ex := [] }
  | 5 => { ms := [187], ks := [.i .i64], us := [3, 6, 7, 8, 9, 10, 14, 16, 30, 186, 281], rt := false, ex := [] }
  | 7 => { ms := [6, 235], ks := [.b, .i .i64], us := [3, 10, 14, 16, 32, 33, 34, 36, 37, 38, 39, 40, 234, 281], rt := false, ex := [] }
  | _ => {}
abbrev rv_11 : List ResultVar := [.tmp 6]
abbrev rs_11 : List Nat := [281, 6]
def L_law03_LotMore_0 (W : World) (R : Ending → Hp → Prop) (za0 : Addr) (zn1 : Int) (zn2 : Int) (zn3 : Int) (zp4 : Option Addr) (zl5 : Nat) (zl6 : Nat) (x36 : Option Addr) (l37 : Nat) (c38 : Nat) (n39 : Int) : Hp → Prop :=
  LOOPN [.l, .i .i64] (fun ys next s => ∀ j : Tm, vc Pg W 281 rs_11 an_11 false (sub (bodyOf Try.f11) [1, 1, 1, 1, 1, 1, 0, 1, 0, 0]) 0 (KLoop [11, 65] [3, 6, 7, 8, 9, 10, 281] [(.pointer (some za0)), (.bool false), (.int .i64 zn1), (.int .i64 zn2), (.int .i64 zn3), (.slice zp4 zl5 zl6), (.tuple #[])] next (KBlk 0 (KS Pg W 281 rs_11 an_11 false (sub (bodyOf Try.f11) [1, 1, 1, 1, 1, 1, 1]) 0 (fin Pg W 281 rv_11 R)))) (known [11, 65] ys (known [3, 6, 7, 8, 9, 10, 281] [(.pointer (some za0)), (.bool false), (.int .i64 zn1), (.int .i64 zn2), (.int .i64 zn3), (.slice zp4 zl5 zl6), (.tuple #[])] j)) s) [(.slice x36 l37 c38), (.int .i64 n39)]
def L_law03_LotMore_1 (W : World) (R : Ending → Hp → Prop) (za0 : Addr) (zn1 : Int) (zn2 : Int) (zn3 : Int) (zp4 : Option Addr) (zl5 : Nat) (zl6 : Nat) (zn7 : Int) (zn8 : Int) (zn9 : Int) (zp10 : Option Addr) (zl11 : Nat) (zl12 : Nat) (zn13 : Int) (b119 : Bool) (n120 : Int) : Hp → Prop :=
  LOOPN [.b, .i .i64] (fun ys next s => ∀ j : Tm, vc Pg W 281 rs_11 an_11 false (sub (bodyOf Try.f11) [1, 1, 1, 1, 1, 1, 1, 1, 1, 1, 1, 0, 1, 0, 0]) 3 (KLoop [6, 136] [3, 7, 8, 9, 10, 14, 16, 19, 134, 135, 281] [(.pointer (some za0)), (.int .i64 zn1), (.int .i64 zn2), (.int .i64 zn3), (.slice zp4 zl5 zl6), (.int .i64 zn7), (.int .i64 zn8), (.int .i64 zn9), (.slice zp10 zl11 zl12), (.int .i64 zn13), (.tuple #[])] next (KBlk 3 (KS Pg W 281 rs_11 an_11 false (sub (bodyOf Try.f11) [1, 1, 1, 1, 1, 1, 1, 1, 1, 1, 1, 1]) 0 (fin Pg W 281 rv_11 R)))) (known [6, 136] ys (known [3, 7, 8, 9, 10, 14, 16, 19, 134, 135, 281] [(.pointer (some za0)), (.int .i64 zn1), (.int .i64 zn2), (.int .i64 zn3), (.slice zp4 zl5 zl6), (.int .i64 zn7), (.int .i64 zn8), (.int .i64 zn9), (.slice zp10 zl11 zl12), (.int .i64 zn13), (.tuple #[])] j)) s) [(.bool b119), (.int .i64 n120)]
def L_law03_LotMore_2 (W : World) (R : Ending → Hp → Prop) (za0 : Addr) (zb1 : Bool) (zn2 : Int) (zn3 : Int) (zn4 : Int) (zp5 : Option Addr) (zl6 : Nat) (zl7 : Nat) (zn8 : Int) (zn9 : Int) (za10 : Addr) (n181 : Int) : Hp → Prop :=
  LOOPN [.i .i64] (fun ys next s => ∀ j : Tm, vc Pg W 281 rs_11 an_11 false (sub (bodyOf Try.f11) [1, 1, 1, 1, 1, 1, 1, 1, 1, 1, 1, 1, 1, 1, 0, 1, 0, 0]) 5 (KLoop [187] [3, 6, 7, 8, 9, 10, 14, 16, 30, 186, 281] [(.pointer (some za0)), (.bool zb1), (.int .i64 zn2), (.int .i64 zn3), (.int .i64 zn4), (.slice zp5 zl6 zl7), (.int .i64 zn8), (.int .i64 zn9), (.pointer (some za10)), (.int .i64 zn2), (.tuple #[])] next (KBlk 5 (KS Pg W 281 rs_11 an_11 false (sub (bodyOf Try.f11) [1, 1, 1, 1, 1, 1, 1, 1, 1, 1, 1, 1, 1, 1, 1]) 0 (fin Pg W 281 rv_11 R)))) (known [187] ys (known [3, 6, 7, 8, 9, 10, 14, 16, 30, 186, 281] [(.pointer (some za0)), (.bool zb1), (.int .i64 zn2), (.int .i64 zn3), (.int .i64 zn4), (.slice zp5 zl6 zl7), (.int .i64 zn8), (.int .i64 zn9), (.pointer (some za10)), (.int .i64 zn2), (.tuple #[])] j)) s) [(.int .i64 n181)]
def L_law03_LotMore_3 (W : World) (R : Ending → Hp → Prop) (za0 : Addr) (zp1 : Option Addr) (zl2 : Nat) (zl3 : Nat) (zn4 : Int) (zn5 : Int) (zn6 : Int) (zn7 : Int) (zn8 : Int) (zn9 : Int) (zn10 : Int) (zn11 : Int) (zn12 : Int) (zn13 : Int) (zn14 : Int) (b241 : Bool) (n242 : Int) : Hp → Prop :=
  LOOPN [.b, .i .i64] (fun ys next s => ∀ j : Tm, vc Pg W 281 rs_11 an_11 false (sub (bodyOf Try.f11) [1, 1, 1, 1, 1, 1, 1, 1, 1, 1, 1, 1, 1, 1, 1, 1, 1, 1, 1, 0, 1, 0, 0]) 7 (KLoop [6, 235] [3, 10, 14, 16, 32, 33, 34, 36, 37, 38, 39, 40, 234, 281] [(.pointer (some za0)), (.slice zp1 zl2 zl3), (.int .i64 zn4), (.int .i64 zn5), (.int .i64 zn6), (.int .i64 zn7), (.int .i64 zn8), (.int .i64 zn9), (.int .i64 zn10), (.int .i64 zn11), (.int .i64 zn12), (.int .i64 zn13), (.int .i64 zn14), (.tuple #[])] next (KBlk 7 (KS Pg W 281 rs_11 an_11 false (sub (bodyOf Try.f11) [1, 1, 1, 1, 1, 1, 1, 1, 1, 1, 1, 1, 1, 1, 1, 1, 1, 1, 1, 1]) 0 (fin Pg W 281 rv_11 R)))) (known [6, 235] ys (known [3, 10, 14, 16, 32, 33, 34, 36, 37, 38, 39, 40, 234, 281] [(.pointer (some za0)), (.slice zp1 zl2 zl3), (.int .i64 zn4), (.int .i64 zn5), (.int .i64 zn6), (.int .i64 zn7), (.int .i64 zn8), (.int .i64 zn9), (.int .i64 zn10), (.int .i64 zn11), (.int .i64 zn12), (.int .i64 zn13), (.int .i64 zn14), (.tuple #[])] j)) s) [(.bool b241), (.int .i64 n242)]
def J_law03_LotMore_0 (W : World) (R : Ending → Hp → Prop) (b15 : Bool) (B7 : Nat) (n5 : Int) (n6 : Int) : Hp → Prop :=
  BR b15
    (CALL Pg W F_law03_awake []
      (fun v16 => TYB v16 fun b18 =>
        R (.returned (.bool b18)))
        (fun e17 => R (.panicked e17)))
    (RDL (Addr.add ⟨B7, 0, none⟩ 0) fun x19 l20 c21 =>
      NZI (↑l20 : Int) <|
        NZI (↑l20 : Int) <|
          NEW 51 [] fun B22 =>
            RDL (Addr.add ⟨B7, 0, none⟩ 0) fun x23 l24 c25 =>
              APP Pg 51 3 (some ⟨B22, 0, none⟩) 0 0 x23 l24 fun x26 l27 c28 =>
                L_law03_LotMore_0 W R ⟨B7, 0, none⟩ (↑l20 : Int) (Int.tmod (IntKind.wrap .i64 n5) (↑l20 : Int)) (Int.tmod (IntKind.wrap .i64 n6) (↑l20 : Int)) x26 l27 c28 none 0 0 0)
def J_law03_LotMore_1 (W : World) (R : Ending → Hp → Prop) (B44 : Nat) (x36 : Option Addr) (l37 : Nat) (c38 : Nat) (za0 : Addr) (zn1 : Int) (zn2 : Int) (zn3 : Int) (zp4 : Option Addr) (zl5 : Nat) (zl6 : Nat) (nx0 : List Value → Hp → Prop) (n39 : Int) : Hp → Prop :=
  RDL (Addr.add ⟨B44, 0, none⟩ 0) fun x56 l57 c58 =>
    RDI .i64 (Addr.add ⟨B44, 0, none⟩ 1) fun n59 =>
      NEW 24 [(.slice x56 l57 c58), (.int .i64 n59)] fun B60 =>
        APP Pg 24 2 x36 l37 c38 (some ⟨B60, 0, none⟩) 1 fun x61 l62 c63 =>
          NX [(.pointer (some za0)), (.bool false), (.int .i64 zn1), (.int .i64 zn2), (.int .i64 zn3), (.slice zp4 zl5 zl6), (.tuple #[])] [(.pointer (some za0)), (.bool false), (.int .i64 zn1), (.int .i64 zn2), (.int .i64 zn3), (.slice zp4 zl5 zl6), (.tuple #[])] (nx0 [(.slice x61 l62 c63), (.int .i64 (IntKind.wrap .i64 (n39 + 1)))])
def J_law03_LotMore_2 (W : World) (R : Ending → Hp → Prop) (b118 : Bool) (za0 : Addr) (zn1 : Int) (zn2 : Int) (zn3 : Int) (zp4 : Option Addr) (zl5 : Nat) (zl6 : Nat) (n82 : Int) (n95 : Int) (n113 : Int) (x36 : Option Addr) (l37 : Nat) (c38 : Nat) : Hp → Prop :=
  BR b118
    (R (.returned (.bool false)))
    (L_law03_LotMore_1 W R za0 zn1 zn2 zn3 zp4 zl5 zl6 n82 n95 n113 x36 l37 c38 (↑l37 : Int) false 0)
def J_law03_LotMore_3 (W : World) (R : Ending → Hp → Prop) (b117 : Bool) (za0 : Addr) (zn1 : Int) (zn2 : Int) (zn3 : Int) (zp4 : Option Addr) (zl5 : Nat) (zl6 : Nat) (n82 : Int) (n95 : Int) (n113 : Int) (x36 : Option Addr) (l37 : Nat) (c38 : Nat) (n116 : Int) : Hp → Prop :=
  BR b117
    (J_law03_LotMore_2 W R true za0 zn1 zn2 zn3 zp4 zl5 zl6 n82 n95 n113 x36 l37 c38)
    (J_law03_LotMore_2 W R (n116 != 0) za0 zn1 zn2 zn3 zp4 zl5 zl6 n82 n95 n113 x36 l37 c38)
def J_law03_LotMore_4 (W : World) (R : Ending → Hp → Prop) (b175 : Bool) (za0 : Addr) (zn1 : Int) (zn2 : Int) (zn3 : Int) (zp4 : Option Addr) (zl5 : Nat) (zl6 : Nat) (zn7 : Int) (zn8 : Int) (zn9 : Int) (zp10 : Option Addr) (zl11 : Nat) (zl12 : Nat) (zn13 : Int) (nx1 : List Value → Hp → Prop) (b119 : Bool) (n120 : Int) : Hp → Prop :=
  BR b175
    (R (.returned (.bool false)))
    (NX [(.pointer (some za0)), (.int .i64 zn1), (.int .i64 zn2), (.int .i64 zn3), (.slice zp4 zl5 zl6), (.int .i64 zn7), (.int .i64 zn8), (.int .i64 zn9), (.slice zp10 zl11 zl12), (.int .i64 zn13), (.tuple #[])] [(.pointer (some za0)), (.int .i64 zn1), (.int .i64 zn2), (.int .i64 zn3), (.slice zp4 zl5 zl6), (.int .i64 zn7), (.int .i64 zn8), (.int .i64 zn9), (.slice zp10 zl11 zl12), (.int .i64 zn13), (.tuple #[])] (nx1 [(.bool b119), (.int .i64 (IntKind.wrap .i64 (n120 + 1)))]))
def J_law03_LotMore_5 (W : World) (R : Ending → Hp → Prop) (b174 : Bool) (za0 : Addr) (zn1 : Int) (zn2 : Int) (zn3 : Int) (zp4 : Option Addr) (zl5 : Nat) (zl6 : Nat) (zn7 : Int) (zn8 : Int) (zn9 : Int) (zp10 : Option Addr) (zl11 : Nat) (zl12 : Nat) (zn13 : Int) (nx1 : List Value → Hp → Prop) (b119 : Bool) (n120 : Int) (n167 : Int) : Hp → Prop :=
  BR b174
    (J_law03_LotMore_4 W R true za0 zn1 zn2 zn3 zp4 zl5 zl6 zn7 zn8 zn9 zp10 zl11 zl12 zn13 nx1 b119 n120)
    (J_law03_LotMore_4 W R ((andnv .i64 zn9 n167) != 0) za0 zn1 zn2 zn3 zp4 zl5 zl6 zn7 zn8 zn9 zp10 zl11 zl12 zn13 nx1 b119 n120)
def J_law03_LotMore_6 (W : World) (R : Ending → Hp → Prop) (b173 : Bool) (za0 : Addr) (zn1 : Int) (zn2 : Int) (zn3 : Int) (zp4 : Option Addr) (zl5 : Nat) (zl6 : Nat) (zn7 : Int) (zn8 : Int) (zn9 : Int) (zp10 : Option Addr) (zl11 : Nat) (zl12 : Nat) (zn13 : Int) (nx1 : List Value → Hp → Prop) (b119 : Bool) (n120 : Int) (n167 : Int) (n149 : Int) : Hp → Prop :=
  BR b173
    (J_law03_LotMore_5 W R true za0 zn1 zn2 zn3 zp4 zl5 zl6 zn7 zn8 zn9 zp10 zl11 zl12 zn13 nx1 b119 n120 n167)
    (J_law03_LotMore_5 W R (decide (n149 > zn8)) za0 zn1 zn2 zn3 zp4 zl5 zl6 zn7 zn8 zn9 zp10 zl11 zl12 zn13 nx1 b119 n120 n167)
def J_law03_LotMore_7 (W : World) (R : Ending → Hp → Prop) (b172 : Bool) (za0 : Addr) (zn1 : Int) (zn2 : Int) (zn3 : Int) (zp4 : Option Addr) (zl5 : Nat) (zl6 : Nat) (zn7 : Int) (zn8 : Int) (zn9 : Int) (zp10 : Option Addr) (zl11 : Nat) (zl12 : Nat) (zn13 : Int) (nx1 : List Value → Hp → Prop) (b119 : Bool) (n120 : Int) (n167 : Int) (n149 : Int) (n136 : Int) : Hp → Prop :=
  BR b172
    (J_law03_LotMore_6 W R true za0 zn1 zn2 zn3 zp4 zl5 zl6 zn7 zn8 zn9 zp10 zl11 zl12 zn13 nx1 b119 n120 n167 n149)
    (J_law03_LotMore_6 W R (decide (n136 < zn7)) za0 zn1 zn2 zn3 zp4 zl5 zl6 zn7 zn8 zn9 zp10 zl11 zl12 zn13 nx1 b119 n120 n167 n149)
def J_law03_LotMore_8 (W : World) (R : Ending → Hp → Prop) (b171 : Bool) (za0 : Addr) (zn1 : Int) (zn2 : Int) (zn3 : Int) (zp4 : Option Addr) (zl5 : Nat) (zl6 : Nat) (zn7 : Int) (zn8 : Int) (zn9 : Int) (zp10 : Option Addr) (zl11 : Nat) (zl12 : Nat) (zn13 : Int) (nx1 : List Value → Hp → Prop) (b119 : Bool) (n120 : Int) (n167 : Int) (n149 : Int) (n136 : Int) (n170 : Int) : Hp → Prop :=
  BR b171
    (J_law03_LotMore_7 W R true za0 zn1 zn2 zn3 zp4 zl5 zl6 zn7 zn8 zn9 zp10 zl11 zl12 zn13 nx1 b119 n120 n167 n149 n136)
    (J_law03_LotMore_7 W R (n170 != 0) za0 zn1 zn2 zn3 zp4 zl5 zl6 zn7 zn8 zn9 zp10 zl11 zl12 zn13 nx1 b119 n120 n167 n149 n136)
def J_law03_LotMore_9 (W : World) (R : Ending → Hp → Prop) (b257 : Bool) (zn11 : Int) (zn13 : Int) : Hp → Prop :=
  BR b257
    (BR (zn11 == 0)
      (BR (zn13 == 0)
        (CALL Pg W F_law03_awake []
          (fun v258 => TYB v258 fun b260 =>
            R (.returned (.bool b260)))
            (fun e259 => R (.panicked e259)))
        (R (.returned (.bool false))))
      (R (.returned (.bool false))))
    (R (.returned (.bool false)))
def J_law03_LotMore_10 (W : World) (R : Ending → Hp → Prop) (b256 : Bool) (zn10 : Int) (zn12 : Int) (zn11 : Int) (zn13 : Int) : Hp → Prop :=
  BR b256
    (J_law03_LotMore_9 W R (zn10 == zn12) zn11 zn13)
    (J_law03_LotMore_9 W R false zn11 zn13)
def J_law03_LotMore_11 (W : World) (R : Ending → Hp → Prop) (b255 : Bool) (zn9 : Int) (zn10 : Int) (zn12 : Int) (zn11 : Int) (zn13 : Int) : Hp → Prop :=
  BR b255
    (J_law03_LotMore_10 W R (zn9 == 0) zn10 zn12 zn11 zn13)
    (J_law03_LotMore_10 W R false zn10 zn12 zn11 zn13)
def J_law03_LotMore_12 (W : World) (R : Ending → Hp → Prop) (b254 : Bool) (zn5 : Int) (zn8 : Int) (zn9 : Int) (zn10 : Int) (zn12 : Int) (zn11 : Int) (zn13 : Int) : Hp → Prop :=
  BR b254
    (J_law03_LotMore_11 W R (zn5 == zn8) zn9 zn10 zn12 zn11 zn13)
    (J_law03_LotMore_11 W R false zn9 zn10 zn12 zn11 zn13)
def B_law03_LotMore_0 (W : World) (R : Ending → Hp → Prop) (za0 : Addr) (zn1 : Int) (zn2 : Int) (zn3 : Int) (zp4 : Option Addr) (zl5 : Nat) (zl6 : Nat) (x36 : Option Addr) (l37 : Nat) (c38 : Nat) (n39 : Int) (nx0 : List Value → Hp → Prop) : Hp → Prop :=
  BR (decide (n39 < 4))
    (RDL (Addr.add za0 0) fun x40 l41 c42 =>
      RDI .i64 (Addr.add za0 1) fun n43 =>
        NEWZ Pg 24 fun B44 =>
          WR (Addr.add ⟨B44, 0, none⟩ 0) (.slice x40 l41 c42) <|
            WR (Addr.add ⟨B44, 0, none⟩ 1) (.int .i64 n43) <|
              NEW 51 [] fun B45 =>
                RDL (Addr.add za0 0) fun x46 l47 c48 =>
                  APP Pg 51 3 (some ⟨B45, 0, none⟩) 0 0 x46 l47 fun x49 l50 c51 =>
                    WR (Addr.add (Addr.add ⟨B44, 0, none⟩ 0) 0) (.slice x49 l50 c51) <|
                      BR (n39 == 0)
                        (RDL (Addr.add ⟨B44, 0, none⟩ 0) fun x52 l53 c54 =>
                          IXS x52 l53 zn2 3 fun a55 =>
                            WR (Addr.add (Addr.add a55 0) 0) (.int .i64 0) <|
                              J_law03_LotMore_1 W R B44 x36 l37 c38 za0 zn1 zn2 zn3 zp4 zl5 zl6 nx0 n39)
                        (BR (n39 == 1)
                          (RDL (Addr.add ⟨B44, 0, none⟩ 0) fun x64 l65 c66 =>
                            IXS x64 l65 zn2 3 fun a67 =>
                              WR (Addr.add (Addr.add a67 1) 0) (.bool false) <|
                                J_law03_LotMore_1 W R B44 x36 l37 c38 za0 zn1 zn2 zn3 zp4 zl5 zl6 nx0 n39)
                          (BR (n39 == 2)
                            (RDL (Addr.add ⟨B44, 0, none⟩ 0) fun x68 l69 c70 =>
                              IXS x68 l69 zn2 3 fun a71 =>
                                WR (Addr.add (Addr.add a71 2) 0) (.bool false) <|
                                  J_law03_LotMore_1 W R B44 x36 l37 c38 za0 zn1 zn2 zn3 zp4 zl5 zl6 nx0 n39)
                            (RDI .i64 (Addr.add ⟨B44, 0, none⟩ 1) fun n72 =>
                              NNI zn3 <|
                                WR (Addr.add (Addr.add ⟨B44, 0, none⟩ 1) 0) (.int .i64 (andnv .i64 n72 (shlv .i64 1 zn3))) <|
                                  J_law03_LotMore_1 W R B44 x36 l37 c38 za0 zn1 zn2 zn3 zp4 zl5 zl6 nx0 n39))))
    (RDL (Addr.add za0 0) fun x73 l74 c75 =>
      RDI .i64 (Addr.add za0 1) fun n76 =>
        CALL Pg W F_lot_Count [(.agg #[(.slice x73 l74 c75), (.int .i64 n76)])]
          (fun v77 => TUP v77 fun q79 => HD q79 fun v80 r81 => TYI .i64 v80 fun n82 =>
            HD r81 fun v83 r84 => TYI .i64 v83 fun n85 =>
              NL r84 <|
                RDL (Addr.add za0 0) fun x86 l87 c88 =>
                  RDI .i64 (Addr.add za0 1) fun n89 =>
                    CALL Pg W F_lot_Least [(.agg #[(.slice x86 l87 c88), (.int .i64 n89)])]
                      (fun v90 => TUP v90 fun q92 => HD q92 fun v93 r94 => TYI .i64 v93 fun n95 =>
                        HD r94 fun v96 r97 => TYL v96 fun x98 l99 c100 =>
                          HD r97 fun v101 r102 => TYI .i64 v101 fun n103 =>
                            NL r102 <|
                              RDL (Addr.add za0 0) fun x104 l105 c106 =>
                                RDI .i64 (Addr.add za0 1) fun n107 =>
                                  CALL Pg W F_lot_Can [(.agg #[(.slice x104 l105 c106), (.int .i64 n107)]), (.int .i64 zn2)]
                                    (fun v108 => TUP v108 fun q110 => HD q110 fun v111 r112 => TYI .i64 v111 fun n113 =>
                                      HD r112 fun v114 r115 => TYI .i64 v114 fun n116 =>
                                        NL r115 <|
                                          BR (n85 != 0)
                                            (J_law03_LotMore_3 W R true za0 zn1 zn2 zn3 zp4 zl5 zl6 n82 n95 n113 x36 l37 c38 n116)
                                            (J_law03_LotMore_3 W R (n103 != 0) za0 zn1 zn2 zn3 zp4 zl5 zl6 n82 n95 n113 x36 l37 c38 n116))
                                      (fun e109 => R (.panicked e109)))
                        (fun e91 => R (.panicked e91)))
            (fun e78 => R (.panicked e78)))
theorem B_law03_LotMore_0_eq (W : World) (R : Ending → Hp → Prop) (za0 : Addr) (zn1 : Int) (zn2 : Int) (zn3 : Int) (zp4 : Option Addr) (zl5 : Nat) (zl6 : Nat) (x36 : Option Addr) (l37 : Nat) (c38 : Nat) (n39 : Int) (nx0 : List Value → Hp → Prop) (j : Tm) : vc Pg W 281 rs_11 an_11 false (sub (bodyOf Try.f11) [1, 1, 1, 1, 1, 1, 0, 1, 0, 0]) 0 (KLoop [11, 65] [3, 6, 7, 8, 9, 10, 281] [(.pointer (some za0)), (.bool false), (.int .i64 zn1), (.int .i64 zn2), (.int .i64 zn3), (.slice zp4 zl5 zl6), (.tuple #[])] nx0 (KBlk 0 (KS Pg W 281 rs_11 an_11 false (sub (bodyOf Try.f11) [1, 1, 1, 1, 1, 1, 1]) 0 (fin Pg W 281 rv_11 R)))) (known [11, 65] [(.slice x36 l37 c38), (.int .i64 n39)] (known [3, 6, 7, 8, 9, 10, 281] [(.pointer (some za0)), (.bool false), (.int .i64 zn1), (.int .i64 zn2), (.int .i64 zn3), (.slice zp4 zl5 zl6), (.tuple #[])] j)) = B_law03_LotMore_0 W R za0 zn1 zn2 zn3 zp4 zl5 zl6 x36 l37 c38 n39 nx0 := by kernel_rfl
def N_law03_LotMore_0 (I : Option Addr → Nat → Nat → Int → Hp → Prop) (μ : Option Addr → Nat → Nat → Int → Hp → Nat) (x360 : Option Addr) (l370 : Nat) (c380 : Nat) (n390 : Int) (s : Hp) (vs : List Value) : Hp → Prop := fun s' => ∃ x36 l37 c38 n39, vs = [(.slice x36 l37 c38), (.int .i64 n39)] ∧ I x36 l37 c38 n39 s' ∧ μ x36 l37 c38 n39 s' < μ x360 l370 c380 n390 s
theorem L_law03_LotMore_0_rule (W : World) (R : Ending → Hp → Prop) (za0 : Addr) (zn1 : Int) (zn2 : Int) (zn3 : Int) (zp4 : Option Addr) (zl5 : Nat) (zl6 : Nat) (I : Option Addr → Nat → Nat → Int → Hp → Prop) (μ : Option Addr → Nat → Nat → Int → Hp → Nat) (x360 : Option Addr) (l370 : Nat) (c380 : Nat) (n390 : Int) (s : Hp) (h0 : I x360 l370 c380 n390 s)
    (hr : ∀ (x36 : Option Addr) (l37 : Nat) (c38 : Nat) (n39 : Int) (s : Hp), I x36 l37 c38 n39 s → B_law03_LotMore_0 W R za0 zn1 zn2 zn3 zp4 zl5 zl6 x36 l37 c38 n39 (fun vs => N_law03_LotMore_0 I μ x36 l37 c38 n39 s vs) s) : L_law03_LotMore_0 W R za0 zn1 zn2 zn3 zp4 zl5 zl6 x360 l370 c380 n390 s := by
  refine ⟨fun vs s => ∃ x36 l37 c38 n39, vs = [(.slice x36 l37 c38), (.int .i64 n39)] ∧ I x36 l37 c38 n39 s, fun vs s => (match vs with | [.slice x36 l37 c38, .int _ n39] => μ x36 l37 c38 n39 s | _ => 0), ⟨⟨⟨_, _, _, rfl⟩, ⟨⟨_, rfl⟩, trivial⟩⟩, ⟨_, _, _, _, rfl, h0⟩⟩, ?_⟩
  intro x36 l37 c38 n39 s hI j
  obtain ⟨x36', l37', c38', n39', hy, hI⟩ := hI
  have hI' : I x36 l37 c38 n39 s := by cases hy; exact hI
  have hh := hr x36 l37 c38 n39 s hI'
  rw [← B_law03_LotMore_0_eq W R za0 zn1 zn2 zn3 zp4 zl5 zl6 x36 l37 c38 n39 _ j] at hh
  refine vc_mono ?_ _ _ hh
  exact KLoop_mono (fun vs s' h => by obtain ⟨x361, l371, c381, n391, rfl, h1, h2⟩ := h; exact ⟨⟨⟨_, _, _, rfl⟩, ⟨⟨_, rfl⟩, trivial⟩⟩, ⟨_, _, _, _, rfl, h1⟩, h2⟩)
def B_law03_LotMore_1 (W : World) (R : Ending → Hp → Prop) (za0 : Addr) (zn1 : Int) (zn2 : Int) (zn3 : Int) (zp4 : Option Addr) (zl5 : Nat) (zl6 : Nat) (zn7 : Int) (zn8 : Int) (zn9 : Int) (zp10 : Option Addr) (zl11 : Nat) (zl12 : Nat) (zn13 : Int) (b119 : Bool) (n120 : Int) (nx1 : List Value → Hp → Prop) : Hp → Prop :=
  BR (decide (n120 < zn13))
    (IXS zp10 zl11 n120 2 fun a121 =>
      RDL (Addr.add a121 0) fun x122 l123 c124 =>
        RDI .i64 (Addr.add a121 1) fun n125 =>
          NEWZ Pg 24 fun B126 =>
            WR (Addr.add ⟨B126, 0, none⟩ 0) (.slice x122 l123 c124) <|
              WR (Addr.add ⟨B126, 0, none⟩ 1) (.int .i64 n125) <|
                RDL (Addr.add ⟨B126, 0, none⟩ 0) fun x127 l128 c129 =>
                  RDI .i64 (Addr.add ⟨B126, 0, none⟩ 1) fun n130 =>
                    CALL Pg W F_lot_Count [(.agg #[(.slice x127 l128 c129), (.int .i64 n130)])]
                      (fun v131 => TUP v131 fun q133 => HD q133 fun v134 r135 => TYI .i64 v134 fun n136 =>
                        HD r135 fun v137 r138 => TYI .i64 v137 fun n139 =>
                          NL r138 <|
                            RDL (Addr.add ⟨B126, 0, none⟩ 0) fun x140 l141 c142 =>
                              RDI .i64 (Addr.add ⟨B126, 0, none⟩ 1) fun n143 =>
                                CALL Pg W F_lot_Least [(.agg #[(.slice x140 l141 c142), (.int .i64 n143)])]
                                  (fun v144 => TUP v144 fun q146 => HD q146 fun v147 r148 => TYI .i64 v147 fun n149 =>
                                    HD r148 fun v150 r151 => TYL v150 fun x152 l153 c154 =>
                                      HD r151 fun v155 r156 => TYI .i64 v155 fun n157 =>
                                        NL r156 <|
                                          RDL (Addr.add ⟨B126, 0, none⟩ 0) fun x158 l159 c160 =>
                                            RDI .i64 (Addr.add ⟨B126, 0, none⟩ 1) fun n161 =>
                                              CALL Pg W F_lot_Can [(.agg #[(.slice x158 l159 c160), (.int .i64 n161)]), (.int .i64 zn2)]
                                                (fun v162 => TUP v162 fun q164 => HD q164 fun v165 r166 => TYI .i64 v165 fun n167 =>
                                                  HD r166 fun v168 r169 => TYI .i64 v168 fun n170 =>
                                                    NL r169 <|
                                                      BR (n139 != 0)
                                                        (J_law03_LotMore_8 W R true za0 zn1 zn2 zn3 zp4 zl5 zl6 zn7 zn8 zn9 zp10 zl11 zl12 zn13 nx1 b119 n120 n167 n149 n136 n170)
                                                        (J_law03_LotMore_8 W R (n157 != 0) za0 zn1 zn2 zn3 zp4 zl5 zl6 zn7 zn8 zn9 zp10 zl11 zl12 zn13 nx1 b119 n120 n167 n149 n136 n170))
                                                  (fun e163 => R (.panicked e163)))
                                    (fun e145 => R (.panicked e145)))
                        (fun e132 => R (.panicked e132)))
    (RDL (Addr.add za0 0) fun x176 l177 c178 =>
      RDI .i64 (Addr.add za0 1) fun n179 =>
        NEWZ Pg 24 fun B180 =>
          WR (Addr.add ⟨B180, 0, none⟩ 0) (.slice x176 l177 c178) <|
            WR (Addr.add ⟨B180, 0, none⟩ 1) (.int .i64 n179) <|
              WR (Addr.add (Addr.add ⟨B180, 0, none⟩ 1) 0) (.int .i64 0) <|
                L_law03_LotMore_2 W R za0 b119 zn1 zn2 zn3 zp4 zl5 zl6 zn7 zn8 ⟨B180, 0, none⟩ 0)
theorem B_law03_LotMore_1_eq (W : World) (R : Ending → Hp → Prop) (za0 : Addr) (zn1 : Int) (zn2 : Int) (zn3 : Int) (zp4 : Option Addr) (zl5 : Nat) (zl6 : Nat) (zn7 : Int) (zn8 : Int) (zn9 : Int) (zp10 : Option Addr) (zl11 : Nat) (zl12 : Nat) (zn13 : Int) (b119 : Bool) (n120 : Int) (nx1 : List Value → Hp → Prop) (j : Tm) : vc Pg W 281 rs_11 an_11 false (sub (bodyOf Try.f11) [1, 1, 1, 1, 1, 1, 1, 1, 1, 1, 1, 0, 1, 0, 0]) 3 (KLoop [6, 136] [3, 7, 8, 9, 10, 14, 16, 19, 134, 135, 281] [(.pointer (some za0)), (.int .i64 zn1), (.int .i64 zn2), (.int .i64 zn3), (.slice zp4 zl5 zl6), (.int .i64 zn7), (.int .i64 zn8), (.int .i64 zn9), (.slice zp10 zl11 zl12), (.int .i64 zn13), (.tuple #[])] nx1 (KBlk 3 (KS Pg W 281 rs_11 an_11 false (sub (bodyOf Try.f11) [1, 1, 1, 1, 1, 1, 1, 1, 1, 1, 1, 1]) 0 (fin Pg W 281 rv_11 R)))) (known [6, 136] [(.bool b119), (.int .i64 n120)] (known [3, 7, 8, 9, 10, 14, 16, 19, 134, 135, 281] [(.pointer (some za0)), (.int .i64 zn1), (.int .i64 zn2), (.int .i64 zn3), (.slice zp4 zl5 zl6), (.int .i64 zn7), (.int .i64 zn8), (.int .i64 zn9), (.slice zp10 zl11 zl12), (.int .i64 zn13), (.tuple #[])] j)) = B_law03_LotMore_1 W R za0 zn1 zn2 zn3 zp4 zl5 zl6 zn7 zn8 zn9 zp10 zl11 zl12 zn13 b119 n120 nx1 := by kernel_rfl
def N_law03_LotMore_1 (I : Bool → Int → Hp → Prop) (μ : Bool → Int → Hp → Nat) (b1190 : Bool) (n1200 : Int) (s : Hp) (vs : List Value) : Hp → Prop := fun s' => ∃ b119 n120, vs = [(.bool b119), (.int .i64 n120)] ∧ I b119 n120 s' ∧ μ b119 n120 s' < μ b1190 n1200 s
theorem L_law03_LotMore_1_rule (W : World) (R : Ending → Hp → Prop) (za0 : Addr) (zn1 : Int) (zn2 : Int) (zn3 : Int) (zp4 : Option Addr) (zl5 : Nat) (zl6 : Nat) (zn7 : Int) (zn8 : Int) (zn9 : Int) (zp10 : Option Addr) (zl11 : Nat) (zl12 : Nat) (zn13 : Int) (I : Bool → Int → Hp → Prop) (μ : Bool → Int → Hp → Nat) (b1190 : Bool) (n1200 : Int) (s : Hp) (h0 : I b1190 n1200 s)
    (hr : ∀ (b119 : Bool) (n120 : Int) (s : Hp), I b119 n120 s → B_law03_LotMore_1 W R za0 zn1 zn2 zn3 zp4 zl5 zl6 zn7 zn8 zn9 zp10 zl11 zl12 zn13 b119 n120 (fun vs => N_law03_LotMore_1 I μ b119 n120 s vs) s) : L_law03_LotMore_1 W R za0 zn1 zn2 zn3 zp4 zl5 zl6 zn7 zn8 zn9 zp10 zl11 zl12 zn13 b1190 n1200 s := by
  refine ⟨fun vs s => ∃ b119 n120, vs = [(.bool b119), (.int .i64 n120)] ∧ I b119 n120 s, fun vs s => (match vs with | [.bool b119, .int _ n120] => μ b119 n120 s | _ => 0), ⟨⟨⟨_, rfl⟩, ⟨⟨_, rfl⟩, trivial⟩⟩, ⟨_, _, rfl, h0⟩⟩, ?_⟩
  intro b119 n120 s hI j
  obtain ⟨b119', n120', hy, hI⟩ := hI
  have hI' : I b119 n120 s := by cases hy; exact hI
  have hh := hr b119 n120 s hI'
  rw [← B_law03_LotMore_1_eq W R za0 zn1 zn2 zn3 zp4 zl5 zl6 zn7 zn8 zn9 zp10 zl11 zl12 zn13 b119 n120 _ j] at hh
  refine vc_mono ?_ _ _ hh
  exact KLoop_mono (fun vs s' h => by obtain ⟨b1191, n1201, rfl, h1, h2⟩ := h; exact ⟨⟨⟨_, rfl⟩, ⟨⟨_, rfl⟩, trivial⟩⟩, ⟨_, _, rfl, h1⟩, h2⟩)
def B_law03_LotMore_2 (W : World) (R : Ending → Hp → Prop) (za0 : Addr) (zb1 : Bool) (zn2 : Int) (zn3 : Int) (zn4 : Int) (zp5 : Option Addr) (zl6 : Nat) (zl7 : Nat) (zn8 : Int) (zn9 : Int) (za10 : Addr) (n181 : Int) (nx2 : List Value → Hp → Prop) : Hp → Prop :=
  BR (decide (n181 < zn2))
    (RDI .i64 (Addr.add za10 1) fun n182 =>
      RDI .i64 (Addr.add za0 1) fun n183 =>
        NNI n181 <|
          NNI (IntKind.wrap .i64 ((IntKind.wrap .i64 (zn2 - 1)) - n181)) <|
            WR (Addr.add (Addr.add za10 1) 0) (.int .i64 (orv .i64 n182 (shlv .i64 (andv .i64 (shrv .i64 n183 n181) 1) (IntKind.wrap .i64 ((IntKind.wrap .i64 (zn2 - 1)) - n181))))) <|
              NX [(.pointer (some za0)), (.bool zb1), (.int .i64 zn2), (.int .i64 zn3), (.int .i64 zn4), (.slice zp5 zl6 zl7), (.int .i64 zn8), (.int .i64 zn9), (.pointer (some za10)), (.int .i64 zn2), (.tuple #[])] [(.pointer (some za0)), (.bool zb1), (.int .i64 zn2), (.int .i64 zn3), (.int .i64 zn4), (.slice zp5 zl6 zl7), (.int .i64 zn8), (.int .i64 zn9), (.pointer (some za10)), (.int .i64 zn2), (.tuple #[])] (nx2 [(.int .i64 (IntKind.wrap .i64 (n181 + 1)))]))
    (RDL (Addr.add za10 0) fun x184 l185 c186 =>
      RDI .i64 (Addr.add za10 1) fun n187 =>
        CALL Pg W F_lot_Count [(.agg #[(.slice x184 l185 c186), (.int .i64 n187)])]
          (fun v188 => TUP v188 fun q190 => HD q190 fun v191 r192 => TYI .i64 v191 fun n193 =>
            HD r192 fun v194 r195 => TYI .i64 v194 fun n196 =>
              NL r195 <|
                RDL (Addr.add za10 0) fun x197 l198 c199 =>
                  RDI .i64 (Addr.add za10 1) fun n200 =>
                    CALL Pg W F_lot_Least [(.agg #[(.slice x197 l198 c199), (.int .i64 n200)])]
                      (fun v201 => TUP v201 fun q203 => HD q203 fun v204 r205 => TYI .i64 v204 fun n206 =>
                        HD r205 fun v207 r208 => TYL v207 fun x209 l210 c211 =>
                          HD r208 fun v212 r213 => TYI .i64 v212 fun n214 =>
                            NL r213 <|
                              RDL (Addr.add za0 0) fun x215 l216 c217 =>
                                RDI .i64 (Addr.add za0 1) fun n218 =>
                                  CALL Pg W F_lot_Often [(.agg #[(.slice x215 l216 c217), (.int .i64 n218)]), (.int .i64 zn3), (.int .i64 zn4)]
                                    (fun v219 => TUP v219 fun q221 => HD q221 fun v222 r223 => TYI .i64 v222 fun n224 =>
                                      HD r223 fun v225 r226 => TYI .i64 v225 fun n227 =>
                                        NL r226 <|
                                          RDL (Addr.add za10 0) fun x228 l229 c230 =>
                                            RDI .i64 (Addr.add za10 1) fun n231 =>
                                              CALL Pg W F_lot_Often [(.agg #[(.slice x228 l229 c230), (.int .i64 n231)]), (.int .i64 zn3), (.int .i64 (IntKind.wrap .i64 ((IntKind.wrap .i64 (zn2 - 1)) - zn4)))]
                                                (fun v232 => TUP v232 fun q234 => HD q234 fun v235 r236 => TYI .i64 v235 fun n237 =>
                                                  HD r236 fun v238 r239 => TYI .i64 v238 fun n240 =>
                                                    NL r239 <|
                                                      L_law03_LotMore_3 W R za0 zp5 zl6 zl7 zn8 zn9 n193 n196 n206 n214 n224 n227 n237 n240 (↑zl6 : Int) zb1 0)
                                                  (fun e233 => R (.panicked e233)))
                                      (fun e220 => R (.panicked e220)))
                        (fun e202 => R (.panicked e202)))
            (fun e189 => R (.panicked e189)))
theorem B_law03_LotMore_2_eq (W : World) (R : Ending → Hp → Prop) (za0 : Addr) (zb1 : Bool) (zn2 : Int) (zn3 : Int) (zn4 : Int) (zp5 : Option Addr) (zl6 : Nat) (zl7 : Nat) (zn8 : Int) (zn9 : Int) (za10 : Addr) (n181 : Int) (nx2 : List Value → Hp → Prop) (j : Tm) : vc Pg W 281 rs_11 an_11 false (sub (bodyOf Try.f11) [1, 1, 1, 1, 1, 1, 1, 1, 1, 1, 1, 1, 1, 1, 0, 1, 0, 0]) 5 (KLoop [187] [3, 6, 7, 8, 9, 10, 14, 16, 30, 186, 281] [(.pointer (some za0)), (.bool zb1), (.int .i64 zn2), (.int .i64 zn3), (.int .i64 zn4), (.slice zp5 zl6 zl7), (.int .i64 zn8), (.int .i64 zn9), (.pointer (some za10)), (.int .i64 zn2), (.tuple #[])] nx2 (KBlk 5 (KS Pg W 281 rs_11 an_11 false (sub (bodyOf Try.f11) [1, 1, 1, 1, 1, 1, 1, 1, 1, 1, 1, 1, 1, 1, 1]) 0 (fin Pg W 281 rv_11 R)))) (known [187] [(.int .i64 n181)] (known [3, 6, 7, 8, 9, 10, 14, 16, 30, 186, 281] [(.pointer (some za0)), (.bool zb1), (.int .i64 zn2), (.int .i64 zn3), (.int .i64 zn4), (.slice zp5 zl6 zl7), (.int .i64 zn8), (.int .i64 zn9), (.pointer (some za10)), (.int .i64 zn2), (.tuple #[])] j)) = B_law03_LotMore_2 W R za0 zb1 zn2 zn3 zn4 zp5 zl6 zl7 zn8 zn9 za10 n181 nx2 := by kernel_rfl
def N_law03_LotMore_2 (I : Int → Hp → Prop) (μ : Int → Hp → Nat) (n1810 : Int) (s : Hp) (vs : List Value) : Hp → Prop := fun s' => ∃ n181, vs = [(.int .i64 n181)] ∧ I n181 s' ∧ μ n181 s' < μ n1810 s
theorem L_law03_LotMore_2_rule (W : World) (R : Ending → Hp → Prop) (za0 : Addr) (zb1 : Bool) (zn2 : Int) (zn3 : Int) (zn4 : Int) (zp5 : Option Addr) (zl6 : Nat) (zl7 : Nat) (zn8 : Int) (zn9 : Int) (za10 : Addr) (I : Int → Hp → Prop) (μ : Int → Hp → Nat) (n1810 : Int) (s : Hp) (h0 : I n1810 s)
    (hr : ∀ (n181 : Int) (s : Hp), I n181 s → B_law03_LotMore_2 W R za0 zb1 zn2 zn3 zn4 zp5 zl6 zl7 zn8 zn9 za10 n181 (fun vs => N_law03_LotMore_2 I μ n181 s vs) s) : L_law03_LotMore_2 W R za0 zb1 zn2 zn3 zn4 zp5 zl6 zl7 zn8 zn9 za10 n1810 s := by
  refine ⟨fun vs s => ∃ n181, vs = [(.int .i64 n181)] ∧ I n181 s, fun vs s => (match vs with | [.int _ n181] => μ n181 s | _ => 0), ⟨⟨⟨_, rfl⟩, trivial⟩, ⟨_, rfl, h0⟩⟩, ?_⟩
  intro n181 s hI j
  obtain ⟨n181', hy, hI⟩ := hI
  have hI' : I n181 s := by cases hy; exact hI
  have hh := hr n181 s hI'
  rw [← B_law03_LotMore_2_eq W R za0 zb1 zn2 zn3 zn4 zp5 zl6 zl7 zn8 zn9 za10 n181 _ j] at hh
  refine vc_mono ?_ _ _ hh
  exact KLoop_mono (fun vs s' h => by obtain ⟨n1811, rfl, h1, h2⟩ := h; exact ⟨⟨⟨_, rfl⟩, trivial⟩, ⟨_, rfl, h1⟩, h2⟩)
def B_law03_LotMore_3 (W : World) (R : Ending → Hp → Prop) (za0 : Addr) (zp1 : Option Addr) (zl2 : Nat) (zl3 : Nat) (zn4 : Int) (zn5 : Int) (zn6 : Int) (zn7 : Int) (zn8 : Int) (zn9 : Int) (zn10 : Int) (zn11 : Int) (zn12 : Int) (zn13 : Int) (zn14 : Int) (b241 : Bool) (n242 : Int) (nx3 : List Value → Hp → Prop) : Hp → Prop :=
  BR (decide (n242 < zn14))
    (IXS zp1 zl2 n242 3 fun a243 =>
      RDI .i64 (Addr.add a243 0) fun n244 =>
        RDB (Addr.add a243 1) fun b245 =>
          RDB (Addr.add a243 2) fun b246 =>
            RDL (Addr.add za0 0) fun x247 l248 c249 =>
              IXS x247 l248 n242 3 fun a250 =>
                RDI .i64 (Addr.add a250 0) fun n251 =>
                  RDB (Addr.add a250 1) fun b252 =>
                    RDB (Addr.add a250 2) fun b253 =>
                      BR (!((n244 == n251) && ((b245 == b252) && (b246 == b253))))
                        (R (.returned (.bool false)))
                        (NX [(.pointer (some za0)), (.slice zp1 zl2 zl3), (.int .i64 zn4), (.int .i64 zn5), (.int .i64 zn6), (.int .i64 zn7), (.int .i64 zn8), (.int .i64 zn9), (.int .i64 zn10), (.int .i64 zn11), (.int .i64 zn12), (.int .i64 zn13), (.int .i64 zn14), (.tuple #[])] [(.pointer (some za0)), (.slice zp1 zl2 zl3), (.int .i64 zn4), (.int .i64 zn5), (.int .i64 zn6), (.int .i64 zn7), (.int .i64 zn8), (.int .i64 zn9), (.int .i64 zn10), (.int .i64 zn11), (.int .i64 zn12), (.int .i64 zn13), (.int .i64 zn14), (.tuple #[])] (nx3 [(.bool b241), (.int .i64 (IntKind.wrap .i64 (n242 + 1)))])))
    (BR (zn4 == zn6)
      (J_law03_LotMore_12 W R (zn7 == 0) zn5 zn8 zn9 zn10 zn12 zn11 zn13)
      (J_law03_LotMore_12 W R false zn5 zn8 zn9 zn10 zn12 zn11 zn13))
theorem B_law03_LotMore_3_eq (W : World) (R : Ending → Hp → Prop) (za0 : Addr) (zp1 : Option Addr) (zl2 : Nat) (zl3 : Nat) (zn4 : Int) (zn5 : Int) (zn6 : Int) (zn7 : Int) (zn8 : Int) (zn9 : Int) (zn10 : Int) (zn11 : Int) (zn12 : Int) (zn13 : Int) (zn14 : Int) (b241 : Bool) (n242 : Int) (nx3 : List Value → Hp → Prop) (j : Tm) : vc Pg W 281 rs_11 an_11 false (sub (bodyOf Try.f11) [1, 1, 1, 1, 1, 1, 1, 1, 1, 1, 1, 1, 1, 1, 1, 1, 1, 1, 1, 0, 1, 0, 0]) 7 (KLoop [6, 235] [3, 10, 14, 16, 32, 33, 34, 36, 37, 38, 39, 40, 234, 281] [(.pointer (some za0)), (.slice zp1 zl2 zl3), (.int .i64 zn4), (.int .i64 zn5), (.int .i64 zn6), (.int .i64 zn7), (.int .i64 zn8), (.int .i64 zn9), (.int .i64 zn10), (.int .i64 zn11), (.int .i64 zn12), (.int .i64 zn13), (.int .i64 zn14), (.tuple #[])] nx3 (KBlk 7 (KS Pg W 281 rs_11 an_11 false (sub (bodyOf Try.f11) [1, 1, 1, 1, 1, 1, 1, 1, 1, 1, 1, 1, 1, 1, 1, 1, 1, 1, 1, 1]) 0 (fin Pg W 281 rv_11 R)))) (known [6, 235] [(.bool b241), (.int .i64 n242)] (known [3, 10, 14, 16, 32, 33, 34, 36, 37, 38, 39, 40, 234, 281] [(.pointer (some za0)), (.slice zp1 zl2 zl3), (.int .i64 zn4), (.int .i64 zn5), (.int .i64 zn6), (.int .i64 zn7), (.int .i64 zn8), (.int .i64 zn9), (.int .i64 zn10), (.int .i64 zn11), (.int .i64 zn12), (.int .i64 zn13), (.int .i64 zn14), (.tuple #[])] j)) = B_law03_LotMore_3 W R za0 zp1 zl2 zl3 zn4 zn5 zn6 zn7 zn8 zn9 zn10 zn11 zn12 zn13 zn14 b241 n242 nx3 := by kernel_rfl
def N_law03_LotMore_3 (I : Bool → Int → Hp → Prop) (μ : Bool → Int → Hp → Nat) (b2410 : Bool) (n2420 : Int) (s : Hp) (vs : List Value) : Hp → Prop := fun s' => ∃ b241 n242, vs = [(.bool b241), (.int .i64 n242)] ∧ I b241 n242 s' ∧ μ b241 n242 s' < μ b2410 n2420 s
theorem L_law03_LotMore_3_rule (W : World) (R : Ending → Hp → Prop) (za0 : Addr) (zp1 : Option Addr) (zl2 : Nat) (zl3 : Nat) (zn4 : Int) (zn5 : Int) (zn6 : Int) (zn7 : Int) (zn8 : Int) (zn9 : Int) (zn10 : Int) (zn11 : Int) (zn12 : Int) (zn13 : Int) (zn14 : Int) (I : Bool → Int → Hp → Prop) (μ : Bool → Int → Hp → Nat) (b2410 : Bool) (n2420 : Int) (s : Hp) (h0 : I b2410 n2420 s)
    (hr : ∀ (b241 : Bool) (n242 : Int) (s : Hp), I b241 n242 s → B_law03_LotMore_3 W R za0 zp1 zl2 zl3 zn4 zn5 zn6 zn7 zn8 zn9 zn10 zn11 zn12 zn13 zn14 b241 n242 (fun vs => N_law03_LotMore_3 I μ b241 n242 s vs) s) : L_law03_LotMore_3 W R za0 zp1 zl2 zl3 zn4 zn5 zn6 zn7 zn8 zn9 zn10 zn11 zn12 zn13 zn14 b2410 n2420 s := by
  refine ⟨fun vs s => ∃ b241 n242, vs = [(.bool b241), (.int .i64 n242)] ∧ I b241 n242 s, fun vs s => (match vs with | [.bool b241, .int _ n242] => μ b241 n242 s | _ => 0), ⟨⟨⟨_, rfl⟩, ⟨⟨_, rfl⟩, trivial⟩⟩, ⟨_, _, rfl, h0⟩⟩, ?_⟩
  intro b241 n242 s hI j
  obtain ⟨b241', n242', hy, hI⟩ := hI
  have hI' : I b241 n242 s := by cases hy; exact hI
  have hh := hr b241 n242 s hI'
  rw [← B_law03_LotMore_3_eq W R za0 zp1 zl2 zl3 zn4 zn5 zn6 zn7 zn8 zn9 zn10 zn11 zn12 zn13 zn14 b241 n242 _ j] at hh
  refine vc_mono ?_ _ _ hh
  exact KLoop_mono (fun vs s' h => by obtain ⟨b2411, n2421, rfl, h1, h2⟩ := h; exact ⟨⟨⟨_, rfl⟩, ⟨⟨_, rfl⟩, trivial⟩⟩, ⟨_, _, rfl, h1⟩, h2⟩)
def T_law03_LotMore (W : World) (x1 : Option Addr) (l2 : Nat) (c3 : Nat) (n4 : Int) (n5 : Int) (n6 : Int) (R : Ending → Hp → Prop) : Hp → Prop :=
  NEW 24 [(.slice x1 l2 c3), (.int .i64 n4)] fun B7 =>
    RDL (Addr.add ⟨B7, 0, none⟩ 0) fun x8 l9 c10 =>
      RDI .i64 (Addr.add ⟨B7, 0, none⟩ 1) fun n11 =>
        CALL Pg W F_law03_far [(.agg #[(.slice x8 l9 c10), (.int .i64 n11)]), (.slice none 0 0), (.int .i64 8)]
          (fun v12 => TYB v12 fun b14 =>
            BR b14
              (J_law03_LotMore_0 W R true B7 n5 n6)
              (RDL (Addr.add ⟨B7, 0, none⟩ 0) fun x29 l30 c31 =>
                RDI .i64 (Addr.add ⟨B7, 0, none⟩ 1) fun n32 =>
                  CALL Pg W F_ref03_Lots [(.agg #[(.slice x29 l30 c31), (.int .i64 n32)])]
                    (fun v33 => TYB v33 fun b35 =>
                      J_law03_LotMore_0 W R (!b35) B7 n5 n6)
                      (fun e34 => R (.panicked e34))))
            (fun e13 => R (.panicked e13))
theorem T_law03_LotMore_eq (W : World) (x1 : Option Addr) (l2 : Nat) (c3 : Nat) (n4 : Int) (n5 : Int) (n6 : Int) (R : Ending → Hp → Prop) : vfun Pg W an_11 Try.f11 [(.agg #[(.slice x1 l2 c3), (.int .i64 n4)]), (.int .u8 n5), (.int .u8 n6)] R = T_law03_LotMore W x1 l2 c3 n4 n5 n6 R := by kernel_rfl
theorem does_law03_LotMore (W : World) (x1 : Option Addr) (l2 : Nat) (c3 : Nat) (n4 : Int) (n5 : Int) (n6 : Int) (R : Ending → Hp → Prop) (s : Hp) (h : T_law03_LotMore W x1 l2 c3 n4 n5 n6 R s) : Does Pg W F_law03_LotMore #[(.agg #[(.slice x1 l2 c3), (.int .i64 n4)]), (.int .u8 n5), (.int .u8 n6)] s R :=
  does_of_vfun Pg W an_11 Try.func11 rfl (by kernel_rfl) (by rw [T_law03_LotMore_eq]; exact h)
def an_12 : Nat → Ann := fun b => match b with
  | _ => {}
abbrev rv_12 : List ResultVar := [.tmp 6]
abbrev rs_12 : List Nat := [27, 6]
def J_law03_far_0 (W : World) (R : Ending → Hp → Prop) (b13 : Bool) (B9 : Nat) (n8 : Int) : Hp → Prop :=
  BR b13
    (R (.returned (.bool true)))
    (RDL (Addr.add ⟨B9, 0, none⟩ 0) fun x14 l15 c16 =>
      BR (decide ((↑l15 : Int) > n8))
        (RDL (Addr.add ⟨B9, 0, none⟩ 0) fun x17 l18 c19 =>
          RDI .i64 (Addr.add ⟨B9, 0, none⟩ 1) fun n20 =>
            CALL Pg W F_ref03_Lots [(.agg #[(.slice x17 l18 c19), (.int .i64 n20)])]
              (fun v21 => TYB v21 fun b23 =>
                R (.returned (.bool b23)))
                (fun e22 => R (.panicked e22)))
        (R (.returned (.bool false))))
def T_law03_far (W : World) (x1 : Option Addr) (l2 : Nat) (c3 : Nat) (n4 : Int) (x5 : Option Addr) (l6 : Nat) (c7 : Nat) (n8 : Int) (R : Ending → Hp → Prop) : Hp → Prop :=
  NEW 24 [(.slice x1 l2 c3), (.int .i64 n4)] fun B9 =>
    RDL (Addr.add ⟨B9, 0, none⟩ 0) fun x10 l11 c12 =>
      BR (decide ((↑l11 : Int) > 30))
        (J_law03_far_0 W R true B9 n8)
        (J_law03_far_0 W R (decide ((↑l6 : Int) > 30)) B9 n8)
theorem T_law03_far_eq (W : World) (x1 : Option Addr) (l2 : Nat) (c3 : Nat) (n4 : Int) (x5 : Option Addr) (l6 : Nat) (c7 : Nat) (n8 : Int) (R : Ending → Hp → Prop) : vfun Pg W an_12 Try.f12 [(.agg #[(.slice x1 l2 c3), (.int .i64 n4)]), (.slice x5 l6 c7), (.int .i64 n8)] R = T_law03_far W x1 l2 c3 n4 x5 l6 c7 n8 R := by kernel_rfl
theorem does_law03_far (W : World) (x1 : Option Addr) (l2 : Nat) (c3 : Nat) (n4 : Int) (x5 : Option Addr) (l6 : Nat) (c7 : Nat) (n8 : Int) (R : Ending → Hp → Prop) (s : Hp) (h : T_law03_far W x1 l2 c3 n4 x5 l6 c7 n8 R s) : Does Pg W F_law03_far #[(.agg #[(.slice x1 l2 c3), (.int .i64 n4)]), (.slice x5 l6 c7), (.int .i64 n8)] s R :=
  does_of_vfun Pg W an_12 Try.func12 rfl (by kernel_rfl) (by rw [T_law03_far_eq]; exact h)
def an_35 : Nat → Ann := fun b => match b with
  | 0 => { ms := [13], ks := [.i .i64], us := [0, 1, 4, 5, 12, 59], rt := false, ex := [] }
  | 2 => { ms := [23], ks := [.i .i64], us := [0, 1, 4, 5, 22, 59], rt := false, ex := [] }
  | _ => {}
abbrev rv_35 : List ResultVar := [.tmp 4]
abbrev rs_35 : List Nat := [59, 4]
def L_law03_made_0 (W : World) (R : Ending → Hp → Prop) (zn0 : Int) (zp1 : Option Addr) (zl2 : Nat) (zl3 : Nat) (za4 : Addr) (zl5 : Nat) (zn6 : Int) (n6 : Int) : Hp → Prop :=
  LOOPN [.i .i64] (fun ys next s => ∀ j : Tm, vc Pg W 59 rs_35 an_35 false (sub (bodyOf Try.f35) [1, 1, 0, 1, 0, 0]) 0 (KLoop [13] [0, 1, 4, 5, 12, 59] [(.int .i64 zn0), (.slice zp1 zl2 zl3), (.slice none 0 0), (.slice (some za4) zl5 zl5), (.int .i64 zn6), (.tuple #[])] next (KBlk 0 (KS Pg W 59 rs_35 an_35 false (sub (bodyOf Try.f35) [1, 1, 1]) 0 (fin Pg W 59 rv_35 R)))) (known [13] ys (known [0, 1, 4, 5, 12, 59] [(.int .i64 zn0), (.slice zp1 zl2 zl3), (.slice none 0 0), (.slice (some za4) zl5 zl5), (.int .i64 zn6), (.tuple #[])] j)) s) [(.int .i64 n6)]
def L_law03_made_1 (W : World) (R : Ending → Hp → Prop) (zn0 : Int) (zp1 : Option Addr) (zl2 : Nat) (zl3 : Nat) (za4 : Addr) (zl5 : Nat) (zn6 : Int) (n8 : Int) : Hp → Prop :=
  LOOPN [.i .i64] (fun ys next s => ∀ j : Tm, vc Pg W 59 rs_35 an_35 false (sub (bodyOf Try.f35) [1, 1, 1, 0, 1, 0, 0]) 2 (KLoop [23] [0, 1, 4, 5, 22, 59] [(.int .i64 zn0), (.slice zp1 zl2 zl3), (.slice none 0 0), (.slice (some za4) zl5 zl5), (.int .i64 zn6), (.tuple #[])] next (KBlk 2 (KS Pg W 59 rs_35 an_35 false (sub (bodyOf Try.f35) [1, 1, 1, 1]) 0 (fin Pg W 59 rv_35 R)))) (known [23] ys (known [0, 1, 4, 5, 22, 59] [(.int .i64 zn0), (.slice zp1 zl2 zl3), (.slice none 0 0), (.slice (some za4) zl5 zl5), (.int .i64 zn6), (.tuple #[])] j)) s) [(.int .i64 n8)]
def J_law03_made_0 (W : World) (R : Ending → Hp → Prop) (zn0 : Int) (zp1 : Option Addr) (zl2 : Nat) (zl3 : Nat) (za4 : Addr) (zl5 : Nat) (zn6 : Int) (nx1 : List Value → Hp → Prop) (n8 : Int) : Hp → Prop :=
  NX [(.int .i64 zn0), (.slice zp1 zl2 zl3), (.slice none 0 0), (.slice (some za4) zl5 zl5), (.int .i64 zn6), (.tuple #[])] [(.int .i64 zn0), (.slice zp1 zl2 zl3), (.slice none 0 0), (.slice (some za4) zl5 zl5), (.int .i64 zn6), (.tuple #[])] (nx1 [(.int .i64 (IntKind.wrap .i64 (n8 + 1)))])
def B_law03_made_0 (W : World) (R : Ending → Hp → Prop) (zn0 : Int) (zp1 : Option Addr) (zl2 : Nat) (zl3 : Nat) (za4 : Addr) (zl5 : Nat) (zn6 : Int) (n6 : Int) (nx0 : List Value → Hp → Prop) : Hp → Prop :=
  BR (decide (n6 < zn6))
    (IXS (some za4) zl5 n6 1 fun a7 =>
      WR (Addr.add a7 0) (.int .i64 n6) <|
        NX [(.int .i64 zn0), (.slice zp1 zl2 zl3), (.slice none 0 0), (.slice (some za4) zl5 zl5), (.int .i64 zn6), (.tuple #[])] [(.int .i64 zn0), (.slice zp1 zl2 zl3), (.slice none 0 0), (.slice (some za4) zl5 zl5), (.int .i64 zn6), (.tuple #[])] (nx0 [(.int .i64 (IntKind.wrap .i64 (n6 + 1)))]))
    (L_law03_made_1 W R zn0 zp1 zl2 zl3 za4 zl5 (↑zl5 : Int) 0)
theorem B_law03_made_0_eq (W : World) (R : Ending → Hp → Prop) (zn0 : Int) (zp1 : Option Addr) (zl2 : Nat) (zl3 : Nat) (za4 : Addr) (zl5 : Nat) (zn6 : Int) (n6 : Int) (nx0 : List Value → Hp → Prop) (j : Tm) : vc Pg W 59 rs_35 an_35 false (sub (bodyOf Try.f35) [1, 1, 0, 1, 0, 0]) 0 (KLoop [13] [0, 1, 4, 5, 12, 59] [(.int .i64 zn0), (.slice zp1 zl2 zl3), (.slice none 0 0), (.slice (some za4) zl5 zl5), (.int .i64 zn6), (.tuple #[])] nx0 (KBlk 0 (KS Pg W 59 rs_35 an_35 false (sub (bodyOf Try.f35) [1, 1, 1]) 0 (fin Pg W 59 rv_35 R)))) (known [13] [(.int .i64 n6)] (known [0, 1, 4, 5, 12, 59] [(.int .i64 zn0), (.slice zp1 zl2 zl3), (.slice none 0 0), (.slice (some za4) zl5 zl5), (.int .i64 zn6), (.tuple #[])] j)) = B_law03_made_0 W R zn0 zp1 zl2 zl3 za4 zl5 zn6 n6 nx0 := by kernel_rfl
def N_law03_made_0 (I : Int → Hp → Prop) (μ : Int → Hp → Nat) (n60 : Int) (s : Hp) (vs : List Value) : Hp → Prop := fun s' => ∃ n6, vs = [(.int .i64 n6)] ∧ I n6 s' ∧ μ n6 s' < μ n60 s
theorem L_law03_made_0_rule (W : World) (R : Ending → Hp → Prop) (zn0 : Int) (zp1 : Option Addr) (zl2 : Nat) (zl3 : Nat) (za4 : Addr) (zl5 : Nat) (zn6 : Int) (I : Int → Hp → Prop) (μ : Int → Hp → Nat) (n60 : Int) (s : Hp) (h0 : I n60 s)
    (hr : ∀ (n6 : Int) (s : Hp), I n6 s → B_law03_made_0 W R zn0 zp1 zl2 zl3 za4 zl5 zn6 n6 (fun vs => N_law03_made_0 I μ n6 s vs) s) : L_law03_made_0 W R zn0 zp1 zl2 zl3 za4 zl5 zn6 n60 s := by
  refine ⟨fun vs s => ∃ n6, vs = [(.int .i64 n6)] ∧ I n6 s, fun vs s => (match vs with | [.int _ n6] => μ n6 s | _ => 0), ⟨⟨⟨_, rfl⟩, trivial⟩, ⟨_, rfl, h0⟩⟩, ?_⟩
  intro n6 s hI j
  obtain ⟨n6', hy, hI⟩ := hI
  have hI' : I n6 s := by cases hy; exact hI
  have hh := hr n6 s hI'
  rw [← B_law03_made_0_eq W R zn0 zp1 zl2 zl3 za4 zl5 zn6 n6 _ j] at hh
  refine vc_mono ?_ _ _ hh
  exact KLoop_mono (fun vs s' h => by obtain ⟨n61, rfl, h1, h2⟩ := h; exact ⟨⟨⟨_, rfl⟩, trivial⟩, ⟨_, rfl, h1⟩, h2⟩)
def B_law03_made_1 (W : World) (R : Ending → Hp → Prop) (zn0 : Int) (zp1 : Option Addr) (zl2 : Nat) (zl3 : Nat) (za4 : Addr) (zl5 : Nat) (zn6 : Int) (n8 : Int) (nx1 : List Value → Hp → Prop) : Hp → Prop :=
  BR (decide (n8 < zn6))
    (BR (decide ((↑zl2 : Int) > 0))
      (NZI (↑zl2 : Int) <|
        IXS zp1 zl2 (Int.tmod n8 (↑zl2 : Int)) 1 fun a9 =>
          RDI .u8 a9 fun n10 =>
            NZI (IntKind.wrap .i64 (zn0 - n8)) <|
              IXS (some za4) zl5 (IntKind.wrap .i64 (n8 + (Int.tmod (IntKind.wrap .i64 n10) (IntKind.wrap .i64 (zn0 - n8))))) 1 fun a11 =>
                RDI .i64 a11 fun n12 =>
                  IXS (some za4) zl5 n8 1 fun a13 =>
                    RDI .i64 a13 fun n14 =>
                      IXS (some za4) zl5 n8 1 fun a15 =>
                        WR (Addr.add a15 0) (.int .i64 n12) <|
                          IXS (some za4) zl5 (IntKind.wrap .i64 (n8 + (Int.tmod (IntKind.wrap .i64 n10) (IntKind.wrap .i64 (zn0 - n8))))) 1 fun a16 =>
                            WR (Addr.add a16 0) (.int .i64 n14) <|
                              J_law03_made_0 W R zn0 zp1 zl2 zl3 za4 zl5 zn6 nx1 n8)
      (J_law03_made_0 W R zn0 zp1 zl2 zl3 za4 zl5 zn6 nx1 n8))
    (R (.returned (.slice (some za4) zl5 zl5)))
theorem B_law03_made_1_eq (W : World) (R : Ending → Hp → Prop) (zn0 : Int) (zp1 : Option Addr) (zl2 : Nat) (zl3 : Nat) (za4 : Addr) (zl5 : Nat) (zn6 : Int) (n8 : Int) (nx1 : List Value → Hp → Prop) (j : Tm) : vc Pg W 59 rs_35 an_35 false (sub (bodyOf Try.f35) [1, 1, 1, 0, 1, 0, 0]) 2 (KLoop [23] [0, 1, 4, 5, 22, 59] [(.int .i64 zn0), (.slice zp1 zl2 zl3), (.slice none 0 0), (.slice (some za4) zl5 zl5), (.int .i64 zn6), (.tuple #[])] nx1 (KBlk 2 (KS Pg W 59 rs_35 an_35 false (sub (bodyOf Try.f35) [1, 1, 1, 1]) 0 (fin Pg W 59 rv_35 R)))) (known [23] [(.int .i64 n8)] (known [0, 1, 4, 5, 22, 59] [(.int .i64 zn0), (.slice zp1 zl2 zl3), (.slice none 0 0), (.slice (some za4) zl5 zl5), (.int .i64 zn6), (.tuple #[])] j)) = B_law03_made_1 W R zn0 zp1 zl2 zl3 za4 zl5 zn6 n8 nx1 := by kernel_rfl
def N_law03_made_1 (I : Int → Hp → Prop) (μ : Int → Hp → Nat) (n80 : Int) (s : Hp) (vs : List Value) : Hp → Prop := fun s' => ∃ n8, vs = [(.int .i64 n8)] ∧ I n8 s' ∧ μ n8 s' < μ n80 s
theorem L_law03_made_1_rule (W : World) (R : Ending → Hp → Prop) (zn0 : Int) (zp1 : Option Addr) (zl2 : Nat) (zl3 : Nat) (za4 : Addr) (zl5 : Nat) (zn6 : Int) (I : Int → Hp → Prop) (μ : Int → Hp → Nat) (n80 : Int) (s : Hp) (h0 : I n80 s)
    (hr : ∀ (n8 : Int) (s : Hp), I n8 s → B_law03_made_1 W R zn0 zp1 zl2 zl3 za4 zl5 zn6 n8 (fun vs => N_law03_made_1 I μ n8 s vs) s) : L_law03_made_1 W R zn0 zp1 zl2 zl3 za4 zl5 zn6 n80 s := by
  refine ⟨fun vs s => ∃ n8, vs = [(.int .i64 n8)] ∧ I n8 s, fun vs s => (match vs with | [.int _ n8] => μ n8 s | _ => 0), ⟨⟨⟨_, rfl⟩, trivial⟩, ⟨_, rfl, h0⟩⟩, ?_⟩
  intro n8 s hI j
  obtain ⟨n8', hy, hI⟩ := hI
  have hI' : I n8 s := by cases hy; exact hI
  have hh := hr n8 s hI'
  rw [← B_law03_made_1_eq W R zn0 zp1 zl2 zl3 za4 zl5 zn6 n8 _ j] at hh
  refine vc_mono ?_ _ _ hh
  exact KLoop_mono (fun vs s' h => by obtain ⟨n81, rfl, h1, h2⟩ := h; exact ⟨⟨⟨_, rfl⟩, trivial⟩, ⟨_, rfl, h1⟩, h2⟩)
def T_law03_made (W : World) (n1 : Int) (x2 : Option Addr) (l3 : Nat) (c4 : Nat) (R : Ending → Hp → Prop) : Hp → Prop :=
  MKS Pg 3 n1 n1 fun B5 =>
    L_law03_made_0 W R n1 x2 l3 c4 ⟨B5, 0, none⟩ (Int.toNat n1) (↑(Int.toNat n1) : Int) 0
theorem T_law03_made_eq (W : World) (n1 : Int) (x2 : Option Addr) (l3 : Nat) (c4 : Nat) (R : Ending → Hp → Prop) : vfun Pg W an_35 Try.f35 [(.int .i64 n1), (.slice x2 l3 c4)] R = T_law03_made W n1 x2 l3 c4 R := by kernel_rfl
theorem does_law03_made (W : World) (n1 : Int) (x2 : Option Addr) (l3 : Nat) (c4 : Nat) (R : Ending → Hp → Prop) (s : Hp) (h : T_law03_made W n1 x2 l3 c4 R s) : Does Pg W F_law03_made #[(.int .i64 n1), (.slice x2 l3 c4)] s R :=
  does_of_vfun Pg W an_35 Try.func35 rfl (by kernel_rfl) (by rw [T_law03_made_eq]; exact h)
def an_36 : Nat → Ann := fun b => match b with
  | 0 => { ms := [4, 10], ks := [.b, .i .i64], us := [1, 2, 8, 9, 70], rt := false, ex := [] }
  | _ => {}
abbrev rv_36 : List ResultVar := [.tmp 4]
abbrev rs_36 : List Nat := [70, 4]
def L_law03_lawful_0 (W : World) (R : Ending → Hp → Prop) (zp0 : Option Addr) (zl1 : Nat) (zl2 : Nat) (za3 : Addr) (zn4 : Int) (b9 : Bool) (n10 : Int) : Hp → Prop :=
  LOOPN [.b, .i .i64] (fun ys next s => ∀ j : Tm, vc Pg W 70 rs_36 an_36 false (sub (bodyOf Try.f36) [1, 0, 1, 0, 0]) 0 (KLoop [4, 10] [1, 2, 8, 9, 70] [(.slice zp0 zl1 zl2), (.pointer (some za3)), (.slice zp0 zl1 zl2), (.int .i64 zn4), (.tuple #[])] next (KBlk 0 (KS Pg W 70 rs_36 an_36 false (sub (bodyOf Try.f36) [1, 1]) 0 (fin Pg W 70 rv_36 R)))) (known [4, 10] ys (known [1, 2, 8, 9, 70] [(.slice zp0 zl1 zl2), (.pointer (some za3)), (.slice zp0 zl1 zl2), (.int .i64 zn4), (.tuple #[])] j)) s) [(.bool b9), (.int .i64 n10)]
def J_law03_lawful_0 (W : World) (R : Ending → Hp → Prop) (b67 : Bool) (zp0 : Option Addr) (zl1 : Nat) (zl2 : Nat) (za3 : Addr) (zn4 : Int) (nx0 : List Value → Hp → Prop) (b9 : Bool) (n10 : Int) : Hp → Prop :=
  BR b67
    (R (.returned (.bool false)))
    (NX [(.slice zp0 zl1 zl2), (.pointer (some za3)), (.slice zp0 zl1 zl2), (.int .i64 zn4), (.tuple #[])] [(.slice zp0 zl1 zl2), (.pointer (some za3)), (.slice zp0 zl1 zl2), (.int .i64 zn4), (.tuple #[])] (nx0 [(.bool b9), (.int .i64 (IntKind.wrap .i64 (n10 + 1)))]))
def J_law03_lawful_1 (W : World) (R : Ending → Hp → Prop) (b66 : Bool) (zp0 : Option Addr) (zl1 : Nat) (zl2 : Nat) (za3 : Addr) (zn4 : Int) (nx0 : List Value → Hp → Prop) (b9 : Bool) (n10 : Int) (B20 : Nat) : Hp → Prop :=
  BR b66
    (J_law03_lawful_0 W R true zp0 zl1 zl2 za3 zn4 nx0 b9 n10)
    (RDB (Addr.add ⟨B20, 0, none⟩ 2) fun b68 =>
      BR b68
        (RDI .i64 (Addr.add za3 1) fun n69 =>
          NNI n10 <|
            J_law03_lawful_0 W R ((andv .i64 (shrv .i64 n69 n10) 1) == 1) zp0 zl1 zl2 za3 zn4 nx0 b9 n10)
        (J_law03_lawful_0 W R false zp0 zl1 zl2 za3 zn4 nx0 b9 n10))
def J_law03_lawful_2 (W : World) (R : Ending → Hp → Prop) (b48 : Bool) (zp0 : Option Addr) (zl1 : Nat) (zl2 : Nat) (za3 : Addr) (zn4 : Int) (nx0 : List Value → Hp → Prop) (b9 : Bool) (n10 : Int) (B20 : Nat) : Hp → Prop :=
  BR b48
    (J_law03_lawful_1 W R true zp0 zl1 zl2 za3 zn4 nx0 b9 n10 B20)
    (RDB (Addr.add ⟨B20, 0, none⟩ 1) fun b70 =>
      BR b70
        (BR (decide (n10 > 0))
          (J_law03_lawful_1 W R (decide (n10 < (IntKind.wrap .i64 ((↑zl1 : Int) - 1)))) zp0 zl1 zl2 za3 zn4 nx0 b9 n10 B20)
          (J_law03_lawful_1 W R false zp0 zl1 zl2 za3 zn4 nx0 b9 n10 B20))
        (J_law03_lawful_1 W R false zp0 zl1 zl2 za3 zn4 nx0 b9 n10 B20))
def J_law03_lawful_3 (W : World) (R : Ending → Hp → Prop) (b25 : Bool) (B20 : Nat) (za3 : Addr) (zp0 : Option Addr) (zl1 : Nat) (n10 : Int) (zl2 : Nat) (zn4 : Int) (nx0 : List Value → Hp → Prop) (b9 : Bool) : Hp → Prop :=
  BR b25
    (RDI .i64 (Addr.add ⟨B20, 0, none⟩ 0) fun n26 =>
      RDL (Addr.add za3 0) fun x27 l28 c29 =>
        IXS zp0 zl1 (IntKind.wrap .i64 (n10 - 1)) 1 fun a30 =>
          RDI .i64 a30 fun n31 =>
            IXS x27 l28 n31 3 fun a32 =>
              RDI .i64 (Addr.add a32 0) fun n33 =>
                J_law03_lawful_2 W R (n26 == n33) zp0 zl1 zl2 za3 zn4 nx0 b9 n10 B20)
    (J_law03_lawful_2 W R false zp0 zl1 zl2 za3 zn4 nx0 b9 n10 B20)
def B_law03_lawful_0 (W : World) (R : Ending → Hp → Prop) (zp0 : Option Addr) (zl1 : Nat) (zl2 : Nat) (za3 : Addr) (zn4 : Int) (b9 : Bool) (n10 : Int) (nx0 : List Value → Hp → Prop) : Hp → Prop :=
  BR (decide (n10 < zn4))
    (IXS zp0 zl1 n10 1 fun a11 =>
      RDI .i64 a11 fun n12 =>
        RDL (Addr.add za3 0) fun x13 l14 c15 =>
          IXS x13 l14 n12 3 fun a16 =>
            RDI .i64 (Addr.add a16 0) fun n17 =>
              RDB (Addr.add a16 1) fun b18 =>
                RDB (Addr.add a16 2) fun b19 =>
                  NEWZ Pg 51 fun B20 =>
                    WR (Addr.add ⟨B20, 0, none⟩ 0) (.int .i64 n17) <|
                      WR (Addr.add ⟨B20, 0, none⟩ 1) (.bool b18) <|
                        WR (Addr.add ⟨B20, 0, none⟩ 2) (.bool b19) <|
                          BR (decide (n10 > 0))
                            (RDI .i64 (Addr.add ⟨B20, 0, none⟩ 0) fun n21 =>
                              J_law03_lawful_3 W R (n21 != 0) B20 za3 zp0 zl1 n10 zl2 zn4 nx0 b9)
                            (J_law03_lawful_3 W R false B20 za3 zp0 zl1 n10 zl2 zn4 nx0 b9))
    (R (.returned (.bool true)))
theorem B_law03_lawful_0_eq (W : World) (R : Ending → Hp → Prop) (zp0 : Option Addr) (zl1 : Nat) (zl2 : Nat) (za3 : Addr) (zn4 : Int) (b9 : Bool) (n10 : Int) (nx0 : List Value → Hp → Prop) (j : Tm) : vc Pg W 70 rs_36 an_36 false (sub (bodyOf Try.f36) [1, 0, 1, 0, 0]) 0 (KLoop [4, 10] [1, 2, 8, 9, 70] [(.slice zp0 zl1 zl2), (.pointer (some za3)), (.slice zp0 zl1 zl2), (.int .i64 zn4), (.tuple #[])] nx0 (KBlk 0 (KS Pg W 70 rs_36 an_36 false (sub (bodyOf Try.f36) [1, 1]) 0 (fin Pg W 70 rv_36 R)))) (known [4, 10] [(.bool b9), (.int .i64 n10)] (known [1, 2, 8, 9, 70] [(.slice zp0 zl1 zl2), (.pointer (some za3)), (.slice zp0 zl1 zl2), (.int .i64 zn4), (.tuple #[])] j)) = B_law03_lawful_0 W R zp0 zl1 zl2 za3 zn4 b9 n10 nx0 := by kernel_rfl
def N_law03_lawful_0 (I : Bool → Int → Hp → Prop) (μ : Bool → Int → Hp → Nat) (b90 : Bool) (n100 : Int) (s : Hp) (vs : List Value) : Hp → Prop := fun s' => ∃ b9 n10, vs = [(.bool b9), (.int .i64 n10)] ∧ I b9 n10 s' ∧ μ b9 n10 s' < μ b90 n100 s
theorem L_law03_lawful_0_rule (W : World) (R : Ending → Hp → Prop) (zp0 : Option Addr) (zl1 : Nat) (zl2 : Nat) (za3 : Addr) (zn4 : Int) (I : Bool → Int → Hp → Prop) (μ : Bool → Int → Hp → Nat) (b90 : Bool) (n100 : Int) (s : Hp) (h0 : I b90 n100 s)
    (hr : ∀ (b9 : Bool) (n10 : Int) (s : Hp), I b9 n10 s → B_law03_lawful_0 W R zp0 zl1 zl2 za3 zn4 b9 n10 (fun vs => N_law03_lawful_0 I μ b9 n10 s vs) s) : L_law03_lawful_0 W R zp0 zl1 zl2 za3 zn4 b90 n100 s := by
  refine ⟨fun vs s => ∃ b9 n10, vs = [(.bool b9), (.int .i64 n10)] ∧ I b9 n10 s, fun vs s => (match vs with | [.bool b9, .int _ n10] => μ b9 n10 s | _ => 0), ⟨⟨⟨_, rfl⟩, ⟨⟨_, rfl⟩, trivial⟩⟩, ⟨_, _, rfl, h0⟩⟩, ?_⟩
  intro b9 n10 s hI j
  obtain ⟨b9', n10', hy, hI⟩ := hI
  have hI' : I b9 n10 s := by cases hy; exact hI
  have hh := hr b9 n10 s hI'
  rw [← B_law03_lawful_0_eq W R zp0 zl1 zl2 za3 zn4 b9 n10 _ j] at hh
  refine vc_mono ?_ _ _ hh
  exact KLoop_mono (fun vs s' h => by obtain ⟨b91, n101, rfl, h1, h2⟩ := h; exact ⟨⟨⟨_, rfl⟩, ⟨⟨_, rfl⟩, trivial⟩⟩, ⟨_, _, rfl, h1⟩, h2⟩)
def T_law03_lawful (W : World) (x1 : Option Addr) (l2 : Nat) (c3 : Nat) (n4 : Int) (x5 : Option Addr) (l6 : Nat) (c7 : Nat) (R : Ending → Hp → Prop) : Hp → Prop :=
  NEW 24 [(.slice x1 l2 c3), (.int .i64 n4)] fun B8 =>
    L_law03_lawful_0 W R x5 l6 c7 ⟨B8, 0, none⟩ (↑l6 : Int) false 0
theorem T_law03_lawful_eq (W : World) (x1 : Option Addr) (l2 : Nat) (c3 : Nat) (n4 : Int) (x5 : Option Addr) (l6 : Nat) (c7 : Nat) (R : Ending → Hp → Prop) : vfun Pg W an_36 Try.f36 [(.agg #[(.slice x1 l2 c3), (.int .i64 n4)]), (.slice x5 l6 c7)] R = T_law03_lawful W x1 l2 c3 n4 x5 l6 c7 R := by kernel_rfl
theorem does_law03_lawful (W : World) (x1 : Option Addr) (l2 : Nat) (c3 : Nat) (n4 : Int) (x5 : Option Addr) (l6 : Nat) (c7 : Nat) (R : Ending → Hp → Prop) (s : Hp) (h : T_law03_lawful W x1 l2 c3 n4 x5 l6 c7 R s) : Does Pg W F_law03_lawful #[(.agg #[(.slice x1 l2 c3), (.int .i64 n4)]), (.slice x5 l6 c7)] s R :=
  does_of_vfun Pg W an_36 Try.func36 rfl (by kernel_rfl) (by rw [T_law03_lawful_eq]; exact h)
def an_38 : Nat → Ann := fun b => match b with
  | 0 => { ms := [8], ks := [.i .i64], us := [0, 1, 7, 30], rt := false, ex := [] }
  | _ => {}
abbrev rv_38 : List ResultVar := [.tmp 4]
abbrev rs_38 : List Nat := [30, 4]
def L_law03_LotOrder_c1_0 (W : World) (R : Ending → Hp → Prop) (zp0 : Option Addr) (zl1 : Nat) (zl2 : Nat) (zp3 : Option Addr) (zl4 : Nat) (zl5 : Nat) (zn6 : Int) (n7 : Int) : Hp → Prop :=
  LOOPN [.i .i64] (fun ys next s => ∀ j : Tm, vc Pg W 30 rs_38 an_38 false (sub (bodyOf Try.f38) [1, 0, 1, 0, 0]) 0 (KLoop [8] [0, 1, 7, 30] [(.slice zp0 zl1 zl2), (.slice zp3 zl4 zl5), (.int .i64 zn6), (.tuple #[])] next (KBlk 0 (KS Pg W 30 rs_38 an_38 false (sub (bodyOf Try.f38) [1, 1]) 0 (fin Pg W 30 rv_38 R)))) (known [8] ys (known [0, 1, 7, 30] [(.slice zp0 zl1 zl2), (.slice zp3 zl4 zl5), (.int .i64 zn6), (.tuple #[])] j)) s) [(.int .i64 n7)]
def B_law03_LotOrder_c1_0 (W : World) (R : Ending → Hp → Prop) (zp0 : Option Addr) (zl1 : Nat) (zl2 : Nat) (zp3 : Option Addr) (zl4 : Nat) (zl5 : Nat) (zn6 : Int) (n7 : Int) (nx0 : List Value → Hp → Prop) : Hp → Prop :=
  BR (decide (n7 < zn6))
    (IXS zp0 zl1 n7 1 fun a8 =>
      RDI .i64 a8 fun n9 =>
        IXS zp3 zl4 n7 1 fun a10 =>
          RDI .i64 a10 fun n11 =>
            BR (n9 != n11)
              (IXS zp0 zl1 n7 1 fun a12 =>
                RDI .i64 a12 fun n13 =>
                  IXS zp3 zl4 n7 1 fun a14 =>
                    RDI .i64 a14 fun n15 =>
                      R (.returned (.bool (decide (n13 < n15)))))
              (NX [(.slice zp0 zl1 zl2), (.slice zp3 zl4 zl5), (.int .i64 zn6), (.tuple #[])] [(.slice zp0 zl1 zl2), (.slice zp3 zl4 zl5), (.int .i64 zn6), (.tuple #[])] (nx0 [(.int .i64 (IntKind.wrap .i64 (n7 + 1)))])))
    (R (.returned (.bool false)))
theorem B_law03_LotOrder_c1_0_eq (W : World) (R : Ending → Hp → Prop) (zp0 : Option Addr) (zl1 : Nat) (zl2 : Nat) (zp3 : Option Addr) (zl4 : Nat) (zl5 : Nat) (zn6 : Int) (n7 : Int) (nx0 : List Value → Hp → Prop) (j : Tm) : vc Pg W 30 rs_38 an_38 false (sub (bodyOf Try.f38) [1, 0, 1, 0, 0]) 0 (KLoop [8] [0, 1, 7, 30] [(.slice zp0 zl1 zl2), (.slice zp3 zl4 zl5), (.int .i64 zn6), (.tuple #[])] nx0 (KBlk 0 (KS Pg W 30 rs_38 an_38 false (sub (bodyOf Try.f38) [1, 1]) 0 (fin Pg W 30 rv_38 R)))) (known [8] [(.int .i64 n7)] (known [0, 1, 7, 30] [(.slice zp0 zl1 zl2), (.slice zp3 zl4 zl5), (.int .i64 zn6), (.tuple #[])] j)) = B_law03_LotOrder_c1_0 W R zp0 zl1 zl2 zp3 zl4 zl5 zn6 n7 nx0 := by kernel_rfl
def N_law03_LotOrder_c1_0 (I : Int → Hp → Prop) (μ : Int → Hp → Nat) (n70 : Int) (s : Hp) (vs : List Value) : Hp → Prop := fun s' => ∃ n7, vs = [(.int .i64 n7)] ∧ I n7 s' ∧ μ n7 s' < μ n70 s
theorem L_law03_LotOrder_c1_0_rule (W : World) (R : Ending → Hp → Prop) (zp0 : Option Addr) (zl1 : Nat) (zl2 : Nat) (zp3 : Option Addr) (zl4 : Nat) (zl5 : Nat) (zn6 : Int) (I : Int → Hp → Prop) (μ : Int → Hp → Nat) (n70 : Int) (s : Hp) (h0 : I n70 s)
    (hr : ∀ (n7 : Int) (s : Hp), I n7 s → B_law03_LotOrder_c1_0 W R zp0 zl1 zl2 zp3 zl4 zl5 zn6 n7 (fun vs => N_law03_LotOrder_c1_0 I μ n7 s vs) s) : L_law03_LotOrder_c1_0 W R zp0 zl1 zl2 zp3 zl4 zl5 zn6 n70 s := by
  refine ⟨fun vs s => ∃ n7, vs = [(.int .i64 n7)] ∧ I n7 s, fun vs s => (match vs with | [.int _ n7] => μ n7 s | _ => 0), ⟨⟨⟨_, rfl⟩, trivial⟩, ⟨_, rfl, h0⟩⟩, ?_⟩
  intro n7 s hI j
  obtain ⟨n7', hy, hI⟩ := hI
  have hI' : I n7 s := by cases hy; exact hI
  have hh := hr n7 s hI'
  rw [← B_law03_LotOrder_c1_0_eq W R zp0 zl1 zl2 zp3 zl4 zl5 zn6 n7 _ j] at hh
  refine vc_mono ?_ _ _ hh
  exact KLoop_mono (fun vs s' h => by obtain ⟨n71, rfl, h1, h2⟩ := h; exact ⟨⟨⟨_, rfl⟩, trivial⟩, ⟨_, rfl, h1⟩, h2⟩)
def T_law03_LotOrder_c1 (W : World) (x1 : Option Addr) (l2 : Nat) (c3 : Nat) (x4 : Option Addr) (l5 : Nat) (c6 : Nat) (R : Ending → Hp → Prop) : Hp → Prop :=
  L_law03_LotOrder_c1_0 W R x1 l2 c3 x4 l5 c6 (↑l2 : Int) 0
theorem T_law03_LotOrder_c1_eq (W : World) (x1 : Option Addr) (l2 : Nat) (c3 : Nat) (x4 : Option Addr) (l5 : Nat) (c6 : Nat) (R : Ending → Hp → Prop) : vfun Pg W an_38 Try.f38 [(.slice x1 l2 c3), (.slice x4 l5 c6)] R = T_law03_LotOrder_c1 W x1 l2 c3 x4 l5 c6 R := by kernel_rfl
theorem does_law03_LotOrder_c1 (W : World) (x1 : Option Addr) (l2 : Nat) (c3 : Nat) (x4 : Option Addr) (l5 : Nat) (c6 : Nat) (R : Ending → Hp → Prop) (s : Hp) (h : T_law03_LotOrder_c1 W x1 l2 c3 x4 l5 c6 R s) : Does Pg W F_law03_LotOrder_c1 #[(.slice x1 l2 c3), (.slice x4 l5 c6)] s R :=
  does_of_vfun Pg W an_38 Try.func38 rfl (by kernel_rfl) (by rw [T_law03_LotOrder_c1_eq]; exact h)
def an_39 : Nat → Ann := fun b => match b with
  | 0 => { ms := [5, 10], ks := [.i .i64, .i .i64], us := [1, 2, 4, 9, 26], rt := false, ex := [] }
  | 2 => { ms := [5, 7], ks := [.i .i64, .i .i64], us := [1, 2, 4, 6, 9, 10, 26], rt := false, ex := [] }
  | _ => {}
abbrev rv_39 : List ResultVar := [.tmp 4]
abbrev rs_39 : List Nat := [26, 4]
def L_law03_rules_0 (W : World) (R : Ending → Hp → Prop) (zp0 : Option Addr) (zl1 : Nat) (zl2 : Nat) (za3 : Addr) (zn4 : Int) (n9 : Int) (n10 : Int) : Hp → Prop :=
  LOOPN [.i .i64, .i .i64] (fun ys next s => ∀ j : Tm, vc Pg W 26 rs_39 an_39 false (sub (bodyOf Try.f39) [1, 1, 0, 1, 0, 0]) 0 (KLoop [5, 10] [1, 2, 4, 9, 26] [(.slice zp0 zl1 zl2), (.pointer (some za3)), (.int .i64 0), (.int .i64 zn4), (.tuple #[])] next (KBlk 0 (KS Pg W 26 rs_39 an_39 false (sub (bodyOf Try.f39) [1, 1, 1]) 0 (fin Pg W 26 rv_39 R)))) (known [5, 10] ys (known [1, 2, 4, 9, 26] [(.slice zp0 zl1 zl2), (.pointer (some za3)), (.int .i64 0), (.int .i64 zn4), (.tuple #[])] j)) s) [(.int .i64 n9), (.int .i64 n10)]
def L_law03_rules_1 (W : World) (R : Ending → Hp → Prop) (nx0 : List Value → Hp → Prop) (zp0 : Option Addr) (zl1 : Nat) (zl2 : Nat) (za3 : Addr) (zn4 : Int) (zn5 : Int) (n11 : Int) (n12 : Int) : Hp → Prop :=
  LOOPN [.i .i64, .i .i64] (fun ys next s => ∀ j : Tm, vc Pg W 26 rs_39 an_39 false (sub (bodyOf Try.f39) [1, 1, 0, 1, 0, 0, 1, 1, 0, 0, 1, 1, 0, 0]) 2 (KLoop [5, 7] [1, 2, 4, 6, 9, 10, 26] [(.slice zp0 zl1 zl2), (.pointer (some za3)), (.int .i64 0), (.int .i64 zn4), (.int .i64 zn5), (.int .i64 zn4), (.tuple #[])] next (KBlk 2 (KBlk 1 (KS Pg W 26 rs_39 an_39 false (sub (bodyOf Try.f39) [1, 1, 0, 1, 0, 0, 1, 1, 1]) 0 (KLoop [5, 10] [1, 2, 4, 9, 26] [(.slice zp0 zl1 zl2), (.pointer (some za3)), (.int .i64 0), (.int .i64 zn5), (.tuple #[])] nx0 (KBlk 0 (KS Pg W 26 rs_39 an_39 false (sub (bodyOf Try.f39) [1, 1, 1]) 0 (fin Pg W 26 rv_39 R)))))))) (known [5, 7] ys (known [1, 2, 4, 6, 9, 10, 26] [(.slice zp0 zl1 zl2), (.pointer (some za3)), (.int .i64 0), (.int .i64 zn4), (.int .i64 zn5), (.int .i64 zn4), (.tuple #[])] j)) s) [(.int .i64 n11), (.int .i64 n12)]
def J_law03_rules_0 (W : World) (R : Ending → Hp → Prop) (zp0 : Option Addr) (zl1 : Nat) (zl2 : Nat) (za3 : Addr) (zn4 : Int) (zn5 : Int) (nx1 : List Value → Hp → Prop) (n20 : Int) (n12 : Int) : Hp → Prop :=
  NX [(.slice zp0 zl1 zl2), (.pointer (some za3)), (.int .i64 0), (.int .i64 zn4), (.int .i64 zn5), (.int .i64 zn4), (.tuple #[])] [(.slice zp0 zl1 zl2), (.pointer (some za3)), (.int .i64 0), (.int .i64 zn4), (.int .i64 zn5), (.int .i64 zn4), (.tuple #[])] (nx1 [(.int .i64 n20), (.int .i64 (IntKind.wrap .i64 (n12 + 1)))])
def B_law03_rules_0 (W : World) (R : Ending → Hp → Prop) (zp0 : Option Addr) (zl1 : Nat) (zl2 : Nat) (za3 : Addr) (zn4 : Int) (n9 : Int) (n10 : Int) (nx0 : List Value → Hp → Prop) : Hp → Prop :=
  BR (decide (n10 < zn4))
    (L_law03_rules_1 W R nx0 zp0 zl1 zl2 za3 n10 zn4 n9 1)
    (R (.returned (.int .i64 n9)))
theorem B_law03_rules_0_eq (W : World) (R : Ending → Hp → Prop) (zp0 : Option Addr) (zl1 : Nat) (zl2 : Nat) (za3 : Addr) (zn4 : Int) (n9 : Int) (n10 : Int) (nx0 : List Value → Hp → Prop) (j : Tm) : vc Pg W 26 rs_39 an_39 false (sub (bodyOf Try.f39) [1, 1, 0, 1, 0, 0]) 0 (KLoop [5, 10] [1, 2, 4, 9, 26] [(.slice zp0 zl1 zl2), (.pointer (some za3)), (.int .i64 0), (.int .i64 zn4), (.tuple #[])] nx0 (KBlk 0 (KS Pg W 26 rs_39 an_39 false (sub (bodyOf Try.f39) [1, 1, 1]) 0 (fin Pg W 26 rv_39 R)))) (known [5, 10] [(.int .i64 n9), (.int .i64 n10)] (known [1, 2, 4, 9, 26] [(.slice zp0 zl1 zl2), (.pointer (some za3)), (.int .i64 0), (.int .i64 zn4), (.tuple #[])] j)) = B_law03_rules_0 W R zp0 zl1 zl2 za3 zn4 n9 n10 nx0 := by kernel_rfl
def N_law03_rules_0 (I : Int → Int → Hp → Prop) (μ : Int → Int → Hp → Nat) (n90 : Int) (n100 : Int) (s : Hp) (vs : List Value) : Hp → Prop := fun s' => ∃ n9 n10, vs = [(.int .i64 n9), (.int .i64 n10)] ∧ I n9 n10 s' ∧ μ n9 n10 s' < μ n90 n100 s
theorem L_law03_rules_0_rule (W : World) (R : Ending → Hp → Prop) (zp0 : Option Addr) (zl1 : Nat) (zl2 : Nat) (za3 : Addr) (zn4 : Int) (I : Int → Int → Hp → Prop) (μ : Int → Int → Hp → Nat) (n90 : Int) (n100 : Int) (s : Hp) (h0 : I n90 n100 s)
    (hr : ∀ (n9 : Int) (n10 : Int) (s : Hp), I n9 n10 s → B_law03_rules_0 W R zp0 zl1 zl2 za3 zn4 n9 n10 (fun vs => N_law03_rules_0 I μ n9 n10 s vs) s) : L_law03_rules_0 W R zp0 zl1 zl2 za3 zn4 n90 n100 s := by
  refine ⟨fun vs s => ∃ n9 n10, vs = [(.int .i64 n9), (.int .i64 n10)] ∧ I n9 n10 s, fun vs s => (match vs with | [.int _ n9, .int _ n10] => μ n9 n10 s | _ => 0), ⟨⟨⟨_, rfl⟩, ⟨⟨_, rfl⟩, trivial⟩⟩, ⟨_, _, rfl, h0⟩⟩, ?_⟩
  intro n9 n10 s hI j
  obtain ⟨n9', n10', hy, hI⟩ := hI
  have hI' : I n9 n10 s := by cases hy; exact hI
  have hh := hr n9 n10 s hI'
  rw [← B_law03_rules_0_eq W R zp0 zl1 zl2 za3 zn4 n9 n10 _ j] at hh
  refine vc_mono ?_ _ _ hh
  exact KLoop_mono (fun vs s' h => by obtain ⟨n91, n101, rfl, h1, h2⟩ := h; exact ⟨⟨⟨_, rfl⟩, ⟨⟨_, rfl⟩, trivial⟩⟩, ⟨_, _, rfl, h1⟩, h2⟩)
def B_law03_rules_1 (W : World) (R : Ending → Hp → Prop) (nx0 : List Value → Hp → Prop) (zp0 : Option Addr) (zl1 : Nat) (zl2 : Nat) (za3 : Addr) (zn4 : Int) (zn5 : Int) (n11 : Int) (n12 : Int) (nx1 : List Value → Hp → Prop) : Hp → Prop :=
  BR (decide (n12 ≤ 3))
    (RDL (Addr.add za3 0) fun x13 l14 c15 =>
      RDI .i64 (Addr.add za3 1) fun n16 =>
        CALL Pg W F_ref03_Breaks [(.agg #[(.slice x13 l14 c15), (.int .i64 n16)]), (.slice zp0 zl1 zl2), (.int .i64 zn4), (.int .i64 n12)]
          (fun v17 => TYB v17 fun b19 =>
            BR b19
              (J_law03_rules_0 W R zp0 zl1 zl2 za3 zn4 zn5 nx1 (IntKind.wrap .i64 (n11 + 1)) n12)
              (J_law03_rules_0 W R zp0 zl1 zl2 za3 zn4 zn5 nx1 n11 n12))
            (fun e18 => R (.panicked e18)))
    (NX [(.slice zp0 zl1 zl2), (.pointer (some za3)), (.int .i64 0), (.int .i64 zn5), (.tuple #[])] [(.slice zp0 zl1 zl2), (.pointer (some za3)), (.int .i64 0), (.int .i64 zn5), (.tuple #[])] (nx0 [(.int .i64 n11), (.int .i64 (IntKind.wrap .i64 (zn4 + 1)))]))
theorem B_law03_rules_1_eq (W : World) (R : Ending → Hp → Prop) (nx0 : List Value → Hp → Prop) (zp0 : Option Addr) (zl1 : Nat) (zl2 : Nat) (za3 : Addr) (zn4 : Int) (zn5 : Int) (n11 : Int) (n12 : Int) (nx1 : List Value → Hp → Prop) (j : Tm) : vc Pg W 26 rs_39 an_39 false (sub (bodyOf Try.f39) [1, 1, 0, 1, 0, 0, 1, 1, 0, 0, 1, 1, 0, 0]) 2 (KLoop [5, 7] [1, 2, 4, 6, 9, 10, 26] [(.slice zp0 zl1 zl2), (.pointer (some za3)), (.int .i64 0), (.int .i64 zn4), (.int .i64 zn5), (.int .i64 zn4), (.tuple #[])] nx1 (KBlk 2 (KBlk 1 (KS Pg W 26 rs_39 an_39 false (sub (bodyOf Try.f39) [1, 1, 0, 1, 0, 0, 1, 1, 1]) 0 (KLoop [5, 10] [1, 2, 4, 9, 26] [(.slice zp0 zl1 zl2), (.pointer (some za3)), (.int .i64 0), (.int .i64 zn5), (.tuple #[])] nx0 (KBlk 0 (KS Pg W 26 rs_39 an_39 false (sub (bodyOf Try.f39) [1, 1, 1]) 0 (fin Pg W 26 rv_39 R)))))))) (known [5, 7] [(.int .i64 n11), (.int .i64 n12)] (known [1, 2, 4, 6, 9, 10, 26] [(.slice zp0 zl1 zl2), (.pointer (some za3)), (.int .i64 0), (.int .i64 zn4), (.int .i64 zn5), (.int .i64 zn4), (.tuple #[])] j)) = B_law03_rules_1 W R nx0 zp0 zl1 zl2 za3 zn4 zn5 n11 n12 nx1 := by kernel_rfl
def N_law03_rules_1 (I : Int → Int → Hp → Prop) (μ : Int → Int → Hp → Nat) (n110 : Int) (n120 : Int) (s : Hp) (vs : List Value) : Hp → Prop := fun s' => ∃ n11 n12, vs = [(.int .i64 n11), (.int .i64 n12)] ∧ I n11 n12 s' ∧ μ n11 n12 s' < μ n110 n120 s
theorem L_law03_rules_1_rule (W : World) (R : Ending → Hp → Prop) (nx0 : List Value → Hp → Prop) (zp0 : Option Addr) (zl1 : Nat) (zl2 : Nat) (za3 : Addr) (zn4 : Int) (zn5 : Int) (I : Int → Int → Hp → Prop) (μ : Int → Int → Hp → Nat) (n110 : Int) (n120 : Int) (s : Hp) (h0 : I n110 n120 s)
    (hr : ∀ (n11 : Int) (n12 : Int) (s : Hp), I n11 n12 s → B_law03_rules_1 W R nx0 zp0 zl1 zl2 za3 zn4 zn5 n11 n12 (fun vs => N_law03_rules_1 I μ n11 n12 s vs) s) : L_law03_rules_1 W R nx0 zp0 zl1 zl2 za3 zn4 zn5 n110 n120 s := by
  refine ⟨fun vs s => ∃ n11 n12, vs = [(.int .i64 n11), (.int .i64 n12)] ∧ I n11 n12 s, fun vs s => (match vs with | [.int _ n11, .int _ n12] => μ n11 n12 s | _ => 0), ⟨⟨⟨_, rfl⟩, ⟨⟨_, rfl⟩, trivial⟩⟩, ⟨_, _, rfl, h0⟩⟩, ?_⟩
  intro n11 n12 s hI j
  obtain ⟨n11', n12', hy, hI⟩ := hI
  have hI' : I n11 n12 s := by cases hy; exact hI
  have hh := hr n11 n12 s hI'
  rw [← B_law03_rules_1_eq W R nx0 zp0 zl1 zl2 za3 zn4 zn5 n11 n12 _ j] at hh
  refine vc_mono ?_ _ _ hh
  exact KLoop_mono (fun vs s' h => by obtain ⟨n111, n121, rfl, h1, h2⟩ := h; exact ⟨⟨⟨_, rfl⟩, ⟨⟨_, rfl⟩, trivial⟩⟩, ⟨_, _, rfl, h1⟩, h2⟩)
def T_law03_rules (W : World) (x1 : Option Addr) (l2 : Nat) (c3 : Nat) (n4 : Int) (x5 : Option Addr) (l6 : Nat) (c7 : Nat) (R : Ending → Hp → Prop) : Hp → Prop :=
  NEW 24 [(.slice x1 l2 c3), (.int .i64 n4)] fun B8 =>
    L_law03_rules_0 W R x5 l6 c7 ⟨B8, 0, none⟩ (↑l6 : Int) 0 0
theorem T_law03_rules_eq (W : World) (x1 : Option Addr) (l2 : Nat) (c3 : Nat) (n4 : Int) (x5 : Option Addr) (l6 : Nat) (c7 : Nat) (R : Ending → Hp → Prop) : vfun Pg W an_39 Try.f39 [(.agg #[(.slice x1 l2 c3), (.int .i64 n4)]), (.slice x5 l6 c7)] R = T_law03_rules W x1 l2 c3 n4 x5 l6 c7 R := by kernel_rfl
theorem does_law03_rules (W : World) (x1 : Option Addr) (l2 : Nat) (c3 : Nat) (n4 : Int) (x5 : Option Addr) (l6 : Nat) (c7 : Nat) (R : Ending → Hp → Prop) (s : Hp) (h : T_law03_rules W x1 l2 c3 n4 x5 l6 c7 R s) : Does Pg W F_law03_rules #[(.agg #[(.slice x1 l2 c3), (.int .i64 n4)]), (.slice x5 l6 c7)] s R :=
  does_of_vfun Pg W an_39 Try.func39 rfl (by kernel_rfl) (by rw [T_law03_rules_eq]; exact h)
end Go.Proofs.Ytocnkdkgajdejaa.G

/- Contracts of the statements' own functions: what is too large; a draw by remainders; what is lawful by the words. -/
set_option linter.unusedSimpArgs false
set_option linter.unusedVariables false
set_option maxRecDepth 20000
namespace Go.Lot
theorem brk_zero (L : Lts) (q m b : Nat) : decide (brk L q m b = 0) = !(r1 L m b || r2 L q m || r3 L q m) := by
  unfold brk b2n
  cases r1 L m b <;> cases r2 L q m <;> cases r3 L q m <;> rfl
end Go.Lot
namespace Go.Proofs.Ytocnkdkgajdejaa.G
open Go.V Go.Lot
/-- Nothing is broken at any plot. -/
def clean (L : Lts) (d : List Nat) : Prop := ∀ i, i < d.length → brk L i (d.getD i 0) (prev d i) = 0
instance (L : Lts) (d : List Nat) : Decidable (clean L d) := by unfold clean; infer_instance
theorem wrongG_none {L : Lts} : ∀ (d : List Nat) (i b : Nat), (wrongG L i b d = none ↔ ∀ j, j < d.length → brk L (i + j) (d.getD j 0) (if j = 0 then b else d.getD (j - 1) 0) = 0)
  | [], i, b => by simp [wrongG]
  | m :: r, i, b => by
    unfold wrongG
    have ih := wrongG_none (L := L) r (i + 1) m
    constructor
    · intro h j hj
      split at h
      · cases h
      · rename_i hf
        have hf' : brk L i m b = 0 := fst_zero.1 (Decidable.of_not_not hf)
        cases j with
        | zero => simpa using hf'
        | succ j =>
          have := ih.1 h j (by simpa using hj)
          rw [show i + (j + 1) = i + 1 + j by omega]
          rw [if_neg (by omega)]
          cases j with
          | zero => simpa using this
          | succ j => simpa using this
    · intro h
      have h0 := h 0 (by simp)
      simp at h0
      rw [if_neg (by rw [fst_zero.2 h0]; simp)]
      refine ih.2 fun j hj => ?_
      have := h (j + 1) (by simpa using hj)
      rw [show i + (j + 1) = i + 1 + j by omega, if_neg (by omega)] at this
      cases j with
      | zero => simpa using this
      | succ j => simpa using this
theorem wrong_none {L : Lts} {d : List Nat} : wrong L d = none ↔ clean L d := by
  unfold wrong
  rw [wrongG_none d 0 8]
  unfold clean prev
  simp only [Nat.zero_add]
theorem wrongG_some {L : Lts} : ∀ (d : List Nat) (i b p r : Nat), wrongG L i b d = some (p, r) → ∃ j, p = i + j ∧ j < d.length ∧ r = fst L p (d.getD j 0) (if j = 0 then b else d.getD (j - 1) 0) ∧ r ≠ 0 ∧ ∀ k, k < j → brk L (i + k) (d.getD k 0) (if k = 0 then b else d.getD (k - 1) 0) = 0
  | [], i, b, p, r, h => by simp [wrongG] at h
  | m :: t, i, b, p, r, h => by
    unfold wrongG at h
    split at h
    · rename_i hf
      cases h
      exact ⟨0, by simp, by simp, by simp, hf, fun k hk => by omega⟩
    · rename_i hf
      have hf' : brk L i m b = 0 := fst_zero.1 (Decidable.of_not_not hf)
      obtain ⟨j, h1, h2, h3, h4, h5⟩ := wrongG_some t (i + 1) m p r h
      refine ⟨j + 1, by omega, by simpa using h2, ?_, h4, ?_⟩
      · rw [if_neg (by omega)]
        cases j with
        | zero => simpa using h3
        | succ j => simpa using h3
      · intro k hk
        cases k with
        | zero => simpa using hf'
        | succ k =>
          have := h5 k (by omega)
          rw [show i + (k + 1) = i + 1 + k by omega, if_neg (by omega)]
          cases k with
          | zero => simpa using this
          | succ k => simpa using this
theorem wrong_some {L : Lts} {d : List Nat} {p r : Nat} (h : wrong L d = some (p, r)) : p < d.length ∧ r = fst L p (d.getD p 0) (prev d p) ∧ r ≠ 0 ∧ ∀ k, k < p → brk L k (d.getD k 0) (prev d k) = 0 := by
  obtain ⟨j, h1, h2, h3, h4, h5⟩ := wrongG_some d 0 8 p r h
  simp only [Nat.zero_add] at h1 h5
  subst h1
  exact ⟨h2, h3, h4, h5⟩
theorem hasI : ∀ w : Nat, w < 256 → ∀ k : Nat, k < 8 → ((andv .i64 (shrv .i64 (w : Int) (k : Int)) 1) == 1) = w.testBit k := by
  have h : ((List.range 256).all fun (w : Nat) => (List.range 8).all fun (k : Nat) => ((andv .i64 (shrv .i64 (w : Int) (k : Int)) 1) == 1) == w.testBit k) = true := by decide +kernel
  intro w hw k hk
  have h1 := List.all_eq_true.1 h w (by simpa using hw)
  have h2 := List.all_eq_true.1 h1 k (by simpa using hk)
  simpa using h2
theorem bad_eq {L : Lts} (v : Vd L) {k : Nat} (hk : k < 8) : ((andv .i64 (shrv .i64 L.worst (k : Int)) 1) == 1) = bad L k := by
  have h1 : L.worst = (L.worst.toNat : Int) := (Int.toNat_of_nonneg v.w0).symm
  have h2 := v.w8
  rw [h1]
  exact hasI _ (by omega) k hk

section
variable {W : World} {K : VK} {E : List PanicEntry → Hp → Prop} {s : Hp} {L : Lts}

/-- A ploughman is copied. -/
theorem man_new {KK : Nat → Hp → Prop} {a : Int} {b c : Bool} (h : ∀ s', Ext s s' → s'.size = s.size + 1 → Own s' (Addr.add ⟨s.size, 0, none⟩ 0) (.int .i64 a) → Own s' (Addr.add ⟨s.size, 0, none⟩ 1) (.bool b) → Own s' (Addr.add ⟨s.size, 0, none⟩ 2) (.bool c) → KK s.size s') :
    NEWZ Pg 51 (fun B => WR (Addr.add ⟨B, 0, none⟩ 0) (.int .i64 a) <| WR (Addr.add ⟨B, 0, none⟩ 1) (.bool b) <| WR (Addr.add ⟨B, 0, none⟩ 2) (.bool c) <| KK B) s := by
  refine NEWZ_rule zc_51 fun s2 e2 z2 n2 => ?_
  refine WR_own (n2 0 _ rfl) rfl ?_
  refine WR_own (own_set_ne (.inr (by simp [add_off])) (n2 1 _ rfl)) rfl ?_
  refine WR_own (own_set_ne (.inr (by simp [add_off])) (own_set_ne (.inr (by simp [add_off])) (n2 2 _ rfl))) rfl ?_
  refine h _ (Ext.setC (Ext.setC (Ext.setC e2 (Nat.le_refl _)) (by rw [add_block]; exact Nat.le_refl _)) (by rw [add_block]; exact Nat.le_refl _)) (by rw [setC_size, setC_size, setC_size, z2]) ?_ ?_ ?_
  · exact own_set_ne (.inr (by simp [add_off])) (own_set_ne (.inr (by simp [add_off])) (own_set (n2 0 _ rfl)))
  · exact own_set_ne (.inr (by simp [add_off])) (own_set (own_set_ne (.inr (by simp [add_off])) (n2 1 _ rfl)))
  · exact own_set (own_set_ne (.inr (by simp [add_off])) (own_set_ne (.inr (by simp [add_off])) (n2 2 _ rfl)))

theorem c_far {x y : Option Addr} {c l c' : Nat} {n : Nat} (hm : MenAt s x L.men)
    (h : ∀ s' b, Ext s s' → (b = true → valid L = true → 30 < l ∨ n < L.n) → (b = false → L.n ≤ 30 ∧ l ≤ 30 ∧ (valid L = true → L.n ≤ n)) → K (.bool b) s') :
    CALL Pg W F_law03_far [.agg #[.slice x L.n c, .int .i64 L.worst], .slice y l c', .int .i64 n] K E s := by
  refine does_law03_far W x L.n c L.worst y l c' n _ s ?_
  unfold T_law03_far
  refine NEW_rule fun s1 e1 z1 n1 _ => ?_
  have c0 := (n1 0 _ rfl).cell
  have c1 := (n1 1 _ rfl).cell
  refine ⟨_, _, _, c0, ?_⟩
  refine BR_dec (fun h1 => ?_) (fun h1 => ?_)
  · exact h s1 true e1 (fun _ hv => by have := (vd_iff.1 hv).hi; omega) (fun hb => by cases hb)
  · unfold J_law03_far_0
    refine BR_dec (fun h2 => ?_) (fun h2 => ?_)
    · exact h s1 true e1 (fun _ _ => .inl (by omega)) (fun hb => by cases hb)
    · refine ⟨_, _, _, c0, ?_⟩
      refine BR_dec (fun h3 => ?_) (fun h3 => ?_)
      · refine ⟨_, _, _, c0, _, c1, ?_⟩
        refine f_Lots (hm.ext e1) (by omega) fun s2 e2 => ?_
        try simp only [TUP_mk, AGG_mk, HD_mk, NL_mk, TYI_mk, TYB_mk, TYP_mk, TYL_mk, TYS_mk, TYM_mk, SO_mk, NX_mk, endK_mk, endK_mk', add_0]
        refine h s2 _ (e1.trans e2) (fun _ _ => .inr (by omega)) (fun hb => ⟨by omega, by omega, fun hv => by rw [hb] at hv; cases hv⟩)
      · exact h s1 false e1 (fun hb => by cases hb) (fun _ => ⟨by omega, by omega, fun _ => by omega⟩)

theorem c_lawful {x y : Option Addr} {c c' l : Nat} {d : List Nat} (hm : MenAt s x L.men) (hy : RowAt s y (vals d)) (hv : valid L = true) (hd : ∀ m ∈ d, m < L.n) (hl : l = d.length) (hln : d.length = L.n)
    (h : ∀ s', Ext s s' → K (.bool (decide (wrong L d = none))) s') :
    CALL Pg W F_law03_lawful [.agg #[.slice x L.n c, .int .i64 L.worst], .slice y l c'] K E s := by
  subst hl
  refine does_law03_lawful W x L.n c L.worst y d.length c' _ s ?_
  unfold T_law03_lawful
  have v := vd_iff.1 hv
  have hn8 := v.hi
  have hL : L.n = L.men.length := rfl
  refine NEW_rule fun s1 e1 z1 n1 _ => ?_
  have c0 := (n1 0 _ rfl).cell
  have c1 := (n1 1 _ rfl).cell
  refine L_law03_lawful_0_rule W _ y d.length c' ⟨s.size, 0, none⟩ d.length (fun _ n t => Ext s1 t ∧ ∃ k : Nat, k ≤ d.length ∧ n = k ∧ ∀ j, j < k → brk L j (d.getD j 0) (prev d j) = 0) (fun _ n _ => (d.length - n).toNat) false 0 s1 ⟨Ext.refl _, 0, by omega, rfl, fun j hj => by omega⟩ ?_
  rintro b9 n t ⟨et, k, hk, rfl, hok⟩
  unfold B_law03_lawful_0
  refine BR_dec (fun h1 => ?_) (fun h1 => ?_)
  · have hkd : k < d.length := by omega
    have hget : d.getD k 0 = d[k] := by simp [List.getD, hkd]
    have hkv : k < (vals d).length := by rw [vals_len]; exact hkd
    obtain ⟨a, ha, g⟩ := hy k hkv
    rw [vals_get hkv] at g
    have hmi := hd d[k] (List.getElem_mem _)
    have ti : ((k : Int)).toNat = k := by omega
    have tm : ((d[k] : Int)).toNat = d[k] := by omega
    obtain ⟨b, hb, g1, g2, g3⟩ := hm d[k] (by omega)
    have hman := man_get' L (m := d[k]) (by omega)
    rw [← hman] at g1 g2 g3
    have ext := e1.trans et
    refine ⟨a, ha, ⟨by omega, by omega⟩, _, by rw [ti]; exact ext.cell g, _, _, _, et.cell c0, b, hb, ⟨by omega, by omega⟩, _, by rw [tm]; exact ext.cell g1, _, by rw [tm]; exact ext.cell g2, _, by rw [tm]; exact ext.cell g3, ?_⟩
    refine man_new fun s2 e2 z2 q0 q1 q2 => ?_
    have e12 := et.trans e2
    have hwk : IntKind.i64.wrap ((k : Int) + 1) = ((k + 1 : Nat) : Int) := by rw [wrap_i64 (by omega) (by omega)]; rfl
    have j0 : ∀ bb : Bool, bb = (r1 L d[k] (prev d k) || r2 L k d[k] || r3 L k d[k]) → ∀ (nx : List Value → Hp → Prop), (∀ s', s' = s2 → (∀ j, j < k + 1 → brk L j (d.getD j 0) (prev d j) = 0) → nx [(.bool b9), (.int .i64 (IntKind.wrap .i64 ((k : Int) + 1)))] s') → J_law03_lawful_0 W (endK K E) bb y d.length c' ⟨s.size, 0, none⟩ d.length nx b9 k s2 := by
      intro bb hbb nx hnx
      unfold J_law03_lawful_0
      have hz := brk_zero L k d[k] (prev d k)
      rw [← hbb] at hz
      refine BR_bool (fun h2 => ?_) (fun h2 => ?_)
      · rw [h2] at hz
        have hne : ¬ wrong L d = none := fun hw => by
          have := wrong_none.1 hw k hkd
          rw [hget] at this
          rw [decide_eq_true this] at hz
          cases hz
        rw [decide_eq_false hne] at h
        exact h s2 (e1.trans e12)
      · rw [h2] at hz
        have hz' : brk L k d[k] (prev d k) = 0 := by simpa using hz
        refine ⟨rfl, hnx s2 rfl fun j hj => ?_⟩
        by_cases hjk : j < k
        · exact hok j hjk
        · have : j = k := by omega
          subst this
          rw [hget]; exact hz'
    have j1 : ∀ bb : Bool, bb = (r1 L d[k] (prev d k) || r2 L k d[k]) → ∀ (nx : List Value → Hp → Prop), (∀ s', s' = s2 → (∀ j, j < k + 1 → brk L j (d.getD j 0) (prev d j) = 0) → nx [(.bool b9), (.int .i64 (IntKind.wrap .i64 ((k : Int) + 1)))] s') → J_law03_lawful_1 W (endK K E) bb y d.length c' ⟨s.size, 0, none⟩ d.length nx b9 k t.size s2 := by
      intro bb hbb nx hnx
      unfold J_law03_lawful_1
      refine BR_bool (fun h2 => ?_) (fun h2 => ?_)
      · exact j0 true (by rw [← hbb, h2]; rfl) nx hnx
      · refine ⟨_, q2.cell, ?_⟩
        rw [← hbb, h2] at j0
        refine BR_bool (fun h3 => ?_) (fun h3 => ?_)
        · refine ⟨_, e12.cell c1, ?_⟩
          refine NNI_nat ?_
          refine j0 _ ?_ nx hnx
          rw [bad_eq v (by omega)]
          unfold r3; rw [h3]; simp
        · refine j0 _ ?_ nx hnx
          unfold r3; rw [h3]; simp
    have j2 : ∀ bb : Bool, bb = r1 L d[k] (prev d k) → ∀ (nx : List Value → Hp → Prop), (∀ s', s' = s2 → (∀ j, j < k + 1 → brk L j (d.getD j 0) (prev d j) = 0) → nx [(.bool b9), (.int .i64 (IntKind.wrap .i64 ((k : Int) + 1)))] s') → J_law03_lawful_2 W (endK K E) bb y d.length c' ⟨s.size, 0, none⟩ d.length nx b9 k t.size s2 := by
      intro bb hbb nx hnx
      unfold J_law03_lawful_2
      refine BR_bool (fun h2 => ?_) (fun h2 => ?_)
      · exact j1 true (by rw [← hbb, h2]; rfl) nx hnx
      · refine ⟨_, q1.cell, ?_⟩
        rw [← hbb, h2] at j1
        refine BR_bool (fun h3 => ?_) (fun h3 => ?_)
        · refine BR_dec (fun h4 => ?_) (fun h4 => ?_)
          · refine j1 _ ?_ nx hnx
            unfold r2
            rw [h3, wrap_i64 (by omega) (by omega)]
            have : k > 0 := by omega
            simp [this]
            omega
          · refine j1 _ ?_ nx hnx
            unfold r2
            have : ¬ k > 0 := by omega
            simp [this]
        · refine j1 _ ?_ nx hnx
          unfold r2; rw [h3]; simp
    have nxt : ∀ s', s' = s2 → (∀ j, j < k + 1 → brk L j (d.getD j 0) (prev d j) = 0) → N_law03_lawful_0 (fun _ n t => Ext s1 t ∧ ∃ k : Nat, k ≤ d.length ∧ n = k ∧ ∀ j, j < k → brk L j (d.getD j 0) (prev d j) = 0) (fun _ n _ => (d.length - n).toNat) b9 k t [(.bool b9), (.int .i64 (IntKind.wrap .i64 ((k : Int) + 1)))] s' := by
      rintro s' rfl hj
      refine ⟨_, _, rfl, ⟨e12, k + 1, hkd, hwk, hj⟩, ?_⟩
      show ((d.length : Int) - IntKind.i64.wrap ((k : Int) + 1)).toNat < ((d.length : Int) - k).toNat
      rw [hwk]; omega
    have j3 : ∀ bb : Bool, bb = (decide (k ≠ 0) && decide ((man L d[k]).club ≠ 0)) → J_law03_lawful_3 W (endK K E) bb t.size ⟨s.size, 0, none⟩ y d.length k c' d.length (fun vs => N_law03_lawful_0 (fun _ n t => Ext s1 t ∧ ∃ k : Nat, k ≤ d.length ∧ n = k ∧ ∀ j, j < k → brk L j (d.getD j 0) (prev d j) = 0) (fun _ n _ => (d.length - n).toNat) b9 k t vs) b9 s2 := by
      intro bb hbb
      unfold J_law03_lawful_3
      refine BR_bool (fun h2 => ?_) (fun h2 => ?_)
      · rw [h2] at hbb
        obtain ⟨hk0, hc0⟩ : k ≠ 0 ∧ (man L d[k]).club ≠ 0 := by simpa using hbb.symm
        have hp : prev d k = d[k - 1]'(by omega) := by unfold prev; rw [if_neg hk0]; simp [List.getD, show k - 1 < d.length by omega]
        have hpm := hd (d[k - 1]'(by omega)) (List.getElem_mem _)
        have hp8 : prev d k ≠ 8 := by rw [hp]; omega
        have hivp : k - 1 < (vals d).length := by rw [vals_len]; omega
        obtain ⟨a', ha', g'⟩ := hy (k - 1) hivp
        rw [vals_get hivp] at g'
        have hpl : k - 1 < d.length := by omega
        obtain ⟨b', hb', gg1, _, _⟩ := hm (d[k - 1]'hpl) (by omega)
        have hman' := man_get' L (m := d[k - 1]'hpl) (by omega)
        rw [← hman'] at gg1
        have hw : IntKind.wrap .i64 ((k : Int) - 1) = ((k - 1 : Nat) : Int) := by rw [wrap_i64 (by omega) (by omega)]; omega
        refine ⟨_, q0.cell, _, _, _, e12.cell c0, ?_⟩
        dsimp only
        rw [hw]
        have ti' : (((k - 1 : Nat) : Int)).toNat = k - 1 := by omega
        have tm' : (((d[k - 1]'hpl : Nat) : Int)).toNat = d[k - 1]'hpl := by omega
        have e02 := e1.trans e12
        refine ⟨a', ha', ⟨by omega, by omega⟩, _, by rw [ti']; exact e02.cell g', b', hb', ⟨by omega, by omega⟩, _, by rw [tm']; exact e02.cell gg1, ?_⟩
        refine j2 _ ?_ _ nxt
        unfold r1
        rw [hp]
        simp [hc0, show ¬ d[k - 1] = 8 by omega, Bool.beq_eq_decide_eq]
      · rw [h2] at hbb
        refine j2 _ ?_ _ nxt
        unfold r1
        by_cases hk0 : k = 0
        · have : prev d k = 8 := by unfold prev; rw [if_pos hk0]
          rw [this]; simp
        · simp [hk0] at hbb
          simp [hbb]
    refine BR_dec (fun h2 => ?_) (fun h2 => ?_)
    · refine ⟨_, q0.cell, ?_⟩
      refine j3 _ ?_
      have : k ≠ 0 := by omega
      simp [this, bne, Bool.beq_eq_decide_eq]
    · refine j3 _ ?_
      have : k = 0 := by omega
      simp [this]
  · have : k = d.length := by omega
    subst this
    rw [decide_eq_true (wrong_none.2 hok)] at h
    exact h t (e1.trans et)
end
end Go.Proofs.Ytocnkdkgajdejaa.G

/- Contracts of the statements' own functions: a draw by remainders. -/
set_option linter.unusedSimpArgs false
set_option linter.unusedVariables false
set_option maxRecDepth 20000
namespace Go.Lot
/-- A list has each of the first numbers once. -/
structure Perm0 (n : Nat) (d : List Nat) : Prop where
  len : d.length = n
  nd : d.Nodup
  lt : ∀ m ∈ d, m < n
theorem swp_nodup {d : List Nat} {a b : Nat} (ha : a < d.length) (hb : b < d.length) (hd : d.Nodup) : (swp d a b).Nodup := by
  have h1 : ∀ i j (hi : i < d.length) (hj : j < d.length), i ≠ j → d.getD i 0 ≠ d.getD j 0 := by
    intro i j hi hj hij
    have := List.pairwise_iff_getElem.1 hd
    have e1 : d.getD i 0 = d[i] := by simp [List.getD, hi]
    have e2 : d.getD j 0 = d[j] := by simp [List.getD, hj]
    rw [e1, e2]
    rcases Nat.lt_or_ge i j with h | h
    · exact this i j hi hj h
    · exact fun e => this j i hj hi (by omega) e.symm
  refine List.pairwise_iff_getElem.2 fun i j hi hj hij => ?_
  have hi' : i < d.length := by rw [swp_len] at hi; exact hi
  have hj' : j < d.length := by rw [swp_len] at hj; exact hj
  have g1 : (swp d a b)[i] = (swp d a b).getD i 0 := by simp [List.getD, hi]
  have g2 : (swp d a b)[j] = (swp d a b).getD j 0 := by simp [List.getD, hj]
  rw [g1, g2, swp_at ha hb, swp_at ha hb]
  by_cases i1 : i = b
  · rw [if_pos i1]
    by_cases j1 : j = b
    · omega
    · rw [if_neg j1]
      by_cases j2 : j = a
      · rw [if_pos j2]; exact h1 a b ha hb (by omega)
      · rw [if_neg j2]; exact h1 a j ha hj' (by omega)
  · rw [if_neg i1]
    by_cases i2 : i = a
    · rw [if_pos i2]
      by_cases j1 : j = b
      · rw [if_pos j1]; exact h1 b a hb ha (by omega)
      · rw [if_neg j1]
        by_cases j2 : j = a
        · omega
        · rw [if_neg j2]; exact h1 b j hb hj' (by omega)
    · rw [if_neg i2]
      by_cases j1 : j = b
      · rw [if_pos j1]; exact h1 i a hi' ha (by omega)
      · rw [if_neg j1]
        by_cases j2 : j = a
        · rw [if_pos j2]; exact h1 i b hi' hb (by omega)
        · rw [if_neg j2]; exact h1 i j hi' hj' (by omega)
theorem Perm0.swp {n : Nat} {d : List Nat} {a b : Nat} (h : Perm0 n d) (ha : a < n) (hb : b < n) : Perm0 n (swp d a b) := by
  have ha' : a < d.length := by rw [h.len]; exact ha
  have hb' : b < d.length := by rw [h.len]; exact hb
  exact ⟨by rw [swp_len, h.len], swp_nodup ha' hb' h.nd, fun m hm => swp_mem ha' hb' h.lt hm⟩
theorem perm0_range (n : Nat) : Perm0 n (List.range n) := ⟨by simp, List.nodup_range, fun m hm => List.mem_range.1 hm⟩
end Go.Lot
namespace Go.Proofs.Ytocnkdkgajdejaa.G
open Go.V Go.Lot
theorem Perm0.ok {L : Lts} {d : List Nat} (h : Perm0 L.n d) : okDraw L (d.map fun (n : Nat) => (n : Int)) := by
  refine ⟨by simp [h.len], fun x hx => ?_, ?_⟩
  · obtain ⟨m, hm, rfl⟩ := List.mem_map.1 hx
    have := h.lt m hm
    omega
  · refine List.pairwise_map.2 ?_
    exact List.Pairwise.imp (fun h e => h (by exact_mod_cast e)) h.nd
theorem map_back (d : List Nat) : (d.map fun (n : Nat) => (n : Int)).map Int.toNat = d := by rw [List.map_map]; simp [Function.comp_def]
/-- Bytes. -/
def U8At (s : Hp) (x : Option Addr) (l : Nat) : Prop := ∀ i, i < l → ∃ a b, x = some a ∧ cellAt s (a.add (i * 1)) = some (.int .u8 b) ∧ 0 ≤ b ∧ b ≤ 255
theorem U8At.ext {s s' : Hp} {x : Option Addr} {l : Nat} (e : Ext s s') (h : U8At s x l) : U8At s' x l := fun i hi => by
  obtain ⟨a, b, h1, h2, h3⟩ := h i hi
  exact ⟨a, b, h1, e.cell h2, h3⟩
section
variable {W : World} {K : VK} {E : List PanicEntry → Hp → Prop} {s : Hp} {L : Lts}
theorem c_made {x : Option Addr} {l c n : Nat} (hx : U8At s x l) (hn : n ≤ 100) (h : ∀ s' a d, Ext s s' → s.size ≤ a.block → Perm0 n d → Buf s' (some a) n (vals d) → K (.slice (some a) n n) s') :
    CALL Pg W F_law03_made [.int .i64 n, .slice x l c] K E s := by
  refine does_law03_made W n x l c _ s ?_
  unfold T_law03_made
  have tn : (n : Int).toNat = n := by omega
  refine ⟨⟨by omega, by omega, by omega⟩, ?_⟩
  rw [tn, zc_3]
  have b0 : Buf (s.push (.cells (repL n [.int .i64 0]).toArray 3 (0, 0))) (some ⟨s.size, 0, none⟩) (repL n [.int .i64 0]).length (vals (List.replicate n 0)) :=
    buf_new (by rw [vals_len, repL_length, List.length_replicate]; exact Nat.le_refl _) (fun i hi => by
      have h1 : i < n := by rw [vals_len, List.length_replicate] at hi; exact hi
      rw [repL_getD _ _ _ h1, vals_get hi]
      simp)
  rw [repL_length] at b0
  have e1 : Ext s (s.push (.cells (repL n [.int .i64 0]).toArray 3 (0, 0))) := Ext.push (Ext.refl s)
  generalize s.push (.cells (repL n [.int .i64 0]).toArray 3 (0, 0)) = s1 at b0 e1 ⊢
  refine L_law03_made_0_rule W _ n x l c ⟨s.size, 0, none⟩ n n (fun m t => ∃ k : Nat, k ≤ n ∧ m = k ∧ Ext s t ∧ Buf t (some ⟨s.size, 0, none⟩) n (vals (List.range k ++ List.replicate (n - k) 0))) (fun m _ => (n - m).toNat) 0 s1 ⟨0, by omega, rfl, e1, by simpa using b0⟩ ?_
  rintro m t ⟨k, hk, rfl, et, bt⟩
  unfold B_law03_made_0
  refine BR_dec (fun h1 => ?_) (fun h1 => ?_)
  · have hkl : k < (vals (List.range k ++ List.replicate (n - k) 0)).length := by rw [vals_len]; simp; omega
    have tk : ((k : Int)).toNat * 1 = k := by omega
    refine ⟨_, rfl, ⟨by omega, by omega⟩, ?_⟩
    rw [tk]
    refine WR_own (bt.at hkl) rfl ?_
    have b1 := bt.set (v := .int .i64 (k : Int)) hkl
    rw [vals_set] at b1
    have hw : IntKind.i64.wrap ((k : Int) + 1) = ((k + 1 : Nat) : Int) := by rw [wrap_i64 (by omega) (by omega)]; rfl
    refine ⟨rfl, _, rfl, ⟨k + 1, by omega, hw, Ext.setC et (Nat.le_of_eq (add_blk ⟨s.size, 0, none⟩ k).symm), ?_⟩, ?_⟩
    · have : (List.range k ++ List.replicate (n - k) 0).set k k = List.range (k + 1) ++ List.replicate (n - (k + 1)) 0 := by
        obtain ⟨j, hj⟩ : ∃ j, n - k = j + 1 := ⟨n - k - 1, by omega⟩
        rw [hj, show n - (k + 1) = j by omega, List.range_succ, List.append_assoc]
        rw [List.set_append_right _ _ (by simp)]
        simp [List.replicate_succ]
      rw [this] at b1
      exact b1
    · show ((n : Int) - IntKind.i64.wrap ((k : Int) + 1)).toNat < ((n : Int) - k).toNat
      rw [hw]; omega
  · have : k = n := by omega
    subst this
    rw [Nat.sub_self, List.replicate_zero, List.append_nil] at bt
    refine L_law03_made_1_rule W _ k x l c ⟨s.size, 0, none⟩ k k (fun m t => ∃ i : Nat, i ≤ k ∧ m = i ∧ Ext s t ∧ ∃ d, Perm0 k d ∧ Buf t (some ⟨s.size, 0, none⟩) k (vals d)) (fun m _ => (k - m).toNat) 0 t ⟨0, by omega, rfl, et, _, perm0_range k, bt⟩ ?_
    rintro m t' ⟨i, hi, rfl, et', d, pd, bd⟩
    unfold B_law03_made_1
    refine BR_dec (fun h2 => ?_) (fun h2 => ?_)
    · have hw : IntKind.i64.wrap ((i : Int) + 1) = ((i + 1 : Nat) : Int) := by rw [wrap_i64 (by omega) (by omega)]; rfl
      have hms : ((k : Int) - IntKind.i64.wrap ((i : Int) + 1)).toNat < ((k : Int) - (i : Int)).toNat := by rw [hw]; omega
      refine BR_dec (fun h3 => ?_) (fun h3 => ?_)
      · obtain ⟨l', rfl⟩ : ∃ l', l = l' + 1 := ⟨l - 1, by omega⟩
        refine NZI_pos (by omega) ?_
        have hmod : Int.tmod (i : Int) ((l' + 1 : Nat) : Int) = ((i % (l' + 1) : Nat) : Int) := by rw [Int.tmod_eq_emod_of_nonneg (by omega)]; rfl
        rw [hmod]
        have hml : i % (l' + 1) < l' + 1 := Nat.mod_lt _ (by omega)
        obtain ⟨a, b, ha, g, b1, b2⟩ := hx _ hml
        have tm : (((i % (l' + 1) : Nat) : Int)).toNat = i % (l' + 1) := by omega
        refine ⟨a, ha, ⟨by omega, by omega⟩, _, by rw [tm]; exact et'.cell g, ?_⟩
        have hw2 : IntKind.i64.wrap ((k : Int) - (i : Int)) = ((k - i : Nat) : Int) := by rw [wrap_i64 (by omega) (by omega)]; omega
        rw [hw2]
        obtain ⟨q, hq⟩ : ∃ q, k - i = q + 1 := ⟨k - i - 1, by omega⟩
        rw [hq]
        refine NZI_pos (by omega) ?_
        have hwb : IntKind.i64.wrap b = b := wrap_i64 (by omega) (by omega)
        have htm : Int.tmod b ((q + 1 : Nat) : Int) = ((b.toNat % (q + 1) : Nat) : Int) := by
          rw [Int.tmod_eq_emod_of_nonneg (by omega)]
          have : b = (b.toNat : Int) := by omega
          rw [this]; rfl
        have hlt := Nat.mod_lt b.toNat (show q + 1 > 0 by omega)
        rw [hwb, htm]
        generalize b.toNat % (q + 1) = r at hlt ⊢
        have hwi : IntKind.i64.wrap ((i : Int) + (r : Int)) = ((i + r : Nat) : Int) := by rw [wrap_i64 (by omega) (by omega)]; rfl
        rw [hwi]
        refine swap_cells (a := i) (b := i + r) (n := k) bd (by rw [pd.len]; omega) (by rw [pd.len]; omega) (fun t2 k2 z2 b2' => ?_) pd.len.symm
        unfold J_law03_made_0
        refine ⟨rfl, _, rfl, ⟨i + 1, by omega, hw, ?_, _, pd.swp (by omega) (by omega), b2'⟩, hms⟩
        exact ext_kp et' k2 (Nat.le_refl _)
      · unfold J_law03_made_0
        exact ⟨rfl, _, rfl, ⟨i + 1, by omega, hw, et', d, pd, bd⟩, hms⟩
    · exact h t' _ d et' (Nat.le_refl _) pd bd
end
end Go.Proofs.Ytocnkdkgajdejaa.G

/- What arguments read as. -/
set_option linter.unusedSimpArgs false
set_option linter.unusedVariables false
set_option maxRecDepth 20000
namespace Go.Proofs.Ytocnkdkgajdejaa.G
open Go.V Go.Lot
section
variable {s : Hp}
theorem rds_24 (n : Nat) (cs : List Value) : Rds Pg s (n + 1) 24 cs = (cs.length = 2 ∧ Rds Pg s n 22 ((cs.drop 0).take 1) ∧ Rds Pg s n 3 ((cs.drop 1).take 1) ∧ True) := by kernel_rfl
theorem rds_22 (n : Nat) (cs : List Value) : Rds Pg s (n + 1) 22 cs = (∃ a l c, cs = [.slice a l c] ∧ l ≤ c ∧ c ≤ maxLen ∧ (a = none → l = 0 ∧ c = 0) ∧ ∀ i, i < l → ∃ b es, a = some b ∧ es.length = 3 ∧ (∀ j v, es[j]? = some v → cellAt s ((b.add (i * 3)).add j) = some v) ∧ Rds Pg s n 51 es) := by kernel_rfl
theorem rds_51 (n : Nat) (cs : List Value) : Rds Pg s (n + 1) 51 cs = (cs.length = 3 ∧ Rds Pg s n 3 ((cs.drop 0).take 1) ∧ Rds Pg s n 4 ((cs.drop 1).take 1) ∧ Rds Pg s n 4 ((cs.drop 2).take 1) ∧ True) := by kernel_rfl
theorem rds_3 (n : Nat) (cs : List Value) : Rds Pg s (n + 1) 3 cs = (∃ m, cs = [.int .i64 m] ∧ (Lit.int .i64 m).wf = true) := by kernel_rfl
theorem rds_4 (n : Nat) (cs : List Value) : Rds Pg s (n + 1) 4 cs = (∃ m, cs = [.bool m]) := by kernel_rfl
theorem rds_5 (n : Nat) (cs : List Value) : Rds Pg s (n + 1) 5 cs = (∃ m, cs = [.int .u8 m] ∧ (Lit.int .u8 m).wf = true) := by kernel_rfl
theorem rds_53 (n : Nat) (cs : List Value) : Rds Pg s (n + 1) 53 cs = (∃ m, cs = [.int .u16 m] ∧ (Lit.int .u16 m).wf = true) := by kernel_rfl
theorem rds_25 (n : Nat) (cs : List Value) : Rds Pg s (n + 1) 25 cs = (∃ a l c, cs = [.slice a l c] ∧ l ≤ c ∧ c ≤ maxLen ∧ (a = none → l = 0 ∧ c = 0) ∧ ∀ i, i < l → ∃ b es, a = some b ∧ es.length = 1 ∧ (∀ j v, es[j]? = some v → cellAt s ((b.add (i * 1)).add j) = some v) ∧ Rds Pg s n 3 es) := by kernel_rfl
theorem rds_46 (n : Nat) (cs : List Value) : Rds Pg s (n + 1) 46 cs = (∃ a l c, cs = [.slice a l c] ∧ l ≤ c ∧ c ≤ maxLen ∧ (a = none → l = 0 ∧ c = 0) ∧ ∀ i, i < l → ∃ b es, a = some b ∧ es.length = 1 ∧ (∀ j v, es[j]? = some v → cellAt s ((b.add (i * 1)).add j) = some v) ∧ Rds Pg s n 5 es) := by kernel_rfl
theorem ag_24 : isAg Pg 24 = true := by kernel_rfl
theorem ag_3 : isAg Pg 3 = false := by kernel_rfl
theorem ag_5 : isAg Pg 5 = false := by kernel_rfl
theorem ag_53 : isAg Pg 53 = false := by kernel_rfl
theorem ag_25 : isAg Pg 25 = false := by kernel_rfl
theorem ag_46 : isAg Pg 46 = false := by kernel_rfl
theorem u8_wf {m : Int} (h : (Lit.int .u8 m).wf = true) : 0 ≤ m ∧ m ≤ 255 := by
  simp [Lit.wf, IntKind.min, IntKind.max, IntKind.bits, IntKind.signed] at h; omega
theorem u16_wf {m : Int} (h : (Lit.int .u16 m).wf = true) : 0 ≤ m ∧ m ≤ 65535 := by
  simp [Lit.wf, IntKind.min, IntKind.max, IntKind.bits, IntKind.signed] at h; omega
theorem i64_wf {m : Int} (h : (Lit.int .i64 m).wf = true) : -9223372036854775808 ≤ m ∧ m ≤ 9223372036854775807 := by
  simp [Lit.wf, IntKind.min, IntKind.max, IntKind.bits, IntKind.signed] at h; omega
theorem man_rds {n : Nat} {es : List Value} (h : Rds Pg s (n + 2) 51 es) : ∃ m : Man, es = [.int .i64 m.club, .bool m.left, .bool m.nov] := by
  rw [rds_51, rds_3, rds_4, rds_4] at h
  obtain ⟨h0, ⟨c, h1, _⟩, ⟨l, h2⟩, ⟨v, h3⟩, _⟩ := h
  match es, h0 with
  | [a, b, d], _ =>
    simp at h1 h2 h3
    subst h1; subst h2; subst h3
    exact ⟨⟨c, l, v⟩, rfl⟩
theorem choose_list {P : Nat → Man → Prop} : ∀ l : Nat, (∀ i, i < l → ∃ m, P i m) → ∃ ms : List Man, ms.length = l ∧ ∀ i (h : i < ms.length), P i ms[i]
  | 0, _ => ⟨[], rfl, fun i h => by simp at h⟩
  | l + 1, h => by
    obtain ⟨ms, h1, h2⟩ := choose_list l (fun i hi => h i (by omega))
    obtain ⟨m, hm⟩ := h l (by omega)
    refine ⟨ms ++ [m], by simp [h1], fun i hi => ?_⟩
    by_cases hil : i < ms.length
    · rw [List.getElem_append_left hil]; exact h2 i hil
    · simp at hi
      have : i = ms.length := by omega
      subst this
      rw [List.getElem_append_right (Nat.le_refl _)]
      simp [h1]; exact hm
theorem lots_rd {v : Value} (h : RdV Pg s 24 v) : ∃ x c L, v = .agg #[.slice x (L : Lts).n c, .int .i64 L.worst] ∧ MenAt s x L.men ∧ -9223372036854775808 ≤ L.worst ∧ L.worst ≤ 9223372036854775807 := by
  obtain ⟨cs, rfl, h⟩ := h
  rw [ag_24, rds_24, rds_22, rds_3] at *
  obtain ⟨h0, ⟨a, l, c, h1, h2, h3, h4, h5⟩, ⟨w, h6, h7⟩, _⟩ := h
  match cs, h0 with
  | [p, q], _ =>
    simp at h1 h6
    subst h1; subst h6
    have key : ∀ i, i < l → ∃ m : Man, ∃ b, a = some b ∧ cellAt s ((b.add (i * 3)).add 0) = some (.int .i64 m.club) ∧ cellAt s ((b.add (i * 3)).add 1) = some (.bool m.left) ∧ cellAt s ((b.add (i * 3)).add 2) = some (.bool m.nov) := by
      intro i hi
      obtain ⟨b, es, hb, hes, hc, hr⟩ := h5 i hi
      obtain ⟨m, rfl⟩ := man_rds (n := 4) hr
      exact ⟨m, b, hb, hc 0 _ rfl, hc 1 _ rfl, hc 2 _ rfl⟩
    obtain ⟨ms, hl, hm⟩ := choose_list l key
    subst hl
    exact ⟨a, c, ⟨ms, w⟩, rfl, fun i hi => hm i hi, (i64_wf h7).1, (i64_wf h7).2⟩
theorem int_rd {v : Value} (h : RdV Pg s 3 v) : ∃ n, v = .int .i64 n ∧ -9223372036854775808 ≤ n ∧ n ≤ 9223372036854775807 := by
  obtain ⟨cs, rfl, h⟩ := h
  rw [ag_3, rds_3] at *
  obtain ⟨m, rfl, hw⟩ := h
  exact ⟨m, rfl, (i64_wf hw).1, (i64_wf hw).2⟩
theorem u8_rd {v : Value} (h : RdV Pg s 5 v) : ∃ n, v = .int .u8 n ∧ 0 ≤ n ∧ n ≤ 255 := by
  obtain ⟨cs, rfl, h⟩ := h
  rw [ag_5, rds_5] at *
  obtain ⟨m, rfl, hw⟩ := h
  exact ⟨m, rfl, (u8_wf hw).1, (u8_wf hw).2⟩
theorem u16_rd {v : Value} (h : RdV Pg s 53 v) : ∃ n, v = .int .u16 n ∧ 0 ≤ n ∧ n ≤ 65535 := by
  obtain ⟨cs, rfl, h⟩ := h
  rw [ag_53, rds_53] at *
  obtain ⟨m, rfl, hw⟩ := h
  exact ⟨m, rfl, (u16_wf hw).1, (u16_wf hw).2⟩
theorem u8s_rd {v : Value} (h : RdV Pg s 46 v) : ∃ x l c, v = .slice x l c ∧ U8At s x l := by
  obtain ⟨cs, rfl, h⟩ := h
  rw [ag_46, rds_46] at *
  obtain ⟨a, l, c, rfl, h2, h3, h4, h5⟩ := h
  refine ⟨a, l, c, rfl, fun i hi => ?_⟩
  obtain ⟨b, es, hb, hes, hc, hr⟩ := h5 i hi
  rw [rds_5] at hr
  obtain ⟨m, rfl, hw⟩ := hr
  exact ⟨b, m, hb, hc 0 _ rfl, u8_wf hw⟩
theorem choose_ints {P : Nat → Int → Prop} : ∀ l : Nat, (∀ i, i < l → ∃ m, P i m) → ∃ ms : List Int, ms.length = l ∧ ∀ i (h : i < ms.length), P i ms[i]
  | 0, _ => ⟨[], rfl, fun i h => by simp at h⟩
  | l + 1, h => by
    obtain ⟨ms, h1, h2⟩ := choose_ints l (fun i hi => h i (by omega))
    obtain ⟨m, hm⟩ := h l (by omega)
    refine ⟨ms ++ [m], by simp [h1], fun i hi => ?_⟩
    by_cases hil : i < ms.length
    · rw [List.getElem_append_left hil]; exact h2 i hil
    · simp at hi
      have : i = ms.length := by omega
      subst this
      rw [List.getElem_append_right (Nat.le_refl _)]
      simp [h1]; exact hm
theorem ints_rd {v : Value} (h : RdV Pg s 25 v) : ∃ x ds c, v = .slice x (ds : List Int).length c ∧ RowAt s x (ints ds) := by
  obtain ⟨cs, rfl, h⟩ := h
  rw [ag_25, rds_25] at *
  obtain ⟨a, l, c, rfl, h2, h3, h4, h5⟩ := h
  have key : ∀ i, i < l → ∃ m : Int, ∃ b, a = some b ∧ cellAt s (b.add (i * 1)) = some (.int .i64 m) := by
    intro i hi
    obtain ⟨b, es, hb, hes, hc, hr⟩ := h5 i hi
    rw [rds_3] at hr
    obtain ⟨m, rfl, hw⟩ := hr
    exact ⟨m, b, hb, hc 0 _ rfl⟩
  obtain ⟨ms, hl, hm⟩ := choose_ints l key
  subst hl
  refine ⟨a, ms, c, rfl, fun i hi => ?_⟩
  have hi' : i < ms.length := by rw [ints_len] at hi; exact hi
  obtain ⟨b, hb, g⟩ := hm i hi'
  exact ⟨b, hb, by rw [ints_get hi]; exact g⟩
end
end Go.Proofs.Ytocnkdkgajdejaa.G

/- The statement LotLawful: a draw is lawful just if nothing is broken by the words of the chapter. -/
set_option linter.unusedSimpArgs false
set_option linter.unusedVariables false
set_option maxRecDepth 20000
namespace Go.Proofs.Ytocnkdkgajdejaa.G
open Go.V Go.Lot
section
variable {W : World} {K : VK} {E : List PanicEntry → Hp → Prop} {s : Hp} {L : Lts}
theorem man_new3 {KK : Nat → Hp → Prop} {A1 A2 A3 : Hp → Prop} {a : Int} {b c : Bool} (hA : ∀ s', Ext s s' → A1 s' ∧ A2 s' ∧ A3 s')
    (h : ∀ s', Ext s s' → s'.size = s.size + 1 → Own s' (Addr.add ⟨s.size, 0, none⟩ 0) (.int .i64 a) → Own s' (Addr.add ⟨s.size, 0, none⟩ 1) (.bool b) → Own s' (Addr.add ⟨s.size, 0, none⟩ 2) (.bool c) → KK s.size s') :
    NEWZ Pg 51 (fun B => ANDS A1 <| ANDS A2 <| ANDS A3 <| WR (Addr.add ⟨B, 0, none⟩ 0) (.int .i64 a) <| WR (Addr.add ⟨B, 0, none⟩ 1) (.bool b) <| WR (Addr.add ⟨B, 0, none⟩ 2) (.bool c) <| KK B) s := by
  obtain ⟨h1, h2, h3⟩ := hA _ (Ext.push (Ext.refl s))
  exact ⟨h1, h2, h3, man_new h⟩
/-- A plot's ploughman, as it lies. -/
theorem man_at {x y : Option Addr} {d : List Nat} {k : Nat} (hm : MenAt s x L.men) (hy : RowAt s y (vals d)) (hd : ∀ m ∈ d, m < L.n) (hk : k < d.length) :
    ∃ a b, y = some a ∧ x = some b ∧ cellAt s (a.add (k * 1)) = some (.int .i64 (d.getD k 0 : Nat)) ∧ d.getD k 0 < L.n ∧ cellAt s ((b.add (d.getD k 0 * 3)).add 0) = some (.int .i64 (man L (d.getD k 0)).club) ∧
      cellAt s ((b.add (d.getD k 0 * 3)).add 1) = some (.bool (man L (d.getD k 0)).left) ∧ cellAt s ((b.add (d.getD k 0 * 3)).add 2) = some (.bool (man L (d.getD k 0)).nov) := by
  have hget : d.getD k 0 = d[k] := by simp [List.getD, hk]
  have hkv : k < (vals d).length := by rw [vals_len]; exact hk
  obtain ⟨a, ha, g⟩ := hy k hkv
  rw [vals_get hkv] at g
  have hmi := hd d[k] (List.getElem_mem _)
  obtain ⟨b, hb, g1, g2, g3⟩ := hm d[k] hmi
  have hman := man_get' L (m := d[k]) hmi
  rw [← hman] at g1 g2 g3
  rw [hget]
  exact ⟨a, b, ha, hb, g, hmi, g1, g2, g3⟩
theorem man_new3' {x : Option Addr} {d : List Nat} {k : Nat} {a b Z : Addr} {c : Nat} {KK : Nat → Hp → Prop} (hZ : cellAt s (Z.add 0) = some (.slice x L.n c)) (g : cellAt s (a.add (k * 1)) = some (.int .i64 (d.getD k 0 : Nat)))
    (g1 : cellAt s ((b.add (d.getD k 0 * 3)).add 0) = some (.int .i64 (man L (d.getD k 0)).club)) (g2 : cellAt s ((b.add (d.getD k 0 * 3)).add 1) = some (.bool (man L (d.getD k 0)).left)) (g3 : cellAt s ((b.add (d.getD k 0 * 3)).add 2) = some (.bool (man L (d.getD k 0)).nov))
    (h : ∀ s', Ext s s' → s'.size = s.size + 1 → Own s' (Addr.add ⟨s.size, 0, none⟩ 0) (.int .i64 (man L (d.getD k 0)).club) → Own s' (Addr.add ⟨s.size, 0, none⟩ 1) (.bool (man L (d.getD k 0)).left) → Own s' (Addr.add ⟨s.size, 0, none⟩ 2) (.bool (man L (d.getD k 0)).nov) → KK s.size s') :
    NEWZ Pg 51 (fun B => ANDS (RDI .i64 (Addr.add (b.add (d.getD k 0 * 3)) 0) fun n130 => RDB (Addr.add (b.add (d.getD k 0 * 3)) 1) fun b131 => RDB (Addr.add (b.add (d.getD k 0 * 3)) 2) fun b132 => fun _ => ((.agg #[(.int .i64 n130), (.bool b131), (.bool b132)]) : Value) = (.agg #[(.int .i64 (man L (d.getD k 0)).club), (.bool (man L (d.getD k 0)).left), (.bool (man L (d.getD k 0)).nov)])) <|
      ANDS (RDI .i64 (a.add (k * 1)) fun n133 => fun _ => ((.int .i64 n133) : Value) = (.int .i64 ((d.getD k 0 : Nat) : Int))) <|
      ANDS (RDL (Z.add 0) fun x134 l135 c136 => fun _ => ((.slice x134 l135 c136) : Value) = (.slice x L.n c)) <|
      WR (Addr.add ⟨B, 0, none⟩ 0) (.int .i64 (man L (d.getD k 0)).club) <| WR (Addr.add ⟨B, 0, none⟩ 1) (.bool (man L (d.getD k 0)).left) <| WR (Addr.add ⟨B, 0, none⟩ 2) (.bool (man L (d.getD k 0)).nov) <| KK B) s :=
  man_new3 (fun s' e => ⟨⟨_, e.cell g1, _, e.cell g2, _, e.cell g3, rfl⟩, ⟨_, e.cell g, rfl⟩, ⟨_, _, _, e.cell hZ, rfl⟩⟩) h

theorem lawful_loop {x y : Option Addr} {c c' B p : Nat} {d : List Nat} {r : Int} {q1 q2 q3 : Bool} {R : Ending → Hp → Prop} {s1 : Hp} (hm : MenAt s1 x L.men) (hy : RowAt s1 y (vals d)) (hv : valid L = true) (hd : ∀ m ∈ d, m < L.n) (hln : d.length = L.n)
    (c0 : cellAt s1 ((⟨B, 0, none⟩ : Addr).add 0) = some (.slice x L.n c)) (c1 : cellAt s1 ((⟨B, 0, none⟩ : Addr).add 1) = some (.int .i64 L.worst)) (hp : p < d.length) (hok : ∀ k, k < p → brk L k (d.getD k 0) (prev d k) = 0)
    (h : ∀ t nx, Ext s1 t → B_law03_LotLawful_0 W R ⟨B, 0, none⟩ y d.length c' r q1 q2 q3 p false p nx t) :
    L_law03_LotLawful_0 W R ⟨B, 0, none⟩ y d.length c' r q1 q2 q3 (p : Int) false 0 s1 := by
  have v := vd_iff.1 hv
  have hn8 := v.hi
  refine L_law03_LotLawful_0_rule W R ⟨B, 0, none⟩ y d.length c' r q1 q2 q3 p (fun bb n t => bb = false ∧ Ext s1 t ∧ ∃ k : Nat, k ≤ p ∧ n = k) (fun _ n _ => (p - n).toNat) false 0 s1 ⟨rfl, Ext.refl _, 0, by omega, rfl⟩ ?_
  rintro b9 n t ⟨rfl, et, k, hk, rfl⟩
  by_cases hkp : k = p
  · subst hkp; exact h t _ et
  have hkp' : k < p := by omega
  have hz := hok k hkp'
  have hz' := brk_zero L k (d.getD k 0) (prev d k)
  rw [decide_eq_true hz] at hz'
  have hz2 : (r1 L (d.getD k 0) (prev d k) || r2 L k (d.getD k 0) || r3 L k (d.getD k 0)) = false := by simpa using hz'
  have hr1 : r1 L (d.getD k 0) (prev d k) = false := by simp at hz2; exact hz2.1.1
  have hr2 : r2 L k (d.getD k 0) = false := by simp at hz2; exact hz2.1.2
  have hr3 : r3 L k (d.getD k 0) = false := by simp at hz2; exact hz2.2
  have hkd : k < d.length := by omega
  obtain ⟨a, b, ha, hb, g, hlt, g1, g2, g3⟩ := man_at (hm.ext et) (hy.ext et) hd hkd
  have ti : ((k : Int)).toNat = k := by omega
  have tm : (((d.getD k 0 : Nat) : Int)).toNat = d.getD k 0 := by omega
  have hw : IntKind.i64.wrap ((k : Int) + 1) = ((k + 1 : Nat) : Int) := by rw [wrap_i64 (by omega) (by omega)]; rfl
  unfold B_law03_LotLawful_0
  refine BR_dec (fun _ => ?_) (fun h1 => by omega)
  refine ⟨_, _, _, et.cell c0, a, ha, ⟨by omega, by omega⟩, _, by rw [ti]; exact g, b, hb, ⟨by omega, by omega⟩, ?_⟩
  rw [ti, tm]
  refine ⟨_, g1, _, g2, _, g3, ?_⟩
  refine man_new3' (et.cell c0) g g1 g2 g3 fun t2 e2 z2 o0 o1 o2 => ?_
  have e12 := et.trans e2
  have j14 : ∀ bb : Bool, bb = false → J_law03_LotLawful_14 W R bb ⟨B, 0, none⟩ y d.length c' r q1 q2 q3 p (fun vs => N_law03_LotLawful_0 (fun bb n t => bb = false ∧ Ext s1 t ∧ ∃ k : Nat, k ≤ p ∧ n = k) (fun _ n _ => (p - n).toNat) false k t vs) false k t2 := by
    rintro bb rfl
    unfold J_law03_LotLawful_14
    refine ⟨rfl, _, _, rfl, ⟨rfl, e12, k + 1, by omega, hw⟩, ?_⟩
    show ((p : Int) - IntKind.i64.wrap ((k : Int) + 1)).toNat < ((p : Int) - k).toNat
    rw [hw]; omega
  have j15 : ∀ bb : Bool, bb = false → J_law03_LotLawful_15 W R bb ⟨B, 0, none⟩ y d.length c' r q1 q2 q3 p (fun vs => N_law03_LotLawful_0 (fun bb n t => bb = false ∧ Ext s1 t ∧ ∃ k : Nat, k ≤ p ∧ n = k) (fun _ n _ => (p - n).toNat) false k t vs) false k t.size t2 := by
    rintro bb rfl
    unfold J_law03_LotLawful_15
    refine ⟨_, o2.cell, ?_⟩
    refine BR_bool (fun h3 => ?_) (fun h3 => j14 _ rfl)
    refine ⟨_, e12.cell c1, NNI_nat (j14 _ ?_)⟩
    rw [bad_eq v (by omega)]
    unfold r3 at hr3
    rw [h3] at hr3
    simpa using hr3
  have j16 : ∀ bb : Bool, bb = false → J_law03_LotLawful_16 W R bb ⟨B, 0, none⟩ y d.length c' r q1 q2 q3 p (fun vs => N_law03_LotLawful_0 (fun bb n t => bb = false ∧ Ext s1 t ∧ ∃ k : Nat, k ≤ p ∧ n = k) (fun _ n _ => (p - n).toNat) false k t vs) false k t.size t2 := by
    rintro bb rfl
    unfold J_law03_LotLawful_16
    refine ⟨_, o1.cell, ?_⟩
    refine BR_bool (fun h3 => j15 _ ?_) (fun h3 => j15 _ rfl)
    unfold r2 at hr2
    rw [h3] at hr2
    have hlt' : k < L.n - 1 := by omega
    have hd : decide (k < L.n - 1) = true := decide_eq_true hlt'
    rw [hd] at hr2
    have : ¬ k > 0 := by simpa using hr2
    have : ¬ ((k : Int) > 0) := by omega
    exact decide_eq_false this
  have j17 : ∀ bb : Bool, bb = (decide (k ≠ 0) && decide ((man L (d.getD k 0)).club ≠ 0)) → J_law03_LotLawful_17 W R bb t.size ⟨B, 0, none⟩ y d.length k c' r q1 q2 q3 p (fun vs => N_law03_LotLawful_0 (fun bb n t => bb = false ∧ Ext s1 t ∧ ∃ k : Nat, k ≤ p ∧ n = k) (fun _ n _ => (p - n).toNat) false k t vs) false t2 := by
    intro bb hbb
    unfold J_law03_LotLawful_17
    refine BR_bool (fun h2 => ?_) (fun h2 => j16 _ rfl)
    rw [h2] at hbb
    obtain ⟨hk0, hc0⟩ : k ≠ 0 ∧ (man L (d.getD k 0)).club ≠ 0 := by simpa using hbb.symm
    obtain ⟨a', b', ha', hb', g', hlt', gg1, _, _⟩ := man_at (hm.ext e12) (hy.ext e12) hd (show k - 1 < d.length by omega)
    have hp : prev d k = d.getD (k - 1) 0 := by unfold prev; rw [if_neg hk0]
    have hw' : IntKind.wrap .i64 ((k : Int) - 1) = ((k - 1 : Nat) : Int) := by rw [wrap_i64 (by omega) (by omega)]; omega
    refine ⟨_, o0.cell, _, _, _, e12.cell c0, ?_⟩
    dsimp only
    rw [hw']
    have ti' : (((k - 1 : Nat) : Int)).toNat = k - 1 := by omega
    have tm' : (((d.getD (k - 1) 0 : Nat) : Int)).toNat = d.getD (k - 1) 0 := by omega
    refine ⟨a', ha', ⟨by omega, by omega⟩, _, by rw [ti']; exact g', b', hb', ⟨by omega, by omega⟩, _, by rw [tm']; exact gg1, ?_⟩
    refine j16 _ ?_
    unfold r1 at hr1
    rw [hp] at hr1
    have h8 : d.getD (k - 1) 0 ≠ 8 := by omega
    simp only [h8, hc0, ne_eq, not_false_eq_true, decide_true, Bool.true_and] at hr1
    have := of_decide_eq_false hr1
    simpa using this
  refine BR_dec (fun h2 => ?_) (fun h2 => ?_)
  · refine ⟨_, o0.cell, ?_⟩
    refine j17 _ ?_
    have : k ≠ 0 := by omega
    simp [this, bne, Bool.beq_eq_decide_eq]
  · refine j17 _ ?_
    have : k = 0 := by omega
    simp [this]
end
end Go.Proofs.Ytocnkdkgajdejaa.G
