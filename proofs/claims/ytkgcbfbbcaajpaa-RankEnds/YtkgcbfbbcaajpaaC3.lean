import Derived.Test.YtkgcbfbbcaajpaaC2
/- Lemmas: contracts over the visible heap, and that they are sound; no condition. -/
/- More of the functions' shallow texts, by gen.py. -/
set_option linter.unusedVariables false
set_option maxRecDepth 100000
namespace Go.Proofs.Ytkgcbfbbcaajpaa.G
open Go.V
def an_15 : Nat → Ann := fun b => match b with
  | _ => {}
abbrev rv_15 : List ResultVar := [.cell 4 29, .tmp 5]
abbrev rs_15 : List Nat := [27, 4, 5]
def T_ref10_Sum (W : World) (n1 : Int) (n2 : Int) (x3 : Option Addr) (l4 : Nat) (c5 : Nat) (x6 : Option Addr) (l7 : Nat) (c8 : Nat) (n9 : Int) (R : Ending → Hp → Prop) : Hp → Prop :=
  NEW 25 [(.int .i64 n1), (.int .i64 n2), (.slice x3 l4 c5), (.slice x6 l7 c8)] fun B10 =>
    NEWZ Pg 29 fun B11 =>
      RDI .i64 (Addr.add ⟨B10, 0, none⟩ 0) fun n12 =>
        RDI .i64 (Addr.add ⟨B10, 0, none⟩ 1) fun n13 =>
          RDL (Addr.add ⟨B10, 0, none⟩ 2) fun x14 l15 c16 =>
            RDL (Addr.add ⟨B10, 0, none⟩ 3) fun x17 l18 c19 =>
              RDI .i64 (Addr.add ⟨B10, 0, none⟩ 0) fun n20 =>
                RDI .i64 (Addr.add ⟨B10, 0, none⟩ 1) fun n21 =>
                  RDL (Addr.add ⟨B10, 0, none⟩ 2) fun x22 l23 c24 =>
                    RDL (Addr.add ⟨B10, 0, none⟩ 3) fun x25 l26 c27 =>
                      CALL Pg W F_ref10_Man [(.agg #[(.int .i64 n20), (.int .i64 n21), (.slice x22 l23 c24), (.slice x25 l26 c27)]), (.int .i64 n9)]
                        (fun v28 => TYB v28 fun b30 =>
                          ANDS (RDI .i64 (Addr.add ⟨B10, 0, none⟩ 0) fun n31 =>
                            RDI .i64 (Addr.add ⟨B10, 0, none⟩ 1) fun n32 =>
                              RDL (Addr.add ⟨B10, 0, none⟩ 2) fun x33 l34 c35 =>
                                RDL (Addr.add ⟨B10, 0, none⟩ 3) fun x36 l37 c38 =>
                                  fun _ => ((.agg #[(.int .i64 n31), (.int .i64 n32), (.slice x33 l34 c35), (.slice x36 l37 c38)]) : Value) = (.agg #[(.int .i64 n12), (.int .i64 n13), (.slice x14 l15 c16), (.slice x17 l18 c19)])) <|
                            CALL Pg W F_ref10_check [(.agg #[(.int .i64 n12), (.int .i64 n13), (.slice x14 l15 c16), (.slice x17 l18 c19)]), (.bool b30)]
                              (fun v39 => TYI .i64 v39 fun n41 =>
                                BR (n41 != 0)
                                  (WR (Addr.add ⟨B11, 0, none⟩ 0) (.int .i64 0) <|
                                    WR (Addr.add ⟨B11, 0, none⟩ 1) (.int .i64 0) <|
                                      RDI .i64 (Addr.add ⟨B11, 0, none⟩ 0) fun n42 =>
                                        RDI .i64 (Addr.add ⟨B11, 0, none⟩ 1) fun n43 =>
                                          R (.returned (.tuple #[(.agg #[(.int .i64 n42), (.int .i64 n43)]), (.int .i64 n41)])))
                                  (RDI .i64 (Addr.add ⟨B10, 0, none⟩ 0) fun n44 =>
                                    RDI .i64 (Addr.add ⟨B10, 0, none⟩ 1) fun n45 =>
                                      RDL (Addr.add ⟨B10, 0, none⟩ 2) fun x46 l47 c48 =>
                                        RDL (Addr.add ⟨B10, 0, none⟩ 3) fun x49 l50 c51 =>
                                          RDI .i64 (Addr.add ⟨B10, 0, none⟩ 0) fun n52 =>
                                            RDI .i64 (Addr.add ⟨B10, 0, none⟩ 1) fun n53 =>
                                              RDL (Addr.add ⟨B10, 0, none⟩ 2) fun x54 l55 c56 =>
                                                RDL (Addr.add ⟨B10, 0, none⟩ 3) fun x57 l58 c59 =>
                                                  CALL Pg W F_ref10_least [(.agg #[(.int .i64 n44), (.int .i64 n45), (.slice x46 l47 c48), (.slice x49 l50 c51)]), (.int .i64 n9)]
                                                    (fun v60 => TYL v60 fun x62 l63 c64 =>
                                                      ANDS (RDI .i64 (Addr.add ⟨B10, 0, none⟩ 0) fun n65 =>
                                                        RDI .i64 (Addr.add ⟨B10, 0, none⟩ 1) fun n66 =>
                                                          RDL (Addr.add ⟨B10, 0, none⟩ 2) fun x67 l68 c69 =>
                                                            RDL (Addr.add ⟨B10, 0, none⟩ 3) fun x70 l71 c72 =>
                                                              fun _ => ((.agg #[(.int .i64 n65), (.int .i64 n66), (.slice x67 l68 c69), (.slice x70 l71 c72)]) : Value) = (.agg #[(.int .i64 n52), (.int .i64 n53), (.slice x54 l55 c56), (.slice x57 l58 c59)])) <|
                                                        IXS x62 l63 0 1 fun a73 =>
                                                          RDI .i64 a73 fun n74 =>
                                                            CALL Pg W F_ref10_most [(.agg #[(.int .i64 n52), (.int .i64 n53), (.slice x54 l55 c56), (.slice x57 l58 c59)]), (.int .i64 n9)]
                                                              (fun v75 => TYL v75 fun x77 l78 c79 =>
                                                                ANDS (RDI .i64 a73 fun n80 =>
                                                                  fun _ => ((.int .i64 n80) : Value) = (.int .i64 n74)) <|
                                                                  IXS x77 l78 0 1 fun a81 =>
                                                                    RDI .i64 a81 fun n82 =>
                                                                      WR (Addr.add ⟨B11, 0, none⟩ 0) (.int .i64 n74) <|
                                                                        WR (Addr.add ⟨B11, 0, none⟩ 1) (.int .i64 n82) <|
                                                                          RDI .i64 (Addr.add ⟨B11, 0, none⟩ 0) fun n83 =>
                                                                            RDI .i64 (Addr.add ⟨B11, 0, none⟩ 1) fun n84 =>
                                                                              R (.returned (.tuple #[(.agg #[(.int .i64 n83), (.int .i64 n84)]), (.int .i64 0)])))
                                                                (fun e76 => R (.panicked e76)))
                                                      (fun e61 => R (.panicked e61))))
                                (fun e40 => R (.panicked e40)))
                          (fun e29 => R (.panicked e29))
theorem T_ref10_Sum_eq (W : World) (n1 : Int) (n2 : Int) (x3 : Option Addr) (l4 : Nat) (c5 : Nat) (x6 : Option Addr) (l7 : Nat) (c8 : Nat) (n9 : Int) (R : Ending → Hp → Prop) : vfun Pg W an_15 Try.f15 [(.agg #[(.int .i64 n1), (.int .i64 n2), (.slice x3 l4 c5), (.slice x6 l7 c8)]), (.int .i64 n9)] R = T_ref10_Sum W n1 n2 x3 l4 c5 x6 l7 c8 n9 R := by kernel_rfl
theorem does_ref10_Sum (W : World) (n1 : Int) (n2 : Int) (x3 : Option Addr) (l4 : Nat) (c5 : Nat) (x6 : Option Addr) (l7 : Nat) (c8 : Nat) (n9 : Int) (R : Ending → Hp → Prop) (s : Hp) (h : T_ref10_Sum W n1 n2 x3 l4 c5 x6 l7 c8 n9 R s) : Does Pg W F_ref10_Sum #[(.agg #[(.int .i64 n1), (.int .i64 n2), (.slice x3 l4 c5), (.slice x6 l7 c8)]), (.int .i64 n9)] s R :=
  does_of_vfun Pg W an_15 Try.func15 rfl (by kernel_rfl) (by rw [T_ref10_Sum_eq]; exact h)
def an_17 : Nat → Ann := fun b => match b with
  | _ => {}
abbrev rv_17 : List ResultVar := [.tmp 6, .tmp 7]
abbrev rs_17 : List Nat := [30, 6, 7]
def J_ref10_Before_0 (W : World) (R : Ending → Hp → Prop) (n58 : Int) (n59 : Int) (x60 : Option Addr) (l61 : Nat) (c62 : Nat) (x63 : Option Addr) (l64 : Nat) (c65 : Nat) (b83 : Bool) (B11 : Nat) (n9 : Int) (n10 : Int) : Hp → Prop :=
  CALL Pg W F_ref10_check [(.agg #[(.int .i64 n58), (.int .i64 n59), (.slice x60 l61 c62), (.slice x63 l64 c65)]), (.bool b83)]
    (fun v84 => TYI .i64 v84 fun n86 =>
      BR (n86 != 0)
        (R (.returned (.tuple #[(.int .i64 0), (.int .i64 n86)])))
        (RDI .i64 (Addr.add ⟨B11, 0, none⟩ 0) fun n87 =>
          RDI .i64 (Addr.add ⟨B11, 0, none⟩ 1) fun n88 =>
            RDL (Addr.add ⟨B11, 0, none⟩ 2) fun x89 l90 c91 =>
              RDL (Addr.add ⟨B11, 0, none⟩ 3) fun x92 l93 c94 =>
                CALL Pg W F_ref10_surely [(.agg #[(.int .i64 n87), (.int .i64 n88), (.slice x89 l90 c91), (.slice x92 l93 c94)]), (.int .i64 n9), (.int .i64 n10)]
                  (fun v95 => TYB v95 fun b97 =>
                    BR b97
                      (R (.returned (.tuple #[(.int .i64 2), (.int .i64 0)])))
                      (RDI .i64 (Addr.add ⟨B11, 0, none⟩ 0) fun n98 =>
                        RDI .i64 (Addr.add ⟨B11, 0, none⟩ 1) fun n99 =>
                          RDL (Addr.add ⟨B11, 0, none⟩ 2) fun x100 l101 c102 =>
                            RDL (Addr.add ⟨B11, 0, none⟩ 3) fun x103 l104 c105 =>
                              CALL Pg W F_ref10_can [(.agg #[(.int .i64 n98), (.int .i64 n99), (.slice x100 l101 c102), (.slice x103 l104 c105)]), (.int .i64 n9), (.int .i64 n10)]
                                (fun v106 => TYB v106 fun b108 =>
                                  BR b108
                                    (R (.returned (.tuple #[(.int .i64 1), (.int .i64 0)])))
                                    (R (.returned (.tuple #[(.int .i64 0), (.int .i64 0)]))))
                                  (fun e107 => R (.panicked e107))))
                    (fun e96 => R (.panicked e96))))
      (fun e85 => R (.panicked e85))
def T_ref10_Before (W : World) (n1 : Int) (n2 : Int) (x3 : Option Addr) (l4 : Nat) (c5 : Nat) (x6 : Option Addr) (l7 : Nat) (c8 : Nat) (n9 : Int) (n10 : Int) (R : Ending → Hp → Prop) : Hp → Prop :=
  NEW 25 [(.int .i64 n1), (.int .i64 n2), (.slice x3 l4 c5), (.slice x6 l7 c8)] fun B11 =>
    RDI .i64 (Addr.add ⟨B11, 0, none⟩ 0) fun n12 =>
      RDI .i64 (Addr.add ⟨B11, 0, none⟩ 1) fun n13 =>
        RDL (Addr.add ⟨B11, 0, none⟩ 2) fun x14 l15 c16 =>
          RDL (Addr.add ⟨B11, 0, none⟩ 3) fun x17 l18 c19 =>
            RDI .i64 (Addr.add ⟨B11, 0, none⟩ 0) fun n20 =>
              RDI .i64 (Addr.add ⟨B11, 0, none⟩ 1) fun n21 =>
                RDL (Addr.add ⟨B11, 0, none⟩ 2) fun x22 l23 c24 =>
                  RDL (Addr.add ⟨B11, 0, none⟩ 3) fun x25 l26 c27 =>
                    CALL Pg W F_ref10_Man [(.agg #[(.int .i64 n20), (.int .i64 n21), (.slice x22 l23 c24), (.slice x25 l26 c27)]), (.int .i64 n9)]
                      (fun v28 => TYB v28 fun b30 =>
                        ANDS (RDI .i64 (Addr.add ⟨B11, 0, none⟩ 0) fun n31 =>
                          RDI .i64 (Addr.add ⟨B11, 0, none⟩ 1) fun n32 =>
                            RDL (Addr.add ⟨B11, 0, none⟩ 2) fun x33 l34 c35 =>
                              RDL (Addr.add ⟨B11, 0, none⟩ 3) fun x36 l37 c38 =>
                                fun _ => ((.agg #[(.int .i64 n31), (.int .i64 n32), (.slice x33 l34 c35), (.slice x36 l37 c38)]) : Value) = (.agg #[(.int .i64 n12), (.int .i64 n13), (.slice x14 l15 c16), (.slice x17 l18 c19)])) <|
                          BR b30
                            (RDI .i64 (Addr.add ⟨B11, 0, none⟩ 0) fun n39 =>
                              RDI .i64 (Addr.add ⟨B11, 0, none⟩ 1) fun n40 =>
                                RDL (Addr.add ⟨B11, 0, none⟩ 2) fun x41 l42 c43 =>
                                  RDL (Addr.add ⟨B11, 0, none⟩ 3) fun x44 l45 c46 =>
                                    CALL Pg W F_ref10_Man [(.agg #[(.int .i64 n39), (.int .i64 n40), (.slice x41 l42 c43), (.slice x44 l45 c46)]), (.int .i64 n10)]
                                      (fun v47 => TYB v47 fun b49 =>
                                        ANDS (RDI .i64 (Addr.add ⟨B11, 0, none⟩ 0) fun n50 =>
                                          RDI .i64 (Addr.add ⟨B11, 0, none⟩ 1) fun n51 =>
                                            RDL (Addr.add ⟨B11, 0, none⟩ 2) fun x52 l53 c54 =>
                                              RDL (Addr.add ⟨B11, 0, none⟩ 3) fun x55 l56 c57 =>
                                                fun _ => ((.agg #[(.int .i64 n50), (.int .i64 n51), (.slice x52 l53 c54), (.slice x55 l56 c57)]) : Value) = (.agg #[(.int .i64 n12), (.int .i64 n13), (.slice x14 l15 c16), (.slice x17 l18 c19)])) <|
                                          J_ref10_Before_0 W R n12 n13 x14 l15 c16 x17 l18 c19 b49 B11 n9 n10)
                                        (fun e48 => R (.panicked e48)))
                            (J_ref10_Before_0 W R n12 n13 x14 l15 c16 x17 l18 c19 false B11 n9 n10))
                        (fun e29 => R (.panicked e29))
theorem T_ref10_Before_eq (W : World) (n1 : Int) (n2 : Int) (x3 : Option Addr) (l4 : Nat) (c5 : Nat) (x6 : Option Addr) (l7 : Nat) (c8 : Nat) (n9 : Int) (n10 : Int) (R : Ending → Hp → Prop) : vfun Pg W an_17 Try.f17 [(.agg #[(.int .i64 n1), (.int .i64 n2), (.slice x3 l4 c5), (.slice x6 l7 c8)]), (.int .i64 n9), (.int .i64 n10)] R = T_ref10_Before W n1 n2 x3 l4 c5 x6 l7 c8 n9 n10 R := by kernel_rfl
theorem does_ref10_Before (W : World) (n1 : Int) (n2 : Int) (x3 : Option Addr) (l4 : Nat) (c5 : Nat) (x6 : Option Addr) (l7 : Nat) (c8 : Nat) (n9 : Int) (n10 : Int) (R : Ending → Hp → Prop) (s : Hp) (h : T_ref10_Before W n1 n2 x3 l4 c5 x6 l7 c8 n9 n10 R s) : Does Pg W F_ref10_Before #[(.agg #[(.int .i64 n1), (.int .i64 n2), (.slice x3 l4 c5), (.slice x6 l7 c8)]), (.int .i64 n9), (.int .i64 n10)] s R :=
  does_of_vfun Pg W an_17 Try.func17 rfl (by kernel_rfl) (by rw [T_ref10_Before_eq]; exact h)
def an_19 : Nat → Ann := fun b => match b with
  | _ => {}
abbrev rv_19 : List ResultVar := [.cell 4 29, .tmp 5]
abbrev rs_19 : List Nat := [19, 4, 5]
def T_ref10_Place (W : World) (n1 : Int) (n2 : Int) (x3 : Option Addr) (l4 : Nat) (c5 : Nat) (x6 : Option Addr) (l7 : Nat) (c8 : Nat) (n9 : Int) (R : Ending → Hp → Prop) : Hp → Prop :=
  NEW 25 [(.int .i64 n1), (.int .i64 n2), (.slice x3 l4 c5), (.slice x6 l7 c8)] fun B10 =>
    NEWZ Pg 29 fun B11 =>
      RDI .i64 (Addr.add ⟨B10, 0, none⟩ 0) fun n12 =>
        RDI .i64 (Addr.add ⟨B10, 0, none⟩ 1) fun n13 =>
          RDL (Addr.add ⟨B10, 0, none⟩ 2) fun x14 l15 c16 =>
            RDL (Addr.add ⟨B10, 0, none⟩ 3) fun x17 l18 c19 =>
              RDI .i64 (Addr.add ⟨B10, 0, none⟩ 0) fun n20 =>
                RDI .i64 (Addr.add ⟨B10, 0, none⟩ 1) fun n21 =>
                  RDL (Addr.add ⟨B10, 0, none⟩ 2) fun x22 l23 c24 =>
                    RDL (Addr.add ⟨B10, 0, none⟩ 3) fun x25 l26 c27 =>
                      CALL Pg W F_ref10_Man [(.agg #[(.int .i64 n20), (.int .i64 n21), (.slice x22 l23 c24), (.slice x25 l26 c27)]), (.int .i64 n9)]
                        (fun v28 => TYB v28 fun b30 =>
                          ANDS (RDI .i64 (Addr.add ⟨B10, 0, none⟩ 0) fun n31 =>
                            RDI .i64 (Addr.add ⟨B10, 0, none⟩ 1) fun n32 =>
                              RDL (Addr.add ⟨B10, 0, none⟩ 2) fun x33 l34 c35 =>
                                RDL (Addr.add ⟨B10, 0, none⟩ 3) fun x36 l37 c38 =>
                                  fun _ => ((.agg #[(.int .i64 n31), (.int .i64 n32), (.slice x33 l34 c35), (.slice x36 l37 c38)]) : Value) = (.agg #[(.int .i64 n12), (.int .i64 n13), (.slice x14 l15 c16), (.slice x17 l18 c19)])) <|
                            CALL Pg W F_ref10_check [(.agg #[(.int .i64 n12), (.int .i64 n13), (.slice x14 l15 c16), (.slice x17 l18 c19)]), (.bool b30)]
                              (fun v39 => TYI .i64 v39 fun n41 =>
                                BR (n41 != 0)
                                  (WR (Addr.add ⟨B11, 0, none⟩ 0) (.int .i64 0) <|
                                    WR (Addr.add ⟨B11, 0, none⟩ 1) (.int .i64 0) <|
                                      RDI .i64 (Addr.add ⟨B11, 0, none⟩ 0) fun n42 =>
                                        RDI .i64 (Addr.add ⟨B11, 0, none⟩ 1) fun n43 =>
                                          R (.returned (.tuple #[(.agg #[(.int .i64 n42), (.int .i64 n43)]), (.int .i64 n41)])))
                                  (RDI .i64 (Addr.add ⟨B10, 0, none⟩ 0) fun n44 =>
                                    RDI .i64 (Addr.add ⟨B10, 0, none⟩ 1) fun n45 =>
                                      RDL (Addr.add ⟨B10, 0, none⟩ 2) fun x46 l47 c48 =>
                                        RDL (Addr.add ⟨B10, 0, none⟩ 3) fun x49 l50 c51 =>
                                          CALL Pg W F_ref10_place [(.agg #[(.int .i64 n44), (.int .i64 n45), (.slice x46 l47 c48), (.slice x49 l50 c51)]), (.int .i64 n9)]
                                            (fun v52 => AGG v52 fun q54 => HD q54 fun v55 r56 => TYI .i64 v55 fun n57 =>
                                              HD r56 fun v58 r59 => TYI .i64 v58 fun n60 =>
                                                NL r59 <|
                                                  WR (Addr.add ⟨B11, 0, none⟩ 0) (.int .i64 n57) <|
                                                    WR (Addr.add ⟨B11, 0, none⟩ 1) (.int .i64 n60) <|
                                                      RDI .i64 (Addr.add ⟨B11, 0, none⟩ 0) fun n61 =>
                                                        RDI .i64 (Addr.add ⟨B11, 0, none⟩ 1) fun n62 =>
                                                          R (.returned (.tuple #[(.agg #[(.int .i64 n61), (.int .i64 n62)]), (.int .i64 0)])))
                                              (fun e53 => R (.panicked e53))))
                                (fun e40 => R (.panicked e40)))
                          (fun e29 => R (.panicked e29))
theorem T_ref10_Place_eq (W : World) (n1 : Int) (n2 : Int) (x3 : Option Addr) (l4 : Nat) (c5 : Nat) (x6 : Option Addr) (l7 : Nat) (c8 : Nat) (n9 : Int) (R : Ending → Hp → Prop) : vfun Pg W an_19 Try.f19 [(.agg #[(.int .i64 n1), (.int .i64 n2), (.slice x3 l4 c5), (.slice x6 l7 c8)]), (.int .i64 n9)] R = T_ref10_Place W n1 n2 x3 l4 c5 x6 l7 c8 n9 R := by kernel_rfl
theorem does_ref10_Place (W : World) (n1 : Int) (n2 : Int) (x3 : Option Addr) (l4 : Nat) (c5 : Nat) (x6 : Option Addr) (l7 : Nat) (c8 : Nat) (n9 : Int) (R : Ending → Hp → Prop) (s : Hp) (h : T_ref10_Place W n1 n2 x3 l4 c5 x6 l7 c8 n9 R s) : Does Pg W F_ref10_Place #[(.agg #[(.int .i64 n1), (.int .i64 n2), (.slice x3 l4 c5), (.slice x6 l7 c8)]), (.int .i64 n9)] s R :=
  does_of_vfun Pg W an_19 Try.func19 rfl (by kernel_rfl) (by rw [T_ref10_Place_eq]; exact h)
def an_21 : Nat → Ann := fun b => match b with
  | 0 => { ms := [5, 6, 7], ks := [.i .i64, .i .i64, .i .i64], us := [1, 2, 3, 4, 37], rt := false, ex := [] }
  | _ => {}
abbrev rv_21 : List ResultVar := [.tmp 2, .tmp 3, .tmp 4]
abbrev rs_21 : List Nat := [37, 2, 3, 4]
def L_ref10_Winners_0 (W : World) (R : Ending → Hp → Prop) (za0 : Addr) (n21 : Int) (n22 : Int) (n23 : Int) : Hp → Prop :=
  LOOPN [.i .i64, .i .i64, .i .i64] (fun ys next s => ∀ j : Tm, vc Pg W 37 rs_21 an_21 false (sub (bodyOf Try.f21) [1, 1, 1, 0, 1, 0, 0]) 0 (KLoop [5, 6, 7] [1, 2, 3, 4, 37] [(.pointer (some za0)), (.int .i64 0), (.int .i64 0), (.int .i64 0), (.tuple #[])] next (KBlk 0 (KS Pg W 37 rs_21 an_21 false (sub (bodyOf Try.f21) [1, 1, 1, 1]) 0 (fin Pg W 37 rv_21 R)))) (known [5, 6, 7] ys (known [1, 2, 3, 4, 37] [(.pointer (some za0)), (.int .i64 0), (.int .i64 0), (.int .i64 0), (.tuple #[])] j)) s) [(.int .i64 n21), (.int .i64 n22), (.int .i64 n23)]
def J_ref10_Winners_0 (W : World) (R : Ending → Hp → Prop) (za0 : Addr) (nx0 : List Value → Hp → Prop) (n52 : Int) (n53 : Int) (n23 : Int) : Hp → Prop :=
  NX [(.pointer (some za0)), (.int .i64 0), (.int .i64 0), (.int .i64 0), (.tuple #[])] [(.pointer (some za0)), (.int .i64 0), (.int .i64 0), (.int .i64 0), (.tuple #[])] (nx0 [(.int .i64 n52), (.int .i64 n53), (.int .i64 (IntKind.wrap .i64 (n23 + 1)))])
def J_ref10_Winners_1 (W : World) (R : Ending → Hp → Prop) (B42 : Nat) (n23 : Int) (za0 : Addr) (nx0 : List Value → Hp → Prop) (n47 : Int) (n22 : Int) : Hp → Prop :=
  RDI .i64 (Addr.add ⟨B42, 0, none⟩ 0) fun n48 =>
    BR (n48 == 1)
      (CALL Pg W F_ref10_power [(.int .i64 n23)]
        (fun v49 => TYI .i64 v49 fun n51 =>
          J_ref10_Winners_0 W R za0 nx0 n47 (IntKind.wrap .i64 (n22 + n51)) n23)
          (fun e50 => R (.panicked e50)))
      (J_ref10_Winners_0 W R za0 nx0 n47 n22 n23)
def B_ref10_Winners_0 (W : World) (R : Ending → Hp → Prop) (za0 : Addr) (n21 : Int) (n22 : Int) (n23 : Int) (nx0 : List Value → Hp → Prop) : Hp → Prop :=
  RDI .i64 (Addr.add za0 0) fun n24 =>
    BR (decide (n23 < n24))
      (RDI .i64 (Addr.add za0 0) fun n25 =>
        RDI .i64 (Addr.add za0 1) fun n26 =>
          RDL (Addr.add za0 2) fun x27 l28 c29 =>
            RDL (Addr.add za0 3) fun x30 l31 c32 =>
              CALL Pg W F_ref10_place [(.agg #[(.int .i64 n25), (.int .i64 n26), (.slice x27 l28 c29), (.slice x30 l31 c32)]), (.int .i64 n23)]
                (fun v33 => AGG v33 fun q35 => HD q35 fun v36 r37 => TYI .i64 v36 fun n38 =>
                  HD r37 fun v39 r40 => TYI .i64 v39 fun n41 =>
                    NL r40 <|
                      NEWZ Pg 29 fun B42 =>
                        WR (Addr.add ⟨B42, 0, none⟩ 0) (.int .i64 n38) <|
                          WR (Addr.add ⟨B42, 0, none⟩ 1) (.int .i64 n41) <|
                            RDI .i64 (Addr.add ⟨B42, 0, none⟩ 1) fun n43 =>
                              BR (n43 == 1)
                                (CALL Pg W F_ref10_power [(.int .i64 n23)]
                                  (fun v44 => TYI .i64 v44 fun n46 =>
                                    J_ref10_Winners_1 W R B42 n23 za0 nx0 (IntKind.wrap .i64 (n21 + n46)) n22)
                                    (fun e45 => R (.panicked e45)))
                                (J_ref10_Winners_1 W R B42 n23 za0 nx0 n21 n22))
                  (fun e34 => R (.panicked e34)))
      (R (.returned (.tuple #[(.int .i64 n21), (.int .i64 n22), (.int .i64 0)])))
theorem B_ref10_Winners_0_eq (W : World) (R : Ending → Hp → Prop) (za0 : Addr) (n21 : Int) (n22 : Int) (n23 : Int) (nx0 : List Value → Hp → Prop) (j : Tm) : vc Pg W 37 rs_21 an_21 false (sub (bodyOf Try.f21) [1, 1, 1, 0, 1, 0, 0]) 0 (KLoop [5, 6, 7] [1, 2, 3, 4, 37] [(.pointer (some za0)), (.int .i64 0), (.int .i64 0), (.int .i64 0), (.tuple #[])] nx0 (KBlk 0 (KS Pg W 37 rs_21 an_21 false (sub (bodyOf Try.f21) [1, 1, 1, 1]) 0 (fin Pg W 37 rv_21 R)))) (known [5, 6, 7] [(.int .i64 n21), (.int .i64 n22), (.int .i64 n23)] (known [1, 2, 3, 4, 37] [(.pointer (some za0)), (.int .i64 0), (.int .i64 0), (.int .i64 0), (.tuple #[])] j)) = B_ref10_Winners_0 W R za0 n21 n22 n23 nx0 := by kernel_rfl
def N_ref10_Winners_0 (I : Int → Int → Int → Hp → Prop) (μ : Int → Int → Int → Hp → Nat) (n210 : Int) (n220 : Int) (n230 : Int) (s : Hp) (vs : List Value) : Hp → Prop := fun s' => ∃ n21 n22 n23, vs = [(.int .i64 n21), (.int .i64 n22), (.int .i64 n23)] ∧ I n21 n22 n23 s' ∧ μ n21 n22 n23 s' < μ n210 n220 n230 s
theorem L_ref10_Winners_0_rule (W : World) (R : Ending → Hp → Prop) (za0 : Addr) (I : Int → Int → Int → Hp → Prop) (μ : Int → Int → Int → Hp → Nat) (n210 : Int) (n220 : Int) (n230 : Int) (s : Hp) (h0 : I n210 n220 n230 s)
    (hr : ∀ (n21 : Int) (n22 : Int) (n23 : Int) (s : Hp), I n21 n22 n23 s → B_ref10_Winners_0 W R za0 n21 n22 n23 (fun vs => N_ref10_Winners_0 I μ n21 n22 n23 s vs) s) : L_ref10_Winners_0 W R za0 n210 n220 n230 s := by
  refine ⟨fun vs s => ∃ n21 n22 n23, vs = [(.int .i64 n21), (.int .i64 n22), (.int .i64 n23)] ∧ I n21 n22 n23 s, fun vs s => (match vs with | [.int _ n21, .int _ n22, .int _ n23] => μ n21 n22 n23 s | _ => 0), ⟨⟨⟨_, rfl⟩, ⟨⟨_, rfl⟩, ⟨⟨_, rfl⟩, trivial⟩⟩⟩, ⟨_, _, _, rfl, h0⟩⟩, ?_⟩
  intro n21 n22 n23 s hI j
  obtain ⟨n21', n22', n23', hy, hI⟩ := hI
  have hI' : I n21 n22 n23 s := by cases hy; exact hI
  have hh := hr n21 n22 n23 s hI'
  rw [← B_ref10_Winners_0_eq W R za0 n21 n22 n23 _ j] at hh
  refine vc_mono ?_ _ _ hh
  exact KLoop_mono (fun vs s' h => by obtain ⟨n211, n221, n231, rfl, h1, h2⟩ := h; exact ⟨⟨⟨_, rfl⟩, ⟨⟨_, rfl⟩, ⟨⟨_, rfl⟩, trivial⟩⟩⟩, ⟨_, _, _, rfl, h1⟩, h2⟩)
def T_ref10_Winners (W : World) (n1 : Int) (n2 : Int) (x3 : Option Addr) (l4 : Nat) (c5 : Nat) (x6 : Option Addr) (l7 : Nat) (c8 : Nat) (R : Ending → Hp → Prop) : Hp → Prop :=
  NEW 25 [(.int .i64 n1), (.int .i64 n2), (.slice x3 l4 c5), (.slice x6 l7 c8)] fun B9 =>
    RDI .i64 (Addr.add ⟨B9, 0, none⟩ 0) fun n10 =>
      RDI .i64 (Addr.add ⟨B9, 0, none⟩ 1) fun n11 =>
        RDL (Addr.add ⟨B9, 0, none⟩ 2) fun x12 l13 c14 =>
          RDL (Addr.add ⟨B9, 0, none⟩ 3) fun x15 l16 c17 =>
            CALL Pg W F_ref10_Table [(.agg #[(.int .i64 n10), (.int .i64 n11), (.slice x12 l13 c14), (.slice x15 l16 c17)])]
              (fun v18 => TYB v18 fun b20 =>
                BR (!b20)
                  (R (.returned (.tuple #[(.int .i64 0), (.int .i64 0), (.int .i64 1)])))
                  (L_ref10_Winners_0 W R ⟨B9, 0, none⟩ 0 0 0))
                (fun e19 => R (.panicked e19))
theorem T_ref10_Winners_eq (W : World) (n1 : Int) (n2 : Int) (x3 : Option Addr) (l4 : Nat) (c5 : Nat) (x6 : Option Addr) (l7 : Nat) (c8 : Nat) (R : Ending → Hp → Prop) : vfun Pg W an_21 Try.f21 [(.agg #[(.int .i64 n1), (.int .i64 n2), (.slice x3 l4 c5), (.slice x6 l7 c8)])] R = T_ref10_Winners W n1 n2 x3 l4 c5 x6 l7 c8 R := by kernel_rfl
theorem does_ref10_Winners (W : World) (n1 : Int) (n2 : Int) (x3 : Option Addr) (l4 : Nat) (c5 : Nat) (x6 : Option Addr) (l7 : Nat) (c8 : Nat) (R : Ending → Hp → Prop) (s : Hp) (h : T_ref10_Winners W n1 n2 x3 l4 c5 x6 l7 c8 R s) : Does Pg W F_ref10_Winners #[(.agg #[(.int .i64 n1), (.int .i64 n2), (.slice x3 l4 c5), (.slice x6 l7 c8)])] s R :=
  does_of_vfun Pg W an_21 Try.func21 rfl (by kernel_rfl) (by rw [T_ref10_Winners_eq]; exact h)
def an_23 : Nat → Ann := fun b => match b with
  | 0 => { ms := [9, 10], ks := [.b, .i .i64], us := [1, 2, 3, 6, 7, 71], rt := false, ex := [] }
  | _ => {}
abbrev rv_23 : List ResultVar := [.tmp 6, .tmp 7]
abbrev rs_23 : List Nat := [71, 6, 7]
def L_ref10_Equal_0 (W : World) (R : Ending → Hp → Prop) (zn0 : Int) (zn1 : Int) (za2 : Addr) (b97 : Bool) (n98 : Int) : Hp → Prop :=
  LOOPN [.b, .i .i64] (fun ys next s => ∀ j : Tm, vc Pg W 71 rs_23 an_23 false (sub (bodyOf Try.f23) [1, 1, 1, 1, 0, 1, 0, 0]) 0 (KLoop [9, 10] [1, 2, 3, 6, 7, 71] [(.int .i64 zn0), (.int .i64 zn1), (.pointer (some za2)), (.bool false), (.int .i64 0), (.tuple #[])] next (KBlk 0 (KS Pg W 71 rs_23 an_23 false (sub (bodyOf Try.f23) [1, 1, 1, 1, 1]) 0 (fin Pg W 71 rv_23 R)))) (known [9, 10] ys (known [1, 2, 3, 6, 7, 71] [(.int .i64 zn0), (.int .i64 zn1), (.pointer (some za2)), (.bool false), (.int .i64 0), (.tuple #[])] j)) s) [(.bool b97), (.int .i64 n98)]
def J_ref10_Equal_0 (W : World) (R : Ending → Hp → Prop) (n58 : Int) (n59 : Int) (x60 : Option Addr) (l61 : Nat) (c62 : Nat) (x63 : Option Addr) (l64 : Nat) (c65 : Nat) (b83 : Bool) (B11 : Nat) (n9 : Int) (n10 : Int) : Hp → Prop :=
  CALL Pg W F_ref10_check [(.agg #[(.int .i64 n58), (.int .i64 n59), (.slice x60 l61 c62), (.slice x63 l64 c65)]), (.bool b83)]
    (fun v84 => TYI .i64 v84 fun n86 =>
      BR (n86 != 0)
        (R (.returned (.tuple #[(.bool false), (.int .i64 n86)])))
        (RDL (Addr.add ⟨B11, 0, none⟩ 2) fun x87 l88 c89 =>
          IXS x87 l88 n9 1 fun a90 =>
            RDI .i64 a90 fun n91 =>
              RDL (Addr.add ⟨B11, 0, none⟩ 2) fun x92 l93 c94 =>
                IXS x92 l93 n10 1 fun a95 =>
                  RDI .i64 a95 fun n96 =>
                    L_ref10_Equal_0 W R n9 n10 ⟨B11, 0, none⟩ (n91 == n96) 0))
      (fun e85 => R (.panicked e85))
def J_ref10_Equal_1 (W : World) (R : Ending → Hp → Prop) (zn0 : Int) (zn1 : Int) (za2 : Addr) (nx0 : List Value → Hp → Prop) (b186 : Bool) (n98 : Int) : Hp → Prop :=
  NX [(.int .i64 zn0), (.int .i64 zn1), (.pointer (some za2)), (.bool false), (.int .i64 0), (.tuple #[])] [(.int .i64 zn0), (.int .i64 zn1), (.pointer (some za2)), (.bool false), (.int .i64 0), (.tuple #[])] (nx0 [(.bool b186), (.int .i64 (IntKind.wrap .i64 (n98 + 1)))])
def J_ref10_Equal_2 (W : World) (R : Ending → Hp → Prop) (b97 : Bool) (p176 : Option Addr) (p177 : Option Addr) (zn0 : Int) (zn1 : Int) (za2 : Addr) (nx0 : List Value → Hp → Prop) (n98 : Int) : Hp → Prop :=
  BR b97
    (SO p176 fun a178 =>
      RDI .i64 (Addr.add a178 0) fun n179 =>
        SO p177 fun a180 =>
          RDI .i64 (Addr.add a180 0) fun n181 =>
            SO p176 fun a182 =>
              RDI .i64 (Addr.add a182 1) fun n183 =>
                SO p177 fun a184 =>
                  RDI .i64 (Addr.add a184 1) fun n185 =>
                    J_ref10_Equal_1 W R zn0 zn1 za2 nx0 (decide ((if n181 > n179 then n181 else n179) ≤ (if n185 < n183 then n185 else n183))) n98)
    (J_ref10_Equal_1 W R zn0 zn1 za2 nx0 false n98)
def B_ref10_Equal_0 (W : World) (R : Ending → Hp → Prop) (zn0 : Int) (zn1 : Int) (za2 : Addr) (b97 : Bool) (n98 : Int) (nx0 : List Value → Hp → Prop) : Hp → Prop :=
  RDI .i64 (Addr.add za2 1) fun n99 =>
    BR (decide (n98 < n99))
      (RDI .i64 (Addr.add za2 0) fun n100 =>
        RDI .i64 (Addr.add za2 1) fun n101 =>
          RDL (Addr.add za2 2) fun x102 l103 c104 =>
            RDL (Addr.add za2 3) fun x105 l106 c107 =>
              RDI .i64 (Addr.add za2 0) fun n108 =>
                RDI .i64 (Addr.add za2 1) fun n109 =>
                  RDL (Addr.add za2 2) fun x110 l111 c112 =>
                    RDL (Addr.add za2 3) fun x113 l114 c115 =>
                      CONJ [
                        CALL Pg W F_ref10_Points [(.agg #[(.int .i64 n100), (.int .i64 n101), (.slice x102 l103 c104), (.slice x105 l106 c107)]), (.int .i64 zn0), (.int .i64 n98)]
                          (fun v116 => AGG v116 fun q118 => HD q118 fun v119 r120 => TYI .i64 v119 fun n121 =>
                            HD r120 fun v122 r123 => TYI .i64 v122 fun n124 =>
                              NL r123 <|
                                ANDS (RDI .i64 (Addr.add za2 0) fun n125 =>
                                  RDI .i64 (Addr.add za2 1) fun n126 =>
                                    RDL (Addr.add za2 2) fun x127 l128 c129 =>
                                      RDL (Addr.add za2 3) fun x130 l131 c132 =>
                                        fun _ => ((.agg #[(.int .i64 n125), (.int .i64 n126), (.slice x127 l128 c129), (.slice x130 l131 c132)]) : Value) = (.agg #[(.int .i64 n108), (.int .i64 n109), (.slice x110 l111 c112), (.slice x113 l114 c115)])) <|
                                  CONJ [
                                    CALL Pg W F_ref10_Points [(.agg #[(.int .i64 n108), (.int .i64 n109), (.slice x110 l111 c112), (.slice x113 l114 c115)]), (.int .i64 zn1), (.int .i64 n98)]
                                      (fun v133 => AGG v133 fun q135 => HD q135 fun v136 r137 => TYI .i64 v136 fun n138 =>
                                        HD r137 fun v139 r140 => TYI .i64 v139 fun n141 =>
                                          NL r140 <|
                                            CONJ [
                                              NEWZ Pg 29 fun B142 =>
                                                ANDS (RDI .i64 (Addr.add za2 0) fun n143 =>
                                                  RDI .i64 (Addr.add za2 1) fun n144 =>
                                                    RDL (Addr.add za2 2) fun x145 l146 c147 =>
                                                      RDL (Addr.add za2 3) fun x148 l149 c150 =>
                                                        fun _ => ((.agg #[(.int .i64 n143), (.int .i64 n144), (.slice x145 l146 c147), (.slice x148 l149 c150)]) : Value) = (.agg #[(.int .i64 n108), (.int .i64 n109), (.slice x110 l111 c112), (.slice x113 l114 c115)])) <|
                                                  ANDS (RDI .i64 (Addr.add za2 0) fun n151 =>
                                                    RDI .i64 (Addr.add za2 1) fun n152 =>
                                                      RDL (Addr.add za2 2) fun x153 l154 c155 =>
                                                        RDL (Addr.add za2 3) fun x156 l157 c158 =>
                                                          fun _ => ((.agg #[(.int .i64 n151), (.int .i64 n152), (.slice x153 l154 c155), (.slice x156 l157 c158)]) : Value) = (.agg #[(.int .i64 n100), (.int .i64 n101), (.slice x102 l103 c104), (.slice x105 l106 c107)])) <|
                                                    NEWZ Pg 29 fun B159 =>
                                                      ANDS (RDI .i64 (Addr.add za2 0) fun n160 =>
                                                        RDI .i64 (Addr.add za2 1) fun n161 =>
                                                          RDL (Addr.add za2 2) fun x162 l163 c164 =>
                                                            RDL (Addr.add za2 3) fun x165 l166 c167 =>
                                                              fun _ => ((.agg #[(.int .i64 n160), (.int .i64 n161), (.slice x162 l163 c164), (.slice x165 l166 c167)]) : Value) = (.agg #[(.int .i64 n108), (.int .i64 n109), (.slice x110 l111 c112), (.slice x113 l114 c115)])) <|
                                                        ANDS (RDI .i64 (Addr.add za2 0) fun n168 =>
                                                          RDI .i64 (Addr.add za2 1) fun n169 =>
                                                            RDL (Addr.add za2 2) fun x170 l171 c172 =>
                                                              RDL (Addr.add za2 3) fun x173 l174 c175 =>
                                                                fun _ => ((.agg #[(.int .i64 n168), (.int .i64 n169), (.slice x170 l171 c172), (.slice x173 l174 c175)]) : Value) = (.agg #[(.int .i64 n100), (.int .i64 n101), (.slice x102 l103 c104), (.slice x105 l106 c107)])) <|
                                                          WR (Addr.add ⟨B142, 0, none⟩ 0) (.int .i64 n121) <|
                                                            WR (Addr.add ⟨B142, 0, none⟩ 1) (.int .i64 n124) <|
                                                              WR (Addr.add ⟨B159, 0, none⟩ 0) (.int .i64 n138) <|
                                                                WR (Addr.add ⟨B159, 0, none⟩ 1) (.int .i64 n141) <|
                                                                  J_ref10_Equal_2 W R b97 (some ⟨B142, 0, none⟩) (some ⟨B159, 0, none⟩) zn0 zn1 za2 nx0 n98,
                                              NEWZ Pg 29 fun B187 =>
                                                ANDS (RDI .i64 (Addr.add za2 0) fun n188 =>
                                                  RDI .i64 (Addr.add za2 1) fun n189 =>
                                                    RDL (Addr.add za2 2) fun x190 l191 c192 =>
                                                      RDL (Addr.add za2 3) fun x193 l194 c195 =>
                                                        fun _ => ((.agg #[(.int .i64 n188), (.int .i64 n189), (.slice x190 l191 c192), (.slice x193 l194 c195)]) : Value) = (.agg #[(.int .i64 n108), (.int .i64 n109), (.slice x110 l111 c112), (.slice x113 l114 c115)])) <|
                                                  ANDS (RDI .i64 (Addr.add za2 0) fun n196 =>
                                                    RDI .i64 (Addr.add za2 1) fun n197 =>
                                                      RDL (Addr.add za2 2) fun x198 l199 c200 =>
                                                        RDL (Addr.add za2 3) fun x201 l202 c203 =>
                                                          fun _ => ((.agg #[(.int .i64 n196), (.int .i64 n197), (.slice x198 l199 c200), (.slice x201 l202 c203)]) : Value) = (.agg #[(.int .i64 n100), (.int .i64 n101), (.slice x102 l103 c104), (.slice x105 l106 c107)])) <|
                                                    NEWZ Pg 29 fun B204 =>
                                                      ANDS (RDI .i64 (Addr.add za2 0) fun n205 =>
                                                        RDI .i64 (Addr.add za2 1) fun n206 =>
                                                          RDL (Addr.add za2 2) fun x207 l208 c209 =>
                                                            RDL (Addr.add za2 3) fun x210 l211 c212 =>
                                                              fun _ => ((.agg #[(.int .i64 n205), (.int .i64 n206), (.slice x207 l208 c209), (.slice x210 l211 c212)]) : Value) = (.agg #[(.int .i64 n108), (.int .i64 n109), (.slice x110 l111 c112), (.slice x113 l114 c115)])) <|
                                                        ANDS (RDI .i64 (Addr.add za2 0) fun n213 =>
                                                          RDI .i64 (Addr.add za2 1) fun n214 =>
                                                            RDL (Addr.add za2 2) fun x215 l216 c217 =>
                                                              RDL (Addr.add za2 3) fun x218 l219 c220 =>
                                                                fun _ => ((.agg #[(.int .i64 n213), (.int .i64 n214), (.slice x215 l216 c217), (.slice x218 l219 c220)]) : Value) = (.agg #[(.int .i64 n100), (.int .i64 n101), (.slice x102 l103 c104), (.slice x105 l106 c107)])) <|
                                                          WR (Addr.add ⟨B204, 0, none⟩ 0) (.int .i64 n121) <|
                                                            WR (Addr.add ⟨B204, 0, none⟩ 1) (.int .i64 n124) <|
                                                              WR (Addr.add ⟨B187, 0, none⟩ 0) (.int .i64 n138) <|
                                                                WR (Addr.add ⟨B187, 0, none⟩ 1) (.int .i64 n141) <|
                                                                  J_ref10_Equal_2 W R b97 (some ⟨B204, 0, none⟩) (some ⟨B187, 0, none⟩) zn0 zn1 za2 nx0 n98])
                                        (fun e134 => R (.panicked e134)),
                                    NEWZ Pg 29 fun B221 =>
                                      ANDS (RDI .i64 (Addr.add za2 0) fun n222 =>
                                        RDI .i64 (Addr.add za2 1) fun n223 =>
                                          RDL (Addr.add za2 2) fun x224 l225 c226 =>
                                            RDL (Addr.add za2 3) fun x227 l228 c229 =>
                                              fun _ => ((.agg #[(.int .i64 n222), (.int .i64 n223), (.slice x224 l225 c226), (.slice x227 l228 c229)]) : Value) = (.agg #[(.int .i64 n108), (.int .i64 n109), (.slice x110 l111 c112), (.slice x113 l114 c115)])) <|
                                        ANDS (RDI .i64 (Addr.add za2 0) fun n230 =>
                                          RDI .i64 (Addr.add za2 1) fun n231 =>
                                            RDL (Addr.add za2 2) fun x232 l233 c234 =>
                                              RDL (Addr.add za2 3) fun x235 l236 c237 =>
                                                fun _ => ((.agg #[(.int .i64 n230), (.int .i64 n231), (.slice x232 l233 c234), (.slice x235 l236 c237)]) : Value) = (.agg #[(.int .i64 n100), (.int .i64 n101), (.slice x102 l103 c104), (.slice x105 l106 c107)])) <|
                                          CONJ [
                                            CALL Pg W F_ref10_Points [(.agg #[(.int .i64 n108), (.int .i64 n109), (.slice x110 l111 c112), (.slice x113 l114 c115)]), (.int .i64 zn1), (.int .i64 n98)]
                                              (fun v238 => AGG v238 fun q240 => HD q240 fun v241 r242 => TYI .i64 v241 fun n243 =>
                                                HD r242 fun v244 r245 => TYI .i64 v244 fun n246 =>
                                                  NL r245 <|
                                                    NEWZ Pg 29 fun B247 =>
                                                      ANDS (RDI .i64 (Addr.add za2 0) fun n248 =>
                                                        RDI .i64 (Addr.add za2 1) fun n249 =>
                                                          RDL (Addr.add za2 2) fun x250 l251 c252 =>
                                                            RDL (Addr.add za2 3) fun x253 l254 c255 =>
                                                              fun _ => ((.agg #[(.int .i64 n248), (.int .i64 n249), (.slice x250 l251 c252), (.slice x253 l254 c255)]) : Value) = (.agg #[(.int .i64 n108), (.int .i64 n109), (.slice x110 l111 c112), (.slice x113 l114 c115)])) <|
                                                        ANDS (RDI .i64 (Addr.add za2 0) fun n256 =>
                                                          RDI .i64 (Addr.add za2 1) fun n257 =>
                                                            RDL (Addr.add za2 2) fun x258 l259 c260 =>
                                                              RDL (Addr.add za2 3) fun x261 l262 c263 =>
                                                                fun _ => ((.agg #[(.int .i64 n256), (.int .i64 n257), (.slice x258 l259 c260), (.slice x261 l262 c263)]) : Value) = (.agg #[(.int .i64 n100), (.int .i64 n101), (.slice x102 l103 c104), (.slice x105 l106 c107)])) <|
                                                          WR (Addr.add ⟨B221, 0, none⟩ 0) (.int .i64 n121) <|
                                                            WR (Addr.add ⟨B221, 0, none⟩ 1) (.int .i64 n124) <|
                                                              WR (Addr.add ⟨B247, 0, none⟩ 0) (.int .i64 n243) <|
                                                                WR (Addr.add ⟨B247, 0, none⟩ 1) (.int .i64 n246) <|
                                                                  J_ref10_Equal_2 W R b97 (some ⟨B221, 0, none⟩) (some ⟨B247, 0, none⟩) zn0 zn1 za2 nx0 n98)
                                                (fun e239 => R (.panicked e239)),
                                            NEWZ Pg 29 fun B264 =>
                                              ANDS (RDI .i64 (Addr.add za2 0) fun n265 =>
                                                RDI .i64 (Addr.add za2 1) fun n266 =>
                                                  RDL (Addr.add za2 2) fun x267 l268 c269 =>
                                                    RDL (Addr.add za2 3) fun x270 l271 c272 =>
                                                      fun _ => ((.agg #[(.int .i64 n265), (.int .i64 n266), (.slice x267 l268 c269), (.slice x270 l271 c272)]) : Value) = (.agg #[(.int .i64 n108), (.int .i64 n109), (.slice x110 l111 c112), (.slice x113 l114 c115)])) <|
                                                ANDS (RDI .i64 (Addr.add za2 0) fun n273 =>
                                                  RDI .i64 (Addr.add za2 1) fun n274 =>
                                                    RDL (Addr.add za2 2) fun x275 l276 c277 =>
                                                      RDL (Addr.add za2 3) fun x278 l279 c280 =>
                                                        fun _ => ((.agg #[(.int .i64 n273), (.int .i64 n274), (.slice x275 l276 c277), (.slice x278 l279 c280)]) : Value) = (.agg #[(.int .i64 n100), (.int .i64 n101), (.slice x102 l103 c104), (.slice x105 l106 c107)])) <|
                                                  CALL Pg W F_ref10_Points [(.agg #[(.int .i64 n108), (.int .i64 n109), (.slice x110 l111 c112), (.slice x113 l114 c115)]), (.int .i64 zn1), (.int .i64 n98)]
                                                    (fun v281 => AGG v281 fun q283 => HD q283 fun v284 r285 => TYI .i64 v284 fun n286 =>
                                                      HD r285 fun v287 r288 => TYI .i64 v287 fun n289 =>
                                                        NL r288 <|
                                                          WR (Addr.add ⟨B221, 0, none⟩ 0) (.int .i64 n121) <|
                                                            WR (Addr.add ⟨B221, 0, none⟩ 1) (.int .i64 n124) <|
                                                              WR (Addr.add ⟨B264, 0, none⟩ 0) (.int .i64 n286) <|
                                                                WR (Addr.add ⟨B264, 0, none⟩ 1) (.int .i64 n289) <|
                                                                  J_ref10_Equal_2 W R b97 (some ⟨B221, 0, none⟩) (some ⟨B264, 0, none⟩) zn0 zn1 za2 nx0 n98)
                                                      (fun e282 => R (.panicked e282))],
                                    NEWZ Pg 29 fun B290 =>
                                      ANDS (RDI .i64 (Addr.add za2 0) fun n291 =>
                                        RDI .i64 (Addr.add za2 1) fun n292 =>
                                          RDL (Addr.add za2 2) fun x293 l294 c295 =>
                                            RDL (Addr.add za2 3) fun x296 l297 c298 =>
                                              fun _ => ((.agg #[(.int .i64 n291), (.int .i64 n292), (.slice x293 l294 c295), (.slice x296 l297 c298)]) : Value) = (.agg #[(.int .i64 n108), (.int .i64 n109), (.slice x110 l111 c112), (.slice x113 l114 c115)])) <|
                                        ANDS (RDI .i64 (Addr.add za2 0) fun n299 =>
                                          RDI .i64 (Addr.add za2 1) fun n300 =>
                                            RDL (Addr.add za2 2) fun x301 l302 c303 =>
                                              RDL (Addr.add za2 3) fun x304 l305 c306 =>
                                                fun _ => ((.agg #[(.int .i64 n299), (.int .i64 n300), (.slice x301 l302 c303), (.slice x304 l305 c306)]) : Value) = (.agg #[(.int .i64 n100), (.int .i64 n101), (.slice x102 l103 c104), (.slice x105 l106 c107)])) <|
                                          CONJ [
                                            CALL Pg W F_ref10_Points [(.agg #[(.int .i64 n108), (.int .i64 n109), (.slice x110 l111 c112), (.slice x113 l114 c115)]), (.int .i64 zn1), (.int .i64 n98)]
                                              (fun v307 => AGG v307 fun q309 => HD q309 fun v310 r311 => TYI .i64 v310 fun n312 =>
                                                HD r311 fun v313 r314 => TYI .i64 v313 fun n315 =>
                                                  NL r314 <|
                                                    NEWZ Pg 29 fun B316 =>
                                                      ANDS (RDI .i64 (Addr.add za2 0) fun n317 =>
                                                        RDI .i64 (Addr.add za2 1) fun n318 =>
                                                          RDL (Addr.add za2 2) fun x319 l320 c321 =>
                                                            RDL (Addr.add za2 3) fun x322 l323 c324 =>
                                                              fun _ => ((.agg #[(.int .i64 n317), (.int .i64 n318), (.slice x319 l320 c321), (.slice x322 l323 c324)]) : Value) = (.agg #[(.int .i64 n108), (.int .i64 n109), (.slice x110 l111 c112), (.slice x113 l114 c115)])) <|
                                                        ANDS (RDI .i64 (Addr.add za2 0) fun n325 =>
                                                          RDI .i64 (Addr.add za2 1) fun n326 =>
                                                            RDL (Addr.add za2 2) fun x327 l328 c329 =>
                                                              RDL (Addr.add za2 3) fun x330 l331 c332 =>
                                                                fun _ => ((.agg #[(.int .i64 n325), (.int .i64 n326), (.slice x327 l328 c329), (.slice x330 l331 c332)]) : Value) = (.agg #[(.int .i64 n100), (.int .i64 n101), (.slice x102 l103 c104), (.slice x105 l106 c107)])) <|
                                                          WR (Addr.add ⟨B316, 0, none⟩ 0) (.int .i64 n121) <|
                                                            WR (Addr.add ⟨B316, 0, none⟩ 1) (.int .i64 n124) <|
                                                              WR (Addr.add ⟨B290, 0, none⟩ 0) (.int .i64 n312) <|
                                                                WR (Addr.add ⟨B290, 0, none⟩ 1) (.int .i64 n315) <|
                                                                  J_ref10_Equal_2 W R b97 (some ⟨B316, 0, none⟩) (some ⟨B290, 0, none⟩) zn0 zn1 za2 nx0 n98)
                                                (fun e308 => R (.panicked e308)),
                                            NEWZ Pg 29 fun B333 =>
                                              ANDS (RDI .i64 (Addr.add za2 0) fun n334 =>
                                                RDI .i64 (Addr.add za2 1) fun n335 =>
                                                  RDL (Addr.add za2 2) fun x336 l337 c338 =>
                                                    RDL (Addr.add za2 3) fun x339 l340 c341 =>
                                                      fun _ => ((.agg #[(.int .i64 n334), (.int .i64 n335), (.slice x336 l337 c338), (.slice x339 l340 c341)]) : Value) = (.agg #[(.int .i64 n108), (.int .i64 n109), (.slice x110 l111 c112), (.slice x113 l114 c115)])) <|
                                                ANDS (RDI .i64 (Addr.add za2 0) fun n342 =>
                                                  RDI .i64 (Addr.add za2 1) fun n343 =>
                                                    RDL (Addr.add za2 2) fun x344 l345 c346 =>
                                                      RDL (Addr.add za2 3) fun x347 l348 c349 =>
                                                        fun _ => ((.agg #[(.int .i64 n342), (.int .i64 n343), (.slice x344 l345 c346), (.slice x347 l348 c349)]) : Value) = (.agg #[(.int .i64 n100), (.int .i64 n101), (.slice x102 l103 c104), (.slice x105 l106 c107)])) <|
                                                  CALL Pg W F_ref10_Points [(.agg #[(.int .i64 n108), (.int .i64 n109), (.slice x110 l111 c112), (.slice x113 l114 c115)]), (.int .i64 zn1), (.int .i64 n98)]
                                                    (fun v350 => AGG v350 fun q352 => HD q352 fun v353 r354 => TYI .i64 v353 fun n355 =>
                                                      HD r354 fun v356 r357 => TYI .i64 v356 fun n358 =>
                                                        NL r357 <|
                                                          WR (Addr.add ⟨B333, 0, none⟩ 0) (.int .i64 n121) <|
                                                            WR (Addr.add ⟨B333, 0, none⟩ 1) (.int .i64 n124) <|
                                                              WR (Addr.add ⟨B290, 0, none⟩ 0) (.int .i64 n355) <|
                                                                WR (Addr.add ⟨B290, 0, none⟩ 1) (.int .i64 n358) <|
                                                                  J_ref10_Equal_2 W R b97 (some ⟨B333, 0, none⟩) (some ⟨B290, 0, none⟩) zn0 zn1 za2 nx0 n98)
                                                      (fun e351 => R (.panicked e351))]])
                            (fun e117 => R (.panicked e117)),
                        NEWZ Pg 29 fun B359 =>
                          ANDS (RDI .i64 (Addr.add za2 0) fun n360 =>
                            RDI .i64 (Addr.add za2 1) fun n361 =>
                              RDL (Addr.add za2 2) fun x362 l363 c364 =>
                                RDL (Addr.add za2 3) fun x365 l366 c367 =>
                                  fun _ => ((.agg #[(.int .i64 n360), (.int .i64 n361), (.slice x362 l363 c364), (.slice x365 l366 c367)]) : Value) = (.agg #[(.int .i64 n108), (.int .i64 n109), (.slice x110 l111 c112), (.slice x113 l114 c115)])) <|
                            ANDS (RDI .i64 (Addr.add za2 0) fun n368 =>
                              RDI .i64 (Addr.add za2 1) fun n369 =>
                                RDL (Addr.add za2 2) fun x370 l371 c372 =>
                                  RDL (Addr.add za2 3) fun x373 l374 c375 =>
                                    fun _ => ((.agg #[(.int .i64 n368), (.int .i64 n369), (.slice x370 l371 c372), (.slice x373 l374 c375)]) : Value) = (.agg #[(.int .i64 n100), (.int .i64 n101), (.slice x102 l103 c104), (.slice x105 l106 c107)])) <|
                              CONJ [
                                CALL Pg W F_ref10_Points [(.agg #[(.int .i64 n100), (.int .i64 n101), (.slice x102 l103 c104), (.slice x105 l106 c107)]), (.int .i64 zn0), (.int .i64 n98)]
                                  (fun v376 => AGG v376 fun q378 => HD q378 fun v379 r380 => TYI .i64 v379 fun n381 =>
                                    HD r380 fun v382 r383 => TYI .i64 v382 fun n384 =>
                                      NL r383 <|
                                        ANDS (RDI .i64 (Addr.add za2 0) fun n385 =>
                                          RDI .i64 (Addr.add za2 1) fun n386 =>
                                            RDL (Addr.add za2 2) fun x387 l388 c389 =>
                                              RDL (Addr.add za2 3) fun x390 l391 c392 =>
                                                fun _ => ((.agg #[(.int .i64 n385), (.int .i64 n386), (.slice x387 l388 c389), (.slice x390 l391 c392)]) : Value) = (.agg #[(.int .i64 n108), (.int .i64 n109), (.slice x110 l111 c112), (.slice x113 l114 c115)])) <|
                                          CONJ [
                                            CALL Pg W F_ref10_Points [(.agg #[(.int .i64 n108), (.int .i64 n109), (.slice x110 l111 c112), (.slice x113 l114 c115)]), (.int .i64 zn1), (.int .i64 n98)]
                                              (fun v393 => AGG v393 fun q395 => HD q395 fun v396 r397 => TYI .i64 v396 fun n398 =>
                                                HD r397 fun v399 r400 => TYI .i64 v399 fun n401 =>
                                                  NL r400 <|
                                                    NEWZ Pg 29 fun B402 =>
                                                      ANDS (RDI .i64 (Addr.add za2 0) fun n403 =>
                                                        RDI .i64 (Addr.add za2 1) fun n404 =>
                                                          RDL (Addr.add za2 2) fun x405 l406 c407 =>
                                                            RDL (Addr.add za2 3) fun x408 l409 c410 =>
                                                              fun _ => ((.agg #[(.int .i64 n403), (.int .i64 n404), (.slice x405 l406 c407), (.slice x408 l409 c410)]) : Value) = (.agg #[(.int .i64 n108), (.int .i64 n109), (.slice x110 l111 c112), (.slice x113 l114 c115)])) <|
                                                        ANDS (RDI .i64 (Addr.add za2 0) fun n411 =>
                                                          RDI .i64 (Addr.add za2 1) fun n412 =>
                                                            RDL (Addr.add za2 2) fun x413 l414 c415 =>
                                                              RDL (Addr.add za2 3) fun x416 l417 c418 =>
                                                                fun _ => ((.agg #[(.int .i64 n411), (.int .i64 n412), (.slice x413 l414 c415), (.slice x416 l417 c418)]) : Value) = (.agg #[(.int .i64 n100), (.int .i64 n101), (.slice x102 l103 c104), (.slice x105 l106 c107)])) <|
                                                          WR (Addr.add ⟨B359, 0, none⟩ 0) (.int .i64 n381) <|
                                                            WR (Addr.add ⟨B359, 0, none⟩ 1) (.int .i64 n384) <|
                                                              WR (Addr.add ⟨B402, 0, none⟩ 0) (.int .i64 n398) <|
                                                                WR (Addr.add ⟨B402, 0, none⟩ 1) (.int .i64 n401) <|
                                                                  J_ref10_Equal_2 W R b97 (some ⟨B359, 0, none⟩) (some ⟨B402, 0, none⟩) zn0 zn1 za2 nx0 n98)
                                                (fun e394 => R (.panicked e394)),
                                            NEWZ Pg 29 fun B419 =>
                                              ANDS (RDI .i64 (Addr.add za2 0) fun n420 =>
                                                RDI .i64 (Addr.add za2 1) fun n421 =>
                                                  RDL (Addr.add za2 2) fun x422 l423 c424 =>
                                                    RDL (Addr.add za2 3) fun x425 l426 c427 =>
                                                      fun _ => ((.agg #[(.int .i64 n420), (.int .i64 n421), (.slice x422 l423 c424), (.slice x425 l426 c427)]) : Value) = (.agg #[(.int .i64 n108), (.int .i64 n109), (.slice x110 l111 c112), (.slice x113 l114 c115)])) <|
                                                ANDS (RDI .i64 (Addr.add za2 0) fun n428 =>
                                                  RDI .i64 (Addr.add za2 1) fun n429 =>
                                                    RDL (Addr.add za2 2) fun x430 l431 c432 =>
                                                      RDL (Addr.add za2 3) fun x433 l434 c435 =>
                                                        fun _ => ((.agg #[(.int .i64 n428), (.int .i64 n429), (.slice x430 l431 c432), (.slice x433 l434 c435)]) : Value) = (.agg #[(.int .i64 n100), (.int .i64 n101), (.slice x102 l103 c104), (.slice x105 l106 c107)])) <|
                                                  CALL Pg W F_ref10_Points [(.agg #[(.int .i64 n108), (.int .i64 n109), (.slice x110 l111 c112), (.slice x113 l114 c115)]), (.int .i64 zn1), (.int .i64 n98)]
                                                    (fun v436 => AGG v436 fun q438 => HD q438 fun v439 r440 => TYI .i64 v439 fun n441 =>
                                                      HD r440 fun v442 r443 => TYI .i64 v442 fun n444 =>
                                                        NL r443 <|
                                                          WR (Addr.add ⟨B359, 0, none⟩ 0) (.int .i64 n381) <|
                                                            WR (Addr.add ⟨B359, 0, none⟩ 1) (.int .i64 n384) <|
                                                              WR (Addr.add ⟨B419, 0, none⟩ 0) (.int .i64 n441) <|
                                                                WR (Addr.add ⟨B419, 0, none⟩ 1) (.int .i64 n444) <|
                                                                  J_ref10_Equal_2 W R b97 (some ⟨B359, 0, none⟩) (some ⟨B419, 0, none⟩) zn0 zn1 za2 nx0 n98)
                                                      (fun e437 => R (.panicked e437))])
                                    (fun e377 => R (.panicked e377)),
                                NEWZ Pg 29 fun B445 =>
                                  ANDS (RDI .i64 (Addr.add za2 0) fun n446 =>
                                    RDI .i64 (Addr.add za2 1) fun n447 =>
                                      RDL (Addr.add za2 2) fun x448 l449 c450 =>
                                        RDL (Addr.add za2 3) fun x451 l452 c453 =>
                                          fun _ => ((.agg #[(.int .i64 n446), (.int .i64 n447), (.slice x448 l449 c450), (.slice x451 l452 c453)]) : Value) = (.agg #[(.int .i64 n108), (.int .i64 n109), (.slice x110 l111 c112), (.slice x113 l114 c115)])) <|
                                    ANDS (RDI .i64 (Addr.add za2 0) fun n454 =>
                                      RDI .i64 (Addr.add za2 1) fun n455 =>
                                        RDL (Addr.add za2 2) fun x456 l457 c458 =>
                                          RDL (Addr.add za2 3) fun x459 l460 c461 =>
                                            fun _ => ((.agg #[(.int .i64 n454), (.int .i64 n455), (.slice x456 l457 c458), (.slice x459 l460 c461)]) : Value) = (.agg #[(.int .i64 n100), (.int .i64 n101), (.slice x102 l103 c104), (.slice x105 l106 c107)])) <|
                                      CALL Pg W F_ref10_Points [(.agg #[(.int .i64 n100), (.int .i64 n101), (.slice x102 l103 c104), (.slice x105 l106 c107)]), (.int .i64 zn0), (.int .i64 n98)]
                                        (fun v462 => AGG v462 fun q464 => HD q464 fun v465 r466 => TYI .i64 v465 fun n467 =>
                                          HD r466 fun v468 r469 => TYI .i64 v468 fun n470 =>
                                            NL r469 <|
                                              ANDS (RDI .i64 (Addr.add za2 0) fun n471 =>
                                                RDI .i64 (Addr.add za2 1) fun n472 =>
                                                  RDL (Addr.add za2 2) fun x473 l474 c475 =>
                                                    RDL (Addr.add za2 3) fun x476 l477 c478 =>
                                                      fun _ => ((.agg #[(.int .i64 n471), (.int .i64 n472), (.slice x473 l474 c475), (.slice x476 l477 c478)]) : Value) = (.agg #[(.int .i64 n108), (.int .i64 n109), (.slice x110 l111 c112), (.slice x113 l114 c115)])) <|
                                                CALL Pg W F_ref10_Points [(.agg #[(.int .i64 n108), (.int .i64 n109), (.slice x110 l111 c112), (.slice x113 l114 c115)]), (.int .i64 zn1), (.int .i64 n98)]
                                                  (fun v479 => AGG v479 fun q481 => HD q481 fun v482 r483 => TYI .i64 v482 fun n484 =>
                                                    HD r483 fun v485 r486 => TYI .i64 v485 fun n487 =>
                                                      NL r486 <|
                                                        WR (Addr.add ⟨B359, 0, none⟩ 0) (.int .i64 n467) <|
                                                          WR (Addr.add ⟨B359, 0, none⟩ 1) (.int .i64 n470) <|
                                                            WR (Addr.add ⟨B445, 0, none⟩ 0) (.int .i64 n484) <|
                                                              WR (Addr.add ⟨B445, 0, none⟩ 1) (.int .i64 n487) <|
                                                                J_ref10_Equal_2 W R b97 (some ⟨B359, 0, none⟩) (some ⟨B445, 0, none⟩) zn0 zn1 za2 nx0 n98)
                                                    (fun e480 => R (.panicked e480)))
                                          (fun e463 => R (.panicked e463))],
                        NEWZ Pg 29 fun B488 =>
                          ANDS (RDI .i64 (Addr.add za2 0) fun n489 =>
                            RDI .i64 (Addr.add za2 1) fun n490 =>
                              RDL (Addr.add za2 2) fun x491 l492 c493 =>
                                RDL (Addr.add za2 3) fun x494 l495 c496 =>
                                  fun _ => ((.agg #[(.int .i64 n489), (.int .i64 n490), (.slice x491 l492 c493), (.slice x494 l495 c496)]) : Value) = (.agg #[(.int .i64 n108), (.int .i64 n109), (.slice x110 l111 c112), (.slice x113 l114 c115)])) <|
                            ANDS (RDI .i64 (Addr.add za2 0) fun n497 =>
                              RDI .i64 (Addr.add za2 1) fun n498 =>
                                RDL (Addr.add za2 2) fun x499 l500 c501 =>
                                  RDL (Addr.add za2 3) fun x502 l503 c504 =>
                                    fun _ => ((.agg #[(.int .i64 n497), (.int .i64 n498), (.slice x499 l500 c501), (.slice x502 l503 c504)]) : Value) = (.agg #[(.int .i64 n100), (.int .i64 n101), (.slice x102 l103 c104), (.slice x105 l106 c107)])) <|
                              CONJ [
                                CALL Pg W F_ref10_Points [(.agg #[(.int .i64 n100), (.int .i64 n101), (.slice x102 l103 c104), (.slice x105 l106 c107)]), (.int .i64 zn0), (.int .i64 n98)]
                                  (fun v505 => AGG v505 fun q507 => HD q507 fun v508 r509 => TYI .i64 v508 fun n510 =>
                                    HD r509 fun v511 r512 => TYI .i64 v511 fun n513 =>
                                      NL r512 <|
                                        ANDS (RDI .i64 (Addr.add za2 0) fun n514 =>
                                          RDI .i64 (Addr.add za2 1) fun n515 =>
                                            RDL (Addr.add za2 2) fun x516 l517 c518 =>
                                              RDL (Addr.add za2 3) fun x519 l520 c521 =>
                                                fun _ => ((.agg #[(.int .i64 n514), (.int .i64 n515), (.slice x516 l517 c518), (.slice x519 l520 c521)]) : Value) = (.agg #[(.int .i64 n108), (.int .i64 n109), (.slice x110 l111 c112), (.slice x113 l114 c115)])) <|
                                          CONJ [
                                            CALL Pg W F_ref10_Points [(.agg #[(.int .i64 n108), (.int .i64 n109), (.slice x110 l111 c112), (.slice x113 l114 c115)]), (.int .i64 zn1), (.int .i64 n98)]
                                              (fun v522 => AGG v522 fun q524 => HD q524 fun v525 r526 => TYI .i64 v525 fun n527 =>
                                                HD r526 fun v528 r529 => TYI .i64 v528 fun n530 =>
                                                  NL r529 <|
                                                    NEWZ Pg 29 fun B531 =>
                                                      ANDS (RDI .i64 (Addr.add za2 0) fun n532 =>
                                                        RDI .i64 (Addr.add za2 1) fun n533 =>
                                                          RDL (Addr.add za2 2) fun x534 l535 c536 =>
                                                            RDL (Addr.add za2 3) fun x537 l538 c539 =>
                                                              fun _ => ((.agg #[(.int .i64 n532), (.int .i64 n533), (.slice x534 l535 c536), (.slice x537 l538 c539)]) : Value) = (.agg #[(.int .i64 n108), (.int .i64 n109), (.slice x110 l111 c112), (.slice x113 l114 c115)])) <|
                                                        ANDS (RDI .i64 (Addr.add za2 0) fun n540 =>
                                                          RDI .i64 (Addr.add za2 1) fun n541 =>
                                                            RDL (Addr.add za2 2) fun x542 l543 c544 =>
                                                              RDL (Addr.add za2 3) fun x545 l546 c547 =>
                                                                fun _ => ((.agg #[(.int .i64 n540), (.int .i64 n541), (.slice x542 l543 c544), (.slice x545 l546 c547)]) : Value) = (.agg #[(.int .i64 n100), (.int .i64 n101), (.slice x102 l103 c104), (.slice x105 l106 c107)])) <|
                                                          WR (Addr.add ⟨B531, 0, none⟩ 0) (.int .i64 n510) <|
                                                            WR (Addr.add ⟨B531, 0, none⟩ 1) (.int .i64 n513) <|
                                                              WR (Addr.add ⟨B488, 0, none⟩ 0) (.int .i64 n527) <|
                                                                WR (Addr.add ⟨B488, 0, none⟩ 1) (.int .i64 n530) <|
                                                                  J_ref10_Equal_2 W R b97 (some ⟨B531, 0, none⟩) (some ⟨B488, 0, none⟩) zn0 zn1 za2 nx0 n98)
                                                (fun e523 => R (.panicked e523)),
                                            NEWZ Pg 29 fun B548 =>
                                              ANDS (RDI .i64 (Addr.add za2 0) fun n549 =>
                                                RDI .i64 (Addr.add za2 1) fun n550 =>
                                                  RDL (Addr.add za2 2) fun x551 l552 c553 =>
                                                    RDL (Addr.add za2 3) fun x554 l555 c556 =>
                                                      fun _ => ((.agg #[(.int .i64 n549), (.int .i64 n550), (.slice x551 l552 c553), (.slice x554 l555 c556)]) : Value) = (.agg #[(.int .i64 n108), (.int .i64 n109), (.slice x110 l111 c112), (.slice x113 l114 c115)])) <|
                                                ANDS (RDI .i64 (Addr.add za2 0) fun n557 =>
                                                  RDI .i64 (Addr.add za2 1) fun n558 =>
                                                    RDL (Addr.add za2 2) fun x559 l560 c561 =>
                                                      RDL (Addr.add za2 3) fun x562 l563 c564 =>
                                                        fun _ => ((.agg #[(.int .i64 n557), (.int .i64 n558), (.slice x559 l560 c561), (.slice x562 l563 c564)]) : Value) = (.agg #[(.int .i64 n100), (.int .i64 n101), (.slice x102 l103 c104), (.slice x105 l106 c107)])) <|
                                                  CALL Pg W F_ref10_Points [(.agg #[(.int .i64 n108), (.int .i64 n109), (.slice x110 l111 c112), (.slice x113 l114 c115)]), (.int .i64 zn1), (.int .i64 n98)]
                                                    (fun v565 => AGG v565 fun q567 => HD q567 fun v568 r569 => TYI .i64 v568 fun n570 =>
                                                      HD r569 fun v571 r572 => TYI .i64 v571 fun n573 =>
                                                        NL r572 <|
                                                          WR (Addr.add ⟨B548, 0, none⟩ 0) (.int .i64 n510) <|
                                                            WR (Addr.add ⟨B548, 0, none⟩ 1) (.int .i64 n513) <|
                                                              WR (Addr.add ⟨B488, 0, none⟩ 0) (.int .i64 n570) <|
                                                                WR (Addr.add ⟨B488, 0, none⟩ 1) (.int .i64 n573) <|
                                                                  J_ref10_Equal_2 W R b97 (some ⟨B548, 0, none⟩) (some ⟨B488, 0, none⟩) zn0 zn1 za2 nx0 n98)
                                                      (fun e566 => R (.panicked e566))])
                                    (fun e506 => R (.panicked e506)),
                                NEWZ Pg 29 fun B574 =>
                                  ANDS (RDI .i64 (Addr.add za2 0) fun n575 =>
                                    RDI .i64 (Addr.add za2 1) fun n576 =>
                                      RDL (Addr.add za2 2) fun x577 l578 c579 =>
                                        RDL (Addr.add za2 3) fun x580 l581 c582 =>
                                          fun _ => ((.agg #[(.int .i64 n575), (.int .i64 n576), (.slice x577 l578 c579), (.slice x580 l581 c582)]) : Value) = (.agg #[(.int .i64 n108), (.int .i64 n109), (.slice x110 l111 c112), (.slice x113 l114 c115)])) <|
                                    ANDS (RDI .i64 (Addr.add za2 0) fun n583 =>
                                      RDI .i64 (Addr.add za2 1) fun n584 =>
                                        RDL (Addr.add za2 2) fun x585 l586 c587 =>
                                          RDL (Addr.add za2 3) fun x588 l589 c590 =>
                                            fun _ => ((.agg #[(.int .i64 n583), (.int .i64 n584), (.slice x585 l586 c587), (.slice x588 l589 c590)]) : Value) = (.agg #[(.int .i64 n100), (.int .i64 n101), (.slice x102 l103 c104), (.slice x105 l106 c107)])) <|
                                      CALL Pg W F_ref10_Points [(.agg #[(.int .i64 n100), (.int .i64 n101), (.slice x102 l103 c104), (.slice x105 l106 c107)]), (.int .i64 zn0), (.int .i64 n98)]
                                        (fun v591 => AGG v591 fun q593 => HD q593 fun v594 r595 => TYI .i64 v594 fun n596 =>
                                          HD r595 fun v597 r598 => TYI .i64 v597 fun n599 =>
                                            NL r598 <|
                                              ANDS (RDI .i64 (Addr.add za2 0) fun n600 =>
                                                RDI .i64 (Addr.add za2 1) fun n601 =>
                                                  RDL (Addr.add za2 2) fun x602 l603 c604 =>
                                                    RDL (Addr.add za2 3) fun x605 l606 c607 =>
                                                      fun _ => ((.agg #[(.int .i64 n600), (.int .i64 n601), (.slice x602 l603 c604), (.slice x605 l606 c607)]) : Value) = (.agg #[(.int .i64 n108), (.int .i64 n109), (.slice x110 l111 c112), (.slice x113 l114 c115)])) <|
                                                CALL Pg W F_ref10_Points [(.agg #[(.int .i64 n108), (.int .i64 n109), (.slice x110 l111 c112), (.slice x113 l114 c115)]), (.int .i64 zn1), (.int .i64 n98)]
                                                  (fun v608 => AGG v608 fun q610 => HD q610 fun v611 r612 => TYI .i64 v611 fun n613 =>
                                                    HD r612 fun v614 r615 => TYI .i64 v614 fun n616 =>
                                                      NL r615 <|
                                                        WR (Addr.add ⟨B574, 0, none⟩ 0) (.int .i64 n596) <|
                                                          WR (Addr.add ⟨B574, 0, none⟩ 1) (.int .i64 n599) <|
                                                            WR (Addr.add ⟨B488, 0, none⟩ 0) (.int .i64 n613) <|
                                                              WR (Addr.add ⟨B488, 0, none⟩ 1) (.int .i64 n616) <|
                                                                J_ref10_Equal_2 W R b97 (some ⟨B574, 0, none⟩) (some ⟨B488, 0, none⟩) zn0 zn1 za2 nx0 n98)
                                                    (fun e609 => R (.panicked e609)))
                                          (fun e592 => R (.panicked e592))]])
      (BR b97
        (R (.returned (.tuple #[(.bool true), (.int .i64 0)])))
        (R (.returned (.tuple #[(.bool (zn0 == zn1)), (.int .i64 0)]))))
theorem B_ref10_Equal_0_eq (W : World) (R : Ending → Hp → Prop) (zn0 : Int) (zn1 : Int) (za2 : Addr) (b97 : Bool) (n98 : Int) (nx0 : List Value → Hp → Prop) (j : Tm) : vc Pg W 71 rs_23 an_23 false (sub (bodyOf Try.f23) [1, 1, 1, 1, 0, 1, 0, 0]) 0 (KLoop [9, 10] [1, 2, 3, 6, 7, 71] [(.int .i64 zn0), (.int .i64 zn1), (.pointer (some za2)), (.bool false), (.int .i64 0), (.tuple #[])] nx0 (KBlk 0 (KS Pg W 71 rs_23 an_23 false (sub (bodyOf Try.f23) [1, 1, 1, 1, 1]) 0 (fin Pg W 71 rv_23 R)))) (known [9, 10] [(.bool b97), (.int .i64 n98)] (known [1, 2, 3, 6, 7, 71] [(.int .i64 zn0), (.int .i64 zn1), (.pointer (some za2)), (.bool false), (.int .i64 0), (.tuple #[])] j)) = B_ref10_Equal_0 W R zn0 zn1 za2 b97 n98 nx0 := by kernel_rfl
def N_ref10_Equal_0 (I : Bool → Int → Hp → Prop) (μ : Bool → Int → Hp → Nat) (b970 : Bool) (n980 : Int) (s : Hp) (vs : List Value) : Hp → Prop := fun s' => ∃ b97 n98, vs = [(.bool b97), (.int .i64 n98)] ∧ I b97 n98 s' ∧ μ b97 n98 s' < μ b970 n980 s
theorem L_ref10_Equal_0_rule (W : World) (R : Ending → Hp → Prop) (zn0 : Int) (zn1 : Int) (za2 : Addr) (I : Bool → Int → Hp → Prop) (μ : Bool → Int → Hp → Nat) (b970 : Bool) (n980 : Int) (s : Hp) (h0 : I b970 n980 s)
    (hr : ∀ (b97 : Bool) (n98 : Int) (s : Hp), I b97 n98 s → B_ref10_Equal_0 W R zn0 zn1 za2 b97 n98 (fun vs => N_ref10_Equal_0 I μ b97 n98 s vs) s) : L_ref10_Equal_0 W R zn0 zn1 za2 b970 n980 s := by
  refine ⟨fun vs s => ∃ b97 n98, vs = [(.bool b97), (.int .i64 n98)] ∧ I b97 n98 s, fun vs s => (match vs with | [.bool b97, .int _ n98] => μ b97 n98 s | _ => 0), ⟨⟨⟨_, rfl⟩, ⟨⟨_, rfl⟩, trivial⟩⟩, ⟨_, _, rfl, h0⟩⟩, ?_⟩
  intro b97 n98 s hI j
  obtain ⟨b97', n98', hy, hI⟩ := hI
  have hI' : I b97 n98 s := by cases hy; exact hI
  have hh := hr b97 n98 s hI'
  rw [← B_ref10_Equal_0_eq W R zn0 zn1 za2 b97 n98 _ j] at hh
  refine vc_mono ?_ _ _ hh
  exact KLoop_mono (fun vs s' h => by obtain ⟨b971, n981, rfl, h1, h2⟩ := h; exact ⟨⟨⟨_, rfl⟩, ⟨⟨_, rfl⟩, trivial⟩⟩, ⟨_, _, rfl, h1⟩, h2⟩)
def T_ref10_Equal (W : World) (n1 : Int) (n2 : Int) (x3 : Option Addr) (l4 : Nat) (c5 : Nat) (x6 : Option Addr) (l7 : Nat) (c8 : Nat) (n9 : Int) (n10 : Int) (R : Ending → Hp → Prop) : Hp → Prop :=
  NEW 25 [(.int .i64 n1), (.int .i64 n2), (.slice x3 l4 c5), (.slice x6 l7 c8)] fun B11 =>
    RDI .i64 (Addr.add ⟨B11, 0, none⟩ 0) fun n12 =>
      RDI .i64 (Addr.add ⟨B11, 0, none⟩ 1) fun n13 =>
        RDL (Addr.add ⟨B11, 0, none⟩ 2) fun x14 l15 c16 =>
          RDL (Addr.add ⟨B11, 0, none⟩ 3) fun x17 l18 c19 =>
            RDI .i64 (Addr.add ⟨B11, 0, none⟩ 0) fun n20 =>
              RDI .i64 (Addr.add ⟨B11, 0, none⟩ 1) fun n21 =>
                RDL (Addr.add ⟨B11, 0, none⟩ 2) fun x22 l23 c24 =>
                  RDL (Addr.add ⟨B11, 0, none⟩ 3) fun x25 l26 c27 =>
                    CALL Pg W F_ref10_Man [(.agg #[(.int .i64 n20), (.int .i64 n21), (.slice x22 l23 c24), (.slice x25 l26 c27)]), (.int .i64 n9)]
                      (fun v28 => TYB v28 fun b30 =>
                        ANDS (RDI .i64 (Addr.add ⟨B11, 0, none⟩ 0) fun n31 =>
                          RDI .i64 (Addr.add ⟨B11, 0, none⟩ 1) fun n32 =>
                            RDL (Addr.add ⟨B11, 0, none⟩ 2) fun x33 l34 c35 =>
                              RDL (Addr.add ⟨B11, 0, none⟩ 3) fun x36 l37 c38 =>
                                fun _ => ((.agg #[(.int .i64 n31), (.int .i64 n32), (.slice x33 l34 c35), (.slice x36 l37 c38)]) : Value) = (.agg #[(.int .i64 n12), (.int .i64 n13), (.slice x14 l15 c16), (.slice x17 l18 c19)])) <|
                          BR b30
                            (RDI .i64 (Addr.add ⟨B11, 0, none⟩ 0) fun n39 =>
                              RDI .i64 (Addr.add ⟨B11, 0, none⟩ 1) fun n40 =>
                                RDL (Addr.add ⟨B11, 0, none⟩ 2) fun x41 l42 c43 =>
                                  RDL (Addr.add ⟨B11, 0, none⟩ 3) fun x44 l45 c46 =>
                                    CALL Pg W F_ref10_Man [(.agg #[(.int .i64 n39), (.int .i64 n40), (.slice x41 l42 c43), (.slice x44 l45 c46)]), (.int .i64 n10)]
                                      (fun v47 => TYB v47 fun b49 =>
                                        ANDS (RDI .i64 (Addr.add ⟨B11, 0, none⟩ 0) fun n50 =>
                                          RDI .i64 (Addr.add ⟨B11, 0, none⟩ 1) fun n51 =>
                                            RDL (Addr.add ⟨B11, 0, none⟩ 2) fun x52 l53 c54 =>
                                              RDL (Addr.add ⟨B11, 0, none⟩ 3) fun x55 l56 c57 =>
                                                fun _ => ((.agg #[(.int .i64 n50), (.int .i64 n51), (.slice x52 l53 c54), (.slice x55 l56 c57)]) : Value) = (.agg #[(.int .i64 n12), (.int .i64 n13), (.slice x14 l15 c16), (.slice x17 l18 c19)])) <|
                                          J_ref10_Equal_0 W R n12 n13 x14 l15 c16 x17 l18 c19 b49 B11 n9 n10)
                                        (fun e48 => R (.panicked e48)))
                            (J_ref10_Equal_0 W R n12 n13 x14 l15 c16 x17 l18 c19 false B11 n9 n10))
                        (fun e29 => R (.panicked e29))
theorem T_ref10_Equal_eq (W : World) (n1 : Int) (n2 : Int) (x3 : Option Addr) (l4 : Nat) (c5 : Nat) (x6 : Option Addr) (l7 : Nat) (c8 : Nat) (n9 : Int) (n10 : Int) (R : Ending → Hp → Prop) : vfun Pg W an_23 Try.f23 [(.agg #[(.int .i64 n1), (.int .i64 n2), (.slice x3 l4 c5), (.slice x6 l7 c8)]), (.int .i64 n9), (.int .i64 n10)] R = T_ref10_Equal W n1 n2 x3 l4 c5 x6 l7 c8 n9 n10 R := by kernel_rfl
theorem does_ref10_Equal (W : World) (n1 : Int) (n2 : Int) (x3 : Option Addr) (l4 : Nat) (c5 : Nat) (x6 : Option Addr) (l7 : Nat) (c8 : Nat) (n9 : Int) (n10 : Int) (R : Ending → Hp → Prop) (s : Hp) (h : T_ref10_Equal W n1 n2 x3 l4 c5 x6 l7 c8 n9 n10 R s) : Does Pg W F_ref10_Equal #[(.agg #[(.int .i64 n1), (.int .i64 n2), (.slice x3 l4 c5), (.slice x6 l7 c8)]), (.int .i64 n9), (.int .i64 n10)] s R :=
  does_of_vfun Pg W an_23 Try.func23 rfl (by kernel_rfl) (by rw [T_ref10_Equal_eq]; exact h)
def an_24 : Nat → Ann := fun b => match b with
  | 0 => { ms := [2, 3], ks := [.b, .i .i64], us := [1, 119], rt := false, ex := [] }
  | 2 => { ms := [2, 4], ks := [.b, .i .i64], us := [1, 119], rt := false, ex := [] }
  | 4 => { ms := [2, 6], ks := [.b, .i .i64], us := [1, 4, 5, 119], rt := false, ex := [] }
  | _ => {}
abbrev rv_24 : List ResultVar := [.tmp 2]
abbrev rs_24 : List Nat := [119, 2]
def L_ref10_Table_0 (W : World) (R : Ending → Hp → Prop) (za0 : Addr) (b28 : Bool) (n29 : Int) : Hp → Prop :=
  LOOPN [.b, .i .i64] (fun ys next s => ∀ j : Tm, vc Pg W 119 rs_24 an_24 false (sub (bodyOf Try.f24) [1, 1, 0, 1, 0, 0]) 0 (KLoop [2, 3] [1, 119] [(.pointer (some za0)), (.tuple #[])] next (KBlk 0 (KS Pg W 119 rs_24 an_24 false (sub (bodyOf Try.f24) [1, 1, 1]) 0 (fin Pg W 119 rv_24 R)))) (known [2, 3] ys (known [1, 119] [(.pointer (some za0)), (.tuple #[])] j)) s) [(.bool b28), (.int .i64 n29)]
def L_ref10_Table_1 (W : World) (R : Ending → Hp → Prop) (za0 : Addr) (b41 : Bool) (n42 : Int) : Hp → Prop :=
  LOOPN [.b, .i .i64] (fun ys next s => ∀ j : Tm, vc Pg W 119 rs_24 an_24 false (sub (bodyOf Try.f24) [1, 1, 1, 0, 1, 0, 0]) 2 (KLoop [2, 4] [1, 119] [(.pointer (some za0)), (.tuple #[])] next (KBlk 2 (KS Pg W 119 rs_24 an_24 false (sub (bodyOf Try.f24) [1, 1, 1, 1]) 0 (fin Pg W 119 rv_24 R)))) (known [2, 4] ys (known [1, 119] [(.pointer (some za0)), (.tuple #[])] j)) s) [(.bool b41), (.int .i64 n42)]
def L_ref10_Table_2 (W : World) (R : Ending → Hp → Prop) (nx1 : List Value → Hp → Prop) (za0 : Addr) (zn1 : Int) (za2 : Addr) (b73 : Bool) (n74 : Int) : Hp → Prop :=
  LOOPN [.b, .i .i64] (fun ys next s => ∀ j : Tm, vc Pg W 119 rs_24 an_24 false (sub (bodyOf Try.f24) [1, 1, 1, 0, 1, 0, 0, 1, 0, 0, 1, 1, 1, 0, 0]) 4 (KLoop [2, 6] [1, 4, 5, 119] [(.pointer (some za0)), (.int .i64 zn1), (.pointer (some za2)), (.tuple #[])] next (KBlk 4 (KBlk 3 (KS Pg W 119 rs_24 an_24 false (sub (bodyOf Try.f24) [1, 1, 1, 0, 1, 0, 0, 1, 1]) 2 (KLoop [2, 4] [1, 119] [(.pointer (some za0)), (.tuple #[])] nx1 (KBlk 2 (KS Pg W 119 rs_24 an_24 false (sub (bodyOf Try.f24) [1, 1, 1, 1]) 0 (fin Pg W 119 rv_24 R)))))))) (known [2, 6] ys (known [1, 4, 5, 119] [(.pointer (some za0)), (.int .i64 zn1), (.pointer (some za2)), (.tuple #[])] j)) s) [(.bool b73), (.int .i64 n74)]
def J_ref10_Table_0 (W : World) (R : Ending → Hp → Prop) (b16 : Bool) (B9 : Nat) : Hp → Prop :=
  BR b16
    (R (.returned (.bool false)))
    (L_ref10_Table_0 W R ⟨B9, 0, none⟩ false 0)
def J_ref10_Table_1 (W : World) (R : Ending → Hp → Prop) (b15 : Bool) (B9 : Nat) : Hp → Prop :=
  BR b15
    (J_ref10_Table_0 W R true B9)
    (RDL (Addr.add ⟨B9, 0, none⟩ 3) fun x17 l18 c19 =>
      J_ref10_Table_0 W R (decide ((↑l18 : Int) > 30)) B9)
def J_ref10_Table_2 (W : World) (R : Ending → Hp → Prop) (b14 : Bool) (B9 : Nat) : Hp → Prop :=
  BR b14
    (J_ref10_Table_1 W R true B9)
    (RDL (Addr.add ⟨B9, 0, none⟩ 2) fun x20 l21 c22 =>
      RDI .i64 (Addr.add ⟨B9, 0, none⟩ 0) fun n23 =>
        J_ref10_Table_1 W R ((↑l21 : Int) != n23) B9)
def J_ref10_Table_3 (W : World) (R : Ending → Hp → Prop) (b63 : Bool) (nx1 : List Value → Hp → Prop) (za0 : Addr) (n42 : Int) (B54 : Nat) (b41 : Bool) : Hp → Prop :=
  BR b63
    (R (.returned (.bool false)))
    (L_ref10_Table_2 W R nx1 za0 n42 ⟨B54, 0, none⟩ b41 0)
def J_ref10_Table_4 (W : World) (R : Ending → Hp → Prop) (b62 : Bool) (nx1 : List Value → Hp → Prop) (za0 : Addr) (n42 : Int) (B54 : Nat) (b41 : Bool) : Hp → Prop :=
  BR b62
    (J_ref10_Table_3 W R true nx1 za0 n42 B54 b41)
    (RDI .i64 (Addr.add (Addr.add ⟨B54, 0, none⟩ 2) 1) fun n64 =>
      J_ref10_Table_3 W R (decide (n64 > 40)) nx1 za0 n42 B54 b41)
def J_ref10_Table_5 (W : World) (R : Ending → Hp → Prop) (b61 : Bool) (nx1 : List Value → Hp → Prop) (za0 : Addr) (n42 : Int) (B54 : Nat) (b41 : Bool) : Hp → Prop :=
  BR b61
    (J_ref10_Table_4 W R true nx1 za0 n42 B54 b41)
    (RDI .i64 (Addr.add (Addr.add ⟨B54, 0, none⟩ 2) 0) fun n65 =>
      RDI .i64 (Addr.add (Addr.add ⟨B54, 0, none⟩ 2) 1) fun n66 =>
        J_ref10_Table_4 W R (decide (n65 > n66)) nx1 za0 n42 B54 b41)
def J_ref10_Table_6 (W : World) (R : Ending → Hp → Prop) (b60 : Bool) (nx1 : List Value → Hp → Prop) (za0 : Addr) (n42 : Int) (B54 : Nat) (b41 : Bool) : Hp → Prop :=
  BR b60
    (J_ref10_Table_5 W R true nx1 za0 n42 B54 b41)
    (RDI .i64 (Addr.add (Addr.add ⟨B54, 0, none⟩ 2) 0) fun n67 =>
      J_ref10_Table_5 W R (decide (n67 < 0)) nx1 za0 n42 B54 b41)
def J_ref10_Table_7 (W : World) (R : Ending → Hp → Prop) (b87 : Bool) (za0 : Addr) (zn1 : Int) (za2 : Addr) (nx2 : List Value → Hp → Prop) (b73 : Bool) (n74 : Int) : Hp → Prop :=
  BR b87
    (R (.returned (.bool false)))
    (NX [(.pointer (some za0)), (.int .i64 zn1), (.pointer (some za2)), (.tuple #[])] [(.pointer (some za0)), (.int .i64 zn1), (.pointer (some za2)), (.tuple #[])] (nx2 [(.bool b73), (.int .i64 (IntKind.wrap .i64 (n74 + 1)))]))
def B_ref10_Table_0 (W : World) (R : Ending → Hp → Prop) (za0 : Addr) (b28 : Bool) (n29 : Int) (nx0 : List Value → Hp → Prop) : Hp → Prop :=
  RDL (Addr.add za0 2) fun x30 l31 c32 =>
    BR (decide (n29 < (↑l31 : Int)))
      (RDL (Addr.add za0 2) fun x33 l34 c35 =>
        IXS x33 l34 n29 1 fun a36 =>
          RDI .i64 a36 fun n37 =>
            CALL Pg W F_ref10_in [(.int .i64 n37), (.int .i64 0), (.int .i64 100)]
              (fun v38 => TYB v38 fun b40 =>
                BR (!b40)
                  (R (.returned (.bool false)))
                  (NX [(.pointer (some za0)), (.tuple #[])] [(.pointer (some za0)), (.tuple #[])] (nx0 [(.bool b28), (.int .i64 (IntKind.wrap .i64 (n29 + 1)))])))
                (fun e39 => R (.panicked e39)))
      (L_ref10_Table_1 W R za0 b28 0)
theorem B_ref10_Table_0_eq (W : World) (R : Ending → Hp → Prop) (za0 : Addr) (b28 : Bool) (n29 : Int) (nx0 : List Value → Hp → Prop) (j : Tm) : vc Pg W 119 rs_24 an_24 false (sub (bodyOf Try.f24) [1, 1, 0, 1, 0, 0]) 0 (KLoop [2, 3] [1, 119] [(.pointer (some za0)), (.tuple #[])] nx0 (KBlk 0 (KS Pg W 119 rs_24 an_24 false (sub (bodyOf Try.f24) [1, 1, 1]) 0 (fin Pg W 119 rv_24 R)))) (known [2, 3] [(.bool b28), (.int .i64 n29)] (known [1, 119] [(.pointer (some za0)), (.tuple #[])] j)) = B_ref10_Table_0 W R za0 b28 n29 nx0 := by kernel_rfl
def N_ref10_Table_0 (I : Bool → Int → Hp → Prop) (μ : Bool → Int → Hp → Nat) (b280 : Bool) (n290 : Int) (s : Hp) (vs : List Value) : Hp → Prop := fun s' => ∃ b28 n29, vs = [(.bool b28), (.int .i64 n29)] ∧ I b28 n29 s' ∧ μ b28 n29 s' < μ b280 n290 s
theorem L_ref10_Table_0_rule (W : World) (R : Ending → Hp → Prop) (za0 : Addr) (I : Bool → Int → Hp → Prop) (μ : Bool → Int → Hp → Nat) (b280 : Bool) (n290 : Int) (s : Hp) (h0 : I b280 n290 s)
    (hr : ∀ (b28 : Bool) (n29 : Int) (s : Hp), I b28 n29 s → B_ref10_Table_0 W R za0 b28 n29 (fun vs => N_ref10_Table_0 I μ b28 n29 s vs) s) : L_ref10_Table_0 W R za0 b280 n290 s := by
  refine ⟨fun vs s => ∃ b28 n29, vs = [(.bool b28), (.int .i64 n29)] ∧ I b28 n29 s, fun vs s => (match vs with | [.bool b28, .int _ n29] => μ b28 n29 s | _ => 0), ⟨⟨⟨_, rfl⟩, ⟨⟨_, rfl⟩, trivial⟩⟩, ⟨_, _, rfl, h0⟩⟩, ?_⟩
  intro b28 n29 s hI j
  obtain ⟨b28', n29', hy, hI⟩ := hI
  have hI' : I b28 n29 s := by cases hy; exact hI
  have hh := hr b28 n29 s hI'
  rw [← B_ref10_Table_0_eq W R za0 b28 n29 _ j] at hh
  refine vc_mono ?_ _ _ hh
  exact KLoop_mono (fun vs s' h => by obtain ⟨b281, n291, rfl, h1, h2⟩ := h; exact ⟨⟨⟨_, rfl⟩, ⟨⟨_, rfl⟩, trivial⟩⟩, ⟨_, _, rfl, h1⟩, h2⟩)
def B_ref10_Table_1 (W : World) (R : Ending → Hp → Prop) (za0 : Addr) (b41 : Bool) (n42 : Int) (nx1 : List Value → Hp → Prop) : Hp → Prop :=
  RDL (Addr.add za0 3) fun x43 l44 c45 =>
    BR (decide (n42 < (↑l44 : Int)))
      (RDL (Addr.add za0 3) fun x46 l47 c48 =>
        IXS x46 l47 n42 4 fun a49 =>
          RDI .i64 (Addr.add a49 0) fun n50 =>
            RDI .i64 (Addr.add a49 1) fun n51 =>
              RDI .i64 (Addr.add a49 2) fun n52 =>
                RDI .i64 (Addr.add a49 3) fun n53 =>
                  NEWZ Pg 55 fun B54 =>
                    WR (Addr.add ⟨B54, 0, none⟩ 0) (.int .i64 n50) <|
                      WR (Addr.add ⟨B54, 0, none⟩ 1) (.int .i64 n51) <|
                        WR (Addr.add ⟨B54, 0, none⟩ 2) (.int .i64 n52) <|
                          WR (Addr.add ⟨B54, 0, none⟩ 3) (.int .i64 n53) <|
                            RDI .i64 (Addr.add ⟨B54, 0, none⟩ 0) fun n55 =>
                              RDI .i64 (Addr.add za0 0) fun n56 =>
                                CALL Pg W F_ref10_in [(.int .i64 n55), (.int .i64 0), (.int .i64 (IntKind.wrap .i64 (n56 - 1)))]
                                  (fun v57 => TYB v57 fun b59 =>
                                    BR (!b59)
                                      (J_ref10_Table_6 W R true nx1 za0 n42 B54 b41)
                                      (RDI .i64 (Addr.add ⟨B54, 0, none⟩ 1) fun n68 =>
                                        RDI .i64 (Addr.add za0 1) fun n69 =>
                                          CALL Pg W F_ref10_in [(.int .i64 n68), (.int .i64 0), (.int .i64 (IntKind.wrap .i64 (n69 - 1)))]
                                            (fun v70 => TYB v70 fun b72 =>
                                              J_ref10_Table_6 W R (!b72) nx1 za0 n42 B54 b41)
                                              (fun e71 => R (.panicked e71))))
                                    (fun e58 => R (.panicked e58)))
      (R (.returned (.bool true)))
theorem B_ref10_Table_1_eq (W : World) (R : Ending → Hp → Prop) (za0 : Addr) (b41 : Bool) (n42 : Int) (nx1 : List Value → Hp → Prop) (j : Tm) : vc Pg W 119 rs_24 an_24 false (sub (bodyOf Try.f24) [1, 1, 1, 0, 1, 0, 0]) 2 (KLoop [2, 4] [1, 119] [(.pointer (some za0)), (.tuple #[])] nx1 (KBlk 2 (KS Pg W 119 rs_24 an_24 false (sub (bodyOf Try.f24) [1, 1, 1, 1]) 0 (fin Pg W 119 rv_24 R)))) (known [2, 4] [(.bool b41), (.int .i64 n42)] (known [1, 119] [(.pointer (some za0)), (.tuple #[])] j)) = B_ref10_Table_1 W R za0 b41 n42 nx1 := by kernel_rfl
def N_ref10_Table_1 (I : Bool → Int → Hp → Prop) (μ : Bool → Int → Hp → Nat) (b410 : Bool) (n420 : Int) (s : Hp) (vs : List Value) : Hp → Prop := fun s' => ∃ b41 n42, vs = [(.bool b41), (.int .i64 n42)] ∧ I b41 n42 s' ∧ μ b41 n42 s' < μ b410 n420 s
theorem L_ref10_Table_1_rule (W : World) (R : Ending → Hp → Prop) (za0 : Addr) (I : Bool → Int → Hp → Prop) (μ : Bool → Int → Hp → Nat) (b410 : Bool) (n420 : Int) (s : Hp) (h0 : I b410 n420 s)
    (hr : ∀ (b41 : Bool) (n42 : Int) (s : Hp), I b41 n42 s → B_ref10_Table_1 W R za0 b41 n42 (fun vs => N_ref10_Table_1 I μ b41 n42 s vs) s) : L_ref10_Table_1 W R za0 b410 n420 s := by
  refine ⟨fun vs s => ∃ b41 n42, vs = [(.bool b41), (.int .i64 n42)] ∧ I b41 n42 s, fun vs s => (match vs with | [.bool b41, .int _ n42] => μ b41 n42 s | _ => 0), ⟨⟨⟨_, rfl⟩, ⟨⟨_, rfl⟩, trivial⟩⟩, ⟨_, _, rfl, h0⟩⟩, ?_⟩
  intro b41 n42 s hI j
  obtain ⟨b41', n42', hy, hI⟩ := hI
  have hI' : I b41 n42 s := by cases hy; exact hI
  have hh := hr b41 n42 s hI'
  rw [← B_ref10_Table_1_eq W R za0 b41 n42 _ j] at hh
  refine vc_mono ?_ _ _ hh
  exact KLoop_mono (fun vs s' h => by obtain ⟨b411, n421, rfl, h1, h2⟩ := h; exact ⟨⟨⟨_, rfl⟩, ⟨⟨_, rfl⟩, trivial⟩⟩, ⟨_, _, rfl, h1⟩, h2⟩)
def B_ref10_Table_2 (W : World) (R : Ending → Hp → Prop) (nx1 : List Value → Hp → Prop) (za0 : Addr) (zn1 : Int) (za2 : Addr) (b73 : Bool) (n74 : Int) (nx2 : List Value → Hp → Prop) : Hp → Prop :=
  BR (decide (n74 < zn1))
    (RDL (Addr.add za0 3) fun x75 l76 c77 =>
      IXS x75 l76 n74 4 fun a78 =>
        RDI .i64 (Addr.add a78 0) fun n79 =>
          RDI .i64 (Addr.add za2 0) fun n80 =>
            BR (n79 == n80)
              (RDL (Addr.add za0 3) fun x81 l82 c83 =>
                IXS x81 l82 n74 4 fun a84 =>
                  RDI .i64 (Addr.add a84 1) fun n85 =>
                    RDI .i64 (Addr.add za2 1) fun n86 =>
                      J_ref10_Table_7 W R (n85 == n86) za0 zn1 za2 nx2 b73 n74)
              (J_ref10_Table_7 W R false za0 zn1 za2 nx2 b73 n74))
    (NX [(.pointer (some za0)), (.tuple #[])] [(.pointer (some za0)), (.tuple #[])] (nx1 [(.bool b73), (.int .i64 (IntKind.wrap .i64 (zn1 + 1)))]))
theorem B_ref10_Table_2_eq (W : World) (R : Ending → Hp → Prop) (nx1 : List Value → Hp → Prop) (za0 : Addr) (zn1 : Int) (za2 : Addr) (b73 : Bool) (n74 : Int) (nx2 : List Value → Hp → Prop) (j : Tm) : vc Pg W 119 rs_24 an_24 false (sub (bodyOf Try.f24) [1, 1, 1, 0, 1, 0, 0, 1, 0, 0, 1, 1, 1, 0, 0]) 4 (KLoop [2, 6] [1, 4, 5, 119] [(.pointer (some za0)), (.int .i64 zn1), (.pointer (some za2)), (.tuple #[])] nx2 (KBlk 4 (KBlk 3 (KS Pg W 119 rs_24 an_24 false (sub (bodyOf Try.f24) [1, 1, 1, 0, 1, 0, 0, 1, 1]) 2 (KLoop [2, 4] [1, 119] [(.pointer (some za0)), (.tuple #[])] nx1 (KBlk 2 (KS Pg W 119 rs_24 an_24 false (sub (bodyOf Try.f24) [1, 1, 1, 1]) 0 (fin Pg W 119 rv_24 R)))))))) (known [2, 6] [(.bool b73), (.int .i64 n74)] (known [1, 4, 5, 119] [(.pointer (some za0)), (.int .i64 zn1), (.pointer (some za2)), (.tuple #[])] j)) = B_ref10_Table_2 W R nx1 za0 zn1 za2 b73 n74 nx2 := by kernel_rfl
def N_ref10_Table_2 (I : Bool → Int → Hp → Prop) (μ : Bool → Int → Hp → Nat) (b730 : Bool) (n740 : Int) (s : Hp) (vs : List Value) : Hp → Prop := fun s' => ∃ b73 n74, vs = [(.bool b73), (.int .i64 n74)] ∧ I b73 n74 s' ∧ μ b73 n74 s' < μ b730 n740 s
theorem L_ref10_Table_2_rule (W : World) (R : Ending → Hp → Prop) (nx1 : List Value → Hp → Prop) (za0 : Addr) (zn1 : Int) (za2 : Addr) (I : Bool → Int → Hp → Prop) (μ : Bool → Int → Hp → Nat) (b730 : Bool) (n740 : Int) (s : Hp) (h0 : I b730 n740 s)
    (hr : ∀ (b73 : Bool) (n74 : Int) (s : Hp), I b73 n74 s → B_ref10_Table_2 W R nx1 za0 zn1 za2 b73 n74 (fun vs => N_ref10_Table_2 I μ b73 n74 s vs) s) : L_ref10_Table_2 W R nx1 za0 zn1 za2 b730 n740 s := by
  refine ⟨fun vs s => ∃ b73 n74, vs = [(.bool b73), (.int .i64 n74)] ∧ I b73 n74 s, fun vs s => (match vs with | [.bool b73, .int _ n74] => μ b73 n74 s | _ => 0), ⟨⟨⟨_, rfl⟩, ⟨⟨_, rfl⟩, trivial⟩⟩, ⟨_, _, rfl, h0⟩⟩, ?_⟩
  intro b73 n74 s hI j
  obtain ⟨b73', n74', hy, hI⟩ := hI
  have hI' : I b73 n74 s := by cases hy; exact hI
  have hh := hr b73 n74 s hI'
  rw [← B_ref10_Table_2_eq W R nx1 za0 zn1 za2 b73 n74 _ j] at hh
  refine vc_mono ?_ _ _ hh
  exact KLoop_mono (fun vs s' h => by obtain ⟨b731, n741, rfl, h1, h2⟩ := h; exact ⟨⟨⟨_, rfl⟩, ⟨⟨_, rfl⟩, trivial⟩⟩, ⟨_, _, rfl, h1⟩, h2⟩)
def T_ref10_Table (W : World) (n1 : Int) (n2 : Int) (x3 : Option Addr) (l4 : Nat) (c5 : Nat) (x6 : Option Addr) (l7 : Nat) (c8 : Nat) (R : Ending → Hp → Prop) : Hp → Prop :=
  NEW 25 [(.int .i64 n1), (.int .i64 n2), (.slice x3 l4 c5), (.slice x6 l7 c8)] fun B9 =>
    RDI .i64 (Addr.add ⟨B9, 0, none⟩ 0) fun n10 =>
      CALL Pg W F_ref10_in [(.int .i64 n10), (.int .i64 1), (.int .i64 6)]
        (fun v11 => TYB v11 fun b13 =>
          BR (!b13)
            (J_ref10_Table_2 W R true B9)
            (RDI .i64 (Addr.add ⟨B9, 0, none⟩ 1) fun n24 =>
              CALL Pg W F_ref10_in [(.int .i64 n24), (.int .i64 1), (.int .i64 5)]
                (fun v25 => TYB v25 fun b27 =>
                  J_ref10_Table_2 W R (!b27) B9)
                  (fun e26 => R (.panicked e26))))
          (fun e12 => R (.panicked e12))
theorem T_ref10_Table_eq (W : World) (n1 : Int) (n2 : Int) (x3 : Option Addr) (l4 : Nat) (c5 : Nat) (x6 : Option Addr) (l7 : Nat) (c8 : Nat) (R : Ending → Hp → Prop) : vfun Pg W an_24 Try.f24 [(.agg #[(.int .i64 n1), (.int .i64 n2), (.slice x3 l4 c5), (.slice x6 l7 c8)])] R = T_ref10_Table W n1 n2 x3 l4 c5 x6 l7 c8 R := by kernel_rfl
theorem does_ref10_Table (W : World) (n1 : Int) (n2 : Int) (x3 : Option Addr) (l4 : Nat) (c5 : Nat) (x6 : Option Addr) (l7 : Nat) (c8 : Nat) (R : Ending → Hp → Prop) (s : Hp) (h : T_ref10_Table W n1 n2 x3 l4 c5 x6 l7 c8 R s) : Does Pg W F_ref10_Table #[(.agg #[(.int .i64 n1), (.int .i64 n2), (.slice x3 l4 c5), (.slice x6 l7 c8)])] s R :=
  does_of_vfun Pg W an_24 Try.func24 rfl (by kernel_rfl) (by rw [T_ref10_Table_eq]; exact h)
def an_26 : Nat → Ann := fun b => match b with
  | 0 => { ms := [10, 11], ks := [.i .i64, .i .i64], us := [1, 2, 3, 6, 7, 9, 58], rt := false, ex := [] }
  | _ => {}
abbrev rv_26 : List ResultVar := [.tmp 6, .tmp 7]
abbrev rs_26 : List Nat := [58, 6, 7]
def L_ref10_Could_0 (W : World) (R : Ending → Hp → Prop) (zn0 : Int) (zn1 : Int) (za2 : Addr) (zn3 : Int) (n102 : Int) (n103 : Int) : Hp → Prop :=
  LOOPN [.i .i64, .i .i64] (fun ys next s => ∀ j : Tm, vc Pg W 58 rs_26 an_26 false (sub (bodyOf Try.f26) [1, 1, 1, 1, 1, 1, 0, 1, 0, 0]) 0 (KLoop [10, 11] [1, 2, 3, 6, 7, 9, 58] [(.int .i64 zn0), (.int .i64 zn1), (.pointer (some za2)), (.int .i64 0), (.int .i64 0), (.int .i64 zn3), (.tuple #[])] next (KBlk 0 (KS Pg W 58 rs_26 an_26 false (sub (bodyOf Try.f26) [1, 1, 1, 1, 1, 1, 1]) 0 (fin Pg W 58 rv_26 R)))) (known [10, 11] ys (known [1, 2, 3, 6, 7, 9, 58] [(.int .i64 zn0), (.int .i64 zn1), (.pointer (some za2)), (.int .i64 0), (.int .i64 0), (.int .i64 zn3), (.tuple #[])] j)) s) [(.int .i64 n102), (.int .i64 n103)]
def J_ref10_Could_0 (W : World) (R : Ending → Hp → Prop) (n58 : Int) (n59 : Int) (x60 : Option Addr) (l61 : Nat) (c62 : Nat) (x63 : Option Addr) (l64 : Nat) (c65 : Nat) (b83 : Bool) (B11 : Nat) (n9 : Int) (n10 : Int) : Hp → Prop :=
  CALL Pg W F_ref10_check [(.agg #[(.int .i64 n58), (.int .i64 n59), (.slice x60 l61 c62), (.slice x63 l64 c65)]), (.bool b83)]
    (fun v84 => TYI .i64 v84 fun n86 =>
      BR (n86 != 0)
        (R (.returned (.tuple #[(.int .i64 0), (.int .i64 n86)])))
        (RDI .i64 (Addr.add ⟨B11, 0, none⟩ 0) fun n87 =>
          RDI .i64 (Addr.add ⟨B11, 0, none⟩ 1) fun n88 =>
            RDL (Addr.add ⟨B11, 0, none⟩ 2) fun x89 l90 c91 =>
              RDL (Addr.add ⟨B11, 0, none⟩ 3) fun x92 l93 c94 =>
                CALL Pg W F_ref10_can [(.agg #[(.int .i64 n87), (.int .i64 n88), (.slice x89 l90 c91), (.slice x92 l93 c94)]), (.int .i64 n9), (.int .i64 n10)]
                  (fun v95 => TYB v95 fun b97 =>
                    BR (!b97)
                      (R (.returned (.tuple #[(.int .i64 0), (.int .i64 4)])))
                      (RDI .i64 (Addr.add ⟨B11, 0, none⟩ 1) fun n98 =>
                        CALL Pg W F_ref10_power [(.int .i64 (IntKind.wrap .i64 (2 * n98)))]
                          (fun v99 => TYI .i64 v99 fun n101 =>
                            L_ref10_Could_0 W R n9 n10 ⟨B11, 0, none⟩ (IntKind.wrap .i64 (n101 - 1)) (IntKind.wrap .i64 (n101 - 1)) 0)
                            (fun e100 => R (.panicked e100))))
                    (fun e96 => R (.panicked e96))))
      (fun e85 => R (.panicked e85))
def J_ref10_Could_1 (W : World) (R : Ending → Hp → Prop) (zn0 : Int) (zn1 : Int) (za2 : Addr) (zn3 : Int) (nx0 : List Value → Hp → Prop) (n141 : Int) (n103 : Int) : Hp → Prop :=
  NX [(.int .i64 zn0), (.int .i64 zn1), (.pointer (some za2)), (.int .i64 0), (.int .i64 0), (.int .i64 zn3), (.tuple #[])] [(.int .i64 zn0), (.int .i64 zn1), (.pointer (some za2)), (.int .i64 0), (.int .i64 0), (.int .i64 zn3), (.tuple #[])] (nx0 [(.int .i64 n141), (.int .i64 (IntKind.wrap .i64 (n103 + 1)))])
def J_ref10_Could_2 (W : World) (R : Ending → Hp → Prop) (b140 : Bool) (zn0 : Int) (zn1 : Int) (za2 : Addr) (zn3 : Int) (nx0 : List Value → Hp → Prop) (n103 : Int) (n102 : Int) : Hp → Prop :=
  BR b140
    (J_ref10_Could_1 W R zn0 zn1 za2 zn3 nx0 n103 n103)
    (J_ref10_Could_1 W R zn0 zn1 za2 zn3 nx0 n102 n103)
def B_ref10_Could_0 (W : World) (R : Ending → Hp → Prop) (zn0 : Int) (zn1 : Int) (za2 : Addr) (zn3 : Int) (n102 : Int) (n103 : Int) (nx0 : List Value → Hp → Prop) : Hp → Prop :=
  BR (decide (n103 ≤ zn3))
    (CALL Pg W F_ref10_Size [(.int .i64 n103)]
      (fun v104 => TYI .i64 v104 fun n106 =>
        CALL Pg W F_ref10_Size [(.int .i64 n102)]
          (fun v107 => TYI .i64 v107 fun n109 =>
            BR (decide (n106 < n109))
              (RDI .i64 (Addr.add za2 0) fun n110 =>
                RDI .i64 (Addr.add za2 1) fun n111 =>
                  RDL (Addr.add za2 2) fun x112 l113 c114 =>
                    RDL (Addr.add za2 3) fun x115 l116 c117 =>
                      CALL Pg W F_ref10_read [(.agg #[(.int .i64 n110), (.int .i64 n111), (.slice x112 l113 c114), (.slice x115 l116 c117)]), (.int .i64 zn0), (.int .i64 zn1), (.int .i64 n103)]
                        (fun v118 => AGG v118 fun q120 => HD q120 fun v121 r122 => TYI .i64 v121 fun n123 =>
                          HD r122 fun v124 r125 => TYI .i64 v124 fun n126 =>
                            HD r125 fun v127 r128 => TYL v127 fun x129 l130 c131 =>
                              HD r128 fun v132 r133 => TYL v132 fun x134 l135 c136 =>
                                NL r133 <|
                                  CALL Pg W F_ref10_surely [(.agg #[(.int .i64 n123), (.int .i64 n126), (.slice x129 l130 c131), (.slice x134 l135 c136)]), (.int .i64 zn0), (.int .i64 zn1)]
                                    (fun v137 => TYB v137 fun b139 =>
                                      J_ref10_Could_2 W R b139 zn0 zn1 za2 zn3 nx0 n103 n102)
                                      (fun e138 => R (.panicked e138)))
                          (fun e119 => R (.panicked e119)))
              (J_ref10_Could_2 W R false zn0 zn1 za2 zn3 nx0 n103 n102))
            (fun e108 => R (.panicked e108)))
        (fun e105 => R (.panicked e105)))
    (R (.returned (.tuple #[(.int .i64 n102), (.int .i64 0)])))
theorem B_ref10_Could_0_eq (W : World) (R : Ending → Hp → Prop) (zn0 : Int) (zn1 : Int) (za2 : Addr) (zn3 : Int) (n102 : Int) (n103 : Int) (nx0 : List Value → Hp → Prop) (j : Tm) : vc Pg W 58 rs_26 an_26 false (sub (bodyOf Try.f26) [1, 1, 1, 1, 1, 1, 0, 1, 0, 0]) 0 (KLoop [10, 11] [1, 2, 3, 6, 7, 9, 58] [(.int .i64 zn0), (.int .i64 zn1), (.pointer (some za2)), (.int .i64 0), (.int .i64 0), (.int .i64 zn3), (.tuple #[])] nx0 (KBlk 0 (KS Pg W 58 rs_26 an_26 false (sub (bodyOf Try.f26) [1, 1, 1, 1, 1, 1, 1]) 0 (fin Pg W 58 rv_26 R)))) (known [10, 11] [(.int .i64 n102), (.int .i64 n103)] (known [1, 2, 3, 6, 7, 9, 58] [(.int .i64 zn0), (.int .i64 zn1), (.pointer (some za2)), (.int .i64 0), (.int .i64 0), (.int .i64 zn3), (.tuple #[])] j)) = B_ref10_Could_0 W R zn0 zn1 za2 zn3 n102 n103 nx0 := by kernel_rfl
def N_ref10_Could_0 (I : Int → Int → Hp → Prop) (μ : Int → Int → Hp → Nat) (n1020 : Int) (n1030 : Int) (s : Hp) (vs : List Value) : Hp → Prop := fun s' => ∃ n102 n103, vs = [(.int .i64 n102), (.int .i64 n103)] ∧ I n102 n103 s' ∧ μ n102 n103 s' < μ n1020 n1030 s
theorem L_ref10_Could_0_rule (W : World) (R : Ending → Hp → Prop) (zn0 : Int) (zn1 : Int) (za2 : Addr) (zn3 : Int) (I : Int → Int → Hp → Prop) (μ : Int → Int → Hp → Nat) (n1020 : Int) (n1030 : Int) (s : Hp) (h0 : I n1020 n1030 s)
    (hr : ∀ (n102 : Int) (n103 : Int) (s : Hp), I n102 n103 s → B_ref10_Could_0 W R zn0 zn1 za2 zn3 n102 n103 (fun vs => N_ref10_Could_0 I μ n102 n103 s vs) s) : L_ref10_Could_0 W R zn0 zn1 za2 zn3 n1020 n1030 s := by
  refine ⟨fun vs s => ∃ n102 n103, vs = [(.int .i64 n102), (.int .i64 n103)] ∧ I n102 n103 s, fun vs s => (match vs with | [.int _ n102, .int _ n103] => μ n102 n103 s | _ => 0), ⟨⟨⟨_, rfl⟩, ⟨⟨_, rfl⟩, trivial⟩⟩, ⟨_, _, rfl, h0⟩⟩, ?_⟩
  intro n102 n103 s hI j
  obtain ⟨n102', n103', hy, hI⟩ := hI
  have hI' : I n102 n103 s := by cases hy; exact hI
  have hh := hr n102 n103 s hI'
  rw [← B_ref10_Could_0_eq W R zn0 zn1 za2 zn3 n102 n103 _ j] at hh
  refine vc_mono ?_ _ _ hh
  exact KLoop_mono (fun vs s' h => by obtain ⟨n1021, n1031, rfl, h1, h2⟩ := h; exact ⟨⟨⟨_, rfl⟩, ⟨⟨_, rfl⟩, trivial⟩⟩, ⟨_, _, rfl, h1⟩, h2⟩)
def T_ref10_Could (W : World) (n1 : Int) (n2 : Int) (x3 : Option Addr) (l4 : Nat) (c5 : Nat) (x6 : Option Addr) (l7 : Nat) (c8 : Nat) (n9 : Int) (n10 : Int) (R : Ending → Hp → Prop) : Hp → Prop :=
  NEW 25 [(.int .i64 n1), (.int .i64 n2), (.slice x3 l4 c5), (.slice x6 l7 c8)] fun B11 =>
    RDI .i64 (Addr.add ⟨B11, 0, none⟩ 0) fun n12 =>
      RDI .i64 (Addr.add ⟨B11, 0, none⟩ 1) fun n13 =>
        RDL (Addr.add ⟨B11, 0, none⟩ 2) fun x14 l15 c16 =>
          RDL (Addr.add ⟨B11, 0, none⟩ 3) fun x17 l18 c19 =>
            RDI .i64 (Addr.add ⟨B11, 0, none⟩ 0) fun n20 =>
              RDI .i64 (Addr.add ⟨B11, 0, none⟩ 1) fun n21 =>
                RDL (Addr.add ⟨B11, 0, none⟩ 2) fun x22 l23 c24 =>
                  RDL (Addr.add ⟨B11, 0, none⟩ 3) fun x25 l26 c27 =>
                    CALL Pg W F_ref10_Man [(.agg #[(.int .i64 n20), (.int .i64 n21), (.slice x22 l23 c24), (.slice x25 l26 c27)]), (.int .i64 n9)]
                      (fun v28 => TYB v28 fun b30 =>
                        ANDS (RDI .i64 (Addr.add ⟨B11, 0, none⟩ 0) fun n31 =>
                          RDI .i64 (Addr.add ⟨B11, 0, none⟩ 1) fun n32 =>
                            RDL (Addr.add ⟨B11, 0, none⟩ 2) fun x33 l34 c35 =>
                              RDL (Addr.add ⟨B11, 0, none⟩ 3) fun x36 l37 c38 =>
                                fun _ => ((.agg #[(.int .i64 n31), (.int .i64 n32), (.slice x33 l34 c35), (.slice x36 l37 c38)]) : Value) = (.agg #[(.int .i64 n12), (.int .i64 n13), (.slice x14 l15 c16), (.slice x17 l18 c19)])) <|
                          BR b30
                            (RDI .i64 (Addr.add ⟨B11, 0, none⟩ 0) fun n39 =>
                              RDI .i64 (Addr.add ⟨B11, 0, none⟩ 1) fun n40 =>
                                RDL (Addr.add ⟨B11, 0, none⟩ 2) fun x41 l42 c43 =>
                                  RDL (Addr.add ⟨B11, 0, none⟩ 3) fun x44 l45 c46 =>
                                    CALL Pg W F_ref10_Man [(.agg #[(.int .i64 n39), (.int .i64 n40), (.slice x41 l42 c43), (.slice x44 l45 c46)]), (.int .i64 n10)]
                                      (fun v47 => TYB v47 fun b49 =>
                                        ANDS (RDI .i64 (Addr.add ⟨B11, 0, none⟩ 0) fun n50 =>
                                          RDI .i64 (Addr.add ⟨B11, 0, none⟩ 1) fun n51 =>
                                            RDL (Addr.add ⟨B11, 0, none⟩ 2) fun x52 l53 c54 =>
                                              RDL (Addr.add ⟨B11, 0, none⟩ 3) fun x55 l56 c57 =>
                                                fun _ => ((.agg #[(.int .i64 n50), (.int .i64 n51), (.slice x52 l53 c54), (.slice x55 l56 c57)]) : Value) = (.agg #[(.int .i64 n12), (.int .i64 n13), (.slice x14 l15 c16), (.slice x17 l18 c19)])) <|
                                          J_ref10_Could_0 W R n12 n13 x14 l15 c16 x17 l18 c19 b49 B11 n9 n10)
                                        (fun e48 => R (.panicked e48)))
                            (J_ref10_Could_0 W R n12 n13 x14 l15 c16 x17 l18 c19 false B11 n9 n10))
                        (fun e29 => R (.panicked e29))
theorem T_ref10_Could_eq (W : World) (n1 : Int) (n2 : Int) (x3 : Option Addr) (l4 : Nat) (c5 : Nat) (x6 : Option Addr) (l7 : Nat) (c8 : Nat) (n9 : Int) (n10 : Int) (R : Ending → Hp → Prop) : vfun Pg W an_26 Try.f26 [(.agg #[(.int .i64 n1), (.int .i64 n2), (.slice x3 l4 c5), (.slice x6 l7 c8)]), (.int .i64 n9), (.int .i64 n10)] R = T_ref10_Could W n1 n2 x3 l4 c5 x6 l7 c8 n9 n10 R := by kernel_rfl
theorem does_ref10_Could (W : World) (n1 : Int) (n2 : Int) (x3 : Option Addr) (l4 : Nat) (c5 : Nat) (x6 : Option Addr) (l7 : Nat) (c8 : Nat) (n9 : Int) (n10 : Int) (R : Ending → Hp → Prop) (s : Hp) (h : T_ref10_Could W n1 n2 x3 l4 c5 x6 l7 c8 n9 n10 R s) : Does Pg W F_ref10_Could #[(.agg #[(.int .i64 n1), (.int .i64 n2), (.slice x3 l4 c5), (.slice x6 l7 c8)]), (.int .i64 n9), (.int .i64 n10)] s R :=
  does_of_vfun Pg W an_26 Try.func26 rfl (by kernel_rfl) (by rw [T_ref10_Could_eq]; exact h)
def an_28 : Nat → Ann := fun b => match b with
  | 0 => { ms := [8, 9, 12], ks := [.i .i64, .i .i64, .i .i64], us := [1, 2, 3, 4, 11, 55], rt := false, ex := [] }
  | _ => {}
abbrev rv_28 : List ResultVar := [.tmp 8, .tmp 9]
abbrev rs_28 : List Nat := [55, 8, 9]
def L_ref10_Need_0 (W : World) (R : Ending → Hp → Prop) (zn0 : Int) (zn1 : Int) (zn2 : Int) (za3 : Addr) (za4 : Addr) (n148 : Int) (n149 : Int) (n150 : Int) : Hp → Prop :=
  LOOPN [.i .i64, .i .i64, .i .i64] (fun ys next s => ∀ j : Tm, vc Pg W 55 rs_28 an_28 false (sub (bodyOf Try.f28) [1, 1, 1, 1, 0, 1, 0, 0]) 0 (KLoop [8, 9, 12] [1, 2, 3, 4, 11, 55] [(.int .i64 zn0), (.int .i64 zn1), (.int .i64 zn2), (.pointer (some za3)), (.pointer (some za4)), (.tuple #[])] next (KBlk 0 (KS Pg W 55 rs_28 an_28 false (sub (bodyOf Try.f28) [1, 1, 1, 1, 1]) 0 (fin Pg W 55 rv_28 R)))) (known [8, 9, 12] ys (known [1, 2, 3, 4, 11, 55] [(.int .i64 zn0), (.int .i64 zn1), (.int .i64 zn2), (.pointer (some za3)), (.pointer (some za4)), (.tuple #[])] j)) s) [(.int .i64 n148), (.int .i64 n149), (.int .i64 n150)]
def J_ref10_Need_0 (W : World) (R : Ending → Hp → Prop) (n97 : Int) (n98 : Int) (x99 : Option Addr) (l100 : Nat) (c101 : Nat) (x102 : Option Addr) (l103 : Nat) (c104 : Nat) (b125 : Bool) (B12 : Nat) (n9 : Int) (n10 : Int) (n11 : Int) : Hp → Prop :=
  CALL Pg W F_ref10_check [(.agg #[(.int .i64 n97), (.int .i64 n98), (.slice x99 l100 c101), (.slice x102 l103 c104)]), (.bool b125)]
    (fun v126 => TYI .i64 v126 fun n128 =>
      BR (n128 != 0)
        (R (.returned (.tuple #[(.int .i64 0), (.int .i64 n128)])))
        (RDI .i64 (Addr.add ⟨B12, 0, none⟩ 0) fun n129 =>
          RDI .i64 (Addr.add ⟨B12, 0, none⟩ 1) fun n130 =>
            RDL (Addr.add ⟨B12, 0, none⟩ 2) fun x131 l132 c133 =>
              RDL (Addr.add ⟨B12, 0, none⟩ 3) fun x134 l135 c136 =>
                CALL Pg W F_ref10_Points [(.agg #[(.int .i64 n129), (.int .i64 n130), (.slice x131 l132 c133), (.slice x134 l135 c136)]), (.int .i64 n9), (.int .i64 n10)]
                  (fun v137 => AGG v137 fun q139 => HD q139 fun v140 r141 => TYI .i64 v140 fun n142 =>
                    HD r141 fun v143 r144 => TYI .i64 v143 fun n145 =>
                      NL r144 <|
                        NEWZ Pg 29 fun B146 =>
                          WR (Addr.add ⟨B146, 0, none⟩ 0) (.int .i64 n142) <|
                            WR (Addr.add ⟨B146, 0, none⟩ 1) (.int .i64 n145) <|
                              RDI .i64 (Addr.add ⟨B146, 0, none⟩ 0) fun n147 =>
                                L_ref10_Need_0 W R n9 n10 n11 ⟨B12, 0, none⟩ ⟨B146, 0, none⟩ 0 0 n147)
                    (fun e138 => R (.panicked e138))))
      (fun e127 => R (.panicked e127))
def J_ref10_Need_1 (W : World) (R : Ending → Hp → Prop) (b84 : Bool) (B12 : Nat) (n11 : Int) (n59 : Int) (n60 : Int) (x61 : Option Addr) (l62 : Nat) (c63 : Nat) (x64 : Option Addr) (l65 : Nat) (c66 : Nat) (n9 : Int) (n10 : Int) : Hp → Prop :=
  BR b84
    (RDI .i64 (Addr.add ⟨B12, 0, none⟩ 0) fun n85 =>
      CALL Pg W F_ref10_in [(.int .i64 n11), (.int .i64 1), (.int .i64 n85)]
        (fun v86 => TYB v86 fun b88 =>
          ANDS (RDI .i64 (Addr.add ⟨B12, 0, none⟩ 0) fun n89 =>
            RDI .i64 (Addr.add ⟨B12, 0, none⟩ 1) fun n90 =>
              RDL (Addr.add ⟨B12, 0, none⟩ 2) fun x91 l92 c93 =>
                RDL (Addr.add ⟨B12, 0, none⟩ 3) fun x94 l95 c96 =>
                  fun _ => ((.agg #[(.int .i64 n89), (.int .i64 n90), (.slice x91 l92 c93), (.slice x94 l95 c96)]) : Value) = (.agg #[(.int .i64 n59), (.int .i64 n60), (.slice x61 l62 c63), (.slice x64 l65 c66)])) <|
            J_ref10_Need_0 W R n59 n60 x61 l62 c63 x64 l65 c66 b88 B12 n9 n10 n11)
          (fun e87 => R (.panicked e87)))
    (J_ref10_Need_0 W R n59 n60 x61 l62 c63 x64 l65 c66 false B12 n9 n10 n11)
def B_ref10_Need_0 (W : World) (R : Ending → Hp → Prop) (zn0 : Int) (zn1 : Int) (zn2 : Int) (za3 : Addr) (za4 : Addr) (n148 : Int) (n149 : Int) (n150 : Int) (nx0 : List Value → Hp → Prop) : Hp → Prop :=
  RDI .i64 (Addr.add za4 1) fun n151 =>
    BR (decide (n150 ≤ n151))
      (RDI .i64 (Addr.add za3 0) fun n152 =>
        RDI .i64 (Addr.add za3 1) fun n153 =>
          RDL (Addr.add za3 2) fun x154 l155 c156 =>
            RDL (Addr.add za3 3) fun x157 l158 c159 =>
              CALL Pg W F_ref10_With [(.agg #[(.int .i64 n152), (.int .i64 n153), (.slice x154 l155 c156), (.slice x157 l158 c159)]), (.int .i64 zn0), (.int .i64 zn1), (.int .i64 n150)]
                (fun v160 => AGG v160 fun q162 => HD q162 fun v163 r164 => TYI .i64 v163 fun n165 =>
                  HD r164 fun v166 r167 => TYI .i64 v166 fun n168 =>
                    HD r167 fun v169 r170 => TYL v169 fun x171 l172 c173 =>
                      HD r170 fun v174 r175 => TYL v174 fun x176 l177 c178 =>
                        NL r175 <|
                          CALL Pg W F_ref10_place [(.agg #[(.int .i64 n165), (.int .i64 n168), (.slice x171 l172 c173), (.slice x176 l177 c178)]), (.int .i64 zn0)]
                            (fun v179 => AGG v179 fun q181 => HD q181 fun v182 r183 => TYI .i64 v182 fun n184 =>
                              HD r183 fun v185 r186 => TYI .i64 v185 fun n187 =>
                                NL r186 <|
                                  BR (decide (n187 ≤ zn2))
                                    (R (.returned (.tuple #[(.int .i64 n150), (.int .i64 0)])))
                                    (NX [(.int .i64 zn0), (.int .i64 zn1), (.int .i64 zn2), (.pointer (some za3)), (.pointer (some za4)), (.tuple #[])] [(.int .i64 zn0), (.int .i64 zn1), (.int .i64 zn2), (.pointer (some za3)), (.pointer (some za4)), (.tuple #[])] (nx0 [(.int .i64 n148), (.int .i64 n149), (.int .i64 (IntKind.wrap .i64 (n150 + 1)))])))
                              (fun e180 => R (.panicked e180)))
                  (fun e161 => R (.panicked e161)))
      (R (.returned (.tuple #[(.int .i64 0), (.int .i64 4)])))
theorem B_ref10_Need_0_eq (W : World) (R : Ending → Hp → Prop) (zn0 : Int) (zn1 : Int) (zn2 : Int) (za3 : Addr) (za4 : Addr) (n148 : Int) (n149 : Int) (n150 : Int) (nx0 : List Value → Hp → Prop) (j : Tm) : vc Pg W 55 rs_28 an_28 false (sub (bodyOf Try.f28) [1, 1, 1, 1, 0, 1, 0, 0]) 0 (KLoop [8, 9, 12] [1, 2, 3, 4, 11, 55] [(.int .i64 zn0), (.int .i64 zn1), (.int .i64 zn2), (.pointer (some za3)), (.pointer (some za4)), (.tuple #[])] nx0 (KBlk 0 (KS Pg W 55 rs_28 an_28 false (sub (bodyOf Try.f28) [1, 1, 1, 1, 1]) 0 (fin Pg W 55 rv_28 R)))) (known [8, 9, 12] [(.int .i64 n148), (.int .i64 n149), (.int .i64 n150)] (known [1, 2, 3, 4, 11, 55] [(.int .i64 zn0), (.int .i64 zn1), (.int .i64 zn2), (.pointer (some za3)), (.pointer (some za4)), (.tuple #[])] j)) = B_ref10_Need_0 W R zn0 zn1 zn2 za3 za4 n148 n149 n150 nx0 := by kernel_rfl
def N_ref10_Need_0 (I : Int → Int → Int → Hp → Prop) (μ : Int → Int → Int → Hp → Nat) (n1480 : Int) (n1490 : Int) (n1500 : Int) (s : Hp) (vs : List Value) : Hp → Prop := fun s' => ∃ n148 n149 n150, vs = [(.int .i64 n148), (.int .i64 n149), (.int .i64 n150)] ∧ I n148 n149 n150 s' ∧ μ n148 n149 n150 s' < μ n1480 n1490 n1500 s
theorem L_ref10_Need_0_rule (W : World) (R : Ending → Hp → Prop) (zn0 : Int) (zn1 : Int) (zn2 : Int) (za3 : Addr) (za4 : Addr) (I : Int → Int → Int → Hp → Prop) (μ : Int → Int → Int → Hp → Nat) (n1480 : Int) (n1490 : Int) (n1500 : Int) (s : Hp) (h0 : I n1480 n1490 n1500 s)
    (hr : ∀ (n148 : Int) (n149 : Int) (n150 : Int) (s : Hp), I n148 n149 n150 s → B_ref10_Need_0 W R zn0 zn1 zn2 za3 za4 n148 n149 n150 (fun vs => N_ref10_Need_0 I μ n148 n149 n150 s vs) s) : L_ref10_Need_0 W R zn0 zn1 zn2 za3 za4 n1480 n1490 n1500 s := by
  refine ⟨fun vs s => ∃ n148 n149 n150, vs = [(.int .i64 n148), (.int .i64 n149), (.int .i64 n150)] ∧ I n148 n149 n150 s, fun vs s => (match vs with | [.int _ n148, .int _ n149, .int _ n150] => μ n148 n149 n150 s | _ => 0), ⟨⟨⟨_, rfl⟩, ⟨⟨_, rfl⟩, ⟨⟨_, rfl⟩, trivial⟩⟩⟩, ⟨_, _, _, rfl, h0⟩⟩, ?_⟩
  intro n148 n149 n150 s hI j
  obtain ⟨n148', n149', n150', hy, hI⟩ := hI
  have hI' : I n148 n149 n150 s := by cases hy; exact hI
  have hh := hr n148 n149 n150 s hI'
  rw [← B_ref10_Need_0_eq W R zn0 zn1 zn2 za3 za4 n148 n149 n150 _ j] at hh
  refine vc_mono ?_ _ _ hh
  exact KLoop_mono (fun vs s' h => by obtain ⟨n1481, n1491, n1501, rfl, h1, h2⟩ := h; exact ⟨⟨⟨_, rfl⟩, ⟨⟨_, rfl⟩, ⟨⟨_, rfl⟩, trivial⟩⟩⟩, ⟨_, _, _, rfl, h1⟩, h2⟩)
def T_ref10_Need (W : World) (n1 : Int) (n2 : Int) (x3 : Option Addr) (l4 : Nat) (c5 : Nat) (x6 : Option Addr) (l7 : Nat) (c8 : Nat) (n9 : Int) (n10 : Int) (n11 : Int) (R : Ending → Hp → Prop) : Hp → Prop :=
  NEW 25 [(.int .i64 n1), (.int .i64 n2), (.slice x3 l4 c5), (.slice x6 l7 c8)] fun B12 =>
    RDI .i64 (Addr.add ⟨B12, 0, none⟩ 0) fun n13 =>
      RDI .i64 (Addr.add ⟨B12, 0, none⟩ 1) fun n14 =>
        RDL (Addr.add ⟨B12, 0, none⟩ 2) fun x15 l16 c17 =>
          RDL (Addr.add ⟨B12, 0, none⟩ 3) fun x18 l19 c20 =>
            RDI .i64 (Addr.add ⟨B12, 0, none⟩ 0) fun n21 =>
              RDI .i64 (Addr.add ⟨B12, 0, none⟩ 1) fun n22 =>
                RDL (Addr.add ⟨B12, 0, none⟩ 2) fun x23 l24 c25 =>
                  RDL (Addr.add ⟨B12, 0, none⟩ 3) fun x26 l27 c28 =>
                    CALL Pg W F_ref10_Man [(.agg #[(.int .i64 n21), (.int .i64 n22), (.slice x23 l24 c25), (.slice x26 l27 c28)]), (.int .i64 n9)]
                      (fun v29 => TYB v29 fun b31 =>
                        ANDS (RDI .i64 (Addr.add ⟨B12, 0, none⟩ 0) fun n32 =>
                          RDI .i64 (Addr.add ⟨B12, 0, none⟩ 1) fun n33 =>
                            RDL (Addr.add ⟨B12, 0, none⟩ 2) fun x34 l35 c36 =>
                              RDL (Addr.add ⟨B12, 0, none⟩ 3) fun x37 l38 c39 =>
                                fun _ => ((.agg #[(.int .i64 n32), (.int .i64 n33), (.slice x34 l35 c36), (.slice x37 l38 c39)]) : Value) = (.agg #[(.int .i64 n13), (.int .i64 n14), (.slice x15 l16 c17), (.slice x18 l19 c20)])) <|
                          BR b31
                            (RDI .i64 (Addr.add ⟨B12, 0, none⟩ 0) fun n40 =>
                              RDI .i64 (Addr.add ⟨B12, 0, none⟩ 1) fun n41 =>
                                RDL (Addr.add ⟨B12, 0, none⟩ 2) fun x42 l43 c44 =>
                                  RDL (Addr.add ⟨B12, 0, none⟩ 3) fun x45 l46 c47 =>
                                    CALL Pg W F_ref10_Sheet [(.agg #[(.int .i64 n40), (.int .i64 n41), (.slice x42 l43 c44), (.slice x45 l46 c47)]), (.int .i64 n10)]
                                      (fun v48 => TYB v48 fun b50 =>
                                        ANDS (RDI .i64 (Addr.add ⟨B12, 0, none⟩ 0) fun n51 =>
                                          RDI .i64 (Addr.add ⟨B12, 0, none⟩ 1) fun n52 =>
                                            RDL (Addr.add ⟨B12, 0, none⟩ 2) fun x53 l54 c55 =>
                                              RDL (Addr.add ⟨B12, 0, none⟩ 3) fun x56 l57 c58 =>
                                                fun _ => ((.agg #[(.int .i64 n51), (.int .i64 n52), (.slice x53 l54 c55), (.slice x56 l57 c58)]) : Value) = (.agg #[(.int .i64 n13), (.int .i64 n14), (.slice x15 l16 c17), (.slice x18 l19 c20)])) <|
                                          J_ref10_Need_1 W R b50 B12 n11 n13 n14 x15 l16 c17 x18 l19 c20 n9 n10)
                                        (fun e49 => R (.panicked e49)))
                            (J_ref10_Need_1 W R false B12 n11 n13 n14 x15 l16 c17 x18 l19 c20 n9 n10))
                        (fun e30 => R (.panicked e30))
theorem T_ref10_Need_eq (W : World) (n1 : Int) (n2 : Int) (x3 : Option Addr) (l4 : Nat) (c5 : Nat) (x6 : Option Addr) (l7 : Nat) (c8 : Nat) (n9 : Int) (n10 : Int) (n11 : Int) (R : Ending → Hp → Prop) : vfun Pg W an_28 Try.f28 [(.agg #[(.int .i64 n1), (.int .i64 n2), (.slice x3 l4 c5), (.slice x6 l7 c8)]), (.int .i64 n9), (.int .i64 n10), (.int .i64 n11)] R = T_ref10_Need W n1 n2 x3 l4 c5 x6 l7 c8 n9 n10 n11 R := by kernel_rfl
theorem does_ref10_Need (W : World) (n1 : Int) (n2 : Int) (x3 : Option Addr) (l4 : Nat) (c5 : Nat) (x6 : Option Addr) (l7 : Nat) (c8 : Nat) (n9 : Int) (n10 : Int) (n11 : Int) (R : Ending → Hp → Prop) (s : Hp) (h : T_ref10_Need W n1 n2 x3 l4 c5 x6 l7 c8 n9 n10 n11 R s) : Does Pg W F_ref10_Need #[(.agg #[(.int .i64 n1), (.int .i64 n2), (.slice x3 l4 c5), (.slice x6 l7 c8)]), (.int .i64 n9), (.int .i64 n10), (.int .i64 n11)] s R :=
  does_of_vfun Pg W an_28 Try.func28 rfl (by kernel_rfl) (by rw [T_ref10_Need_eq]; exact h)
def an_30 : Nat → Ann := fun b => match b with
  | 0 => { ms := [4, 5], ks := [.l, .i .i64], us := [1, 2, 3, 62], rt := false, ex := [] }
  | 2 => { ms := [6, 7], ks := [.i .i64, .i .i64], us := [1, 2, 3, 4, 5, 62], rt := false, ex := [] }
  | 4 => { ms := [8, 9], ks := [.b, .i .i64], us := [1, 2, 3, 4, 5, 6, 7, 62], rt := false, ex := [] }
  | _ => {}
abbrev rv_30 : List ResultVar := [.tmp 2, .tmp 3]
abbrev rs_30 : List Nat := [62, 2, 3]
def L_ref10_Order_0 (W : World) (R : Ending → Hp → Prop) (za0 : Addr) (x25 : Option Addr) (l26 : Nat) (c27 : Nat) (n28 : Int) : Hp → Prop :=
  LOOPN [.l, .i .i64] (fun ys next s => ∀ j : Tm, vc Pg W 62 rs_30 an_30 false (sub (bodyOf Try.f30) [1, 1, 1, 1, 0, 0, 0]) 0 (KLoop [4, 5] [1, 2, 3, 62] [(.pointer (some za0)), (.slice none 0 0), (.int .i64 0), (.tuple #[])] next (KBlk 0 (KS Pg W 62 rs_30 an_30 false (sub (bodyOf Try.f30) [1, 1, 1, 1, 1]) 0 (fin Pg W 62 rv_30 R)))) (known [4, 5] ys (known [1, 2, 3, 62] [(.pointer (some za0)), (.slice none 0 0), (.int .i64 0), (.tuple #[])] j)) s) [(.slice x25 l26 c27), (.int .i64 n28)]
def L_ref10_Order_1 (W : World) (R : Ending → Hp → Prop) (nx0 : List Value → Hp → Prop) (za0 : Addr) (zp1 : Option Addr) (zl2 : Nat) (zl3 : Nat) (zn4 : Int) (n29 : Int) (n30 : Int) : Hp → Prop :=
  LOOPN [.i .i64, .i .i64] (fun ys next s => ∀ j : Tm, vc Pg W 62 rs_30 an_30 false (sub (bodyOf Try.f30) [1, 1, 1, 1, 0, 0, 0, 1, 0, 1, 0, 1, 0, 0]) 2 (KLoop [6, 7] [1, 2, 3, 4, 5, 62] [(.pointer (some za0)), (.slice none 0 0), (.int .i64 0), (.slice zp1 zl2 zl3), (.int .i64 zn4), (.tuple #[])] next (KBlk 2 (KS Pg W 62 rs_30 an_30 false (sub (bodyOf Try.f30) [1, 1, 1, 1, 0, 0, 0, 1, 0, 1, 1]) 1 (KBlk 1 (KLoop [4, 5] [1, 2, 3, 62] [(.pointer (some za0)), (.slice none 0 0), (.int .i64 0), (.tuple #[])] nx0 (KBlk 0 (KS Pg W 62 rs_30 an_30 false (sub (bodyOf Try.f30) [1, 1, 1, 1, 1]) 0 (fin Pg W 62 rv_30 R)))))))) (known [6, 7] ys (known [1, 2, 3, 4, 5, 62] [(.pointer (some za0)), (.slice none 0 0), (.int .i64 0), (.slice zp1 zl2 zl3), (.int .i64 zn4), (.tuple #[])] j)) s) [(.int .i64 n29), (.int .i64 n30)]
def L_ref10_Order_2 (W : World) (R : Ending → Hp → Prop) (nx0 : List Value → Hp → Prop) (nx1 : List Value → Hp → Prop) (za0 : Addr) (zp1 : Option Addr) (zl2 : Nat) (zl3 : Nat) (zn4 : Int) (zn5 : Int) (zn6 : Int) (b43 : Bool) (n44 : Int) : Hp → Prop :=
  LOOPN [.b, .i .i64] (fun ys next s => ∀ j : Tm, vc Pg W 62 rs_30 an_30 false (sub (bodyOf Try.f30) [1, 1, 1, 1, 0, 0, 0, 1, 0, 1, 0, 1, 0, 0, 1, 0, 0, 1, 0, 1, 0, 0]) 4 (KLoop [8, 9] [1, 2, 3, 4, 5, 6, 7, 62] [(.pointer (some za0)), (.slice none 0 0), (.int .i64 0), (.slice zp1 zl2 zl3), (.int .i64 zn4), (.int .i64 zn5), (.int .i64 zn6), (.tuple #[])] next (KBlk 4 (KS Pg W 62 rs_30 an_30 false (sub (bodyOf Try.f30) [1, 1, 1, 1, 0, 0, 0, 1, 0, 1, 0, 1, 0, 0, 1, 0, 0, 1, 1]) 3 (KBlk 3 (KS Pg W 62 rs_30 an_30 false (sub (bodyOf Try.f30) [1, 1, 1, 1, 0, 0, 0, 1, 0, 1, 0, 1, 0, 0, 1, 1]) 2 (KLoop [6, 7] [1, 2, 3, 4, 5, 62] [(.pointer (some za0)), (.slice none 0 0), (.int .i64 0), (.slice zp1 zl2 zl3), (.int .i64 zn4), (.tuple #[])] nx1 (KBlk 2 (KS Pg W 62 rs_30 an_30 false (sub (bodyOf Try.f30) [1, 1, 1, 1, 0, 0, 0, 1, 0, 1, 1]) 1 (KBlk 1 (KLoop [4, 5] [1, 2, 3, 62] [(.pointer (some za0)), (.slice none 0 0), (.int .i64 0), (.tuple #[])] nx0 (KBlk 0 (KS Pg W 62 rs_30 an_30 false (sub (bodyOf Try.f30) [1, 1, 1, 1, 1]) 0 (fin Pg W 62 rv_30 R))))))))))))) (known [8, 9] ys (known [1, 2, 3, 4, 5, 6, 7, 62] [(.pointer (some za0)), (.slice none 0 0), (.int .i64 0), (.slice zp1 zl2 zl3), (.int .i64 zn4), (.int .i64 zn5), (.int .i64 zn6), (.tuple #[])] j)) s) [(.bool b43), (.int .i64 n44)]
def J_ref10_Order_0 (W : World) (R : Ending → Hp → Prop) (b32 : Bool) (zn4 : Int) (n30 : Int) (nx0 : List Value → Hp → Prop) (nx1 : List Value → Hp → Prop) (za0 : Addr) (zp1 : Option Addr) (zl2 : Nat) (zl3 : Nat) (n29 : Int) : Hp → Prop :=
  BR b32
    (CALL Pg W F_ref10_Has [(.int .i64 zn4), (.int .i64 n30)]
      (fun v33 => TYB v33 fun b35 =>
        L_ref10_Order_2 W R nx0 nx1 za0 zp1 zl2 zl3 zn4 n29 n30 b35 0)
        (fun e34 => R (.panicked e34)))
    (NEW 3 [(.int .i64 n29)] fun B36 =>
      APP Pg 3 1 zp1 zl2 zl3 (some ⟨B36, 0, none⟩) 1 fun x37 l38 c39 =>
        CALL Pg W F_ref10_power [(.int .i64 n29)]
          (fun v40 => TYI .i64 v40 fun n42 =>
            NX [(.pointer (some za0)), (.slice none 0 0), (.int .i64 0), (.tuple #[])] [(.pointer (some za0)), (.slice none 0 0), (.int .i64 0), (.tuple #[])] (nx0 [(.slice x37 l38 c39), (.int .i64 (IntKind.wrap .i64 (zn4 - n42)))]))
            (fun e41 => R (.panicked e41)))
def J_ref10_Order_1 (W : World) (R : Ending → Hp → Prop) (za0 : Addr) (zp1 : Option Addr) (zl2 : Nat) (zl3 : Nat) (zn4 : Int) (zn5 : Int) (zn6 : Int) (nx2 : List Value → Hp → Prop) (b60 : Bool) (n44 : Int) : Hp → Prop :=
  NX [(.pointer (some za0)), (.slice none 0 0), (.int .i64 0), (.slice zp1 zl2 zl3), (.int .i64 zn4), (.int .i64 zn5), (.int .i64 zn6), (.tuple #[])] [(.pointer (some za0)), (.slice none 0 0), (.int .i64 0), (.slice zp1 zl2 zl3), (.int .i64 zn4), (.int .i64 zn5), (.int .i64 zn6), (.tuple #[])] (nx2 [(.bool b60), (.int .i64 (IntKind.wrap .i64 (n44 + 1)))])
def B_ref10_Order_0 (W : World) (R : Ending → Hp → Prop) (za0 : Addr) (x25 : Option Addr) (l26 : Nat) (c27 : Nat) (n28 : Int) (nx0 : List Value → Hp → Prop) : Hp → Prop :=
  BR (decide (n28 > 0))
    (L_ref10_Order_1 W R nx0 za0 x25 l26 c27 n28 (-1) 0)
    (R (.returned (.tuple #[(.slice x25 l26 c27), (.int .i64 0)])))
theorem B_ref10_Order_0_eq (W : World) (R : Ending → Hp → Prop) (za0 : Addr) (x25 : Option Addr) (l26 : Nat) (c27 : Nat) (n28 : Int) (nx0 : List Value → Hp → Prop) (j : Tm) : vc Pg W 62 rs_30 an_30 false (sub (bodyOf Try.f30) [1, 1, 1, 1, 0, 0, 0]) 0 (KLoop [4, 5] [1, 2, 3, 62] [(.pointer (some za0)), (.slice none 0 0), (.int .i64 0), (.tuple #[])] nx0 (KBlk 0 (KS Pg W 62 rs_30 an_30 false (sub (bodyOf Try.f30) [1, 1, 1, 1, 1]) 0 (fin Pg W 62 rv_30 R)))) (known [4, 5] [(.slice x25 l26 c27), (.int .i64 n28)] (known [1, 2, 3, 62] [(.pointer (some za0)), (.slice none 0 0), (.int .i64 0), (.tuple #[])] j)) = B_ref10_Order_0 W R za0 x25 l26 c27 n28 nx0 := by kernel_rfl
def N_ref10_Order_0 (I : Option Addr → Nat → Nat → Int → Hp → Prop) (μ : Option Addr → Nat → Nat → Int → Hp → Nat) (x250 : Option Addr) (l260 : Nat) (c270 : Nat) (n280 : Int) (s : Hp) (vs : List Value) : Hp → Prop := fun s' => ∃ x25 l26 c27 n28, vs = [(.slice x25 l26 c27), (.int .i64 n28)] ∧ I x25 l26 c27 n28 s' ∧ μ x25 l26 c27 n28 s' < μ x250 l260 c270 n280 s
theorem L_ref10_Order_0_rule (W : World) (R : Ending → Hp → Prop) (za0 : Addr) (I : Option Addr → Nat → Nat → Int → Hp → Prop) (μ : Option Addr → Nat → Nat → Int → Hp → Nat) (x250 : Option Addr) (l260 : Nat) (c270 : Nat) (n280 : Int) (s : Hp) (h0 : I x250 l260 c270 n280 s)
    (hr : ∀ (x25 : Option Addr) (l26 : Nat) (c27 : Nat) (n28 : Int) (s : Hp), I x25 l26 c27 n28 s → B_ref10_Order_0 W R za0 x25 l26 c27 n28 (fun vs => N_ref10_Order_0 I μ x25 l26 c27 n28 s vs) s) : L_ref10_Order_0 W R za0 x250 l260 c270 n280 s := by
  refine ⟨fun vs s => ∃ x25 l26 c27 n28, vs = [(.slice x25 l26 c27), (.int .i64 n28)] ∧ I x25 l26 c27 n28 s, fun vs s => (match vs with | [.slice x25 l26 c27, .int _ n28] => μ x25 l26 c27 n28 s | _ => 0), ⟨⟨⟨_, _, _, rfl⟩, ⟨⟨_, rfl⟩, trivial⟩⟩, ⟨_, _, _, _, rfl, h0⟩⟩, ?_⟩
  intro x25 l26 c27 n28 s hI j
  obtain ⟨x25', l26', c27', n28', hy, hI⟩ := hI
  have hI' : I x25 l26 c27 n28 s := by cases hy; exact hI
  have hh := hr x25 l26 c27 n28 s hI'
  rw [← B_ref10_Order_0_eq W R za0 x25 l26 c27 n28 _ j] at hh
  refine vc_mono ?_ _ _ hh
  exact KLoop_mono (fun vs s' h => by obtain ⟨x251, l261, c271, n281, rfl, h1, h2⟩ := h; exact ⟨⟨⟨_, _, _, rfl⟩, ⟨⟨_, rfl⟩, trivial⟩⟩, ⟨_, _, _, _, rfl, h1⟩, h2⟩)
def B_ref10_Order_1 (W : World) (R : Ending → Hp → Prop) (nx0 : List Value → Hp → Prop) (za0 : Addr) (zp1 : Option Addr) (zl2 : Nat) (zl3 : Nat) (zn4 : Int) (n29 : Int) (n30 : Int) (nx1 : List Value → Hp → Prop) : Hp → Prop :=
  RDI .i64 (Addr.add za0 0) fun n31 =>
    BR (decide (n30 < n31))
      (J_ref10_Order_0 W R (decide (n29 < 0)) zn4 n30 nx0 nx1 za0 zp1 zl2 zl3 n29)
      (J_ref10_Order_0 W R false zn4 n30 nx0 nx1 za0 zp1 zl2 zl3 n29)
theorem B_ref10_Order_1_eq (W : World) (R : Ending → Hp → Prop) (nx0 : List Value → Hp → Prop) (za0 : Addr) (zp1 : Option Addr) (zl2 : Nat) (zl3 : Nat) (zn4 : Int) (n29 : Int) (n30 : Int) (nx1 : List Value → Hp → Prop) (j : Tm) : vc Pg W 62 rs_30 an_30 false (sub (bodyOf Try.f30) [1, 1, 1, 1, 0, 0, 0, 1, 0, 1, 0, 1, 0, 0]) 2 (KLoop [6, 7] [1, 2, 3, 4, 5, 62] [(.pointer (some za0)), (.slice none 0 0), (.int .i64 0), (.slice zp1 zl2 zl3), (.int .i64 zn4), (.tuple #[])] nx1 (KBlk 2 (KS Pg W 62 rs_30 an_30 false (sub (bodyOf Try.f30) [1, 1, 1, 1, 0, 0, 0, 1, 0, 1, 1]) 1 (KBlk 1 (KLoop [4, 5] [1, 2, 3, 62] [(.pointer (some za0)), (.slice none 0 0), (.int .i64 0), (.tuple #[])] nx0 (KBlk 0 (KS Pg W 62 rs_30 an_30 false (sub (bodyOf Try.f30) [1, 1, 1, 1, 1]) 0 (fin Pg W 62 rv_30 R)))))))) (known [6, 7] [(.int .i64 n29), (.int .i64 n30)] (known [1, 2, 3, 4, 5, 62] [(.pointer (some za0)), (.slice none 0 0), (.int .i64 0), (.slice zp1 zl2 zl3), (.int .i64 zn4), (.tuple #[])] j)) = B_ref10_Order_1 W R nx0 za0 zp1 zl2 zl3 zn4 n29 n30 nx1 := by kernel_rfl
def N_ref10_Order_1 (I : Int → Int → Hp → Prop) (μ : Int → Int → Hp → Nat) (n290 : Int) (n300 : Int) (s : Hp) (vs : List Value) : Hp → Prop := fun s' => ∃ n29 n30, vs = [(.int .i64 n29), (.int .i64 n30)] ∧ I n29 n30 s' ∧ μ n29 n30 s' < μ n290 n300 s
theorem L_ref10_Order_1_rule (W : World) (R : Ending → Hp → Prop) (nx0 : List Value → Hp → Prop) (za0 : Addr) (zp1 : Option Addr) (zl2 : Nat) (zl3 : Nat) (zn4 : Int) (I : Int → Int → Hp → Prop) (μ : Int → Int → Hp → Nat) (n290 : Int) (n300 : Int) (s : Hp) (h0 : I n290 n300 s)
    (hr : ∀ (n29 : Int) (n30 : Int) (s : Hp), I n29 n30 s → B_ref10_Order_1 W R nx0 za0 zp1 zl2 zl3 zn4 n29 n30 (fun vs => N_ref10_Order_1 I μ n29 n30 s vs) s) : L_ref10_Order_1 W R nx0 za0 zp1 zl2 zl3 zn4 n290 n300 s := by
  refine ⟨fun vs s => ∃ n29 n30, vs = [(.int .i64 n29), (.int .i64 n30)] ∧ I n29 n30 s, fun vs s => (match vs with | [.int _ n29, .int _ n30] => μ n29 n30 s | _ => 0), ⟨⟨⟨_, rfl⟩, ⟨⟨_, rfl⟩, trivial⟩⟩, ⟨_, _, rfl, h0⟩⟩, ?_⟩
  intro n29 n30 s hI j
  obtain ⟨n29', n30', hy, hI⟩ := hI
  have hI' : I n29 n30 s := by cases hy; exact hI
  have hh := hr n29 n30 s hI'
  rw [← B_ref10_Order_1_eq W R nx0 za0 zp1 zl2 zl3 zn4 n29 n30 _ j] at hh
  refine vc_mono ?_ _ _ hh
  exact KLoop_mono (fun vs s' h => by obtain ⟨n291, n301, rfl, h1, h2⟩ := h; exact ⟨⟨⟨_, rfl⟩, ⟨⟨_, rfl⟩, trivial⟩⟩, ⟨_, _, rfl, h1⟩, h2⟩)
def B_ref10_Order_2 (W : World) (R : Ending → Hp → Prop) (nx0 : List Value → Hp → Prop) (nx1 : List Value → Hp → Prop) (za0 : Addr) (zp1 : Option Addr) (zl2 : Nat) (zl3 : Nat) (zn4 : Int) (zn5 : Int) (zn6 : Int) (b43 : Bool) (n44 : Int) (nx2 : List Value → Hp → Prop) : Hp → Prop :=
  RDI .i64 (Addr.add za0 0) fun n45 =>
    BR (decide (n44 < n45))
      (BR b43
        (CALL Pg W F_ref10_Has [(.int .i64 zn4), (.int .i64 n44)]
          (fun v46 => TYB v46 fun b48 =>
            BR b48
              (RDI .i64 (Addr.add za0 0) fun n49 =>
                RDI .i64 (Addr.add za0 1) fun n50 =>
                  RDL (Addr.add za0 2) fun x51 l52 c53 =>
                    RDL (Addr.add za0 3) fun x54 l55 c56 =>
                      CALL Pg W F_ref10_surely [(.agg #[(.int .i64 n49), (.int .i64 n50), (.slice x51 l52 c53), (.slice x54 l55 c56)]), (.int .i64 n44), (.int .i64 zn6)]
                        (fun v57 => TYB v57 fun b59 =>
                          J_ref10_Order_1 W R za0 zp1 zl2 zl3 zn4 zn5 zn6 nx2 (!b59) n44)
                          (fun e58 => R (.panicked e58)))
              (J_ref10_Order_1 W R za0 zp1 zl2 zl3 zn4 zn5 zn6 nx2 true n44))
            (fun e47 => R (.panicked e47)))
        (J_ref10_Order_1 W R za0 zp1 zl2 zl3 zn4 zn5 zn6 nx2 false n44))
      (BR b43
        (NX [(.pointer (some za0)), (.slice none 0 0), (.int .i64 0), (.slice zp1 zl2 zl3), (.int .i64 zn4), (.tuple #[])] [(.pointer (some za0)), (.slice none 0 0), (.int .i64 0), (.slice zp1 zl2 zl3), (.int .i64 zn4), (.tuple #[])] (nx1 [(.int .i64 zn6), (.int .i64 (IntKind.wrap .i64 (zn6 + 1)))]))
        (NX [(.pointer (some za0)), (.slice none 0 0), (.int .i64 0), (.slice zp1 zl2 zl3), (.int .i64 zn4), (.tuple #[])] [(.pointer (some za0)), (.slice none 0 0), (.int .i64 0), (.slice zp1 zl2 zl3), (.int .i64 zn4), (.tuple #[])] (nx1 [(.int .i64 zn5), (.int .i64 (IntKind.wrap .i64 (zn6 + 1)))])))
theorem B_ref10_Order_2_eq (W : World) (R : Ending → Hp → Prop) (nx0 : List Value → Hp → Prop) (nx1 : List Value → Hp → Prop) (za0 : Addr) (zp1 : Option Addr) (zl2 : Nat) (zl3 : Nat) (zn4 : Int) (zn5 : Int) (zn6 : Int) (b43 : Bool) (n44 : Int) (nx2 : List Value → Hp → Prop) (j : Tm) : vc Pg W 62 rs_30 an_30 false (sub (bodyOf Try.f30) [1, 1, 1, 1, 0, 0, 0, 1, 0, 1, 0, 1, 0, 0, 1, 0, 0, 1, 0, 1, 0, 0]) 4 (KLoop [8, 9] [1, 2, 3, 4, 5, 6, 7, 62] [(.pointer (some za0)), (.slice none 0 0), (.int .i64 0), (.slice zp1 zl2 zl3), (.int .i64 zn4), (.int .i64 zn5), (.int .i64 zn6), (.tuple #[])] nx2 (KBlk 4 (KS Pg W 62 rs_30 an_30 false (sub (bodyOf Try.f30) [1, 1, 1, 1, 0, 0, 0, 1, 0, 1, 0, 1, 0, 0, 1, 0, 0, 1, 1]) 3 (KBlk 3 (KS Pg W 62 rs_30 an_30 false (sub (bodyOf Try.f30) [1, 1, 1, 1, 0, 0, 0, 1, 0, 1, 0, 1, 0, 0, 1, 1]) 2 (KLoop [6, 7] [1, 2, 3, 4, 5, 62] [(.pointer (some za0)), (.slice none 0 0), (.int .i64 0), (.slice zp1 zl2 zl3), (.int .i64 zn4), (.tuple #[])] nx1 (KBlk 2 (KS Pg W 62 rs_30 an_30 false (sub (bodyOf Try.f30) [1, 1, 1, 1, 0, 0, 0, 1, 0, 1, 1]) 1 (KBlk 1 (KLoop [4, 5] [1, 2, 3, 62] [(.pointer (some za0)), (.slice none 0 0), (.int .i64 0), (.tuple #[])] nx0 (KBlk 0 (KS Pg W 62 rs_30 an_30 false (sub (bodyOf Try.f30) [1, 1, 1, 1, 1]) 0 (fin Pg W 62 rv_30 R))))))))))))) (known [8, 9] [(.bool b43), (.int .i64 n44)] (known [1, 2, 3, 4, 5, 6, 7, 62] [(.pointer (some za0)), (.slice none 0 0), (.int .i64 0), (.slice zp1 zl2 zl3), (.int .i64 zn4), (.int .i64 zn5), (.int .i64 zn6), (.tuple #[])] j)) = B_ref10_Order_2 W R nx0 nx1 za0 zp1 zl2 zl3 zn4 zn5 zn6 b43 n44 nx2 := by kernel_rfl
def N_ref10_Order_2 (I : Bool → Int → Hp → Prop) (μ : Bool → Int → Hp → Nat) (b430 : Bool) (n440 : Int) (s : Hp) (vs : List Value) : Hp → Prop := fun s' => ∃ b43 n44, vs = [(.bool b43), (.int .i64 n44)] ∧ I b43 n44 s' ∧ μ b43 n44 s' < μ b430 n440 s
theorem L_ref10_Order_2_rule (W : World) (R : Ending → Hp → Prop) (nx0 : List Value → Hp → Prop) (nx1 : List Value → Hp → Prop) (za0 : Addr) (zp1 : Option Addr) (zl2 : Nat) (zl3 : Nat) (zn4 : Int) (zn5 : Int) (zn6 : Int) (I : Bool → Int → Hp → Prop) (μ : Bool → Int → Hp → Nat) (b430 : Bool) (n440 : Int) (s : Hp) (h0 : I b430 n440 s)
    (hr : ∀ (b43 : Bool) (n44 : Int) (s : Hp), I b43 n44 s → B_ref10_Order_2 W R nx0 nx1 za0 zp1 zl2 zl3 zn4 zn5 zn6 b43 n44 (fun vs => N_ref10_Order_2 I μ b43 n44 s vs) s) : L_ref10_Order_2 W R nx0 nx1 za0 zp1 zl2 zl3 zn4 zn5 zn6 b430 n440 s := by
  refine ⟨fun vs s => ∃ b43 n44, vs = [(.bool b43), (.int .i64 n44)] ∧ I b43 n44 s, fun vs s => (match vs with | [.bool b43, .int _ n44] => μ b43 n44 s | _ => 0), ⟨⟨⟨_, rfl⟩, ⟨⟨_, rfl⟩, trivial⟩⟩, ⟨_, _, rfl, h0⟩⟩, ?_⟩
  intro b43 n44 s hI j
  obtain ⟨b43', n44', hy, hI⟩ := hI
  have hI' : I b43 n44 s := by cases hy; exact hI
  have hh := hr b43 n44 s hI'
  rw [← B_ref10_Order_2_eq W R nx0 nx1 za0 zp1 zl2 zl3 zn4 zn5 zn6 b43 n44 _ j] at hh
  refine vc_mono ?_ _ _ hh
  exact KLoop_mono (fun vs s' h => by obtain ⟨b431, n441, rfl, h1, h2⟩ := h; exact ⟨⟨⟨_, rfl⟩, ⟨⟨_, rfl⟩, trivial⟩⟩, ⟨_, _, rfl, h1⟩, h2⟩)
def T_ref10_Order (W : World) (n1 : Int) (n2 : Int) (x3 : Option Addr) (l4 : Nat) (c5 : Nat) (x6 : Option Addr) (l7 : Nat) (c8 : Nat) (R : Ending → Hp → Prop) : Hp → Prop :=
  NEW 25 [(.int .i64 n1), (.int .i64 n2), (.slice x3 l4 c5), (.slice x6 l7 c8)] fun B9 =>
    RDI .i64 (Addr.add ⟨B9, 0, none⟩ 0) fun n10 =>
      RDI .i64 (Addr.add ⟨B9, 0, none⟩ 1) fun n11 =>
        RDL (Addr.add ⟨B9, 0, none⟩ 2) fun x12 l13 c14 =>
          RDL (Addr.add ⟨B9, 0, none⟩ 3) fun x15 l16 c17 =>
            CALL Pg W F_ref10_Table [(.agg #[(.int .i64 n10), (.int .i64 n11), (.slice x12 l13 c14), (.slice x15 l16 c17)])]
              (fun v18 => TYB v18 fun b20 =>
                BR (!b20)
                  (R (.returned (.tuple #[(.slice none 0 0), (.int .i64 1)])))
                  (RDI .i64 (Addr.add ⟨B9, 0, none⟩ 0) fun n21 =>
                    CALL Pg W F_ref10_power [(.int .i64 n21)]
                      (fun v22 => TYI .i64 v22 fun n24 =>
                        L_ref10_Order_0 W R ⟨B9, 0, none⟩ none 0 0 (IntKind.wrap .i64 (n24 - 1)))
                        (fun e23 => R (.panicked e23))))
                (fun e19 => R (.panicked e19))
theorem T_ref10_Order_eq (W : World) (n1 : Int) (n2 : Int) (x3 : Option Addr) (l4 : Nat) (c5 : Nat) (x6 : Option Addr) (l7 : Nat) (c8 : Nat) (R : Ending → Hp → Prop) : vfun Pg W an_30 Try.f30 [(.agg #[(.int .i64 n1), (.int .i64 n2), (.slice x3 l4 c5), (.slice x6 l7 c8)])] R = T_ref10_Order W n1 n2 x3 l4 c5 x6 l7 c8 R := by kernel_rfl
theorem does_ref10_Order (W : World) (n1 : Int) (n2 : Int) (x3 : Option Addr) (l4 : Nat) (c5 : Nat) (x6 : Option Addr) (l7 : Nat) (c8 : Nat) (R : Ending → Hp → Prop) (s : Hp) (h : T_ref10_Order W n1 n2 x3 l4 c5 x6 l7 c8 R s) : Does Pg W F_ref10_Order #[(.agg #[(.int .i64 n1), (.int .i64 n2), (.slice x3 l4 c5), (.slice x6 l7 c8)])] s R :=
  does_of_vfun Pg W an_30 Try.func30 rfl (by kernel_rfl) (by rw [T_ref10_Order_eq]; exact h)
def an_31 : Nat → Ann := fun b => match b with
  | 0 => { ms := [4, 5], ks := [.b, .i .i64], us := [0, 1, 26], rt := false, ex := [] }
  | _ => {}
abbrev rv_31 : List ResultVar := [.tmp 4]
abbrev rs_31 : List Nat := [26, 4]
def L_ref10_Ints_0 (W : World) (R : Ending → Hp → Prop) (zp0 : Option Addr) (zl1 : Nat) (zl2 : Nat) (zp3 : Option Addr) (zl4 : Nat) (zl5 : Nat) (b7 : Bool) (n8 : Int) : Hp → Prop :=
  LOOPN [.b, .i .i64] (fun ys next s => ∀ j : Tm, vc Pg W 26 rs_31 an_31 false (sub (bodyOf Try.f31) [1, 1, 0, 1, 0, 0]) 0 (KLoop [4, 5] [0, 1, 26] [(.slice zp0 zl1 zl2), (.slice zp3 zl4 zl5), (.tuple #[])] next (KBlk 0 (KS Pg W 26 rs_31 an_31 false (sub (bodyOf Try.f31) [1, 1, 1]) 0 (fin Pg W 26 rv_31 R)))) (known [4, 5] ys (known [0, 1, 26] [(.slice zp0 zl1 zl2), (.slice zp3 zl4 zl5), (.tuple #[])] j)) s) [(.bool b7), (.int .i64 n8)]
def B_ref10_Ints_0 (W : World) (R : Ending → Hp → Prop) (zp0 : Option Addr) (zl1 : Nat) (zl2 : Nat) (zp3 : Option Addr) (zl4 : Nat) (zl5 : Nat) (b7 : Bool) (n8 : Int) (nx0 : List Value → Hp → Prop) : Hp → Prop :=
  BR (decide (n8 < (↑zl1 : Int)))
    (IXS zp0 zl1 n8 1 fun a9 =>
      RDI .i64 a9 fun n10 =>
        IXS zp3 zl4 n8 1 fun a11 =>
          RDI .i64 a11 fun n12 =>
            BR (n10 != n12)
              (R (.returned (.bool false)))
              (NX [(.slice zp0 zl1 zl2), (.slice zp3 zl4 zl5), (.tuple #[])] [(.slice zp0 zl1 zl2), (.slice zp3 zl4 zl5), (.tuple #[])] (nx0 [(.bool b7), (.int .i64 (IntKind.wrap .i64 (n8 + 1)))])))
    (R (.returned (.bool true)))
theorem B_ref10_Ints_0_eq (W : World) (R : Ending → Hp → Prop) (zp0 : Option Addr) (zl1 : Nat) (zl2 : Nat) (zp3 : Option Addr) (zl4 : Nat) (zl5 : Nat) (b7 : Bool) (n8 : Int) (nx0 : List Value → Hp → Prop) (j : Tm) : vc Pg W 26 rs_31 an_31 false (sub (bodyOf Try.f31) [1, 1, 0, 1, 0, 0]) 0 (KLoop [4, 5] [0, 1, 26] [(.slice zp0 zl1 zl2), (.slice zp3 zl4 zl5), (.tuple #[])] nx0 (KBlk 0 (KS Pg W 26 rs_31 an_31 false (sub (bodyOf Try.f31) [1, 1, 1]) 0 (fin Pg W 26 rv_31 R)))) (known [4, 5] [(.bool b7), (.int .i64 n8)] (known [0, 1, 26] [(.slice zp0 zl1 zl2), (.slice zp3 zl4 zl5), (.tuple #[])] j)) = B_ref10_Ints_0 W R zp0 zl1 zl2 zp3 zl4 zl5 b7 n8 nx0 := by kernel_rfl
def N_ref10_Ints_0 (I : Bool → Int → Hp → Prop) (μ : Bool → Int → Hp → Nat) (b70 : Bool) (n80 : Int) (s : Hp) (vs : List Value) : Hp → Prop := fun s' => ∃ b7 n8, vs = [(.bool b7), (.int .i64 n8)] ∧ I b7 n8 s' ∧ μ b7 n8 s' < μ b70 n80 s
theorem L_ref10_Ints_0_rule (W : World) (R : Ending → Hp → Prop) (zp0 : Option Addr) (zl1 : Nat) (zl2 : Nat) (zp3 : Option Addr) (zl4 : Nat) (zl5 : Nat) (I : Bool → Int → Hp → Prop) (μ : Bool → Int → Hp → Nat) (b70 : Bool) (n80 : Int) (s : Hp) (h0 : I b70 n80 s)
    (hr : ∀ (b7 : Bool) (n8 : Int) (s : Hp), I b7 n8 s → B_ref10_Ints_0 W R zp0 zl1 zl2 zp3 zl4 zl5 b7 n8 (fun vs => N_ref10_Ints_0 I μ b7 n8 s vs) s) : L_ref10_Ints_0 W R zp0 zl1 zl2 zp3 zl4 zl5 b70 n80 s := by
  refine ⟨fun vs s => ∃ b7 n8, vs = [(.bool b7), (.int .i64 n8)] ∧ I b7 n8 s, fun vs s => (match vs with | [.bool b7, .int _ n8] => μ b7 n8 s | _ => 0), ⟨⟨⟨_, rfl⟩, ⟨⟨_, rfl⟩, trivial⟩⟩, ⟨_, _, rfl, h0⟩⟩, ?_⟩
  intro b7 n8 s hI j
  obtain ⟨b7', n8', hy, hI⟩ := hI
  have hI' : I b7 n8 s := by cases hy; exact hI
  have hh := hr b7 n8 s hI'
  rw [← B_ref10_Ints_0_eq W R zp0 zl1 zl2 zp3 zl4 zl5 b7 n8 _ j] at hh
  refine vc_mono ?_ _ _ hh
  exact KLoop_mono (fun vs s' h => by obtain ⟨b71, n81, rfl, h1, h2⟩ := h; exact ⟨⟨⟨_, rfl⟩, ⟨⟨_, rfl⟩, trivial⟩⟩, ⟨_, _, rfl, h1⟩, h2⟩)
def T_ref10_Ints (W : World) (x1 : Option Addr) (l2 : Nat) (c3 : Nat) (x4 : Option Addr) (l5 : Nat) (c6 : Nat) (R : Ending → Hp → Prop) : Hp → Prop :=
  BR ((↑l2 : Int) != (↑l5 : Int))
    (R (.returned (.bool false)))
    (L_ref10_Ints_0 W R x1 l2 c3 x4 l5 c6 false 0)
theorem T_ref10_Ints_eq (W : World) (x1 : Option Addr) (l2 : Nat) (c3 : Nat) (x4 : Option Addr) (l5 : Nat) (c6 : Nat) (R : Ending → Hp → Prop) : vfun Pg W an_31 Try.f31 [(.slice x1 l2 c3), (.slice x4 l5 c6)] R = T_ref10_Ints W x1 l2 c3 x4 l5 c6 R := by kernel_rfl
theorem does_ref10_Ints (W : World) (x1 : Option Addr) (l2 : Nat) (c3 : Nat) (x4 : Option Addr) (l5 : Nat) (c6 : Nat) (R : Ending → Hp → Prop) (s : Hp) (h : T_ref10_Ints W x1 l2 c3 x4 l5 c6 R s) : Does Pg W F_ref10_Ints #[(.slice x1 l2 c3), (.slice x4 l5 c6)] s R :=
  does_of_vfun Pg W an_31 Try.func31 rfl (by kernel_rfl) (by rw [T_ref10_Ints_eq]; exact h)
def an_37 : Nat → Ann := fun b => match b with
  | 0 => { ms := [7], ks := [.i .i64], us := [1, 2, 3, 6, 34], rt := false, ex := [] }
  | _ => {}
abbrev rv_37 : List ResultVar := [.cell 6 29]
abbrev rs_37 : List Nat := [34, 6]
def L_ref10_Points_0 (W : World) (R : Ending → Hp → Prop) (zn0 : Int) (zn1 : Int) (za2 : Addr) (za3 : Addr) (n13 : Int) : Hp → Prop :=
  LOOPN [.i .i64] (fun ys next s => ∀ j : Tm, vc Pg W 34 rs_37 an_37 false (sub (bodyOf Try.f37) [1, 0, 1, 0, 0]) 0 (KLoop [7] [1, 2, 3, 6, 34] [(.int .i64 zn0), (.int .i64 zn1), (.pointer (some za2)), (.pointer (some za3)), (.tuple #[])] next (KBlk 0 (KS Pg W 34 rs_37 an_37 false (sub (bodyOf Try.f37) [1, 1]) 0 (fin Pg W 34 rv_37 R)))) (known [7] ys (known [1, 2, 3, 6, 34] [(.int .i64 zn0), (.int .i64 zn1), (.pointer (some za2)), (.pointer (some za3)), (.tuple #[])] j)) s) [(.int .i64 n13)]
def J_ref10_Points_0 (W : World) (R : Ending → Hp → Prop) (b28 : Bool) (B25 : Nat) (za3 : Addr) (zn0 : Int) (zn1 : Int) (za2 : Addr) (nx0 : List Value → Hp → Prop) (n13 : Int) : Hp → Prop :=
  BR b28
    (RDI .i64 (Addr.add (Addr.add ⟨B25, 0, none⟩ 2) 0) fun n29 =>
      RDI .i64 (Addr.add (Addr.add ⟨B25, 0, none⟩ 2) 1) fun n30 =>
        WR (Addr.add za3 0) (.int .i64 n29) <|
          WR (Addr.add za3 1) (.int .i64 n30) <|
            RDI .i64 (Addr.add za3 0) fun n31 =>
              RDI .i64 (Addr.add za3 1) fun n32 =>
                R (.returned (.agg #[(.int .i64 n31), (.int .i64 n32)])))
    (NX [(.int .i64 zn0), (.int .i64 zn1), (.pointer (some za2)), (.pointer (some za3)), (.tuple #[])] [(.int .i64 zn0), (.int .i64 zn1), (.pointer (some za2)), (.pointer (some za3)), (.tuple #[])] (nx0 [(.int .i64 (IntKind.wrap .i64 (n13 + 1)))]))
def B_ref10_Points_0 (W : World) (R : Ending → Hp → Prop) (zn0 : Int) (zn1 : Int) (za2 : Addr) (za3 : Addr) (n13 : Int) (nx0 : List Value → Hp → Prop) : Hp → Prop :=
  RDL (Addr.add za2 3) fun x14 l15 c16 =>
    BR (decide (n13 < (↑l15 : Int)))
      (RDL (Addr.add za2 3) fun x17 l18 c19 =>
        IXS x17 l18 n13 4 fun a20 =>
          RDI .i64 (Addr.add a20 0) fun n21 =>
            RDI .i64 (Addr.add a20 1) fun n22 =>
              RDI .i64 (Addr.add a20 2) fun n23 =>
                RDI .i64 (Addr.add a20 3) fun n24 =>
                  NEWZ Pg 55 fun B25 =>
                    WR (Addr.add ⟨B25, 0, none⟩ 0) (.int .i64 n21) <|
                      WR (Addr.add ⟨B25, 0, none⟩ 1) (.int .i64 n22) <|
                        WR (Addr.add ⟨B25, 0, none⟩ 2) (.int .i64 n23) <|
                          WR (Addr.add ⟨B25, 0, none⟩ 3) (.int .i64 n24) <|
                            RDI .i64 (Addr.add ⟨B25, 0, none⟩ 0) fun n26 =>
                              BR (n26 == zn0)
                                (RDI .i64 (Addr.add ⟨B25, 0, none⟩ 1) fun n27 =>
                                  J_ref10_Points_0 W R (n27 == zn1) B25 za3 zn0 zn1 za2 nx0 n13)
                                (J_ref10_Points_0 W R false B25 za3 zn0 zn1 za2 nx0 n13))
      (WR (Addr.add za3 0) (.int .i64 0) <|
        WR (Addr.add za3 1) (.int .i64 40) <|
          RDI .i64 (Addr.add za3 0) fun n33 =>
            RDI .i64 (Addr.add za3 1) fun n34 =>
              R (.returned (.agg #[(.int .i64 n33), (.int .i64 n34)])))
theorem B_ref10_Points_0_eq (W : World) (R : Ending → Hp → Prop) (zn0 : Int) (zn1 : Int) (za2 : Addr) (za3 : Addr) (n13 : Int) (nx0 : List Value → Hp → Prop) (j : Tm) : vc Pg W 34 rs_37 an_37 false (sub (bodyOf Try.f37) [1, 0, 1, 0, 0]) 0 (KLoop [7] [1, 2, 3, 6, 34] [(.int .i64 zn0), (.int .i64 zn1), (.pointer (some za2)), (.pointer (some za3)), (.tuple #[])] nx0 (KBlk 0 (KS Pg W 34 rs_37 an_37 false (sub (bodyOf Try.f37) [1, 1]) 0 (fin Pg W 34 rv_37 R)))) (known [7] [(.int .i64 n13)] (known [1, 2, 3, 6, 34] [(.int .i64 zn0), (.int .i64 zn1), (.pointer (some za2)), (.pointer (some za3)), (.tuple #[])] j)) = B_ref10_Points_0 W R zn0 zn1 za2 za3 n13 nx0 := by kernel_rfl
def N_ref10_Points_0 (I : Int → Hp → Prop) (μ : Int → Hp → Nat) (n130 : Int) (s : Hp) (vs : List Value) : Hp → Prop := fun s' => ∃ n13, vs = [(.int .i64 n13)] ∧ I n13 s' ∧ μ n13 s' < μ n130 s
theorem L_ref10_Points_0_rule (W : World) (R : Ending → Hp → Prop) (zn0 : Int) (zn1 : Int) (za2 : Addr) (za3 : Addr) (I : Int → Hp → Prop) (μ : Int → Hp → Nat) (n130 : Int) (s : Hp) (h0 : I n130 s)
    (hr : ∀ (n13 : Int) (s : Hp), I n13 s → B_ref10_Points_0 W R zn0 zn1 za2 za3 n13 (fun vs => N_ref10_Points_0 I μ n13 s vs) s) : L_ref10_Points_0 W R zn0 zn1 za2 za3 n130 s := by
  refine ⟨fun vs s => ∃ n13, vs = [(.int .i64 n13)] ∧ I n13 s, fun vs s => (match vs with | [.int _ n13] => μ n13 s | _ => 0), ⟨⟨⟨_, rfl⟩, trivial⟩, ⟨_, rfl, h0⟩⟩, ?_⟩
  intro n13 s hI j
  obtain ⟨n13', hy, hI⟩ := hI
  have hI' : I n13 s := by cases hy; exact hI
  have hh := hr n13 s hI'
  rw [← B_ref10_Points_0_eq W R zn0 zn1 za2 za3 n13 _ j] at hh
  refine vc_mono ?_ _ _ hh
  exact KLoop_mono (fun vs s' h => by obtain ⟨n131, rfl, h1, h2⟩ := h; exact ⟨⟨⟨_, rfl⟩, trivial⟩, ⟨_, rfl, h1⟩, h2⟩)
def T_ref10_Points (W : World) (n1 : Int) (n2 : Int) (x3 : Option Addr) (l4 : Nat) (c5 : Nat) (x6 : Option Addr) (l7 : Nat) (c8 : Nat) (n9 : Int) (n10 : Int) (R : Ending → Hp → Prop) : Hp → Prop :=
  NEW 25 [(.int .i64 n1), (.int .i64 n2), (.slice x3 l4 c5), (.slice x6 l7 c8)] fun B11 =>
    NEWZ Pg 29 fun B12 =>
      L_ref10_Points_0 W R n9 n10 ⟨B11, 0, none⟩ ⟨B12, 0, none⟩ 0
theorem T_ref10_Points_eq (W : World) (n1 : Int) (n2 : Int) (x3 : Option Addr) (l4 : Nat) (c5 : Nat) (x6 : Option Addr) (l7 : Nat) (c8 : Nat) (n9 : Int) (n10 : Int) (R : Ending → Hp → Prop) : vfun Pg W an_37 Try.f37 [(.agg #[(.int .i64 n1), (.int .i64 n2), (.slice x3 l4 c5), (.slice x6 l7 c8)]), (.int .i64 n9), (.int .i64 n10)] R = T_ref10_Points W n1 n2 x3 l4 c5 x6 l7 c8 n9 n10 R := by kernel_rfl
theorem does_ref10_Points (W : World) (n1 : Int) (n2 : Int) (x3 : Option Addr) (l4 : Nat) (c5 : Nat) (x6 : Option Addr) (l7 : Nat) (c8 : Nat) (n9 : Int) (n10 : Int) (R : Ending → Hp → Prop) (s : Hp) (h : T_ref10_Points W n1 n2 x3 l4 c5 x6 l7 c8 n9 n10 R s) : Does Pg W F_ref10_Points #[(.agg #[(.int .i64 n1), (.int .i64 n2), (.slice x3 l4 c5), (.slice x6 l7 c8)]), (.int .i64 n9), (.int .i64 n10)] s R :=
  does_of_vfun Pg W an_37 Try.func37 rfl (by kernel_rfl) (by rw [T_ref10_Points_eq]; exact h)
def an_38 : Nat → Ann := fun b => match b with
  | 0 => { ms := [0, 3], ks := [.i .i64, .i .i64], us := [13], rt := false, ex := [] }
  | _ => {}
abbrev rv_38 : List ResultVar := [.tmp 2]
abbrev rs_38 : List Nat := [13, 2]
def L_ref10_Size_0 (W : World) (R : Ending → Hp → Prop) (n2 : Int) (n3 : Int) : Hp → Prop :=
  LOOPN [.i .i64, .i .i64] (fun ys next s => ∀ j : Tm, vc Pg W 13 rs_38 an_38 false (sub (bodyOf Try.f38) [1, 1, 0, 0, 0]) 0 (KLoop [0, 3] [13] [(.tuple #[])] next (KBlk 0 (KS Pg W 13 rs_38 an_38 false (sub (bodyOf Try.f38) [1, 1, 1]) 0 (fin Pg W 13 rv_38 R)))) (known [0, 3] ys (known [13] [(.tuple #[])] j)) s) [(.int .i64 n2), (.int .i64 n3)]
def B_ref10_Size_0 (W : World) (R : Ending → Hp → Prop) (n2 : Int) (n3 : Int) (nx0 : List Value → Hp → Prop) : Hp → Prop :=
  BR (decide (n2 > 0))
    (NX [(.tuple #[])] [(.tuple #[])] (nx0 [(.int .i64 (IntKind.wrap .i64 (Int.tdiv n2 2))), (.int .i64 (IntKind.wrap .i64 (n3 + (Int.tmod n2 2))))]))
    (R (.returned (.int .i64 n3)))
theorem B_ref10_Size_0_eq (W : World) (R : Ending → Hp → Prop) (n2 : Int) (n3 : Int) (nx0 : List Value → Hp → Prop) (j : Tm) : vc Pg W 13 rs_38 an_38 false (sub (bodyOf Try.f38) [1, 1, 0, 0, 0]) 0 (KLoop [0, 3] [13] [(.tuple #[])] nx0 (KBlk 0 (KS Pg W 13 rs_38 an_38 false (sub (bodyOf Try.f38) [1, 1, 1]) 0 (fin Pg W 13 rv_38 R)))) (known [0, 3] [(.int .i64 n2), (.int .i64 n3)] (known [13] [(.tuple #[])] j)) = B_ref10_Size_0 W R n2 n3 nx0 := by kernel_rfl
def N_ref10_Size_0 (I : Int → Int → Hp → Prop) (μ : Int → Int → Hp → Nat) (n20 : Int) (n30 : Int) (s : Hp) (vs : List Value) : Hp → Prop := fun s' => ∃ n2 n3, vs = [(.int .i64 n2), (.int .i64 n3)] ∧ I n2 n3 s' ∧ μ n2 n3 s' < μ n20 n30 s
theorem L_ref10_Size_0_rule (W : World) (R : Ending → Hp → Prop) (I : Int → Int → Hp → Prop) (μ : Int → Int → Hp → Nat) (n20 : Int) (n30 : Int) (s : Hp) (h0 : I n20 n30 s)
    (hr : ∀ (n2 : Int) (n3 : Int) (s : Hp), I n2 n3 s → B_ref10_Size_0 W R n2 n3 (fun vs => N_ref10_Size_0 I μ n2 n3 s vs) s) : L_ref10_Size_0 W R n20 n30 s := by
  refine ⟨fun vs s => ∃ n2 n3, vs = [(.int .i64 n2), (.int .i64 n3)] ∧ I n2 n3 s, fun vs s => (match vs with | [.int _ n2, .int _ n3] => μ n2 n3 s | _ => 0), ⟨⟨⟨_, rfl⟩, ⟨⟨_, rfl⟩, trivial⟩⟩, ⟨_, _, rfl, h0⟩⟩, ?_⟩
  intro n2 n3 s hI j
  obtain ⟨n2', n3', hy, hI⟩ := hI
  have hI' : I n2 n3 s := by cases hy; exact hI
  have hh := hr n2 n3 s hI'
  rw [← B_ref10_Size_0_eq W R n2 n3 _ j] at hh
  refine vc_mono ?_ _ _ hh
  exact KLoop_mono (fun vs s' h => by obtain ⟨n21, n31, rfl, h1, h2⟩ := h; exact ⟨⟨⟨_, rfl⟩, ⟨⟨_, rfl⟩, trivial⟩⟩, ⟨_, _, rfl, h1⟩, h2⟩)
def T_ref10_Size (W : World) (n1 : Int) (R : Ending → Hp → Prop) : Hp → Prop :=
  L_ref10_Size_0 W R n1 0
theorem T_ref10_Size_eq (W : World) (n1 : Int) (R : Ending → Hp → Prop) : vfun Pg W an_38 Try.f38 [(.int .i64 n1)] R = T_ref10_Size W n1 R := by kernel_rfl
theorem does_ref10_Size (W : World) (n1 : Int) (R : Ending → Hp → Prop) (s : Hp) (h : T_ref10_Size W n1 R s) : Does Pg W F_ref10_Size #[(.int .i64 n1)] s R :=
  does_of_vfun Pg W an_38 Try.func38 rfl (by kernel_rfl) (by rw [T_ref10_Size_eq]; exact h)
def an_40 : Nat → Ann := fun b => match b with
  | 0 => { ms := [10], ks := [.i .i64], us := [1, 2, 3, 4, 8, 9, 60], rt := false, ex := [] }
  | _ => {}
abbrev rv_40 : List ResultVar := [.cell 8 25]
abbrev rs_40 : List Nat := [60, 8]
def L_ref10_With_0 (W : World) (R : Ending → Hp → Prop) (zn0 : Int) (zn1 : Int) (zn2 : Int) (za3 : Addr) (za4 : Addr) (za5 : Addr) (n23 : Int) : Hp → Prop :=
  LOOPN [.i .i64] (fun ys next s => ∀ j : Tm, vc Pg W 60 rs_40 an_40 false (sub (bodyOf Try.f40) [1, 1, 1, 0, 1, 0, 0]) 0 (KLoop [10] [1, 2, 3, 4, 8, 9, 60] [(.int .i64 zn0), (.int .i64 zn1), (.int .i64 zn2), (.pointer (some za3)), (.pointer (some za4)), (.pointer (some za5)), (.tuple #[])] next (KBlk 0 (KS Pg W 60 rs_40 an_40 false (sub (bodyOf Try.f40) [1, 1, 1, 1]) 0 (fin Pg W 60 rv_40 R)))) (known [10] ys (known [1, 2, 3, 4, 8, 9, 60] [(.int .i64 zn0), (.int .i64 zn1), (.int .i64 zn2), (.pointer (some za3)), (.pointer (some za4)), (.pointer (some za5)), (.tuple #[])] j)) s) [(.int .i64 n23)]
def J_ref10_With_0 (W : World) (R : Ending → Hp → Prop) (zn0 : Int) (zn1 : Int) (zn2 : Int) (za3 : Addr) (za4 : Addr) (za5 : Addr) (nx0 : List Value → Hp → Prop) (n23 : Int) : Hp → Prop :=
  NX [(.int .i64 zn0), (.int .i64 zn1), (.int .i64 zn2), (.pointer (some za3)), (.pointer (some za4)), (.pointer (some za5)), (.tuple #[])] [(.int .i64 zn0), (.int .i64 zn1), (.int .i64 zn2), (.pointer (some za3)), (.pointer (some za4)), (.pointer (some za5)), (.tuple #[])] (nx0 [(.int .i64 (IntKind.wrap .i64 (n23 + 1)))])
def J_ref10_With_1 (W : World) (R : Ending → Hp → Prop) (b32 : Bool) (za5 : Addr) (za3 : Addr) (n23 : Int) (zn0 : Int) (zn1 : Int) (zn2 : Int) (za4 : Addr) (nx0 : List Value → Hp → Prop) : Hp → Prop :=
  BR b32
    (RDL (Addr.add za5 3) fun x33 l34 c35 =>
      RDL (Addr.add za3 3) fun x36 l37 c38 =>
        IXS x36 l37 n23 4 fun a39 =>
          RDI .i64 (Addr.add a39 0) fun n40 =>
            RDI .i64 (Addr.add a39 1) fun n41 =>
              RDI .i64 (Addr.add a39 2) fun n42 =>
                RDI .i64 (Addr.add a39 3) fun n43 =>
                  NEW 55 [(.int .i64 n40), (.int .i64 n41), (.int .i64 n42), (.int .i64 n43)] fun B44 =>
                    ANDS (RDL (Addr.add za5 3) fun x45 l46 c47 =>
                      fun _ => ((.slice x45 l46 c47) : Value) = (.slice x33 l34 c35)) <|
                      APP Pg 55 4 x33 l34 c35 (some ⟨B44, 0, none⟩) 1 fun x48 l49 c50 =>
                        WR (Addr.add (Addr.add za5 3) 0) (.slice x48 l49 c50) <|
                          J_ref10_With_0 W R zn0 zn1 zn2 za3 za4 za5 nx0 n23)
    (J_ref10_With_0 W R zn0 zn1 zn2 za3 za4 za5 nx0 n23)
def B_ref10_With_0 (W : World) (R : Ending → Hp → Prop) (zn0 : Int) (zn1 : Int) (zn2 : Int) (za3 : Addr) (za4 : Addr) (za5 : Addr) (n23 : Int) (nx0 : List Value → Hp → Prop) : Hp → Prop :=
  RDL (Addr.add za3 3) fun x24 l25 c26 =>
    BR (decide (n23 < (↑l25 : Int)))
      (RDL (Addr.add za3 3) fun x27 l28 c29 =>
        IXS x27 l28 n23 4 fun a30 =>
          RDI .i64 (Addr.add a30 0) fun n31 =>
            BR (n31 != zn0)
              (J_ref10_With_1 W R true za5 za3 n23 zn0 zn1 zn2 za4 nx0)
              (RDL (Addr.add za3 3) fun x51 l52 c53 =>
                IXS x51 l52 n23 4 fun a54 =>
                  RDI .i64 (Addr.add a54 1) fun n55 =>
                    J_ref10_With_1 W R (n55 != zn1) za5 za3 n23 zn0 zn1 zn2 za4 nx0))
      (RDL (Addr.add za5 3) fun x56 l57 c58 =>
        NEW 55 [(.int .i64 zn0), (.int .i64 zn1), (.int .i64 zn2), (.int .i64 zn2)] fun B59 =>
          APP Pg 55 4 x56 l57 c58 (some ⟨B59, 0, none⟩) 1 fun x60 l61 c62 =>
            WR (Addr.add (Addr.add za5 3) 0) (.slice x60 l61 c62) <|
              RDI .i64 (Addr.add za5 0) fun n63 =>
                RDI .i64 (Addr.add za5 1) fun n64 =>
                  RDL (Addr.add za5 2) fun x65 l66 c67 =>
                    RDL (Addr.add za5 3) fun x68 l69 c70 =>
                      WR (Addr.add za4 0) (.int .i64 n63) <|
                        WR (Addr.add za4 1) (.int .i64 n64) <|
                          WR (Addr.add za4 2) (.slice x65 l66 c67) <|
                            WR (Addr.add za4 3) (.slice x68 l69 c70) <|
                              RDI .i64 (Addr.add za4 0) fun n71 =>
                                RDI .i64 (Addr.add za4 1) fun n72 =>
                                  RDL (Addr.add za4 2) fun x73 l74 c75 =>
                                    RDL (Addr.add za4 3) fun x76 l77 c78 =>
                                      R (.returned (.agg #[(.int .i64 n71), (.int .i64 n72), (.slice x73 l74 c75), (.slice x76 l77 c78)])))
theorem B_ref10_With_0_eq (W : World) (R : Ending → Hp → Prop) (zn0 : Int) (zn1 : Int) (zn2 : Int) (za3 : Addr) (za4 : Addr) (za5 : Addr) (n23 : Int) (nx0 : List Value → Hp → Prop) (j : Tm) : vc Pg W 60 rs_40 an_40 false (sub (bodyOf Try.f40) [1, 1, 1, 0, 1, 0, 0]) 0 (KLoop [10] [1, 2, 3, 4, 8, 9, 60] [(.int .i64 zn0), (.int .i64 zn1), (.int .i64 zn2), (.pointer (some za3)), (.pointer (some za4)), (.pointer (some za5)), (.tuple #[])] nx0 (KBlk 0 (KS Pg W 60 rs_40 an_40 false (sub (bodyOf Try.f40) [1, 1, 1, 1]) 0 (fin Pg W 60 rv_40 R)))) (known [10] [(.int .i64 n23)] (known [1, 2, 3, 4, 8, 9, 60] [(.int .i64 zn0), (.int .i64 zn1), (.int .i64 zn2), (.pointer (some za3)), (.pointer (some za4)), (.pointer (some za5)), (.tuple #[])] j)) = B_ref10_With_0 W R zn0 zn1 zn2 za3 za4 za5 n23 nx0 := by kernel_rfl
def N_ref10_With_0 (I : Int → Hp → Prop) (μ : Int → Hp → Nat) (n230 : Int) (s : Hp) (vs : List Value) : Hp → Prop := fun s' => ∃ n23, vs = [(.int .i64 n23)] ∧ I n23 s' ∧ μ n23 s' < μ n230 s
theorem L_ref10_With_0_rule (W : World) (R : Ending → Hp → Prop) (zn0 : Int) (zn1 : Int) (zn2 : Int) (za3 : Addr) (za4 : Addr) (za5 : Addr) (I : Int → Hp → Prop) (μ : Int → Hp → Nat) (n230 : Int) (s : Hp) (h0 : I n230 s)
    (hr : ∀ (n23 : Int) (s : Hp), I n23 s → B_ref10_With_0 W R zn0 zn1 zn2 za3 za4 za5 n23 (fun vs => N_ref10_With_0 I μ n23 s vs) s) : L_ref10_With_0 W R zn0 zn1 zn2 za3 za4 za5 n230 s := by
  refine ⟨fun vs s => ∃ n23, vs = [(.int .i64 n23)] ∧ I n23 s, fun vs s => (match vs with | [.int _ n23] => μ n23 s | _ => 0), ⟨⟨⟨_, rfl⟩, trivial⟩, ⟨_, rfl, h0⟩⟩, ?_⟩
  intro n23 s hI j
  obtain ⟨n23', hy, hI⟩ := hI
  have hI' : I n23 s := by cases hy; exact hI
  have hh := hr n23 s hI'
  rw [← B_ref10_With_0_eq W R zn0 zn1 zn2 za3 za4 za5 n23 _ j] at hh
  refine vc_mono ?_ _ _ hh
  exact KLoop_mono (fun vs s' h => by obtain ⟨n231, rfl, h1, h2⟩ := h; exact ⟨⟨⟨_, rfl⟩, trivial⟩, ⟨_, rfl, h1⟩, h2⟩)
def T_ref10_With (W : World) (n1 : Int) (n2 : Int) (x3 : Option Addr) (l4 : Nat) (c5 : Nat) (x6 : Option Addr) (l7 : Nat) (c8 : Nat) (n9 : Int) (n10 : Int) (n11 : Int) (R : Ending → Hp → Prop) : Hp → Prop :=
  NEW 25 [(.int .i64 n1), (.int .i64 n2), (.slice x3 l4 c5), (.slice x6 l7 c8)] fun B12 =>
    NEWZ Pg 25 fun B13 =>
      RDI .i64 (Addr.add ⟨B12, 0, none⟩ 0) fun n14 =>
        RDI .i64 (Addr.add ⟨B12, 0, none⟩ 1) fun n15 =>
          RDL (Addr.add ⟨B12, 0, none⟩ 2) fun x16 l17 c18 =>
            RDL (Addr.add ⟨B12, 0, none⟩ 3) fun x19 l20 c21 =>
              NEWZ Pg 25 fun B22 =>
                WR (Addr.add ⟨B22, 0, none⟩ 0) (.int .i64 n14) <|
                  WR (Addr.add ⟨B22, 0, none⟩ 1) (.int .i64 n15) <|
                    WR (Addr.add ⟨B22, 0, none⟩ 2) (.slice x16 l17 c18) <|
                      WR (Addr.add ⟨B22, 0, none⟩ 3) (.slice x19 l20 c21) <|
                        WR (Addr.add (Addr.add ⟨B22, 0, none⟩ 3) 0) (.slice none 0 0) <|
                          L_ref10_With_0 W R n9 n10 n11 ⟨B12, 0, none⟩ ⟨B13, 0, none⟩ ⟨B22, 0, none⟩ 0
theorem T_ref10_With_eq (W : World) (n1 : Int) (n2 : Int) (x3 : Option Addr) (l4 : Nat) (c5 : Nat) (x6 : Option Addr) (l7 : Nat) (c8 : Nat) (n9 : Int) (n10 : Int) (n11 : Int) (R : Ending → Hp → Prop) : vfun Pg W an_40 Try.f40 [(.agg #[(.int .i64 n1), (.int .i64 n2), (.slice x3 l4 c5), (.slice x6 l7 c8)]), (.int .i64 n9), (.int .i64 n10), (.int .i64 n11)] R = T_ref10_With W n1 n2 x3 l4 c5 x6 l7 c8 n9 n10 n11 R := by kernel_rfl
theorem does_ref10_With (W : World) (n1 : Int) (n2 : Int) (x3 : Option Addr) (l4 : Nat) (c5 : Nat) (x6 : Option Addr) (l7 : Nat) (c8 : Nat) (n9 : Int) (n10 : Int) (n11 : Int) (R : Ending → Hp → Prop) (s : Hp) (h : T_ref10_With W n1 n2 x3 l4 c5 x6 l7 c8 n9 n10 n11 R s) : Does Pg W F_ref10_With #[(.agg #[(.int .i64 n1), (.int .i64 n2), (.slice x3 l4 c5), (.slice x6 l7 c8)]), (.int .i64 n9), (.int .i64 n10), (.int .i64 n11)] s R :=
  does_of_vfun Pg W an_40 Try.func40 rfl (by kernel_rfl) (by rw [T_ref10_With_eq]; exact h)
def an_51 : Nat → Ann := fun b => match b with
  | _ => {}
abbrev rv_51 : List ResultVar := [.tmp 4]
abbrev rs_51 : List Nat := [10, 4]
def T_ref10_check (W : World) (n1 : Int) (n2 : Int) (x3 : Option Addr) (l4 : Nat) (c5 : Nat) (x6 : Option Addr) (l7 : Nat) (c8 : Nat) (b9 : Bool) (R : Ending → Hp → Prop) : Hp → Prop :=
  NEW 25 [(.int .i64 n1), (.int .i64 n2), (.slice x3 l4 c5), (.slice x6 l7 c8)] fun B10 =>
    RDI .i64 (Addr.add ⟨B10, 0, none⟩ 0) fun n11 =>
      RDI .i64 (Addr.add ⟨B10, 0, none⟩ 1) fun n12 =>
        RDL (Addr.add ⟨B10, 0, none⟩ 2) fun x13 l14 c15 =>
          RDL (Addr.add ⟨B10, 0, none⟩ 3) fun x16 l17 c18 =>
            CALL Pg W F_ref10_Table [(.agg #[(.int .i64 n11), (.int .i64 n12), (.slice x13 l14 c15), (.slice x16 l17 c18)])]
              (fun v19 => TYB v19 fun b21 =>
                BR (!b21)
                  (R (.returned (.int .i64 1)))
                  (BR (!b9)
                    (R (.returned (.int .i64 2)))
                    (R (.returned (.int .i64 0)))))
                (fun e20 => R (.panicked e20))
theorem T_ref10_check_eq (W : World) (n1 : Int) (n2 : Int) (x3 : Option Addr) (l4 : Nat) (c5 : Nat) (x6 : Option Addr) (l7 : Nat) (c8 : Nat) (b9 : Bool) (R : Ending → Hp → Prop) : vfun Pg W an_51 Try.f51 [(.agg #[(.int .i64 n1), (.int .i64 n2), (.slice x3 l4 c5), (.slice x6 l7 c8)]), (.bool b9)] R = T_ref10_check W n1 n2 x3 l4 c5 x6 l7 c8 b9 R := by kernel_rfl
theorem does_ref10_check (W : World) (n1 : Int) (n2 : Int) (x3 : Option Addr) (l4 : Nat) (c5 : Nat) (x6 : Option Addr) (l7 : Nat) (c8 : Nat) (b9 : Bool) (R : Ending → Hp → Prop) (s : Hp) (h : T_ref10_check W n1 n2 x3 l4 c5 x6 l7 c8 b9 R s) : Does Pg W F_ref10_check #[(.agg #[(.int .i64 n1), (.int .i64 n2), (.slice x3 l4 c5), (.slice x6 l7 c8)]), (.bool b9)] s R :=
  does_of_vfun Pg W an_51 Try.func51 rfl (by kernel_rfl) (by rw [T_ref10_check_eq]; exact h)
def an_52 : Nat → Ann := fun b => match b with
  | _ => {}
abbrev rv_52 : List ResultVar := [.tmp 4]
abbrev rs_52 : List Nat := [10, 4]
def T_ref10_Man (W : World) (n1 : Int) (n2 : Int) (x3 : Option Addr) (l4 : Nat) (c5 : Nat) (x6 : Option Addr) (l7 : Nat) (c8 : Nat) (n9 : Int) (R : Ending → Hp → Prop) : Hp → Prop :=
  NEW 25 [(.int .i64 n1), (.int .i64 n2), (.slice x3 l4 c5), (.slice x6 l7 c8)] fun B10 =>
    RDI .i64 (Addr.add ⟨B10, 0, none⟩ 0) fun n11 =>
      CALL Pg W F_ref10_in [(.int .i64 n9), (.int .i64 0), (.int .i64 (IntKind.wrap .i64 (n11 - 1)))]
        (fun v12 => TYB v12 fun b14 =>
          R (.returned (.bool b14)))
          (fun e13 => R (.panicked e13))
theorem T_ref10_Man_eq (W : World) (n1 : Int) (n2 : Int) (x3 : Option Addr) (l4 : Nat) (c5 : Nat) (x6 : Option Addr) (l7 : Nat) (c8 : Nat) (n9 : Int) (R : Ending → Hp → Prop) : vfun Pg W an_52 Try.f52 [(.agg #[(.int .i64 n1), (.int .i64 n2), (.slice x3 l4 c5), (.slice x6 l7 c8)]), (.int .i64 n9)] R = T_ref10_Man W n1 n2 x3 l4 c5 x6 l7 c8 n9 R := by kernel_rfl
theorem does_ref10_Man (W : World) (n1 : Int) (n2 : Int) (x3 : Option Addr) (l4 : Nat) (c5 : Nat) (x6 : Option Addr) (l7 : Nat) (c8 : Nat) (n9 : Int) (R : Ending → Hp → Prop) (s : Hp) (h : T_ref10_Man W n1 n2 x3 l4 c5 x6 l7 c8 n9 R s) : Does Pg W F_ref10_Man #[(.agg #[(.int .i64 n1), (.int .i64 n2), (.slice x3 l4 c5), (.slice x6 l7 c8)]), (.int .i64 n9)] s R :=
  does_of_vfun Pg W an_52 Try.func52 rfl (by kernel_rfl) (by rw [T_ref10_Man_eq]; exact h)
def an_53 : Nat → Ann := fun b => match b with
  | 0 => { ms := [5, 6], ks := [.l, .i .i64], us := [1, 2, 4, 25], rt := false, ex := [] }
  | _ => {}
abbrev rv_53 : List ResultVar := [.tmp 4]
abbrev rs_53 : List Nat := [25, 4]
def L_ref10_least_0 (W : World) (R : Ending → Hp → Prop) (zn0 : Int) (za1 : Addr) (x11 : Option Addr) (l12 : Nat) (c13 : Nat) (n14 : Int) : Hp → Prop :=
  LOOPN [.l, .i .i64] (fun ys next s => ∀ j : Tm, vc Pg W 25 rs_53 an_53 false (sub (bodyOf Try.f53) [1, 1, 0, 1, 0, 0]) 0 (KLoop [5, 6] [1, 2, 4, 25] [(.int .i64 zn0), (.pointer (some za1)), (.slice none 0 0), (.tuple #[])] next (KBlk 0 (KS Pg W 25 rs_53 an_53 false (sub (bodyOf Try.f53) [1, 1, 1]) 0 (fin Pg W 25 rv_53 R)))) (known [5, 6] ys (known [1, 2, 4, 25] [(.int .i64 zn0), (.pointer (some za1)), (.slice none 0 0), (.tuple #[])] j)) s) [(.slice x11 l12 c13), (.int .i64 n14)]
def B_ref10_least_0 (W : World) (R : Ending → Hp → Prop) (zn0 : Int) (za1 : Addr) (x11 : Option Addr) (l12 : Nat) (c13 : Nat) (n14 : Int) (nx0 : List Value → Hp → Prop) : Hp → Prop :=
  RDI .i64 (Addr.add za1 1) fun n15 =>
    BR (decide (n14 < n15))
      (RDI .i64 (Addr.add za1 0) fun n16 =>
        RDI .i64 (Addr.add za1 1) fun n17 =>
          RDL (Addr.add za1 2) fun x18 l19 c20 =>
            RDL (Addr.add za1 3) fun x21 l22 c23 =>
              CALL Pg W F_ref10_Points [(.agg #[(.int .i64 n16), (.int .i64 n17), (.slice x18 l19 c20), (.slice x21 l22 c23)]), (.int .i64 zn0), (.int .i64 n14)]
                (fun v24 => AGG v24 fun q26 => HD q26 fun v27 r28 => TYI .i64 v27 fun n29 =>
                  HD r28 fun v30 r31 => TYI .i64 v30 fun n32 =>
                    NL r31 <|
                      NEW 3 [(.int .i64 n29)] fun B33 =>
                        APP Pg 3 1 x11 l12 c13 (some ⟨B33, 0, none⟩) 1 fun x34 l35 c36 =>
                          NX [(.int .i64 zn0), (.pointer (some za1)), (.slice none 0 0), (.tuple #[])] [(.int .i64 zn0), (.pointer (some za1)), (.slice none 0 0), (.tuple #[])] (nx0 [(.slice x34 l35 c36), (.int .i64 (IntKind.wrap .i64 (n14 + 1)))]))
                  (fun e25 => R (.panicked e25)))
      (RDI .i64 (Addr.add za1 0) fun n37 =>
        RDI .i64 (Addr.add za1 1) fun n38 =>
          RDL (Addr.add za1 2) fun x39 l40 c41 =>
            RDL (Addr.add za1 3) fun x42 l43 c44 =>
              CALL Pg W F_ref10_row [(.agg #[(.int .i64 n37), (.int .i64 n38), (.slice x39 l40 c41), (.slice x42 l43 c44)]), (.int .i64 zn0), (.slice x11 l12 c13)]
                (fun v45 => TYL v45 fun x47 l48 c49 =>
                  R (.returned (.slice x47 l48 c49)))
                  (fun e46 => R (.panicked e46)))
theorem B_ref10_least_0_eq (W : World) (R : Ending → Hp → Prop) (zn0 : Int) (za1 : Addr) (x11 : Option Addr) (l12 : Nat) (c13 : Nat) (n14 : Int) (nx0 : List Value → Hp → Prop) (j : Tm) : vc Pg W 25 rs_53 an_53 false (sub (bodyOf Try.f53) [1, 1, 0, 1, 0, 0]) 0 (KLoop [5, 6] [1, 2, 4, 25] [(.int .i64 zn0), (.pointer (some za1)), (.slice none 0 0), (.tuple #[])] nx0 (KBlk 0 (KS Pg W 25 rs_53 an_53 false (sub (bodyOf Try.f53) [1, 1, 1]) 0 (fin Pg W 25 rv_53 R)))) (known [5, 6] [(.slice x11 l12 c13), (.int .i64 n14)] (known [1, 2, 4, 25] [(.int .i64 zn0), (.pointer (some za1)), (.slice none 0 0), (.tuple #[])] j)) = B_ref10_least_0 W R zn0 za1 x11 l12 c13 n14 nx0 := by kernel_rfl
def N_ref10_least_0 (I : Option Addr → Nat → Nat → Int → Hp → Prop) (μ : Option Addr → Nat → Nat → Int → Hp → Nat) (x110 : Option Addr) (l120 : Nat) (c130 : Nat) (n140 : Int) (s : Hp) (vs : List Value) : Hp → Prop := fun s' => ∃ x11 l12 c13 n14, vs = [(.slice x11 l12 c13), (.int .i64 n14)] ∧ I x11 l12 c13 n14 s' ∧ μ x11 l12 c13 n14 s' < μ x110 l120 c130 n140 s
theorem L_ref10_least_0_rule (W : World) (R : Ending → Hp → Prop) (zn0 : Int) (za1 : Addr) (I : Option Addr → Nat → Nat → Int → Hp → Prop) (μ : Option Addr → Nat → Nat → Int → Hp → Nat) (x110 : Option Addr) (l120 : Nat) (c130 : Nat) (n140 : Int) (s : Hp) (h0 : I x110 l120 c130 n140 s)
    (hr : ∀ (x11 : Option Addr) (l12 : Nat) (c13 : Nat) (n14 : Int) (s : Hp), I x11 l12 c13 n14 s → B_ref10_least_0 W R zn0 za1 x11 l12 c13 n14 (fun vs => N_ref10_least_0 I μ x11 l12 c13 n14 s vs) s) : L_ref10_least_0 W R zn0 za1 x110 l120 c130 n140 s := by
  refine ⟨fun vs s => ∃ x11 l12 c13 n14, vs = [(.slice x11 l12 c13), (.int .i64 n14)] ∧ I x11 l12 c13 n14 s, fun vs s => (match vs with | [.slice x11 l12 c13, .int _ n14] => μ x11 l12 c13 n14 s | _ => 0), ⟨⟨⟨_, _, _, rfl⟩, ⟨⟨_, rfl⟩, trivial⟩⟩, ⟨_, _, _, _, rfl, h0⟩⟩, ?_⟩
  intro x11 l12 c13 n14 s hI j
  obtain ⟨x11', l12', c13', n14', hy, hI⟩ := hI
  have hI' : I x11 l12 c13 n14 s := by cases hy; exact hI
  have hh := hr x11 l12 c13 n14 s hI'
  rw [← B_ref10_least_0_eq W R zn0 za1 x11 l12 c13 n14 _ j] at hh
  refine vc_mono ?_ _ _ hh
  exact KLoop_mono (fun vs s' h => by obtain ⟨x111, l121, c131, n141, rfl, h1, h2⟩ := h; exact ⟨⟨⟨_, _, _, rfl⟩, ⟨⟨_, rfl⟩, trivial⟩⟩, ⟨_, _, _, _, rfl, h1⟩, h2⟩)
def T_ref10_least (W : World) (n1 : Int) (n2 : Int) (x3 : Option Addr) (l4 : Nat) (c5 : Nat) (x6 : Option Addr) (l7 : Nat) (c8 : Nat) (n9 : Int) (R : Ending → Hp → Prop) : Hp → Prop :=
  NEW 25 [(.int .i64 n1), (.int .i64 n2), (.slice x3 l4 c5), (.slice x6 l7 c8)] fun B10 =>
    L_ref10_least_0 W R n9 ⟨B10, 0, none⟩ none 0 0 0
theorem T_ref10_least_eq (W : World) (n1 : Int) (n2 : Int) (x3 : Option Addr) (l4 : Nat) (c5 : Nat) (x6 : Option Addr) (l7 : Nat) (c8 : Nat) (n9 : Int) (R : Ending → Hp → Prop) : vfun Pg W an_53 Try.f53 [(.agg #[(.int .i64 n1), (.int .i64 n2), (.slice x3 l4 c5), (.slice x6 l7 c8)]), (.int .i64 n9)] R = T_ref10_least W n1 n2 x3 l4 c5 x6 l7 c8 n9 R := by kernel_rfl
theorem does_ref10_least (W : World) (n1 : Int) (n2 : Int) (x3 : Option Addr) (l4 : Nat) (c5 : Nat) (x6 : Option Addr) (l7 : Nat) (c8 : Nat) (n9 : Int) (R : Ending → Hp → Prop) (s : Hp) (h : T_ref10_least W n1 n2 x3 l4 c5 x6 l7 c8 n9 R s) : Does Pg W F_ref10_least #[(.agg #[(.int .i64 n1), (.int .i64 n2), (.slice x3 l4 c5), (.slice x6 l7 c8)]), (.int .i64 n9)] s R :=
  does_of_vfun Pg W an_53 Try.func53 rfl (by kernel_rfl) (by rw [T_ref10_least_eq]; exact h)
def an_54 : Nat → Ann := fun b => match b with
  | 0 => { ms := [5, 6], ks := [.l, .i .i64], us := [1, 2, 4, 25], rt := false, ex := [] }
  | _ => {}
abbrev rv_54 : List ResultVar := [.tmp 4]
abbrev rs_54 : List Nat := [25, 4]
def L_ref10_most_0 (W : World) (R : Ending → Hp → Prop) (zn0 : Int) (za1 : Addr) (x11 : Option Addr) (l12 : Nat) (c13 : Nat) (n14 : Int) : Hp → Prop :=
  LOOPN [.l, .i .i64] (fun ys next s => ∀ j : Tm, vc Pg W 25 rs_54 an_54 false (sub (bodyOf Try.f54) [1, 1, 0, 1, 0, 0]) 0 (KLoop [5, 6] [1, 2, 4, 25] [(.int .i64 zn0), (.pointer (some za1)), (.slice none 0 0), (.tuple #[])] next (KBlk 0 (KS Pg W 25 rs_54 an_54 false (sub (bodyOf Try.f54) [1, 1, 1]) 0 (fin Pg W 25 rv_54 R)))) (known [5, 6] ys (known [1, 2, 4, 25] [(.int .i64 zn0), (.pointer (some za1)), (.slice none 0 0), (.tuple #[])] j)) s) [(.slice x11 l12 c13), (.int .i64 n14)]
def B_ref10_most_0 (W : World) (R : Ending → Hp → Prop) (zn0 : Int) (za1 : Addr) (x11 : Option Addr) (l12 : Nat) (c13 : Nat) (n14 : Int) (nx0 : List Value → Hp → Prop) : Hp → Prop :=
  RDI .i64 (Addr.add za1 1) fun n15 =>
    BR (decide (n14 < n15))
      (RDI .i64 (Addr.add za1 0) fun n16 =>
        RDI .i64 (Addr.add za1 1) fun n17 =>
          RDL (Addr.add za1 2) fun x18 l19 c20 =>
            RDL (Addr.add za1 3) fun x21 l22 c23 =>
              CALL Pg W F_ref10_Points [(.agg #[(.int .i64 n16), (.int .i64 n17), (.slice x18 l19 c20), (.slice x21 l22 c23)]), (.int .i64 zn0), (.int .i64 n14)]
                (fun v24 => AGG v24 fun q26 => HD q26 fun v27 r28 => TYI .i64 v27 fun n29 =>
                  HD r28 fun v30 r31 => TYI .i64 v30 fun n32 =>
                    NL r31 <|
                      NEW 3 [(.int .i64 n32)] fun B33 =>
                        APP Pg 3 1 x11 l12 c13 (some ⟨B33, 0, none⟩) 1 fun x34 l35 c36 =>
                          NX [(.int .i64 zn0), (.pointer (some za1)), (.slice none 0 0), (.tuple #[])] [(.int .i64 zn0), (.pointer (some za1)), (.slice none 0 0), (.tuple #[])] (nx0 [(.slice x34 l35 c36), (.int .i64 (IntKind.wrap .i64 (n14 + 1)))]))
                  (fun e25 => R (.panicked e25)))
      (RDI .i64 (Addr.add za1 0) fun n37 =>
        RDI .i64 (Addr.add za1 1) fun n38 =>
          RDL (Addr.add za1 2) fun x39 l40 c41 =>
            RDL (Addr.add za1 3) fun x42 l43 c44 =>
              CALL Pg W F_ref10_row [(.agg #[(.int .i64 n37), (.int .i64 n38), (.slice x39 l40 c41), (.slice x42 l43 c44)]), (.int .i64 zn0), (.slice x11 l12 c13)]
                (fun v45 => TYL v45 fun x47 l48 c49 =>
                  R (.returned (.slice x47 l48 c49)))
                  (fun e46 => R (.panicked e46)))
theorem B_ref10_most_0_eq (W : World) (R : Ending → Hp → Prop) (zn0 : Int) (za1 : Addr) (x11 : Option Addr) (l12 : Nat) (c13 : Nat) (n14 : Int) (nx0 : List Value → Hp → Prop) (j : Tm) : vc Pg W 25 rs_54 an_54 false (sub (bodyOf Try.f54) [1, 1, 0, 1, 0, 0]) 0 (KLoop [5, 6] [1, 2, 4, 25] [(.int .i64 zn0), (.pointer (some za1)), (.slice none 0 0), (.tuple #[])] nx0 (KBlk 0 (KS Pg W 25 rs_54 an_54 false (sub (bodyOf Try.f54) [1, 1, 1]) 0 (fin Pg W 25 rv_54 R)))) (known [5, 6] [(.slice x11 l12 c13), (.int .i64 n14)] (known [1, 2, 4, 25] [(.int .i64 zn0), (.pointer (some za1)), (.slice none 0 0), (.tuple #[])] j)) = B_ref10_most_0 W R zn0 za1 x11 l12 c13 n14 nx0 := by kernel_rfl
def N_ref10_most_0 (I : Option Addr → Nat → Nat → Int → Hp → Prop) (μ : Option Addr → Nat → Nat → Int → Hp → Nat) (x110 : Option Addr) (l120 : Nat) (c130 : Nat) (n140 : Int) (s : Hp) (vs : List Value) : Hp → Prop := fun s' => ∃ x11 l12 c13 n14, vs = [(.slice x11 l12 c13), (.int .i64 n14)] ∧ I x11 l12 c13 n14 s' ∧ μ x11 l12 c13 n14 s' < μ x110 l120 c130 n140 s
theorem L_ref10_most_0_rule (W : World) (R : Ending → Hp → Prop) (zn0 : Int) (za1 : Addr) (I : Option Addr → Nat → Nat → Int → Hp → Prop) (μ : Option Addr → Nat → Nat → Int → Hp → Nat) (x110 : Option Addr) (l120 : Nat) (c130 : Nat) (n140 : Int) (s : Hp) (h0 : I x110 l120 c130 n140 s)
    (hr : ∀ (x11 : Option Addr) (l12 : Nat) (c13 : Nat) (n14 : Int) (s : Hp), I x11 l12 c13 n14 s → B_ref10_most_0 W R zn0 za1 x11 l12 c13 n14 (fun vs => N_ref10_most_0 I μ x11 l12 c13 n14 s vs) s) : L_ref10_most_0 W R zn0 za1 x110 l120 c130 n140 s := by
  refine ⟨fun vs s => ∃ x11 l12 c13 n14, vs = [(.slice x11 l12 c13), (.int .i64 n14)] ∧ I x11 l12 c13 n14 s, fun vs s => (match vs with | [.slice x11 l12 c13, .int _ n14] => μ x11 l12 c13 n14 s | _ => 0), ⟨⟨⟨_, _, _, rfl⟩, ⟨⟨_, rfl⟩, trivial⟩⟩, ⟨_, _, _, _, rfl, h0⟩⟩, ?_⟩
  intro x11 l12 c13 n14 s hI j
  obtain ⟨x11', l12', c13', n14', hy, hI⟩ := hI
  have hI' : I x11 l12 c13 n14 s := by cases hy; exact hI
  have hh := hr x11 l12 c13 n14 s hI'
  rw [← B_ref10_most_0_eq W R zn0 za1 x11 l12 c13 n14 _ j] at hh
  refine vc_mono ?_ _ _ hh
  exact KLoop_mono (fun vs s' h => by obtain ⟨x111, l121, c131, n141, rfl, h1, h2⟩ := h; exact ⟨⟨⟨_, _, _, rfl⟩, ⟨⟨_, rfl⟩, trivial⟩⟩, ⟨_, _, _, _, rfl, h1⟩, h2⟩)
def T_ref10_most (W : World) (n1 : Int) (n2 : Int) (x3 : Option Addr) (l4 : Nat) (c5 : Nat) (x6 : Option Addr) (l7 : Nat) (c8 : Nat) (n9 : Int) (R : Ending → Hp → Prop) : Hp → Prop :=
  NEW 25 [(.int .i64 n1), (.int .i64 n2), (.slice x3 l4 c5), (.slice x6 l7 c8)] fun B10 =>
    L_ref10_most_0 W R n9 ⟨B10, 0, none⟩ none 0 0 0
theorem T_ref10_most_eq (W : World) (n1 : Int) (n2 : Int) (x3 : Option Addr) (l4 : Nat) (c5 : Nat) (x6 : Option Addr) (l7 : Nat) (c8 : Nat) (n9 : Int) (R : Ending → Hp → Prop) : vfun Pg W an_54 Try.f54 [(.agg #[(.int .i64 n1), (.int .i64 n2), (.slice x3 l4 c5), (.slice x6 l7 c8)]), (.int .i64 n9)] R = T_ref10_most W n1 n2 x3 l4 c5 x6 l7 c8 n9 R := by kernel_rfl
theorem does_ref10_most (W : World) (n1 : Int) (n2 : Int) (x3 : Option Addr) (l4 : Nat) (c5 : Nat) (x6 : Option Addr) (l7 : Nat) (c8 : Nat) (n9 : Int) (R : Ending → Hp → Prop) (s : Hp) (h : T_ref10_most W n1 n2 x3 l4 c5 x6 l7 c8 n9 R s) : Does Pg W F_ref10_most #[(.agg #[(.int .i64 n1), (.int .i64 n2), (.slice x3 l4 c5), (.slice x6 l7 c8)]), (.int .i64 n9)] s R :=
  does_of_vfun Pg W an_54 Try.func54 rfl (by kernel_rfl) (by rw [T_ref10_most_eq]; exact h)
def an_57 : Nat → Ann := fun b => match b with
  | _ => {}
abbrev rv_57 : List ResultVar := [.tmp 6]
abbrev rs_57 : List Nat := [19, 6]
def T_ref10_surely (W : World) (n1 : Int) (n2 : Int) (x3 : Option Addr) (l4 : Nat) (c5 : Nat) (x6 : Option Addr) (l7 : Nat) (c8 : Nat) (n9 : Int) (n10 : Int) (R : Ending → Hp → Prop) : Hp → Prop :=
  NEW 25 [(.int .i64 n1), (.int .i64 n2), (.slice x3 l4 c5), (.slice x6 l7 c8)] fun B11 =>
    BR (n9 != n10)
      (RDI .i64 (Addr.add ⟨B11, 0, none⟩ 0) fun n12 =>
        RDI .i64 (Addr.add ⟨B11, 0, none⟩ 1) fun n13 =>
          RDL (Addr.add ⟨B11, 0, none⟩ 2) fun x14 l15 c16 =>
            RDL (Addr.add ⟨B11, 0, none⟩ 3) fun x17 l18 c19 =>
              RDI .i64 (Addr.add ⟨B11, 0, none⟩ 0) fun n20 =>
                RDI .i64 (Addr.add ⟨B11, 0, none⟩ 1) fun n21 =>
                  RDL (Addr.add ⟨B11, 0, none⟩ 2) fun x22 l23 c24 =>
                    RDL (Addr.add ⟨B11, 0, none⟩ 3) fun x25 l26 c27 =>
                      CALL Pg W F_ref10_least [(.agg #[(.int .i64 n12), (.int .i64 n13), (.slice x14 l15 c16), (.slice x17 l18 c19)]), (.int .i64 n9)]
                        (fun v28 => TYL v28 fun x30 l31 c32 =>
                          ANDS (RDI .i64 (Addr.add ⟨B11, 0, none⟩ 0) fun n41 =>
                            RDI .i64 (Addr.add ⟨B11, 0, none⟩ 1) fun n42 =>
                              RDL (Addr.add ⟨B11, 0, none⟩ 2) fun x43 l44 c45 =>
                                RDL (Addr.add ⟨B11, 0, none⟩ 3) fun x46 l47 c48 =>
                                  fun _ => ((.agg #[(.int .i64 n41), (.int .i64 n42), (.slice x43 l44 c45), (.slice x46 l47 c48)]) : Value) = (.agg #[(.int .i64 n20), (.int .i64 n21), (.slice x22 l23 c24), (.slice x25 l26 c27)])) <|
                            CALL Pg W F_ref10_most [(.agg #[(.int .i64 n20), (.int .i64 n21), (.slice x22 l23 c24), (.slice x25 l26 c27)]), (.int .i64 n10)]
                              (fun v49 => TYL v49 fun x51 l52 c53 =>
                                CALL Pg W F_ref10_ahead [(.slice x30 l31 c32), (.slice x51 l52 c53)]
                                  (fun v54 => TYB v54 fun b56 =>
                                    R (.returned (.bool b56)))
                                    (fun e55 => R (.panicked e55)))
                                (fun e50 => R (.panicked e50)))
                          (fun e29 => R (.panicked e29)))
      (R (.returned (.bool false)))
theorem T_ref10_surely_eq (W : World) (n1 : Int) (n2 : Int) (x3 : Option Addr) (l4 : Nat) (c5 : Nat) (x6 : Option Addr) (l7 : Nat) (c8 : Nat) (n9 : Int) (n10 : Int) (R : Ending → Hp → Prop) : vfun Pg W an_57 Try.f57 [(.agg #[(.int .i64 n1), (.int .i64 n2), (.slice x3 l4 c5), (.slice x6 l7 c8)]), (.int .i64 n9), (.int .i64 n10)] R = T_ref10_surely W n1 n2 x3 l4 c5 x6 l7 c8 n9 n10 R := by kernel_rfl
theorem does_ref10_surely (W : World) (n1 : Int) (n2 : Int) (x3 : Option Addr) (l4 : Nat) (c5 : Nat) (x6 : Option Addr) (l7 : Nat) (c8 : Nat) (n9 : Int) (n10 : Int) (R : Ending → Hp → Prop) (s : Hp) (h : T_ref10_surely W n1 n2 x3 l4 c5 x6 l7 c8 n9 n10 R s) : Does Pg W F_ref10_surely #[(.agg #[(.int .i64 n1), (.int .i64 n2), (.slice x3 l4 c5), (.slice x6 l7 c8)]), (.int .i64 n9), (.int .i64 n10)] s R :=
  does_of_vfun Pg W an_57 Try.func57 rfl (by kernel_rfl) (by rw [T_ref10_surely_eq]; exact h)
def an_58 : Nat → Ann := fun b => match b with
  | _ => {}
abbrev rv_58 : List ResultVar := [.tmp 6]
abbrev rs_58 : List Nat := [19, 6]
def T_ref10_can (W : World) (n1 : Int) (n2 : Int) (x3 : Option Addr) (l4 : Nat) (c5 : Nat) (x6 : Option Addr) (l7 : Nat) (c8 : Nat) (n9 : Int) (n10 : Int) (R : Ending → Hp → Prop) : Hp → Prop :=
  NEW 25 [(.int .i64 n1), (.int .i64 n2), (.slice x3 l4 c5), (.slice x6 l7 c8)] fun B11 =>
    BR (n9 != n10)
      (RDI .i64 (Addr.add ⟨B11, 0, none⟩ 0) fun n12 =>
        RDI .i64 (Addr.add ⟨B11, 0, none⟩ 1) fun n13 =>
          RDL (Addr.add ⟨B11, 0, none⟩ 2) fun x14 l15 c16 =>
            RDL (Addr.add ⟨B11, 0, none⟩ 3) fun x17 l18 c19 =>
              RDI .i64 (Addr.add ⟨B11, 0, none⟩ 0) fun n20 =>
                RDI .i64 (Addr.add ⟨B11, 0, none⟩ 1) fun n21 =>
                  RDL (Addr.add ⟨B11, 0, none⟩ 2) fun x22 l23 c24 =>
                    RDL (Addr.add ⟨B11, 0, none⟩ 3) fun x25 l26 c27 =>
                      CALL Pg W F_ref10_most [(.agg #[(.int .i64 n12), (.int .i64 n13), (.slice x14 l15 c16), (.slice x17 l18 c19)]), (.int .i64 n9)]
                        (fun v28 => TYL v28 fun x30 l31 c32 =>
                          ANDS (RDI .i64 (Addr.add ⟨B11, 0, none⟩ 0) fun n41 =>
                            RDI .i64 (Addr.add ⟨B11, 0, none⟩ 1) fun n42 =>
                              RDL (Addr.add ⟨B11, 0, none⟩ 2) fun x43 l44 c45 =>
                                RDL (Addr.add ⟨B11, 0, none⟩ 3) fun x46 l47 c48 =>
                                  fun _ => ((.agg #[(.int .i64 n41), (.int .i64 n42), (.slice x43 l44 c45), (.slice x46 l47 c48)]) : Value) = (.agg #[(.int .i64 n20), (.int .i64 n21), (.slice x22 l23 c24), (.slice x25 l26 c27)])) <|
                            CALL Pg W F_ref10_least [(.agg #[(.int .i64 n20), (.int .i64 n21), (.slice x22 l23 c24), (.slice x25 l26 c27)]), (.int .i64 n10)]
                              (fun v49 => TYL v49 fun x51 l52 c53 =>
                                CALL Pg W F_ref10_ahead [(.slice x30 l31 c32), (.slice x51 l52 c53)]
                                  (fun v54 => TYB v54 fun b56 =>
                                    R (.returned (.bool b56)))
                                    (fun e55 => R (.panicked e55)))
                                (fun e50 => R (.panicked e50)))
                          (fun e29 => R (.panicked e29)))
      (R (.returned (.bool false)))
theorem T_ref10_can_eq (W : World) (n1 : Int) (n2 : Int) (x3 : Option Addr) (l4 : Nat) (c5 : Nat) (x6 : Option Addr) (l7 : Nat) (c8 : Nat) (n9 : Int) (n10 : Int) (R : Ending → Hp → Prop) : vfun Pg W an_58 Try.f58 [(.agg #[(.int .i64 n1), (.int .i64 n2), (.slice x3 l4 c5), (.slice x6 l7 c8)]), (.int .i64 n9), (.int .i64 n10)] R = T_ref10_can W n1 n2 x3 l4 c5 x6 l7 c8 n9 n10 R := by kernel_rfl
theorem does_ref10_can (W : World) (n1 : Int) (n2 : Int) (x3 : Option Addr) (l4 : Nat) (c5 : Nat) (x6 : Option Addr) (l7 : Nat) (c8 : Nat) (n9 : Int) (n10 : Int) (R : Ending → Hp → Prop) (s : Hp) (h : T_ref10_can W n1 n2 x3 l4 c5 x6 l7 c8 n9 n10 R s) : Does Pg W F_ref10_can #[(.agg #[(.int .i64 n1), (.int .i64 n2), (.slice x3 l4 c5), (.slice x6 l7 c8)]), (.int .i64 n9), (.int .i64 n10)] s R :=
  does_of_vfun Pg W an_58 Try.func58 rfl (by kernel_rfl) (by rw [T_ref10_can_eq]; exact h)
def an_60 : Nat → Ann := fun b => match b with
  | 0 => { ms := [6], ks := [.i .i64], us := [1, 2, 4, 5, 40], rt := false, ex := [] }
  | _ => {}
abbrev rv_60 : List ResultVar := [.cell 4 29]
abbrev rs_60 : List Nat := [40, 4]
def L_ref10_place_0 (W : World) (R : Ending → Hp → Prop) (zn0 : Int) (za1 : Addr) (za2 : Addr) (za3 : Addr) (n13 : Int) : Hp → Prop :=
  LOOPN [.i .i64] (fun ys next s => ∀ j : Tm, vc Pg W 40 rs_60 an_60 false (sub (bodyOf Try.f60) [1, 1, 0, 1, 0, 0]) 0 (KLoop [6] [1, 2, 4, 5, 40] [(.int .i64 zn0), (.pointer (some za1)), (.pointer (some za2)), (.pointer (some za3)), (.tuple #[])] next (KBlk 0 (KS Pg W 40 rs_60 an_60 false (sub (bodyOf Try.f60) [1, 1, 1]) 0 (fin Pg W 40 rv_60 R)))) (known [6] ys (known [1, 2, 4, 5, 40] [(.int .i64 zn0), (.pointer (some za1)), (.pointer (some za2)), (.pointer (some za3)), (.tuple #[])] j)) s) [(.int .i64 n13)]
def J_ref10_place_0 (W : World) (R : Ending → Hp → Prop) (zn0 : Int) (za1 : Addr) (za2 : Addr) (za3 : Addr) (nx0 : List Value → Hp → Prop) (n13 : Int) : Hp → Prop :=
  NX [(.int .i64 zn0), (.pointer (some za1)), (.pointer (some za2)), (.pointer (some za3)), (.tuple #[])] [(.int .i64 zn0), (.pointer (some za1)), (.pointer (some za2)), (.pointer (some za3)), (.tuple #[])] (nx0 [(.int .i64 (IntKind.wrap .i64 (n13 + 1)))])
def J_ref10_place_1 (W : World) (R : Ending → Hp → Prop) (za1 : Addr) (n13 : Int) (zn0 : Int) (za3 : Addr) (za2 : Addr) (nx0 : List Value → Hp → Prop) : Hp → Prop :=
  RDI .i64 (Addr.add za1 0) fun n53 =>
    RDI .i64 (Addr.add za1 1) fun n54 =>
      RDL (Addr.add za1 2) fun x55 l56 c57 =>
        RDL (Addr.add za1 3) fun x58 l59 c60 =>
          RDI .i64 (Addr.add za1 0) fun n61 =>
            RDI .i64 (Addr.add za1 1) fun n62 =>
              RDL (Addr.add za1 2) fun x63 l64 c65 =>
                RDL (Addr.add za1 3) fun x66 l67 c68 =>
                  CALL Pg W F_ref10_most [(.agg #[(.int .i64 n53), (.int .i64 n54), (.slice x55 l56 c57), (.slice x58 l59 c60)]), (.int .i64 n13)]
                    (fun v69 => TYL v69 fun x71 l72 c73 =>
                      ANDS (RDI .i64 (Addr.add za1 0) fun n74 =>
                        RDI .i64 (Addr.add za1 1) fun n75 =>
                          RDL (Addr.add za1 2) fun x76 l77 c78 =>
                            RDL (Addr.add za1 3) fun x79 l80 c81 =>
                              fun _ => ((.agg #[(.int .i64 n74), (.int .i64 n75), (.slice x76 l77 c78), (.slice x79 l80 c81)]) : Value) = (.agg #[(.int .i64 n61), (.int .i64 n62), (.slice x63 l64 c65), (.slice x66 l67 c68)])) <|
                        CALL Pg W F_ref10_least [(.agg #[(.int .i64 n61), (.int .i64 n62), (.slice x63 l64 c65), (.slice x66 l67 c68)]), (.int .i64 zn0)]
                          (fun v82 => TYL v82 fun x84 l85 c86 =>
                            CALL Pg W F_ref10_ahead [(.slice x71 l72 c73), (.slice x84 l85 c86)]
                              (fun v87 => TYB v87 fun b89 =>
                                BR b89
                                  (RDI .i64 (Addr.add za3 1) fun n90 =>
                                    WR (Addr.add (Addr.add za3 1) 0) (.int .i64 (IntKind.wrap .i64 (n90 + 1))) <|
                                      J_ref10_place_0 W R zn0 za1 za2 za3 nx0 n13)
                                  (J_ref10_place_0 W R zn0 za1 za2 za3 nx0 n13))
                                (fun e88 => R (.panicked e88)))
                            (fun e83 => R (.panicked e83)))
                      (fun e70 => R (.panicked e70))
def B_ref10_place_0 (W : World) (R : Ending → Hp → Prop) (zn0 : Int) (za1 : Addr) (za2 : Addr) (za3 : Addr) (n13 : Int) (nx0 : List Value → Hp → Prop) : Hp → Prop :=
  RDI .i64 (Addr.add za1 0) fun n14 =>
    BR (decide (n13 < n14))
      (BR (n13 == zn0)
        (J_ref10_place_0 W R zn0 za1 za2 za3 nx0 n13)
        (RDI .i64 (Addr.add za1 0) fun n15 =>
          RDI .i64 (Addr.add za1 1) fun n16 =>
            RDL (Addr.add za1 2) fun x17 l18 c19 =>
              RDL (Addr.add za1 3) fun x20 l21 c22 =>
                RDI .i64 (Addr.add za1 0) fun n23 =>
                  RDI .i64 (Addr.add za1 1) fun n24 =>
                    RDL (Addr.add za1 2) fun x25 l26 c27 =>
                      RDL (Addr.add za1 3) fun x28 l29 c30 =>
                        CALL Pg W F_ref10_least [(.agg #[(.int .i64 n15), (.int .i64 n16), (.slice x17 l18 c19), (.slice x20 l21 c22)]), (.int .i64 n13)]
                          (fun v31 => TYL v31 fun x33 l34 c35 =>
                            ANDS (RDI .i64 (Addr.add za1 0) fun n36 =>
                              RDI .i64 (Addr.add za1 1) fun n37 =>
                                RDL (Addr.add za1 2) fun x38 l39 c40 =>
                                  RDL (Addr.add za1 3) fun x41 l42 c43 =>
                                    fun _ => ((.agg #[(.int .i64 n36), (.int .i64 n37), (.slice x38 l39 c40), (.slice x41 l42 c43)]) : Value) = (.agg #[(.int .i64 n23), (.int .i64 n24), (.slice x25 l26 c27), (.slice x28 l29 c30)])) <|
                              CALL Pg W F_ref10_most [(.agg #[(.int .i64 n23), (.int .i64 n24), (.slice x25 l26 c27), (.slice x28 l29 c30)]), (.int .i64 zn0)]
                                (fun v44 => TYL v44 fun x46 l47 c48 =>
                                  CALL Pg W F_ref10_ahead [(.slice x33 l34 c35), (.slice x46 l47 c48)]
                                    (fun v49 => TYB v49 fun b51 =>
                                      BR b51
                                        (RDI .i64 (Addr.add za3 0) fun n52 =>
                                          WR (Addr.add (Addr.add za3 0) 0) (.int .i64 (IntKind.wrap .i64 (n52 + 1))) <|
                                            J_ref10_place_1 W R za1 n13 zn0 za3 za2 nx0)
                                        (J_ref10_place_1 W R za1 n13 zn0 za3 za2 nx0))
                                      (fun e50 => R (.panicked e50)))
                                  (fun e45 => R (.panicked e45)))
                            (fun e32 => R (.panicked e32))))
      (RDI .i64 (Addr.add za3 0) fun n91 =>
        RDI .i64 (Addr.add za3 1) fun n92 =>
          WR (Addr.add za2 0) (.int .i64 n91) <|
            WR (Addr.add za2 1) (.int .i64 n92) <|
              RDI .i64 (Addr.add za2 0) fun n93 =>
                RDI .i64 (Addr.add za2 1) fun n94 =>
                  R (.returned (.agg #[(.int .i64 n93), (.int .i64 n94)])))
theorem B_ref10_place_0_eq (W : World) (R : Ending → Hp → Prop) (zn0 : Int) (za1 : Addr) (za2 : Addr) (za3 : Addr) (n13 : Int) (nx0 : List Value → Hp → Prop) (j : Tm) : vc Pg W 40 rs_60 an_60 false (sub (bodyOf Try.f60) [1, 1, 0, 1, 0, 0]) 0 (KLoop [6] [1, 2, 4, 5, 40] [(.int .i64 zn0), (.pointer (some za1)), (.pointer (some za2)), (.pointer (some za3)), (.tuple #[])] nx0 (KBlk 0 (KS Pg W 40 rs_60 an_60 false (sub (bodyOf Try.f60) [1, 1, 1]) 0 (fin Pg W 40 rv_60 R)))) (known [6] [(.int .i64 n13)] (known [1, 2, 4, 5, 40] [(.int .i64 zn0), (.pointer (some za1)), (.pointer (some za2)), (.pointer (some za3)), (.tuple #[])] j)) = B_ref10_place_0 W R zn0 za1 za2 za3 n13 nx0 := by kernel_rfl
def N_ref10_place_0 (I : Int → Hp → Prop) (μ : Int → Hp → Nat) (n130 : Int) (s : Hp) (vs : List Value) : Hp → Prop := fun s' => ∃ n13, vs = [(.int .i64 n13)] ∧ I n13 s' ∧ μ n13 s' < μ n130 s
theorem L_ref10_place_0_rule (W : World) (R : Ending → Hp → Prop) (zn0 : Int) (za1 : Addr) (za2 : Addr) (za3 : Addr) (I : Int → Hp → Prop) (μ : Int → Hp → Nat) (n130 : Int) (s : Hp) (h0 : I n130 s)
    (hr : ∀ (n13 : Int) (s : Hp), I n13 s → B_ref10_place_0 W R zn0 za1 za2 za3 n13 (fun vs => N_ref10_place_0 I μ n13 s vs) s) : L_ref10_place_0 W R zn0 za1 za2 za3 n130 s := by
  refine ⟨fun vs s => ∃ n13, vs = [(.int .i64 n13)] ∧ I n13 s, fun vs s => (match vs with | [.int _ n13] => μ n13 s | _ => 0), ⟨⟨⟨_, rfl⟩, trivial⟩, ⟨_, rfl, h0⟩⟩, ?_⟩
  intro n13 s hI j
  obtain ⟨n13', hy, hI⟩ := hI
  have hI' : I n13 s := by cases hy; exact hI
  have hh := hr n13 s hI'
  rw [← B_ref10_place_0_eq W R zn0 za1 za2 za3 n13 _ j] at hh
  refine vc_mono ?_ _ _ hh
  exact KLoop_mono (fun vs s' h => by obtain ⟨n131, rfl, h1, h2⟩ := h; exact ⟨⟨⟨_, rfl⟩, trivial⟩, ⟨_, rfl, h1⟩, h2⟩)
def T_ref10_place (W : World) (n1 : Int) (n2 : Int) (x3 : Option Addr) (l4 : Nat) (c5 : Nat) (x6 : Option Addr) (l7 : Nat) (c8 : Nat) (n9 : Int) (R : Ending → Hp → Prop) : Hp → Prop :=
  NEW 25 [(.int .i64 n1), (.int .i64 n2), (.slice x3 l4 c5), (.slice x6 l7 c8)] fun B10 =>
    NEWZ Pg 29 fun B11 =>
      NEWZ Pg 29 fun B12 =>
        WR (Addr.add ⟨B12, 0, none⟩ 0) (.int .i64 1) <|
          WR (Addr.add ⟨B12, 0, none⟩ 1) (.int .i64 1) <|
            L_ref10_place_0 W R n9 ⟨B10, 0, none⟩ ⟨B11, 0, none⟩ ⟨B12, 0, none⟩ 0
theorem T_ref10_place_eq (W : World) (n1 : Int) (n2 : Int) (x3 : Option Addr) (l4 : Nat) (c5 : Nat) (x6 : Option Addr) (l7 : Nat) (c8 : Nat) (n9 : Int) (R : Ending → Hp → Prop) : vfun Pg W an_60 Try.f60 [(.agg #[(.int .i64 n1), (.int .i64 n2), (.slice x3 l4 c5), (.slice x6 l7 c8)]), (.int .i64 n9)] R = T_ref10_place W n1 n2 x3 l4 c5 x6 l7 c8 n9 R := by kernel_rfl
theorem does_ref10_place (W : World) (n1 : Int) (n2 : Int) (x3 : Option Addr) (l4 : Nat) (c5 : Nat) (x6 : Option Addr) (l7 : Nat) (c8 : Nat) (n9 : Int) (R : Ending → Hp → Prop) (s : Hp) (h : T_ref10_place W n1 n2 x3 l4 c5 x6 l7 c8 n9 R s) : Does Pg W F_ref10_place #[(.agg #[(.int .i64 n1), (.int .i64 n2), (.slice x3 l4 c5), (.slice x6 l7 c8)]), (.int .i64 n9)] s R :=
  does_of_vfun Pg W an_60 Try.func60 rfl (by kernel_rfl) (by rw [T_ref10_place_eq]; exact h)
def an_61 : Nat → Ann := fun b => match b with
  | 0 => { ms := [3, 4], ks := [.i .i64, .i .i64], us := [0, 13], rt := false, ex := [] }
  | _ => {}
abbrev rv_61 : List ResultVar := [.tmp 2]
abbrev rs_61 : List Nat := [13, 2]
def L_ref10_power_0 (W : World) (R : Ending → Hp → Prop) (zn0 : Int) (n2 : Int) (n3 : Int) : Hp → Prop :=
  LOOPN [.i .i64, .i .i64] (fun ys next s => ∀ j : Tm, vc Pg W 13 rs_61 an_61 false (sub (bodyOf Try.f61) [1, 1, 0, 1, 0, 0]) 0 (KLoop [3, 4] [0, 13] [(.int .i64 zn0), (.tuple #[])] next (KBlk 0 (KS Pg W 13 rs_61 an_61 false (sub (bodyOf Try.f61) [1, 1, 1]) 0 (fin Pg W 13 rv_61 R)))) (known [3, 4] ys (known [0, 13] [(.int .i64 zn0), (.tuple #[])] j)) s) [(.int .i64 n2), (.int .i64 n3)]
def B_ref10_power_0 (W : World) (R : Ending → Hp → Prop) (zn0 : Int) (n2 : Int) (n3 : Int) (nx0 : List Value → Hp → Prop) : Hp → Prop :=
  BR (decide (n3 < zn0))
    (NX [(.int .i64 zn0), (.tuple #[])] [(.int .i64 zn0), (.tuple #[])] (nx0 [(.int .i64 (IntKind.wrap .i64 (2 * n2))), (.int .i64 (IntKind.wrap .i64 (n3 + 1)))]))
    (R (.returned (.int .i64 n2)))
theorem B_ref10_power_0_eq (W : World) (R : Ending → Hp → Prop) (zn0 : Int) (n2 : Int) (n3 : Int) (nx0 : List Value → Hp → Prop) (j : Tm) : vc Pg W 13 rs_61 an_61 false (sub (bodyOf Try.f61) [1, 1, 0, 1, 0, 0]) 0 (KLoop [3, 4] [0, 13] [(.int .i64 zn0), (.tuple #[])] nx0 (KBlk 0 (KS Pg W 13 rs_61 an_61 false (sub (bodyOf Try.f61) [1, 1, 1]) 0 (fin Pg W 13 rv_61 R)))) (known [3, 4] [(.int .i64 n2), (.int .i64 n3)] (known [0, 13] [(.int .i64 zn0), (.tuple #[])] j)) = B_ref10_power_0 W R zn0 n2 n3 nx0 := by kernel_rfl
def N_ref10_power_0 (I : Int → Int → Hp → Prop) (μ : Int → Int → Hp → Nat) (n20 : Int) (n30 : Int) (s : Hp) (vs : List Value) : Hp → Prop := fun s' => ∃ n2 n3, vs = [(.int .i64 n2), (.int .i64 n3)] ∧ I n2 n3 s' ∧ μ n2 n3 s' < μ n20 n30 s
theorem L_ref10_power_0_rule (W : World) (R : Ending → Hp → Prop) (zn0 : Int) (I : Int → Int → Hp → Prop) (μ : Int → Int → Hp → Nat) (n20 : Int) (n30 : Int) (s : Hp) (h0 : I n20 n30 s)
    (hr : ∀ (n2 : Int) (n3 : Int) (s : Hp), I n2 n3 s → B_ref10_power_0 W R zn0 n2 n3 (fun vs => N_ref10_power_0 I μ n2 n3 s vs) s) : L_ref10_power_0 W R zn0 n20 n30 s := by
  refine ⟨fun vs s => ∃ n2 n3, vs = [(.int .i64 n2), (.int .i64 n3)] ∧ I n2 n3 s, fun vs s => (match vs with | [.int _ n2, .int _ n3] => μ n2 n3 s | _ => 0), ⟨⟨⟨_, rfl⟩, ⟨⟨_, rfl⟩, trivial⟩⟩, ⟨_, _, rfl, h0⟩⟩, ?_⟩
  intro n2 n3 s hI j
  obtain ⟨n2', n3', hy, hI⟩ := hI
  have hI' : I n2 n3 s := by cases hy; exact hI
  have hh := hr n2 n3 s hI'
  rw [← B_ref10_power_0_eq W R zn0 n2 n3 _ j] at hh
  refine vc_mono ?_ _ _ hh
  exact KLoop_mono (fun vs s' h => by obtain ⟨n21, n31, rfl, h1, h2⟩ := h; exact ⟨⟨⟨_, rfl⟩, ⟨⟨_, rfl⟩, trivial⟩⟩, ⟨_, _, rfl, h1⟩, h2⟩)
def T_ref10_power (W : World) (n1 : Int) (R : Ending → Hp → Prop) : Hp → Prop :=
  L_ref10_power_0 W R n1 1 0
theorem T_ref10_power_eq (W : World) (n1 : Int) (R : Ending → Hp → Prop) : vfun Pg W an_61 Try.f61 [(.int .i64 n1)] R = T_ref10_power W n1 R := by kernel_rfl
theorem does_ref10_power (W : World) (n1 : Int) (R : Ending → Hp → Prop) (s : Hp) (h : T_ref10_power W n1 R s) : Does Pg W F_ref10_power #[(.int .i64 n1)] s R :=
  does_of_vfun Pg W an_61 Try.func61 rfl (by kernel_rfl) (by rw [T_ref10_power_eq]; exact h)
def an_63 : Nat → Ann := fun b => match b with
  | _ => {}
abbrev rv_63 : List ResultVar := [.tmp 6]
abbrev rs_63 : List Nat := [15, 6]
def T_ref10_in (W : World) (n1 : Int) (n2 : Int) (n3 : Int) (R : Ending → Hp → Prop) : Hp → Prop :=
  BR (decide (n2 ≤ n1))
    (R (.returned (.bool (decide (n1 ≤ n3)))))
    (R (.returned (.bool false)))
theorem T_ref10_in_eq (W : World) (n1 : Int) (n2 : Int) (n3 : Int) (R : Ending → Hp → Prop) : vfun Pg W an_63 Try.f63 [(.int .i64 n1), (.int .i64 n2), (.int .i64 n3)] R = T_ref10_in W n1 n2 n3 R := by kernel_rfl
theorem does_ref10_in (W : World) (n1 : Int) (n2 : Int) (n3 : Int) (R : Ending → Hp → Prop) (s : Hp) (h : T_ref10_in W n1 n2 n3 R s) : Does Pg W F_ref10_in #[(.int .i64 n1), (.int .i64 n2), (.int .i64 n3)] s R :=
  does_of_vfun Pg W an_63 Try.func63 rfl (by kernel_rfl) (by rw [T_ref10_in_eq]; exact h)
def an_65 : Nat → Ann := fun b => match b with
  | 0 => { ms := [10], ks := [.i .i64], us := [1, 2, 3, 4, 8, 9, 46], rt := false, ex := [] }
  | _ => {}
abbrev rv_65 : List ResultVar := [.cell 8 25]
abbrev rs_65 : List Nat := [46, 8]
def L_ref10_read_0 (W : World) (R : Ending → Hp → Prop) (zn0 : Int) (zn1 : Int) (zn2 : Int) (za3 : Addr) (za4 : Addr) (za5 : Addr) (n23 : Int) : Hp → Prop :=
  LOOPN [.i .i64] (fun ys next s => ∀ j : Tm, vc Pg W 46 rs_65 an_65 false (sub (bodyOf Try.f65) [1, 1, 0, 1, 0, 0]) 0 (KLoop [10] [1, 2, 3, 4, 8, 9, 46] [(.int .i64 zn0), (.int .i64 zn1), (.int .i64 zn2), (.pointer (some za3)), (.pointer (some za4)), (.pointer (some za5)), (.tuple #[])] next (KBlk 0 (KS Pg W 46 rs_65 an_65 false (sub (bodyOf Try.f65) [1, 1, 1]) 0 (fin Pg W 46 rv_65 R)))) (known [10] ys (known [1, 2, 3, 4, 8, 9, 46] [(.int .i64 zn0), (.int .i64 zn1), (.int .i64 zn2), (.pointer (some za3)), (.pointer (some za4)), (.pointer (some za5)), (.tuple #[])] j)) s) [(.int .i64 n23)]
def J_ref10_read_0 (W : World) (R : Ending → Hp → Prop) (zn0 : Int) (zn1 : Int) (zn2 : Int) (za3 : Addr) (za4 : Addr) (za5 : Addr) (nx0 : List Value → Hp → Prop) (n23 : Int) : Hp → Prop :=
  NX [(.int .i64 zn0), (.int .i64 zn1), (.int .i64 zn2), (.pointer (some za3)), (.pointer (some za4)), (.pointer (some za5)), (.tuple #[])] [(.int .i64 zn0), (.int .i64 zn1), (.int .i64 zn2), (.pointer (some za3)), (.pointer (some za4)), (.pointer (some za5)), (.tuple #[])] (nx0 [(.int .i64 (IntKind.wrap .i64 (n23 + 1)))])
def J_ref10_read_1 (W : World) (R : Ending → Hp → Prop) (za3 : Addr) (zn2 : Int) (n23 : Int) (za5 : Addr) (zn1 : Int) (zn0 : Int) (za4 : Addr) (nx0 : List Value → Hp → Prop) : Hp → Prop :=
  RDI .i64 (Addr.add za3 1) fun n88 =>
    CALL Pg W F_ref10_Has [(.int .i64 zn2), (.int .i64 (IntKind.wrap .i64 (n88 + n23)))]
      (fun v89 => TYB v89 fun b91 =>
        BR b91
          (RDI .i64 (Addr.add za5 0) fun n92 =>
            RDI .i64 (Addr.add za5 1) fun n93 =>
              RDL (Addr.add za5 2) fun x94 l95 c96 =>
                RDL (Addr.add za5 3) fun x97 l98 c99 =>
                  RDI .i64 (Addr.add za3 0) fun n100 =>
                    RDI .i64 (Addr.add za3 1) fun n101 =>
                      RDL (Addr.add za3 2) fun x102 l103 c104 =>
                        RDL (Addr.add za3 3) fun x105 l106 c107 =>
                          CALL Pg W F_ref10_Points [(.agg #[(.int .i64 n100), (.int .i64 n101), (.slice x102 l103 c104), (.slice x105 l106 c107)]), (.int .i64 zn1), (.int .i64 n23)]
                            (fun v108 => AGG v108 fun q110 => HD q110 fun v111 r112 => TYI .i64 v111 fun n113 =>
                              HD r112 fun v114 r115 => TYI .i64 v114 fun n116 =>
                                NL r115 <|
                                  ANDS (RDI .i64 (Addr.add za5 0) fun n117 =>
                                    RDI .i64 (Addr.add za5 1) fun n118 =>
                                      RDL (Addr.add za5 2) fun x119 l120 c121 =>
                                        RDL (Addr.add za5 3) fun x122 l123 c124 =>
                                          fun _ => ((.agg #[(.int .i64 n117), (.int .i64 n118), (.slice x119 l120 c121), (.slice x122 l123 c124)]) : Value) = (.agg #[(.int .i64 n92), (.int .i64 n93), (.slice x94 l95 c96), (.slice x97 l98 c99)])) <|
                                    ANDS (RDI .i64 (Addr.add za5 0) fun n125 =>
                                      RDI .i64 (Addr.add za5 1) fun n126 =>
                                        RDL (Addr.add za5 2) fun x127 l128 c129 =>
                                          RDL (Addr.add za5 3) fun x130 l131 c132 =>
                                            fun _ => ((.agg #[(.int .i64 n125), (.int .i64 n126), (.slice x127 l128 c129), (.slice x130 l131 c132)]) : Value) = (.agg #[(.int .i64 n92), (.int .i64 n93), (.slice x94 l95 c96), (.slice x97 l98 c99)])) <|
                                      CALL Pg W F_ref10_With [(.agg #[(.int .i64 n92), (.int .i64 n93), (.slice x94 l95 c96), (.slice x97 l98 c99)]), (.int .i64 zn1), (.int .i64 n23), (.int .i64 n113)]
                                        (fun v133 => AGG v133 fun q135 => HD q135 fun v136 r137 => TYI .i64 v136 fun n138 =>
                                          HD r137 fun v139 r140 => TYI .i64 v139 fun n141 =>
                                            HD r140 fun v142 r143 => TYL v142 fun x144 l145 c146 =>
                                              HD r143 fun v147 r148 => TYL v147 fun x149 l150 c151 =>
                                                NL r148 <|
                                                  WR (Addr.add za5 0) (.int .i64 n138) <|
                                                    WR (Addr.add za5 1) (.int .i64 n141) <|
                                                      WR (Addr.add za5 2) (.slice x144 l145 c146) <|
                                                        WR (Addr.add za5 3) (.slice x149 l150 c151) <|
                                                          J_ref10_read_0 W R zn0 zn1 zn2 za3 za4 za5 nx0 n23)
                                          (fun e134 => R (.panicked e134)))
                              (fun e109 => R (.panicked e109)))
          (J_ref10_read_0 W R zn0 zn1 zn2 za3 za4 za5 nx0 n23))
        (fun e90 => R (.panicked e90))
def B_ref10_read_0 (W : World) (R : Ending → Hp → Prop) (zn0 : Int) (zn1 : Int) (zn2 : Int) (za3 : Addr) (za4 : Addr) (za5 : Addr) (n23 : Int) (nx0 : List Value → Hp → Prop) : Hp → Prop :=
  RDI .i64 (Addr.add za3 1) fun n24 =>
    BR (decide (n23 < n24))
      (CALL Pg W F_ref10_Has [(.int .i64 zn2), (.int .i64 n23)]
        (fun v25 => TYB v25 fun b27 =>
          BR b27
            (RDI .i64 (Addr.add za5 0) fun n28 =>
              RDI .i64 (Addr.add za5 1) fun n29 =>
                RDL (Addr.add za5 2) fun x30 l31 c32 =>
                  RDL (Addr.add za5 3) fun x33 l34 c35 =>
                    RDI .i64 (Addr.add za3 0) fun n36 =>
                      RDI .i64 (Addr.add za3 1) fun n37 =>
                        RDL (Addr.add za3 2) fun x38 l39 c40 =>
                          RDL (Addr.add za3 3) fun x41 l42 c43 =>
                            CALL Pg W F_ref10_Points [(.agg #[(.int .i64 n36), (.int .i64 n37), (.slice x38 l39 c40), (.slice x41 l42 c43)]), (.int .i64 zn0), (.int .i64 n23)]
                              (fun v44 => AGG v44 fun q46 => HD q46 fun v47 r48 => TYI .i64 v47 fun n49 =>
                                HD r48 fun v50 r51 => TYI .i64 v50 fun n52 =>
                                  NL r51 <|
                                    ANDS (RDI .i64 (Addr.add za5 0) fun n53 =>
                                      RDI .i64 (Addr.add za5 1) fun n54 =>
                                        RDL (Addr.add za5 2) fun x55 l56 c57 =>
                                          RDL (Addr.add za5 3) fun x58 l59 c60 =>
                                            fun _ => ((.agg #[(.int .i64 n53), (.int .i64 n54), (.slice x55 l56 c57), (.slice x58 l59 c60)]) : Value) = (.agg #[(.int .i64 n28), (.int .i64 n29), (.slice x30 l31 c32), (.slice x33 l34 c35)])) <|
                                      ANDS (RDI .i64 (Addr.add za5 0) fun n61 =>
                                        RDI .i64 (Addr.add za5 1) fun n62 =>
                                          RDL (Addr.add za5 2) fun x63 l64 c65 =>
                                            RDL (Addr.add za5 3) fun x66 l67 c68 =>
                                              fun _ => ((.agg #[(.int .i64 n61), (.int .i64 n62), (.slice x63 l64 c65), (.slice x66 l67 c68)]) : Value) = (.agg #[(.int .i64 n28), (.int .i64 n29), (.slice x30 l31 c32), (.slice x33 l34 c35)])) <|
                                        CALL Pg W F_ref10_With [(.agg #[(.int .i64 n28), (.int .i64 n29), (.slice x30 l31 c32), (.slice x33 l34 c35)]), (.int .i64 zn0), (.int .i64 n23), (.int .i64 n52)]
                                          (fun v69 => AGG v69 fun q71 => HD q71 fun v72 r73 => TYI .i64 v72 fun n74 =>
                                            HD r73 fun v75 r76 => TYI .i64 v75 fun n77 =>
                                              HD r76 fun v78 r79 => TYL v78 fun x80 l81 c82 =>
                                                HD r79 fun v83 r84 => TYL v83 fun x85 l86 c87 =>
                                                  NL r84 <|
                                                    WR (Addr.add za5 0) (.int .i64 n74) <|
                                                      WR (Addr.add za5 1) (.int .i64 n77) <|
                                                        WR (Addr.add za5 2) (.slice x80 l81 c82) <|
                                                          WR (Addr.add za5 3) (.slice x85 l86 c87) <|
                                                            J_ref10_read_1 W R za3 zn2 n23 za5 zn1 zn0 za4 nx0)
                                            (fun e70 => R (.panicked e70)))
                                (fun e45 => R (.panicked e45)))
            (J_ref10_read_1 W R za3 zn2 n23 za5 zn1 zn0 za4 nx0))
          (fun e26 => R (.panicked e26)))
      (RDI .i64 (Addr.add za5 0) fun n152 =>
        RDI .i64 (Addr.add za5 1) fun n153 =>
          RDL (Addr.add za5 2) fun x154 l155 c156 =>
            RDL (Addr.add za5 3) fun x157 l158 c159 =>
              WR (Addr.add za4 0) (.int .i64 n152) <|
                WR (Addr.add za4 1) (.int .i64 n153) <|
                  WR (Addr.add za4 2) (.slice x154 l155 c156) <|
                    WR (Addr.add za4 3) (.slice x157 l158 c159) <|
                      RDI .i64 (Addr.add za4 0) fun n160 =>
                        RDI .i64 (Addr.add za4 1) fun n161 =>
                          RDL (Addr.add za4 2) fun x162 l163 c164 =>
                            RDL (Addr.add za4 3) fun x165 l166 c167 =>
                              R (.returned (.agg #[(.int .i64 n160), (.int .i64 n161), (.slice x162 l163 c164), (.slice x165 l166 c167)])))
theorem B_ref10_read_0_eq (W : World) (R : Ending → Hp → Prop) (zn0 : Int) (zn1 : Int) (zn2 : Int) (za3 : Addr) (za4 : Addr) (za5 : Addr) (n23 : Int) (nx0 : List Value → Hp → Prop) (j : Tm) : vc Pg W 46 rs_65 an_65 false (sub (bodyOf Try.f65) [1, 1, 0, 1, 0, 0]) 0 (KLoop [10] [1, 2, 3, 4, 8, 9, 46] [(.int .i64 zn0), (.int .i64 zn1), (.int .i64 zn2), (.pointer (some za3)), (.pointer (some za4)), (.pointer (some za5)), (.tuple #[])] nx0 (KBlk 0 (KS Pg W 46 rs_65 an_65 false (sub (bodyOf Try.f65) [1, 1, 1]) 0 (fin Pg W 46 rv_65 R)))) (known [10] [(.int .i64 n23)] (known [1, 2, 3, 4, 8, 9, 46] [(.int .i64 zn0), (.int .i64 zn1), (.int .i64 zn2), (.pointer (some za3)), (.pointer (some za4)), (.pointer (some za5)), (.tuple #[])] j)) = B_ref10_read_0 W R zn0 zn1 zn2 za3 za4 za5 n23 nx0 := by kernel_rfl
def N_ref10_read_0 (I : Int → Hp → Prop) (μ : Int → Hp → Nat) (n230 : Int) (s : Hp) (vs : List Value) : Hp → Prop := fun s' => ∃ n23, vs = [(.int .i64 n23)] ∧ I n23 s' ∧ μ n23 s' < μ n230 s
theorem L_ref10_read_0_rule (W : World) (R : Ending → Hp → Prop) (zn0 : Int) (zn1 : Int) (zn2 : Int) (za3 : Addr) (za4 : Addr) (za5 : Addr) (I : Int → Hp → Prop) (μ : Int → Hp → Nat) (n230 : Int) (s : Hp) (h0 : I n230 s)
    (hr : ∀ (n23 : Int) (s : Hp), I n23 s → B_ref10_read_0 W R zn0 zn1 zn2 za3 za4 za5 n23 (fun vs => N_ref10_read_0 I μ n23 s vs) s) : L_ref10_read_0 W R zn0 zn1 zn2 za3 za4 za5 n230 s := by
  refine ⟨fun vs s => ∃ n23, vs = [(.int .i64 n23)] ∧ I n23 s, fun vs s => (match vs with | [.int _ n23] => μ n23 s | _ => 0), ⟨⟨⟨_, rfl⟩, trivial⟩, ⟨_, rfl, h0⟩⟩, ?_⟩
  intro n23 s hI j
  obtain ⟨n23', hy, hI⟩ := hI
  have hI' : I n23 s := by cases hy; exact hI
  have hh := hr n23 s hI'
  rw [← B_ref10_read_0_eq W R zn0 zn1 zn2 za3 za4 za5 n23 _ j] at hh
  refine vc_mono ?_ _ _ hh
  exact KLoop_mono (fun vs s' h => by obtain ⟨n231, rfl, h1, h2⟩ := h; exact ⟨⟨⟨_, rfl⟩, trivial⟩, ⟨_, rfl, h1⟩, h2⟩)
def T_ref10_read (W : World) (n1 : Int) (n2 : Int) (x3 : Option Addr) (l4 : Nat) (c5 : Nat) (x6 : Option Addr) (l7 : Nat) (c8 : Nat) (n9 : Int) (n10 : Int) (n11 : Int) (R : Ending → Hp → Prop) : Hp → Prop :=
  NEW 25 [(.int .i64 n1), (.int .i64 n2), (.slice x3 l4 c5), (.slice x6 l7 c8)] fun B12 =>
    NEWZ Pg 25 fun B13 =>
      RDI .i64 (Addr.add ⟨B12, 0, none⟩ 0) fun n14 =>
        RDI .i64 (Addr.add ⟨B12, 0, none⟩ 1) fun n15 =>
          RDL (Addr.add ⟨B12, 0, none⟩ 2) fun x16 l17 c18 =>
            RDL (Addr.add ⟨B12, 0, none⟩ 3) fun x19 l20 c21 =>
              NEWZ Pg 25 fun B22 =>
                WR (Addr.add ⟨B22, 0, none⟩ 0) (.int .i64 n14) <|
                  WR (Addr.add ⟨B22, 0, none⟩ 1) (.int .i64 n15) <|
                    WR (Addr.add ⟨B22, 0, none⟩ 2) (.slice x16 l17 c18) <|
                      WR (Addr.add ⟨B22, 0, none⟩ 3) (.slice x19 l20 c21) <|
                        L_ref10_read_0 W R n9 n10 n11 ⟨B12, 0, none⟩ ⟨B13, 0, none⟩ ⟨B22, 0, none⟩ 0
theorem T_ref10_read_eq (W : World) (n1 : Int) (n2 : Int) (x3 : Option Addr) (l4 : Nat) (c5 : Nat) (x6 : Option Addr) (l7 : Nat) (c8 : Nat) (n9 : Int) (n10 : Int) (n11 : Int) (R : Ending → Hp → Prop) : vfun Pg W an_65 Try.f65 [(.agg #[(.int .i64 n1), (.int .i64 n2), (.slice x3 l4 c5), (.slice x6 l7 c8)]), (.int .i64 n9), (.int .i64 n10), (.int .i64 n11)] R = T_ref10_read W n1 n2 x3 l4 c5 x6 l7 c8 n9 n10 n11 R := by kernel_rfl
theorem does_ref10_read (W : World) (n1 : Int) (n2 : Int) (x3 : Option Addr) (l4 : Nat) (c5 : Nat) (x6 : Option Addr) (l7 : Nat) (c8 : Nat) (n9 : Int) (n10 : Int) (n11 : Int) (R : Ending → Hp → Prop) (s : Hp) (h : T_ref10_read W n1 n2 x3 l4 c5 x6 l7 c8 n9 n10 n11 R s) : Does Pg W F_ref10_read #[(.agg #[(.int .i64 n1), (.int .i64 n2), (.slice x3 l4 c5), (.slice x6 l7 c8)]), (.int .i64 n9), (.int .i64 n10), (.int .i64 n11)] s R :=
  does_of_vfun Pg W an_65 Try.func65 rfl (by kernel_rfl) (by rw [T_ref10_read_eq]; exact h)
def an_68 : Nat → Ann := fun b => match b with
  | _ => {}
abbrev rv_68 : List ResultVar := [.tmp 4]
abbrev rs_68 : List Nat := [10, 4]
def T_ref10_Sheet (W : World) (n1 : Int) (n2 : Int) (x3 : Option Addr) (l4 : Nat) (c5 : Nat) (x6 : Option Addr) (l7 : Nat) (c8 : Nat) (n9 : Int) (R : Ending → Hp → Prop) : Hp → Prop :=
  NEW 25 [(.int .i64 n1), (.int .i64 n2), (.slice x3 l4 c5), (.slice x6 l7 c8)] fun B10 =>
    RDI .i64 (Addr.add ⟨B10, 0, none⟩ 1) fun n11 =>
      CALL Pg W F_ref10_in [(.int .i64 n9), (.int .i64 0), (.int .i64 (IntKind.wrap .i64 (n11 - 1)))]
        (fun v12 => TYB v12 fun b14 =>
          R (.returned (.bool b14)))
          (fun e13 => R (.panicked e13))
theorem T_ref10_Sheet_eq (W : World) (n1 : Int) (n2 : Int) (x3 : Option Addr) (l4 : Nat) (c5 : Nat) (x6 : Option Addr) (l7 : Nat) (c8 : Nat) (n9 : Int) (R : Ending → Hp → Prop) : vfun Pg W an_68 Try.f68 [(.agg #[(.int .i64 n1), (.int .i64 n2), (.slice x3 l4 c5), (.slice x6 l7 c8)]), (.int .i64 n9)] R = T_ref10_Sheet W n1 n2 x3 l4 c5 x6 l7 c8 n9 R := by kernel_rfl
theorem does_ref10_Sheet (W : World) (n1 : Int) (n2 : Int) (x3 : Option Addr) (l4 : Nat) (c5 : Nat) (x6 : Option Addr) (l7 : Nat) (c8 : Nat) (n9 : Int) (R : Ending → Hp → Prop) (s : Hp) (h : T_ref10_Sheet W n1 n2 x3 l4 c5 x6 l7 c8 n9 R s) : Does Pg W F_ref10_Sheet #[(.agg #[(.int .i64 n1), (.int .i64 n2), (.slice x3 l4 c5), (.slice x6 l7 c8)]), (.int .i64 n9)] s R :=
  does_of_vfun Pg W an_68 Try.func68 rfl (by kernel_rfl) (by rw [T_ref10_Sheet_eq]; exact h)
def an_70 : Nat → Ann := fun b => match b with
  | _ => {}
abbrev rv_70 : List ResultVar := [.tmp 4]
abbrev rs_70 : List Nat := [11, 4]
def T_ref10_Has (W : World) (n1 : Int) (n2 : Int) (R : Ending → Hp → Prop) : Hp → Prop :=
  CALL Pg W F_ref10_power [(.int .i64 n2)]
    (fun v3 => TYI .i64 v3 fun n5 =>
      NZI n5 <|
        R (.returned (.bool ((Int.tmod (IntKind.wrap .i64 (Int.tdiv n1 n5)) 2) == 1))))
      (fun e4 => R (.panicked e4))
theorem T_ref10_Has_eq (W : World) (n1 : Int) (n2 : Int) (R : Ending → Hp → Prop) : vfun Pg W an_70 Try.f70 [(.int .i64 n1), (.int .i64 n2)] R = T_ref10_Has W n1 n2 R := by kernel_rfl
theorem does_ref10_Has (W : World) (n1 : Int) (n2 : Int) (R : Ending → Hp → Prop) (s : Hp) (h : T_ref10_Has W n1 n2 R s) : Does Pg W F_ref10_Has #[(.int .i64 n1), (.int .i64 n2)] s R :=
  does_of_vfun Pg W an_70 Try.func70 rfl (by kernel_rfl) (by rw [T_ref10_Has_eq]; exact h)
def an_77 : Nat → Ann := fun b => match b with
  | 0 => { ms := [7, 8], ks := [.i .i64, .i .i64], us := [2, 6, 31], rt := false, ex := [] }
  | _ => {}
abbrev rv_77 : List ResultVar := [.tmp 6]
abbrev rs_77 : List Nat := [31, 6]
def L_ref10_row_0 (W : World) (R : Ending → Hp → Prop) (zp0 : Option Addr) (zl1 : Nat) (zl2 : Nat) (n19 : Int) (n20 : Int) : Hp → Prop :=
  LOOPN [.i .i64, .i .i64] (fun ys next s => ∀ j : Tm, vc Pg W 31 rs_77 an_77 false (sub (bodyOf Try.f77) [1, 1, 0, 1, 0, 0]) 0 (KLoop [7, 8] [2, 6, 31] [(.slice zp0 zl1 zl2), (.slice none 0 0), (.tuple #[])] next (KBlk 0 (KS Pg W 31 rs_77 an_77 false (sub (bodyOf Try.f77) [1, 1, 1]) 0 (fin Pg W 31 rv_77 R)))) (known [7, 8] ys (known [2, 6, 31] [(.slice zp0 zl1 zl2), (.slice none 0 0), (.tuple #[])] j)) s) [(.int .i64 n19), (.int .i64 n20)]
def B_ref10_row_0 (W : World) (R : Ending → Hp → Prop) (zp0 : Option Addr) (zl1 : Nat) (zl2 : Nat) (n19 : Int) (n20 : Int) (nx0 : List Value → Hp → Prop) : Hp → Prop :=
  BR (decide (n20 < (↑zl1 : Int)))
    (IXS zp0 zl1 n20 1 fun a21 =>
      RDI .i64 a21 fun n22 =>
        NX [(.slice zp0 zl1 zl2), (.slice none 0 0), (.tuple #[])] [(.slice zp0 zl1 zl2), (.slice none 0 0), (.tuple #[])] (nx0 [(.int .i64 (IntKind.wrap .i64 (n19 + n22))), (.int .i64 (IntKind.wrap .i64 (n20 + 1)))]))
    (NEW 3 [(.int .i64 n19)] fun B23 =>
      APP Pg 3 1 (some ⟨B23, 0, none⟩) 1 1 zp0 zl1 fun x24 l25 c26 =>
        R (.returned (.slice x24 l25 c26)))
theorem B_ref10_row_0_eq (W : World) (R : Ending → Hp → Prop) (zp0 : Option Addr) (zl1 : Nat) (zl2 : Nat) (n19 : Int) (n20 : Int) (nx0 : List Value → Hp → Prop) (j : Tm) : vc Pg W 31 rs_77 an_77 false (sub (bodyOf Try.f77) [1, 1, 0, 1, 0, 0]) 0 (KLoop [7, 8] [2, 6, 31] [(.slice zp0 zl1 zl2), (.slice none 0 0), (.tuple #[])] nx0 (KBlk 0 (KS Pg W 31 rs_77 an_77 false (sub (bodyOf Try.f77) [1, 1, 1]) 0 (fin Pg W 31 rv_77 R)))) (known [7, 8] [(.int .i64 n19), (.int .i64 n20)] (known [2, 6, 31] [(.slice zp0 zl1 zl2), (.slice none 0 0), (.tuple #[])] j)) = B_ref10_row_0 W R zp0 zl1 zl2 n19 n20 nx0 := by kernel_rfl
def N_ref10_row_0 (I : Int → Int → Hp → Prop) (μ : Int → Int → Hp → Nat) (n190 : Int) (n200 : Int) (s : Hp) (vs : List Value) : Hp → Prop := fun s' => ∃ n19 n20, vs = [(.int .i64 n19), (.int .i64 n20)] ∧ I n19 n20 s' ∧ μ n19 n20 s' < μ n190 n200 s
theorem L_ref10_row_0_rule (W : World) (R : Ending → Hp → Prop) (zp0 : Option Addr) (zl1 : Nat) (zl2 : Nat) (I : Int → Int → Hp → Prop) (μ : Int → Int → Hp → Nat) (n190 : Int) (n200 : Int) (s : Hp) (h0 : I n190 n200 s)
    (hr : ∀ (n19 : Int) (n20 : Int) (s : Hp), I n19 n20 s → B_ref10_row_0 W R zp0 zl1 zl2 n19 n20 (fun vs => N_ref10_row_0 I μ n19 n20 s vs) s) : L_ref10_row_0 W R zp0 zl1 zl2 n190 n200 s := by
  refine ⟨fun vs s => ∃ n19 n20, vs = [(.int .i64 n19), (.int .i64 n20)] ∧ I n19 n20 s, fun vs s => (match vs with | [.int _ n19, .int _ n20] => μ n19 n20 s | _ => 0), ⟨⟨⟨_, rfl⟩, ⟨⟨_, rfl⟩, trivial⟩⟩, ⟨_, _, rfl, h0⟩⟩, ?_⟩
  intro n19 n20 s hI j
  obtain ⟨n19', n20', hy, hI⟩ := hI
  have hI' : I n19 n20 s := by cases hy; exact hI
  have hh := hr n19 n20 s hI'
  rw [← B_ref10_row_0_eq W R zp0 zl1 zl2 n19 n20 _ j] at hh
  refine vc_mono ?_ _ _ hh
  exact KLoop_mono (fun vs s' h => by obtain ⟨n191, n201, rfl, h1, h2⟩ := h; exact ⟨⟨⟨_, rfl⟩, ⟨⟨_, rfl⟩, trivial⟩⟩, ⟨_, _, rfl, h1⟩, h2⟩)
def T_ref10_row (W : World) (n1 : Int) (n2 : Int) (x3 : Option Addr) (l4 : Nat) (c5 : Nat) (x6 : Option Addr) (l7 : Nat) (c8 : Nat) (n9 : Int) (x10 : Option Addr) (l11 : Nat) (c12 : Nat) (R : Ending → Hp → Prop) : Hp → Prop :=
  NEW 25 [(.int .i64 n1), (.int .i64 n2), (.slice x3 l4 c5), (.slice x6 l7 c8)] fun B13 =>
    RDL (Addr.add ⟨B13, 0, none⟩ 2) fun x14 l15 c16 =>
      IXS x14 l15 n9 1 fun a17 =>
        RDI .i64 a17 fun n18 =>
          L_ref10_row_0 W R x10 l11 c12 (IntKind.wrap .i64 (0 - n18)) 0
theorem T_ref10_row_eq (W : World) (n1 : Int) (n2 : Int) (x3 : Option Addr) (l4 : Nat) (c5 : Nat) (x6 : Option Addr) (l7 : Nat) (c8 : Nat) (n9 : Int) (x10 : Option Addr) (l11 : Nat) (c12 : Nat) (R : Ending → Hp → Prop) : vfun Pg W an_77 Try.f77 [(.agg #[(.int .i64 n1), (.int .i64 n2), (.slice x3 l4 c5), (.slice x6 l7 c8)]), (.int .i64 n9), (.slice x10 l11 c12)] R = T_ref10_row W n1 n2 x3 l4 c5 x6 l7 c8 n9 x10 l11 c12 R := by kernel_rfl
theorem does_ref10_row (W : World) (n1 : Int) (n2 : Int) (x3 : Option Addr) (l4 : Nat) (c5 : Nat) (x6 : Option Addr) (l7 : Nat) (c8 : Nat) (n9 : Int) (x10 : Option Addr) (l11 : Nat) (c12 : Nat) (R : Ending → Hp → Prop) (s : Hp) (h : T_ref10_row W n1 n2 x3 l4 c5 x6 l7 c8 n9 x10 l11 c12 R s) : Does Pg W F_ref10_row #[(.agg #[(.int .i64 n1), (.int .i64 n2), (.slice x3 l4 c5), (.slice x6 l7 c8)]), (.int .i64 n9), (.slice x10 l11 c12)] s R :=
  does_of_vfun Pg W an_77 Try.func77 rfl (by kernel_rfl) (by rw [T_ref10_row_eq]; exact h)
def an_79 : Nat → Ann := fun b => match b with
  | 0 => { ms := [4, 5], ks := [.b, .i .i64], us := [0, 1, 30], rt := false, ex := [] }
  | _ => {}
abbrev rv_79 : List ResultVar := [.tmp 4]
abbrev rs_79 : List Nat := [30, 4]
def L_ref10_ahead_0 (W : World) (R : Ending → Hp → Prop) (zp0 : Option Addr) (zl1 : Nat) (zl2 : Nat) (zp3 : Option Addr) (zl4 : Nat) (zl5 : Nat) (b7 : Bool) (n8 : Int) : Hp → Prop :=
  LOOPN [.b, .i .i64] (fun ys next s => ∀ j : Tm, vc Pg W 30 rs_79 an_79 false (sub (bodyOf Try.f79) [1, 0, 1, 0, 0]) 0 (KLoop [4, 5] [0, 1, 30] [(.slice zp0 zl1 zl2), (.slice zp3 zl4 zl5), (.tuple #[])] next (KBlk 0 (KS Pg W 30 rs_79 an_79 false (sub (bodyOf Try.f79) [1, 1]) 0 (fin Pg W 30 rv_79 R)))) (known [4, 5] ys (known [0, 1, 30] [(.slice zp0 zl1 zl2), (.slice zp3 zl4 zl5), (.tuple #[])] j)) s) [(.bool b7), (.int .i64 n8)]
def B_ref10_ahead_0 (W : World) (R : Ending → Hp → Prop) (zp0 : Option Addr) (zl1 : Nat) (zl2 : Nat) (zp3 : Option Addr) (zl4 : Nat) (zl5 : Nat) (b7 : Bool) (n8 : Int) (nx0 : List Value → Hp → Prop) : Hp → Prop :=
  BR (decide (n8 < (↑zl1 : Int)))
    (IXS zp0 zl1 n8 1 fun a9 =>
      RDI .i64 a9 fun n10 =>
        IXS zp3 zl4 n8 1 fun a11 =>
          RDI .i64 a11 fun n12 =>
            BR (n10 != n12)
              (IXS zp0 zl1 n8 1 fun a13 =>
                RDI .i64 a13 fun n14 =>
                  IXS zp3 zl4 n8 1 fun a15 =>
                    RDI .i64 a15 fun n16 =>
                      R (.returned (.bool (decide (n14 > n16)))))
              (NX [(.slice zp0 zl1 zl2), (.slice zp3 zl4 zl5), (.tuple #[])] [(.slice zp0 zl1 zl2), (.slice zp3 zl4 zl5), (.tuple #[])] (nx0 [(.bool b7), (.int .i64 (IntKind.wrap .i64 (n8 + 1)))])))
    (R (.returned (.bool false)))
theorem B_ref10_ahead_0_eq (W : World) (R : Ending → Hp → Prop) (zp0 : Option Addr) (zl1 : Nat) (zl2 : Nat) (zp3 : Option Addr) (zl4 : Nat) (zl5 : Nat) (b7 : Bool) (n8 : Int) (nx0 : List Value → Hp → Prop) (j : Tm) : vc Pg W 30 rs_79 an_79 false (sub (bodyOf Try.f79) [1, 0, 1, 0, 0]) 0 (KLoop [4, 5] [0, 1, 30] [(.slice zp0 zl1 zl2), (.slice zp3 zl4 zl5), (.tuple #[])] nx0 (KBlk 0 (KS Pg W 30 rs_79 an_79 false (sub (bodyOf Try.f79) [1, 1]) 0 (fin Pg W 30 rv_79 R)))) (known [4, 5] [(.bool b7), (.int .i64 n8)] (known [0, 1, 30] [(.slice zp0 zl1 zl2), (.slice zp3 zl4 zl5), (.tuple #[])] j)) = B_ref10_ahead_0 W R zp0 zl1 zl2 zp3 zl4 zl5 b7 n8 nx0 := by kernel_rfl
def N_ref10_ahead_0 (I : Bool → Int → Hp → Prop) (μ : Bool → Int → Hp → Nat) (b70 : Bool) (n80 : Int) (s : Hp) (vs : List Value) : Hp → Prop := fun s' => ∃ b7 n8, vs = [(.bool b7), (.int .i64 n8)] ∧ I b7 n8 s' ∧ μ b7 n8 s' < μ b70 n80 s
theorem L_ref10_ahead_0_rule (W : World) (R : Ending → Hp → Prop) (zp0 : Option Addr) (zl1 : Nat) (zl2 : Nat) (zp3 : Option Addr) (zl4 : Nat) (zl5 : Nat) (I : Bool → Int → Hp → Prop) (μ : Bool → Int → Hp → Nat) (b70 : Bool) (n80 : Int) (s : Hp) (h0 : I b70 n80 s)
    (hr : ∀ (b7 : Bool) (n8 : Int) (s : Hp), I b7 n8 s → B_ref10_ahead_0 W R zp0 zl1 zl2 zp3 zl4 zl5 b7 n8 (fun vs => N_ref10_ahead_0 I μ b7 n8 s vs) s) : L_ref10_ahead_0 W R zp0 zl1 zl2 zp3 zl4 zl5 b70 n80 s := by
  refine ⟨fun vs s => ∃ b7 n8, vs = [(.bool b7), (.int .i64 n8)] ∧ I b7 n8 s, fun vs s => (match vs with | [.bool b7, .int _ n8] => μ b7 n8 s | _ => 0), ⟨⟨⟨_, rfl⟩, ⟨⟨_, rfl⟩, trivial⟩⟩, ⟨_, _, rfl, h0⟩⟩, ?_⟩
  intro b7 n8 s hI j
  obtain ⟨b7', n8', hy, hI⟩ := hI
  have hI' : I b7 n8 s := by cases hy; exact hI
  have hh := hr b7 n8 s hI'
  rw [← B_ref10_ahead_0_eq W R zp0 zl1 zl2 zp3 zl4 zl5 b7 n8 _ j] at hh
  refine vc_mono ?_ _ _ hh
  exact KLoop_mono (fun vs s' h => by obtain ⟨b71, n81, rfl, h1, h2⟩ := h; exact ⟨⟨⟨_, rfl⟩, ⟨⟨_, rfl⟩, trivial⟩⟩, ⟨_, _, rfl, h1⟩, h2⟩)
def T_ref10_ahead (W : World) (x1 : Option Addr) (l2 : Nat) (c3 : Nat) (x4 : Option Addr) (l5 : Nat) (c6 : Nat) (R : Ending → Hp → Prop) : Hp → Prop :=
  L_ref10_ahead_0 W R x1 l2 c3 x4 l5 c6 false 0
theorem T_ref10_ahead_eq (W : World) (x1 : Option Addr) (l2 : Nat) (c3 : Nat) (x4 : Option Addr) (l5 : Nat) (c6 : Nat) (R : Ending → Hp → Prop) : vfun Pg W an_79 Try.f79 [(.slice x1 l2 c3), (.slice x4 l5 c6)] R = T_ref10_ahead W x1 l2 c3 x4 l5 c6 R := by kernel_rfl
theorem does_ref10_ahead (W : World) (x1 : Option Addr) (l2 : Nat) (c3 : Nat) (x4 : Option Addr) (l5 : Nat) (c6 : Nat) (R : Ending → Hp → Prop) (s : Hp) (h : T_ref10_ahead W x1 l2 c3 x4 l5 c6 R s) : Does Pg W F_ref10_ahead #[(.slice x1 l2 c3), (.slice x4 l5 c6)] s R :=
  does_of_vfun Pg W an_79 Try.func79 rfl (by kernel_rfl) (by rw [T_ref10_ahead_eq]; exact h)
end Go.Proofs.Ytkgcbfbbcaajpaa.G

/- More of the functions' shallow texts, by gen.py. -/
set_option linter.unusedVariables false
set_option maxRecDepth 100000
namespace Go.Proofs.Ytkgcbfbbcaajpaa.G
open Go.V
def an_13 : Nat → Ann := fun b => match b with
  | _ => {}
abbrev rv_13 : List ResultVar := [.tmp 0]
abbrev rs_13 : List Nat := [128, 0]
def J_law10_awake_0 (W : World) (R : Ending → Hp → Prop) (b346 : Bool) (x238 : Option Addr) (l239 : Nat) (c240 : Nat) (n243 : Int) : Hp → Prop :=
  BR b346
    (NEW 3 [(.int .i64 0), (.int .i64 1), (.int .i64 2)] fun B347 =>
      CALL Pg W F_ref10_Ints [(.slice x238 l239 c240), (.slice (some ⟨B347, 0, none⟩) 3 3)]
        (fun v348 => TYB v348 fun b350 =>
          BR b350
            (R (.returned (.bool (n243 == 0))))
            (R (.returned (.bool false))))
          (fun e349 => R (.panicked e349)))
    (R (.returned (.bool false)))
def J_law10_awake_1 (W : World) (R : Ending → Hp → Prop) (b340 : Bool) (n213 : Int) (x238 : Option Addr) (l239 : Nat) (c240 : Nat) (n243 : Int) : Hp → Prop :=
  BR b340
    (J_law10_awake_0 W R (n213 == 0) x238 l239 c240 n243)
    (J_law10_awake_0 W R false x238 l239 c240 n243)
def J_law10_awake_2 (W : World) (R : Ending → Hp → Prop) (b334 : Bool) (n210 : Int) (n213 : Int) (x238 : Option Addr) (l239 : Nat) (c240 : Nat) (n243 : Int) : Hp → Prop :=
  BR b334
    (J_law10_awake_1 W R (n210 == 17) n213 x238 l239 c240 n243)
    (J_law10_awake_1 W R false n213 x238 l239 c240 n243)
def J_law10_awake_3 (W : World) (R : Ending → Hp → Prop) (b328 : Bool) (n185 : Int) (n210 : Int) (n213 : Int) (x238 : Option Addr) (l239 : Nat) (c240 : Nat) (n243 : Int) : Hp → Prop :=
  BR b328
    (J_law10_awake_2 W R (n185 == 0) n210 n213 x238 l239 c240 n243)
    (J_law10_awake_2 W R false n210 n213 x238 l239 c240 n243)
def J_law10_awake_4 (W : World) (R : Ending → Hp → Prop) (b322 : Bool) (n182 : Int) (n185 : Int) (n210 : Int) (n213 : Int) (x238 : Option Addr) (l239 : Nat) (c240 : Nat) (n243 : Int) : Hp → Prop :=
  BR b322
    (J_law10_awake_3 W R (n182 == 8) n185 n210 n213 x238 l239 c240 n243)
    (J_law10_awake_3 W R false n185 n210 n213 x238 l239 c240 n243)
def J_law10_awake_5 (W : World) (R : Ending → Hp → Prop) (b316 : Bool) (n157 : Int) (n182 : Int) (n185 : Int) (n210 : Int) (n213 : Int) (x238 : Option Addr) (l239 : Nat) (c240 : Nat) (n243 : Int) : Hp → Prop :=
  BR b316
    (J_law10_awake_4 W R (n157 == 0) n182 n185 n210 n213 x238 l239 c240 n243)
    (J_law10_awake_4 W R false n182 n185 n210 n213 x238 l239 c240 n243)
def J_law10_awake_6 (W : World) (R : Ending → Hp → Prop) (b310 : Bool) (b154 : Bool) (n157 : Int) (n182 : Int) (n185 : Int) (n210 : Int) (n213 : Int) (x238 : Option Addr) (l239 : Nat) (c240 : Nat) (n243 : Int) : Hp → Prop :=
  BR b310
    (J_law10_awake_5 W R (!b154) n157 n182 n185 n210 n213 x238 l239 c240 n243)
    (J_law10_awake_5 W R false n157 n182 n185 n210 n213 x238 l239 c240 n243)
def J_law10_awake_7 (W : World) (R : Ending → Hp → Prop) (b304 : Bool) (n129 : Int) (b154 : Bool) (n157 : Int) (n182 : Int) (n185 : Int) (n210 : Int) (n213 : Int) (x238 : Option Addr) (l239 : Nat) (c240 : Nat) (n243 : Int) : Hp → Prop :=
  BR b304
    (J_law10_awake_6 W R (n129 == 0) b154 n157 n182 n185 n210 n213 x238 l239 c240 n243)
    (J_law10_awake_6 W R false b154 n157 n182 n185 n210 n213 x238 l239 c240 n243)
def J_law10_awake_8 (W : World) (R : Ending → Hp → Prop) (b298 : Bool) (n126 : Int) (n129 : Int) (b154 : Bool) (n157 : Int) (n182 : Int) (n185 : Int) (n210 : Int) (n213 : Int) (x238 : Option Addr) (l239 : Nat) (c240 : Nat) (n243 : Int) : Hp → Prop :=
  BR b298
    (J_law10_awake_7 W R (n126 == 7) n129 b154 n157 n182 n185 n210 n213 x238 l239 c240 n243)
    (J_law10_awake_7 W R false n129 b154 n157 n182 n185 n210 n213 x238 l239 c240 n243)
def J_law10_awake_9 (W : World) (R : Ending → Hp → Prop) (b292 : Bool) (n123 : Int) (n126 : Int) (n129 : Int) (b154 : Bool) (n157 : Int) (n182 : Int) (n185 : Int) (n210 : Int) (n213 : Int) (x238 : Option Addr) (l239 : Nat) (c240 : Nat) (n243 : Int) : Hp → Prop :=
  BR b292
    (J_law10_awake_8 W R (n123 == 0) n126 n129 b154 n157 n182 n185 n210 n213 x238 l239 c240 n243)
    (J_law10_awake_8 W R false n126 n129 b154 n157 n182 n185 n210 n213 x238 l239 c240 n243)
def J_law10_awake_10 (W : World) (R : Ending → Hp → Prop) (b286 : Bool) (n97 : Int) (n123 : Int) (n126 : Int) (n129 : Int) (b154 : Bool) (n157 : Int) (n182 : Int) (n185 : Int) (n210 : Int) (n213 : Int) (x238 : Option Addr) (l239 : Nat) (c240 : Nat) (n243 : Int) : Hp → Prop :=
  BR b286
    (J_law10_awake_9 W R (n97 == 0) n123 n126 n129 b154 n157 n182 n185 n210 n213 x238 l239 c240 n243)
    (J_law10_awake_9 W R false n123 n126 n129 b154 n157 n182 n185 n210 n213 x238 l239 c240 n243)
def J_law10_awake_11 (W : World) (R : Ending → Hp → Prop) (b265 : Bool) (B98 : Nat) (n97 : Int) (n123 : Int) (n126 : Int) (n129 : Int) (b154 : Bool) (n157 : Int) (n182 : Int) (n185 : Int) (n210 : Int) (n213 : Int) (x238 : Option Addr) (l239 : Nat) (c240 : Nat) (n243 : Int) : Hp → Prop :=
  BR b265
    (RDI .i64 (Addr.add ⟨B98, 0, none⟩ 0) fun n266 =>
      RDI .i64 (Addr.add ⟨B98, 0, none⟩ 1) fun n267 =>
        CALL Pg W F_law10_span [(.int .i64 1), (.int .i64 3)]
          (fun v268 => AGG v268 fun q270 => HD q270 fun v271 r272 => TYI .i64 v271 fun n273 =>
            HD r272 fun v274 r275 => TYI .i64 v274 fun n276 =>
              NL r275 <|
                ANDS (RDI .i64 (Addr.add ⟨B98, 0, none⟩ 0) fun n279 =>
                  RDI .i64 (Addr.add ⟨B98, 0, none⟩ 1) fun n280 =>
                    fun _ => ((.agg #[(.int .i64 n279), (.int .i64 n280)]) : Value) = (.agg #[(.int .i64 n266), (.int .i64 n267)])) <|
                  J_law10_awake_10 W R ((n266 == n273) && (n267 == n276)) n97 n123 n126 n129 b154 n157 n182 n185 n210 n213 x238 l239 c240 n243)
            (fun e269 => R (.panicked e269)))
    (J_law10_awake_10 W R false n97 n123 n126 n129 b154 n157 n182 n185 n210 n213 x238 l239 c240 n243)
def J_law10_awake_12 (W : World) (R : Ending → Hp → Prop) (b262 : Bool) (n63 : Int) (B98 : Nat) (n97 : Int) (n123 : Int) (n126 : Int) (n129 : Int) (b154 : Bool) (n157 : Int) (n182 : Int) (n185 : Int) (n210 : Int) (n213 : Int) (x238 : Option Addr) (l239 : Nat) (c240 : Nat) (n243 : Int) : Hp → Prop :=
  BR b262
    (J_law10_awake_11 W R (n63 == 0) B98 n97 n123 n126 n129 b154 n157 n182 n185 n210 n213 x238 l239 c240 n243)
    (J_law10_awake_11 W R false B98 n97 n123 n126 n129 b154 n157 n182 n185 n210 n213 x238 l239 c240 n243)
def J_law10_awake_13 (W : World) (R : Ending → Hp → Prop) (b259 : Bool) (n60 : Int) (n63 : Int) (B98 : Nat) (n97 : Int) (n123 : Int) (n126 : Int) (n129 : Int) (b154 : Bool) (n157 : Int) (n182 : Int) (n185 : Int) (n210 : Int) (n213 : Int) (x238 : Option Addr) (l239 : Nat) (c240 : Nat) (n243 : Int) : Hp → Prop :=
  BR b259
    (J_law10_awake_12 W R (n60 == 1) n63 B98 n97 n123 n126 n129 b154 n157 n182 n185 n210 n213 x238 l239 c240 n243)
    (J_law10_awake_12 W R false n63 B98 n97 n123 n126 n129 b154 n157 n182 n185 n210 n213 x238 l239 c240 n243)
def T_law10_awake (W : World) (R : Ending → Hp → Prop) : Hp → Prop :=
  CALL Pg W F_law10_sample []
    (fun v1 => AGG v1 fun q3 => HD q3 fun v4 r5 => TYI .i64 v4 fun n6 =>
      HD r5 fun v7 r8 => TYI .i64 v7 fun n9 =>
        HD r8 fun v10 r11 => TYL v10 fun x12 l13 c14 =>
          HD r11 fun v15 r16 => TYL v15 fun x17 l18 c19 =>
            NL r16 <|
              CALL Pg W F_rank_Sum [(.agg #[(.int .i64 n6), (.int .i64 n9), (.slice x12 l13 c14), (.slice x17 l18 c19)]), (.int .i64 1)]
                (fun v20 => TUP v20 fun q22 => HD q22 fun v23 r24 => AGG v23 fun q25 => HD q25 fun v26 r27 => TYI .i64 v26 fun n28 =>
                  HD r27 fun v29 r30 => TYI .i64 v29 fun n31 =>
                    NL r30 <|
                      HD r24 fun v32 r33 => TYI .i64 v32 fun n34 =>
                        NL r33 <|
                          NEWZ Pg 29 fun B35 =>
                            WR (Addr.add ⟨B35, 0, none⟩ 0) (.int .i64 n28) <|
                              WR (Addr.add ⟨B35, 0, none⟩ 1) (.int .i64 n31) <|
                                CALL Pg W F_law10_sample []
                                  (fun v36 => AGG v36 fun q38 => HD q38 fun v39 r40 => TYI .i64 v39 fun n41 =>
                                    HD r40 fun v42 r43 => TYI .i64 v42 fun n44 =>
                                      HD r43 fun v45 r46 => TYL v45 fun x47 l48 c49 =>
                                        HD r46 fun v50 r51 => TYL v50 fun x52 l53 c54 =>
                                          NL r51 <|
                                            CALL Pg W F_rank_Before [(.agg #[(.int .i64 n41), (.int .i64 n44), (.slice x47 l48 c49), (.slice x52 l53 c54)]), (.int .i64 0), (.int .i64 2)]
                                              (fun v55 => TUP v55 fun q57 => HD q57 fun v58 r59 => TYI .i64 v58 fun n60 =>
                                                HD r59 fun v61 r62 => TYI .i64 v61 fun n63 =>
                                                  NL r62 <|
                                                    CALL Pg W F_law10_sample []
                                                      (fun v64 => AGG v64 fun q66 => HD q66 fun v67 r68 => TYI .i64 v67 fun n69 =>
                                                        HD r68 fun v70 r71 => TYI .i64 v70 fun n72 =>
                                                          HD r71 fun v73 r74 => TYL v73 fun x75 l76 c77 =>
                                                            HD r74 fun v78 r79 => TYL v78 fun x80 l81 c82 =>
                                                              NL r79 <|
                                                                CALL Pg W F_rank_Place [(.agg #[(.int .i64 n69), (.int .i64 n72), (.slice x75 l76 c77), (.slice x80 l81 c82)]), (.int .i64 0)]
                                                                  (fun v83 => TUP v83 fun q85 => HD q85 fun v86 r87 => AGG v86 fun q88 => HD q88 fun v89 r90 => TYI .i64 v89 fun n91 =>
                                                                    HD r90 fun v92 r93 => TYI .i64 v92 fun n94 =>
                                                                      NL r93 <|
                                                                        HD r87 fun v95 r96 => TYI .i64 v95 fun n97 =>
                                                                          NL r96 <|
                                                                            NEWZ Pg 29 fun B98 =>
                                                                              WR (Addr.add ⟨B98, 0, none⟩ 0) (.int .i64 n91) <|
                                                                                WR (Addr.add ⟨B98, 0, none⟩ 1) (.int .i64 n94) <|
                                                                                  CALL Pg W F_law10_sample []
                                                                                    (fun v99 => AGG v99 fun q101 => HD q101 fun v102 r103 => TYI .i64 v102 fun n104 =>
                                                                                      HD r103 fun v105 r106 => TYI .i64 v105 fun n107 =>
                                                                                        HD r106 fun v108 r109 => TYL v108 fun x110 l111 c112 =>
                                                                                          HD r109 fun v113 r114 => TYL v113 fun x115 l116 c117 =>
                                                                                            NL r114 <|
                                                                                              CALL Pg W F_rank_Winners [(.agg #[(.int .i64 n104), (.int .i64 n107), (.slice x110 l111 c112), (.slice x115 l116 c117)])]
                                                                                                (fun v118 => TUP v118 fun q120 => HD q120 fun v121 r122 => TYI .i64 v121 fun n123 =>
                                                                                                  HD r122 fun v124 r125 => TYI .i64 v124 fun n126 =>
                                                                                                    HD r125 fun v127 r128 => TYI .i64 v127 fun n129 =>
                                                                                                      NL r128 <|
                                                                                                        CALL Pg W F_law10_sample []
                                                                                                          (fun v130 => AGG v130 fun q132 => HD q132 fun v133 r134 => TYI .i64 v133 fun n135 =>
                                                                                                            HD r134 fun v136 r137 => TYI .i64 v136 fun n138 =>
                                                                                                              HD r137 fun v139 r140 => TYL v139 fun x141 l142 c143 =>
                                                                                                                HD r140 fun v144 r145 => TYL v144 fun x146 l147 c148 =>
                                                                                                                  NL r145 <|
                                                                                                                    CALL Pg W F_rank_Equal [(.agg #[(.int .i64 n135), (.int .i64 n138), (.slice x141 l142 c143), (.slice x146 l147 c148)]), (.int .i64 0), (.int .i64 2)]
                                                                                                                      (fun v149 => TUP v149 fun q151 => HD q151 fun v152 r153 => TYB v152 fun b154 =>
                                                                                                                        HD r153 fun v155 r156 => TYI .i64 v155 fun n157 =>
                                                                                                                          NL r156 <|
                                                                                                                            CALL Pg W F_law10_sample []
                                                                                                                              (fun v158 => AGG v158 fun q160 => HD q160 fun v161 r162 => TYI .i64 v161 fun n163 =>
                                                                                                                                HD r162 fun v164 r165 => TYI .i64 v164 fun n166 =>
                                                                                                                                  HD r165 fun v167 r168 => TYL v167 fun x169 l170 c171 =>
                                                                                                                                    HD r168 fun v172 r173 => TYL v172 fun x174 l175 c176 =>
                                                                                                                                      NL r173 <|
                                                                                                                                        CALL Pg W F_rank_Could [(.agg #[(.int .i64 n163), (.int .i64 n166), (.slice x169 l170 c171), (.slice x174 l175 c176)]), (.int .i64 2), (.int .i64 1)]
                                                                                                                                          (fun v177 => TUP v177 fun q179 => HD q179 fun v180 r181 => TYI .i64 v180 fun n182 =>
                                                                                                                                            HD r181 fun v183 r184 => TYI .i64 v183 fun n185 =>
                                                                                                                                              NL r184 <|
                                                                                                                                                CALL Pg W F_law10_sample []
                                                                                                                                                  (fun v186 => AGG v186 fun q188 => HD q188 fun v189 r190 => TYI .i64 v189 fun n191 =>
                                                                                                                                                    HD r190 fun v192 r193 => TYI .i64 v192 fun n194 =>
                                                                                                                                                      HD r193 fun v195 r196 => TYL v195 fun x197 l198 c199 =>
                                                                                                                                                        HD r196 fun v200 r201 => TYL v200 fun x202 l203 c204 =>
                                                                                                                                                          NL r201 <|
                                                                                                                                                            CALL Pg W F_rank_Need [(.agg #[(.int .i64 n191), (.int .i64 n194), (.slice x197 l198 c199), (.slice x202 l203 c204)]), (.int .i64 1), (.int .i64 1), (.int .i64 1)]
                                                                                                                                                              (fun v205 => TUP v205 fun q207 => HD q207 fun v208 r209 => TYI .i64 v208 fun n210 =>
                                                                                                                                                                HD r209 fun v211 r212 => TYI .i64 v211 fun n213 =>
                                                                                                                                                                  NL r212 <|
                                                                                                                                                                    CALL Pg W F_law10_sample []
                                                                                                                                                                      (fun v214 => AGG v214 fun q216 => HD q216 fun v217 r218 => TYI .i64 v217 fun n219 =>
                                                                                                                                                                        HD r218 fun v220 r221 => TYI .i64 v220 fun n222 =>
                                                                                                                                                                          HD r221 fun v223 r224 => TYL v223 fun x225 l226 c227 =>
                                                                                                                                                                            HD r224 fun v228 r229 => TYL v228 fun x230 l231 c232 =>
                                                                                                                                                                              NL r229 <|
                                                                                                                                                                                CALL Pg W F_rank_Order [(.agg #[(.int .i64 n219), (.int .i64 n222), (.slice x225 l226 c227), (.slice x230 l231 c232)])]
                                                                                                                                                                                  (fun v233 => TUP v233 fun q235 => HD q235 fun v236 r237 => TYL v236 fun x238 l239 c240 =>
                                                                                                                                                                                    HD r237 fun v241 r242 => TYI .i64 v241 fun n243 =>
                                                                                                                                                                                      NL r242 <|
                                                                                                                                                                                        RDI .i64 (Addr.add ⟨B35, 0, none⟩ 0) fun n244 =>
                                                                                                                                                                                          RDI .i64 (Addr.add ⟨B35, 0, none⟩ 1) fun n245 =>
                                                                                                                                                                                            CALL Pg W F_law10_span [(.int .i64 30), (.int .i64 38)]
                                                                                                                                                                                              (fun v246 => AGG v246 fun q248 => HD q248 fun v249 r250 => TYI .i64 v249 fun n251 =>
                                                                                                                                                                                                HD r250 fun v252 r253 => TYI .i64 v252 fun n254 =>
                                                                                                                                                                                                  NL r253 <|
                                                                                                                                                                                                    ANDS (RDI .i64 (Addr.add ⟨B35, 0, none⟩ 0) fun n255 =>
                                                                                                                                                                                                      RDI .i64 (Addr.add ⟨B35, 0, none⟩ 1) fun n256 =>
                                                                                                                                                                                                        fun _ => ((.agg #[(.int .i64 n255), (.int .i64 n256)]) : Value) = (.agg #[(.int .i64 n244), (.int .i64 n245)])) <|
                                                                                                                                                                                                      BR ((n244 == n251) && (n245 == n254))
                                                                                                                                                                                                        (J_law10_awake_13 W R (n34 == 0) n60 n63 B98 n97 n123 n126 n129 b154 n157 n182 n185 n210 n213 x238 l239 c240 n243)
                                                                                                                                                                                                        (J_law10_awake_13 W R false n60 n63 B98 n97 n123 n126 n129 b154 n157 n182 n185 n210 n213 x238 l239 c240 n243))
                                                                                                                                                                                                (fun e247 => R (.panicked e247)))
                                                                                                                                                                                    (fun e234 => R (.panicked e234)))
                                                                                                                                                                        (fun e215 => R (.panicked e215)))
                                                                                                                                                                (fun e206 => R (.panicked e206)))
                                                                                                                                                    (fun e187 => R (.panicked e187)))
                                                                                                                                            (fun e178 => R (.panicked e178)))
                                                                                                                                (fun e159 => R (.panicked e159)))
                                                                                                                        (fun e150 => R (.panicked e150)))
                                                                                                            (fun e131 => R (.panicked e131)))
                                                                                                  (fun e119 => R (.panicked e119)))
                                                                                      (fun e100 => R (.panicked e100)))
                                                                    (fun e84 => R (.panicked e84)))
                                                        (fun e65 => R (.panicked e65)))
                                                (fun e56 => R (.panicked e56)))
                                    (fun e37 => R (.panicked e37)))
                  (fun e21 => R (.panicked e21)))
      (fun e2 => R (.panicked e2))
theorem T_law10_awake_eq (W : World) (R : Ending → Hp → Prop) : vfun Pg W an_13 Try.f13 [] R = T_law10_awake W R := by kernel_rfl
theorem does_law10_awake (W : World) (R : Ending → Hp → Prop) (s : Hp) (h : T_law10_awake W R s) : Does Pg W F_law10_awake #[] s R :=
  does_of_vfun Pg W an_13 Try.func13 rfl (by kernel_rfl) (by rw [T_law10_awake_eq]; exact h)
end Go.Proofs.Ytkgcbfbbcaajpaa.G

/- Rank: what the document fixes. -/
set_option linter.unusedSimpArgs false
set_option linter.unusedVariables false
set_option maxRecDepth 20000
namespace Go.Proofs.Ytkgcbfbbcaajpaa.G
open Go.V
def ST : Tb := ⟨3, 2, [0, 2, 0], [⟨0, 0, 20, 20⟩, ⟨0, 1, 15, 15⟩, ⟨1, 0, 22, 22⟩, ⟨1, 1, 10, 18⟩, ⟨2, 0, 18, 20⟩, ⟨2, 1, 17, 17⟩]⟩
theorem st_sum : sumP ST 1 = ((30, 38), 0) := by decide +kernel
theorem st_bef : befR ST 0 2 = (1, 0) := by decide +kernel
theorem st_plc : plcR ST 0 = ((1, 3), 0) := by decide +kernel
theorem st_win : winP ST = (0, 7, 0) := by decide +kernel
theorem st_eq : eqR ST 0 2 = (false, 0) := by decide +kernel
theorem st_could : couldR ST 2 1 = (8, 0) := by decide +kernel
theorem st_need : needR ST 1 1 1 = (17, 0) := by decide +kernel
theorem st_order : orderR ST = ([0, 1, 2], 0) := by decide +kernel
theorem zc_25 : zc Pg 25 = [.int .i64 0, .int .i64 0, .slice none 0 0, .slice none 0 0] := by kernel_rfl
section
variable {W : World} {K : VK} {E : List PanicEntry → Hp → Prop} {s : Hp}
theorem f_Ints {x y : Option Addr} {c c' : Nat} {a b : List Int} (ha : RowAt s x (ints a)) (hb : RowAt s y (ints b)) (hla : a.length ≤ 100000) (h : K (.bool (decide (a = b))) s) :
    CALL Pg W F_ref10_Ints [.slice x a.length c, .slice y b.length c'] K E s := by
  refine does_ref10_Ints W x a.length c y b.length c' _ s ?_
  unfold T_ref10_Ints
  refine BR_ne (fun h1 => ?_) (fun h1 => ?_)
  · have : ¬ a = b := fun e => h1 (by rw [e])
    rw [decide_eq_false this] at h
    exact h
  have hl : a.length = b.length := by omega
  refine L_ref10_Ints_0_rule W _ x a.length c y b.length c' (fun _ n8 t => t = s ∧ ∃ k : Nat, k ≤ a.length ∧ n8 = k ∧ ∀ j (h1 : j < a.length) (h2 : j < b.length), j < k → a[j] = b[j]) (fun _ n8 _ => (a.length - n8).toNat) false 0 s ⟨rfl, 0, by omega, rfl, fun j _ _ hj => by omega⟩ ?_
  rintro b7 n8 t ⟨rfl, k, hk, rfl, heq⟩
  unfold B_ref10_Ints_0
  refine BR_dec (fun h2 => ?_) (fun h2 => ?_)
  · have hka : k < a.length := by omega
    have hkb : k < b.length := by omega
    have hva : k < (ints a).length := by rw [ints_len]; exact hka
    have hvb : k < (ints b).length := by rw [ints_len]; exact hkb
    obtain ⟨p, hp, g⟩ := ha k hva
    obtain ⟨q, hq, g'⟩ := hb k hvb
    rw [ints_get hva] at g
    rw [ints_get hvb] at g'
    have tk : ((k : Int)).toNat = k := by omega
    refine ⟨p, hp, ⟨by omega, by omega⟩, _, by rw [tk]; exact g, q, hq, ⟨by omega, by omega⟩, _, by rw [tk]; exact g', ?_⟩
    refine BR_ne (fun h3 => ?_) (fun h3 => ?_)
    · have : ¬ a = b := fun e => by subst e; exact h3 rfl
      rw [decide_eq_false this] at h
      exact h
    · refine ⟨rfl, _, _, rfl, ⟨rfl, k + 1, hka, ?_, ?_⟩, ?_⟩
      · rw [wrap_i64 (by omega) (by omega)]; rfl
      · intro j h4 h5 hj
        by_cases hjk : j < k
        · exact heq j h4 h5 hjk
        · have : j = k := by omega
          subst this
          exact h3
      · show ((a.length : Int) - IntKind.i64.wrap ((k : Int) + 1)).toNat < ((a.length : Int) - k).toNat
        rw [wrap_i64 (by omega) (by omega)]; omega
  · have : a = b := List.ext_getElem hl (fun j h3 h4 => heq j h3 h4 (by omega))
    rw [decide_eq_true this] at h
    exact h

theorem f_IntsN {x y : Option Addr} {c c' l l' : Nat} {a b : List Int} (ha : RowAt s x (ints a)) (hb : RowAt s y (ints b)) (hla : a.length ≤ 100000) (hl : l = a.length) (hl' : l' = b.length) (h : K (.bool (decide (a = b))) s) : CALL Pg W F_ref10_Ints [.slice x l c, .slice y l' c'] K E s := by
  subst hl
  subst hl'
  exact f_Ints ha hb hla h
theorem c_span {a b : Int} (h : ∀ s', Ext s s' → K (spanV (a, b)) s') : CALL Pg W F_law10_span [.int .i64 a, .int .i64 b] K E s := by
  refine does_law10_span W a b _ s ?_
  unfold T_law10_span
  refine NEWZ_rule zc_29 fun s1 e1 z1 n1 => ?_
  refine fin_span (R := endK K E) (n1 0 _ rfl) (n1 1 _ rfl) fun s' k => h s' (kp_new e1 (Nat.le_refl _) k)
theorem rd4 {s : Hp} {a : Addr} {v0 v1 v2 v3 : Int} {KK : Int → Int → Int → Int → Hp → Prop} (h0 : Own s (a.add 0) (.int .i64 v0)) (h1 : Own s (a.add 1) (.int .i64 v1)) (h2 : Own s (a.add 2) (.int .i64 v2)) (h3 : Own s (a.add 3) (.int .i64 v3)) (h : KK v0 v1 v2 v3 s) :
    (RDI .i64 (a.add 0) fun n0 => RDI .i64 (a.add 1) fun n1 => RDI .i64 (a.add 2) fun n2 => RDI .i64 (a.add 3) fun n3 => KK n0 n1 n2 n3) s := ⟨_, h0.cell, _, h1.cell, _, h2.cell, _, h3.cell, h⟩
def scV (x : Sc) : Value := .agg #[.int .i64 x.man, .int .i64 x.sheet, .int .i64 x.lo, .int .i64 x.hi]
theorem c_sc {a b c d : Int} (h : ∀ s', Ext s s' → K (scV ⟨a, b, c, d⟩) s') : CALLV Pg W (.func (.func 71) #[] #[]) [.int .i64 a, .int .i64 b, .int .i64 c, .int .i64 d] K E s := by
  refine CALLV_func ?_
  refine does_law10_sample_c1 W a b c d _ s ?_
  unfold T_law10_sample_c1
  refine NEWZ_rule zc_55 fun s1 e1 z1 n1 => ?_
  refine c_span fun s2 e2 => ?_
  unfold spanV
  try simp only [TUP_mk, AGG_mk, HD_mk, NL_mk, TYI_mk, TYB_mk, TYP_mk, TYL_mk, TYS_mk, TYM_mk, SO_mk, NX_mk, endK_mk, endK_mk', add_0]
  refine wr4 rfl rfl rfl rfl (fun j hj => by obtain ⟨y, hy⟩ := new4 n1 j hj; exact ⟨y, e2.own hy⟩) fun s3 k3 z3 o0 o1 o2 o3 => ?_
  refine rd4 o0 o1 o2 o3 ?_
  exact h s3 (ext_own (e1.trans e2) (Nat.le_refl _) k3)
/-- The cells of scores. -/
def scs (l : List Sc) : List Value := l.flatMap fun x => [.int .i64 x.man, .int .i64 x.sheet, .int .i64 x.lo, .int .i64 x.hi]
theorem scs_get : ∀ (l : List Sc) (i : Nat) (h : i < l.length), (scs l)[i * 4]? = some (.int .i64 l[i].man) ∧ (scs l)[i * 4 + 1]? = some (.int .i64 l[i].sheet) ∧ (scs l)[i * 4 + 2]? = some (.int .i64 l[i].lo) ∧ (scs l)[i * 4 + 3]? = some (.int .i64 l[i].hi)
  | [], i, h => by simp at h
  | x :: l, 0, h => ⟨rfl, rfl, rfl, rfl⟩
  | x :: l, i + 1, h => by
    obtain ⟨h1, h2, h3, h4⟩ := scs_get l i (by simpa using h)
    have key : ∀ j, (scs (x :: l))[(i + 1) * 4 + j]? = (scs l)[i * 4 + j]? := fun j => by
      show ([Value.int .i64 x.man, .int .i64 x.sheet, .int .i64 x.lo, .int .i64 x.hi] ++ scs l)[(i + 1) * 4 + j]? = _
      rw [List.getElem?_append_right (by simp; omega)]
      congr 1
      simp; omega
    have k0 := key 0
    rw [Nat.add_zero, Nat.add_zero] at k0
    rw [k0, key 1, key 2, key 3]
    exact ⟨h1, h2, h3, h4⟩
theorem scAt_new {s : Hp} {b : Nat} {l : List Sc} (n1 : ∀ i v, (scs l)[i]? = some v → Own s ⟨b, i, none⟩ v) : ScAt s (some ⟨b, 0, none⟩) l := fun i hi => by
  obtain ⟨h1, h2, h3, h4⟩ := scs_get l i hi
  have key : ∀ j v, (scs l)[i * 4 + j]? = some v → cellAt s (((⟨b, 0, none⟩ : Addr).add (i * 4)).add j) = some v := fun j v hv => by
    rw [addr_add, add_nil, Nat.zero_add]
    exact (n1 _ _ hv).cell
  exact ⟨_, rfl, key 0 _ h1, key 1 _ h2, key 2 _ h3, key 3 _ h4⟩
theorem c_sample (h : ∀ s' x y, Ext s s' → RowAt s' x (ints ST.off) → ScAt s' y ST.sc → K (.agg #[.int .i64 3, .int .i64 2, .slice x 3 3, .slice y 6 6]) s') : CALL Pg W F_law10_sample [] K E s := by
  refine does_law10_sample W _ s ?_
  unfold T_law10_sample
  refine NEWZ_rule zc_25 fun s1 e1 z1 n1 => ?_
  refine NEW_rule fun s2 e2 z2 n2 _ => ?_
  refine c_sc fun s3 e3 => ?_
  unfold scV
  try simp only [TUP_mk, AGG_mk, HD_mk, NL_mk, TYI_mk, TYB_mk, TYP_mk, TYL_mk, TYS_mk, TYM_mk, SO_mk, NX_mk, endK_mk, endK_mk', add_0]
  refine c_sc fun s4 e4 => ?_
  unfold scV
  try simp only [TUP_mk, AGG_mk, HD_mk, NL_mk, TYI_mk, TYB_mk, TYP_mk, TYL_mk, TYS_mk, TYM_mk, SO_mk, NX_mk, endK_mk, endK_mk', add_0]
  refine c_sc fun s5 e5 => ?_
  unfold scV
  try simp only [TUP_mk, AGG_mk, HD_mk, NL_mk, TYI_mk, TYB_mk, TYP_mk, TYL_mk, TYS_mk, TYM_mk, SO_mk, NX_mk, endK_mk, endK_mk', add_0]
  refine c_sc fun s6 e6 => ?_
  unfold scV
  try simp only [TUP_mk, AGG_mk, HD_mk, NL_mk, TYI_mk, TYB_mk, TYP_mk, TYL_mk, TYS_mk, TYM_mk, SO_mk, NX_mk, endK_mk, endK_mk', add_0]
  refine c_sc fun s7 e7 => ?_
  unfold scV
  try simp only [TUP_mk, AGG_mk, HD_mk, NL_mk, TYI_mk, TYB_mk, TYP_mk, TYL_mk, TYS_mk, TYM_mk, SO_mk, NX_mk, endK_mk, endK_mk', add_0]
  refine c_sc fun s8 e8 => ?_
  unfold scV
  try simp only [TUP_mk, AGG_mk, HD_mk, NL_mk, TYI_mk, TYB_mk, TYP_mk, TYL_mk, TYS_mk, TYM_mk, SO_mk, NX_mk, endK_mk, endK_mk', add_0]
  have e28 := e3.trans (e4.trans (e5.trans (e6.trans (e7.trans e8))))
  refine NEW_rule fun s9 e9 z9 n9 _ => ?_
  have e29 := e28.trans e9
  have e19 := e2.trans e29
  refine wr4 rfl rfl rfl rfl (fun j hj => by obtain ⟨y, hy⟩ := new4 n1 j hj; exact ⟨y, e19.own hy⟩) fun t k z o0 o1 o2 o3 => ?_
  refine ⟨_, o0.cell, _, o1.cell, _, _, _, o2.cell, _, _, _, o3.cell, ?_⟩
  have hz1 := e2.1
  have hz2 := e28.1
  have hs2 : s2.size = s1.size + 1 := z2
  refine h t _ _ (ext_own (e1.trans e19) (Nat.le_refl _) k) ?_ ?_
  · exact ((row_new n2).ext e29).keep k (fun a ha => by cases ha; show ¬ s1.size = s.size; omega)
  · have hsc : ScAt s9 (some ⟨s8.size, 0, none⟩) ST.sc := scAt_new (l := ST.sc) n9
    intro i hi
    obtain ⟨a, ha, g0, g1, g2, g3⟩ := hsc i hi
    cases ha
    have kc : ∀ {j : Nat} {v : Value}, cellAt s9 (((⟨s8.size, 0, none⟩ : Addr).add (i * 4)).add j) = some v → cellAt t (((⟨s8.size, 0, none⟩ : Addr).add (i * 4)).add j) = some v := fun hc => k.cell (by rw [add_blk, add_blk]; show ¬ s8.size = s.size; omega) hc
    exact ⟨_, rfl, kc g0, kc g1, kc g2, kc g3⟩
end
end Go.Proofs.Ytkgcbfbbcaajpaa.G

/- Rank: what the document fixes holds. -/
set_option linter.unusedSimpArgs false
set_option linter.unusedVariables false
set_option maxRecDepth 20000
namespace Go.Proofs.Ytkgcbfbbcaajpaa.G
open Go.V
section
variable {W : World} {K : VK} {E : List PanicEntry → Hp → Prop} {s : Hp} {x y : Option Addr} {c c' : Nat}
theorem x_Sum (hx : RowAt s x (ints ST.off)) (hy : ScAt s y ST.sc) (h : ∀ s', Ext s s' → K (.tuple #[spanV (30, 38), .int .i64 0]) s') : CALL Pg W F_rank_Sum [.agg #[.int .i64 3, .int .i64 2, .slice x 3 c, .slice y 6 c'], .int .i64 1] K E s :=
  c_Sum (T := ST) (i := 1) hx hy (by decide) (by rw [st_sum]; exact h)
theorem x_Before (hx : RowAt s x (ints ST.off)) (hy : ScAt s y ST.sc) (h : ∀ s', Ext s s' → K (.tuple #[.int .i64 1, .int .i64 0]) s') : CALL Pg W F_rank_Before [.agg #[.int .i64 3, .int .i64 2, .slice x 3 c, .slice y 6 c'], .int .i64 0, .int .i64 2] K E s :=
  c_Before (T := ST) (a := 0) (b := 2) hx hy (by decide) (by rw [st_bef]; exact h)
theorem x_Place (hx : RowAt s x (ints ST.off)) (hy : ScAt s y ST.sc) (h : ∀ s', Ext s s' → K (.tuple #[spanV (1, 3), .int .i64 0]) s') : CALL Pg W F_rank_Place [.agg #[.int .i64 3, .int .i64 2, .slice x 3 c, .slice y 6 c'], .int .i64 0] K E s :=
  c_Place (T := ST) (i := 0) hx hy (by decide) (by rw [st_plc]; exact h)
theorem x_Winners (hx : RowAt s x (ints ST.off)) (hy : ScAt s y ST.sc) (h : ∀ s', Ext s s' → K (.tuple #[.int .i64 0, .int .i64 7, .int .i64 0]) s') : CALL Pg W F_rank_Winners [.agg #[.int .i64 3, .int .i64 2, .slice x 3 c, .slice y 6 c']] K E s :=
  c_Winners (T := ST) hx hy (by decide) (by rw [st_win]; exact h)
theorem x_Equal (hx : RowAt s x (ints ST.off)) (hy : ScAt s y ST.sc) (h : ∀ s', Ext s s' → K (.tuple #[.bool false, .int .i64 0]) s') : CALL Pg W F_rank_Equal [.agg #[.int .i64 3, .int .i64 2, .slice x 3 c, .slice y 6 c'], .int .i64 0, .int .i64 2] K E s :=
  c_Equal (T := ST) (a := 0) (b := 2) hx hy (by decide) (by rw [st_eq]; exact h)
theorem x_Could (hx : RowAt s x (ints ST.off)) (hy : ScAt s y ST.sc) (h : ∀ s', Ext s s' → K (.tuple #[.int .i64 8, .int .i64 0]) s') : CALL Pg W F_rank_Could [.agg #[.int .i64 3, .int .i64 2, .slice x 3 c, .slice y 6 c'], .int .i64 2, .int .i64 1] K E s :=
  c_Could (T := ST) (a := 2) (b := 1) hx hy (by decide) (by rw [st_could]; exact h)
theorem x_Need (hx : RowAt s x (ints ST.off)) (hy : ScAt s y ST.sc) (h : ∀ s', Ext s s' → K (.tuple #[.int .i64 17, .int .i64 0]) s') : CALL Pg W F_rank_Need [.agg #[.int .i64 3, .int .i64 2, .slice x 3 c, .slice y 6 c'], .int .i64 1, .int .i64 1, .int .i64 1] K E s :=
  c_Need (T := ST) (a := 1) (b := 1) (pl := 1) hx hy (by decide) (by rw [st_need]; exact h)
theorem x_Order (hx : RowAt s x (ints ST.off)) (hy : ScAt s y ST.sc) (h : ∀ s' z cz, Ext s s' → RowAt s' z (ints [0, 1, 2]) → K (.tuple #[.slice z 3 cz, .int .i64 0]) s') : CALL Pg W F_rank_Order [.agg #[.int .i64 3, .int .i64 2, .slice x 3 c, .slice y 6 c']] K E s :=
  c_Order (T := ST) hx hy (by decide) (by rw [st_order]; exact h)
theorem c_awake (h : ∀ s', Ext s s' → K (.bool true) s') : CALL Pg W F_law10_awake [] K E s := by
  refine does_law10_awake W _ s ?_
  unfold T_law10_awake
  refine c_sample fun s1 x1 y1 e1 r1 q1 => ?_
  try simp only [TUP_mk, AGG_mk, HD_mk, NL_mk, TYI_mk, TYB_mk, TYP_mk, TYL_mk, TYS_mk, TYM_mk, SO_mk, NX_mk, endK_mk, endK_mk', add_0]
  refine x_Sum r1 q1 fun s2 e2 => ?_
  unfold spanV
  try simp only [TUP_mk, AGG_mk, HD_mk, NL_mk, TYI_mk, TYB_mk, TYP_mk, TYL_mk, TYS_mk, TYM_mk, SO_mk, NX_mk, endK_mk, endK_mk', add_0]
  refine NEWZ_rule zc_29 fun s3 e3 z3 n3 => ?_
  refine wr2 rfl rfl (new2 n3) fun s4 k4 z4 a0 a1 => ?_
  have e24 : Ext s2 s4 := ext_own e3 (Nat.le_refl _) k4
  have e04 := e1.trans (e2.trans e24)
  refine c_sample fun s5 x5 y5 e5 r5 q5 => ?_
  try simp only [TUP_mk, AGG_mk, HD_mk, NL_mk, TYI_mk, TYB_mk, TYP_mk, TYL_mk, TYS_mk, TYM_mk, SO_mk, NX_mk, endK_mk, endK_mk', add_0]
  refine x_Before r5 q5 fun s6 e6 => ?_
  try simp only [TUP_mk, AGG_mk, HD_mk, NL_mk, TYI_mk, TYB_mk, TYP_mk, TYL_mk, TYS_mk, TYM_mk, SO_mk, NX_mk, endK_mk, endK_mk', add_0]
  refine c_sample fun s7 x7 y7 e7 r7 q7 => ?_
  try simp only [TUP_mk, AGG_mk, HD_mk, NL_mk, TYI_mk, TYB_mk, TYP_mk, TYL_mk, TYS_mk, TYM_mk, SO_mk, NX_mk, endK_mk, endK_mk', add_0]
  refine x_Place r7 q7 fun s8 e8 => ?_
  unfold spanV
  try simp only [TUP_mk, AGG_mk, HD_mk, NL_mk, TYI_mk, TYB_mk, TYP_mk, TYL_mk, TYS_mk, TYM_mk, SO_mk, NX_mk, endK_mk, endK_mk', add_0]
  have e48 := e5.trans (e6.trans (e7.trans e8))
  refine NEWZ_rule zc_29 fun s9 e9 z9 n9 => ?_
  refine wr2 rfl rfl (new2 n9) fun t1 kt1 zt1 b0 b1 => ?_
  have e8t : Ext s8 t1 := ext_own e9 (Nat.le_refl _) kt1
  have e4t := e48.trans e8t
  refine c_sample fun t2 x2 y2 f2 r2 q2 => ?_
  try simp only [TUP_mk, AGG_mk, HD_mk, NL_mk, TYI_mk, TYB_mk, TYP_mk, TYL_mk, TYS_mk, TYM_mk, SO_mk, NX_mk, endK_mk, endK_mk', add_0]
  refine x_Winners r2 q2 fun t3 f3 => ?_
  try simp only [TUP_mk, AGG_mk, HD_mk, NL_mk, TYI_mk, TYB_mk, TYP_mk, TYL_mk, TYS_mk, TYM_mk, SO_mk, NX_mk, endK_mk, endK_mk', add_0]
  refine c_sample fun t4 x4 y4 f4 r4 q4 => ?_
  try simp only [TUP_mk, AGG_mk, HD_mk, NL_mk, TYI_mk, TYB_mk, TYP_mk, TYL_mk, TYS_mk, TYM_mk, SO_mk, NX_mk, endK_mk, endK_mk', add_0]
  refine x_Equal r4 q4 fun t5 f5 => ?_
  try simp only [TUP_mk, AGG_mk, HD_mk, NL_mk, TYI_mk, TYB_mk, TYP_mk, TYL_mk, TYS_mk, TYM_mk, SO_mk, NX_mk, endK_mk, endK_mk', add_0]
  refine c_sample fun t6 x6 y6 f6 r6 q6 => ?_
  try simp only [TUP_mk, AGG_mk, HD_mk, NL_mk, TYI_mk, TYB_mk, TYP_mk, TYL_mk, TYS_mk, TYM_mk, SO_mk, NX_mk, endK_mk, endK_mk', add_0]
  refine x_Could r6 q6 fun t7 f7 => ?_
  try simp only [TUP_mk, AGG_mk, HD_mk, NL_mk, TYI_mk, TYB_mk, TYP_mk, TYL_mk, TYS_mk, TYM_mk, SO_mk, NX_mk, endK_mk, endK_mk', add_0]
  refine c_sample fun t8 x8 y8 f8 r8 q8 => ?_
  try simp only [TUP_mk, AGG_mk, HD_mk, NL_mk, TYI_mk, TYB_mk, TYP_mk, TYL_mk, TYS_mk, TYM_mk, SO_mk, NX_mk, endK_mk, endK_mk', add_0]
  refine x_Need r8 q8 fun t9 f9 => ?_
  try simp only [TUP_mk, AGG_mk, HD_mk, NL_mk, TYI_mk, TYB_mk, TYP_mk, TYL_mk, TYS_mk, TYM_mk, SO_mk, NX_mk, endK_mk, endK_mk', add_0]
  refine c_sample fun u1 xu yu g1 ru qu => ?_
  try simp only [TUP_mk, AGG_mk, HD_mk, NL_mk, TYI_mk, TYB_mk, TYP_mk, TYL_mk, TYS_mk, TYM_mk, SO_mk, NX_mk, endK_mk, endK_mk', add_0]
  refine x_Order ru qu fun u2 z cz g2 rz => ?_
  try simp only [TUP_mk, AGG_mk, HD_mk, NL_mk, TYI_mk, TYB_mk, TYP_mk, TYL_mk, TYS_mk, TYM_mk, SO_mk, NX_mk, endK_mk, endK_mk', add_0]
  have f12 := f2.trans (f3.trans (f4.trans (f5.trans (f6.trans (f7.trans (f8.trans (f9.trans (g1.trans g2))))))))
  have a0' := (e4t.trans f12).own a0
  have a1' := (e4t.trans f12).own a1
  have b0' := f12.own b0
  have b1' := f12.own b1
  have e0u := e04.trans (e4t.trans f12)
  refine ⟨_, a0'.cell, _, a1'.cell, ?_⟩
  refine c_span fun u3 g3 => ?_
  unfold spanV
  try simp only [TUP_mk, AGG_mk, HD_mk, NL_mk, TYI_mk, TYB_mk, TYP_mk, TYL_mk, TYS_mk, TYM_mk, SO_mk, NX_mk, endK_mk, endK_mk', add_0]
  refine ⟨⟨_, (g3.own a0').cell, _, (g3.own a1').cell, rfl⟩, ?_⟩
  refine BR_bool (fun _ => ?_) (fun hh => absurd hh (by decide))
  unfold J_law10_awake_13
  refine BR_eq (fun _ => ?_) (fun hh => absurd rfl hh)
  unfold J_law10_awake_12
  refine BR_eq (fun _ => ?_) (fun hh => absurd rfl hh)
  unfold J_law10_awake_11
  refine BR_eq (fun _ => ?_) (fun hh => absurd rfl hh)
  refine ⟨_, (g3.own b0').cell, _, (g3.own b1').cell, ?_⟩
  refine c_span fun u4 g4 => ?_
  unfold spanV
  try simp only [TUP_mk, AGG_mk, HD_mk, NL_mk, TYI_mk, TYB_mk, TYP_mk, TYL_mk, TYS_mk, TYM_mk, SO_mk, NX_mk, endK_mk, endK_mk', add_0]
  refine ⟨⟨_, (g4.own (g3.own b0')).cell, _, (g4.own (g3.own b1')).cell, rfl⟩, ?_⟩
  unfold J_law10_awake_10
  refine BR_bool (fun _ => ?_) (fun hh => absurd hh (by decide))
  unfold J_law10_awake_9
  refine BR_eq (fun _ => ?_) (fun hh => absurd rfl hh)
  unfold J_law10_awake_8
  refine BR_eq (fun _ => ?_) (fun hh => absurd rfl hh)
  unfold J_law10_awake_7
  refine BR_eq (fun _ => ?_) (fun hh => absurd rfl hh)
  unfold J_law10_awake_6
  refine BR_eq (fun _ => ?_) (fun hh => absurd rfl hh)
  unfold J_law10_awake_5
  refine BR_bool (fun _ => ?_) (fun hh => absurd hh (by decide))
  unfold J_law10_awake_4
  refine BR_eq (fun _ => ?_) (fun hh => absurd rfl hh)
  unfold J_law10_awake_3
  refine BR_eq (fun _ => ?_) (fun hh => absurd rfl hh)
  unfold J_law10_awake_2
  refine BR_eq (fun _ => ?_) (fun hh => absurd rfl hh)
  unfold J_law10_awake_1
  refine BR_eq (fun _ => ?_) (fun hh => absurd rfl hh)
  unfold J_law10_awake_0
  refine BR_eq (fun _ => ?_) (fun hh => absurd rfl hh)
  refine NEW_rule fun u5 g5 z5 n5 _ => ?_
  refine f_IntsN (a := [0, 1, 2]) (b := [0, 1, 2]) (rz.ext (g3.trans (g4.trans g5))) (row_new (vs := ints [0, 1, 2]) n5) (by decide) rfl rfl ?_
  try simp only [TUP_mk, AGG_mk, HD_mk, NL_mk, TYI_mk, TYB_mk, TYP_mk, TYL_mk, TYS_mk, TYM_mk, SO_mk, NX_mk, endK_mk, endK_mk', add_0]
  refine BR_bool (fun _ => ?_) (fun hh => absurd hh (by decide))
  exact h u5 (e0u.trans (g3.trans (g4.trans g5)))
end
end Go.Proofs.Ytkgcbfbbcaajpaa.G
