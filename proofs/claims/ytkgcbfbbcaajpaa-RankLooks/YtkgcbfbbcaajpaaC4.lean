import Derived.Test.YtkgcbfbbcaajpaaC3
/- Lemmas: contracts over the visible heap, and that they are sound; no condition. -/
/- More of the functions' shallow texts, by gen.py. -/
set_option linter.unusedVariables false
set_option maxRecDepth 100000
namespace Go.Proofs.Ytkgcbfbbcaajpaa.G
open Go.V
def an_15 : Nat → Ann := fun b => match b with
  | _ => {}
abbrev rv_15 : List ResultVar := [.cell 4 29, .tmp 5]
abbrev rs_15 : List Nat := [27, 4, 5]
def T_ref10_Sum (W : World) (n1 : Int) (n2 : Int) (x3 : Option Addr) (l4 : Nat) (c5 : Nat) (x6 : Option Addr) (l7 : Nat) (c8 : Nat) (n9 : Int) (R : Ending → Hp → Prop) : Hp → Prop :=
  NEW 25 [(.int .i64 n1), (.int .i64 n2), (.slice x3 l4 c5), (.slice x6 l7 c8)] fun B10 =>
    NEWZ Pg 29 fun B11 =>
      RDI .i64 (Addr.add ⟨B10, 0, none⟩ 0) fun n12 =>
        RDI .i64 (Addr.add ⟨B10, 0, none⟩ 1) fun n13 =>
          RDL (Addr.add ⟨B10, 0, none⟩ 2) fun x14 l15 c16 =>
            RDL (Addr.add ⟨B10, 0, none⟩ 3) fun x17 l18 c19 =>
              RDI .i64 (Addr.add ⟨B10, 0, none⟩ 0) fun n20 =>
                RDI .i64 (Addr.add ⟨B10, 0, none⟩ 1) fun n21 =>
                  RDL (Addr.add ⟨B10, 0, none⟩ 2) fun x22 l23 c24 =>
                    RDL (Addr.add ⟨B10, 0, none⟩ 3) fun x25 l26 c27 =>
                      CALL Pg W F_ref10_Man [(.agg #[(.int .i64 n20), (.int .i64 n21), (.slice x22 l23 c24), (.slice x25 l26 c27)]), (.int .i64 n9)]
                        (fun v28 => TYB v28 fun b30 =>
                          ANDS (RDI .i64 (Addr.add ⟨B10, 0, none⟩ 0) fun n31 =>
                            RDI .i64 (Addr.add ⟨B10, 0, none⟩ 1) fun n32 =>
                              RDL (Addr.add ⟨B10, 0, none⟩ 2) fun x33 l34 c35 =>
                                RDL (Addr.add ⟨B10, 0, none⟩ 3) fun x36 l37 c38 =>
                                  fun _ => ((.agg #[(.int .i64 n31), (.int .i64 n32), (.slice x33 l34 c35), (.slice x36 l37 c38)]) : Value) = (.agg #[(.int .i64 n12), (.int .i64 n13), (.slice x14 l15 c16), (.slice x17 l18 c19)])) <|
                            CALL Pg W F_ref10_check [(.agg #[(.int .i64 n12), (.int .i64 n13), (.slice x14 l15 c16), (.slice x17 l18 c19)]), (.bool b30)]
                              (fun v39 => TYI .i64 v39 fun n41 =>
                                BR (n41 != 0)
                                  (WR (Addr.add ⟨B11, 0, none⟩ 0) (.int .i64 0) <|
                                    WR (Addr.add ⟨B11, 0, none⟩ 1) (.int .i64 0) <|
                                      RDI .i64 (Addr.add ⟨B11, 0, none⟩ 0) fun n42 =>
                                        RDI .i64 (Addr.add ⟨B11, 0, none⟩ 1) fun n43 =>
                                          R (.returned (.tuple #[(.agg #[(.int .i64 n42), (.int .i64 n43)]), (.int .i64 n41)])))
                                  (RDI .i64 (Addr.add ⟨B10, 0, none⟩ 0) fun n44 =>
                                    RDI .i64 (Addr.add ⟨B10, 0, none⟩ 1) fun n45 =>
                                      RDL (Addr.add ⟨B10, 0, none⟩ 2) fun x46 l47 c48 =>
                                        RDL (Addr.add ⟨B10, 0, none⟩ 3) fun x49 l50 c51 =>
                                          RDI .i64 (Addr.add ⟨B10, 0, none⟩ 0) fun n52 =>
                                            RDI .i64 (Addr.add ⟨B10, 0, none⟩ 1) fun n53 =>
                                              RDL (Addr.add ⟨B10, 0, none⟩ 2) fun x54 l55 c56 =>
                                                RDL (Addr.add ⟨B10, 0, none⟩ 3) fun x57 l58 c59 =>
                                                  CALL Pg W F_ref10_least [(.agg #[(.int .i64 n44), (.int .i64 n45), (.slice x46 l47 c48), (.slice x49 l50 c51)]), (.int .i64 n9)]
                                                    (fun v60 => TYL v60 fun x62 l63 c64 =>
                                                      ANDS (RDI .i64 (Addr.add ⟨B10, 0, none⟩ 0) fun n65 =>
                                                        RDI .i64 (Addr.add ⟨B10, 0, none⟩ 1) fun n66 =>
                                                          RDL (Addr.add ⟨B10, 0, none⟩ 2) fun x67 l68 c69 =>
                                                            RDL (Addr.add ⟨B10, 0, none⟩ 3) fun x70 l71 c72 =>
                                                              fun _ => ((.agg #[(.int .i64 n65), (.int .i64 n66), (.slice x67 l68 c69), (.slice x70 l71 c72)]) : Value) = (.agg #[(.int .i64 n52), (.int .i64 n53), (.slice x54 l55 c56), (.slice x57 l58 c59)])) <|
                                                        IXS x62 l63 0 1 fun a73 =>
                                                          RDI .i64 a73 fun n74 =>
                                                            CALL Pg W F_ref10_most [(.agg #[(.int .i64 n52), (.int .i64 n53), (.slice x54 l55 c56), (.slice x57 l58 c59)]), (.int .i64 n9)]
                                                              (fun v75 => TYL v75 fun x77 l78 c79 =>
                                                                ANDS (RDI .i64 a73 fun n80 =>
                                                                  fun _ => ((.int .i64 n80) : Value) = (.int .i64 n74)) <|
                                                                  IXS x77 l78 0 1 fun a81 =>
                                                                    RDI .i64 a81 fun n82 =>
                                                                      WR (Addr.add ⟨B11, 0, none⟩ 0) (.int .i64 n74) <|
                                                                        WR (Addr.add ⟨B11, 0, none⟩ 1) (.int .i64 n82) <|
                                                                          RDI .i64 (Addr.add ⟨B11, 0, none⟩ 0) fun n83 =>
                                                                            RDI .i64 (Addr.add ⟨B11, 0, none⟩ 1) fun n84 =>
                                                                              R (.returned (.tuple #[(.agg #[(.int .i64 n83), (.int .i64 n84)]), (.int .i64 0)])))
                                                                (fun e76 => R (.panicked e76)))
                                                      (fun e61 => R (.panicked e61))))
                                (fun e40 => R (.panicked e40)))
                          (fun e29 => R (.panicked e29))
theorem T_ref10_Sum_eq (W : World) (n1 : Int) (n2 : Int) (x3 : Option Addr) (l4 : Nat) (c5 : Nat) (x6 : Option Addr) (l7 : Nat) (c8 : Nat) (n9 : Int) (R : Ending → Hp → Prop) : vfun Pg W an_15 Try.f15 [(.agg #[(.int .i64 n1), (.int .i64 n2), (.slice x3 l4 c5), (.slice x6 l7 c8)]), (.int .i64 n9)] R = T_ref10_Sum W n1 n2 x3 l4 c5 x6 l7 c8 n9 R := by kernel_rfl
theorem does_ref10_Sum (W : World) (n1 : Int) (n2 : Int) (x3 : Option Addr) (l4 : Nat) (c5 : Nat) (x6 : Option Addr) (l7 : Nat) (c8 : Nat) (n9 : Int) (R : Ending → Hp → Prop) (s : Hp) (h : T_ref10_Sum W n1 n2 x3 l4 c5 x6 l7 c8 n9 R s) : Does Pg W F_ref10_Sum #[(.agg #[(.int .i64 n1), (.int .i64 n2), (.slice x3 l4 c5), (.slice x6 l7 c8)]), (.int .i64 n9)] s R :=
  does_of_vfun Pg W an_15 Try.func15 rfl (by kernel_rfl) (by rw [T_ref10_Sum_eq]; exact h)
def an_17 : Nat → Ann := fun b => match b with
  | _ => {}
abbrev rv_17 : List ResultVar := [.tmp 6, .tmp 7]
abbrev rs_17 : List Nat := [30, 6, 7]
def J_ref10_Before_0 (W : World) (R : Ending → Hp → Prop) (n58 : Int) (n59 : Int) (x60 : Option Addr) (l61 : Nat) (c62 : Nat) (x63 : Option Addr) (l64 : Nat) (c65 : Nat) (b83 : Bool) (B11 : Nat) (n9 : Int) (n10 : Int) : Hp → Prop :=
  CALL Pg W F_ref10_check [(.agg #[(.int .i64 n58), (.int .i64 n59), (.slice x60 l61 c62), (.slice x63 l64 c65)]), (.bool b83)]
    (fun v84 => TYI .i64 v84 fun n86 =>
      BR (n86 != 0)
        (R (.returned (.tuple #[(.int .i64 0), (.int .i64 n86)])))
        (RDI .i64 (Addr.add ⟨B11, 0, none⟩ 0) fun n87 =>
          RDI .i64 (Addr.add ⟨B11, 0, none⟩ 1) fun n88 =>
            RDL (Addr.add ⟨B11, 0, none⟩ 2) fun x89 l90 c91 =>
              RDL (Addr.add ⟨B11, 0, none⟩ 3) fun x92 l93 c94 =>
                CALL Pg W F_ref10_surely [(.agg #[(.int .i64 n87), (.int .i64 n88), (.slice x89 l90 c91), (.slice x92 l93 c94)]), (.int .i64 n9), (.int .i64 n10)]
                  (fun v95 => TYB v95 fun b97 =>
                    BR b97
                      (R (.returned (.tuple #[(.int .i64 2), (.int .i64 0)])))
                      (RDI .i64 (Addr.add ⟨B11, 0, none⟩ 0) fun n98 =>
                        RDI .i64 (Addr.add ⟨B11, 0, none⟩ 1) fun n99 =>
                          RDL (Addr.add ⟨B11, 0, none⟩ 2) fun x100 l101 c102 =>
                            RDL (Addr.add ⟨B11, 0, none⟩ 3) fun x103 l104 c105 =>
                              CALL Pg W F_ref10_can [(.agg #[(.int .i64 n98), (.int .i64 n99), (.slice x100 l101 c102), (.slice x103 l104 c105)]), (.int .i64 n9), (.int .i64 n10)]
                                (fun v106 => TYB v106 fun b108 =>
                                  BR b108
                                    (R (.returned (.tuple #[(.int .i64 1), (.int .i64 0)])))
                                    (R (.returned (.tuple #[(.int .i64 0), (.int .i64 0)]))))
                                  (fun e107 => R (.panicked e107))))
                    (fun e96 => R (.panicked e96))))
      (fun e85 => R (.panicked e85))
def T_ref10_Before (W : World) (n1 : Int) (n2 : Int) (x3 : Option Addr) (l4 : Nat) (c5 : Nat) (x6 : Option Addr) (l7 : Nat) (c8 : Nat) (n9 : Int) (n10 : Int) (R : Ending → Hp → Prop) : Hp → Prop :=
  NEW 25 [(.int .i64 n1), (.int .i64 n2), (.slice x3 l4 c5), (.slice x6 l7 c8)] fun B11 =>
    RDI .i64 (Addr.add ⟨B11, 0, none⟩ 0) fun n12 =>
      RDI .i64 (Addr.add ⟨B11, 0, none⟩ 1) fun n13 =>
        RDL (Addr.add ⟨B11, 0, none⟩ 2) fun x14 l15 c16 =>
          RDL (Addr.add ⟨B11, 0, none⟩ 3) fun x17 l18 c19 =>
            RDI .i64 (Addr.add ⟨B11, 0, none⟩ 0) fun n20 =>
              RDI .i64 (Addr.add ⟨B11, 0, none⟩ 1) fun n21 =>
                RDL (Addr.add ⟨B11, 0, none⟩ 2) fun x22 l23 c24 =>
                  RDL (Addr.add ⟨B11, 0, none⟩ 3) fun x25 l26 c27 =>
                    CALL Pg W F_ref10_Man [(.agg #[(.int .i64 n20), (.int .i64 n21), (.slice x22 l23 c24), (.slice x25 l26 c27)]), (.int .i64 n9)]
                      (fun v28 => TYB v28 fun b30 =>
                        ANDS (RDI .i64 (Addr.add ⟨B11, 0, none⟩ 0) fun n31 =>
                          RDI .i64 (Addr.add ⟨B11, 0, none⟩ 1) fun n32 =>
                            RDL (Addr.add ⟨B11, 0, none⟩ 2) fun x33 l34 c35 =>
                              RDL (Addr.add ⟨B11, 0, none⟩ 3) fun x36 l37 c38 =>
                                fun _ => ((.agg #[(.int .i64 n31), (.int .i64 n32), (.slice x33 l34 c35), (.slice x36 l37 c38)]) : Value) = (.agg #[(.int .i64 n12), (.int .i64 n13), (.slice x14 l15 c16), (.slice x17 l18 c19)])) <|
                          BR b30
                            (RDI .i64 (Addr.add ⟨B11, 0, none⟩ 0) fun n39 =>
                              RDI .i64 (Addr.add ⟨B11, 0, none⟩ 1) fun n40 =>
                                RDL (Addr.add ⟨B11, 0, none⟩ 2) fun x41 l42 c43 =>
                                  RDL (Addr.add ⟨B11, 0, none⟩ 3) fun x44 l45 c46 =>
                                    CALL Pg W F_ref10_Man [(.agg #[(.int .i64 n39), (.int .i64 n40), (.slice x41 l42 c43), (.slice x44 l45 c46)]), (.int .i64 n10)]
                                      (fun v47 => TYB v47 fun b49 =>
                                        ANDS (RDI .i64 (Addr.add ⟨B11, 0, none⟩ 0) fun n50 =>
                                          RDI .i64 (Addr.add ⟨B11, 0, none⟩ 1) fun n51 =>
                                            RDL (Addr.add ⟨B11, 0, none⟩ 2) fun x52 l53 c54 =>
                                              RDL (Addr.add ⟨B11, 0, none⟩ 3) fun x55 l56 c57 =>
                                                fun _ => ((.agg #[(.int .i64 n50), (.int .i64 n51), (.slice x52 l53 c54), (.slice x55 l56 c57)]) : Value) = (.agg #[(.int .i64 n12), (.int .i64 n13), (.slice x14 l15 c16), (.slice x17 l18 c19)])) <|
                                          J_ref10_Before_0 W R n12 n13 x14 l15 c16 x17 l18 c19 b49 B11 n9 n10)
                                        (fun e48 => R (.panicked e48)))
                            (J_ref10_Before_0 W R n12 n13 x14 l15 c16 x17 l18 c19 false B11 n9 n10))
                        (fun e29 => R (.panicked e29))
theorem T_ref10_Before_eq (W : World) (n1 : Int) (n2 : Int) (x3 : Option Addr) (l4 : Nat) (c5 : Nat) (x6 : Option Addr) (l7 : Nat) (c8 : Nat) (n9 : Int) (n10 : Int) (R : Ending → Hp → Prop) : vfun Pg W an_17 Try.f17 [(.agg #[(.int .i64 n1), (.int .i64 n2), (.slice x3 l4 c5), (.slice x6 l7 c8)]), (.int .i64 n9), (.int .i64 n10)] R = T_ref10_Before W n1 n2 x3 l4 c5 x6 l7 c8 n9 n10 R := by kernel_rfl
theorem does_ref10_Before (W : World) (n1 : Int) (n2 : Int) (x3 : Option Addr) (l4 : Nat) (c5 : Nat) (x6 : Option Addr) (l7 : Nat) (c8 : Nat) (n9 : Int) (n10 : Int) (R : Ending → Hp → Prop) (s : Hp) (h : T_ref10_Before W n1 n2 x3 l4 c5 x6 l7 c8 n9 n10 R s) : Does Pg W F_ref10_Before #[(.agg #[(.int .i64 n1), (.int .i64 n2), (.slice x3 l4 c5), (.slice x6 l7 c8)]), (.int .i64 n9), (.int .i64 n10)] s R :=
  does_of_vfun Pg W an_17 Try.func17 rfl (by kernel_rfl) (by rw [T_ref10_Before_eq]; exact h)
def an_19 : Nat → Ann := fun b => match b with
  | _ => {}
abbrev rv_19 : List ResultVar := [.cell 4 29, .tmp 5]
abbrev rs_19 : List Nat := [19, 4, 5]
def T_ref10_Place (W : World) (n1 : Int) (n2 : Int) (x3 : Option Addr) (l4 : Nat) (c5 : Nat) (x6 : Option Addr) (l7 : Nat) (c8 : Nat) (n9 : Int) (R : Ending → Hp → Prop) : Hp → Prop :=
  NEW 25 [(.int .i64 n1), (.int .i64 n2), (.slice x3 l4 c5), (.slice x6 l7 c8)] fun B10 =>
    NEWZ Pg 29 fun B11 =>
      RDI .i64 (Addr.add ⟨B10, 0, none⟩ 0) fun n12 =>
        RDI .i64 (Addr.add ⟨B10, 0, none⟩ 1) fun n13 =>
          RDL (Addr.add ⟨B10, 0, none⟩ 2) fun x14 l15 c16 =>
            RDL (Addr.add ⟨B10, 0, none⟩ 3) fun x17 l18 c19 =>
              RDI .i64 (Addr.add ⟨B10, 0, none⟩ 0) fun n20 =>
                RDI .i64 (Addr.add ⟨B10, 0, none⟩ 1) fun n21 =>
                  RDL (Addr.add ⟨B10, 0, none⟩ 2) fun x22 l23 c24 =>
                    RDL (Addr.add ⟨B10, 0, none⟩ 3) fun x25 l26 c27 =>
                      CALL Pg W F_ref10_Man [(.agg #[(.int .i64 n20), (.int .i64 n21), (.slice x22 l23 c24), (.slice x25 l26 c27)]), (.int .i64 n9)]
                        (fun v28 => TYB v28 fun b30 =>
                          ANDS (RDI .i64 (Addr.add ⟨B10, 0, none⟩ 0) fun n31 =>
                            RDI .i64 (Addr.add ⟨B10, 0, none⟩ 1) fun n32 =>
                              RDL (Addr.add ⟨B10, 0, none⟩ 2) fun x33 l34 c35 =>
                                RDL (Addr.add ⟨B10, 0, none⟩ 3) fun x36 l37 c38 =>
                                  fun _ => ((.agg #[(.int .i64 n31), (.int .i64 n32), (.slice x33 l34 c35), (.slice x36 l37 c38)]) : Value) = (.agg #[(.int .i64 n12), (.int .i64 n13), (.slice x14 l15 c16), (.slice x17 l18 c19)])) <|
                            CALL Pg W F_ref10_check [(.agg #[(.int .i64 n12), (.int .i64 n13), (.slice x14 l15 c16), (.slice x17 l18 c19)]), (.bool b30)]
                              (fun v39 => TYI .i64 v39 fun n41 =>
                                BR (n41 != 0)
                                  (WR (Addr.add ⟨B11, 0, none⟩ 0) (.int .i64 0) <|
                                    WR (Addr.add ⟨B11, 0, none⟩ 1) (.int .i64 0) <|
                                      RDI .i64 (Addr.add ⟨B11, 0, none⟩ 0) fun n42 =>
                                        RDI .i64 (Addr.add ⟨B11, 0, none⟩ 1) fun n43 =>
                                          R (.returned (.tuple #[(.agg #[(.int .i64 n42), (.int .i64 n43)]), (.int .i64 n41)])))
                                  (RDI .i64 (Addr.add ⟨B10, 0, none⟩ 0) fun n44 =>
                                    RDI .i64 (Addr.add ⟨B10, 0, none⟩ 1) fun n45 =>
                                      RDL (Addr.add ⟨B10, 0, none⟩ 2) fun x46 l47 c48 =>
                                        RDL (Addr.add ⟨B10, 0, none⟩ 3) fun x49 l50 c51 =>
                                          CALL Pg W F_ref10_place [(.agg #[(.int .i64 n44), (.int .i64 n45), (.slice x46 l47 c48), (.slice x49 l50 c51)]), (.int .i64 n9)]
                                            (fun v52 => AGG v52 fun q54 => HD q54 fun v55 r56 => TYI .i64 v55 fun n57 =>
                                              HD r56 fun v58 r59 => TYI .i64 v58 fun n60 =>
                                                NL r59 <|
                                                  WR (Addr.add ⟨B11, 0, none⟩ 0) (.int .i64 n57) <|
                                                    WR (Addr.add ⟨B11, 0, none⟩ 1) (.int .i64 n60) <|
                                                      RDI .i64 (Addr.add ⟨B11, 0, none⟩ 0) fun n61 =>
                                                        RDI .i64 (Addr.add ⟨B11, 0, none⟩ 1) fun n62 =>
                                                          R (.returned (.tuple #[(.agg #[(.int .i64 n61), (.int .i64 n62)]), (.int .i64 0)])))
                                              (fun e53 => R (.panicked e53))))
                                (fun e40 => R (.panicked e40)))
                          (fun e29 => R (.panicked e29))
theorem T_ref10_Place_eq (W : World) (n1 : Int) (n2 : Int) (x3 : Option Addr) (l4 : Nat) (c5 : Nat) (x6 : Option Addr) (l7 : Nat) (c8 : Nat) (n9 : Int) (R : Ending → Hp → Prop) : vfun Pg W an_19 Try.f19 [(.agg #[(.int .i64 n1), (.int .i64 n2), (.slice x3 l4 c5), (.slice x6 l7 c8)]), (.int .i64 n9)] R = T_ref10_Place W n1 n2 x3 l4 c5 x6 l7 c8 n9 R := by kernel_rfl
theorem does_ref10_Place (W : World) (n1 : Int) (n2 : Int) (x3 : Option Addr) (l4 : Nat) (c5 : Nat) (x6 : Option Addr) (l7 : Nat) (c8 : Nat) (n9 : Int) (R : Ending → Hp → Prop) (s : Hp) (h : T_ref10_Place W n1 n2 x3 l4 c5 x6 l7 c8 n9 R s) : Does Pg W F_ref10_Place #[(.agg #[(.int .i64 n1), (.int .i64 n2), (.slice x3 l4 c5), (.slice x6 l7 c8)]), (.int .i64 n9)] s R :=
  does_of_vfun Pg W an_19 Try.func19 rfl (by kernel_rfl) (by rw [T_ref10_Place_eq]; exact h)
def an_21 : Nat → Ann := fun b => match b with
  | 0 => { ms := [5, 6, 7], ks := [.i .i64, .i .i64, .i .i64], us := [1, 2, 3, 4, 37], rt := false, ex := [] }
  | _ => {}
abbrev rv_21 : List ResultVar := [.tmp 2, .tmp 3, .tmp 4]
abbrev rs_21 : List Nat := [37, 2, 3, 4]
def L_ref10_Winners_0 (W : World) (R : Ending → Hp → Prop) (za0 : Addr) (n21 : Int) (n22 : Int) (n23 : Int) : Hp → Prop :=
  LOOPN [.i .i64, .i .i64, .i .i64] (fun ys next s => ∀ j : Tm, vc Pg W 37 rs_21 an_21 false (sub (bodyOf Try.f21) [1, 1, 1, 0, 1, 0, 0]) 0 (KLoop [5, 6, 7] [1, 2, 3, 4, 37] [(.pointer (some za0)), (.int .i64 0), (.int .i64 0), (.int .i64 0), (.tuple #[])] next (KBlk 0 (KS Pg W 37 rs_21 an_21 false (sub (bodyOf Try.f21) [1, 1, 1, 1]) 0 (fin Pg W 37 rv_21 R)))) (known [5, 6, 7] ys (known [1, 2, 3, 4, 37] [(.pointer (some za0)), (.int .i64 0), (.int .i64 0), (.int .i64 0), (.tuple #[])] j)) s) [(.int .i64 n21), (.int .i64 n22), (.int .i64 n23)]
def J_ref10_Winners_0 (W : World) (R : Ending → Hp → Prop) (za0 : Addr) (nx0 : List Value → Hp → Prop) (n52 : Int) (n53 : Int) (n23 : Int) : Hp → Prop :=
  NX [(.pointer (some za0)), (.int .i64 0), (.int .i64 0), (.int .i64 0), (.tuple #[])] [(.pointer (some za0)), (.int .i64 0), (.int .i64 0), (.int .i64 0), (.tuple #[])] (nx0 [(.int .i64 n52), (.int .i64 n53), (.int .i64 (IntKind.wrap .i64 (n23 + 1)))])
def J_ref10_Winners_1 (W : World) (R : Ending → Hp → Prop) (B42 : Nat) (n23 : Int) (za0 : Addr) (nx0 : List Value → Hp → Prop) (n47 : Int) (n22 : Int) : Hp → Prop :=
  RDI .i64 (Addr.add ⟨B42, 0, none⟩ 0) fun n48 =>
    BR (n48 == 1)
      (CALL Pg W F_ref10_power [(.int .i64 n23)]
        (fun v49 => TYI .i64 v49 fun n51 =>
          J_ref10_Winners_0 W R za0 nx0 n47 (IntKind.wrap .i64 (n22 + n51)) n23)
          (fun e50 => R (.panicked e50)))
      (J_ref10_Winners_0 W R za0 nx0 n47 n22 n23)
def B_ref10_Winners_0 (W : World) (R : Ending → Hp → Prop) (za0 : Addr) (n21 : Int) (n22 : Int) (n23 : Int) (nx0 : List Value → Hp → Prop) : Hp → Prop :=
  RDI .i64 (Addr.add za0 0) fun n24 =>
    BR (decide (n23 < n24))
      (RDI .i64 (Addr.add za0 0) fun n25 =>
        RDI .i64 (Addr.add za0 1) fun n26 =>
          RDL (Addr.add za0 2) fun x27 l28 c29 =>
            RDL (Addr.add za0 3) fun x30 l31 c32 =>
              CALL Pg W F_ref10_place [(.agg #[(.int .i64 n25), (.int .i64 n26), (.slice x27 l28 c29), (.slice x30 l31 c32)]), (.int .i64 n23)]
                (fun v33 => AGG v33 fun q35 => HD q35 fun v36 r37 => TYI .i64 v36 fun n38 =>
                  HD r37 fun v39 r40 => TYI .i64 v39 fun n41 =>
                    NL r40 <|
                      NEWZ Pg 29 fun B42 =>
                        WR (Addr.add ⟨B42, 0, none⟩ 0) (.int .i64 n38) <|
                          WR (Addr.add ⟨B42, 0, none⟩ 1) (.int .i64 n41) <|
                            RDI .i64 (Addr.add ⟨B42, 0, none⟩ 1) fun n43 =>
                              BR (n43 == 1)
                                (CALL Pg W F_ref10_power [(.int .i64 n23)]
                                  (fun v44 => TYI .i64 v44 fun n46 =>
                                    J_ref10_Winners_1 W R B42 n23 za0 nx0 (IntKind.wrap .i64 (n21 + n46)) n22)
                                    (fun e45 => R (.panicked e45)))
                                (J_ref10_Winners_1 W R B42 n23 za0 nx0 n21 n22))
                  (fun e34 => R (.panicked e34)))
      (R (.returned (.tuple #[(.int .i64 n21), (.int .i64 n22), (.int .i64 0)])))
theorem B_ref10_Winners_0_eq (W : World) (R : Ending → Hp → Prop) (za0 : Addr) (n21 : Int) (n22 : Int) (n23 : Int) (nx0 : List Value → Hp → Prop) (j : Tm) : vc Pg W 37 rs_21 an_21 false (sub (bodyOf Try.f21) [1, 1, 1, 0, 1, 0, 0]) 0 (KLoop [5, 6, 7] [1, 2, 3, 4, 37] [(.pointer (some za0)), (.int .i64 0), (.int .i64 0), (.int .i64 0), (.tuple #[])] nx0 (KBlk 0 (KS Pg W 37 rs_21 an_21 false (sub (bodyOf Try.f21) [1, 1, 1, 1]) 0 (fin Pg W 37 rv_21 R)))) (known [5, 6, 7] [(.int .i64 n21), (.int .i64 n22), (.int .i64 n23)] (known [1, 2, 3, 4, 37] [(.pointer (some za0)), (.int .i64 0), (.int .i64 0), (.int .i64 0), (.tuple #[])] j)) = B_ref10_Winners_0 W R za0 n21 n22 n23 nx0 := by kernel_rfl
def N_ref10_Winners_0 (I : Int → Int → Int → Hp → Prop) (μ : Int → Int → Int → Hp → Nat) (n210 : Int) (n220 : Int) (n230 : Int) (s : Hp) (vs : List Value) : Hp → Prop := fun s' => ∃ n21 n22 n23, vs = [(.int .i64 n21), (.int .i64 n22), (.int .i64 n23)] ∧ I n21 n22 n23 s' ∧ μ n21 n22 n23 s' < μ n210 n220 n230 s
theorem L_ref10_Winners_0_rule (W : World) (R : Ending → Hp → Prop) (za0 : Addr) (I : Int → Int → Int → Hp → Prop) (μ : Int → Int → Int → Hp → Nat) (n210 : Int) (n220 : Int) (n230 : Int) (s : Hp) (h0 : I n210 n220 n230 s)
    (hr : ∀ (n21 : Int) (n22 : Int) (n23 : Int) (s : Hp), I n21 n22 n23 s → B_ref10_Winners_0 W R za0 n21 n22 n23 (fun vs => N_ref10_Winners_0 I μ n21 n22 n23 s vs) s) : L_ref10_Winners_0 W R za0 n210 n220 n230 s := by
  refine ⟨fun vs s => ∃ n21 n22 n23, vs = [(.int .i64 n21), (.int .i64 n22), (.int .i64 n23)] ∧ I n21 n22 n23 s, fun vs s => (match vs with | [.int _ n21, .int _ n22, .int _ n23] => μ n21 n22 n23 s | _ => 0), ⟨⟨⟨_, rfl⟩, ⟨⟨_, rfl⟩, ⟨⟨_, rfl⟩, trivial⟩⟩⟩, ⟨_, _, _, rfl, h0⟩⟩, ?_⟩
  intro n21 n22 n23 s hI j
  obtain ⟨n21', n22', n23', hy, hI⟩ := hI
  have hI' : I n21 n22 n23 s := by cases hy; exact hI
  have hh := hr n21 n22 n23 s hI'
  rw [← B_ref10_Winners_0_eq W R za0 n21 n22 n23 _ j] at hh
  refine vc_mono ?_ _ _ hh
  exact KLoop_mono (fun vs s' h => by obtain ⟨n211, n221, n231, rfl, h1, h2⟩ := h; exact ⟨⟨⟨_, rfl⟩, ⟨⟨_, rfl⟩, ⟨⟨_, rfl⟩, trivial⟩⟩⟩, ⟨_, _, _, rfl, h1⟩, h2⟩)
def T_ref10_Winners (W : World) (n1 : Int) (n2 : Int) (x3 : Option Addr) (l4 : Nat) (c5 : Nat) (x6 : Option Addr) (l7 : Nat) (c8 : Nat) (R : Ending → Hp → Prop) : Hp → Prop :=
  NEW 25 [(.int .i64 n1), (.int .i64 n2), (.slice x3 l4 c5), (.slice x6 l7 c8)] fun B9 =>
    RDI .i64 (Addr.add ⟨B9, 0, none⟩ 0) fun n10 =>
      RDI .i64 (Addr.add ⟨B9, 0, none⟩ 1) fun n11 =>
        RDL (Addr.add ⟨B9, 0, none⟩ 2) fun x12 l13 c14 =>
          RDL (Addr.add ⟨B9, 0, none⟩ 3) fun x15 l16 c17 =>
            CALL Pg W F_ref10_Table [(.agg #[(.int .i64 n10), (.int .i64 n11), (.slice x12 l13 c14), (.slice x15 l16 c17)])]
              (fun v18 => TYB v18 fun b20 =>
                BR (!b20)
                  (R (.returned (.tuple #[(.int .i64 0), (.int .i64 0), (.int .i64 1)])))
                  (L_ref10_Winners_0 W R ⟨B9, 0, none⟩ 0 0 0))
                (fun e19 => R (.panicked e19))
theorem T_ref10_Winners_eq (W : World) (n1 : Int) (n2 : Int) (x3 : Option Addr) (l4 : Nat) (c5 : Nat) (x6 : Option Addr) (l7 : Nat) (c8 : Nat) (R : Ending → Hp → Prop) : vfun Pg W an_21 Try.f21 [(.agg #[(.int .i64 n1), (.int .i64 n2), (.slice x3 l4 c5), (.slice x6 l7 c8)])] R = T_ref10_Winners W n1 n2 x3 l4 c5 x6 l7 c8 R := by kernel_rfl
theorem does_ref10_Winners (W : World) (n1 : Int) (n2 : Int) (x3 : Option Addr) (l4 : Nat) (c5 : Nat) (x6 : Option Addr) (l7 : Nat) (c8 : Nat) (R : Ending → Hp → Prop) (s : Hp) (h : T_ref10_Winners W n1 n2 x3 l4 c5 x6 l7 c8 R s) : Does Pg W F_ref10_Winners #[(.agg #[(.int .i64 n1), (.int .i64 n2), (.slice x3 l4 c5), (.slice x6 l7 c8)])] s R :=
  does_of_vfun Pg W an_21 Try.func21 rfl (by kernel_rfl) (by rw [T_ref10_Winners_eq]; exact h)
def an_23 : Nat → Ann := fun b => match b with
  | 0 => { ms := [9, 10], ks := [.b, .i .i64], us := [1, 2, 3, 6, 7, 71], rt := false, ex := [] }
  | _ => {}
abbrev rv_23 : List ResultVar := [.tmp 6, .tmp 7]
abbrev rs_23 : List Nat := [71, 6, 7]
def L_ref10_Equal_0 (W : World) (R : Ending → Hp → Prop) (zn0 : Int) (zn1 : Int) (za2 : Addr) (b97 : Bool) (n98 : Int) : Hp → Prop :=
  LOOPN [.b, .i .i64] (fun ys next s => ∀ j : Tm, vc Pg W 71 rs_23 an_23 false (sub (bodyOf Try.f23) [1, 1, 1, 1, 0, 1, 0, 0]) 0 (KLoop [9, 10] [1, 2, 3, 6, 7, 71] [(.int .i64 zn0), (.int .i64 zn1), (.pointer (some za2)), (.bool false), (.int .i64 0), (.tuple #[])] next (KBlk 0 (KS Pg W 71 rs_23 an_23 false (sub (bodyOf Try.f23) [1, 1, 1, 1, 1]) 0 (fin Pg W 71 rv_23 R)))) (known [9, 10] ys (known [1, 2, 3, 6, 7, 71] [(.int .i64 zn0), (.int .i64 zn1), (.pointer (some za2)), (.bool false), (.int .i64 0), (.tuple #[])] j)) s) [(.bool b97), (.int .i64 n98)]
def J_ref10_Equal_0 (W : World) (R : Ending → Hp → Prop) (n58 : Int) (n59 : Int) (x60 : Option Addr) (l61 : Nat) (c62 : Nat) (x63 : Option Addr) (l64 : Nat) (c65 : Nat) (b83 : Bool) (B11 : Nat) (n9 : Int) (n10 : Int) : Hp → Prop :=
  CALL Pg W F_ref10_check [(.agg #[(.int .i64 n58), (.int .i64 n59), (.slice x60 l61 c62), (.slice x63 l64 c65)]), (.bool b83)]
    (fun v84 => TYI .i64 v84 fun n86 =>
      BR (n86 != 0)
        (R (.returned (.tuple #[(.bool false), (.int .i64 n86)])))
        (RDL (Addr.add ⟨B11, 0, none⟩ 2) fun x87 l88 c89 =>
          IXS x87 l88 n9 1 fun a90 =>
            RDI .i64 a90 fun n91 =>
              RDL (Addr.add ⟨B11, 0, none⟩ 2) fun x92 l93 c94 =>
                IXS x92 l93 n10 1 fun a95 =>
                  RDI .i64 a95 fun n96 =>
                    L_ref10_Equal_0 W R n9 n10 ⟨B11, 0, none⟩ (n91 == n96) 0))
      (fun e85 => R (.panicked e85))
def J_ref10_Equal_1 (W : World) (R : Ending → Hp → Prop) (zn0 : Int) (zn1 : Int) (za2 : Addr) (nx0 : List Value → Hp → Prop) (b186 : Bool) (n98 : Int) : Hp → Prop :=
  NX [(.int .i64 zn0), (.int .i64 zn1), (.pointer (some za2)), (.bool false), (.int .i64 0), (.tuple #[])] [(.int .i64 zn0), (.int .i64 zn1), (.pointer (some za2)), (.bool false), (.int .i64 0), (.tuple #[])] (nx0 [(.bool b186), (.int .i64 (IntKind.wrap .i64 (n98 + 1)))])
def J_ref10_Equal_2 (W : World) (R : Ending → Hp → Prop) (b97 : Bool) (p176 : Option Addr) (p177 : Option Addr) (zn0 : Int) (zn1 : Int) (za2 : Addr) (nx0 : List Value → Hp → Prop) (n98 : Int) : Hp → Prop :=
  BR b97
    (SO p176 fun a178 =>
      RDI .i64 (Addr.add a178 0) fun n179 =>
        SO p177 fun a180 =>
          RDI .i64 (Addr.add a180 0) fun n181 =>
            SO p176 fun a182 =>
              RDI .i64 (Addr.add a182 1) fun n183 =>
                SO p177 fun a184 =>
                  RDI .i64 (Addr.add a184 1) fun n185 =>
                    J_ref10_Equal_1 W R zn0 zn1 za2 nx0 (decide ((if n181 > n179 then n181 else n179) ≤ (if n185 < n183 then n185 else n183))) n98)
    (J_ref10_Equal_1 W R zn0 zn1 za2 nx0 false n98)
def B_ref10_Equal_0 (W : World) (R : Ending → Hp → Prop) (zn0 : Int) (zn1 : Int) (za2 : Addr) (b97 : Bool) (n98 : Int) (nx0 : List Value → Hp → Prop) : Hp → Prop :=
  RDI .i64 (Addr.add za2 1) fun n99 =>
    BR (decide (n98 < n99))
      (RDI .i64 (Addr.add za2 0) fun n100 =>
        RDI .i64 (Addr.add za2 1) fun n101 =>
          RDL (Addr.add za2 2) fun x102 l103 c104 =>
            RDL (Addr.add za2 3) fun x105 l106 c107 =>
              RDI .i64 (Addr.add za2 0) fun n108 =>
                RDI .i64 (Addr.add za2 1) fun n109 =>
                  RDL (Addr.add za2 2) fun x110 l111 c112 =>
                    RDL (Addr.add za2 3) fun x113 l114 c115 =>
                      CONJ [
                        CALL Pg W F_ref10_Points [(.agg #[(.int .i64 n100), (.int .i64 n101), (.slice x102 l103 c104), (.slice x105 l106 c107)]), (.int .i64 zn0), (.int .i64 n98)]
                          (fun v116 => AGG v116 fun q118 => HD q118 fun v119 r120 => TYI .i64 v119 fun n121 =>
                            HD r120 fun v122 r123 => TYI .i64 v122 fun n124 =>
                              NL r123 <|
                                ANDS (RDI .i64 (Addr.add za2 0) fun n125 =>
                                  RDI .i64 (Addr.add za2 1) fun n126 =>
                                    RDL (Addr.add za2 2) fun x127 l128 c129 =>
                                      RDL (Addr.add za2 3) fun x130 l131 c132 =>
                                        fun _ => ((.agg #[(.int .i64 n125), (.int .i64 n126), (.slice x127 l128 c129), (.slice x130 l131 c132)]) : Value) = (.agg #[(.int .i64 n108), (.int .i64 n109), (.slice x110 l111 c112), (.slice x113 l114 c115)])) <|
                                  CONJ [
                                    CALL Pg W F_ref10_Points [(.agg #[(.int .i64 n108), (.int .i64 n109), (.slice x110 l111 c112), (.slice x113 l114 c115)]), (.int .i64 zn1), (.int .i64 n98)]
                                      (fun v133 => AGG v133 fun q135 => HD q135 fun v136 r137 => TYI .i64 v136 fun n138 =>
                                        HD r137 fun v139 r140 => TYI .i64 v139 fun n141 =>
                                          NL r140 <|
                                            CONJ [
                                              NEWZ Pg 29 fun B142 =>
                                                ANDS (RDI .i64 (Addr.add za2 0) fun n143 =>
                                                  RDI .i64 (Addr.add za2 1) fun n144 =>
                                                    RDL (Addr.add za2 2) fun x145 l146 c147 =>
                                                      RDL (Addr.add za2 3) fun x148 l149 c150 =>
                                                        fun _ => ((.agg #[(.int .i64 n143), (.int .i64 n144), (.slice x145 l146 c147), (.slice x148 l149 c150)]) : Value) = (.agg #[(.int .i64 n108), (.int .i64 n109), (.slice x110 l111 c112), (.slice x113 l114 c115)])) <|
                                                  ANDS (RDI .i64 (Addr.add za2 0) fun n151 =>
                                                    RDI .i64 (Addr.add za2 1) fun n152 =>
                                                      RDL (Addr.add za2 2) fun x153 l154 c155 =>
                                                        RDL (Addr.add za2 3) fun x156 l157 c158 =>
                                                          fun _ => ((.agg #[(.int .i64 n151), (.int .i64 n152), (.slice x153 l154 c155), (.slice x156 l157 c158)]) : Value) = (.agg #[(.int .i64 n100), (.int .i64 n101), (.slice x102 l103 c104), (.slice x105 l106 c107)])) <|
                                                    NEWZ Pg 29 fun B159 =>
                                                      ANDS (RDI .i64 (Addr.add za2 0) fun n160 =>
                                                        RDI .i64 (Addr.add za2 1) fun n161 =>
                                                          RDL (Addr.add za2 2) fun x162 l163 c164 =>
                                                            RDL (Addr.add za2 3) fun x165 l166 c167 =>
                                                              fun _ => ((.agg #[(.int .i64 n160), (.int .i64 n161), (.slice x162 l163 c164), (.slice x165 l166 c167)]) : Value) = (.agg #[(.int .i64 n108), (.int .i64 n109), (.slice x110 l111 c112), (.slice x113 l114 c115)])) <|
                                                        ANDS (RDI .i64 (Addr.add za2 0) fun n168 =>
                                                          RDI .i64 (Addr.add za2 1) fun n169 =>
                                                            RDL (Addr.add za2 2) fun x170 l171 c172 =>
                                                              RDL (Addr.add za2 3) fun x173 l174 c175 =>
                                                                fun _ => ((.agg #[(.int .i64 n168), (.int .i64 n169), (.slice x170 l171 c172), (.slice x173 l174 c175)]) : Value) = (.agg #[(.int .i64 n100), (.int .i64 n101), (.slice x102 l103 c104), (.slice x105 l106 c107)])) <|
                                                          WR (Addr.add ⟨B142, 0, none⟩ 0) (.int .i64 n121) <|
                                                            WR (Addr.add ⟨B142, 0, none⟩ 1) (.int .i64 n124) <|
                                                              WR (Addr.add ⟨B159, 0, none⟩ 0) (.int .i64 n138) <|
                                                                WR (Addr.add ⟨B159, 0, none⟩ 1) (.int .i64 n141) <|
                                                                  J_ref10_Equal_2 W R b97 (some ⟨B142, 0, none⟩) (some ⟨B159, 0, none⟩) zn0 zn1 za2 nx0 n98,
                                              NEWZ Pg 29 fun B187 =>
                                                ANDS (RDI .i64 (Addr.add za2 0) fun n188 =>
                                                  RDI .i64 (Addr.add za2 1) fun n189 =>
                                                    RDL (Addr.add za2 2) fun x190 l191 c192 =>
                                                      RDL (Addr.add za2 3) fun x193 l194 c195 =>
                                                        fun _ => ((.agg #[(.int .i64 n188), (.int .i64 n189), (.slice x190 l191 c192), (.slice x193 l194 c195)]) : Value) = (.agg #[(.int .i64 n108), (.int .i64 n109), (.slice x110 l111 c112), (.slice x113 l114 c115)])) <|
                                                  ANDS (RDI .i64 (Addr.add za2 0) fun n196 =>
                                                    RDI .i64 (Addr.add za2 1) fun n197 =>
                                                      RDL (Addr.add za2 2) fun x198 l199 c200 =>
                                                        RDL (Addr.add za2 3) fun x201 l202 c203 =>
                                                          fun _ => ((.agg #[(.int .i64 n196), (.int .i64 n197), (.slice x198 l199 c200), (.slice x201 l202 c203)]) : Value) = (.agg #[(.int .i64 n100), (.int .i64 n101), (.slice x102 l103 c104), (.slice x105 l106 c107)])) <|
                                                    NEWZ Pg 29 fun B204 =>
                                                      ANDS (RDI .i64 (Addr.add za2 0) fun n205 =>
                                                        RDI .i64 (Addr.add za2 1) fun n206 =>
                                                          RDL (Addr.add za2 2) fun x207 l208 c209 =>
                                                            RDL (Addr.add za2 3) fun x210 l211 c212 =>
                                                              fun _ => ((.agg #[(.int .i64 n205), (.int .i64 n206), (.slice x207 l208 c209), (.slice x210 l211 c212)]) : Value) = (.agg #[(.int .i64 n108), (.int .i64 n109), (.slice x110 l111 c112), (.slice x113 l114 c115)])) <|
                                                        ANDS (RDI .i64 (Addr.add za2 0) fun n213 =>
                                                          RDI .i64 (Addr.add za2 1) fun n214 =>
                                                            RDL (Addr.add za2 2) fun x215 l216 c217 =>
                                                              RDL (Addr.add za2 3) fun x218 l219 c220 =>
                                                                fun _ => ((.agg #[(.int .i64 n213), (.int .i64 n214), (.slice x215 l216 c217), (.slice x218 l219 c220)]) : Value) = (.agg #[(.int .i64 n100), (.int .i64 n101), (.slice x102 l103 c104), (.slice x105 l106 c107)])) <|
                                                          WR (Addr.add ⟨B204, 0, none⟩ 0) (.int .i64 n121) <|
                                                            WR (Addr.add ⟨B204, 0, none⟩ 1) (.int .i64 n124) <|
                                                              WR (Addr.add ⟨B187, 0, none⟩ 0) (.int .i64 n138) <|
                                                                WR (Addr.add ⟨B187, 0, none⟩ 1) (.int .i64 n141) <|
                                                                  J_ref10_Equal_2 W R b97 (some ⟨B204, 0, none⟩) (some ⟨B187, 0, none⟩) zn0 zn1 za2 nx0 n98])
                                        (fun e134 => R (.panicked e134)),
                                    NEWZ Pg 29 fun B221 =>
                                      ANDS (RDI .i64 (Addr.add za2 0) fun n222 =>
                                        RDI .i64 (Addr.add za2 1) fun n223 =>
                                          RDL (Addr.add za2 2) fun x224 l225 c226 =>
                                            RDL (Addr.add za2 3) fun x227 l228 c229 =>
                                              fun _ => ((.agg #[(.int .i64 n222), (.int .i64 n223), (.slice x224 l225 c226), (.slice x227 l228 c229)]) : Value) = (.agg #[(.int .i64 n108), (.int .i64 n109), (.slice x110 l111 c112), (.slice x113 l114 c115)])) <|
                                        ANDS (RDI .i64 (Addr.add za2 0) fun n230 =>
                                          RDI .i64 (Addr.add za2 1) fun n231 =>
                                            RDL (Addr.add za2 2) fun x232 l233 c234 =>
                                              RDL (Addr.add za2 3) fun x235 l236 c237 =>
                                                fun _ => ((.agg #[(.int .i64 n230), (.int .i64 n231), (.slice x232 l233 c234), (.slice x235 l236 c237)]) : Value) = (.agg #[(.int .i64 n100), (.int .i64 n101), (.slice x102 l103 c104), (.slice x105 l106 c107)])) <|
                                          CONJ [
                                            CALL Pg W F_ref10_Points [(.agg #[(.int .i64 n108), (.int .i64 n109), (.slice x110 l111 c112), (.slice x113 l114 c115)]), (.int .i64 zn1), (.int .i64 n98)]
                                              (fun v238 => AGG v238 fun q240 => HD q240 fun v241 r242 => TYI .i64 v241 fun n243 =>
                                                HD r242 fun v244 r245 => TYI .i64 v244 fun n246 =>
                                                  NL r245 <|
                                                    NEWZ Pg 29 fun B247 =>
                                                      ANDS (RDI .i64 (Addr.add za2 0) fun n248 =>
                                                        RDI .i64 (Addr.add za2 1) fun n249 =>
                                                          RDL (Addr.add za2 2) fun x250 l251 c252 =>
                                                            RDL (Addr.add za2 3) fun x253 l254 c255 =>
                                                              fun _ => ((.agg #[(.int .i64 n248), (.int .i64 n249), (.slice x250 l251 c252), (.slice x253 l254 c255)]) : Value) = (.agg #[(.int .i64 n108), (.int .i64 n109), (.slice x110 l111 c112), (.slice x113 l114 c115)])) <|
                                                        ANDS (RDI .i64 (Addr.add za2 0) fun n256 =>
                                                          RDI .i64 (Addr.add za2 1) fun n257 =>
                                                            RDL (Addr.add za2 2) fun x258 l259 c260 =>
                                                              RDL (Addr.add za2 3) fun x261 l262 c263 =>
                                                                fun _ => ((.agg #[(.int .i64 n256), (.int .i64 n257), (.slice x258 l259 c260), (.slice x261 l262 c263)]) : Value) = (.agg #[(.int .i64 n100), (.int .i64 n101), (.slice x102 l103 c104), (.slice x105 l106 c107)])) <|
                                                          WR (Addr.add ⟨B221, 0, none⟩ 0) (.int .i64 n121) <|
                                                            WR (Addr.add ⟨B221, 0, none⟩ 1) (.int .i64 n124) <|
                                                              WR (Addr.add ⟨B247, 0, none⟩ 0) (.int .i64 n243) <|
                                                                WR (Addr.add ⟨B247, 0, none⟩ 1) (.int .i64 n246) <|
                                                                  J_ref10_Equal_2 W R b97 (some ⟨B221, 0, none⟩) (some ⟨B247, 0, none⟩) zn0 zn1 za2 nx0 n98)
                                                (fun e239 => R (.panicked e239)),
                                            NEWZ Pg 29 fun B264 =>
                                              ANDS (RDI .i64 (Addr.add za2 0) fun n265 =>
                                                RDI .i64 (Addr.add za2 1) fun n266 =>
                                                  RDL (Addr.add za2 2) fun x267 l268 c269 =>
                                                    RDL (Addr.add za2 3) fun x270 l271 c272 =>
                                                      fun _ => ((.agg #[(.int .i64 n265), (.int .i64 n266), (.slice x267 l268 c269), (.slice x270 l271 c272)]) : Value) = (.agg #[(.int .i64 n108), (.int .i64 n109), (.slice x110 l111 c112), (.slice x113 l114 c115)])) <|
                                                ANDS (RDI .i64 (Addr.add za2 0) fun n273 =>
                                                  RDI .i64 (Addr.add za2 1) fun n274 =>
                                                    RDL (Addr.add za2 2) fun x275 l276 c277 =>
                                                      RDL (Addr.add za2 3) fun x278 l279 c280 =>
                                                        fun _ => ((.agg #[(.int .i64 n273), (.int .i64 n274), (.slice x275 l276 c277), (.slice x278 l279 c280)]) : Value) = (.agg #[(.int .i64 n100), (.int .i64 n101), (.slice x102 l103 c104), (.slice x105 l106 c107)])) <|
                                                  CALL Pg W F_ref10_Points [(.agg #[(.int .i64 n108), (.int .i64 n109), (.slice x110 l111 c112), (.slice x113 l114 c115)]), (.int .i64 zn1), (.int .i64 n98)]
                                                    (fun v281 => AGG v281 fun q283 => HD q283 fun v284 r285 => TYI .i64 v284 fun n286 =>
                                                      HD r285 fun v287 r288 => TYI .i64 v287 fun n289 =>
                                                        NL r288 <|
                                                          WR (Addr.add ⟨B221, 0, none⟩ 0) (.int .i64 n121) <|
                                                            WR (Addr.add ⟨B221, 0, none⟩ 1) (.int .i64 n124) <|
                                                              WR (Addr.add ⟨B264, 0, none⟩ 0) (.int .i64 n286) <|
                                                                WR (Addr.add ⟨B264, 0, none⟩ 1) (.int .i64 n289) <|
                                                                  J_ref10_Equal_2 W R b97 (some ⟨B221, 0, none⟩) (some ⟨B264, 0, none⟩) zn0 zn1 za2 nx0 n98)
                                                      (fun e282 => R (.panicked e282))],
                                    NEWZ Pg 29 fun B290 =>
                                      ANDS (RDI .i64 (Addr.add za2 0) fun n291 =>
                                        RDI .i64 (Addr.add za2 1) fun n292 =>
                                          RDL (Addr.add za2 2) fun x293 l294 c295 =>
                                            RDL (Addr.add za2 3) fun x296 l297 c298 =>
                                              fun _ => ((.agg #[(.int .i64 n291), (.int .i64 n292), (.slice x293 l294 c295), (.slice x296 l297 c298)]) : Value) = (.agg #[(.int .i64 n108), (.int .i64 n109), (.slice x110 l111 c112), (.slice x113 l114 c115)])) <|
                                        ANDS (RDI .i64 (Addr.add za2 0) fun n299 =>
                                          RDI .i64 (Addr.add za2 1) fun n300 =>
                                            RDL (Addr.add za2 2) fun x301 l302 c303 =>
                                              RDL (Addr.add za2 3) fun x304 l305 c306 =>
                                                fun _ => ((.agg #[(.int .i64 n299), (.int .i64 n300), (.slice x301 l302 c303), (.slice x304 l305 c306)]) : Value) = (.agg #[(.int .i64 n100), (.int .i64 n101), (.slice x102 l103 c104), (.slice x105 l106 c107)])) <|
                                          CONJ [
                                            CALL Pg W F_ref10_Points [(.agg #[(.int .i64 n108), (.int .i64 n109), (.slice x110 l111 c112), (.slice x113 l114 c115)]), (.int .i64 zn1), (.int .i64 n98)]
                                              (fun v307 => AGG v307 fun q309 => HD q309 fun v310 r311 => TYI .i64 v310 fun n312 =>
                                                HD r311 fun v313 r314 => TYI .i64 v313 fun n315 =>
                                                  NL r314 <|
                                                    NEWZ Pg 29 fun B316 =>
                                                      ANDS (RDI .i64 (Addr.add za2 0) fun n317 =>
                                                        RDI .i64 (Addr.add za2 1) fun n318 =>
                                                          RDL (Addr.add za2 2) fun x319 l320 c321 =>
                                                            RDL (Addr.add za2 3) fun x322 l323 c324 =>
                                                              fun _ => ((.agg #[(.int .i64 n317), (.int .i64 n318), (.slice x319 l320 c321), (.slice x322 l323 c324)]) : Value) = (.agg #[(.int .i64 n108), (.int .i64 n109), (.slice x110 l111 c112), (.slice x113 l114 c115)])) <|
                                                        ANDS (RDI .i64 (Addr.add za2 0) fun n325 =>
                                                          RDI .i64 (Addr.add za2 1) fun n326 =>
                                                            RDL (Addr.add za2 2) fun x327 l328 c329 =>
                                                              RDL (Addr.add za2 3) fun x330 l331 c332 =>
                                                                fun _ => ((.agg #[(.int .i64 n325), (.int .i64 n326), (.slice x327 l328 c329), (.slice x330 l331 c332)]) : Value) = (.agg #[(.int .i64 n100), (.int .i64 n101), (.slice x102 l103 c104), (.slice x105 l106 c107)])) <|
                                                          WR (Addr.add ⟨B316, 0, none⟩ 0) (.int .i64 n121) <|
                                                            WR (Addr.add ⟨B316, 0, none⟩ 1) (.int .i64 n124) <|
                                                              WR (Addr.add ⟨B290, 0, none⟩ 0) (.int .i64 n312) <|
                                                                WR (Addr.add ⟨B290, 0, none⟩ 1) (.int .i64 n315) <|
                                                                  J_ref10_Equal_2 W R b97 (some ⟨B316, 0, none⟩) (some ⟨B290, 0, none⟩) zn0 zn1 za2 nx0 n98)
                                                (fun e308 => R (.panicked e308)),
                                            NEWZ Pg 29 fun B333 =>
                                              ANDS (RDI .i64 (Addr.add za2 0) fun n334 =>
                                                RDI .i64 (Addr.add za2 1) fun n335 =>
                                                  RDL (Addr.add za2 2) fun x336 l337 c338 =>
                                                    RDL (Addr.add za2 3) fun x339 l340 c341 =>
                                                      fun _ => ((.agg #[(.int .i64 n334), (.int .i64 n335), (.slice x336 l337 c338), (.slice x339 l340 c341)]) : Value) = (.agg #[(.int .i64 n108), (.int .i64 n109), (.slice x110 l111 c112), (.slice x113 l114 c115)])) <|
                                                ANDS (RDI .i64 (Addr.add za2 0) fun n342 =>
                                                  RDI .i64 (Addr.add za2 1) fun n343 =>
                                                    RDL (Addr.add za2 2) fun x344 l345 c346 =>
                                                      RDL (Addr.add za2 3) fun x347 l348 c349 =>
                                                        fun _ => ((.agg #[(.int .i64 n342), (.int .i64 n343), (.slice x344 l345 c346), (.slice x347 l348 c349)]) : Value) = (.agg #[(.int .i64 n100), (.int .i64 n101), (.slice x102 l103 c104), (.slice x105 l106 c107)])) <|
                                                  CALL Pg W F_ref10_Points [(.agg #[(.int .i64 n108), (.int .i64 n109), (.slice x110 l111 c112), (.slice x113 l114 c115)]), (.int .i64 zn1), (.int .i64 n98)]
                                                    (fun v350 => AGG v350 fun q352 => HD q352 fun v353 r354 => TYI .i64 v353 fun n355 =>
                                                      HD r354 fun v356 r357 => TYI .i64 v356 fun n358 =>
                                                        NL r357 <|
                                                          WR (Addr.add ⟨B333, 0, none⟩ 0) (.int .i64 n121) <|
                                                            WR (Addr.add ⟨B333, 0, none⟩ 1) (.int .i64 n124) <|
                                                              WR (Addr.add ⟨B290, 0, none⟩ 0) (.int .i64 n355) <|
                                                                WR (Addr.add ⟨B290, 0, none⟩ 1) (.int .i64 n358) <|
                                                                  J_ref10_Equal_2 W R b97 (some ⟨B333, 0, none⟩) (some ⟨B290, 0, none⟩) zn0 zn1 za2 nx0 n98)
                                                      (fun e351 => R (.panicked e351))]])
                            (fun e117 => R (.panicked e117)),
                        NEWZ Pg 29 fun B359 =>
                          ANDS (RDI .i64 (Addr.add za2 0) fun n360 =>
                            RDI .i64 (Addr.add za2 1) fun n361 =>
                              RDL (Addr.add za2 2) fun x362 l363 c364 =>
                                RDL (Addr.add za2 3) fun x365 l366 c367 =>
                                  fun _ => ((.agg #[(.int .i64 n360), (.int .i64 n361), (.slice x362 l363 c364), (.slice x365 l366 c367)]) : Value) = (.agg #[(.int .i64 n108), (.int .i64 n109), (.slice x110 l111 c112), (.slice x113 l114 c115)])) <|
                            ANDS (RDI .i64 (Addr.add za2 0) fun n368 =>
                              RDI .i64 (Addr.add za2 1) fun n369 =>
                                RDL (Addr.add za2 2) fun x370 l371 c372 =>
                                  RDL (Addr.add za2 3) fun x373 l374 c375 =>
                                    fun _ => ((.agg #[(.int .i64 n368), (.int .i64 n369), (.slice x370 l371 c372), (.slice x373 l374 c375)]) : Value) = (.agg #[(.int .i64 n100), (.int .i64 n101), (.slice x102 l103 c104), (.slice x105 l106 c107)])) <|
                              CONJ [
                                CALL Pg W F_ref10_Points [(.agg #[(.int .i64 n100), (.int .i64 n101), (.slice x102 l103 c104), (.slice x105 l106 c107)]), (.int .i64 zn0), (.int .i64 n98)]
                                  (fun v376 => AGG v376 fun q378 => HD q378 fun v379 r380 => TYI .i64 v379 fun n381 =>
                                    HD r380 fun v382 r383 => TYI .i64 v382 fun n384 =>
                                      NL r383 <|
                                        ANDS (RDI .i64 (Addr.add za2 0) fun n385 =>
                                          RDI .i64 (Addr.add za2 1) fun n386 =>
                                            RDL (Addr.add za2 2) fun x387 l388 c389 =>
                                              RDL (Addr.add za2 3) fun x390 l391 c392 =>
                                                fun _ => ((.agg #[(.int .i64 n385), (.int .i64 n386), (.slice x387 l388 c389), (.slice x390 l391 c392)]) : Value) = (.agg #[(.int .i64 n108), (.int .i64 n109), (.slice x110 l111 c112), (.slice x113 l114 c115)])) <|
                                          CONJ [
                                            CALL Pg W F_ref10_Points [(.agg #[(.int .i64 n108), (.int .i64 n109), (.slice x110 l111 c112), (.slice x113 l114 c115)]), (.int .i64 zn1), (.int .i64 n98)]
                                              (fun v393 => AGG v393 fun q395 => HD q395 fun v396 r397 => TYI .i64 v396 fun n398 =>
                                                HD r397 fun v399 r400 => TYI .i64 v399 fun n401 =>
                                                  NL r400 <|
                                                    NEWZ Pg 29 fun B402 =>
                                                      ANDS (RDI .i64 (Addr.add za2 0) fun n403 =>
                                                        RDI .i64 (Addr.add za2 1) fun n404 =>
                                                          RDL (Addr.add za2 2) fun x405 l406 c407 =>
                                                            RDL (Addr.add za2 3) fun x408 l409 c410 =>
                                                              fun _ => ((.agg #[(.int .i64 n403), (.int .i64 n404), (.slice x405 l406 c407), (.slice x408 l409 c410)]) : Value) = (.agg #[(.int .i64 n108), (.int .i64 n109), (.slice x110 l111 c112), (.slice x113 l114 c115)])) <|
                                                        ANDS (RDI .i64 (Addr.add za2 0) fun n411 =>
                                                          RDI .i64 (Addr.add za2 1) fun n412 =>
                                                            RDL (Addr.add za2 2) fun x413 l414 c415 =>
                                                              RDL (Addr.add za2 3) fun x416 l417 c418 =>
                                                                fun _ => ((.agg #[(.int .i64 n411), (.int .i64 n412), (.slice x413 l414 c415), (.slice x416 l417 c418)]) : Value) = (.agg #[(.int .i64 n100), (.int .i64 n101), (.slice x102 l103 c104), (.slice x105 l106 c107)])) <|
                                                          WR (Addr.add ⟨B359, 0, none⟩ 0) (.int .i64 n381) <|
                                                            WR (Addr.add ⟨B359, 0, none⟩ 1) (.int .i64 n384) <|
                                                              WR (Addr.add ⟨B402, 0, none⟩ 0) (.int .i64 n398) <|
                                                                WR (Addr.add ⟨B402, 0, none⟩ 1) (.int .i64 n401) <|
                                                                  J_ref10_Equal_2 W R b97 (some ⟨B359, 0, none⟩) (some ⟨B402, 0, none⟩) zn0 zn1 za2 nx0 n98)
                                                (fun e394 => R (.panicked e394)),
                                            NEWZ Pg 29 fun B419 =>
                                              ANDS (RDI .i64 (Addr.add za2 0) fun n420 =>
                                                RDI .i64 (Addr.add za2 1) fun n421 =>
                                                  RDL (Addr.add za2 2) fun x422 l423 c424 =>
                                                    RDL (Addr.add za2 3) fun x425 l426 c427 =>
                                                      fun _ => ((.agg #[(.int .i64 n420), (.int .i64 n421), (.slice x422 l423 c424), (.slice x425 l426 c427)]) : Value) = (.agg #[(.int .i64 n108), (.int .i64 n109), (.slice x110 l111 c112), (.slice x113 l114 c115)])) <|
                                                ANDS (RDI .i64 (Addr.add za2 0) fun n428 =>
                                                  RDI .i64 (Addr.add za2 1) fun n429 =>
                                                    RDL (Addr.add za2 2) fun x430 l431 c432 =>
                                                      RDL (Addr.add za2 3) fun x433 l434 c435 =>
                                                        fun _ => ((.agg #[(.int .i64 n428), (.int .i64 n429), (.slice x430 l431 c432), (.slice x433 l434 c435)]) : Value) = (.agg #[(.int .i64 n100), (.int .i64 n101), (.slice x102 l103 c104), (.slice x105 l106 c107)])) <|
                                                  CALL Pg W F_ref10_Points [(.agg #[(.int .i64 n108), (.int .i64 n109), (.slice x110 l111 c112), (.slice x113 l114 c115)]), (.int .i64 zn1), (.int .i64 n98)]
                                                    (fun v436 => AGG v436 fun q438 => HD q438 fun v439 r440 => TYI .i64 v439 fun n441 =>
                                                      HD r440 fun v442 r443 => TYI .i64 v442 fun n444 =>
                                                        NL r443 <|
                                                          WR (Addr.add ⟨B359, 0, none⟩ 0) (.int .i64 n381) <|
                                                            WR (Addr.add ⟨B359, 0, none⟩ 1) (.int .i64 n384) <|
                                                              WR (Addr.add ⟨B419, 0, none⟩ 0) (.int .i64 n441) <|
                                                                WR (Addr.add ⟨B419, 0, none⟩ 1) (.int .i64 n444) <|
                                                                  J_ref10_Equal_2 W R b97 (some ⟨B359, 0, none⟩) (some ⟨B419, 0, none⟩) zn0 zn1 za2 nx0 n98)
                                                      (fun e437 => R (.panicked e437))])
                                    (fun e377 => R (.panicked e377)),
                                NEWZ Pg 29 fun B445 =>
                                  ANDS (RDI .i64 (Addr.add za2 0) fun n446 =>
                                    RDI .i64 (Addr.add za2 1) fun n447 =>
                                      RDL (Addr.add za2 2) fun x448 l449 c450 =>
                                        RDL (Addr.add za2 3) fun x451 l452 c453 =>
                                          fun _ => ((.agg #[(.int .i64 n446), (.int .i64 n447), (.slice x448 l449 c450), (.slice x451 l452 c453)]) : Value) = (.agg #[(.int .i64 n108), (.int .i64 n109), (.slice x110 l111 c112), (.slice x113 l114 c115)])) <|
                                    ANDS (RDI .i64 (Addr.add za2 0) fun n454 =>
                                      RDI .i64 (Addr.add za2 1) fun n455 =>
                                        RDL (Addr.add za2 2) fun x456 l457 c458 =>
                                          RDL (Addr.add za2 3) fun x459 l460 c461 =>
                                            fun _ => ((.agg #[(.int .i64 n454), (.int .i64 n455), (.slice x456 l457 c458), (.slice x459 l460 c461)]) : Value) = (.agg #[(.int .i64 n100), (.int .i64 n101), (.slice x102 l103 c104), (.slice x105 l106 c107)])) <|
                                      CALL Pg W F_ref10_Points [(.agg #[(.int .i64 n100), (.int .i64 n101), (.slice x102 l103 c104), (.slice x105 l106 c107)]), (.int .i64 zn0), (.int .i64 n98)]
                                        (fun v462 => AGG v462 fun q464 => HD q464 fun v465 r466 => TYI .i64 v465 fun n467 =>
                                          HD r466 fun v468 r469 => TYI .i64 v468 fun n470 =>
                                            NL r469 <|
                                              ANDS (RDI .i64 (Addr.add za2 0) fun n471 =>
                                                RDI .i64 (Addr.add za2 1) fun n472 =>
                                                  RDL (Addr.add za2 2) fun x473 l474 c475 =>
                                                    RDL (Addr.add za2 3) fun x476 l477 c478 =>
                                                      fun _ => ((.agg #[(.int .i64 n471), (.int .i64 n472), (.slice x473 l474 c475), (.slice x476 l477 c478)]) : Value) = (.agg #[(.int .i64 n108), (.int .i64 n109), (.slice x110 l111 c112), (.slice x113 l114 c115)])) <|
                                                CALL Pg W F_ref10_Points [(.agg #[(.int .i64 n108), (.int .i64 n109), (.slice x110 l111 c112), (.slice x113 l114 c115)]), (.int .i64 zn1), (.int .i64 n98)]
                                                  (fun v479 => AGG v479 fun q481 => HD q481 fun v482 r483 => TYI .i64 v482 fun n484 =>
                                                    HD r483 fun v485 r486 => TYI .i64 v485 fun n487 =>
                                                      NL r486 <|
                                                        WR (Addr.add ⟨B359, 0, none⟩ 0) (.int .i64 n467) <|
                                                          WR (Addr.add ⟨B359, 0, none⟩ 1) (.int .i64 n470) <|
                                                            WR (Addr.add ⟨B445, 0, none⟩ 0) (.int .i64 n484) <|
                                                              WR (Addr.add ⟨B445, 0, none⟩ 1) (.int .i64 n487) <|
                                                                J_ref10_Equal_2 W R b97 (some ⟨B359, 0, none⟩) (some ⟨B445, 0, none⟩) zn0 zn1 za2 nx0 n98)
                                                    (fun e480 => R (.panicked e480)))
                                          (fun e463 => R (.panicked e463))],
                        NEWZ Pg 29 fun B488 =>
                          ANDS (RDI .i64 (Addr.add za2 0) fun n489 =>
                            RDI .i64 (Addr.add za2 1) fun n490 =>
                              RDL (Addr.add za2 2) fun x491 l492 c493 =>
                                RDL (Addr.add za2 3) fun x494 l495 c496 =>
                                  fun _ => ((.agg #[(.int .i64 n489), (.int .i64 n490), (.slice x491 l492 c493), (.slice x494 l495 c496)]) : Value) = (.agg #[(.int .i64 n108), (.int .i64 n109), (.slice x110 l111 c112), (.slice x113 l114 c115)])) <|
                            ANDS (RDI .i64 (Addr.add za2 0) fun n497 =>
                              RDI .i64 (Addr.add za2 1) fun n498 =>
                                RDL (Addr.add za2 2) fun x499 l500 c501 =>
                                  RDL (Addr.add za2 3) fun x502 l503 c504 =>
                                    fun _ => ((.agg #[(.int .i64 n497), (.int .i64 n498), (.slice x499 l500 c501), (.slice x502 l503 c504)]) : Value) = (.agg #[(.int .i64 n100), (.int .i64 n101), (.slice x102 l103 c104), (.slice x105 l106 c107)])) <|
                              CONJ [
                                CALL Pg W F_ref10_Points [(.agg #[(.int .i64 n100), (.int .i64 n101), (.slice x102 l103 c104), (.slice x105 l106 c107)]), (.int .i64 zn0), (.int .i64 n98)]
                                  (fun v505 => AGG v505 fun q507 => HD q507 fun v508 r509 => TYI .i64 v508 fun n510 =>
                                    HD r509 fun v511 r512 => TYI .i64 v511 fun n513 =>
                                      NL r512 <|
                                        ANDS (RDI .i64 (Addr.add za2 0) fun n514 =>
                                          RDI .i64 (Addr.add za2 1) fun n515 =>
                                            RDL (Addr.add za2 2) fun x516 l517 c518 =>
                                              RDL (Addr.add za2 3) fun x519 l520 c521 =>
                                                fun _ => ((.agg #[(.int .i64 n514), (.int .i64 n515), (.slice x516 l517 c518), (.slice x519 l520 c521)]) : Value) = (.agg #[(.int .i64 n108), (.int .i64 n109), (.slice x110 l111 c112), (.slice x113 l114 c115)])) <|
                                          CONJ [
                                            CALL Pg W F_ref10_Points [(.agg #[(.int .i64 n108), (.int .i64 n109), (.slice x110 l111 c112), (.slice x113 l114 c115)]), (.int .i64 zn1), (.int .i64 n98)]
                                              (fun v522 => AGG v522 fun q524 => HD q524 fun v525 r526 => TYI .i64 v525 fun n527 =>
                                                HD r526 fun v528 r529 => TYI .i64 v528 fun n530 =>
                                                  NL r529 <|
                                                    NEWZ Pg 29 fun B531 =>
                                                      ANDS (RDI .i64 (Addr.add za2 0) fun n532 =>
                                                        RDI .i64 (Addr.add za2 1) fun n533 =>
                                                          RDL (Addr.add za2 2) fun x534 l535 c536 =>
                                                            RDL (Addr.add za2 3) fun x537 l538 c539 =>
                                                              fun _ => ((.agg #[(.int .i64 n532), (.int .i64 n533), (.slice x534 l535 c536), (.slice x537 l538 c539)]) : Value) = (.agg #[(.int .i64 n108), (.int .i64 n109), (.slice x110 l111 c112), (.slice x113 l114 c115)])) <|
                                                        ANDS (RDI .i64 (Addr.add za2 0) fun n540 =>
                                                          RDI .i64 (Addr.add za2 1) fun n541 =>
                                                            RDL (Addr.add za2 2) fun x542 l543 c544 =>
                                                              RDL (Addr.add za2 3) fun x545 l546 c547 =>
                                                                fun _ => ((.agg #[(.int .i64 n540), (.int .i64 n541), (.slice x542 l543 c544), (.slice x545 l546 c547)]) : Value) = (.agg #[(.int .i64 n100), (.int .i64 n101), (.slice x102 l103 c104), (.slice x105 l106 c107)])) <|
                                                          WR (Addr.add ⟨B531, 0, none⟩ 0) (.int .i64 n510) <|
                                                            WR (Addr.add ⟨B531, 0, none⟩ 1) (.int .i64 n513) <|
                                                              WR (Addr.add ⟨B488, 0, none⟩ 0) (.int .i64 n527) <|
                                                                WR (Addr.add ⟨B488, 0, none⟩ 1) (.int .i64 n530) <|
                                                                  J_ref10_Equal_2 W R b97 (some ⟨B531, 0, none⟩) (some ⟨B488, 0, none⟩) zn0 zn1 za2 nx0 n98)
                                                (fun e523 => R (.panicked e523)),
                                            NEWZ Pg 29 fun B548 =>
                                              ANDS (RDI .i64 (Addr.add za2 0) fun n549 =>
                                                RDI .i64 (Addr.add za2 1) fun n550 =>
                                                  RDL (Addr.add za2 2) fun x551 l552 c553 =>
                                                    RDL (Addr.add za2 3) fun x554 l555 c556 =>
                                                      fun _ => ((.agg #[(.int .i64 n549), (.int .i64 n550), (.slice x551 l552 c553), (.slice x554 l555 c556)]) : Value) = (.agg #[(.int .i64 n108), (.int .i64 n109), (.slice x110 l111 c112), (.slice x113 l114 c115)])) <|
                                                ANDS (RDI .i64 (Addr.add za2 0) fun n557 =>
                                                  RDI .i64 (Addr.add za2 1) fun n558 =>
                                                    RDL (Addr.add za2 2) fun x559 l560 c561 =>
                                                      RDL (Addr.add za2 3) fun x562 l563 c564 =>
                                                        fun _ => ((.agg #[(.int .i64 n557), (.int .i64 n558), (.slice x559 l560 c561), (.slice x562 l563 c564)]) : Value) = (.agg #[(.int .i64 n100), (.int .i64 n101), (.slice x102 l103 c104), (.slice x105 l106 c107)])) <|
                                                  CALL Pg W F_ref10_Points [(.agg #[(.int .i64 n108), (.int .i64 n109), (.slice x110 l111 c112), (.slice x113 l114 c115)]), (.int .i64 zn1), (.int .i64 n98)]
                                                    (fun v565 => AGG v565 fun q567 => HD q567 fun v568 r569 => TYI .i64 v568 fun n570 =>
                                                      HD r569 fun v571 r572 => TYI .i64 v571 fun n573 =>
                                                        NL r572 <|
                                                          WR (Addr.add ⟨B548, 0, none⟩ 0) (.int .i64 n510) <|
                                                            WR (Addr.add ⟨B548, 0, none⟩ 1) (.int .i64 n513) <|
                                                              WR (Addr.add ⟨B488, 0, none⟩ 0) (.int .i64 n570) <|
                                                                WR (Addr.add ⟨B488, 0, none⟩ 1) (.int .i64 n573) <|
                                                                  J_ref10_Equal_2 W R b97 (some ⟨B548, 0, none⟩) (some ⟨B488, 0, none⟩) zn0 zn1 za2 nx0 n98)
                                                      (fun e566 => R (.panicked e566))])
                                    (fun e506 => R (.panicked e506)),
                                NEWZ Pg 29 fun B574 =>
                                  ANDS (RDI .i64 (Addr.add za2 0) fun n575 =>
                                    RDI .i64 (Addr.add za2 1) fun n576 =>
                                      RDL (Addr.add za2 2) fun x577 l578 c579 =>
                                        RDL (Addr.add za2 3) fun x580 l581 c582 =>
                                          fun _ => ((.agg #[(.int .i64 n575), (.int .i64 n576), (.slice x577 l578 c579), (.slice x580 l581 c582)]) : Value) = (.agg #[(.int .i64 n108), (.int .i64 n109), (.slice x110 l111 c112), (.slice x113 l114 c115)])) <|
                                    ANDS (RDI .i64 (Addr.add za2 0) fun n583 =>
                                      RDI .i64 (Addr.add za2 1) fun n584 =>
                                        RDL (Addr.add za2 2) fun x585 l586 c587 =>
                                          RDL (Addr.add za2 3) fun x588 l589 c590 =>
                                            fun _ => ((.agg #[(.int .i64 n583), (.int .i64 n584), (.slice x585 l586 c587), (.slice x588 l589 c590)]) : Value) = (.agg #[(.int .i64 n100), (.int .i64 n101), (.slice x102 l103 c104), (.slice x105 l106 c107)])) <|
                                      CALL Pg W F_ref10_Points [(.agg #[(.int .i64 n100), (.int .i64 n101), (.slice x102 l103 c104), (.slice x105 l106 c107)]), (.int .i64 zn0), (.int .i64 n98)]
                                        (fun v591 => AGG v591 fun q593 => HD q593 fun v594 r595 => TYI .i64 v594 fun n596 =>
                                          HD r595 fun v597 r598 => TYI .i64 v597 fun n599 =>
                                            NL r598 <|
                                              ANDS (RDI .i64 (Addr.add za2 0) fun n600 =>
                                                RDI .i64 (Addr.add za2 1) fun n601 =>
                                                  RDL (Addr.add za2 2) fun x602 l603 c604 =>
                                                    RDL (Addr.add za2 3) fun x605 l606 c607 =>
                                                      fun _ => ((.agg #[(.int .i64 n600), (.int .i64 n601), (.slice x602 l603 c604), (.slice x605 l606 c607)]) : Value) = (.agg #[(.int .i64 n108), (.int .i64 n109), (.slice x110 l111 c112), (.slice x113 l114 c115)])) <|
                                                CALL Pg W F_ref10_Points [(.agg #[(.int .i64 n108), (.int .i64 n109), (.slice x110 l111 c112), (.slice x113 l114 c115)]), (.int .i64 zn1), (.int .i64 n98)]
                                                  (fun v608 => AGG v608 fun q610 => HD q610 fun v611 r612 => TYI .i64 v611 fun n613 =>
                                                    HD r612 fun v614 r615 => TYI .i64 v614 fun n616 =>
                                                      NL r615 <|
                                                        WR (Addr.add ⟨B574, 0, none⟩ 0) (.int .i64 n596) <|
                                                          WR (Addr.add ⟨B574, 0, none⟩ 1) (.int .i64 n599) <|
                                                            WR (Addr.add ⟨B488, 0, none⟩ 0) (.int .i64 n613) <|
                                                              WR (Addr.add ⟨B488, 0, none⟩ 1) (.int .i64 n616) <|
                                                                J_ref10_Equal_2 W R b97 (some ⟨B574, 0, none⟩) (some ⟨B488, 0, none⟩) zn0 zn1 za2 nx0 n98)
                                                    (fun e609 => R (.panicked e609)))
                                          (fun e592 => R (.panicked e592))]])
      (BR b97
        (R (.returned (.tuple #[(.bool true), (.int .i64 0)])))
        (R (.returned (.tuple #[(.bool (zn0 == zn1)), (.int .i64 0)]))))
theorem B_ref10_Equal_0_eq (W : World) (R : Ending → Hp → Prop) (zn0 : Int) (zn1 : Int) (za2 : Addr) (b97 : Bool) (n98 : Int) (nx0 : List Value → Hp → Prop) (j : Tm) : vc Pg W 71 rs_23 an_23 false (sub (bodyOf Try.f23) [1, 1, 1, 1, 0, 1, 0, 0]) 0 (KLoop [9, 10] [1, 2, 3, 6, 7, 71] [(.int .i64 zn0), (.int .i64 zn1), (.pointer (some za2)), (.bool false), (.int .i64 0), (.tuple #[])] nx0 (KBlk 0 (KS Pg W 71 rs_23 an_23 false (sub (bodyOf Try.f23) [1, 1, 1, 1, 1]) 0 (fin Pg W 71 rv_23 R)))) (known [9, 10] [(.bool b97), (.int .i64 n98)] (known [1, 2, 3, 6, 7, 71] [(.int .i64 zn0), (.int .i64 zn1), (.pointer (some za2)), (.bool false), (.int .i64 0), (.tuple #[])] j)) = B_ref10_Equal_0 W R zn0 zn1 za2 b97 n98 nx0 := by kernel_rfl
def N_ref10_Equal_0 (I : Bool → Int → Hp → Prop) (μ : Bool → Int → Hp → Nat) (b970 : Bool) (n980 : Int) (s : Hp) (vs : List Value) : Hp → Prop := fun s' => ∃ b97 n98, vs = [(.bool b97), (.int .i64 n98)] ∧ I b97 n98 s' ∧ μ b97 n98 s' < μ b970 n980 s
theorem L_ref10_Equal_0_rule (W : World) (R : Ending → Hp → Prop) (zn0 : Int) (zn1 : Int) (za2 : Addr) (I : Bool → Int → Hp → Prop) (μ : Bool → Int → Hp → Nat) (b970 : Bool) (n980 : Int) (s : Hp) (h0 : I b970 n980 s)
    (hr : ∀ (b97 : Bool) (n98 : Int) (s : Hp), I b97 n98 s → B_ref10_Equal_0 W R zn0 zn1 za2 b97 n98 (fun vs => N_ref10_Equal_0 I μ b97 n98 s vs) s) : L_ref10_Equal_0 W R zn0 zn1 za2 b970 n980 s := by
  refine ⟨fun vs s => ∃ b97 n98, vs = [(.bool b97), (.int .i64 n98)] ∧ I b97 n98 s, fun vs s => (match vs with | [.bool b97, .int _ n98] => μ b97 n98 s | _ => 0), ⟨⟨⟨_, rfl⟩, ⟨⟨_, rfl⟩, trivial⟩⟩, ⟨_, _, rfl, h0⟩⟩, ?_⟩
  intro b97 n98 s hI j
  obtain ⟨b97', n98', hy, hI⟩ := hI
  have hI' : I b97 n98 s := by cases hy; exact hI
  have hh := hr b97 n98 s hI'
  rw [← B_ref10_Equal_0_eq W R zn0 zn1 za2 b97 n98 _ j] at hh
  refine vc_mono ?_ _ _ hh
  exact KLoop_mono (fun vs s' h => by obtain ⟨b971, n981, rfl, h1, h2⟩ := h; exact ⟨⟨⟨_, rfl⟩, ⟨⟨_, rfl⟩, trivial⟩⟩, ⟨_, _, rfl, h1⟩, h2⟩)
def T_ref10_Equal (W : World) (n1 : Int) (n2 : Int) (x3 : Option Addr) (l4 : Nat) (c5 : Nat) (x6 : Option Addr) (l7 : Nat) (c8 : Nat) (n9 : Int) (n10 : Int) (R : Ending → Hp → Prop) : Hp → Prop :=
  NEW 25 [(.int .i64 n1), (.int .i64 n2), (.slice x3 l4 c5), (.slice x6 l7 c8)] fun B11 =>
    RDI .i64 (Addr.add ⟨B11, 0, none⟩ 0) fun n12 =>
      RDI .i64 (Addr.add ⟨B11, 0, none⟩ 1) fun n13 =>
        RDL (Addr.add ⟨B11, 0, none⟩ 2) fun x14 l15 c16 =>
          RDL (Addr.add ⟨B11, 0, none⟩ 3) fun x17 l18 c19 =>
            RDI .i64 (Addr.add ⟨B11, 0, none⟩ 0) fun n20 =>
              RDI .i64 (Addr.add ⟨B11, 0, none⟩ 1) fun n21 =>
                RDL (Addr.add ⟨B11, 0, none⟩ 2) fun x22 l23 c24 =>
                  RDL (Addr.add ⟨B11, 0, none⟩ 3) fun x25 l26 c27 =>
                    CALL Pg W F_ref10_Man [(.agg #[(.int .i64 n20), (.int .i64 n21), (.slice x22 l23 c24), (.slice x25 l26 c27)]), (.int .i64 n9)]
                      (fun v28 => TYB v28 fun b30 =>
                        ANDS (RDI .i64 (Addr.add ⟨B11, 0, none⟩ 0) fun n31 =>
                          RDI .i64 (Addr.add ⟨B11, 0, none⟩ 1) fun n32 =>
                            RDL (Addr.add ⟨B11, 0, none⟩ 2) fun x33 l34 c35 =>
                              RDL (Addr.add ⟨B11, 0, none⟩ 3) fun x36 l37 c38 =>
                                fun _ => ((.agg #[(.int .i64 n31), (.int .i64 n32), (.slice x33 l34 c35), (.slice x36 l37 c38)]) : Value) = (.agg #[(.int .i64 n12), (.int .i64 n13), (.slice x14 l15 c16), (.slice x17 l18 c19)])) <|
                          BR b30
                            (RDI .i64 (Addr.add ⟨B11, 0, none⟩ 0) fun n39 =>
                              RDI .i64 (Addr.add ⟨B11, 0, none⟩ 1) fun n40 =>
                                RDL (Addr.add ⟨B11, 0, none⟩ 2) fun x41 l42 c43 =>
                                  RDL (Addr.add ⟨B11, 0, none⟩ 3) fun x44 l45 c46 =>
                                    CALL Pg W F_ref10_Man [(.agg #[(.int .i64 n39), (.int .i64 n40), (.slice x41 l42 c43), (.slice x44 l45 c46)]), (.int .i64 n10)]
                                      (fun v47 => TYB v47 fun b49 =>
                                        ANDS (RDI .i64 (Addr.add ⟨B11, 0, none⟩ 0) fun n50 =>
                                          RDI .i64 (Addr.add ⟨B11, 0, none⟩ 1) fun n51 =>
                                            RDL (Addr.add ⟨B11, 0, none⟩ 2) fun x52 l53 c54 =>
                                              RDL (Addr.add ⟨B11, 0, none⟩ 3) fun x55 l56 c57 =>
                                                fun _ => ((.agg #[(.int .i64 n50), (.int .i64 n51), (.slice x52 l53 c54), (.slice x55 l56 c57)]) : Value) = (.agg #[(.int .i64 n12), (.int .i64 n13), (.slice x14 l15 c16), (.slice x17 l18 c19)])) <|
                                          J_ref10_Equal_0 W R n12 n13 x14 l15 c16 x17 l18 c19 b49 B11 n9 n10)
                                        (fun e48 => R (.panicked e48)))
                            (J_ref10_Equal_0 W R n12 n13 x14 l15 c16 x17 l18 c19 false B11 n9 n10))
                        (fun e29 => R (.panicked e29))
theorem T_ref10_Equal_eq (W : World) (n1 : Int) (n2 : Int) (x3 : Option Addr) (l4 : Nat) (c5 : Nat) (x6 : Option Addr) (l7 : Nat) (c8 : Nat) (n9 : Int) (n10 : Int) (R : Ending → Hp → Prop) : vfun Pg W an_23 Try.f23 [(.agg #[(.int .i64 n1), (.int .i64 n2), (.slice x3 l4 c5), (.slice x6 l7 c8)]), (.int .i64 n9), (.int .i64 n10)] R = T_ref10_Equal W n1 n2 x3 l4 c5 x6 l7 c8 n9 n10 R := by kernel_rfl
theorem does_ref10_Equal (W : World) (n1 : Int) (n2 : Int) (x3 : Option Addr) (l4 : Nat) (c5 : Nat) (x6 : Option Addr) (l7 : Nat) (c8 : Nat) (n9 : Int) (n10 : Int) (R : Ending → Hp → Prop) (s : Hp) (h : T_ref10_Equal W n1 n2 x3 l4 c5 x6 l7 c8 n9 n10 R s) : Does Pg W F_ref10_Equal #[(.agg #[(.int .i64 n1), (.int .i64 n2), (.slice x3 l4 c5), (.slice x6 l7 c8)]), (.int .i64 n9), (.int .i64 n10)] s R :=
  does_of_vfun Pg W an_23 Try.func23 rfl (by kernel_rfl) (by rw [T_ref10_Equal_eq]; exact h)
def an_26 : Nat → Ann := fun b => match b with
  | 0 => { ms := [10, 11], ks := [.i .i64, .i .i64], us := [1, 2, 3, 6, 7, 9, 58], rt := false, ex := [] }
  | _ => {}
abbrev rv_26 : List ResultVar := [.tmp 6, .tmp 7]
abbrev rs_26 : List Nat := [58, 6, 7]
def L_ref10_Could_0 (W : World) (R : Ending → Hp → Prop) (zn0 : Int) (zn1 : Int) (za2 : Addr) (zn3 : Int) (n102 : Int) (n103 : Int) : Hp → Prop :=
  LOOPN [.i .i64, .i .i64] (fun ys next s => ∀ j : Tm, vc Pg W 58 rs_26 an_26 false (sub (bodyOf Try.f26) [1, 1, 1, 1, 1, 1, 0, 1, 0, 0]) 0 (KLoop [10, 11] [1, 2, 3, 6, 7, 9, 58] [(.int .i64 zn0), (.int .i64 zn1), (.pointer (some za2)), (.int .i64 0), (.int .i64 0), (.int .i64 zn3), (.tuple #[])] next (KBlk 0 (KS Pg W 58 rs_26 an_26 false (sub (bodyOf Try.f26) [1, 1, 1, 1, 1, 1, 1]) 0 (fin Pg W 58 rv_26 R)))) (known [10, 11] ys (known [1, 2, 3, 6, 7, 9, 58] [(.int .i64 zn0), (.int .i64 zn1), (.pointer (some za2)), (.int .i64 0), (.int .i64 0), (.int .i64 zn3), (.tuple #[])] j)) s) [(.int .i64 n102), (.int .i64 n103)]
def J_ref10_Could_0 (W : World) (R : Ending → Hp → Prop) (n58 : Int) (n59 : Int) (x60 : Option Addr) (l61 : Nat) (c62 : Nat) (x63 : Option Addr) (l64 : Nat) (c65 : Nat) (b83 : Bool) (B11 : Nat) (n9 : Int) (n10 : Int) : Hp → Prop :=
  CALL Pg W F_ref10_check [(.agg #[(.int .i64 n58), (.int .i64 n59), (.slice x60 l61 c62), (.slice x63 l64 c65)]), (.bool b83)]
    (fun v84 => TYI .i64 v84 fun n86 =>
      BR (n86 != 0)
        (R (.returned (.tuple #[(.int .i64 0), (.int .i64 n86)])))
        (RDI .i64 (Addr.add ⟨B11, 0, none⟩ 0) fun n87 =>
          RDI .i64 (Addr.add ⟨B11, 0, none⟩ 1) fun n88 =>
            RDL (Addr.add ⟨B11, 0, none⟩ 2) fun x89 l90 c91 =>
              RDL (Addr.add ⟨B11, 0, none⟩ 3) fun x92 l93 c94 =>
                CALL Pg W F_ref10_can [(.agg #[(.int .i64 n87), (.int .i64 n88), (.slice x89 l90 c91), (.slice x92 l93 c94)]), (.int .i64 n9), (.int .i64 n10)]
                  (fun v95 => TYB v95 fun b97 =>
                    BR (!b97)
                      (R (.returned (.tuple #[(.int .i64 0), (.int .i64 4)])))
                      (RDI .i64 (Addr.add ⟨B11, 0, none⟩ 1) fun n98 =>
                        CALL Pg W F_ref10_power [(.int .i64 (IntKind.wrap .i64 (2 * n98)))]
                          (fun v99 => TYI .i64 v99 fun n101 =>
                            L_ref10_Could_0 W R n9 n10 ⟨B11, 0, none⟩ (IntKind.wrap .i64 (n101 - 1)) (IntKind.wrap .i64 (n101 - 1)) 0)
                            (fun e100 => R (.panicked e100))))
                    (fun e96 => R (.panicked e96))))
      (fun e85 => R (.panicked e85))
def J_ref10_Could_1 (W : World) (R : Ending → Hp → Prop) (zn0 : Int) (zn1 : Int) (za2 : Addr) (zn3 : Int) (nx0 : List Value → Hp → Prop) (n141 : Int) (n103 : Int) : Hp → Prop :=
  NX [(.int .i64 zn0), (.int .i64 zn1), (.pointer (some za2)), (.int .i64 0), (.int .i64 0), (.int .i64 zn3), (.tuple #[])] [(.int .i64 zn0), (.int .i64 zn1), (.pointer (some za2)), (.int .i64 0), (.int .i64 0), (.int .i64 zn3), (.tuple #[])] (nx0 [(.int .i64 n141), (.int .i64 (IntKind.wrap .i64 (n103 + 1)))])
def J_ref10_Could_2 (W : World) (R : Ending → Hp → Prop) (b140 : Bool) (zn0 : Int) (zn1 : Int) (za2 : Addr) (zn3 : Int) (nx0 : List Value → Hp → Prop) (n103 : Int) (n102 : Int) : Hp → Prop :=
  BR b140
    (J_ref10_Could_1 W R zn0 zn1 za2 zn3 nx0 n103 n103)
    (J_ref10_Could_1 W R zn0 zn1 za2 zn3 nx0 n102 n103)
def B_ref10_Could_0 (W : World) (R : Ending → Hp → Prop) (zn0 : Int) (zn1 : Int) (za2 : Addr) (zn3 : Int) (n102 : Int) (n103 : Int) (nx0 : List Value → Hp → Prop) : Hp → Prop :=
  BR (decide (n103 ≤ zn3))
    (CALL Pg W F_ref10_Size [(.int .i64 n103)]
      (fun v104 => TYI .i64 v104 fun n106 =>
        CALL Pg W F_ref10_Size [(.int .i64 n102)]
          (fun v107 => TYI .i64 v107 fun n109 =>
            BR (decide (n106 < n109))
              (RDI .i64 (Addr.add za2 0) fun n110 =>
                RDI .i64 (Addr.add za2 1) fun n111 =>
                  RDL (Addr.add za2 2) fun x112 l113 c114 =>
                    RDL (Addr.add za2 3) fun x115 l116 c117 =>
                      CALL Pg W F_ref10_read [(.agg #[(.int .i64 n110), (.int .i64 n111), (.slice x112 l113 c114), (.slice x115 l116 c117)]), (.int .i64 zn0), (.int .i64 zn1), (.int .i64 n103)]
                        (fun v118 => AGG v118 fun q120 => HD q120 fun v121 r122 => TYI .i64 v121 fun n123 =>
                          HD r122 fun v124 r125 => TYI .i64 v124 fun n126 =>
                            HD r125 fun v127 r128 => TYL v127 fun x129 l130 c131 =>
                              HD r128 fun v132 r133 => TYL v132 fun x134 l135 c136 =>
                                NL r133 <|
                                  CALL Pg W F_ref10_surely [(.agg #[(.int .i64 n123), (.int .i64 n126), (.slice x129 l130 c131), (.slice x134 l135 c136)]), (.int .i64 zn0), (.int .i64 zn1)]
                                    (fun v137 => TYB v137 fun b139 =>
                                      J_ref10_Could_2 W R b139 zn0 zn1 za2 zn3 nx0 n103 n102)
                                      (fun e138 => R (.panicked e138)))
                          (fun e119 => R (.panicked e119)))
              (J_ref10_Could_2 W R false zn0 zn1 za2 zn3 nx0 n103 n102))
            (fun e108 => R (.panicked e108)))
        (fun e105 => R (.panicked e105)))
    (R (.returned (.tuple #[(.int .i64 n102), (.int .i64 0)])))
theorem B_ref10_Could_0_eq (W : World) (R : Ending → Hp → Prop) (zn0 : Int) (zn1 : Int) (za2 : Addr) (zn3 : Int) (n102 : Int) (n103 : Int) (nx0 : List Value → Hp → Prop) (j : Tm) : vc Pg W 58 rs_26 an_26 false (sub (bodyOf Try.f26) [1, 1, 1, 1, 1, 1, 0, 1, 0, 0]) 0 (KLoop [10, 11] [1, 2, 3, 6, 7, 9, 58] [(.int .i64 zn0), (.int .i64 zn1), (.pointer (some za2)), (.int .i64 0), (.int .i64 0), (.int .i64 zn3), (.tuple #[])] nx0 (KBlk 0 (KS Pg W 58 rs_26 an_26 false (sub (bodyOf Try.f26) [1, 1, 1, 1, 1, 1, 1]) 0 (fin Pg W 58 rv_26 R)))) (known [10, 11] [(.int .i64 n102), (.int .i64 n103)] (known [1, 2, 3, 6, 7, 9, 58] [(.int .i64 zn0), (.int .i64 zn1), (.pointer (some za2)), (.int .i64 0), (.int .i64 0), (.int .i64 zn3), (.tuple #[])] j)) = B_ref10_Could_0 W R zn0 zn1 za2 zn3 n102 n103 nx0 := by kernel_rfl
def N_ref10_Could_0 (I : Int → Int → Hp → Prop) (μ : Int → Int → Hp → Nat) (n1020 : Int) (n1030 : Int) (s : Hp) (vs : List Value) : Hp → Prop := fun s' => ∃ n102 n103, vs = [(.int .i64 n102), (.int .i64 n103)] ∧ I n102 n103 s' ∧ μ n102 n103 s' < μ n1020 n1030 s
theorem L_ref10_Could_0_rule (W : World) (R : Ending → Hp → Prop) (zn0 : Int) (zn1 : Int) (za2 : Addr) (zn3 : Int) (I : Int → Int → Hp → Prop) (μ : Int → Int → Hp → Nat) (n1020 : Int) (n1030 : Int) (s : Hp) (h0 : I n1020 n1030 s)
    (hr : ∀ (n102 : Int) (n103 : Int) (s : Hp), I n102 n103 s → B_ref10_Could_0 W R zn0 zn1 za2 zn3 n102 n103 (fun vs => N_ref10_Could_0 I μ n102 n103 s vs) s) : L_ref10_Could_0 W R zn0 zn1 za2 zn3 n1020 n1030 s := by
  refine ⟨fun vs s => ∃ n102 n103, vs = [(.int .i64 n102), (.int .i64 n103)] ∧ I n102 n103 s, fun vs s => (match vs with | [.int _ n102, .int _ n103] => μ n102 n103 s | _ => 0), ⟨⟨⟨_, rfl⟩, ⟨⟨_, rfl⟩, trivial⟩⟩, ⟨_, _, rfl, h0⟩⟩, ?_⟩
  intro n102 n103 s hI j
  obtain ⟨n102', n103', hy, hI⟩ := hI
  have hI' : I n102 n103 s := by cases hy; exact hI
  have hh := hr n102 n103 s hI'
  rw [← B_ref10_Could_0_eq W R zn0 zn1 za2 zn3 n102 n103 _ j] at hh
  refine vc_mono ?_ _ _ hh
  exact KLoop_mono (fun vs s' h => by obtain ⟨n1021, n1031, rfl, h1, h2⟩ := h; exact ⟨⟨⟨_, rfl⟩, ⟨⟨_, rfl⟩, trivial⟩⟩, ⟨_, _, rfl, h1⟩, h2⟩)
def T_ref10_Could (W : World) (n1 : Int) (n2 : Int) (x3 : Option Addr) (l4 : Nat) (c5 : Nat) (x6 : Option Addr) (l7 : Nat) (c8 : Nat) (n9 : Int) (n10 : Int) (R : Ending → Hp → Prop) : Hp → Prop :=
  NEW 25 [(.int .i64 n1), (.int .i64 n2), (.slice x3 l4 c5), (.slice x6 l7 c8)] fun B11 =>
    RDI .i64 (Addr.add ⟨B11, 0, none⟩ 0) fun n12 =>
      RDI .i64 (Addr.add ⟨B11, 0, none⟩ 1) fun n13 =>
        RDL (Addr.add ⟨B11, 0, none⟩ 2) fun x14 l15 c16 =>
          RDL (Addr.add ⟨B11, 0, none⟩ 3) fun x17 l18 c19 =>
            RDI .i64 (Addr.add ⟨B11, 0, none⟩ 0) fun n20 =>
              RDI .i64 (Addr.add ⟨B11, 0, none⟩ 1) fun n21 =>
                RDL (Addr.add ⟨B11, 0, none⟩ 2) fun x22 l23 c24 =>
                  RDL (Addr.add ⟨B11, 0, none⟩ 3) fun x25 l26 c27 =>
                    CALL Pg W F_ref10_Man [(.agg #[(.int .i64 n20), (.int .i64 n21), (.slice x22 l23 c24), (.slice x25 l26 c27)]), (.int .i64 n9)]
                      (fun v28 => TYB v28 fun b30 =>
                        ANDS (RDI .i64 (Addr.add ⟨B11, 0, none⟩ 0) fun n31 =>
                          RDI .i64 (Addr.add ⟨B11, 0, none⟩ 1) fun n32 =>
                            RDL (Addr.add ⟨B11, 0, none⟩ 2) fun x33 l34 c35 =>
                              RDL (Addr.add ⟨B11, 0, none⟩ 3) fun x36 l37 c38 =>
                                fun _ => ((.agg #[(.int .i64 n31), (.int .i64 n32), (.slice x33 l34 c35), (.slice x36 l37 c38)]) : Value) = (.agg #[(.int .i64 n12), (.int .i64 n13), (.slice x14 l15 c16), (.slice x17 l18 c19)])) <|
                          BR b30
                            (RDI .i64 (Addr.add ⟨B11, 0, none⟩ 0) fun n39 =>
                              RDI .i64 (Addr.add ⟨B11, 0, none⟩ 1) fun n40 =>
                                RDL (Addr.add ⟨B11, 0, none⟩ 2) fun x41 l42 c43 =>
                                  RDL (Addr.add ⟨B11, 0, none⟩ 3) fun x44 l45 c46 =>
                                    CALL Pg W F_ref10_Man [(.agg #[(.int .i64 n39), (.int .i64 n40), (.slice x41 l42 c43), (.slice x44 l45 c46)]), (.int .i64 n10)]
                                      (fun v47 => TYB v47 fun b49 =>
                                        ANDS (RDI .i64 (Addr.add ⟨B11, 0, none⟩ 0) fun n50 =>
                                          RDI .i64 (Addr.add ⟨B11, 0, none⟩ 1) fun n51 =>
                                            RDL (Addr.add ⟨B11, 0, none⟩ 2) fun x52 l53 c54 =>
                                              RDL (Addr.add ⟨B11, 0, none⟩ 3) fun x55 l56 c57 =>
                                                fun _ => ((.agg #[(.int .i64 n50), (.int .i64 n51), (.slice x52 l53 c54), (.slice x55 l56 c57)]) : Value) = (.agg #[(.int .i64 n12), (.int .i64 n13), (.slice x14 l15 c16), (.slice x17 l18 c19)])) <|
                                          J_ref10_Could_0 W R n12 n13 x14 l15 c16 x17 l18 c19 b49 B11 n9 n10)
                                        (fun e48 => R (.panicked e48)))
                            (J_ref10_Could_0 W R n12 n13 x14 l15 c16 x17 l18 c19 false B11 n9 n10))
                        (fun e29 => R (.panicked e29))
theorem T_ref10_Could_eq (W : World) (n1 : Int) (n2 : Int) (x3 : Option Addr) (l4 : Nat) (c5 : Nat) (x6 : Option Addr) (l7 : Nat) (c8 : Nat) (n9 : Int) (n10 : Int) (R : Ending → Hp → Prop) : vfun Pg W an_26 Try.f26 [(.agg #[(.int .i64 n1), (.int .i64 n2), (.slice x3 l4 c5), (.slice x6 l7 c8)]), (.int .i64 n9), (.int .i64 n10)] R = T_ref10_Could W n1 n2 x3 l4 c5 x6 l7 c8 n9 n10 R := by kernel_rfl
theorem does_ref10_Could (W : World) (n1 : Int) (n2 : Int) (x3 : Option Addr) (l4 : Nat) (c5 : Nat) (x6 : Option Addr) (l7 : Nat) (c8 : Nat) (n9 : Int) (n10 : Int) (R : Ending → Hp → Prop) (s : Hp) (h : T_ref10_Could W n1 n2 x3 l4 c5 x6 l7 c8 n9 n10 R s) : Does Pg W F_ref10_Could #[(.agg #[(.int .i64 n1), (.int .i64 n2), (.slice x3 l4 c5), (.slice x6 l7 c8)]), (.int .i64 n9), (.int .i64 n10)] s R :=
  does_of_vfun Pg W an_26 Try.func26 rfl (by kernel_rfl) (by rw [T_ref10_Could_eq]; exact h)
def an_28 : Nat → Ann := fun b => match b with
  | 0 => { ms := [8, 9, 12], ks := [.i .i64, .i .i64, .i .i64], us := [1, 2, 3, 4, 11, 55], rt := false, ex := [] }
  | _ => {}
abbrev rv_28 : List ResultVar := [.tmp 8, .tmp 9]
abbrev rs_28 : List Nat := [55, 8, 9]
def L_ref10_Need_0 (W : World) (R : Ending → Hp → Prop) (zn0 : Int) (zn1 : Int) (zn2 : Int) (za3 : Addr) (za4 : Addr) (n148 : Int) (n149 : Int) (n150 : Int) : Hp → Prop :=
  LOOPN [.i .i64, .i .i64, .i .i64] (fun ys next s => ∀ j : Tm, vc Pg W 55 rs_28 an_28 false (sub (bodyOf Try.f28) [1, 1, 1, 1, 0, 1, 0, 0]) 0 (KLoop [8, 9, 12] [1, 2, 3, 4, 11, 55] [(.int .i64 zn0), (.int .i64 zn1), (.int .i64 zn2), (.pointer (some za3)), (.pointer (some za4)), (.tuple #[])] next (KBlk 0 (KS Pg W 55 rs_28 an_28 false (sub (bodyOf Try.f28) [1, 1, 1, 1, 1]) 0 (fin Pg W 55 rv_28 R)))) (known [8, 9, 12] ys (known [1, 2, 3, 4, 11, 55] [(.int .i64 zn0), (.int .i64 zn1), (.int .i64 zn2), (.pointer (some za3)), (.pointer (some za4)), (.tuple #[])] j)) s) [(.int .i64 n148), (.int .i64 n149), (.int .i64 n150)]
def J_ref10_Need_0 (W : World) (R : Ending → Hp → Prop) (n97 : Int) (n98 : Int) (x99 : Option Addr) (l100 : Nat) (c101 : Nat) (x102 : Option Addr) (l103 : Nat) (c104 : Nat) (b125 : Bool) (B12 : Nat) (n9 : Int) (n10 : Int) (n11 : Int) : Hp → Prop :=
  CALL Pg W F_ref10_check [(.agg #[(.int .i64 n97), (.int .i64 n98), (.slice x99 l100 c101), (.slice x102 l103 c104)]), (.bool b125)]
    (fun v126 => TYI .i64 v126 fun n128 =>
      BR (n128 != 0)
        (R (.returned (.tuple #[(.int .i64 0), (.int .i64 n128)])))
        (RDI .i64 (Addr.add ⟨B12, 0, none⟩ 0) fun n129 =>
          RDI .i64 (Addr.add ⟨B12, 0, none⟩ 1) fun n130 =>
            RDL (Addr.add ⟨B12, 0, none⟩ 2) fun x131 l132 c133 =>
              RDL (Addr.add ⟨B12, 0, none⟩ 3) fun x134 l135 c136 =>
                CALL Pg W F_ref10_Points [(.agg #[(.int .i64 n129), (.int .i64 n130), (.slice x131 l132 c133), (.slice x134 l135 c136)]), (.int .i64 n9), (.int .i64 n10)]
                  (fun v137 => AGG v137 fun q139 => HD q139 fun v140 r141 => TYI .i64 v140 fun n142 =>
                    HD r141 fun v143 r144 => TYI .i64 v143 fun n145 =>
                      NL r144 <|
                        NEWZ Pg 29 fun B146 =>
                          WR (Addr.add ⟨B146, 0, none⟩ 0) (.int .i64 n142) <|
                            WR (Addr.add ⟨B146, 0, none⟩ 1) (.int .i64 n145) <|
                              RDI .i64 (Addr.add ⟨B146, 0, none⟩ 0) fun n147 =>
                                L_ref10_Need_0 W R n9 n10 n11 ⟨B12, 0, none⟩ ⟨B146, 0, none⟩ 0 0 n147)
                    (fun e138 => R (.panicked e138))))
      (fun e127 => R (.panicked e127))
def J_ref10_Need_1 (W : World) (R : Ending → Hp → Prop) (b84 : Bool) (B12 : Nat) (n11 : Int) (n59 : Int) (n60 : Int) (x61 : Option Addr) (l62 : Nat) (c63 : Nat) (x64 : Option Addr) (l65 : Nat) (c66 : Nat) (n9 : Int) (n10 : Int) : Hp → Prop :=
  BR b84
    (RDI .i64 (Addr.add ⟨B12, 0, none⟩ 0) fun n85 =>
      CALL Pg W F_ref10_in [(.int .i64 n11), (.int .i64 1), (.int .i64 n85)]
        (fun v86 => TYB v86 fun b88 =>
          ANDS (RDI .i64 (Addr.add ⟨B12, 0, none⟩ 0) fun n89 =>
            RDI .i64 (Addr.add ⟨B12, 0, none⟩ 1) fun n90 =>
              RDL (Addr.add ⟨B12, 0, none⟩ 2) fun x91 l92 c93 =>
                RDL (Addr.add ⟨B12, 0, none⟩ 3) fun x94 l95 c96 =>
                  fun _ => ((.agg #[(.int .i64 n89), (.int .i64 n90), (.slice x91 l92 c93), (.slice x94 l95 c96)]) : Value) = (.agg #[(.int .i64 n59), (.int .i64 n60), (.slice x61 l62 c63), (.slice x64 l65 c66)])) <|
            J_ref10_Need_0 W R n59 n60 x61 l62 c63 x64 l65 c66 b88 B12 n9 n10 n11)
          (fun e87 => R (.panicked e87)))
    (J_ref10_Need_0 W R n59 n60 x61 l62 c63 x64 l65 c66 false B12 n9 n10 n11)
def B_ref10_Need_0 (W : World) (R : Ending → Hp → Prop) (zn0 : Int) (zn1 : Int) (zn2 : Int) (za3 : Addr) (za4 : Addr) (n148 : Int) (n149 : Int) (n150 : Int) (nx0 : List Value → Hp → Prop) : Hp → Prop :=
  RDI .i64 (Addr.add za4 1) fun n151 =>
    BR (decide (n150 ≤ n151))
      (RDI .i64 (Addr.add za3 0) fun n152 =>
        RDI .i64 (Addr.add za3 1) fun n153 =>
          RDL (Addr.add za3 2) fun x154 l155 c156 =>
            RDL (Addr.add za3 3) fun x157 l158 c159 =>
              CALL Pg W F_ref10_With [(.agg #[(.int .i64 n152), (.int .i64 n153), (.slice x154 l155 c156), (.slice x157 l158 c159)]), (.int .i64 zn0), (.int .i64 zn1), (.int .i64 n150)]
                (fun v160 => AGG v160 fun q162 => HD q162 fun v163 r164 => TYI .i64 v163 fun n165 =>
                  HD r164 fun v166 r167 => TYI .i64 v166 fun n168 =>
                    HD r167 fun v169 r170 => TYL v169 fun x171 l172 c173 =>
                      HD r170 fun v174 r175 => TYL v174 fun x176 l177 c178 =>
                        NL r175 <|
                          CALL Pg W F_ref10_place [(.agg #[(.int .i64 n165), (.int .i64 n168), (.slice x171 l172 c173), (.slice x176 l177 c178)]), (.int .i64 zn0)]
                            (fun v179 => AGG v179 fun q181 => HD q181 fun v182 r183 => TYI .i64 v182 fun n184 =>
                              HD r183 fun v185 r186 => TYI .i64 v185 fun n187 =>
                                NL r186 <|
                                  BR (decide (n187 ≤ zn2))
                                    (R (.returned (.tuple #[(.int .i64 n150), (.int .i64 0)])))
                                    (NX [(.int .i64 zn0), (.int .i64 zn1), (.int .i64 zn2), (.pointer (some za3)), (.pointer (some za4)), (.tuple #[])] [(.int .i64 zn0), (.int .i64 zn1), (.int .i64 zn2), (.pointer (some za3)), (.pointer (some za4)), (.tuple #[])] (nx0 [(.int .i64 n148), (.int .i64 n149), (.int .i64 (IntKind.wrap .i64 (n150 + 1)))])))
                              (fun e180 => R (.panicked e180)))
                  (fun e161 => R (.panicked e161)))
      (R (.returned (.tuple #[(.int .i64 0), (.int .i64 4)])))
theorem B_ref10_Need_0_eq (W : World) (R : Ending → Hp → Prop) (zn0 : Int) (zn1 : Int) (zn2 : Int) (za3 : Addr) (za4 : Addr) (n148 : Int) (n149 : Int) (n150 : Int) (nx0 : List Value → Hp → Prop) (j : Tm) : vc Pg W 55 rs_28 an_28 false (sub (bodyOf Try.f28) [1, 1, 1, 1, 0, 1, 0, 0]) 0 (KLoop [8, 9, 12] [1, 2, 3, 4, 11, 55] [(.int .i64 zn0), (.int .i64 zn1), (.int .i64 zn2), (.pointer (some za3)), (.pointer (some za4)), (.tuple #[])] nx0 (KBlk 0 (KS Pg W 55 rs_28 an_28 false (sub (bodyOf Try.f28) [1, 1, 1, 1, 1]) 0 (fin Pg W 55 rv_28 R)))) (known [8, 9, 12] [(.int .i64 n148), (.int .i64 n149), (.int .i64 n150)] (known [1, 2, 3, 4, 11, 55] [(.int .i64 zn0), (.int .i64 zn1), (.int .i64 zn2), (.pointer (some za3)), (.pointer (some za4)), (.tuple #[])] j)) = B_ref10_Need_0 W R zn0 zn1 zn2 za3 za4 n148 n149 n150 nx0 := by kernel_rfl
def N_ref10_Need_0 (I : Int → Int → Int → Hp → Prop) (μ : Int → Int → Int → Hp → Nat) (n1480 : Int) (n1490 : Int) (n1500 : Int) (s : Hp) (vs : List Value) : Hp → Prop := fun s' => ∃ n148 n149 n150, vs = [(.int .i64 n148), (.int .i64 n149), (.int .i64 n150)] ∧ I n148 n149 n150 s' ∧ μ n148 n149 n150 s' < μ n1480 n1490 n1500 s
theorem L_ref10_Need_0_rule (W : World) (R : Ending → Hp → Prop) (zn0 : Int) (zn1 : Int) (zn2 : Int) (za3 : Addr) (za4 : Addr) (I : Int → Int → Int → Hp → Prop) (μ : Int → Int → Int → Hp → Nat) (n1480 : Int) (n1490 : Int) (n1500 : Int) (s : Hp) (h0 : I n1480 n1490 n1500 s)
    (hr : ∀ (n148 : Int) (n149 : Int) (n150 : Int) (s : Hp), I n148 n149 n150 s → B_ref10_Need_0 W R zn0 zn1 zn2 za3 za4 n148 n149 n150 (fun vs => N_ref10_Need_0 I μ n148 n149 n150 s vs) s) : L_ref10_Need_0 W R zn0 zn1 zn2 za3 za4 n1480 n1490 n1500 s := by
  refine ⟨fun vs s => ∃ n148 n149 n150, vs = [(.int .i64 n148), (.int .i64 n149), (.int .i64 n150)] ∧ I n148 n149 n150 s, fun vs s => (match vs with | [.int _ n148, .int _ n149, .int _ n150] => μ n148 n149 n150 s | _ => 0), ⟨⟨⟨_, rfl⟩, ⟨⟨_, rfl⟩, ⟨⟨_, rfl⟩, trivial⟩⟩⟩, ⟨_, _, _, rfl, h0⟩⟩, ?_⟩
  intro n148 n149 n150 s hI j
  obtain ⟨n148', n149', n150', hy, hI⟩ := hI
  have hI' : I n148 n149 n150 s := by cases hy; exact hI
  have hh := hr n148 n149 n150 s hI'
  rw [← B_ref10_Need_0_eq W R zn0 zn1 zn2 za3 za4 n148 n149 n150 _ j] at hh
  refine vc_mono ?_ _ _ hh
  exact KLoop_mono (fun vs s' h => by obtain ⟨n1481, n1491, n1501, rfl, h1, h2⟩ := h; exact ⟨⟨⟨_, rfl⟩, ⟨⟨_, rfl⟩, ⟨⟨_, rfl⟩, trivial⟩⟩⟩, ⟨_, _, _, rfl, h1⟩, h2⟩)
def T_ref10_Need (W : World) (n1 : Int) (n2 : Int) (x3 : Option Addr) (l4 : Nat) (c5 : Nat) (x6 : Option Addr) (l7 : Nat) (c8 : Nat) (n9 : Int) (n10 : Int) (n11 : Int) (R : Ending → Hp → Prop) : Hp → Prop :=
  NEW 25 [(.int .i64 n1), (.int .i64 n2), (.slice x3 l4 c5), (.slice x6 l7 c8)] fun B12 =>
    RDI .i64 (Addr.add ⟨B12, 0, none⟩ 0) fun n13 =>
      RDI .i64 (Addr.add ⟨B12, 0, none⟩ 1) fun n14 =>
        RDL (Addr.add ⟨B12, 0, none⟩ 2) fun x15 l16 c17 =>
          RDL (Addr.add ⟨B12, 0, none⟩ 3) fun x18 l19 c20 =>
            RDI .i64 (Addr.add ⟨B12, 0, none⟩ 0) fun n21 =>
              RDI .i64 (Addr.add ⟨B12, 0, none⟩ 1) fun n22 =>
                RDL (Addr.add ⟨B12, 0, none⟩ 2) fun x23 l24 c25 =>
                  RDL (Addr.add ⟨B12, 0, none⟩ 3) fun x26 l27 c28 =>
                    CALL Pg W F_ref10_Man [(.agg #[(.int .i64 n21), (.int .i64 n22), (.slice x23 l24 c25), (.slice x26 l27 c28)]), (.int .i64 n9)]
                      (fun v29 => TYB v29 fun b31 =>
                        ANDS (RDI .i64 (Addr.add ⟨B12, 0, none⟩ 0) fun n32 =>
                          RDI .i64 (Addr.add ⟨B12, 0, none⟩ 1) fun n33 =>
                            RDL (Addr.add ⟨B12, 0, none⟩ 2) fun x34 l35 c36 =>
                              RDL (Addr.add ⟨B12, 0, none⟩ 3) fun x37 l38 c39 =>
                                fun _ => ((.agg #[(.int .i64 n32), (.int .i64 n33), (.slice x34 l35 c36), (.slice x37 l38 c39)]) : Value) = (.agg #[(.int .i64 n13), (.int .i64 n14), (.slice x15 l16 c17), (.slice x18 l19 c20)])) <|
                          BR b31
                            (RDI .i64 (Addr.add ⟨B12, 0, none⟩ 0) fun n40 =>
                              RDI .i64 (Addr.add ⟨B12, 0, none⟩ 1) fun n41 =>
                                RDL (Addr.add ⟨B12, 0, none⟩ 2) fun x42 l43 c44 =>
                                  RDL (Addr.add ⟨B12, 0, none⟩ 3) fun x45 l46 c47 =>
                                    CALL Pg W F_ref10_Sheet [(.agg #[(.int .i64 n40), (.int .i64 n41), (.slice x42 l43 c44), (.slice x45 l46 c47)]), (.int .i64 n10)]
                                      (fun v48 => TYB v48 fun b50 =>
                                        ANDS (RDI .i64 (Addr.add ⟨B12, 0, none⟩ 0) fun n51 =>
                                          RDI .i64 (Addr.add ⟨B12, 0, none⟩ 1) fun n52 =>
                                            RDL (Addr.add ⟨B12, 0, none⟩ 2) fun x53 l54 c55 =>
                                              RDL (Addr.add ⟨B12, 0, none⟩ 3) fun x56 l57 c58 =>
                                                fun _ => ((.agg #[(.int .i64 n51), (.int .i64 n52), (.slice x53 l54 c55), (.slice x56 l57 c58)]) : Value) = (.agg #[(.int .i64 n13), (.int .i64 n14), (.slice x15 l16 c17), (.slice x18 l19 c20)])) <|
                                          J_ref10_Need_1 W R b50 B12 n11 n13 n14 x15 l16 c17 x18 l19 c20 n9 n10)
                                        (fun e49 => R (.panicked e49)))
                            (J_ref10_Need_1 W R false B12 n11 n13 n14 x15 l16 c17 x18 l19 c20 n9 n10))
                        (fun e30 => R (.panicked e30))
theorem T_ref10_Need_eq (W : World) (n1 : Int) (n2 : Int) (x3 : Option Addr) (l4 : Nat) (c5 : Nat) (x6 : Option Addr) (l7 : Nat) (c8 : Nat) (n9 : Int) (n10 : Int) (n11 : Int) (R : Ending → Hp → Prop) : vfun Pg W an_28 Try.f28 [(.agg #[(.int .i64 n1), (.int .i64 n2), (.slice x3 l4 c5), (.slice x6 l7 c8)]), (.int .i64 n9), (.int .i64 n10), (.int .i64 n11)] R = T_ref10_Need W n1 n2 x3 l4 c5 x6 l7 c8 n9 n10 n11 R := by kernel_rfl
theorem does_ref10_Need (W : World) (n1 : Int) (n2 : Int) (x3 : Option Addr) (l4 : Nat) (c5 : Nat) (x6 : Option Addr) (l7 : Nat) (c8 : Nat) (n9 : Int) (n10 : Int) (n11 : Int) (R : Ending → Hp → Prop) (s : Hp) (h : T_ref10_Need W n1 n2 x3 l4 c5 x6 l7 c8 n9 n10 n11 R s) : Does Pg W F_ref10_Need #[(.agg #[(.int .i64 n1), (.int .i64 n2), (.slice x3 l4 c5), (.slice x6 l7 c8)]), (.int .i64 n9), (.int .i64 n10), (.int .i64 n11)] s R :=
  does_of_vfun Pg W an_28 Try.func28 rfl (by kernel_rfl) (by rw [T_ref10_Need_eq]; exact h)
def an_30 : Nat → Ann := fun b => match b with
  | 0 => { ms := [4, 5], ks := [.l, .i .i64], us := [1, 2, 3, 62], rt := false, ex := [] }
  | 2 => { ms := [6, 7], ks := [.i .i64, .i .i64], us := [1, 2, 3, 4, 5, 62], rt := false, ex := [] }
  | 4 => { ms := [8, 9], ks := [.b, .i .i64], us := [1, 2, 3, 4, 5, 6, 7, 62], rt := false, ex := [] }
  | _ => {}
abbrev rv_30 : List ResultVar := [.tmp 2, .tmp 3]
abbrev rs_30 : List Nat := [62, 2, 3]
def L_ref10_Order_0 (W : World) (R : Ending → Hp → Prop) (za0 : Addr) (x25 : Option Addr) (l26 : Nat) (c27 : Nat) (n28 : Int) : Hp → Prop :=
  LOOPN [.l, .i .i64] (fun ys next s => ∀ j : Tm, vc Pg W 62 rs_30 an_30 false (sub (bodyOf Try.f30) [1, 1, 1, 1, 0, 0, 0]) 0 (KLoop [4, 5] [1, 2, 3, 62] [(.pointer (some za0)), (.slice none 0 0), (.int .i64 0), (.tuple #[])] next (KBlk 0 (KS Pg W 62 rs_30 an_30 false (sub (bodyOf Try.f30) [1, 1, 1, 1, 1]) 0 (fin Pg W 62 rv_30 R)))) (known [4, 5] ys (known [1, 2, 3, 62] [(.pointer (some za0)), (.slice none 0 0), (.int .i64 0), (.tuple #[])] j)) s) [(.slice x25 l26 c27), (.int .i64 n28)]
def L_ref10_Order_1 (W : World) (R : Ending → Hp → Prop) (nx0 : List Value → Hp → Prop) (za0 : Addr) (zp1 : Option Addr) (zl2 : Nat) (zl3 : Nat) (zn4 : Int) (n29 : Int) (n30 : Int) : Hp → Prop :=
  LOOPN [.i .i64, .i .i64] (fun ys next s => ∀ j : Tm, vc Pg W 62 rs_30 an_30 false (sub (bodyOf Try.f30) [1, 1, 1, 1, 0, 0, 0, 1, 0, 1, 0, 1, 0, 0]) 2 (KLoop [6, 7] [1, 2, 3, 4, 5, 62] [(.pointer (some za0)), (.slice none 0 0), (.int .i64 0), (.slice zp1 zl2 zl3), (.int .i64 zn4), (.tuple #[])] next (KBlk 2 (KS Pg W 62 rs_30 an_30 false (sub (bodyOf Try.f30) [1, 1, 1, 1, 0, 0, 0, 1, 0, 1, 1]) 1 (KBlk 1 (KLoop [4, 5] [1, 2, 3, 62] [(.pointer (some za0)), (.slice none 0 0), (.int .i64 0), (.tuple #[])] nx0 (KBlk 0 (KS Pg W 62 rs_30 an_30 false (sub (bodyOf Try.f30) [1, 1, 1, 1, 1]) 0 (fin Pg W 62 rv_30 R)))))))) (known [6, 7] ys (known [1, 2, 3, 4, 5, 62] [(.pointer (some za0)), (.slice none 0 0), (.int .i64 0), (.slice zp1 zl2 zl3), (.int .i64 zn4), (.tuple #[])] j)) s) [(.int .i64 n29), (.int .i64 n30)]
def L_ref10_Order_2 (W : World) (R : Ending → Hp → Prop) (nx0 : List Value → Hp → Prop) (nx1 : List Value → Hp → Prop) (za0 : Addr) (zp1 : Option Addr) (zl2 : Nat) (zl3 : Nat) (zn4 : Int) (zn5 : Int) (zn6 : Int) (b43 : Bool) (n44 : Int) : Hp → Prop :=
  LOOPN [.b, .i .i64] (fun ys next s => ∀ j : Tm, vc Pg W 62 rs_30 an_30 false (sub (bodyOf Try.f30) [1, 1, 1, 1, 0, 0, 0, 1, 0, 1, 0, 1, 0, 0, 1, 0, 0, 1, 0, 1, 0, 0]) 4 (KLoop [8, 9] [1, 2, 3, 4, 5, 6, 7, 62] [(.pointer (some za0)), (.slice none 0 0), (.int .i64 0), (.slice zp1 zl2 zl3), (.int .i64 zn4), (.int .i64 zn5), (.int .i64 zn6), (.tuple #[])] next (KBlk 4 (KS Pg W 62 rs_30 an_30 false (sub (bodyOf Try.f30) [1, 1, 1, 1, 0, 0, 0, 1, 0, 1, 0, 1, 0, 0, 1, 0, 0, 1, 1]) 3 (KBlk 3 (KS Pg W 62 rs_30 an_30 false (sub (bodyOf Try.f30) [1, 1, 1, 1, 0, 0, 0, 1, 0, 1, 0, 1, 0, 0, 1, 1]) 2 (KLoop [6, 7] [1, 2, 3, 4, 5, 62] [(.pointer (some za0)), (.slice none 0 0), (.int .i64 0), (.slice zp1 zl2 zl3), (.int .i64 zn4), (.tuple #[])] nx1 (KBlk 2 (KS Pg W 62 rs_30 an_30 false (sub (bodyOf Try.f30) [1, 1, 1, 1, 0, 0, 0, 1, 0, 1, 1]) 1 (KBlk 1 (KLoop [4, 5] [1, 2, 3, 62] [(.pointer (some za0)), (.slice none 0 0), (.int .i64 0), (.tuple #[])] nx0 (KBlk 0 (KS Pg W 62 rs_30 an_30 false (sub (bodyOf Try.f30) [1, 1, 1, 1, 1]) 0 (fin Pg W 62 rv_30 R))))))))))))) (known [8, 9] ys (known [1, 2, 3, 4, 5, 6, 7, 62] [(.pointer (some za0)), (.slice none 0 0), (.int .i64 0), (.slice zp1 zl2 zl3), (.int .i64 zn4), (.int .i64 zn5), (.int .i64 zn6), (.tuple #[])] j)) s) [(.bool b43), (.int .i64 n44)]
def J_ref10_Order_0 (W : World) (R : Ending → Hp → Prop) (b32 : Bool) (zn4 : Int) (n30 : Int) (nx0 : List Value → Hp → Prop) (nx1 : List Value → Hp → Prop) (za0 : Addr) (zp1 : Option Addr) (zl2 : Nat) (zl3 : Nat) (n29 : Int) : Hp → Prop :=
  BR b32
    (CALL Pg W F_ref10_Has [(.int .i64 zn4), (.int .i64 n30)]
      (fun v33 => TYB v33 fun b35 =>
        L_ref10_Order_2 W R nx0 nx1 za0 zp1 zl2 zl3 zn4 n29 n30 b35 0)
        (fun e34 => R (.panicked e34)))
    (NEW 3 [(.int .i64 n29)] fun B36 =>
      APP Pg 3 1 zp1 zl2 zl3 (some ⟨B36, 0, none⟩) 1 fun x37 l38 c39 =>
        CALL Pg W F_ref10_power [(.int .i64 n29)]
          (fun v40 => TYI .i64 v40 fun n42 =>
            NX [(.pointer (some za0)), (.slice none 0 0), (.int .i64 0), (.tuple #[])] [(.pointer (some za0)), (.slice none 0 0), (.int .i64 0), (.tuple #[])] (nx0 [(.slice x37 l38 c39), (.int .i64 (IntKind.wrap .i64 (zn4 - n42)))]))
            (fun e41 => R (.panicked e41)))
def J_ref10_Order_1 (W : World) (R : Ending → Hp → Prop) (za0 : Addr) (zp1 : Option Addr) (zl2 : Nat) (zl3 : Nat) (zn4 : Int) (zn5 : Int) (zn6 : Int) (nx2 : List Value → Hp → Prop) (b60 : Bool) (n44 : Int) : Hp → Prop :=
  NX [(.pointer (some za0)), (.slice none 0 0), (.int .i64 0), (.slice zp1 zl2 zl3), (.int .i64 zn4), (.int .i64 zn5), (.int .i64 zn6), (.tuple #[])] [(.pointer (some za0)), (.slice none 0 0), (.int .i64 0), (.slice zp1 zl2 zl3), (.int .i64 zn4), (.int .i64 zn5), (.int .i64 zn6), (.tuple #[])] (nx2 [(.bool b60), (.int .i64 (IntKind.wrap .i64 (n44 + 1)))])
def B_ref10_Order_0 (W : World) (R : Ending → Hp → Prop) (za0 : Addr) (x25 : Option Addr) (l26 : Nat) (c27 : Nat) (n28 : Int) (nx0 : List Value → Hp → Prop) : Hp → Prop :=
  BR (decide (n28 > 0))
    (L_ref10_Order_1 W R nx0 za0 x25 l26 c27 n28 (-1) 0)
    (R (.returned (.tuple #[(.slice x25 l26 c27), (.int .i64 0)])))
theorem B_ref10_Order_0_eq (W : World) (R : Ending → Hp → Prop) (za0 : Addr) (x25 : Option Addr) (l26 : Nat) (c27 : Nat) (n28 : Int) (nx0 : List Value → Hp → Prop) (j : Tm) : vc Pg W 62 rs_30 an_30 false (sub (bodyOf Try.f30) [1, 1, 1, 1, 0, 0, 0]) 0 (KLoop [4, 5] [1, 2, 3, 62] [(.pointer (some za0)), (.slice none 0 0), (.int .i64 0), (.tuple #[])] nx0 (KBlk 0 (KS Pg W 62 rs_30 an_30 false (sub (bodyOf Try.f30) [1, 1, 1, 1, 1]) 0 (fin Pg W 62 rv_30 R)))) (known [4, 5] [(.slice x25 l26 c27), (.int .i64 n28)] (known [1, 2, 3, 62] [(.pointer (some za0)), (.slice none 0 0), (.int .i64 0), (.tuple #[])] j)) = B_ref10_Order_0 W R za0 x25 l26 c27 n28 nx0 := by kernel_rfl
def N_ref10_Order_0 (I : Option Addr → Nat → Nat → Int → Hp → Prop) (μ : Option Addr → Nat → Nat → Int → Hp → Nat) (x250 : Option Addr) (l260 : Nat) (c270 : Nat) (n280 : Int) (s : Hp) (vs : List Value) : Hp → Prop := fun s' => ∃ x25 l26 c27 n28, vs = [(.slice x25 l26 c27), (.int .i64 n28)] ∧ I x25 l26 c27 n28 s' ∧ μ x25 l26 c27 n28 s' < μ x250 l260 c270 n280 s
theorem L_ref10_Order_0_rule (W : World) (R : Ending → Hp → Prop) (za0 : Addr) (I : Option Addr → Nat → Nat → Int → Hp → Prop) (μ : Option Addr → Nat → Nat → Int → Hp → Nat) (x250 : Option Addr) (l260 : Nat) (c270 : Nat) (n280 : Int) (s : Hp) (h0 : I x250 l260 c270 n280 s)
    (hr : ∀ (x25 : Option Addr) (l26 : Nat) (c27 : Nat) (n28 : Int) (s : Hp), I x25 l26 c27 n28 s → B_ref10_Order_0 W R za0 x25 l26 c27 n28 (fun vs => N_ref10_Order_0 I μ x25 l26 c27 n28 s vs) s) : L_ref10_Order_0 W R za0 x250 l260 c270 n280 s := by
  refine ⟨fun vs s => ∃ x25 l26 c27 n28, vs = [(.slice x25 l26 c27), (.int .i64 n28)] ∧ I x25 l26 c27 n28 s, fun vs s => (match vs with | [.slice x25 l26 c27, .int _ n28] => μ x25 l26 c27 n28 s | _ => 0), ⟨⟨⟨_, _, _, rfl⟩, ⟨⟨_, rfl⟩, trivial⟩⟩, ⟨_, _, _, _, rfl, h0⟩⟩, ?_⟩
  intro x25 l26 c27 n28 s hI j
  obtain ⟨x25', l26', c27', n28', hy, hI⟩ := hI
  have hI' : I x25 l26 c27 n28 s := by cases hy; exact hI
  have hh := hr x25 l26 c27 n28 s hI'
  rw [← B_ref10_Order_0_eq W R za0 x25 l26 c27 n28 _ j] at hh
  refine vc_mono ?_ _ _ hh
  exact KLoop_mono (fun vs s' h => by obtain ⟨x251, l261, c271, n281, rfl, h1, h2⟩ := h; exact ⟨⟨⟨_, _, _, rfl⟩, ⟨⟨_, rfl⟩, trivial⟩⟩, ⟨_, _, _, _, rfl, h1⟩, h2⟩)
def B_ref10_Order_1 (W : World) (R : Ending → Hp → Prop) (nx0 : List Value → Hp → Prop) (za0 : Addr) (zp1 : Option Addr) (zl2 : Nat) (zl3 : Nat) (zn4 : Int) (n29 : Int) (n30 : Int) (nx1 : List Value → Hp → Prop) : Hp → Prop :=
  RDI .i64 (Addr.add za0 0) fun n31 =>
    BR (decide (n30 < n31))
      (J_ref10_Order_0 W R (decide (n29 < 0)) zn4 n30 nx0 nx1 za0 zp1 zl2 zl3 n29)
      (J_ref10_Order_0 W R false zn4 n30 nx0 nx1 za0 zp1 zl2 zl3 n29)
theorem B_ref10_Order_1_eq (W : World) (R : Ending → Hp → Prop) (nx0 : List Value → Hp → Prop) (za0 : Addr) (zp1 : Option Addr) (zl2 : Nat) (zl3 : Nat) (zn4 : Int) (n29 : Int) (n30 : Int) (nx1 : List Value → Hp → Prop) (j : Tm) : vc Pg W 62 rs_30 an_30 false (sub (bodyOf Try.f30) [1, 1, 1, 1, 0, 0, 0, 1, 0, 1, 0, 1, 0, 0]) 2 (KLoop [6, 7] [1, 2, 3, 4, 5, 62] [(.pointer (some za0)), (.slice none 0 0), (.int .i64 0), (.slice zp1 zl2 zl3), (.int .i64 zn4), (.tuple #[])] nx1 (KBlk 2 (KS Pg W 62 rs_30 an_30 false (sub (bodyOf Try.f30) [1, 1, 1, 1, 0, 0, 0, 1, 0, 1, 1]) 1 (KBlk 1 (KLoop [4, 5] [1, 2, 3, 62] [(.pointer (some za0)), (.slice none 0 0), (.int .i64 0), (.tuple #[])] nx0 (KBlk 0 (KS Pg W 62 rs_30 an_30 false (sub (bodyOf Try.f30) [1, 1, 1, 1, 1]) 0 (fin Pg W 62 rv_30 R)))))))) (known [6, 7] [(.int .i64 n29), (.int .i64 n30)] (known [1, 2, 3, 4, 5, 62] [(.pointer (some za0)), (.slice none 0 0), (.int .i64 0), (.slice zp1 zl2 zl3), (.int .i64 zn4), (.tuple #[])] j)) = B_ref10_Order_1 W R nx0 za0 zp1 zl2 zl3 zn4 n29 n30 nx1 := by kernel_rfl
def N_ref10_Order_1 (I : Int → Int → Hp → Prop) (μ : Int → Int → Hp → Nat) (n290 : Int) (n300 : Int) (s : Hp) (vs : List Value) : Hp → Prop := fun s' => ∃ n29 n30, vs = [(.int .i64 n29), (.int .i64 n30)] ∧ I n29 n30 s' ∧ μ n29 n30 s' < μ n290 n300 s
theorem L_ref10_Order_1_rule (W : World) (R : Ending → Hp → Prop) (nx0 : List Value → Hp → Prop) (za0 : Addr) (zp1 : Option Addr) (zl2 : Nat) (zl3 : Nat) (zn4 : Int) (I : Int → Int → Hp → Prop) (μ : Int → Int → Hp → Nat) (n290 : Int) (n300 : Int) (s : Hp) (h0 : I n290 n300 s)
    (hr : ∀ (n29 : Int) (n30 : Int) (s : Hp), I n29 n30 s → B_ref10_Order_1 W R nx0 za0 zp1 zl2 zl3 zn4 n29 n30 (fun vs => N_ref10_Order_1 I μ n29 n30 s vs) s) : L_ref10_Order_1 W R nx0 za0 zp1 zl2 zl3 zn4 n290 n300 s := by
  refine ⟨fun vs s => ∃ n29 n30, vs = [(.int .i64 n29), (.int .i64 n30)] ∧ I n29 n30 s, fun vs s => (match vs with | [.int _ n29, .int _ n30] => μ n29 n30 s | _ => 0), ⟨⟨⟨_, rfl⟩, ⟨⟨_, rfl⟩, trivial⟩⟩, ⟨_, _, rfl, h0⟩⟩, ?_⟩
  intro n29 n30 s hI j
  obtain ⟨n29', n30', hy, hI⟩ := hI
  have hI' : I n29 n30 s := by cases hy; exact hI
  have hh := hr n29 n30 s hI'
  rw [← B_ref10_Order_1_eq W R nx0 za0 zp1 zl2 zl3 zn4 n29 n30 _ j] at hh
  refine vc_mono ?_ _ _ hh
  exact KLoop_mono (fun vs s' h => by obtain ⟨n291, n301, rfl, h1, h2⟩ := h; exact ⟨⟨⟨_, rfl⟩, ⟨⟨_, rfl⟩, trivial⟩⟩, ⟨_, _, rfl, h1⟩, h2⟩)
def B_ref10_Order_2 (W : World) (R : Ending → Hp → Prop) (nx0 : List Value → Hp → Prop) (nx1 : List Value → Hp → Prop) (za0 : Addr) (zp1 : Option Addr) (zl2 : Nat) (zl3 : Nat) (zn4 : Int) (zn5 : Int) (zn6 : Int) (b43 : Bool) (n44 : Int) (nx2 : List Value → Hp → Prop) : Hp → Prop :=
  RDI .i64 (Addr.add za0 0) fun n45 =>
    BR (decide (n44 < n45))
      (BR b43
        (CALL Pg W F_ref10_Has [(.int .i64 zn4), (.int .i64 n44)]
          (fun v46 => TYB v46 fun b48 =>
            BR b48
              (RDI .i64 (Addr.add za0 0) fun n49 =>
                RDI .i64 (Addr.add za0 1) fun n50 =>
                  RDL (Addr.add za0 2) fun x51 l52 c53 =>
                    RDL (Addr.add za0 3) fun x54 l55 c56 =>
                      CALL Pg W F_ref10_surely [(.agg #[(.int .i64 n49), (.int .i64 n50), (.slice x51 l52 c53), (.slice x54 l55 c56)]), (.int .i64 n44), (.int .i64 zn6)]
                        (fun v57 => TYB v57 fun b59 =>
                          J_ref10_Order_1 W R za0 zp1 zl2 zl3 zn4 zn5 zn6 nx2 (!b59) n44)
                          (fun e58 => R (.panicked e58)))
              (J_ref10_Order_1 W R za0 zp1 zl2 zl3 zn4 zn5 zn6 nx2 true n44))
            (fun e47 => R (.panicked e47)))
        (J_ref10_Order_1 W R za0 zp1 zl2 zl3 zn4 zn5 zn6 nx2 false n44))
      (BR b43
        (NX [(.pointer (some za0)), (.slice none 0 0), (.int .i64 0), (.slice zp1 zl2 zl3), (.int .i64 zn4), (.tuple #[])] [(.pointer (some za0)), (.slice none 0 0), (.int .i64 0), (.slice zp1 zl2 zl3), (.int .i64 zn4), (.tuple #[])] (nx1 [(.int .i64 zn6), (.int .i64 (IntKind.wrap .i64 (zn6 + 1)))]))
        (NX [(.pointer (some za0)), (.slice none 0 0), (.int .i64 0), (.slice zp1 zl2 zl3), (.int .i64 zn4), (.tuple #[])] [(.pointer (some za0)), (.slice none 0 0), (.int .i64 0), (.slice zp1 zl2 zl3), (.int .i64 zn4), (.tuple #[])] (nx1 [(.int .i64 zn5), (.int .i64 (IntKind.wrap .i64 (zn6 + 1)))])))
theorem B_ref10_Order_2_eq (W : World) (R : Ending → Hp → Prop) (nx0 : List Value → Hp → Prop) (nx1 : List Value → Hp → Prop) (za0 : Addr) (zp1 : Option Addr) (zl2 : Nat) (zl3 : Nat) (zn4 : Int) (zn5 : Int) (zn6 : Int) (b43 : Bool) (n44 : Int) (nx2 : List Value → Hp → Prop) (j : Tm) : vc Pg W 62 rs_30 an_30 false (sub (bodyOf Try.f30) [1, 1, 1, 1, 0, 0, 0, 1, 0, 1, 0, 1, 0, 0, 1, 0, 0, 1, 0, 1, 0, 0]) 4 (KLoop [8, 9] [1, 2, 3, 4, 5, 6, 7, 62] [(.pointer (some za0)), (.slice none 0 0), (.int .i64 0), (.slice zp1 zl2 zl3), (.int .i64 zn4), (.int .i64 zn5), (.int .i64 zn6), (.tuple #[])] nx2 (KBlk 4 (KS Pg W 62 rs_30 an_30 false (sub (bodyOf Try.f30) [1, 1, 1, 1, 0, 0, 0, 1, 0, 1, 0, 1, 0, 0, 1, 0, 0, 1, 1]) 3 (KBlk 3 (KS Pg W 62 rs_30 an_30 false (sub (bodyOf Try.f30) [1, 1, 1, 1, 0, 0, 0, 1, 0, 1, 0, 1, 0, 0, 1, 1]) 2 (KLoop [6, 7] [1, 2, 3, 4, 5, 62] [(.pointer (some za0)), (.slice none 0 0), (.int .i64 0), (.slice zp1 zl2 zl3), (.int .i64 zn4), (.tuple #[])] nx1 (KBlk 2 (KS Pg W 62 rs_30 an_30 false (sub (bodyOf Try.f30) [1, 1, 1, 1, 0, 0, 0, 1, 0, 1, 1]) 1 (KBlk 1 (KLoop [4, 5] [1, 2, 3, 62] [(.pointer (some za0)), (.slice none 0 0), (.int .i64 0), (.tuple #[])] nx0 (KBlk 0 (KS Pg W 62 rs_30 an_30 false (sub (bodyOf Try.f30) [1, 1, 1, 1, 1]) 0 (fin Pg W 62 rv_30 R))))))))))))) (known [8, 9] [(.bool b43), (.int .i64 n44)] (known [1, 2, 3, 4, 5, 6, 7, 62] [(.pointer (some za0)), (.slice none 0 0), (.int .i64 0), (.slice zp1 zl2 zl3), (.int .i64 zn4), (.int .i64 zn5), (.int .i64 zn6), (.tuple #[])] j)) = B_ref10_Order_2 W R nx0 nx1 za0 zp1 zl2 zl3 zn4 zn5 zn6 b43 n44 nx2 := by kernel_rfl
def N_ref10_Order_2 (I : Bool → Int → Hp → Prop) (μ : Bool → Int → Hp → Nat) (b430 : Bool) (n440 : Int) (s : Hp) (vs : List Value) : Hp → Prop := fun s' => ∃ b43 n44, vs = [(.bool b43), (.int .i64 n44)] ∧ I b43 n44 s' ∧ μ b43 n44 s' < μ b430 n440 s
theorem L_ref10_Order_2_rule (W : World) (R : Ending → Hp → Prop) (nx0 : List Value → Hp → Prop) (nx1 : List Value → Hp → Prop) (za0 : Addr) (zp1 : Option Addr) (zl2 : Nat) (zl3 : Nat) (zn4 : Int) (zn5 : Int) (zn6 : Int) (I : Bool → Int → Hp → Prop) (μ : Bool → Int → Hp → Nat) (b430 : Bool) (n440 : Int) (s : Hp) (h0 : I b430 n440 s)
    (hr : ∀ (b43 : Bool) (n44 : Int) (s : Hp), I b43 n44 s → B_ref10_Order_2 W R nx0 nx1 za0 zp1 zl2 zl3 zn4 zn5 zn6 b43 n44 (fun vs => N_ref10_Order_2 I μ b43 n44 s vs) s) : L_ref10_Order_2 W R nx0 nx1 za0 zp1 zl2 zl3 zn4 zn5 zn6 b430 n440 s := by
  refine ⟨fun vs s => ∃ b43 n44, vs = [(.bool b43), (.int .i64 n44)] ∧ I b43 n44 s, fun vs s => (match vs with | [.bool b43, .int _ n44] => μ b43 n44 s | _ => 0), ⟨⟨⟨_, rfl⟩, ⟨⟨_, rfl⟩, trivial⟩⟩, ⟨_, _, rfl, h0⟩⟩, ?_⟩
  intro b43 n44 s hI j
  obtain ⟨b43', n44', hy, hI⟩ := hI
  have hI' : I b43 n44 s := by cases hy; exact hI
  have hh := hr b43 n44 s hI'
  rw [← B_ref10_Order_2_eq W R nx0 nx1 za0 zp1 zl2 zl3 zn4 zn5 zn6 b43 n44 _ j] at hh
  refine vc_mono ?_ _ _ hh
  exact KLoop_mono (fun vs s' h => by obtain ⟨b431, n441, rfl, h1, h2⟩ := h; exact ⟨⟨⟨_, rfl⟩, ⟨⟨_, rfl⟩, trivial⟩⟩, ⟨_, _, rfl, h1⟩, h2⟩)
def T_ref10_Order (W : World) (n1 : Int) (n2 : Int) (x3 : Option Addr) (l4 : Nat) (c5 : Nat) (x6 : Option Addr) (l7 : Nat) (c8 : Nat) (R : Ending → Hp → Prop) : Hp → Prop :=
  NEW 25 [(.int .i64 n1), (.int .i64 n2), (.slice x3 l4 c5), (.slice x6 l7 c8)] fun B9 =>
    RDI .i64 (Addr.add ⟨B9, 0, none⟩ 0) fun n10 =>
      RDI .i64 (Addr.add ⟨B9, 0, none⟩ 1) fun n11 =>
        RDL (Addr.add ⟨B9, 0, none⟩ 2) fun x12 l13 c14 =>
          RDL (Addr.add ⟨B9, 0, none⟩ 3) fun x15 l16 c17 =>
            CALL Pg W F_ref10_Table [(.agg #[(.int .i64 n10), (.int .i64 n11), (.slice x12 l13 c14), (.slice x15 l16 c17)])]
              (fun v18 => TYB v18 fun b20 =>
                BR (!b20)
                  (R (.returned (.tuple #[(.slice none 0 0), (.int .i64 1)])))
                  (RDI .i64 (Addr.add ⟨B9, 0, none⟩ 0) fun n21 =>
                    CALL Pg W F_ref10_power [(.int .i64 n21)]
                      (fun v22 => TYI .i64 v22 fun n24 =>
                        L_ref10_Order_0 W R ⟨B9, 0, none⟩ none 0 0 (IntKind.wrap .i64 (n24 - 1)))
                        (fun e23 => R (.panicked e23))))
                (fun e19 => R (.panicked e19))
theorem T_ref10_Order_eq (W : World) (n1 : Int) (n2 : Int) (x3 : Option Addr) (l4 : Nat) (c5 : Nat) (x6 : Option Addr) (l7 : Nat) (c8 : Nat) (R : Ending → Hp → Prop) : vfun Pg W an_30 Try.f30 [(.agg #[(.int .i64 n1), (.int .i64 n2), (.slice x3 l4 c5), (.slice x6 l7 c8)])] R = T_ref10_Order W n1 n2 x3 l4 c5 x6 l7 c8 R := by kernel_rfl
theorem does_ref10_Order (W : World) (n1 : Int) (n2 : Int) (x3 : Option Addr) (l4 : Nat) (c5 : Nat) (x6 : Option Addr) (l7 : Nat) (c8 : Nat) (R : Ending → Hp → Prop) (s : Hp) (h : T_ref10_Order W n1 n2 x3 l4 c5 x6 l7 c8 R s) : Does Pg W F_ref10_Order #[(.agg #[(.int .i64 n1), (.int .i64 n2), (.slice x3 l4 c5), (.slice x6 l7 c8)])] s R :=
  does_of_vfun Pg W an_30 Try.func30 rfl (by kernel_rfl) (by rw [T_ref10_Order_eq]; exact h)
def an_51 : Nat → Ann := fun b => match b with
  | _ => {}
abbrev rv_51 : List ResultVar := [.tmp 4]
abbrev rs_51 : List Nat := [10, 4]
def T_ref10_check (W : World) (n1 : Int) (n2 : Int) (x3 : Option Addr) (l4 : Nat) (c5 : Nat) (x6 : Option Addr) (l7 : Nat) (c8 : Nat) (b9 : Bool) (R : Ending → Hp → Prop) : Hp → Prop :=
  NEW 25 [(.int .i64 n1), (.int .i64 n2), (.slice x3 l4 c5), (.slice x6 l7 c8)] fun B10 =>
    RDI .i64 (Addr.add ⟨B10, 0, none⟩ 0) fun n11 =>
      RDI .i64 (Addr.add ⟨B10, 0, none⟩ 1) fun n12 =>
        RDL (Addr.add ⟨B10, 0, none⟩ 2) fun x13 l14 c15 =>
          RDL (Addr.add ⟨B10, 0, none⟩ 3) fun x16 l17 c18 =>
            CALL Pg W F_ref10_Table [(.agg #[(.int .i64 n11), (.int .i64 n12), (.slice x13 l14 c15), (.slice x16 l17 c18)])]
              (fun v19 => TYB v19 fun b21 =>
                BR (!b21)
                  (R (.returned (.int .i64 1)))
                  (BR (!b9)
                    (R (.returned (.int .i64 2)))
                    (R (.returned (.int .i64 0)))))
                (fun e20 => R (.panicked e20))
theorem T_ref10_check_eq (W : World) (n1 : Int) (n2 : Int) (x3 : Option Addr) (l4 : Nat) (c5 : Nat) (x6 : Option Addr) (l7 : Nat) (c8 : Nat) (b9 : Bool) (R : Ending → Hp → Prop) : vfun Pg W an_51 Try.f51 [(.agg #[(.int .i64 n1), (.int .i64 n2), (.slice x3 l4 c5), (.slice x6 l7 c8)]), (.bool b9)] R = T_ref10_check W n1 n2 x3 l4 c5 x6 l7 c8 b9 R := by kernel_rfl
theorem does_ref10_check (W : World) (n1 : Int) (n2 : Int) (x3 : Option Addr) (l4 : Nat) (c5 : Nat) (x6 : Option Addr) (l7 : Nat) (c8 : Nat) (b9 : Bool) (R : Ending → Hp → Prop) (s : Hp) (h : T_ref10_check W n1 n2 x3 l4 c5 x6 l7 c8 b9 R s) : Does Pg W F_ref10_check #[(.agg #[(.int .i64 n1), (.int .i64 n2), (.slice x3 l4 c5), (.slice x6 l7 c8)]), (.bool b9)] s R :=
  does_of_vfun Pg W an_51 Try.func51 rfl (by kernel_rfl) (by rw [T_ref10_check_eq]; exact h)
def an_52 : Nat → Ann := fun b => match b with
  | _ => {}
abbrev rv_52 : List ResultVar := [.tmp 4]
abbrev rs_52 : List Nat := [10, 4]
def T_ref10_Man (W : World) (n1 : Int) (n2 : Int) (x3 : Option Addr) (l4 : Nat) (c5 : Nat) (x6 : Option Addr) (l7 : Nat) (c8 : Nat) (n9 : Int) (R : Ending → Hp → Prop) : Hp → Prop :=
  NEW 25 [(.int .i64 n1), (.int .i64 n2), (.slice x3 l4 c5), (.slice x6 l7 c8)] fun B10 =>
    RDI .i64 (Addr.add ⟨B10, 0, none⟩ 0) fun n11 =>
      CALL Pg W F_ref10_in [(.int .i64 n9), (.int .i64 0), (.int .i64 (IntKind.wrap .i64 (n11 - 1)))]
        (fun v12 => TYB v12 fun b14 =>
          R (.returned (.bool b14)))
          (fun e13 => R (.panicked e13))
theorem T_ref10_Man_eq (W : World) (n1 : Int) (n2 : Int) (x3 : Option Addr) (l4 : Nat) (c5 : Nat) (x6 : Option Addr) (l7 : Nat) (c8 : Nat) (n9 : Int) (R : Ending → Hp → Prop) : vfun Pg W an_52 Try.f52 [(.agg #[(.int .i64 n1), (.int .i64 n2), (.slice x3 l4 c5), (.slice x6 l7 c8)]), (.int .i64 n9)] R = T_ref10_Man W n1 n2 x3 l4 c5 x6 l7 c8 n9 R := by kernel_rfl
theorem does_ref10_Man (W : World) (n1 : Int) (n2 : Int) (x3 : Option Addr) (l4 : Nat) (c5 : Nat) (x6 : Option Addr) (l7 : Nat) (c8 : Nat) (n9 : Int) (R : Ending → Hp → Prop) (s : Hp) (h : T_ref10_Man W n1 n2 x3 l4 c5 x6 l7 c8 n9 R s) : Does Pg W F_ref10_Man #[(.agg #[(.int .i64 n1), (.int .i64 n2), (.slice x3 l4 c5), (.slice x6 l7 c8)]), (.int .i64 n9)] s R :=
  does_of_vfun Pg W an_52 Try.func52 rfl (by kernel_rfl) (by rw [T_ref10_Man_eq]; exact h)
def an_53 : Nat → Ann := fun b => match b with
  | 0 => { ms := [5, 6], ks := [.l, .i .i64], us := [1, 2, 4, 25], rt := false, ex := [] }
  | _ => {}
abbrev rv_53 : List ResultVar := [.tmp 4]
abbrev rs_53 : List Nat := [25, 4]
def L_ref10_least_0 (W : World) (R : Ending → Hp → Prop) (zn0 : Int) (za1 : Addr) (x11 : Option Addr) (l12 : Nat) (c13 : Nat) (n14 : Int) : Hp → Prop :=
  LOOPN [.l, .i .i64] (fun ys next s => ∀ j : Tm, vc Pg W 25 rs_53 an_53 false (sub (bodyOf Try.f53) [1, 1, 0, 1, 0, 0]) 0 (KLoop [5, 6] [1, 2, 4, 25] [(.int .i64 zn0), (.pointer (some za1)), (.slice none 0 0), (.tuple #[])] next (KBlk 0 (KS Pg W 25 rs_53 an_53 false (sub (bodyOf Try.f53) [1, 1, 1]) 0 (fin Pg W 25 rv_53 R)))) (known [5, 6] ys (known [1, 2, 4, 25] [(.int .i64 zn0), (.pointer (some za1)), (.slice none 0 0), (.tuple #[])] j)) s) [(.slice x11 l12 c13), (.int .i64 n14)]
def B_ref10_least_0 (W : World) (R : Ending → Hp → Prop) (zn0 : Int) (za1 : Addr) (x11 : Option Addr) (l12 : Nat) (c13 : Nat) (n14 : Int) (nx0 : List Value → Hp → Prop) : Hp → Prop :=
  RDI .i64 (Addr.add za1 1) fun n15 =>
    BR (decide (n14 < n15))
      (RDI .i64 (Addr.add za1 0) fun n16 =>
        RDI .i64 (Addr.add za1 1) fun n17 =>
          RDL (Addr.add za1 2) fun x18 l19 c20 =>
            RDL (Addr.add za1 3) fun x21 l22 c23 =>
              CALL Pg W F_ref10_Points [(.agg #[(.int .i64 n16), (.int .i64 n17), (.slice x18 l19 c20), (.slice x21 l22 c23)]), (.int .i64 zn0), (.int .i64 n14)]
                (fun v24 => AGG v24 fun q26 => HD q26 fun v27 r28 => TYI .i64 v27 fun n29 =>
                  HD r28 fun v30 r31 => TYI .i64 v30 fun n32 =>
                    NL r31 <|
                      NEW 3 [(.int .i64 n29)] fun B33 =>
                        APP Pg 3 1 x11 l12 c13 (some ⟨B33, 0, none⟩) 1 fun x34 l35 c36 =>
                          NX [(.int .i64 zn0), (.pointer (some za1)), (.slice none 0 0), (.tuple #[])] [(.int .i64 zn0), (.pointer (some za1)), (.slice none 0 0), (.tuple #[])] (nx0 [(.slice x34 l35 c36), (.int .i64 (IntKind.wrap .i64 (n14 + 1)))]))
                  (fun e25 => R (.panicked e25)))
      (RDI .i64 (Addr.add za1 0) fun n37 =>
        RDI .i64 (Addr.add za1 1) fun n38 =>
          RDL (Addr.add za1 2) fun x39 l40 c41 =>
            RDL (Addr.add za1 3) fun x42 l43 c44 =>
              CALL Pg W F_ref10_row [(.agg #[(.int .i64 n37), (.int .i64 n38), (.slice x39 l40 c41), (.slice x42 l43 c44)]), (.int .i64 zn0), (.slice x11 l12 c13)]
                (fun v45 => TYL v45 fun x47 l48 c49 =>
                  R (.returned (.slice x47 l48 c49)))
                  (fun e46 => R (.panicked e46)))
theorem B_ref10_least_0_eq (W : World) (R : Ending → Hp → Prop) (zn0 : Int) (za1 : Addr) (x11 : Option Addr) (l12 : Nat) (c13 : Nat) (n14 : Int) (nx0 : List Value → Hp → Prop) (j : Tm) : vc Pg W 25 rs_53 an_53 false (sub (bodyOf Try.f53) [1, 1, 0, 1, 0, 0]) 0 (KLoop [5, 6] [1, 2, 4, 25] [(.int .i64 zn0), (.pointer (some za1)), (.slice none 0 0), (.tuple #[])] nx0 (KBlk 0 (KS Pg W 25 rs_53 an_53 false (sub (bodyOf Try.f53) [1, 1, 1]) 0 (fin Pg W 25 rv_53 R)))) (known [5, 6] [(.slice x11 l12 c13), (.int .i64 n14)] (known [1, 2, 4, 25] [(.int .i64 zn0), (.pointer (some za1)), (.slice none 0 0), (.tuple #[])] j)) = B_ref10_least_0 W R zn0 za1 x11 l12 c13 n14 nx0 := by kernel_rfl
def N_ref10_least_0 (I : Option Addr → Nat → Nat → Int → Hp → Prop) (μ : Option Addr → Nat → Nat → Int → Hp → Nat) (x110 : Option Addr) (l120 : Nat) (c130 : Nat) (n140 : Int) (s : Hp) (vs : List Value) : Hp → Prop := fun s' => ∃ x11 l12 c13 n14, vs = [(.slice x11 l12 c13), (.int .i64 n14)] ∧ I x11 l12 c13 n14 s' ∧ μ x11 l12 c13 n14 s' < μ x110 l120 c130 n140 s
theorem L_ref10_least_0_rule (W : World) (R : Ending → Hp → Prop) (zn0 : Int) (za1 : Addr) (I : Option Addr → Nat → Nat → Int → Hp → Prop) (μ : Option Addr → Nat → Nat → Int → Hp → Nat) (x110 : Option Addr) (l120 : Nat) (c130 : Nat) (n140 : Int) (s : Hp) (h0 : I x110 l120 c130 n140 s)
    (hr : ∀ (x11 : Option Addr) (l12 : Nat) (c13 : Nat) (n14 : Int) (s : Hp), I x11 l12 c13 n14 s → B_ref10_least_0 W R zn0 za1 x11 l12 c13 n14 (fun vs => N_ref10_least_0 I μ x11 l12 c13 n14 s vs) s) : L_ref10_least_0 W R zn0 za1 x110 l120 c130 n140 s := by
  refine ⟨fun vs s => ∃ x11 l12 c13 n14, vs = [(.slice x11 l12 c13), (.int .i64 n14)] ∧ I x11 l12 c13 n14 s, fun vs s => (match vs with | [.slice x11 l12 c13, .int _ n14] => μ x11 l12 c13 n14 s | _ => 0), ⟨⟨⟨_, _, _, rfl⟩, ⟨⟨_, rfl⟩, trivial⟩⟩, ⟨_, _, _, _, rfl, h0⟩⟩, ?_⟩
  intro x11 l12 c13 n14 s hI j
  obtain ⟨x11', l12', c13', n14', hy, hI⟩ := hI
  have hI' : I x11 l12 c13 n14 s := by cases hy; exact hI
  have hh := hr x11 l12 c13 n14 s hI'
  rw [← B_ref10_least_0_eq W R zn0 za1 x11 l12 c13 n14 _ j] at hh
  refine vc_mono ?_ _ _ hh
  exact KLoop_mono (fun vs s' h => by obtain ⟨x111, l121, c131, n141, rfl, h1, h2⟩ := h; exact ⟨⟨⟨_, _, _, rfl⟩, ⟨⟨_, rfl⟩, trivial⟩⟩, ⟨_, _, _, _, rfl, h1⟩, h2⟩)
def T_ref10_least (W : World) (n1 : Int) (n2 : Int) (x3 : Option Addr) (l4 : Nat) (c5 : Nat) (x6 : Option Addr) (l7 : Nat) (c8 : Nat) (n9 : Int) (R : Ending → Hp → Prop) : Hp → Prop :=
  NEW 25 [(.int .i64 n1), (.int .i64 n2), (.slice x3 l4 c5), (.slice x6 l7 c8)] fun B10 =>
    L_ref10_least_0 W R n9 ⟨B10, 0, none⟩ none 0 0 0
theorem T_ref10_least_eq (W : World) (n1 : Int) (n2 : Int) (x3 : Option Addr) (l4 : Nat) (c5 : Nat) (x6 : Option Addr) (l7 : Nat) (c8 : Nat) (n9 : Int) (R : Ending → Hp → Prop) : vfun Pg W an_53 Try.f53 [(.agg #[(.int .i64 n1), (.int .i64 n2), (.slice x3 l4 c5), (.slice x6 l7 c8)]), (.int .i64 n9)] R = T_ref10_least W n1 n2 x3 l4 c5 x6 l7 c8 n9 R := by kernel_rfl
theorem does_ref10_least (W : World) (n1 : Int) (n2 : Int) (x3 : Option Addr) (l4 : Nat) (c5 : Nat) (x6 : Option Addr) (l7 : Nat) (c8 : Nat) (n9 : Int) (R : Ending → Hp → Prop) (s : Hp) (h : T_ref10_least W n1 n2 x3 l4 c5 x6 l7 c8 n9 R s) : Does Pg W F_ref10_least #[(.agg #[(.int .i64 n1), (.int .i64 n2), (.slice x3 l4 c5), (.slice x6 l7 c8)]), (.int .i64 n9)] s R :=
  does_of_vfun Pg W an_53 Try.func53 rfl (by kernel_rfl) (by rw [T_ref10_least_eq]; exact h)
def an_54 : Nat → Ann := fun b => match b with
  | 0 => { ms := [5, 6], ks := [.l, .i .i64], us := [1, 2, 4, 25], rt := false, ex := [] }
  | _ => {}
abbrev rv_54 : List ResultVar := [.tmp 4]
abbrev rs_54 : List Nat := [25, 4]
def L_ref10_most_0 (W : World) (R : Ending → Hp → Prop) (zn0 : Int) (za1 : Addr) (x11 : Option Addr) (l12 : Nat) (c13 : Nat) (n14 : Int) : Hp → Prop :=
  LOOPN [.l, .i .i64] (fun ys next s => ∀ j : Tm, vc Pg W 25 rs_54 an_54 false (sub (bodyOf Try.f54) [1, 1, 0, 1, 0, 0]) 0 (KLoop [5, 6] [1, 2, 4, 25] [(.int .i64 zn0), (.pointer (some za1)), (.slice none 0 0), (.tuple #[])] next (KBlk 0 (KS Pg W 25 rs_54 an_54 false (sub (bodyOf Try.f54) [1, 1, 1]) 0 (fin Pg W 25 rv_54 R)))) (known [5, 6] ys (known [1, 2, 4, 25] [(.int .i64 zn0), (.pointer (some za1)), (.slice none 0 0), (.tuple #[])] j)) s) [(.slice x11 l12 c13), (.int .i64 n14)]
def B_ref10_most_0 (W : World) (R : Ending → Hp → Prop) (zn0 : Int) (za1 : Addr) (x11 : Option Addr) (l12 : Nat) (c13 : Nat) (n14 : Int) (nx0 : List Value → Hp → Prop) : Hp → Prop :=
  RDI .i64 (Addr.add za1 1) fun n15 =>
    BR (decide (n14 < n15))
      (RDI .i64 (Addr.add za1 0) fun n16 =>
        RDI .i64 (Addr.add za1 1) fun n17 =>
          RDL (Addr.add za1 2) fun x18 l19 c20 =>
            RDL (Addr.add za1 3) fun x21 l22 c23 =>
              CALL Pg W F_ref10_Points [(.agg #[(.int .i64 n16), (.int .i64 n17), (.slice x18 l19 c20), (.slice x21 l22 c23)]), (.int .i64 zn0), (.int .i64 n14)]
                (fun v24 => AGG v24 fun q26 => HD q26 fun v27 r28 => TYI .i64 v27 fun n29 =>
                  HD r28 fun v30 r31 => TYI .i64 v30 fun n32 =>
                    NL r31 <|
                      NEW 3 [(.int .i64 n32)] fun B33 =>
                        APP Pg 3 1 x11 l12 c13 (some ⟨B33, 0, none⟩) 1 fun x34 l35 c36 =>
                          NX [(.int .i64 zn0), (.pointer (some za1)), (.slice none 0 0), (.tuple #[])] [(.int .i64 zn0), (.pointer (some za1)), (.slice none 0 0), (.tuple #[])] (nx0 [(.slice x34 l35 c36), (.int .i64 (IntKind.wrap .i64 (n14 + 1)))]))
                  (fun e25 => R (.panicked e25)))
      (RDI .i64 (Addr.add za1 0) fun n37 =>
        RDI .i64 (Addr.add za1 1) fun n38 =>
          RDL (Addr.add za1 2) fun x39 l40 c41 =>
            RDL (Addr.add za1 3) fun x42 l43 c44 =>
              CALL Pg W F_ref10_row [(.agg #[(.int .i64 n37), (.int .i64 n38), (.slice x39 l40 c41), (.slice x42 l43 c44)]), (.int .i64 zn0), (.slice x11 l12 c13)]
                (fun v45 => TYL v45 fun x47 l48 c49 =>
                  R (.returned (.slice x47 l48 c49)))
                  (fun e46 => R (.panicked e46)))
theorem B_ref10_most_0_eq (W : World) (R : Ending → Hp → Prop) (zn0 : Int) (za1 : Addr) (x11 : Option Addr) (l12 : Nat) (c13 : Nat) (n14 : Int) (nx0 : List Value → Hp → Prop) (j : Tm) : vc Pg W 25 rs_54 an_54 false (sub (bodyOf Try.f54) [1, 1, 0, 1, 0, 0]) 0 (KLoop [5, 6] [1, 2, 4, 25] [(.int .i64 zn0), (.pointer (some za1)), (.slice none 0 0), (.tuple #[])] nx0 (KBlk 0 (KS Pg W 25 rs_54 an_54 false (sub (bodyOf Try.f54) [1, 1, 1]) 0 (fin Pg W 25 rv_54 R)))) (known [5, 6] [(.slice x11 l12 c13), (.int .i64 n14)] (known [1, 2, 4, 25] [(.int .i64 zn0), (.pointer (some za1)), (.slice none 0 0), (.tuple #[])] j)) = B_ref10_most_0 W R zn0 za1 x11 l12 c13 n14 nx0 := by kernel_rfl
def N_ref10_most_0 (I : Option Addr → Nat → Nat → Int → Hp → Prop) (μ : Option Addr → Nat → Nat → Int → Hp → Nat) (x110 : Option Addr) (l120 : Nat) (c130 : Nat) (n140 : Int) (s : Hp) (vs : List Value) : Hp → Prop := fun s' => ∃ x11 l12 c13 n14, vs = [(.slice x11 l12 c13), (.int .i64 n14)] ∧ I x11 l12 c13 n14 s' ∧ μ x11 l12 c13 n14 s' < μ x110 l120 c130 n140 s
theorem L_ref10_most_0_rule (W : World) (R : Ending → Hp → Prop) (zn0 : Int) (za1 : Addr) (I : Option Addr → Nat → Nat → Int → Hp → Prop) (μ : Option Addr → Nat → Nat → Int → Hp → Nat) (x110 : Option Addr) (l120 : Nat) (c130 : Nat) (n140 : Int) (s : Hp) (h0 : I x110 l120 c130 n140 s)
    (hr : ∀ (x11 : Option Addr) (l12 : Nat) (c13 : Nat) (n14 : Int) (s : Hp), I x11 l12 c13 n14 s → B_ref10_most_0 W R zn0 za1 x11 l12 c13 n14 (fun vs => N_ref10_most_0 I μ x11 l12 c13 n14 s vs) s) : L_ref10_most_0 W R zn0 za1 x110 l120 c130 n140 s := by
  refine ⟨fun vs s => ∃ x11 l12 c13 n14, vs = [(.slice x11 l12 c13), (.int .i64 n14)] ∧ I x11 l12 c13 n14 s, fun vs s => (match vs with | [.slice x11 l12 c13, .int _ n14] => μ x11 l12 c13 n14 s | _ => 0), ⟨⟨⟨_, _, _, rfl⟩, ⟨⟨_, rfl⟩, trivial⟩⟩, ⟨_, _, _, _, rfl, h0⟩⟩, ?_⟩
  intro x11 l12 c13 n14 s hI j
  obtain ⟨x11', l12', c13', n14', hy, hI⟩ := hI
  have hI' : I x11 l12 c13 n14 s := by cases hy; exact hI
  have hh := hr x11 l12 c13 n14 s hI'
  rw [← B_ref10_most_0_eq W R zn0 za1 x11 l12 c13 n14 _ j] at hh
  refine vc_mono ?_ _ _ hh
  exact KLoop_mono (fun vs s' h => by obtain ⟨x111, l121, c131, n141, rfl, h1, h2⟩ := h; exact ⟨⟨⟨_, _, _, rfl⟩, ⟨⟨_, rfl⟩, trivial⟩⟩, ⟨_, _, _, _, rfl, h1⟩, h2⟩)
def T_ref10_most (W : World) (n1 : Int) (n2 : Int) (x3 : Option Addr) (l4 : Nat) (c5 : Nat) (x6 : Option Addr) (l7 : Nat) (c8 : Nat) (n9 : Int) (R : Ending → Hp → Prop) : Hp → Prop :=
  NEW 25 [(.int .i64 n1), (.int .i64 n2), (.slice x3 l4 c5), (.slice x6 l7 c8)] fun B10 =>
    L_ref10_most_0 W R n9 ⟨B10, 0, none⟩ none 0 0 0
theorem T_ref10_most_eq (W : World) (n1 : Int) (n2 : Int) (x3 : Option Addr) (l4 : Nat) (c5 : Nat) (x6 : Option Addr) (l7 : Nat) (c8 : Nat) (n9 : Int) (R : Ending → Hp → Prop) : vfun Pg W an_54 Try.f54 [(.agg #[(.int .i64 n1), (.int .i64 n2), (.slice x3 l4 c5), (.slice x6 l7 c8)]), (.int .i64 n9)] R = T_ref10_most W n1 n2 x3 l4 c5 x6 l7 c8 n9 R := by kernel_rfl
theorem does_ref10_most (W : World) (n1 : Int) (n2 : Int) (x3 : Option Addr) (l4 : Nat) (c5 : Nat) (x6 : Option Addr) (l7 : Nat) (c8 : Nat) (n9 : Int) (R : Ending → Hp → Prop) (s : Hp) (h : T_ref10_most W n1 n2 x3 l4 c5 x6 l7 c8 n9 R s) : Does Pg W F_ref10_most #[(.agg #[(.int .i64 n1), (.int .i64 n2), (.slice x3 l4 c5), (.slice x6 l7 c8)]), (.int .i64 n9)] s R :=
  does_of_vfun Pg W an_54 Try.func54 rfl (by kernel_rfl) (by rw [T_ref10_most_eq]; exact h)
def an_57 : Nat → Ann := fun b => match b with
  | _ => {}
abbrev rv_57 : List ResultVar := [.tmp 6]
abbrev rs_57 : List Nat := [19, 6]
def T_ref10_surely (W : World) (n1 : Int) (n2 : Int) (x3 : Option Addr) (l4 : Nat) (c5 : Nat) (x6 : Option Addr) (l7 : Nat) (c8 : Nat) (n9 : Int) (n10 : Int) (R : Ending → Hp → Prop) : Hp → Prop :=
  NEW 25 [(.int .i64 n1), (.int .i64 n2), (.slice x3 l4 c5), (.slice x6 l7 c8)] fun B11 =>
    BR (n9 != n10)
      (RDI .i64 (Addr.add ⟨B11, 0, none⟩ 0) fun n12 =>
        RDI .i64 (Addr.add ⟨B11, 0, none⟩ 1) fun n13 =>
          RDL (Addr.add ⟨B11, 0, none⟩ 2) fun x14 l15 c16 =>
            RDL (Addr.add ⟨B11, 0, none⟩ 3) fun x17 l18 c19 =>
              RDI .i64 (Addr.add ⟨B11, 0, none⟩ 0) fun n20 =>
                RDI .i64 (Addr.add ⟨B11, 0, none⟩ 1) fun n21 =>
                  RDL (Addr.add ⟨B11, 0, none⟩ 2) fun x22 l23 c24 =>
                    RDL (Addr.add ⟨B11, 0, none⟩ 3) fun x25 l26 c27 =>
                      CALL Pg W F_ref10_least [(.agg #[(.int .i64 n12), (.int .i64 n13), (.slice x14 l15 c16), (.slice x17 l18 c19)]), (.int .i64 n9)]
                        (fun v28 => TYL v28 fun x30 l31 c32 =>
                          ANDS (RDI .i64 (Addr.add ⟨B11, 0, none⟩ 0) fun n41 =>
                            RDI .i64 (Addr.add ⟨B11, 0, none⟩ 1) fun n42 =>
                              RDL (Addr.add ⟨B11, 0, none⟩ 2) fun x43 l44 c45 =>
                                RDL (Addr.add ⟨B11, 0, none⟩ 3) fun x46 l47 c48 =>
                                  fun _ => ((.agg #[(.int .i64 n41), (.int .i64 n42), (.slice x43 l44 c45), (.slice x46 l47 c48)]) : Value) = (.agg #[(.int .i64 n20), (.int .i64 n21), (.slice x22 l23 c24), (.slice x25 l26 c27)])) <|
                            CALL Pg W F_ref10_most [(.agg #[(.int .i64 n20), (.int .i64 n21), (.slice x22 l23 c24), (.slice x25 l26 c27)]), (.int .i64 n10)]
                              (fun v49 => TYL v49 fun x51 l52 c53 =>
                                CALL Pg W F_ref10_ahead [(.slice x30 l31 c32), (.slice x51 l52 c53)]
                                  (fun v54 => TYB v54 fun b56 =>
                                    R (.returned (.bool b56)))
                                    (fun e55 => R (.panicked e55)))
                                (fun e50 => R (.panicked e50)))
                          (fun e29 => R (.panicked e29)))
      (R (.returned (.bool false)))
theorem T_ref10_surely_eq (W : World) (n1 : Int) (n2 : Int) (x3 : Option Addr) (l4 : Nat) (c5 : Nat) (x6 : Option Addr) (l7 : Nat) (c8 : Nat) (n9 : Int) (n10 : Int) (R : Ending → Hp → Prop) : vfun Pg W an_57 Try.f57 [(.agg #[(.int .i64 n1), (.int .i64 n2), (.slice x3 l4 c5), (.slice x6 l7 c8)]), (.int .i64 n9), (.int .i64 n10)] R = T_ref10_surely W n1 n2 x3 l4 c5 x6 l7 c8 n9 n10 R := by kernel_rfl
theorem does_ref10_surely (W : World) (n1 : Int) (n2 : Int) (x3 : Option Addr) (l4 : Nat) (c5 : Nat) (x6 : Option Addr) (l7 : Nat) (c8 : Nat) (n9 : Int) (n10 : Int) (R : Ending → Hp → Prop) (s : Hp) (h : T_ref10_surely W n1 n2 x3 l4 c5 x6 l7 c8 n9 n10 R s) : Does Pg W F_ref10_surely #[(.agg #[(.int .i64 n1), (.int .i64 n2), (.slice x3 l4 c5), (.slice x6 l7 c8)]), (.int .i64 n9), (.int .i64 n10)] s R :=
  does_of_vfun Pg W an_57 Try.func57 rfl (by kernel_rfl) (by rw [T_ref10_surely_eq]; exact h)
def an_58 : Nat → Ann := fun b => match b with
  | _ => {}
abbrev rv_58 : List ResultVar := [.tmp 6]
abbrev rs_58 : List Nat := [19, 6]
def T_ref10_can (W : World) (n1 : Int) (n2 : Int) (x3 : Option Addr) (l4 : Nat) (c5 : Nat) (x6 : Option Addr) (l7 : Nat) (c8 : Nat) (n9 : Int) (n10 : Int) (R : Ending → Hp → Prop) : Hp → Prop :=
  NEW 25 [(.int .i64 n1), (.int .i64 n2), (.slice x3 l4 c5), (.slice x6 l7 c8)] fun B11 =>
    BR (n9 != n10)
      (RDI .i64 (Addr.add ⟨B11, 0, none⟩ 0) fun n12 =>
        RDI .i64 (Addr.add ⟨B11, 0, none⟩ 1) fun n13 =>
          RDL (Addr.add ⟨B11, 0, none⟩ 2) fun x14 l15 c16 =>
            RDL (Addr.add ⟨B11, 0, none⟩ 3) fun x17 l18 c19 =>
              RDI .i64 (Addr.add ⟨B11, 0, none⟩ 0) fun n20 =>
                RDI .i64 (Addr.add ⟨B11, 0, none⟩ 1) fun n21 =>
                  RDL (Addr.add ⟨B11, 0, none⟩ 2) fun x22 l23 c24 =>
                    RDL (Addr.add ⟨B11, 0, none⟩ 3) fun x25 l26 c27 =>
                      CALL Pg W F_ref10_most [(.agg #[(.int .i64 n12), (.int .i64 n13), (.slice x14 l15 c16), (.slice x17 l18 c19)]), (.int .i64 n9)]
                        (fun v28 => TYL v28 fun x30 l31 c32 =>
                          ANDS (RDI .i64 (Addr.add ⟨B11, 0, none⟩ 0) fun n41 =>
                            RDI .i64 (Addr.add ⟨B11, 0, none⟩ 1) fun n42 =>
                              RDL (Addr.add ⟨B11, 0, none⟩ 2) fun x43 l44 c45 =>
                                RDL (Addr.add ⟨B11, 0, none⟩ 3) fun x46 l47 c48 =>
                                  fun _ => ((.agg #[(.int .i64 n41), (.int .i64 n42), (.slice x43 l44 c45), (.slice x46 l47 c48)]) : Value) = (.agg #[(.int .i64 n20), (.int .i64 n21), (.slice x22 l23 c24), (.slice x25 l26 c27)])) <|
                            CALL Pg W F_ref10_least [(.agg #[(.int .i64 n20), (.int .i64 n21), (.slice x22 l23 c24), (.slice x25 l26 c27)]), (.int .i64 n10)]
                              (fun v49 => TYL v49 fun x51 l52 c53 =>
                                CALL Pg W F_ref10_ahead [(.slice x30 l31 c32), (.slice x51 l52 c53)]
                                  (fun v54 => TYB v54 fun b56 =>
                                    R (.returned (.bool b56)))
                                    (fun e55 => R (.panicked e55)))
                                (fun e50 => R (.panicked e50)))
                          (fun e29 => R (.panicked e29)))
      (R (.returned (.bool false)))
theorem T_ref10_can_eq (W : World) (n1 : Int) (n2 : Int) (x3 : Option Addr) (l4 : Nat) (c5 : Nat) (x6 : Option Addr) (l7 : Nat) (c8 : Nat) (n9 : Int) (n10 : Int) (R : Ending → Hp → Prop) : vfun Pg W an_58 Try.f58 [(.agg #[(.int .i64 n1), (.int .i64 n2), (.slice x3 l4 c5), (.slice x6 l7 c8)]), (.int .i64 n9), (.int .i64 n10)] R = T_ref10_can W n1 n2 x3 l4 c5 x6 l7 c8 n9 n10 R := by kernel_rfl
theorem does_ref10_can (W : World) (n1 : Int) (n2 : Int) (x3 : Option Addr) (l4 : Nat) (c5 : Nat) (x6 : Option Addr) (l7 : Nat) (c8 : Nat) (n9 : Int) (n10 : Int) (R : Ending → Hp → Prop) (s : Hp) (h : T_ref10_can W n1 n2 x3 l4 c5 x6 l7 c8 n9 n10 R s) : Does Pg W F_ref10_can #[(.agg #[(.int .i64 n1), (.int .i64 n2), (.slice x3 l4 c5), (.slice x6 l7 c8)]), (.int .i64 n9), (.int .i64 n10)] s R :=
  does_of_vfun Pg W an_58 Try.func58 rfl (by kernel_rfl) (by rw [T_ref10_can_eq]; exact h)
def an_60 : Nat → Ann := fun b => match b with
  | 0 => { ms := [6], ks := [.i .i64], us := [1, 2, 4, 5, 40], rt := false, ex := [] }
  | _ => {}
abbrev rv_60 : List ResultVar := [.cell 4 29]
abbrev rs_60 : List Nat := [40, 4]
def L_ref10_place_0 (W : World) (R : Ending → Hp → Prop) (zn0 : Int) (za1 : Addr) (za2 : Addr) (za3 : Addr) (n13 : Int) : Hp → Prop :=
  LOOPN [.i .i64] (fun ys next s => ∀ j : Tm, vc Pg W 40 rs_60 an_60 false (sub (bodyOf Try.f60) [1, 1, 0, 1, 0, 0]) 0 (KLoop [6] [1, 2, 4, 5, 40] [(.int .i64 zn0), (.pointer (some za1)), (.pointer (some za2)), (.pointer (some za3)), (.tuple #[])] next (KBlk 0 (KS Pg W 40 rs_60 an_60 false (sub (bodyOf Try.f60) [1, 1, 1]) 0 (fin Pg W 40 rv_60 R)))) (known [6] ys (known [1, 2, 4, 5, 40] [(.int .i64 zn0), (.pointer (some za1)), (.pointer (some za2)), (.pointer (some za3)), (.tuple #[])] j)) s) [(.int .i64 n13)]
def J_ref10_place_0 (W : World) (R : Ending → Hp → Prop) (zn0 : Int) (za1 : Addr) (za2 : Addr) (za3 : Addr) (nx0 : List Value → Hp → Prop) (n13 : Int) : Hp → Prop :=
  NX [(.int .i64 zn0), (.pointer (some za1)), (.pointer (some za2)), (.pointer (some za3)), (.tuple #[])] [(.int .i64 zn0), (.pointer (some za1)), (.pointer (some za2)), (.pointer (some za3)), (.tuple #[])] (nx0 [(.int .i64 (IntKind.wrap .i64 (n13 + 1)))])
def J_ref10_place_1 (W : World) (R : Ending → Hp → Prop) (za1 : Addr) (n13 : Int) (zn0 : Int) (za3 : Addr) (za2 : Addr) (nx0 : List Value → Hp → Prop) : Hp → Prop :=
  RDI .i64 (Addr.add za1 0) fun n53 =>
    RDI .i64 (Addr.add za1 1) fun n54 =>
      RDL (Addr.add za1 2) fun x55 l56 c57 =>
        RDL (Addr.add za1 3) fun x58 l59 c60 =>
          RDI .i64 (Addr.add za1 0) fun n61 =>
            RDI .i64 (Addr.add za1 1) fun n62 =>
              RDL (Addr.add za1 2) fun x63 l64 c65 =>
                RDL (Addr.add za1 3) fun x66 l67 c68 =>
                  CALL Pg W F_ref10_most [(.agg #[(.int .i64 n53), (.int .i64 n54), (.slice x55 l56 c57), (.slice x58 l59 c60)]), (.int .i64 n13)]
                    (fun v69 => TYL v69 fun x71 l72 c73 =>
                      ANDS (RDI .i64 (Addr.add za1 0) fun n74 =>
                        RDI .i64 (Addr.add za1 1) fun n75 =>
                          RDL (Addr.add za1 2) fun x76 l77 c78 =>
                            RDL (Addr.add za1 3) fun x79 l80 c81 =>
                              fun _ => ((.agg #[(.int .i64 n74), (.int .i64 n75), (.slice x76 l77 c78), (.slice x79 l80 c81)]) : Value) = (.agg #[(.int .i64 n61), (.int .i64 n62), (.slice x63 l64 c65), (.slice x66 l67 c68)])) <|
                        CALL Pg W F_ref10_least [(.agg #[(.int .i64 n61), (.int .i64 n62), (.slice x63 l64 c65), (.slice x66 l67 c68)]), (.int .i64 zn0)]
                          (fun v82 => TYL v82 fun x84 l85 c86 =>
                            CALL Pg W F_ref10_ahead [(.slice x71 l72 c73), (.slice x84 l85 c86)]
                              (fun v87 => TYB v87 fun b89 =>
                                BR b89
                                  (RDI .i64 (Addr.add za3 1) fun n90 =>
                                    WR (Addr.add (Addr.add za3 1) 0) (.int .i64 (IntKind.wrap .i64 (n90 + 1))) <|
                                      J_ref10_place_0 W R zn0 za1 za2 za3 nx0 n13)
                                  (J_ref10_place_0 W R zn0 za1 za2 za3 nx0 n13))
                                (fun e88 => R (.panicked e88)))
                            (fun e83 => R (.panicked e83)))
                      (fun e70 => R (.panicked e70))
def B_ref10_place_0 (W : World) (R : Ending → Hp → Prop) (zn0 : Int) (za1 : Addr) (za2 : Addr) (za3 : Addr) (n13 : Int) (nx0 : List Value → Hp → Prop) : Hp → Prop :=
  RDI .i64 (Addr.add za1 0) fun n14 =>
    BR (decide (n13 < n14))
      (BR (n13 == zn0)
        (J_ref10_place_0 W R zn0 za1 za2 za3 nx0 n13)
        (RDI .i64 (Addr.add za1 0) fun n15 =>
          RDI .i64 (Addr.add za1 1) fun n16 =>
            RDL (Addr.add za1 2) fun x17 l18 c19 =>
              RDL (Addr.add za1 3) fun x20 l21 c22 =>
                RDI .i64 (Addr.add za1 0) fun n23 =>
                  RDI .i64 (Addr.add za1 1) fun n24 =>
                    RDL (Addr.add za1 2) fun x25 l26 c27 =>
                      RDL (Addr.add za1 3) fun x28 l29 c30 =>
                        CALL Pg W F_ref10_least [(.agg #[(.int .i64 n15), (.int .i64 n16), (.slice x17 l18 c19), (.slice x20 l21 c22)]), (.int .i64 n13)]
                          (fun v31 => TYL v31 fun x33 l34 c35 =>
                            ANDS (RDI .i64 (Addr.add za1 0) fun n36 =>
                              RDI .i64 (Addr.add za1 1) fun n37 =>
                                RDL (Addr.add za1 2) fun x38 l39 c40 =>
                                  RDL (Addr.add za1 3) fun x41 l42 c43 =>
                                    fun _ => ((.agg #[(.int .i64 n36), (.int .i64 n37), (.slice x38 l39 c40), (.slice x41 l42 c43)]) : Value) = (.agg #[(.int .i64 n23), (.int .i64 n24), (.slice x25 l26 c27), (.slice x28 l29 c30)])) <|
                              CALL Pg W F_ref10_most [(.agg #[(.int .i64 n23), (.int .i64 n24), (.slice x25 l26 c27), (.slice x28 l29 c30)]), (.int .i64 zn0)]
                                (fun v44 => TYL v44 fun x46 l47 c48 =>
                                  CALL Pg W F_ref10_ahead [(.slice x33 l34 c35), (.slice x46 l47 c48)]
                                    (fun v49 => TYB v49 fun b51 =>
                                      BR b51
                                        (RDI .i64 (Addr.add za3 0) fun n52 =>
                                          WR (Addr.add (Addr.add za3 0) 0) (.int .i64 (IntKind.wrap .i64 (n52 + 1))) <|
                                            J_ref10_place_1 W R za1 n13 zn0 za3 za2 nx0)
                                        (J_ref10_place_1 W R za1 n13 zn0 za3 za2 nx0))
                                      (fun e50 => R (.panicked e50)))
                                  (fun e45 => R (.panicked e45)))
                            (fun e32 => R (.panicked e32))))
      (RDI .i64 (Addr.add za3 0) fun n91 =>
        RDI .i64 (Addr.add za3 1) fun n92 =>
          WR (Addr.add za2 0) (.int .i64 n91) <|
            WR (Addr.add za2 1) (.int .i64 n92) <|
              RDI .i64 (Addr.add za2 0) fun n93 =>
                RDI .i64 (Addr.add za2 1) fun n94 =>
                  R (.returned (.agg #[(.int .i64 n93), (.int .i64 n94)])))
theorem B_ref10_place_0_eq (W : World) (R : Ending → Hp → Prop) (zn0 : Int) (za1 : Addr) (za2 : Addr) (za3 : Addr) (n13 : Int) (nx0 : List Value → Hp → Prop) (j : Tm) : vc Pg W 40 rs_60 an_60 false (sub (bodyOf Try.f60) [1, 1, 0, 1, 0, 0]) 0 (KLoop [6] [1, 2, 4, 5, 40] [(.int .i64 zn0), (.pointer (some za1)), (.pointer (some za2)), (.pointer (some za3)), (.tuple #[])] nx0 (KBlk 0 (KS Pg W 40 rs_60 an_60 false (sub (bodyOf Try.f60) [1, 1, 1]) 0 (fin Pg W 40 rv_60 R)))) (known [6] [(.int .i64 n13)] (known [1, 2, 4, 5, 40] [(.int .i64 zn0), (.pointer (some za1)), (.pointer (some za2)), (.pointer (some za3)), (.tuple #[])] j)) = B_ref10_place_0 W R zn0 za1 za2 za3 n13 nx0 := by kernel_rfl
def N_ref10_place_0 (I : Int → Hp → Prop) (μ : Int → Hp → Nat) (n130 : Int) (s : Hp) (vs : List Value) : Hp → Prop := fun s' => ∃ n13, vs = [(.int .i64 n13)] ∧ I n13 s' ∧ μ n13 s' < μ n130 s
theorem L_ref10_place_0_rule (W : World) (R : Ending → Hp → Prop) (zn0 : Int) (za1 : Addr) (za2 : Addr) (za3 : Addr) (I : Int → Hp → Prop) (μ : Int → Hp → Nat) (n130 : Int) (s : Hp) (h0 : I n130 s)
    (hr : ∀ (n13 : Int) (s : Hp), I n13 s → B_ref10_place_0 W R zn0 za1 za2 za3 n13 (fun vs => N_ref10_place_0 I μ n13 s vs) s) : L_ref10_place_0 W R zn0 za1 za2 za3 n130 s := by
  refine ⟨fun vs s => ∃ n13, vs = [(.int .i64 n13)] ∧ I n13 s, fun vs s => (match vs with | [.int _ n13] => μ n13 s | _ => 0), ⟨⟨⟨_, rfl⟩, trivial⟩, ⟨_, rfl, h0⟩⟩, ?_⟩
  intro n13 s hI j
  obtain ⟨n13', hy, hI⟩ := hI
  have hI' : I n13 s := by cases hy; exact hI
  have hh := hr n13 s hI'
  rw [← B_ref10_place_0_eq W R zn0 za1 za2 za3 n13 _ j] at hh
  refine vc_mono ?_ _ _ hh
  exact KLoop_mono (fun vs s' h => by obtain ⟨n131, rfl, h1, h2⟩ := h; exact ⟨⟨⟨_, rfl⟩, trivial⟩, ⟨_, rfl, h1⟩, h2⟩)
def T_ref10_place (W : World) (n1 : Int) (n2 : Int) (x3 : Option Addr) (l4 : Nat) (c5 : Nat) (x6 : Option Addr) (l7 : Nat) (c8 : Nat) (n9 : Int) (R : Ending → Hp → Prop) : Hp → Prop :=
  NEW 25 [(.int .i64 n1), (.int .i64 n2), (.slice x3 l4 c5), (.slice x6 l7 c8)] fun B10 =>
    NEWZ Pg 29 fun B11 =>
      NEWZ Pg 29 fun B12 =>
        WR (Addr.add ⟨B12, 0, none⟩ 0) (.int .i64 1) <|
          WR (Addr.add ⟨B12, 0, none⟩ 1) (.int .i64 1) <|
            L_ref10_place_0 W R n9 ⟨B10, 0, none⟩ ⟨B11, 0, none⟩ ⟨B12, 0, none⟩ 0
theorem T_ref10_place_eq (W : World) (n1 : Int) (n2 : Int) (x3 : Option Addr) (l4 : Nat) (c5 : Nat) (x6 : Option Addr) (l7 : Nat) (c8 : Nat) (n9 : Int) (R : Ending → Hp → Prop) : vfun Pg W an_60 Try.f60 [(.agg #[(.int .i64 n1), (.int .i64 n2), (.slice x3 l4 c5), (.slice x6 l7 c8)]), (.int .i64 n9)] R = T_ref10_place W n1 n2 x3 l4 c5 x6 l7 c8 n9 R := by kernel_rfl
theorem does_ref10_place (W : World) (n1 : Int) (n2 : Int) (x3 : Option Addr) (l4 : Nat) (c5 : Nat) (x6 : Option Addr) (l7 : Nat) (c8 : Nat) (n9 : Int) (R : Ending → Hp → Prop) (s : Hp) (h : T_ref10_place W n1 n2 x3 l4 c5 x6 l7 c8 n9 R s) : Does Pg W F_ref10_place #[(.agg #[(.int .i64 n1), (.int .i64 n2), (.slice x3 l4 c5), (.slice x6 l7 c8)]), (.int .i64 n9)] s R :=
  does_of_vfun Pg W an_60 Try.func60 rfl (by kernel_rfl) (by rw [T_ref10_place_eq]; exact h)
def an_65 : Nat → Ann := fun b => match b with
  | 0 => { ms := [10], ks := [.i .i64], us := [1, 2, 3, 4, 8, 9, 46], rt := false, ex := [] }
  | _ => {}
abbrev rv_65 : List ResultVar := [.cell 8 25]
abbrev rs_65 : List Nat := [46, 8]
def L_ref10_read_0 (W : World) (R : Ending → Hp → Prop) (zn0 : Int) (zn1 : Int) (zn2 : Int) (za3 : Addr) (za4 : Addr) (za5 : Addr) (n23 : Int) : Hp → Prop :=
  LOOPN [.i .i64] (fun ys next s => ∀ j : Tm, vc Pg W 46 rs_65 an_65 false (sub (bodyOf Try.f65) [1, 1, 0, 1, 0, 0]) 0 (KLoop [10] [1, 2, 3, 4, 8, 9, 46] [(.int .i64 zn0), (.int .i64 zn1), (.int .i64 zn2), (.pointer (some za3)), (.pointer (some za4)), (.pointer (some za5)), (.tuple #[])] next (KBlk 0 (KS Pg W 46 rs_65 an_65 false (sub (bodyOf Try.f65) [1, 1, 1]) 0 (fin Pg W 46 rv_65 R)))) (known [10] ys (known [1, 2, 3, 4, 8, 9, 46] [(.int .i64 zn0), (.int .i64 zn1), (.int .i64 zn2), (.pointer (some za3)), (.pointer (some za4)), (.pointer (some za5)), (.tuple #[])] j)) s) [(.int .i64 n23)]
def J_ref10_read_0 (W : World) (R : Ending → Hp → Prop) (zn0 : Int) (zn1 : Int) (zn2 : Int) (za3 : Addr) (za4 : Addr) (za5 : Addr) (nx0 : List Value → Hp → Prop) (n23 : Int) : Hp → Prop :=
  NX [(.int .i64 zn0), (.int .i64 zn1), (.int .i64 zn2), (.pointer (some za3)), (.pointer (some za4)), (.pointer (some za5)), (.tuple #[])] [(.int .i64 zn0), (.int .i64 zn1), (.int .i64 zn2), (.pointer (some za3)), (.pointer (some za4)), (.pointer (some za5)), (.tuple #[])] (nx0 [(.int .i64 (IntKind.wrap .i64 (n23 + 1)))])
def J_ref10_read_1 (W : World) (R : Ending → Hp → Prop) (za3 : Addr) (zn2 : Int) (n23 : Int) (za5 : Addr) (zn1 : Int) (zn0 : Int) (za4 : Addr) (nx0 : List Value → Hp → Prop) : Hp → Prop :=
  RDI .i64 (Addr.add za3 1) fun n88 =>
    CALL Pg W F_ref10_Has [(.int .i64 zn2), (.int .i64 (IntKind.wrap .i64 (n88 + n23)))]
      (fun v89 => TYB v89 fun b91 =>
        BR b91
          (RDI .i64 (Addr.add za5 0) fun n92 =>
            RDI .i64 (Addr.add za5 1) fun n93 =>
              RDL (Addr.add za5 2) fun x94 l95 c96 =>
                RDL (Addr.add za5 3) fun x97 l98 c99 =>
                  RDI .i64 (Addr.add za3 0) fun n100 =>
                    RDI .i64 (Addr.add za3 1) fun n101 =>
                      RDL (Addr.add za3 2) fun x102 l103 c104 =>
                        RDL (Addr.add za3 3) fun x105 l106 c107 =>
                          CALL Pg W F_ref10_Points [(.agg #[(.int .i64 n100), (.int .i64 n101), (.slice x102 l103 c104), (.slice x105 l106 c107)]), (.int .i64 zn1), (.int .i64 n23)]
                            (fun v108 => AGG v108 fun q110 => HD q110 fun v111 r112 => TYI .i64 v111 fun n113 =>
                              HD r112 fun v114 r115 => TYI .i64 v114 fun n116 =>
                                NL r115 <|
                                  ANDS (RDI .i64 (Addr.add za5 0) fun n117 =>
                                    RDI .i64 (Addr.add za5 1) fun n118 =>
                                      RDL (Addr.add za5 2) fun x119 l120 c121 =>
                                        RDL (Addr.add za5 3) fun x122 l123 c124 =>
                                          fun _ => ((.agg #[(.int .i64 n117), (.int .i64 n118), (.slice x119 l120 c121), (.slice x122 l123 c124)]) : Value) = (.agg #[(.int .i64 n92), (.int .i64 n93), (.slice x94 l95 c96), (.slice x97 l98 c99)])) <|
                                    ANDS (RDI .i64 (Addr.add za5 0) fun n125 =>
                                      RDI .i64 (Addr.add za5 1) fun n126 =>
                                        RDL (Addr.add za5 2) fun x127 l128 c129 =>
                                          RDL (Addr.add za5 3) fun x130 l131 c132 =>
                                            fun _ => ((.agg #[(.int .i64 n125), (.int .i64 n126), (.slice x127 l128 c129), (.slice x130 l131 c132)]) : Value) = (.agg #[(.int .i64 n92), (.int .i64 n93), (.slice x94 l95 c96), (.slice x97 l98 c99)])) <|
                                      CALL Pg W F_ref10_With [(.agg #[(.int .i64 n92), (.int .i64 n93), (.slice x94 l95 c96), (.slice x97 l98 c99)]), (.int .i64 zn1), (.int .i64 n23), (.int .i64 n113)]
                                        (fun v133 => AGG v133 fun q135 => HD q135 fun v136 r137 => TYI .i64 v136 fun n138 =>
                                          HD r137 fun v139 r140 => TYI .i64 v139 fun n141 =>
                                            HD r140 fun v142 r143 => TYL v142 fun x144 l145 c146 =>
                                              HD r143 fun v147 r148 => TYL v147 fun x149 l150 c151 =>
                                                NL r148 <|
                                                  WR (Addr.add za5 0) (.int .i64 n138) <|
                                                    WR (Addr.add za5 1) (.int .i64 n141) <|
                                                      WR (Addr.add za5 2) (.slice x144 l145 c146) <|
                                                        WR (Addr.add za5 3) (.slice x149 l150 c151) <|
                                                          J_ref10_read_0 W R zn0 zn1 zn2 za3 za4 za5 nx0 n23)
                                          (fun e134 => R (.panicked e134)))
                              (fun e109 => R (.panicked e109)))
          (J_ref10_read_0 W R zn0 zn1 zn2 za3 za4 za5 nx0 n23))
        (fun e90 => R (.panicked e90))
def B_ref10_read_0 (W : World) (R : Ending → Hp → Prop) (zn0 : Int) (zn1 : Int) (zn2 : Int) (za3 : Addr) (za4 : Addr) (za5 : Addr) (n23 : Int) (nx0 : List Value → Hp → Prop) : Hp → Prop :=
  RDI .i64 (Addr.add za3 1) fun n24 =>
    BR (decide (n23 < n24))
      (CALL Pg W F_ref10_Has [(.int .i64 zn2), (.int .i64 n23)]
        (fun v25 => TYB v25 fun b27 =>
          BR b27
            (RDI .i64 (Addr.add za5 0) fun n28 =>
              RDI .i64 (Addr.add za5 1) fun n29 =>
                RDL (Addr.add za5 2) fun x30 l31 c32 =>
                  RDL (Addr.add za5 3) fun x33 l34 c35 =>
                    RDI .i64 (Addr.add za3 0) fun n36 =>
                      RDI .i64 (Addr.add za3 1) fun n37 =>
                        RDL (Addr.add za3 2) fun x38 l39 c40 =>
                          RDL (Addr.add za3 3) fun x41 l42 c43 =>
                            CALL Pg W F_ref10_Points [(.agg #[(.int .i64 n36), (.int .i64 n37), (.slice x38 l39 c40), (.slice x41 l42 c43)]), (.int .i64 zn0), (.int .i64 n23)]
                              (fun v44 => AGG v44 fun q46 => HD q46 fun v47 r48 => TYI .i64 v47 fun n49 =>
                                HD r48 fun v50 r51 => TYI .i64 v50 fun n52 =>
                                  NL r51 <|
                                    ANDS (RDI .i64 (Addr.add za5 0) fun n53 =>
                                      RDI .i64 (Addr.add za5 1) fun n54 =>
                                        RDL (Addr.add za5 2) fun x55 l56 c57 =>
                                          RDL (Addr.add za5 3) fun x58 l59 c60 =>
                                            fun _ => ((.agg #[(.int .i64 n53), (.int .i64 n54), (.slice x55 l56 c57), (.slice x58 l59 c60)]) : Value) = (.agg #[(.int .i64 n28), (.int .i64 n29), (.slice x30 l31 c32), (.slice x33 l34 c35)])) <|
                                      ANDS (RDI .i64 (Addr.add za5 0) fun n61 =>
                                        RDI .i64 (Addr.add za5 1) fun n62 =>
                                          RDL (Addr.add za5 2) fun x63 l64 c65 =>
                                            RDL (Addr.add za5 3) fun x66 l67 c68 =>
                                              fun _ => ((.agg #[(.int .i64 n61), (.int .i64 n62), (.slice x63 l64 c65), (.slice x66 l67 c68)]) : Value) = (.agg #[(.int .i64 n28), (.int .i64 n29), (.slice x30 l31 c32), (.slice x33 l34 c35)])) <|
                                        CALL Pg W F_ref10_With [(.agg #[(.int .i64 n28), (.int .i64 n29), (.slice x30 l31 c32), (.slice x33 l34 c35)]), (.int .i64 zn0), (.int .i64 n23), (.int .i64 n52)]
                                          (fun v69 => AGG v69 fun q71 => HD q71 fun v72 r73 => TYI .i64 v72 fun n74 =>
                                            HD r73 fun v75 r76 => TYI .i64 v75 fun n77 =>
                                              HD r76 fun v78 r79 => TYL v78 fun x80 l81 c82 =>
                                                HD r79 fun v83 r84 => TYL v83 fun x85 l86 c87 =>
                                                  NL r84 <|
                                                    WR (Addr.add za5 0) (.int .i64 n74) <|
                                                      WR (Addr.add za5 1) (.int .i64 n77) <|
                                                        WR (Addr.add za5 2) (.slice x80 l81 c82) <|
                                                          WR (Addr.add za5 3) (.slice x85 l86 c87) <|
                                                            J_ref10_read_1 W R za3 zn2 n23 za5 zn1 zn0 za4 nx0)
                                            (fun e70 => R (.panicked e70)))
                                (fun e45 => R (.panicked e45)))
            (J_ref10_read_1 W R za3 zn2 n23 za5 zn1 zn0 za4 nx0))
          (fun e26 => R (.panicked e26)))
      (RDI .i64 (Addr.add za5 0) fun n152 =>
        RDI .i64 (Addr.add za5 1) fun n153 =>
          RDL (Addr.add za5 2) fun x154 l155 c156 =>
            RDL (Addr.add za5 3) fun x157 l158 c159 =>
              WR (Addr.add za4 0) (.int .i64 n152) <|
                WR (Addr.add za4 1) (.int .i64 n153) <|
                  WR (Addr.add za4 2) (.slice x154 l155 c156) <|
                    WR (Addr.add za4 3) (.slice x157 l158 c159) <|
                      RDI .i64 (Addr.add za4 0) fun n160 =>
                        RDI .i64 (Addr.add za4 1) fun n161 =>
                          RDL (Addr.add za4 2) fun x162 l163 c164 =>
                            RDL (Addr.add za4 3) fun x165 l166 c167 =>
                              R (.returned (.agg #[(.int .i64 n160), (.int .i64 n161), (.slice x162 l163 c164), (.slice x165 l166 c167)])))
theorem B_ref10_read_0_eq (W : World) (R : Ending → Hp → Prop) (zn0 : Int) (zn1 : Int) (zn2 : Int) (za3 : Addr) (za4 : Addr) (za5 : Addr) (n23 : Int) (nx0 : List Value → Hp → Prop) (j : Tm) : vc Pg W 46 rs_65 an_65 false (sub (bodyOf Try.f65) [1, 1, 0, 1, 0, 0]) 0 (KLoop [10] [1, 2, 3, 4, 8, 9, 46] [(.int .i64 zn0), (.int .i64 zn1), (.int .i64 zn2), (.pointer (some za3)), (.pointer (some za4)), (.pointer (some za5)), (.tuple #[])] nx0 (KBlk 0 (KS Pg W 46 rs_65 an_65 false (sub (bodyOf Try.f65) [1, 1, 1]) 0 (fin Pg W 46 rv_65 R)))) (known [10] [(.int .i64 n23)] (known [1, 2, 3, 4, 8, 9, 46] [(.int .i64 zn0), (.int .i64 zn1), (.int .i64 zn2), (.pointer (some za3)), (.pointer (some za4)), (.pointer (some za5)), (.tuple #[])] j)) = B_ref10_read_0 W R zn0 zn1 zn2 za3 za4 za5 n23 nx0 := by kernel_rfl
def N_ref10_read_0 (I : Int → Hp → Prop) (μ : Int → Hp → Nat) (n230 : Int) (s : Hp) (vs : List Value) : Hp → Prop := fun s' => ∃ n23, vs = [(.int .i64 n23)] ∧ I n23 s' ∧ μ n23 s' < μ n230 s
theorem L_ref10_read_0_rule (W : World) (R : Ending → Hp → Prop) (zn0 : Int) (zn1 : Int) (zn2 : Int) (za3 : Addr) (za4 : Addr) (za5 : Addr) (I : Int → Hp → Prop) (μ : Int → Hp → Nat) (n230 : Int) (s : Hp) (h0 : I n230 s)
    (hr : ∀ (n23 : Int) (s : Hp), I n23 s → B_ref10_read_0 W R zn0 zn1 zn2 za3 za4 za5 n23 (fun vs => N_ref10_read_0 I μ n23 s vs) s) : L_ref10_read_0 W R zn0 zn1 zn2 za3 za4 za5 n230 s := by
  refine ⟨fun vs s => ∃ n23, vs = [(.int .i64 n23)] ∧ I n23 s, fun vs s => (match vs with | [.int _ n23] => μ n23 s | _ => 0), ⟨⟨⟨_, rfl⟩, trivial⟩, ⟨_, rfl, h0⟩⟩, ?_⟩
  intro n23 s hI j
  obtain ⟨n23', hy, hI⟩ := hI
  have hI' : I n23 s := by cases hy; exact hI
  have hh := hr n23 s hI'
  rw [← B_ref10_read_0_eq W R zn0 zn1 zn2 za3 za4 za5 n23 _ j] at hh
  refine vc_mono ?_ _ _ hh
  exact KLoop_mono (fun vs s' h => by obtain ⟨n231, rfl, h1, h2⟩ := h; exact ⟨⟨⟨_, rfl⟩, trivial⟩, ⟨_, rfl, h1⟩, h2⟩)
def T_ref10_read (W : World) (n1 : Int) (n2 : Int) (x3 : Option Addr) (l4 : Nat) (c5 : Nat) (x6 : Option Addr) (l7 : Nat) (c8 : Nat) (n9 : Int) (n10 : Int) (n11 : Int) (R : Ending → Hp → Prop) : Hp → Prop :=
  NEW 25 [(.int .i64 n1), (.int .i64 n2), (.slice x3 l4 c5), (.slice x6 l7 c8)] fun B12 =>
    NEWZ Pg 25 fun B13 =>
      RDI .i64 (Addr.add ⟨B12, 0, none⟩ 0) fun n14 =>
        RDI .i64 (Addr.add ⟨B12, 0, none⟩ 1) fun n15 =>
          RDL (Addr.add ⟨B12, 0, none⟩ 2) fun x16 l17 c18 =>
            RDL (Addr.add ⟨B12, 0, none⟩ 3) fun x19 l20 c21 =>
              NEWZ Pg 25 fun B22 =>
                WR (Addr.add ⟨B22, 0, none⟩ 0) (.int .i64 n14) <|
                  WR (Addr.add ⟨B22, 0, none⟩ 1) (.int .i64 n15) <|
                    WR (Addr.add ⟨B22, 0, none⟩ 2) (.slice x16 l17 c18) <|
                      WR (Addr.add ⟨B22, 0, none⟩ 3) (.slice x19 l20 c21) <|
                        L_ref10_read_0 W R n9 n10 n11 ⟨B12, 0, none⟩ ⟨B13, 0, none⟩ ⟨B22, 0, none⟩ 0
theorem T_ref10_read_eq (W : World) (n1 : Int) (n2 : Int) (x3 : Option Addr) (l4 : Nat) (c5 : Nat) (x6 : Option Addr) (l7 : Nat) (c8 : Nat) (n9 : Int) (n10 : Int) (n11 : Int) (R : Ending → Hp → Prop) : vfun Pg W an_65 Try.f65 [(.agg #[(.int .i64 n1), (.int .i64 n2), (.slice x3 l4 c5), (.slice x6 l7 c8)]), (.int .i64 n9), (.int .i64 n10), (.int .i64 n11)] R = T_ref10_read W n1 n2 x3 l4 c5 x6 l7 c8 n9 n10 n11 R := by kernel_rfl
theorem does_ref10_read (W : World) (n1 : Int) (n2 : Int) (x3 : Option Addr) (l4 : Nat) (c5 : Nat) (x6 : Option Addr) (l7 : Nat) (c8 : Nat) (n9 : Int) (n10 : Int) (n11 : Int) (R : Ending → Hp → Prop) (s : Hp) (h : T_ref10_read W n1 n2 x3 l4 c5 x6 l7 c8 n9 n10 n11 R s) : Does Pg W F_ref10_read #[(.agg #[(.int .i64 n1), (.int .i64 n2), (.slice x3 l4 c5), (.slice x6 l7 c8)]), (.int .i64 n9), (.int .i64 n10), (.int .i64 n11)] s R :=
  does_of_vfun Pg W an_65 Try.func65 rfl (by kernel_rfl) (by rw [T_ref10_read_eq]; exact h)
def an_68 : Nat → Ann := fun b => match b with
  | _ => {}
abbrev rv_68 : List ResultVar := [.tmp 4]
abbrev rs_68 : List Nat := [10, 4]
def T_ref10_Sheet (W : World) (n1 : Int) (n2 : Int) (x3 : Option Addr) (l4 : Nat) (c5 : Nat) (x6 : Option Addr) (l7 : Nat) (c8 : Nat) (n9 : Int) (R : Ending → Hp → Prop) : Hp → Prop :=
  NEW 25 [(.int .i64 n1), (.int .i64 n2), (.slice x3 l4 c5), (.slice x6 l7 c8)] fun B10 =>
    RDI .i64 (Addr.add ⟨B10, 0, none⟩ 1) fun n11 =>
      CALL Pg W F_ref10_in [(.int .i64 n9), (.int .i64 0), (.int .i64 (IntKind.wrap .i64 (n11 - 1)))]
        (fun v12 => TYB v12 fun b14 =>
          R (.returned (.bool b14)))
          (fun e13 => R (.panicked e13))
theorem T_ref10_Sheet_eq (W : World) (n1 : Int) (n2 : Int) (x3 : Option Addr) (l4 : Nat) (c5 : Nat) (x6 : Option Addr) (l7 : Nat) (c8 : Nat) (n9 : Int) (R : Ending → Hp → Prop) : vfun Pg W an_68 Try.f68 [(.agg #[(.int .i64 n1), (.int .i64 n2), (.slice x3 l4 c5), (.slice x6 l7 c8)]), (.int .i64 n9)] R = T_ref10_Sheet W n1 n2 x3 l4 c5 x6 l7 c8 n9 R := by kernel_rfl
theorem does_ref10_Sheet (W : World) (n1 : Int) (n2 : Int) (x3 : Option Addr) (l4 : Nat) (c5 : Nat) (x6 : Option Addr) (l7 : Nat) (c8 : Nat) (n9 : Int) (R : Ending → Hp → Prop) (s : Hp) (h : T_ref10_Sheet W n1 n2 x3 l4 c5 x6 l7 c8 n9 R s) : Does Pg W F_ref10_Sheet #[(.agg #[(.int .i64 n1), (.int .i64 n2), (.slice x3 l4 c5), (.slice x6 l7 c8)]), (.int .i64 n9)] s R :=
  does_of_vfun Pg W an_68 Try.func68 rfl (by kernel_rfl) (by rw [T_ref10_Sheet_eq]; exact h)
def an_77 : Nat → Ann := fun b => match b with
  | 0 => { ms := [7, 8], ks := [.i .i64, .i .i64], us := [2, 6, 31], rt := false, ex := [] }
  | _ => {}
abbrev rv_77 : List ResultVar := [.tmp 6]
abbrev rs_77 : List Nat := [31, 6]
def L_ref10_row_0 (W : World) (R : Ending → Hp → Prop) (zp0 : Option Addr) (zl1 : Nat) (zl2 : Nat) (n19 : Int) (n20 : Int) : Hp → Prop :=
  LOOPN [.i .i64, .i .i64] (fun ys next s => ∀ j : Tm, vc Pg W 31 rs_77 an_77 false (sub (bodyOf Try.f77) [1, 1, 0, 1, 0, 0]) 0 (KLoop [7, 8] [2, 6, 31] [(.slice zp0 zl1 zl2), (.slice none 0 0), (.tuple #[])] next (KBlk 0 (KS Pg W 31 rs_77 an_77 false (sub (bodyOf Try.f77) [1, 1, 1]) 0 (fin Pg W 31 rv_77 R)))) (known [7, 8] ys (known [2, 6, 31] [(.slice zp0 zl1 zl2), (.slice none 0 0), (.tuple #[])] j)) s) [(.int .i64 n19), (.int .i64 n20)]
def B_ref10_row_0 (W : World) (R : Ending → Hp → Prop) (zp0 : Option Addr) (zl1 : Nat) (zl2 : Nat) (n19 : Int) (n20 : Int) (nx0 : List Value → Hp → Prop) : Hp → Prop :=
  BR (decide (n20 < (↑zl1 : Int)))
    (IXS zp0 zl1 n20 1 fun a21 =>
      RDI .i64 a21 fun n22 =>
        NX [(.slice zp0 zl1 zl2), (.slice none 0 0), (.tuple #[])] [(.slice zp0 zl1 zl2), (.slice none 0 0), (.tuple #[])] (nx0 [(.int .i64 (IntKind.wrap .i64 (n19 + n22))), (.int .i64 (IntKind.wrap .i64 (n20 + 1)))]))
    (NEW 3 [(.int .i64 n19)] fun B23 =>
      APP Pg 3 1 (some ⟨B23, 0, none⟩) 1 1 zp0 zl1 fun x24 l25 c26 =>
        R (.returned (.slice x24 l25 c26)))
theorem B_ref10_row_0_eq (W : World) (R : Ending → Hp → Prop) (zp0 : Option Addr) (zl1 : Nat) (zl2 : Nat) (n19 : Int) (n20 : Int) (nx0 : List Value → Hp → Prop) (j : Tm) : vc Pg W 31 rs_77 an_77 false (sub (bodyOf Try.f77) [1, 1, 0, 1, 0, 0]) 0 (KLoop [7, 8] [2, 6, 31] [(.slice zp0 zl1 zl2), (.slice none 0 0), (.tuple #[])] nx0 (KBlk 0 (KS Pg W 31 rs_77 an_77 false (sub (bodyOf Try.f77) [1, 1, 1]) 0 (fin Pg W 31 rv_77 R)))) (known [7, 8] [(.int .i64 n19), (.int .i64 n20)] (known [2, 6, 31] [(.slice zp0 zl1 zl2), (.slice none 0 0), (.tuple #[])] j)) = B_ref10_row_0 W R zp0 zl1 zl2 n19 n20 nx0 := by kernel_rfl
def N_ref10_row_0 (I : Int → Int → Hp → Prop) (μ : Int → Int → Hp → Nat) (n190 : Int) (n200 : Int) (s : Hp) (vs : List Value) : Hp → Prop := fun s' => ∃ n19 n20, vs = [(.int .i64 n19), (.int .i64 n20)] ∧ I n19 n20 s' ∧ μ n19 n20 s' < μ n190 n200 s
theorem L_ref10_row_0_rule (W : World) (R : Ending → Hp → Prop) (zp0 : Option Addr) (zl1 : Nat) (zl2 : Nat) (I : Int → Int → Hp → Prop) (μ : Int → Int → Hp → Nat) (n190 : Int) (n200 : Int) (s : Hp) (h0 : I n190 n200 s)
    (hr : ∀ (n19 : Int) (n20 : Int) (s : Hp), I n19 n20 s → B_ref10_row_0 W R zp0 zl1 zl2 n19 n20 (fun vs => N_ref10_row_0 I μ n19 n20 s vs) s) : L_ref10_row_0 W R zp0 zl1 zl2 n190 n200 s := by
  refine ⟨fun vs s => ∃ n19 n20, vs = [(.int .i64 n19), (.int .i64 n20)] ∧ I n19 n20 s, fun vs s => (match vs with | [.int _ n19, .int _ n20] => μ n19 n20 s | _ => 0), ⟨⟨⟨_, rfl⟩, ⟨⟨_, rfl⟩, trivial⟩⟩, ⟨_, _, rfl, h0⟩⟩, ?_⟩
  intro n19 n20 s hI j
  obtain ⟨n19', n20', hy, hI⟩ := hI
  have hI' : I n19 n20 s := by cases hy; exact hI
  have hh := hr n19 n20 s hI'
  rw [← B_ref10_row_0_eq W R zp0 zl1 zl2 n19 n20 _ j] at hh
  refine vc_mono ?_ _ _ hh
  exact KLoop_mono (fun vs s' h => by obtain ⟨n191, n201, rfl, h1, h2⟩ := h; exact ⟨⟨⟨_, rfl⟩, ⟨⟨_, rfl⟩, trivial⟩⟩, ⟨_, _, rfl, h1⟩, h2⟩)
def T_ref10_row (W : World) (n1 : Int) (n2 : Int) (x3 : Option Addr) (l4 : Nat) (c5 : Nat) (x6 : Option Addr) (l7 : Nat) (c8 : Nat) (n9 : Int) (x10 : Option Addr) (l11 : Nat) (c12 : Nat) (R : Ending → Hp → Prop) : Hp → Prop :=
  NEW 25 [(.int .i64 n1), (.int .i64 n2), (.slice x3 l4 c5), (.slice x6 l7 c8)] fun B13 =>
    RDL (Addr.add ⟨B13, 0, none⟩ 2) fun x14 l15 c16 =>
      IXS x14 l15 n9 1 fun a17 =>
        RDI .i64 a17 fun n18 =>
          L_ref10_row_0 W R x10 l11 c12 (IntKind.wrap .i64 (0 - n18)) 0
theorem T_ref10_row_eq (W : World) (n1 : Int) (n2 : Int) (x3 : Option Addr) (l4 : Nat) (c5 : Nat) (x6 : Option Addr) (l7 : Nat) (c8 : Nat) (n9 : Int) (x10 : Option Addr) (l11 : Nat) (c12 : Nat) (R : Ending → Hp → Prop) : vfun Pg W an_77 Try.f77 [(.agg #[(.int .i64 n1), (.int .i64 n2), (.slice x3 l4 c5), (.slice x6 l7 c8)]), (.int .i64 n9), (.slice x10 l11 c12)] R = T_ref10_row W n1 n2 x3 l4 c5 x6 l7 c8 n9 x10 l11 c12 R := by kernel_rfl
theorem does_ref10_row (W : World) (n1 : Int) (n2 : Int) (x3 : Option Addr) (l4 : Nat) (c5 : Nat) (x6 : Option Addr) (l7 : Nat) (c8 : Nat) (n9 : Int) (x10 : Option Addr) (l11 : Nat) (c12 : Nat) (R : Ending → Hp → Prop) (s : Hp) (h : T_ref10_row W n1 n2 x3 l4 c5 x6 l7 c8 n9 x10 l11 c12 R s) : Does Pg W F_ref10_row #[(.agg #[(.int .i64 n1), (.int .i64 n2), (.slice x3 l4 c5), (.slice x6 l7 c8)]), (.int .i64 n9), (.slice x10 l11 c12)] s R :=
  does_of_vfun Pg W an_77 Try.func77 rfl (by kernel_rfl) (by rw [T_ref10_row_eq]; exact h)
def an_79 : Nat → Ann := fun b => match b with
  | 0 => { ms := [4, 5], ks := [.b, .i .i64], us := [0, 1, 30], rt := false, ex := [] }
  | _ => {}
abbrev rv_79 : List ResultVar := [.tmp 4]
abbrev rs_79 : List Nat := [30, 4]
def L_ref10_ahead_0 (W : World) (R : Ending → Hp → Prop) (zp0 : Option Addr) (zl1 : Nat) (zl2 : Nat) (zp3 : Option Addr) (zl4 : Nat) (zl5 : Nat) (b7 : Bool) (n8 : Int) : Hp → Prop :=
  LOOPN [.b, .i .i64] (fun ys next s => ∀ j : Tm, vc Pg W 30 rs_79 an_79 false (sub (bodyOf Try.f79) [1, 0, 1, 0, 0]) 0 (KLoop [4, 5] [0, 1, 30] [(.slice zp0 zl1 zl2), (.slice zp3 zl4 zl5), (.tuple #[])] next (KBlk 0 (KS Pg W 30 rs_79 an_79 false (sub (bodyOf Try.f79) [1, 1]) 0 (fin Pg W 30 rv_79 R)))) (known [4, 5] ys (known [0, 1, 30] [(.slice zp0 zl1 zl2), (.slice zp3 zl4 zl5), (.tuple #[])] j)) s) [(.bool b7), (.int .i64 n8)]
def B_ref10_ahead_0 (W : World) (R : Ending → Hp → Prop) (zp0 : Option Addr) (zl1 : Nat) (zl2 : Nat) (zp3 : Option Addr) (zl4 : Nat) (zl5 : Nat) (b7 : Bool) (n8 : Int) (nx0 : List Value → Hp → Prop) : Hp → Prop :=
  BR (decide (n8 < (↑zl1 : Int)))
    (IXS zp0 zl1 n8 1 fun a9 =>
      RDI .i64 a9 fun n10 =>
        IXS zp3 zl4 n8 1 fun a11 =>
          RDI .i64 a11 fun n12 =>
            BR (n10 != n12)
              (IXS zp0 zl1 n8 1 fun a13 =>
                RDI .i64 a13 fun n14 =>
                  IXS zp3 zl4 n8 1 fun a15 =>
                    RDI .i64 a15 fun n16 =>
                      R (.returned (.bool (decide (n14 > n16)))))
              (NX [(.slice zp0 zl1 zl2), (.slice zp3 zl4 zl5), (.tuple #[])] [(.slice zp0 zl1 zl2), (.slice zp3 zl4 zl5), (.tuple #[])] (nx0 [(.bool b7), (.int .i64 (IntKind.wrap .i64 (n8 + 1)))])))
    (R (.returned (.bool false)))
theorem B_ref10_ahead_0_eq (W : World) (R : Ending → Hp → Prop) (zp0 : Option Addr) (zl1 : Nat) (zl2 : Nat) (zp3 : Option Addr) (zl4 : Nat) (zl5 : Nat) (b7 : Bool) (n8 : Int) (nx0 : List Value → Hp → Prop) (j : Tm) : vc Pg W 30 rs_79 an_79 false (sub (bodyOf Try.f79) [1, 0, 1, 0, 0]) 0 (KLoop [4, 5] [0, 1, 30] [(.slice zp0 zl1 zl2), (.slice zp3 zl4 zl5), (.tuple #[])] nx0 (KBlk 0 (KS Pg W 30 rs_79 an_79 false (sub (bodyOf Try.f79) [1, 1]) 0 (fin Pg W 30 rv_79 R)))) (known [4, 5] [(.bool b7), (.int .i64 n8)] (known [0, 1, 30] [(.slice zp0 zl1 zl2), (.slice zp3 zl4 zl5), (.tuple #[])] j)) = B_ref10_ahead_0 W R zp0 zl1 zl2 zp3 zl4 zl5 b7 n8 nx0 := by kernel_rfl
def N_ref10_ahead_0 (I : Bool → Int → Hp → Prop) (μ : Bool → Int → Hp → Nat) (b70 : Bool) (n80 : Int) (s : Hp) (vs : List Value) : Hp → Prop := fun s' => ∃ b7 n8, vs = [(.bool b7), (.int .i64 n8)] ∧ I b7 n8 s' ∧ μ b7 n8 s' < μ b70 n80 s
theorem L_ref10_ahead_0_rule (W : World) (R : Ending → Hp → Prop) (zp0 : Option Addr) (zl1 : Nat) (zl2 : Nat) (zp3 : Option Addr) (zl4 : Nat) (zl5 : Nat) (I : Bool → Int → Hp → Prop) (μ : Bool → Int → Hp → Nat) (b70 : Bool) (n80 : Int) (s : Hp) (h0 : I b70 n80 s)
    (hr : ∀ (b7 : Bool) (n8 : Int) (s : Hp), I b7 n8 s → B_ref10_ahead_0 W R zp0 zl1 zl2 zp3 zl4 zl5 b7 n8 (fun vs => N_ref10_ahead_0 I μ b7 n8 s vs) s) : L_ref10_ahead_0 W R zp0 zl1 zl2 zp3 zl4 zl5 b70 n80 s := by
  refine ⟨fun vs s => ∃ b7 n8, vs = [(.bool b7), (.int .i64 n8)] ∧ I b7 n8 s, fun vs s => (match vs with | [.bool b7, .int _ n8] => μ b7 n8 s | _ => 0), ⟨⟨⟨_, rfl⟩, ⟨⟨_, rfl⟩, trivial⟩⟩, ⟨_, _, rfl, h0⟩⟩, ?_⟩
  intro b7 n8 s hI j
  obtain ⟨b7', n8', hy, hI⟩ := hI
  have hI' : I b7 n8 s := by cases hy; exact hI
  have hh := hr b7 n8 s hI'
  rw [← B_ref10_ahead_0_eq W R zp0 zl1 zl2 zp3 zl4 zl5 b7 n8 _ j] at hh
  refine vc_mono ?_ _ _ hh
  exact KLoop_mono (fun vs s' h => by obtain ⟨b71, n81, rfl, h1, h2⟩ := h; exact ⟨⟨⟨_, rfl⟩, ⟨⟨_, rfl⟩, trivial⟩⟩, ⟨_, _, rfl, h1⟩, h2⟩)
def T_ref10_ahead (W : World) (x1 : Option Addr) (l2 : Nat) (c3 : Nat) (x4 : Option Addr) (l5 : Nat) (c6 : Nat) (R : Ending → Hp → Prop) : Hp → Prop :=
  L_ref10_ahead_0 W R x1 l2 c3 x4 l5 c6 false 0
theorem T_ref10_ahead_eq (W : World) (x1 : Option Addr) (l2 : Nat) (c3 : Nat) (x4 : Option Addr) (l5 : Nat) (c6 : Nat) (R : Ending → Hp → Prop) : vfun Pg W an_79 Try.f79 [(.slice x1 l2 c3), (.slice x4 l5 c6)] R = T_ref10_ahead W x1 l2 c3 x4 l5 c6 R := by kernel_rfl
theorem does_ref10_ahead (W : World) (x1 : Option Addr) (l2 : Nat) (c3 : Nat) (x4 : Option Addr) (l5 : Nat) (c6 : Nat) (R : Ending → Hp → Prop) (s : Hp) (h : T_ref10_ahead W x1 l2 c3 x4 l5 c6 R s) : Does Pg W F_ref10_ahead #[(.slice x1 l2 c3), (.slice x4 l5 c6)] s R :=
  does_of_vfun Pg W an_79 Try.func79 rfl (by kernel_rfl) (by rw [T_ref10_ahead_eq]; exact h)
end Go.Proofs.Ytkgcbfbbcaajpaa.G

/- The document's functions of layer 10: what somebody has. -/
set_option linter.unusedSimpArgs false
set_option linter.unusedVariables false
set_option maxRecDepth 20000
namespace Go.Proofs.Ytkgcbfbbcaajpaa.G
open Go.V
section
variable {W : World} {K : VK} {E : List PanicEntry → Hp → Prop} {s : Hp} {T : Tb}
theorem f_ahead {x y : Option Addr} {c c' l l' : Nat} {a b : List Int} (ha : RowAt s x (ints a)) (hb : RowAt s y (ints b)) (hl : l = a.length) (hl' : l' = b.length) (hab : a.length = b.length) (h8 : a.length ≤ 1000) (h : K (.bool (aheadL a b)) s) : CALL Pg W F_ref10_ahead [.slice x l c, .slice y l' c'] K E s := by
  subst hl
  subst hl'
  refine does_ref10_ahead W x _ c y _ c' _ s ?_
  unfold T_ref10_ahead
  refine L_ref10_ahead_0_rule W _ x a.length c y b.length c' (fun _ n t => t = s ∧ ∃ k : Nat, k ≤ a.length ∧ n = k ∧ ∀ j, j < k → a.getD j 0 = b.getD j 0) (fun _ n _ => (a.length - n).toNat) false 0 s ⟨rfl, 0, by omega, rfl, fun j hj => by omega⟩ ?_
  rintro b7 n8 t ⟨rfl, k, hk, rfl, heq⟩
  unfold B_ref10_ahead_0
  refine BR_dec (fun h1 => ?_) (fun h1 => ?_)
  · have hka : k < a.length := by omega
    obtain ⟨p, hp, g⟩ := row_int ha hka
    obtain ⟨q, hq, g'⟩ := row_int hb (show k < b.length by omega)
    have tk : ((k : Int)).toNat = k := by omega
    refine ⟨p, hp, ⟨by omega, by omega⟩, _, by rw [tk]; exact g, q, hq, ⟨by omega, by omega⟩, _, by rw [tk]; exact g', ?_⟩
    refine BR_ne (fun hne => ?_) (fun he => ?_)
    · refine ⟨p, hp, ⟨by omega, by omega⟩, _, by rw [tk]; exact g, q, hq, ⟨by omega, by omega⟩, _, by rw [tk]; exact g', ?_⟩
      rw [ahead_drop a b k heq hka (by omega) hne] at h
      exact h
    · have hw : IntKind.i64.wrap ((k : Int) + 1) = ((k + 1 : Nat) : Int) := by rw [wrap_i64 (by omega) (by omega)]; rfl
      refine ⟨rfl, _, _, rfl, ⟨rfl, k + 1, by omega, hw, fun j hj => ?_⟩, ?_⟩
      · by_cases e : j = k
        · subst e; exact he
        · exact heq j (by omega)
      · show ((a.length : Int) - IntKind.i64.wrap ((k : Int) + 1)).toNat < ((a.length : Int) - k).toNat
        rw [hw]; omega
  · have hz : aheadL a b = false := by
      have : a = b := by
        apply List.ext_getElem hab
        intro j h2 h3
        have := heq j (by omega)
        simpa [List.getD, h2, h3] using this
      rw [this]; exact ahead_same b
    rw [hz] at h
    exact h
theorem f_row {x y z : Option Addr} {c c' cz l : Nat} {d : List Int} {i : Nat} (hx : RowAt s x (ints T.off)) (hy : ScAt s y T.sc) (hz : RowAt s z (ints d)) (hl : l = d.length) (hi : i < T.off.length) (ho : 0 ≤ T.off.getD i 0 ∧ T.off.getD i 0 ≤ 100) (hd : ∀ n ∈ d, 0 ≤ n ∧ n ≤ 40) (h8 : d.length ≤ 1000)
    (h : ∀ s' w cw, Ext s s' → RowAt s' w (ints ((d.sum - T.off.getD i 0) :: d)) → K (.slice w (1 + d.length) cw) s') :
    CALL Pg W F_ref10_row [.agg #[.int .i64 T.men, .int .i64 T.sheets, .slice x T.off.length c, .slice y T.sc.length c'], .int .i64 i, .slice z l cz] K E s := by
  subst hl
  refine does_ref10_row W T.men T.sheets x T.off.length c y T.sc.length c' i z _ cz _ s ?_
  unfold T_ref10_row
  refine NEW_rule fun s1 e1 z1 n1 _ => ?_
  obtain ⟨a, ha, g⟩ := row_int (hx.ext e1) hi
  have ti : ((i : Int)).toNat = i := by omega
  refine ⟨_, _, _, (n1 2 _ rfl).cell, a, ha, ⟨by omega, by omega⟩, _, by rw [ti]; exact g, ?_⟩
  have hw0 : IntKind.wrap .i64 (0 - T.off.getD i 0) = - T.off.getD i 0 := by rw [wrap_i64 (by omega) (by omega)]; omega
  dsimp only
  rw [hw0]
  have hsum : ∀ k, k ≤ d.length → 0 ≤ (d.take k).sum ∧ (d.take k).sum ≤ 40 * k := by
    intro k hk
    have := sum_lim (l := d.take k) (fun n hn => hd n (List.mem_of_mem_take hn))
    rw [List.length_take, Nat.min_eq_left hk] at this
    exact this
  refine L_ref10_row_0_rule W _ z d.length cz (fun v n t => t = s1 ∧ ∃ k : Nat, k ≤ d.length ∧ n = k ∧ v = (d.take k).sum - T.off.getD i 0) (fun _ n _ => (d.length - n).toNat) _ 0 s1 ⟨rfl, 0, by omega, rfl, by simp⟩ ?_
  rintro n19 n20 t ⟨rfl, k, hk, rfl, rfl⟩
  unfold B_ref10_row_0
  refine BR_dec (fun h1 => ?_) (fun h1 => ?_)
  · have hkl : k < d.length := by omega
    obtain ⟨b, hb, g'⟩ := row_int (hz.ext e1) hkl
    have tk : ((k : Int)).toNat = k := by omega
    refine ⟨b, hb, ⟨by omega, by omega⟩, _, by rw [tk]; exact g', ?_⟩
    have hw : IntKind.i64.wrap ((k : Int) + 1) = ((k + 1 : Nat) : Int) := by rw [wrap_i64 (by omega) (by omega)]; rfl
    have hs := hsum (k + 1) (by omega)
    have e : (d.take (k + 1)).sum = (d.take k).sum + d.getD k 0 := by
      have hg : d.getD k 0 = d[k] := by simp [List.getD, hkl]
      rw [hg, List.take_add_one, List.getElem?_eq_getElem hkl, List.sum_append]
      show (d.take k).sum + ([d[k]] : List Int).sum = _
      rw [List.sum_cons, List.sum_nil, Int.add_zero]
    rw [e] at hs
    refine ⟨rfl, _, _, rfl, ⟨rfl, k + 1, by omega, hw, ?_⟩, ?_⟩
    · rw [e, wrap_i64 (by omega) (by omega)]; omega
    · show ((d.length : Int) - IntKind.i64.wrap ((k : Int) + 1)).toNat < ((d.length : Int) - k).toNat
      rw [hw]; omega
  · have hkl : k = d.length := by omega
    subst hkl
    rw [List.take_length]
    refine NEW_rule fun s2 e2 z2 n2 _ => ?_
    have hfr : Fr t.size s2 (some ⟨t.size, 0, none⟩) 1 1 1 (ints [d.sum - T.off.getD i 0]) := ⟨⟨by simp [ints], fun j hj => ⟨_, rfl, by
      have hj0 : j = 0 := by omega
      subst hj0
      exact ⟨_, n2 0 _ rfl, fun _ => rfl⟩⟩⟩, by simp [ints], (fun b hb => by cases hb; exact Nat.le_refl _), by omega⟩
    refine APP_fr (ws := ints d) hfr e2.1 ((hz.ext e1).ext e2) (by rw [ints_len]; omega) zc_3 rfl (by omega) (ints_one _) (by omega) fun s3 x3 c3 k3 g3 f3 => ?_
    have e13 : Ext t s3 := ⟨Nat.le_trans e2.1 k3.1, fun q hq => by
      rw [k3.2 q (Nat.lt_of_lt_of_le hq e2.1) (fun ⟨b, hb, hbq⟩ => by cases hb; have : t.size = q := hbq; omega)]
      exact e2.2 q hq⟩
    rw [← ints_app] at f3
    exact h s3 x3 c3 (e1.trans e13) f3.row
theorem f_least {x y : Option Addr} {c c' : Nat} {i : Nat} (hok : okT T = true) (hi : i < T.n) (hx : RowAt s x (ints T.off)) (hy : ScAt s y T.sc)
    (h : ∀ s' w cw, Ext s s' → RowAt s' w (ints (rowL (pts (prs T)) false T.m (offT T i) i)) → K (.slice w (1 + T.m) cw) s') :
    CALL Pg W F_ref10_least [.agg #[.int .i64 T.men, .int .i64 T.sheets, .slice x T.off.length c, .slice y T.sc.length c'], .int .i64 i] K E s := by
  have vd := okT_vd hok
  have hm5 := vd.m5
  obtain ⟨_, hsh, _, _, h30, _⟩ := okT_iff.1 hok
  have hm : ((T.m : Nat) : Int) = T.sheets := by unfold Tb.m; omega
  refine does_ref10_least W T.men T.sheets x T.off.length c y T.sc.length c' i _ s ?_
  unfold T_ref10_least
  refine NEW_rule fun s1 e1 z1 n1 _ => ?_
  have ta := tbA_new e1 hx hy n1
  refine L_ref10_least_0_rule W _ i ⟨s.size, 0, none⟩ (fun xx ll cc n t => Ext s1 t ∧ ∃ k : Nat, k ≤ T.m ∧ n = k ∧ Li s1.size t xx ll cc (rowS (pts (prs T)) false k i)) (fun _ _ _ n _ => (T.m - n).toNat) none 0 0 0 s1 ⟨Ext.refl _, 0, by omega, rfl, ⟨Fr.nil _ _ _, fun b hb => by cases hb⟩⟩ ?_
  rintro xx ll c2 n14 t ⟨et, k, hk, rfl, li⟩
  have tat := ta.ext et
  obtain ⟨x1, c1, g1, g2⟩ := tat.off
  obtain ⟨y1, cy, q1, q2⟩ := tat.sc
  have e0t := e1.trans et
  unfold B_ref10_least_0
  refine ⟨_, tat.sheets, ?_⟩
  have hsucc : rowS (pts (prs T)) false (k + 1) i = rowS (pts (prs T)) false k i ++ [sel false (pts (prs T) ((i : Int), (k : Int)))] := by unfold rowS; rw [List.range_succ, List.map_append]; rfl
  refine BR_dec (fun h1 => ?_) (fun h1 => ?_)
  · have hkm : k < T.m := by omega
    refine ⟨_, tat.men, _, tat.sheets, _, _, _, g1, _, _, _, q1, ?_⟩
    refine f_Points g2 q2 (by omega) fun t2 f2 => ?_
    unfold spanV
    try simp only [TUP_mk, AGG_mk, HD_mk, NL_mk, TYI_mk, TYB_mk, TYP_mk, TYL_mk, TYS_mk, TYM_mk, SO_mk, NX_mk, endK_mk, endK_mk', add_0]
    refine NEW_rule fun t3 f3 y3 m3 _ => ?_
    have f23 := f2.trans f3
    have hlen := rowS_len (pts (prs T)) false k i
    refine li_add (li.ext f23) (Nat.le_trans et.1 f23.1) (m3 0 _ rfl).cell (by omega) fun t4 x4 c4 k4 li4 g4 => ?_
    have hw : IntKind.i64.wrap ((k : Int) + 1) = ((k + 1 : Nat) : Int) := by rw [wrap_i64 (by omega) (by omega)]; rfl
    refine ⟨_, _, _, _, rfl, ⟨?_, k + 1, by omega, hw, by rw [hsucc]; exact li4⟩, ?_⟩
    · have e13 := et.trans f23
      exact ⟨Nat.le_trans e13.1 k4.1, fun q hq => by
        rw [k4.2 q (Nat.lt_of_lt_of_le hq e13.1) (fun ⟨a, ha, hab⟩ => by have := li.fr.fr a ha; omega)]
        exact e13.2 q hq⟩
    · show ((T.m : Int) - IntKind.i64.wrap ((k : Int) + 1)).toNat < ((T.m : Int) - k).toNat
      rw [hw]; omega
  · have hkm : k = T.m := by omega
    subst hkm
    refine ⟨_, tat.men, _, tat.sheets, _, _, _, g1, _, _, _, q1, ?_⟩
    have hlen := rowS_len (pts (prs T)) false T.m i
    have hil : i < T.off.length := by rw [vd.len]; exact hi
    refine f_row (d := rowS (pts (prs T)) false T.m i) g2 q2 li.fr.row li.len hil (vd.off _ (by rw [show T.off.getD i 0 = T.off[i] by simp [List.getD, hil]]; exact List.getElem_mem _)) (fun n hn => ?_) (by omega) fun t2 w cw f2 hw => ?_
    · unfold rowS at hn
      obtain ⟨q, _, rfl⟩ := List.mem_map.1 hn
      have := pts_in vd ((i : Int), (q : Int))
      show 0 ≤ (pts (prs T) ((i : Int), (q : Int))).1 ∧ (pts (prs T) ((i : Int), (q : Int))).1 ≤ 40
      omega
    · try simp only [TUP_mk, AGG_mk, HD_mk, NL_mk, TYI_mk, TYB_mk, TYP_mk, TYL_mk, TYS_mk, TYM_mk, SO_mk, NX_mk, endK_mk, endK_mk', add_0]
      rw [hlen]
      exact h t2 w cw (e0t.trans f2) hw
theorem f_most {x y : Option Addr} {c c' : Nat} {i : Nat} (hok : okT T = true) (hi : i < T.n) (hx : RowAt s x (ints T.off)) (hy : ScAt s y T.sc)
    (h : ∀ s' w cw, Ext s s' → RowAt s' w (ints (rowL (pts (prs T)) true T.m (offT T i) i)) → K (.slice w (1 + T.m) cw) s') :
    CALL Pg W F_ref10_most [.agg #[.int .i64 T.men, .int .i64 T.sheets, .slice x T.off.length c, .slice y T.sc.length c'], .int .i64 i] K E s := by
  have vd := okT_vd hok
  have hm5 := vd.m5
  obtain ⟨_, hsh, _, _, h30, _⟩ := okT_iff.1 hok
  have hm : ((T.m : Nat) : Int) = T.sheets := by unfold Tb.m; omega
  refine does_ref10_most W T.men T.sheets x T.off.length c y T.sc.length c' i _ s ?_
  unfold T_ref10_most
  refine NEW_rule fun s1 e1 z1 n1 _ => ?_
  have ta := tbA_new e1 hx hy n1
  refine L_ref10_most_0_rule W _ i ⟨s.size, 0, none⟩ (fun xx ll cc n t => Ext s1 t ∧ ∃ k : Nat, k ≤ T.m ∧ n = k ∧ Li s1.size t xx ll cc (rowS (pts (prs T)) true k i)) (fun _ _ _ n _ => (T.m - n).toNat) none 0 0 0 s1 ⟨Ext.refl _, 0, by omega, rfl, ⟨Fr.nil _ _ _, fun b hb => by cases hb⟩⟩ ?_
  rintro xx ll c2 n14 t ⟨et, k, hk, rfl, li⟩
  have tat := ta.ext et
  obtain ⟨x1, c1, g1, g2⟩ := tat.off
  obtain ⟨y1, cy, q1, q2⟩ := tat.sc
  have e0t := e1.trans et
  unfold B_ref10_most_0
  refine ⟨_, tat.sheets, ?_⟩
  have hsucc : rowS (pts (prs T)) true (k + 1) i = rowS (pts (prs T)) true k i ++ [sel true (pts (prs T) ((i : Int), (k : Int)))] := by unfold rowS; rw [List.range_succ, List.map_append]; rfl
  refine BR_dec (fun h1 => ?_) (fun h1 => ?_)
  · have hkm : k < T.m := by omega
    refine ⟨_, tat.men, _, tat.sheets, _, _, _, g1, _, _, _, q1, ?_⟩
    refine f_Points g2 q2 (by omega) fun t2 f2 => ?_
    unfold spanV
    try simp only [TUP_mk, AGG_mk, HD_mk, NL_mk, TYI_mk, TYB_mk, TYP_mk, TYL_mk, TYS_mk, TYM_mk, SO_mk, NX_mk, endK_mk, endK_mk', add_0]
    refine NEW_rule fun t3 f3 y3 m3 _ => ?_
    have f23 := f2.trans f3
    have hlen := rowS_len (pts (prs T)) true k i
    refine li_add (li.ext f23) (Nat.le_trans et.1 f23.1) (m3 0 _ rfl).cell (by omega) fun t4 x4 c4 k4 li4 g4 => ?_
    have hw : IntKind.i64.wrap ((k : Int) + 1) = ((k + 1 : Nat) : Int) := by rw [wrap_i64 (by omega) (by omega)]; rfl
    refine ⟨_, _, _, _, rfl, ⟨?_, k + 1, by omega, hw, by rw [hsucc]; exact li4⟩, ?_⟩
    · have e13 := et.trans f23
      exact ⟨Nat.le_trans e13.1 k4.1, fun q hq => by
        rw [k4.2 q (Nat.lt_of_lt_of_le hq e13.1) (fun ⟨a, ha, hab⟩ => by have := li.fr.fr a ha; omega)]
        exact e13.2 q hq⟩
    · show ((T.m : Int) - IntKind.i64.wrap ((k : Int) + 1)).toNat < ((T.m : Int) - k).toNat
      rw [hw]; omega
  · have hkm : k = T.m := by omega
    subst hkm
    refine ⟨_, tat.men, _, tat.sheets, _, _, _, g1, _, _, _, q1, ?_⟩
    have hlen := rowS_len (pts (prs T)) true T.m i
    have hil : i < T.off.length := by rw [vd.len]; exact hi
    refine f_row (d := rowS (pts (prs T)) true T.m i) g2 q2 li.fr.row li.len hil (vd.off _ (by rw [show T.off.getD i 0 = T.off[i] by simp [List.getD, hil]]; exact List.getElem_mem _)) (fun n hn => ?_) (by omega) fun t2 w cw f2 hw => ?_
    · unfold rowS at hn
      obtain ⟨q, _, rfl⟩ := List.mem_map.1 hn
      have := pts_in vd ((i : Int), (q : Int))
      show 0 ≤ (pts (prs T) ((i : Int), (q : Int))).2 ∧ (pts (prs T) ((i : Int), (q : Int))).2 ≤ 40
      omega
    · try simp only [TUP_mk, AGG_mk, HD_mk, NL_mk, TYI_mk, TYB_mk, TYP_mk, TYL_mk, TYS_mk, TYM_mk, SO_mk, NX_mk, endK_mk, endK_mk', add_0]
      rw [hlen]
      exact h t2 w cw (e0t.trans f2) hw
end
end Go.Proofs.Ytkgcbfbbcaajpaa.G

/- The document's functions of layer 10: Sum, Before. -/
set_option linter.unusedSimpArgs false
set_option linter.unusedVariables false
set_option maxRecDepth 20000
namespace Go.Proofs.Ytkgcbfbbcaajpaa.G
open Go.V
section
variable {W : World} {K : VK} {E : List PanicEntry → Hp → Prop} {s : Hp} {T : Tb}
theorem f_check {x y : Option Addr} {c c' : Nat} {b : Bool} (hx : RowAt s x (ints T.off)) (hy : ScAt s y T.sc) (hlo : T.off.length ≤ 100000)
    (h : ∀ s', Ext s s' → K (.int .i64 (if okT T then (if b then 0 else 2) else 1)) s') :
    CALL Pg W F_ref10_check [.agg #[.int .i64 T.men, .int .i64 T.sheets, .slice x T.off.length c, .slice y T.sc.length c'], .bool b] K E s := by
  refine does_ref10_check W T.men T.sheets x T.off.length c y T.sc.length c' b _ s ?_
  unfold T_ref10_check
  refine NEW_rule fun s1 e1 z1 n1 _ => ?_
  refine ⟨_, (n1 0 _ rfl).cell, _, (n1 1 _ rfl).cell, _, _, _, (n1 2 _ rfl).cell, _, _, _, (n1 3 _ rfl).cell, ?_⟩
  refine f_Table (hx.ext e1) (hy.ext e1) hlo fun s2 e2 => ?_
  try simp only [TUP_mk, AGG_mk, HD_mk, NL_mk, TYI_mk, TYB_mk, TYP_mk, TYL_mk, TYS_mk, TYM_mk, SO_mk, NX_mk, endK_mk, endK_mk', add_0]
  have h' := h s2 (e1.trans e2)
  refine BR_not (fun hv => ?_) (fun hv => ?_)
  · rw [hv] at h'; exact h'
  · rw [hv] at h'
    refine BR_not (fun hb => ?_) (fun hb => ?_)
    · rw [hb] at h'; exact h'
    · rw [hb] at h'; exact h'
theorem f_Man {x y : Option Addr} {c c' : Nat} {i : Int} (h : ∀ s' b, Ext s s' → (okT T = true → b = decide (isM T i)) → K (.bool b) s') :
    CALL Pg W F_ref10_Man [.agg #[.int .i64 T.men, .int .i64 T.sheets, .slice x T.off.length c, .slice y T.sc.length c'], .int .i64 i] K E s := by
  refine does_ref10_Man W T.men T.sheets x T.off.length c y T.sc.length c' i _ s ?_
  unfold T_ref10_Man
  refine NEW_rule fun s1 e1 z1 n1 _ => ?_
  refine ⟨_, (n1 0 _ rfl).cell, ?_⟩
  refine f_in ?_
  try simp only [TUP_mk, AGG_mk, HD_mk, NL_mk, TYI_mk, TYB_mk, TYP_mk, TYL_mk, TYS_mk, TYM_mk, SO_mk, NX_mk, endK_mk, endK_mk', add_0]
  refine h s1 _ e1 fun hok => ?_
  obtain ⟨hm, _⟩ := okT_iff.1 hok
  rw [wrap_i64 (by omega) (by omega)]
  rfl
theorem f_surely {x y : Option Addr} {c c' : Nat} {a b : Nat} (hok : okT T = true) (ha : a < T.n) (hb : b < T.n) (hx : RowAt s x (ints T.off)) (hy : ScAt s y T.sc)
    (h : ∀ s', Ext s s' → K (.bool (befP (pts (prs T)) false T.m T.off a b)) s') :
    CALL Pg W F_ref10_surely [.agg #[.int .i64 T.men, .int .i64 T.sheets, .slice x T.off.length c, .slice y T.sc.length c'], .int .i64 a, .int .i64 b] K E s := by
  have vd := okT_vd hok
  have hm5 := vd.m5
  refine does_ref10_surely W T.men T.sheets x T.off.length c y T.sc.length c' a b _ s ?_
  unfold T_ref10_surely
  refine NEW_rule fun s1 e1 z1 n1 _ => ?_
  have c0 := (n1 0 _ rfl).cell
  have c1 := (n1 1 _ rfl).cell
  have c2 := (n1 2 _ rfl).cell
  have c3 := (n1 3 _ rfl).cell
  refine BR_ne (fun hne => ?_) (fun he => ?_)
  · have hab : a ≠ b := fun e => hne (by rw [e])
    refine ⟨_, c0, _, c1, _, _, _, c2, _, _, _, c3, _, c0, _, c1, _, _, _, c2, _, _, _, c3, ?_⟩
    refine f_least hok ha (hx.ext e1) (hy.ext e1) fun s2 w cw e2 r1 => ?_
    try simp only [TUP_mk, AGG_mk, HD_mk, NL_mk, TYI_mk, TYB_mk, TYP_mk, TYL_mk, TYS_mk, TYM_mk, SO_mk, NX_mk, endK_mk, endK_mk', add_0]
    have e02 := e1.trans e2
    refine ⟨⟨_, e2.cell c0, _, e2.cell c1, _, _, _, e2.cell c2, _, _, _, e2.cell c3, rfl⟩, ?_⟩
    refine f_most hok hb (hx.ext e02) (hy.ext e02) fun s3 w' cw' e3 r2 => ?_
    try simp only [TUP_mk, AGG_mk, HD_mk, NL_mk, TYI_mk, TYB_mk, TYP_mk, TYL_mk, TYS_mk, TYM_mk, SO_mk, NX_mk, endK_mk, endK_mk', add_0]
    refine f_ahead (r1.ext e3) r2 (by rw [rowL_len]; omega) (by rw [rowL_len]; omega) (by rw [rowL_len, rowL_len]) (by rw [rowL_len]; omega) ?_
    try simp only [TUP_mk, AGG_mk, HD_mk, NL_mk, TYI_mk, TYB_mk, TYP_mk, TYL_mk, TYS_mk, TYM_mk, SO_mk, NX_mk, endK_mk, endK_mk', add_0]
    have := h s3 (e02.trans e3)
    unfold befP at this
    rw [decide_eq_true hab, Bool.true_and] at this
    exact this
  · have hab : a = b := by omega
    have := h s1 e1
    unfold befP at this
    rw [decide_eq_false (fun hn => hn hab), Bool.false_and] at this
    exact this
theorem f_can {x y : Option Addr} {c c' : Nat} {a b : Nat} (hok : okT T = true) (ha : a < T.n) (hb : b < T.n) (hx : RowAt s x (ints T.off)) (hy : ScAt s y T.sc)
    (h : ∀ s', Ext s s' → K (.bool (befP (pts (prs T)) true T.m T.off a b)) s') :
    CALL Pg W F_ref10_can [.agg #[.int .i64 T.men, .int .i64 T.sheets, .slice x T.off.length c, .slice y T.sc.length c'], .int .i64 a, .int .i64 b] K E s := by
  have vd := okT_vd hok
  have hm5 := vd.m5
  refine does_ref10_can W T.men T.sheets x T.off.length c y T.sc.length c' a b _ s ?_
  unfold T_ref10_can
  refine NEW_rule fun s1 e1 z1 n1 _ => ?_
  have c0 := (n1 0 _ rfl).cell
  have c1 := (n1 1 _ rfl).cell
  have c2 := (n1 2 _ rfl).cell
  have c3 := (n1 3 _ rfl).cell
  refine BR_ne (fun hne => ?_) (fun he => ?_)
  · have hab : a ≠ b := fun e => hne (by rw [e])
    refine ⟨_, c0, _, c1, _, _, _, c2, _, _, _, c3, _, c0, _, c1, _, _, _, c2, _, _, _, c3, ?_⟩
    refine f_most hok ha (hx.ext e1) (hy.ext e1) fun s2 w cw e2 r1 => ?_
    try simp only [TUP_mk, AGG_mk, HD_mk, NL_mk, TYI_mk, TYB_mk, TYP_mk, TYL_mk, TYS_mk, TYM_mk, SO_mk, NX_mk, endK_mk, endK_mk', add_0]
    have e02 := e1.trans e2
    refine ⟨⟨_, e2.cell c0, _, e2.cell c1, _, _, _, e2.cell c2, _, _, _, e2.cell c3, rfl⟩, ?_⟩
    refine f_least hok hb (hx.ext e02) (hy.ext e02) fun s3 w' cw' e3 r2 => ?_
    try simp only [TUP_mk, AGG_mk, HD_mk, NL_mk, TYI_mk, TYB_mk, TYP_mk, TYL_mk, TYS_mk, TYM_mk, SO_mk, NX_mk, endK_mk, endK_mk', add_0]
    refine f_ahead (r1.ext e3) r2 (by rw [rowL_len]; omega) (by rw [rowL_len]; omega) (by rw [rowL_len, rowL_len]) (by rw [rowL_len]; omega) ?_
    try simp only [TUP_mk, AGG_mk, HD_mk, NL_mk, TYI_mk, TYB_mk, TYP_mk, TYL_mk, TYS_mk, TYM_mk, SO_mk, NX_mk, endK_mk, endK_mk', add_0]
    have := h s3 (e02.trans e3)
    unfold befP at this
    rw [decide_eq_true hab, Bool.true_and] at this
    exact this
  · have hab : a = b := by omega
    have := h s1 e1
    unfold befP at this
    rw [decide_eq_false (fun hn => hn hab), Bool.false_and] at this
    exact this
theorem f_Sum {x y : Option Addr} {c c' : Nat} {i : Int} (hx : RowAt s x (ints T.off)) (hy : ScAt s y T.sc) (hlo : T.off.length ≤ 100000) (h : ∀ s', Ext s s' → K (.tuple #[spanV (sumP T i).1, .int .i64 (sumP T i).2]) s') :
    CALL Pg W F_ref10_Sum [.agg #[.int .i64 T.men, .int .i64 T.sheets, .slice x T.off.length c, .slice y T.sc.length c'], .int .i64 i] K E s := by
  refine does_ref10_Sum W T.men T.sheets x T.off.length c y T.sc.length c' i _ s ?_
  unfold T_ref10_Sum
  refine NEW_rule fun s1 e1 z1 n1 _ => ?_
  refine NEWZ_rule zc_29 fun s2 e2 z2 n2 => ?_
  have e02 := e1.trans e2
  have c0 := e2.cell (n1 0 _ rfl).cell
  have c1 := e2.cell (n1 1 _ rfl).cell
  have c2 := e2.cell (n1 2 _ rfl).cell
  have c3 := e2.cell (n1 3 _ rfl).cell
  have b0 := n2 0 _ rfl
  have b1 := n2 1 _ rfl
  have hs1 := e1.1
  refine ⟨_, c0, _, c1, _, _, _, c2, _, _, _, c3, _, c0, _, c1, _, _, _, c2, _, _, _, c3, ?_⟩
  refine f_Man fun s3 b e3 hb => ?_
  try simp only [TUP_mk, AGG_mk, HD_mk, NL_mk, TYI_mk, TYB_mk, TYP_mk, TYL_mk, TYS_mk, TYM_mk, SO_mk, NX_mk, endK_mk, endK_mk', add_0]
  refine ⟨⟨_, e3.cell c0, _, e3.cell c1, _, _, _, e3.cell c2, _, _, _, e3.cell c3, rfl⟩, ?_⟩
  have e03 := e02.trans e3
  refine f_check (hx.ext e03) (hy.ext e03) hlo fun s4 e4 => ?_
  try simp only [TUP_mk, AGG_mk, HD_mk, NL_mk, TYI_mk, TYB_mk, TYP_mk, TYL_mk, TYS_mk, TYM_mk, SO_mk, NX_mk, endK_mk, endK_mk', add_0]
  have e24 := e3.trans e4
  have e04 := e02.trans e24
  have fin : ∀ (t : Hp) (v : Int × Int) (e : Int), Ext s2 t → sumP T i = (v, e) → (WR (Addr.add ⟨s1.size, 0, none⟩ 0) (.int .i64 v.1) <| WR (Addr.add ⟨s1.size, 0, none⟩ 1) (.int .i64 v.2) <| RDI .i64 (Addr.add ⟨s1.size, 0, none⟩ 0) fun n42 => RDI .i64 (Addr.add ⟨s1.size, 0, none⟩ 1) fun n43 => K (.tuple #[(.agg #[(.int .i64 n42), (.int .i64 n43)]), (.int .i64 e)])) t := by
    intro t v e et hv
    rw [hv] at h
    refine wr2 rfl rfl (new2' (et.own b0) (et.own b1)) fun t2 k2 z2 o0 o1 => ?_
    exact ⟨_, o0.cell, _, o1.cell, h t2 (kp_new (e02.trans et) (by omega) k2)⟩
  by_cases hok : okT T = true
  · by_cases hm : isM T i
    · have hbt : b = true := by rw [hb hok]; exact decide_eq_true hm
      have hc : (if okT T = true then (if b = true then (0 : Int) else 2) else 1) = 0 := by rw [if_pos hok, if_pos hbt]
      rw [hc]
      refine BR_ne (fun hh => absurd rfl hh) (fun _ => ?_)
      refine ⟨_, e24.cell c0, _, e24.cell c1, _, _, _, e24.cell c2, _, _, _, e24.cell c3, _, e24.cell c0, _, e24.cell c1, _, _, _, e24.cell c2, _, _, _, e24.cell c3, ?_⟩
      obtain ⟨j, rfl⟩ := Int.eq_ofNat_of_zero_le hm.1
      have hjn : j < T.n := by have h2 := hm.2; obtain ⟨h3, _⟩ := okT_iff.1 hok; unfold Tb.n; omega
      refine f_least hok hjn (hx.ext e04) (hy.ext e04) fun s5 w cw e5 r1 => ?_
      try simp only [TUP_mk, AGG_mk, HD_mk, NL_mk, TYI_mk, TYB_mk, TYP_mk, TYL_mk, TYS_mk, TYM_mk, SO_mk, NX_mk, endK_mk, endK_mk', add_0]
      have e25 := e24.trans e5
      refine ⟨⟨_, e25.cell c0, _, e25.cell c1, _, _, _, e25.cell c2, _, _, _, e25.cell c3, rfl⟩, ?_⟩
      obtain ⟨a1, ha1, g1⟩ := row_int r1 (show 0 < _ by rw [rowL_len]; omega)
      refine ⟨a1, ha1, ⟨by omega, by omega⟩, _, g1, ?_⟩
      have e05 := e02.trans e25
      refine f_most hok hjn (hx.ext e05) (hy.ext e05) fun s6 w' cw' e6 r2 => ?_
      try simp only [TUP_mk, AGG_mk, HD_mk, NL_mk, TYI_mk, TYB_mk, TYP_mk, TYL_mk, TYS_mk, TYM_mk, SO_mk, NX_mk, endK_mk, endK_mk', add_0]
      refine ⟨⟨_, e6.cell g1, rfl⟩, ?_⟩
      obtain ⟨a2, ha2, g2⟩ := row_int r2 (show 0 < _ by rw [rowL_len]; omega)
      refine ⟨a2, ha2, ⟨by omega, by omega⟩, _, g2, ?_⟩
      refine fin s6 (_, _) 0 (e25.trans e6) ?_
      unfold sumP
      rw [hok, if_pos rfl, if_pos hm]; rfl
    · have hbf : b = false := by rw [hb hok]; exact decide_eq_false hm
      have hc : (if okT T = true then (if b = true then (0 : Int) else 2) else 1) = 2 := by rw [if_pos hok, hbf]; rfl
      rw [hc]
      refine BR_ne (fun _ => ?_) (fun hh => absurd hh (by decide))
      refine fin s4 (0, 0) 2 e24 ?_
      unfold sumP
      rw [hok, if_pos rfl, if_neg hm]
  · have hc : (if okT T = true then (if b = true then (0 : Int) else 2) else 1) = 1 := by rw [if_neg hok]
    rw [hc]
    refine BR_ne (fun _ => ?_) (fun hh => absurd hh (by decide))
    refine fin s4 (0, 0) 1 e24 ?_
    unfold sumP
    rw [if_neg hok]
theorem f_Before {x y : Option Addr} {c c' : Nat} {a b : Int} (hx : RowAt s x (ints T.off)) (hy : ScAt s y T.sc) (hlo : T.off.length ≤ 100000) (h : ∀ s', Ext s s' → K (.tuple #[.int .i64 (befR T a b).1, .int .i64 (befR T a b).2]) s') :
    CALL Pg W F_ref10_Before [.agg #[.int .i64 T.men, .int .i64 T.sheets, .slice x T.off.length c, .slice y T.sc.length c'], .int .i64 a, .int .i64 b] K E s := by
  refine does_ref10_Before W T.men T.sheets x T.off.length c y T.sc.length c' a b _ s ?_
  unfold T_ref10_Before
  refine NEW_rule fun s1 e1 z1 n1 _ => ?_
  have c0 := (n1 0 _ rfl).cell
  have c1 := (n1 1 _ rfl).cell
  have c2 := (n1 2 _ rfl).cell
  have c3 := (n1 3 _ rfl).cell
  refine ⟨_, c0, _, c1, _, _, _, c2, _, _, _, c3, _, c0, _, c1, _, _, _, c2, _, _, _, c3, ?_⟩
  have j0 : ∀ (t : Hp) (q : Bool), Ext s1 t → (okT T = true → q = decide (isM T a ∧ isM T b)) → J_ref10_Before_0 W (endK K E) T.men T.sheets x T.off.length c y T.sc.length c' q s.size a b t := by
    intro t q et hq
    have e0t := e1.trans et
    unfold J_ref10_Before_0
    refine f_check (hx.ext e0t) (hy.ext e0t) hlo fun t2 f2 => ?_
    try simp only [TUP_mk, AGG_mk, HD_mk, NL_mk, TYI_mk, TYB_mk, TYP_mk, TYL_mk, TYS_mk, TYM_mk, SO_mk, NX_mk, endK_mk, endK_mk', add_0]
    have et2 := et.trans f2
    have e0t2 := e1.trans et2
    by_cases hok : okT T = true
    · by_cases hm : isM T a ∧ isM T b
      · have hbt : q = true := by rw [hq hok]; exact decide_eq_true hm
        have hc : (if okT T = true then (if q = true then (0 : Int) else 2) else 1) = 0 := by rw [if_pos hok, if_pos hbt]
        rw [hc]
        refine BR_ne (fun hh => absurd rfl hh) (fun _ => ?_)
        obtain ⟨i, rfl⟩ := Int.eq_ofNat_of_zero_le hm.1.1
        obtain ⟨j, rfl⟩ := Int.eq_ofNat_of_zero_le hm.2.1
        have hr : befR T i j = (befN T i j, 0) := by unfold befR; rw [hok, if_pos rfl, if_pos hm]; rfl
        rw [hr] at h
        have hin : i < T.n := by have h2 := hm.1.2; obtain ⟨h3, _⟩ := okT_iff.1 hok; unfold Tb.n; omega
        have hjn : j < T.n := by have h2 := hm.2.2; obtain ⟨h3, _⟩ := okT_iff.1 hok; unfold Tb.n; omega
        refine ⟨_, et2.cell c0, _, et2.cell c1, _, _, _, et2.cell c2, _, _, _, et2.cell c3, ?_⟩
        refine f_surely hok hin hjn (hx.ext e0t2) (hy.ext e0t2) fun t3 f3 => ?_
        try simp only [TUP_mk, AGG_mk, HD_mk, NL_mk, TYI_mk, TYB_mk, TYP_mk, TYL_mk, TYS_mk, TYM_mk, SO_mk, NX_mk, endK_mk, endK_mk', add_0]
        have et3 := et2.trans f3
        refine BR_bool (fun h1 => ?_) (fun h1 => ?_)
        · have hN : befN T i j = 2 := by unfold befN; rw [h1, if_pos rfl]
          rw [hN] at h
          exact h t3 (e1.trans et3)
        · refine ⟨_, et3.cell c0, _, et3.cell c1, _, _, _, et3.cell c2, _, _, _, et3.cell c3, ?_⟩
          refine f_can hok hin hjn (hx.ext (e1.trans et3)) (hy.ext (e1.trans et3)) fun t4 f4 => ?_
          try simp only [TUP_mk, AGG_mk, HD_mk, NL_mk, TYI_mk, TYB_mk, TYP_mk, TYL_mk, TYS_mk, TYM_mk, SO_mk, NX_mk, endK_mk, endK_mk', add_0]
          have e04 := e1.trans (et3.trans f4)
          refine BR_bool (fun h2 => ?_) (fun h2 => ?_)
          · have hN : befN T i j = 1 := by unfold befN; rw [h1, h2]; rfl
            rw [hN] at h
            exact h t4 e04
          · have hN : befN T i j = 0 := by unfold befN; rw [h1, h2]; rfl
            rw [hN] at h
            exact h t4 e04
      · have hbf : q = false := by rw [hq hok]; exact decide_eq_false hm
        have hc : (if okT T = true then (if q = true then (0 : Int) else 2) else 1) = 2 := by rw [if_pos hok, hbf]; rfl
        rw [hc]
        refine BR_ne (fun _ => ?_) (fun hh => absurd hh (by decide))
        have hr : befR T a b = (0, 2) := by unfold befR; rw [hok, if_pos rfl, if_neg hm]
        rw [hr] at h
        exact h t2 e0t2
    · have hc : (if okT T = true then (if q = true then (0 : Int) else 2) else 1) = 1 := by rw [if_neg hok]
      rw [hc]
      refine BR_ne (fun _ => ?_) (fun hh => absurd hh (by decide))
      have hr : befR T a b = (0, 1) := by unfold befR; rw [if_neg hok]
      rw [hr] at h
      exact h t2 e0t2
  refine f_Man fun s3 q1 e3 hb => ?_
  try simp only [TUP_mk, AGG_mk, HD_mk, NL_mk, TYI_mk, TYB_mk, TYP_mk, TYL_mk, TYS_mk, TYM_mk, SO_mk, NX_mk, endK_mk, endK_mk', add_0]
  refine ⟨⟨_, e3.cell c0, _, e3.cell c1, _, _, _, e3.cell c2, _, _, _, e3.cell c3, rfl⟩, ?_⟩
  refine BR_bool (fun hq => ?_) (fun hq => ?_)
  · refine ⟨_, e3.cell c0, _, e3.cell c1, _, _, _, e3.cell c2, _, _, _, e3.cell c3, ?_⟩
    refine f_Man fun s4 q2 e4 hb2 => ?_
    try simp only [TUP_mk, AGG_mk, HD_mk, NL_mk, TYI_mk, TYB_mk, TYP_mk, TYL_mk, TYS_mk, TYM_mk, SO_mk, NX_mk, endK_mk, endK_mk', add_0]
    have e34 := e3.trans e4
    refine ⟨⟨_, e34.cell c0, _, e34.cell c1, _, _, _, e34.cell c2, _, _, _, e34.cell c3, rfl⟩, ?_⟩
    refine j0 s4 q2 e34 fun hok => ?_
    have h1 : isM T a := of_decide_eq_true ((hb hok) ▸ hq)
    rw [hb2 hok]
    congr 1
    apply propext
    exact ⟨fun h2 => ⟨h1, h2⟩, fun h2 => h2.2⟩
  · refine j0 s3 false e3 fun hok => ?_
    have h1 : ¬ isM T a := of_decide_eq_false ((hb hok) ▸ hq)
    exact (decide_eq_false (fun h2 => h1 h2.1)).symm
end
end Go.Proofs.Ytkgcbfbbcaajpaa.G

/- The document's functions of layer 10: power, place. -/
set_option linter.unusedSimpArgs false
set_option linter.unusedVariables false
set_option maxRecDepth 20000
namespace Go.Proofs.Ytkgcbfbbcaajpaa.G
open Go.V
section
variable {W : World} {K : VK} {E : List PanicEntry → Hp → Prop} {s : Hp} {T : Tb}
theorem f_power {n : Nat} (hn : n ≤ 40) (h : K (.int .i64 ((2 ^ n : Nat) : Int)) s) : CALL Pg W F_ref10_power [.int .i64 n] K E s := by
  refine does_ref10_power W n _ s ?_
  refine L_ref10_power_0_rule W _ n (fun n2 n3 t => t = s ∧ ∃ k : Nat, k ≤ n ∧ n3 = k ∧ n2 = ((2 ^ k : Nat) : Int)) (fun _ n3 _ => (n - n3).toNat) 1 0 s ⟨rfl, 0, by omega, rfl, rfl⟩ ?_
  rintro n2 n3 t ⟨rfl, k, hk, rfl, rfl⟩
  unfold B_ref10_power_0
  refine BR_dec (fun h1 => ?_) (fun h1 => ?_)
  · have hp : 2 ^ k ≤ 2 ^ 40 := Nat.pow_le_pow_right (by omega) (by omega)
    have hs : 2 ^ (k + 1) = 2 * 2 ^ k := by rw [Nat.pow_succ, Nat.mul_comm]
    refine ⟨rfl, _, _, rfl, ⟨rfl, k + 1, by omega, ?_, ?_⟩, ?_⟩
    · rw [wrap_i64 (by omega) (by omega)]; rfl
    · rw [hs]
      generalize 2 ^ k = P at *
      rw [wrap_i64 (by omega) (by omega)]; omega
    · show ((n : Int) - IntKind.i64.wrap ((k : Int) + 1)).toNat < ((n : Int) - k).toNat
      rw [wrap_i64 (by omega) (by omega)]; omega
  · have : k = n := by omega
    subst this
    exact h
theorem f_place {x y : Option Addr} {c c' : Nat} {i : Nat} (hok : okT T = true) (hi : i < T.n) (hx : RowAt s x (ints T.off)) (hy : ScAt s y T.sc)
    (h : ∀ s', Ext s s' → K (spanV (plcP (pts (prs T)) T.m T.n T.off i)) s') :
    CALL Pg W F_ref10_place [.agg #[.int .i64 T.men, .int .i64 T.sheets, .slice x T.off.length c, .slice y T.sc.length c'], .int .i64 i] K E s := by
  have vd := okT_vd hok
  have hm5 := vd.m5
  have hn6 := vd.n6
  obtain ⟨hmen, _⟩ := okT_iff.1 hok
  have hn : ((T.n : Nat) : Int) = T.men := by unfold Tb.n; omega
  refine does_ref10_place W T.men T.sheets x T.off.length c y T.sc.length c' i _ s ?_
  unfold T_ref10_place
  refine NEW_rule fun s1 e1 z1 n1 _ => ?_
  refine NEWZ_rule zc_29 fun s2 e2 z2 n2 => ?_
  refine NEWZ_rule zc_29 fun s3 e3 z3 n3 => ?_
  refine wr2 rfl rfl (new2 n3) fun s4 k4 z4 o0 o1 => ?_
  have e24 : Ext s2 s4 := ext_own e3 (Nat.le_refl _) k4
  have e14 := e2.trans e24
  have e04 := e1.trans e14
  have c0 := e14.cell (n1 0 _ rfl).cell
  have c1 := e14.cell (n1 1 _ rfl).cell
  have c2 := e14.cell (n1 2 _ rfl).cell
  have c3 := e14.cell (n1 3 _ rfl).cell
  have b0 := e24.own (n2 0 _ rfl)
  have b1 := e24.own (n2 1 _ rfl)
  have hz1 : s1.size = s.size + 1 := z1
  have hz2 : s2.size = s1.size + 1 := z2
  have hx4 := hx.ext e04
  have hy4 := hy.ext e04
  refine L_ref10_place_0_rule W _ i ⟨s.size, 0, none⟩ ⟨s1.size, 0, none⟩ ⟨s2.size, 0, none⟩ (fun n t => Kp (· = s2.size) s4 t ∧ ∃ k : Nat, k ≤ T.n ∧ n = k ∧ Own t (Addr.add ⟨s2.size, 0, none⟩ 0) (.int .i64 (1 + (cntB (fun o => befP (pts (prs T)) false T.m T.off o i) k : Nat))) ∧ Own t (Addr.add ⟨s2.size, 0, none⟩ 1) (.int .i64 (1 + (cntB (fun o => befP (pts (prs T)) true T.m T.off o i) k : Nat)))) (fun n _ => (T.n - n).toNat) 0 s4
    ⟨Kp.refl _, 0, by omega, rfl, o0, o1⟩ ?_
  rintro n13 t ⟨kt, k, hk, rfl, w0, w1⟩
  have et : Ext s t := kp_new e04 (by omega) kt
  have d0 := kt.cell (a := ⟨s.size, 0, none⟩) (by show ¬ s.size = s2.size; omega) c0
  have d1 := kt.cell (a := ⟨s.size, 1, none⟩) (by show ¬ s.size = s2.size; omega) c1
  have d2 := kt.cell (a := ⟨s.size, 2, none⟩) (by show ¬ s.size = s2.size; omega) c2
  have d3 := kt.cell (a := ⟨s.size, 3, none⟩) (by show ¬ s.size = s2.size; omega) c3
  have hl1 := cntB_le (fun o => befP (pts (prs T)) false T.m T.off o i) k
  have hl2 := cntB_le (fun o => befP (pts (prs T)) true T.m T.off o i) k
  unfold B_ref10_place_0
  refine ⟨_, d0, ?_⟩
  refine BR_dec (fun h1 => ?_) (fun h1 => ?_)
  · have hkn : k < T.n := by omega
    have hw : IntKind.i64.wrap ((k : Int) + 1) = ((k + 1 : Nat) : Int) := by rw [wrap_i64 (by omega) (by omega)]; rfl
    have hms : ((T.n : Int) - IntKind.i64.wrap ((k : Int) + 1)).toNat < ((T.n : Int) - k).toNat := by rw [hw]; omega
    have hs1 := cntB_succ (fun o => befP (pts (prs T)) false T.m T.off o i) k
    have hs2 := cntB_succ (fun o => befP (pts (prs T)) true T.m T.off o i) k
    refine BR_eq (fun hki => ?_) (fun hki => ?_)
    · have hki' : k = i := by omega
      have hb : ∀ e, befP (pts (prs T)) e T.m T.off k i = false := fun e => by unfold befP; rw [decide_eq_false (fun hne => hne hki'), Bool.false_and]
      rw [hb, if_neg (by simp), Nat.add_zero] at hs1 hs2
      unfold J_ref10_place_0
      exact ⟨rfl, _, rfl, ⟨kt, k + 1, by omega, hw, by rw [hs1]; exact w0, by rw [hs2]; exact w1⟩, hms⟩
    · have hki' : k ≠ i := by omega
      have hbe : ∀ e, befP (pts (prs T)) e T.m T.off k i = aheadL (rowL (pts (prs T)) e T.m (offT T k) k) (rowL (pts (prs T)) (!e) T.m (offT T i) i) := fun e => by unfold befP; rw [decide_eq_true hki', Bool.true_and]; rfl
      refine ⟨_, d0, _, d1, _, _, _, d2, _, _, _, d3, _, d0, _, d1, _, _, _, d2, _, _, _, d3, ?_⟩
      refine f_least hok hkn (hx.ext et) (hy.ext et) fun t1 u1 cu1 f1 r1 => ?_
      try simp only [TUP_mk, AGG_mk, HD_mk, NL_mk, TYI_mk, TYB_mk, TYP_mk, TYL_mk, TYS_mk, TYM_mk, SO_mk, NX_mk, endK_mk, endK_mk', add_0]
      refine ⟨⟨_, f1.cell d0, _, f1.cell d1, _, _, _, f1.cell d2, _, _, _, f1.cell d3, rfl⟩, ?_⟩
      have et1 := et.trans f1
      refine f_most hok hi (hx.ext et1) (hy.ext et1) fun t2 u2 cu2 f2 r2 => ?_
      try simp only [TUP_mk, AGG_mk, HD_mk, NL_mk, TYI_mk, TYB_mk, TYP_mk, TYL_mk, TYS_mk, TYM_mk, SO_mk, NX_mk, endK_mk, endK_mk', add_0]
      have f12 := f1.trans f2
      refine f_ahead (r1.ext f2) r2 (by rw [rowL_len]; omega) (by rw [rowL_len]; omega) (by rw [rowL_len, rowL_len]) (by rw [rowL_len]; omega) ?_
      try simp only [TUP_mk, AGG_mk, HD_mk, NL_mk, TYI_mk, TYB_mk, TYP_mk, TYL_mk, TYS_mk, TYM_mk, SO_mk, NX_mk, endK_mk, endK_mk', add_0]
      -- the second comparison
      have j1 : ∀ (t3 : Hp), Kp (· = s2.size) s4 t3 → Own t3 (Addr.add ⟨s2.size, 0, none⟩ 0) (.int .i64 (1 + (cntB (fun o => befP (pts (prs T)) false T.m T.off o i) (k + 1) : Nat))) → Own t3 (Addr.add ⟨s2.size, 0, none⟩ 1) (.int .i64 (1 + (cntB (fun o => befP (pts (prs T)) true T.m T.off o i) k : Nat))) → J_ref10_place_1 W (endK K E) ⟨s.size, 0, none⟩ k i ⟨s2.size, 0, none⟩ ⟨s1.size, 0, none⟩ (fun vs => N_ref10_place_0 (fun n t => Kp (· = s2.size) s4 t ∧ ∃ k : Nat, k ≤ T.n ∧ n = k ∧ Own t (Addr.add ⟨s2.size, 0, none⟩ 0) (.int .i64 (1 + (cntB (fun o => befP (pts (prs T)) false T.m T.off o i) k : Nat))) ∧ Own t (Addr.add ⟨s2.size, 0, none⟩ 1) (.int .i64 (1 + (cntB (fun o => befP (pts (prs T)) true T.m T.off o i) k : Nat)))) (fun n _ => (T.n - n).toNat) k t vs) t3 := by
        intro t3 k3 v0 v1
        have e3t : Ext s t3 := kp_new e04 (by omega) k3
        have g0 := k3.cell (a := ⟨s.size, 0, none⟩) (by show ¬ s.size = s2.size; omega) c0
        have g1 := k3.cell (a := ⟨s.size, 1, none⟩) (by show ¬ s.size = s2.size; omega) c1
        have g2 := k3.cell (a := ⟨s.size, 2, none⟩) (by show ¬ s.size = s2.size; omega) c2
        have g3 := k3.cell (a := ⟨s.size, 3, none⟩) (by show ¬ s.size = s2.size; omega) c3
        unfold J_ref10_place_1
        refine ⟨_, g0, _, g1, _, _, _, g2, _, _, _, g3, _, g0, _, g1, _, _, _, g2, _, _, _, g3, ?_⟩
        refine f_most hok hkn (hx.ext e3t) (hy.ext e3t) fun t4 u4 cu4 f4 r4 => ?_
        try simp only [TUP_mk, AGG_mk, HD_mk, NL_mk, TYI_mk, TYB_mk, TYP_mk, TYL_mk, TYS_mk, TYM_mk, SO_mk, NX_mk, endK_mk, endK_mk', add_0]
        refine ⟨⟨_, f4.cell g0, _, f4.cell g1, _, _, _, f4.cell g2, _, _, _, f4.cell g3, rfl⟩, ?_⟩
        have et4 := e3t.trans f4
        refine f_least hok hi (hx.ext et4) (hy.ext et4) fun t5 u5 cu5 f5 r5 => ?_
        try simp only [TUP_mk, AGG_mk, HD_mk, NL_mk, TYI_mk, TYB_mk, TYP_mk, TYL_mk, TYS_mk, TYM_mk, SO_mk, NX_mk, endK_mk, endK_mk', add_0]
        have f45 := f4.trans f5
        refine f_ahead (r4.ext f5) r5 (by rw [rowL_len]; omega) (by rw [rowL_len]; omega) (by rw [rowL_len, rowL_len]) (by rw [rowL_len]; omega) ?_
        try simp only [TUP_mk, AGG_mk, HD_mk, NL_mk, TYI_mk, TYB_mk, TYP_mk, TYL_mk, TYS_mk, TYM_mk, SO_mk, NX_mk, endK_mk, endK_mk', add_0]
        have hb := hbe true
        refine BR_bool (fun hh => ?_) (fun hh => ?_)
        · have hb' : befP (pts (prs T)) true T.m T.off k i = true := by rw [hb]; exact hh
          rw [hb', if_pos rfl] at hs2
          have p1 := f45.own v1
          refine ⟨_, p1.cell, WR_own (a := Addr.add ⟨s2.size, 0, none⟩ 1) p1 rfl ?_⟩
          unfold J_ref10_place_0
          refine ⟨rfl, _, rfl, ⟨Kp.setC (k3.ext f45) (.inl rfl), k + 1, by omega, hw, own_set_ne (.inr (by show (0 : Nat) ≠ 1; decide)) (f45.own v0), ?_⟩, hms⟩
          have hv : IntKind.wrap .i64 (1 + ((cntB (fun o => befP (pts (prs T)) true T.m T.off o i) k : Nat) : Int) + 1) = 1 + ((cntB (fun o => befP (pts (prs T)) true T.m T.off o i) (k + 1) : Nat) : Int) := by rw [hs2, wrap_i64 (by omega) (by omega)]; omega
          rw [hv]
          exact own_set p1
        · have hb' : befP (pts (prs T)) true T.m T.off k i = false := by rw [hb]; exact hh
          rw [hb', if_neg (by simp), Nat.add_zero] at hs2
          unfold J_ref10_place_0
          exact ⟨rfl, _, rfl, ⟨k3.ext f45, k + 1, by omega, hw, f45.own v0, by rw [hs2]; exact f45.own v1⟩, hms⟩
      have hb := hbe false
      refine BR_bool (fun hh => ?_) (fun hh => ?_)
      · have hb' : befP (pts (prs T)) false T.m T.off k i = true := by rw [hb]; exact hh
        rw [hb', if_pos rfl] at hs1
        have p0 := f12.own w0
        refine ⟨_, p0.cell, WR_own (a := Addr.add ⟨s2.size, 0, none⟩ 0) p0 rfl ?_⟩
        refine j1 _ (Kp.setC (kt.ext f12) (.inl rfl)) ?_ (own_set_ne (.inr (by show (1 : Nat) ≠ 0; decide)) (f12.own w1))
        have hv : IntKind.wrap .i64 (1 + ((cntB (fun o => befP (pts (prs T)) false T.m T.off o i) k : Nat) : Int) + 1) = 1 + ((cntB (fun o => befP (pts (prs T)) false T.m T.off o i) (k + 1) : Nat) : Int) := by rw [hs1, wrap_i64 (by omega) (by omega)]; omega
        rw [hv]
        exact own_set p0
      · have hb' : befP (pts (prs T)) false T.m T.off k i = false := by rw [hb]; exact hh
        rw [hb', if_neg (by simp), Nat.add_zero] at hs1
        exact j1 _ (kt.ext f12) (by rw [hs1]; exact f12.own w0) (f12.own w1)
  · have hkn : k = T.n := by omega
    subst hkn
    have p0 := kt.own (a := ⟨s1.size, 0, none⟩) (by show ¬ s1.size = s2.size; omega) b0
    have p1 := kt.own (a := ⟨s1.size, 1, none⟩) (by show ¬ s1.size = s2.size; omega) b1
    refine ⟨_, w0.cell, _, w1.cell, ?_⟩
    exact fin_span p0 p1 fun s' k' => h s' (kp_new et (by omega) k')
end
end Go.Proofs.Ytkgcbfbbcaajpaa.G

/- The document's functions of layer 10: Has, read, Could. -/
set_option linter.unusedSimpArgs false
set_option linter.unusedVariables false
set_option maxRecDepth 20000
namespace Go.Proofs.Ytkgcbfbbcaajpaa.G
open Go.V
theorem all_pop : ∀ M : Nat, M ≤ 10 → ∀ k : Nat, k < 2 ^ M → popN k = popN (2 ^ M - 1) → k = 2 ^ M - 1 := by
  have h : ((List.range 11).all fun M => (List.range (2 ^ M)).all fun k => !decide (popN k = popN (2 ^ M - 1)) || decide (k = 2 ^ M - 1)) = true := by decide +kernel
  intro M hM k hk hp
  have h1 := List.all_eq_true.1 h M (List.mem_range.2 (by omega))
  have h2 := List.all_eq_true.1 h1 k (List.mem_range.2 hk)
  rw [decide_eq_true hp] at h2
  simpa using h2
section
variable {W : World} {K : VK} {E : List PanicEntry → Hp → Prop} {s : Hp} {T : Tb}
theorem f_Has {w n : Nat} (hn : n ≤ 40) (hw : w ≤ 100000) (h : K (.bool (w.testBit n)) s) : CALL Pg W F_ref10_Has [.int .i64 (w : Nat), .int .i64 (n : Nat)] K E s := by
  refine does_ref10_Has W w n _ s ?_
  unfold T_ref10_Has
  refine f_power hn ?_
  try simp only [TUP_mk, AGG_mk, HD_mk, NL_mk, TYI_mk, TYB_mk, TYP_mk, TYL_mk, TYS_mk, TYM_mk, SO_mk, NX_mk, endK_mk, endK_mk', add_0]
  have hp : 0 < 2 ^ n := Nat.pow_pos (by omega)
  refine NZI_pos (by omega) ?_
  have e1 : Int.tdiv (w : Int) ((2 ^ n : Nat) : Int) = ((w / 2 ^ n : Nat) : Int) := rfl
  have hd : w / 2 ^ n ≤ w := Nat.div_le_self _ _
  have e4 : IntKind.wrap .i64 ((w / 2 ^ n : Nat) : Int) = ((w / 2 ^ n : Nat) : Int) := by
    generalize w / 2 ^ n = q at *
    exact wrap_i64 (by omega) (by omega)
  rw [e1, e4]
  have e2 : Int.tmod ((w / 2 ^ n : Nat) : Int) 2 = ((w / 2 ^ n % 2 : Nat) : Int) := rfl
  rw [e2]
  have e3 : ((((w / 2 ^ n % 2 : Nat) : Int)) == 1) = w.testBit n := by
    rw [Nat.testBit_eq_decide_div_mod_eq, Bool.beq_eq_decide_eq]
    congr 1
    exact propext ⟨fun h => by omega, fun h => by omega⟩
  rw [e3]; exact h
theorem f_readR {x y : Option Addr} {c c' a b w : Nat} (hok : okT T = true) (ha : a < T.n) (hb : b < T.n) (hw : w < 1024) (hx : RowAt s x (ints T.off)) (hy : ScAt s y T.sc)
    (h : ∀ s' x y c c', Ext s s' → RowAt s' x (ints (readL T a b w T.m).off) → ScAt s' y (readL T a b w T.m).sc → K (.agg #[.int .i64 (readL T a b w T.m).men, .int .i64 (readL T a b w T.m).sheets, .slice x (readL T a b w T.m).off.length c, .slice y (readL T a b w T.m).sc.length c']) s') :
    CALL Pg W F_ref10_read [.agg #[.int .i64 T.men, .int .i64 T.sheets, .slice x T.off.length c, .slice y T.sc.length c'], .int .i64 a, .int .i64 b, .int .i64 w] K E s := by
  have hn := men_n hok
  have hm := sheets_m hok
  obtain ⟨_, n6, _, m5⟩ := n_lim hok
  refine does_ref10_read W T.men T.sheets x T.off.length c y T.sc.length c' a b w _ s ?_
  unfold T_ref10_read
  refine NEW_rule fun s1 e1 z1 n1 _ => ?_
  have ta := tbA_new e1 hx hy n1
  refine nz4 zc_25 fun s2 e2 z2 r0 r1 r2 r3 => ?_
  obtain ⟨x0, c0, y0, c0', g1, g2, g3, g4, hx1, hy1⟩ := ta.all
  refine ⟨_, e2.cell g1, _, e2.cell g2, _, _, _, e2.cell g3, _, _, _, e2.cell g4, ?_⟩
  refine tbV_new e2 hx1 (hy1.ext e2) fun s3 B e3 z3 hB c3 v3 => ?_
  generalize hC : s1.size = C at *
  have hk3 : ∀ p ∈ z4 C, Own s3 p.1 p.2 := fun p hp => e3.own (z4_own r0 r1 r2 r3 p hp)
  have hCB : C ≠ B := by omega
  have hsc0 : ScN s3 B T C := fun y5 c5 hc5 i hi a' ha' => by
    rw [c3] at hc5
    injection hc5 with hc5
    injection hc5 with e1' e2' e3'
    subst e1'
    obtain ⟨ad, had, d0, _⟩ := hy1 i hi
    rw [ha'] at had
    cases had
    have hlt := cell_lt d0
    rw [add_blk, add_blk] at hlt
    omega
  refine L_ref10_read_0_rule W _ a b w ⟨s.size, 0, none⟩ ⟨C, 0, none⟩ ⟨B, 0, none⟩ (fun n u => ∃ j : Nat, j ≤ T.m ∧ n = j ∧ TbV s1 u B (readL T a b w j) (x0, c0) ∧ (∀ p ∈ z4 C, Own u p.1 p.2) ∧ ScN u B (readL T a b w j) C) (fun n _ => (T.m - n).toNat) 0 s3 ⟨0, by omega, rfl, v3, hk3, hsc0⟩ ?_
  rintro n24 u ⟨j, hj, rfl, vu, hku, hsu⟩
  obtain ⟨l1, l2, l3⟩ := readL_same (T := T) (a := a) (b := b) (w := w) j
  unfold B_ref10_read_0
  refine ⟨_, (ta.ext vu.ext).sheets, ?_⟩
  refine BR_dec (fun h1 => ?_) (fun h1 => ?_)
  · have hjm : j < T.m := by omega
    have okL := readL_ok (w := w) hok ha hb hj
    have okH := readH_ok (w := w) hok ha hb hjm
    obtain ⟨q1, q2, q3⟩ := readH_same (T := T) (a := a) (b := b) (w := w) j
    refine f_Has (by omega) (by omega) ?_
    try simp only [TUP_mk, AGG_mk, HD_mk, NL_mk, TYI_mk, TYB_mk, TYP_mk, TYL_mk, TYS_mk, TYM_mk, SO_mk, NX_mk, endK_mk, endK_mk', add_0]
    have hkC : ∀ {u'}, (∀ p ∈ z4 C, Own u' p.1 p.2) → C < u'.size := fun hk => (hk (⟨C, 0, none⟩, .int .i64 0) (by simp [z4])).lt
    have j0 : ∀ u', TbV s1 u' B (readL T a b w (j + 1)) (x0, c0) → (∀ p ∈ z4 C, Own u' p.1 p.2) → ScN u' B (readL T a b w (j + 1)) C → J_ref10_read_0 W (endK K E) a b w ⟨s.size, 0, none⟩ ⟨C, 0, none⟩ ⟨B, 0, none⟩ (fun vs => N_ref10_read_0 (fun n u => ∃ j : Nat, j ≤ T.m ∧ n = j ∧ TbV s1 u B (readL T a b w j) (x0, c0) ∧ (∀ p ∈ z4 C, Own u p.1 p.2) ∧ ScN u B (readL T a b w j) C) (fun n _ => (T.m - n).toNat) j u vs) j u' := by
      intro u' v' hk' hs'
      unfold J_ref10_read_0
      exact ⟨rfl, _, rfl, ⟨j + 1, by omega, wrap_succ (by omega), v', hk', hs'⟩, ms_succ hjm (by omega)⟩
    have j1 : ∀ u', TbV s1 u' B (readH T a b w j) (x0, c0) → (∀ p ∈ z4 C, Own u' p.1 p.2) → ScN u' B (readH T a b w j) C → J_ref10_read_1 W (endK K E) ⟨s.size, 0, none⟩ w j ⟨B, 0, none⟩ b a ⟨C, 0, none⟩ (fun vs => N_ref10_read_0 (fun n u => ∃ j : Nat, j ≤ T.m ∧ n = j ∧ TbV s1 u B (readL T a b w j) (x0, c0) ∧ (∀ p ∈ z4 C, Own u p.1 p.2) ∧ ScN u B (readL T a b w j) C) (fun n _ => (T.m - n).toNat) j u vs) u' := by
      intro u' v' hk' hs'
      unfold J_ref10_read_1
      refine ⟨_, (ta.ext v'.ext).sheets, ?_⟩
      have hwj : IntKind.wrap .i64 (T.sheets + (j : Int)) = ((T.m + j : Nat) : Int) := by rw [wrap_i64 (by omega) (by omega)]; omega
      dsimp only
      rw [hwj]
      refine f_Has (by omega) (by omega) ?_
      try simp only [TUP_mk, AGG_mk, HD_mk, NL_mk, TYI_mk, TYB_mk, TYP_mk, TYL_mk, TYS_mk, TYM_mk, SO_mk, NX_mk, endK_mk, endK_mk', add_0]
      refine BR_bool (fun hb1 => ?_) (fun hb1 => ?_)
      · refine read_step (R := endK K E) (e := false) (X := readH T a b w j) hok okH (by rw [same_n q1]; exact hb) (by rw [same_m q2]; exact hjm) ta v' (hkC hk') hCB hk' fun u2 v2 hk2 hs2 _ => ?_
        have he : readL T a b w (j + 1) = withT (readH T a b w j) b j (loP T b j) := by rw [readL_succ, bitO_t hb1]; rfl
        exact j0 u2 (by rw [he]; exact v2) hk2 (by rw [he]; exact hs2)
      · have he : readL T a b w (j + 1) = readH T a b w j := by rw [readL_succ, bitO_f hb1]; rfl
        exact j0 u' (by rw [he]; exact v') hk' (by rw [he]; exact hs')
    refine BR_bool (fun hb1 => ?_) (fun hb1 => ?_)
    · refine read_step (R := endK K E) (e := true) (X := readL T a b w j) hok okL (by rw [same_n l1]; exact ha) (by rw [same_m l2]; exact hjm) ta vu (hkC hku) hCB hku fun u2 v2 hk2 hs2 _ => ?_
      have he : readH T a b w j = withT (readL T a b w j) a j (hiP T a j) := by unfold readH; rw [bitO_t hb1]; rfl
      exact j1 u2 (by rw [he]; exact v2) hk2 (by rw [he]; exact hs2)
    · have he : readH T a b w j = readL T a b w j := by unfold readH; rw [bitO_f hb1]; rfl
      exact j1 u (by rw [he]; exact vu) hku (by rw [he]; exact hsu)
  · have hjm : j = T.m := by omega
    subst hjm
    refine vu.ret (Nat.le_of_eq hC) hku hsu fun s' y c' e hy => ?_
    exact h s' x0 y c0 c' (e1.trans e) (vu.off.2.ext e) hy
theorem f_Sheet {x y : Option Addr} {c c' : Nat} {i : Int} (h : ∀ s' b, Ext s s' → (okT T = true → b = decide (isS T i)) → K (.bool b) s') :
    CALL Pg W F_ref10_Sheet [.agg #[.int .i64 T.men, .int .i64 T.sheets, .slice x T.off.length c, .slice y T.sc.length c'], .int .i64 i] K E s := by
  refine does_ref10_Sheet W T.men T.sheets x T.off.length c y T.sc.length c' i _ s ?_
  unfold T_ref10_Sheet
  refine NEW_rule fun s1 e1 z1 n1 _ => ?_
  refine ⟨_, (n1 1 _ rfl).cell, ?_⟩
  refine f_in ?_
  try simp only [TUP_mk, AGG_mk, HD_mk, NL_mk, TYI_mk, TYB_mk, TYP_mk, TYL_mk, TYS_mk, TYM_mk, SO_mk, NX_mk, endK_mk, endK_mk', add_0]
  refine h s1 _ e1 fun hok => ?_
  obtain ⟨_, hm, _⟩ := okT_iff.1 hok
  rw [wrap_i64 (by omega) (by omega)]
  rfl
theorem f_Could {x y : Option Addr} {c c' : Nat} {a b : Int} (hx : RowAt s x (ints T.off)) (hy : ScAt s y T.sc) (hlo : T.off.length ≤ 100000) (h : ∀ s', Ext s s' → K (.tuple #[.int .i64 (couldR T a b).1, .int .i64 (couldR T a b).2]) s') :
    CALL Pg W F_ref10_Could [.agg #[.int .i64 T.men, .int .i64 T.sheets, .slice x T.off.length c, .slice y T.sc.length c'], .int .i64 a, .int .i64 b] K E s := by
  refine does_ref10_Could W T.men T.sheets x T.off.length c y T.sc.length c' a b _ s ?_
  unfold T_ref10_Could
  refine NEW_rule fun s1 e1 z1 n1 _ => ?_
  have ta := tbA_new e1 hx hy n1
  have c0 := (n1 0 _ rfl).cell
  have c1 := (n1 1 _ rfl).cell
  have c2 := (n1 2 _ rfl).cell
  have c3 := (n1 3 _ rfl).cell
  refine ⟨_, c0, _, c1, _, _, _, c2, _, _, _, c3, _, c0, _, c1, _, _, _, c2, _, _, _, c3, ?_⟩
  have j0 : ∀ (t : Hp) (q : Bool), Ext s1 t → (okT T = true → q = decide (isM T a ∧ isM T b)) → J_ref10_Could_0 W (endK K E) T.men T.sheets x T.off.length c y T.sc.length c' q s.size a b t := by
    intro t q et hq
    have e0t := e1.trans et
    unfold J_ref10_Could_0
    refine f_check (hx.ext e0t) (hy.ext e0t) hlo fun t2 f2 => ?_
    try simp only [TUP_mk, AGG_mk, HD_mk, NL_mk, TYI_mk, TYB_mk, TYP_mk, TYL_mk, TYS_mk, TYM_mk, SO_mk, NX_mk, endK_mk, endK_mk', add_0]
    have et2 := et.trans f2
    have e0t2 := e1.trans et2
    by_cases hok : okT T = true
    · have hn := men_n hok
      have hm := sheets_m hok
      obtain ⟨np, n6, mp, m5⟩ := n_lim hok
      by_cases hmm : isM T a ∧ isM T b
      · have hbt : q = true := by rw [hq hok]; exact decide_eq_true hmm
        have hc : (if okT T = true then (if q = true then (0 : Int) else 2) else 1) = 0 := by rw [if_pos hok, if_pos hbt]
        rw [hc]
        refine BR_ff rfl ?_
        obtain ⟨i, rfl⟩ := Int.eq_ofNat_of_zero_le hmm.1.1
        obtain ⟨j, rfl⟩ := Int.eq_ofNat_of_zero_le hmm.2.1
        have hin : i < T.n := by have h2 := hmm.1.2; omega
        have hjn : j < T.n := by have h2 := hmm.2.2; omega
        refine rdT (ta.ext et2) fun x c y c' hx hy => ?_
        refine f_can hok hin hjn hx hy fun t3 f3 => ?_
        try simp only [TUP_mk, AGG_mk, HD_mk, NL_mk, TYI_mk, TYB_mk, TYP_mk, TYL_mk, TYS_mk, TYM_mk, SO_mk, NX_mk, endK_mk, endK_mk', add_0]
        have et3 := et2.trans f3
        have hcan : befP (pts (prs T)) true T.m T.off i j = canT T i j := rfl
        rw [hcan]
        have h2p : 2 ^ (2 * T.m) ≤ 2 ^ 10 := Nat.pow_le_pow_right (by omega) (by omega)
        have h1p : 0 < 2 ^ (2 * T.m) := Nat.pow_pos (by omega)
        refine BR_not (fun hf => ?_) (fun ht => ?_)
        · have hr : couldR T i j = (0, 4) := by
            unfold couldR
            rw [if_pos hok, if_pos hmm]
            show (if canT T i j then (match couldN T i j with | some w => (((w : Nat) : Int), (0 : Int)) | none => (0, 4)) else (0, 4)) = _
            rw [hf, if_neg (by simp)]
          rw [hr] at h
          exact h t3 (e1.trans et3)
        · obtain ⟨wc, d1, d2, d3, d4, d5⟩ := could_some hok ht
          have hr : couldR T i j = (((wc : Nat) : Int), 0) := by
            unfold couldR
            rw [if_pos hok, if_pos hmm]
            show (if canT T i j then (match couldN T i j with | some w => (((w : Nat) : Int), (0 : Int)) | none => (0, 4)) else (0, 4)) = _
            rw [ht, if_pos rfl, d1]
          rw [hr] at h
          refine ⟨_, (ta.ext et3).sheets, ?_⟩
          have hw2 : IntKind.wrap .i64 (2 * T.sheets) = ((2 * T.m : Nat) : Int) := by rw [wrap_i64 (by omega) (by omega)]; omega
          dsimp only
          rw [hw2]
          refine f_power (by omega) ?_
          try simp only [TUP_mk, AGG_mk, HD_mk, NL_mk, TYI_mk, TYB_mk, TYP_mk, TYL_mk, TYS_mk, TYM_mk, SO_mk, NX_mk, endK_mk, endK_mk', add_0]
          have hw3 : IntKind.wrap .i64 (((2 ^ (2 * T.m) : Nat) : Int) - 1) = ((2 ^ (2 * T.m) - 1 : Nat) : Int) := by rw [wrap_i64 (by omega) (by omega)]; omega
          rw [hw3]
          refine L_ref10_Could_0_rule W _ i j ⟨s.size, 0, none⟩ ((2 ^ (2 * T.m) - 1 : Nat) : Int) (fun bst n u => Ext s1 u ∧ ∃ b k : Nat, k ≤ 2 ^ (2 * T.m) ∧ n = k ∧ bst = b ∧ b < 2 ^ (2 * T.m) ∧ (b < k ∨ b = 2 ^ (2 * T.m) - 1) ∧ provesB T i j b = true ∧ ∀ z, z < k → provesB T i j z = true → ¬ setLt z b) (fun _ n _ => (((2 ^ (2 * T.m) : Nat) : Int) - n).toNat) _ 0 t3 ⟨et3, 2 ^ (2 * T.m) - 1, 0, by omega, rfl, rfl, by omega, .inr rfl, proves_all hok ht, fun z hz => by omega⟩ ?_
          rintro n102 n103 u ⟨eu, b, k, hk, rfl, rfl, hbl, hbk, hpb, hmin⟩
          unfold B_ref10_Could_0
          refine BR_dec (fun h1 => ?_) (fun h1 => ?_)
          · have hkl : k < 2 ^ (2 * T.m) := by omega
            have hij : i ≠ j := (canT_iff.1 ht).1
            have hms : (((2 ^ (2 * T.m) : Nat) : Int) - IntKind.wrap .i64 ((k : Int) + 1)).toNat < (((2 ^ (2 * T.m) : Nat) : Int) - (k : Int)).toNat := by rw [wrap_succ (by omega)]; omega
            refine f_Size (by omega) ?_
            try simp only [TUP_mk, AGG_mk, HD_mk, NL_mk, TYI_mk, TYB_mk, TYP_mk, TYL_mk, TYS_mk, TYM_mk, SO_mk, NX_mk, endK_mk, endK_mk', add_0]
            refine f_Size (by omega) ?_
            try simp only [TUP_mk, AGG_mk, HD_mk, NL_mk, TYI_mk, TYB_mk, TYP_mk, TYL_mk, TYS_mk, TYM_mk, SO_mk, NX_mk, endK_mk, endK_mk', add_0]
            have keep : ∀ u', Ext s1 u' → (provesB T i j k = true → popN b ≤ popN k) → J_ref10_Could_2 W (endK K E) false i j ⟨s.size, 0, none⟩ ((2 ^ (2 * T.m) - 1 : Nat) : Int) (fun vs => N_ref10_Could_0 (fun bst n u => Ext s1 u ∧ ∃ b k : Nat, k ≤ 2 ^ (2 * T.m) ∧ n = k ∧ bst = b ∧ b < 2 ^ (2 * T.m) ∧ (b < k ∨ b = 2 ^ (2 * T.m) - 1) ∧ provesB T i j b = true ∧ ∀ z, z < k → provesB T i j z = true → ¬ setLt z b) (fun _ n _ => (((2 ^ (2 * T.m) : Nat) : Int) - n).toNat) b k u vs) k b u' := by
              intro u' eu' hle
              unfold J_ref10_Could_2
              rw [BR_f]
              unfold J_ref10_Could_1
              refine ⟨rfl, _, _, rfl, ⟨eu', b, k + 1, by omega, wrap_succ (by omega), rfl, hbl, by omega, hpb, fun z hz hpz => ?_⟩, hms⟩
              by_cases e : z = k
              · subst e
                have := hle hpz
                rintro (hlt | ⟨heq, hlt⟩)
                · omega
                · rcases hbk with h5 | h5
                  · omega
                  · subst h5
                    have := all_pop (2 * T.m) (by omega) z hkl heq
                    omega
              · exact hmin z (by omega) hpz
            refine BR_dec (fun h2 => ?_) (fun h2 => keep u eu fun _ => by omega)
            refine rdT (ta.ext eu) fun x c y c' hx hy => ?_
            refine f_readR hok hin hjn (by omega) hx hy fun u1 x1 y1 c1 c1' m1 hx1 hy1 => ?_
            try simp only [TUP_mk, AGG_mk, HD_mk, NL_mk, TYI_mk, TYB_mk, TYP_mk, TYL_mk, TYS_mk, TYM_mk, SO_mk, NX_mk, endK_mk, endK_mk', add_0]
            have okR := readL_ok (w := k) hok hin hjn (Nat.le_refl T.m)
            obtain ⟨r1, r2, r3⟩ := readL_same (T := T) (a := i) (b := j) (w := k) T.m
            refine f_surely okR (by rw [same_n r1]; exact hin) (by rw [same_n r1]; exact hjn) hx1 hy1 fun u2 m2 => ?_
            try simp only [TUP_mk, AGG_mk, HD_mk, NL_mk, TYI_mk, TYB_mk, TYP_mk, TYL_mk, TYS_mk, TYM_mk, SO_mk, NX_mk, endK_mk, endK_mk', add_0]
            have eu2 := eu.trans (m1.trans m2)
            have hps : befP (pts (prs (readL T i j k T.m))) false (readL T i j k T.m).m (readL T i j k T.m).off i j = provesB T i j k := proves_sur hok hin hjn hij
            rw [hps]
            cases hpk : provesB T i j k with
            | false => exact keep u2 eu2 fun hh => by rw [hpk] at hh; cases hh
            | true =>
              unfold J_ref10_Could_2
              rw [BR_t]
              unfold J_ref10_Could_1
              refine ⟨rfl, _, _, rfl, ⟨eu2, k, k + 1, by omega, wrap_succ (by omega), rfl, hkl, .inl (by omega), hpk, fun z hz hpz => ?_⟩, hms⟩
              have h2' : popN k < popN b := by omega
              by_cases e : z = k
              · subst e; rintro (hlt | ⟨_, hlt⟩) <;> omega
              · have := hmin z (by omega) hpz
                rintro (hlt | ⟨heq, hlt⟩)
                · exact this (.inl (by omega))
                · exact this (.inl (by omega))
          · have hkl : k = 2 ^ (2 * T.m) := by omega
            subst hkl
            have h1 := hmin wc d2 d3
            have h2 := d4 b hbl hpb
            have : b = wc := by
              unfold setLt at h1 h2
              omega
            subst this
            exact h u (e1.trans eu)
      · have hbf : q = false := by rw [hq hok]; exact decide_eq_false hmm
        have hc : (if okT T = true then (if q = true then (0 : Int) else 2) else 1) = 2 := by rw [if_pos hok, hbf]; rfl
        rw [hc]
        refine BR_tt rfl ?_
        have hr : couldR T a b = (0, 2) := by unfold couldR; rw [if_pos hok, if_neg hmm]
        rw [hr] at h
        exact h t2 e0t2
    · have hc : (if okT T = true then (if q = true then (0 : Int) else 2) else 1) = 1 := by rw [if_neg hok]
      rw [hc]
      refine BR_tt rfl ?_
      have hr : couldR T a b = (0, 1) := by unfold couldR; rw [if_neg hok]
      rw [hr] at h
      exact h t2 e0t2
  refine f_Man fun s3 q1 e3 hb => ?_
  try simp only [TUP_mk, AGG_mk, HD_mk, NL_mk, TYI_mk, TYB_mk, TYP_mk, TYL_mk, TYS_mk, TYM_mk, SO_mk, NX_mk, endK_mk, endK_mk', add_0]
  refine ⟨⟨_, e3.cell c0, _, e3.cell c1, _, _, _, e3.cell c2, _, _, _, e3.cell c3, rfl⟩, ?_⟩
  refine BR_bool (fun hq => ?_) (fun hq => ?_)
  · refine ⟨_, e3.cell c0, _, e3.cell c1, _, _, _, e3.cell c2, _, _, _, e3.cell c3, ?_⟩
    refine f_Man fun s4 q2 e4 hb2 => ?_
    try simp only [TUP_mk, AGG_mk, HD_mk, NL_mk, TYI_mk, TYB_mk, TYP_mk, TYL_mk, TYS_mk, TYM_mk, SO_mk, NX_mk, endK_mk, endK_mk', add_0]
    have e34 := e3.trans e4
    refine ⟨⟨_, e34.cell c0, _, e34.cell c1, _, _, _, e34.cell c2, _, _, _, e34.cell c3, rfl⟩, ?_⟩
    refine j0 s4 q2 e34 fun hok => ?_
    have h1 : isM T a := of_decide_eq_true ((hb hok) ▸ hq)
    rw [hb2 hok]
    congr 1
    apply propext
    exact ⟨fun h2 => ⟨h1, h2⟩, fun h2 => h2.2⟩
  · refine j0 s3 false e3 fun hok => ?_
    have h1 : ¬ isM T a := of_decide_eq_false ((hb hok) ▸ hq)
    exact (decide_eq_false (fun h2 => h1 h2.1)).symm
end
end Go.Proofs.Ytkgcbfbbcaajpaa.G

/- The document's functions of layer 10: Need, Order. -/
set_option linter.unusedSimpArgs false
set_option linter.unusedVariables false
set_option maxRecDepth 20000
namespace Go.Proofs.Ytkgcbfbbcaajpaa.G
open Go.V
theorem sub_bit : ∀ w : Nat, w < 64 → ∀ j : Nat, j < 6 → w.testBit j = true → 2 ^ j ≤ w ∧ ∀ b : Nat, b < 8 → (w - 2 ^ j).testBit b = (!decide (b = j) && w.testBit b) := by
  have h : ((List.range 64).all fun w => (List.range 6).all fun j => !w.testBit j || (decide (2 ^ j ≤ w) && (List.range 8).all fun b => decide ((w - 2 ^ j).testBit b = (!decide (b = j) && w.testBit b)))) = true := by decide +kernel
  intro w hw j hj hb
  have h1 := List.all_eq_true.1 h w (List.mem_range.2 hw)
  have h2 := List.all_eq_true.1 h1 j (List.mem_range.2 hj)
  rw [hb] at h2
  simp only [Bool.not_true, Bool.false_or, Bool.and_eq_true, decide_eq_true_eq, List.all_eq_true, List.mem_range] at h2
  exact h2
theorem bits_zero : ∀ w : Nat, w < 64 → (∀ b : Nat, b < 8 → w.testBit b = false) → w = 0 := by
  have h : ((List.range 64).all fun w => decide (w = 0) || (List.range 8).any fun b => w.testBit b) = true := by decide +kernel
  intro w hw hb
  have h1 := List.all_eq_true.1 h w (List.mem_range.2 hw)
  have h2 : ((List.range 8).any fun b => w.testBit b) = false := List.any_eq_false.2 fun b hb' => by rw [hb b (List.mem_range.1 hb')]; simp
  rw [h2] at h1
  simpa using h1
section
variable {W : World} {K : VK} {E : List PanicEntry → Hp → Prop} {s : Hp} {T : Tb}
theorem f_Need {x y : Option Addr} {c c' : Nat} {a b pl : Int} (hx : RowAt s x (ints T.off)) (hy : ScAt s y T.sc) (hlo : T.off.length ≤ 100000) (h : ∀ s', Ext s s' → K (.tuple #[.int .i64 (needR T a b pl).1, .int .i64 (needR T a b pl).2]) s') :
    CALL Pg W F_ref10_Need [.agg #[.int .i64 T.men, .int .i64 T.sheets, .slice x T.off.length c, .slice y T.sc.length c'], .int .i64 a, .int .i64 b, .int .i64 pl] K E s := by
  refine does_ref10_Need W T.men T.sheets x T.off.length c y T.sc.length c' a b pl _ s ?_
  unfold T_ref10_Need
  refine NEW_rule fun s1 e1 z1 n1 _ => ?_
  have ta := tbA_new e1 hx hy n1
  have c0 := (n1 0 _ rfl).cell
  have c1 := (n1 1 _ rfl).cell
  have c2 := (n1 2 _ rfl).cell
  have c3 := (n1 3 _ rfl).cell
  refine ⟨_, c0, _, c1, _, _, _, c2, _, _, _, c3, _, c0, _, c1, _, _, _, c2, _, _, _, c3, ?_⟩
  have j0 : ∀ (t : Hp) (q : Bool), Ext s1 t → (okT T = true → q = decide (isM T a ∧ isS T b ∧ 1 ≤ pl ∧ pl ≤ T.men)) → J_ref10_Need_0 W (endK K E) T.men T.sheets x T.off.length c y T.sc.length c' q s.size a b pl t := by
    intro t q et hq
    have e0t := e1.trans et
    unfold J_ref10_Need_0
    refine f_check (hx.ext e0t) (hy.ext e0t) hlo fun t2 f2 => ?_
    try simp only [TUP_mk, AGG_mk, HD_mk, NL_mk, TYI_mk, TYB_mk, TYP_mk, TYL_mk, TYS_mk, TYM_mk, SO_mk, NX_mk, endK_mk, endK_mk', add_0]
    have et2 := et.trans f2
    have e0t2 := e1.trans et2
    by_cases hok : okT T = true
    · have hn := men_n hok
      have hm := sheets_m hok
      obtain ⟨np, n6, mp, m5⟩ := n_lim hok
      obtain ⟨_, _, _, _, h30, _⟩ := okT_iff.1 hok
      by_cases hmm : isM T a ∧ isS T b ∧ 1 ≤ pl ∧ pl ≤ T.men
      · have hbt : q = true := by rw [hq hok]; exact decide_eq_true hmm
        have hc : (if okT T = true then (if q = true then (0 : Int) else 2) else 1) = 0 := by rw [if_pos hok, if_pos hbt]
        rw [hc]
        refine BR_ff rfl ?_
        obtain ⟨i, rfl⟩ := Int.eq_ofNat_of_zero_le hmm.1.1
        obtain ⟨k, rfl⟩ := Int.eq_ofNat_of_zero_le hmm.2.1.1
        have hin : i < T.n := by have h2 := hmm.1.2; omega
        have hkm : k < T.m := by have h2 := hmm.2.1.2; omega
        have hr : needR T i k pl = match needN T i k pl with | some q => (q, 0) | none => (0, 4) := by
          unfold needR
          rw [if_pos hok, if_pos hmm]; rfl
        refine rdT (ta.ext et2) fun x c y c' hx hy => ?_
        refine f_Points hx hy (by omega) fun t3 f3 => ?_
        unfold spanV
        try simp only [TUP_mk, AGG_mk, HD_mk, NL_mk, TYI_mk, TYB_mk, TYP_mk, TYL_mk, TYS_mk, TYM_mk, SO_mk, NX_mk, endK_mk, endK_mk', add_0]
        refine nw2 zc_29 rfl rfl fun t4 f4 z4 p0 p1 => ?_
        have hlh := lo_hi hok i k
        have hL : (pts (prs T) ((i : Int), (k : Int))).1 = loP T i k := rfl
        have hH : (pts (prs T) ((i : Int), (k : Int))).2 = hiP T i k := rfl
        rw [hL] at p0
        rw [hH] at p1
        have et4 := et2.trans (f3.trans f4)
        have hnN : needN T i k pl = needG (enough T i k pl) (hiP T i k - loP T i k + 1).toNat (loP T i k) := rfl
        refine ⟨_, p0.cell, ?_⟩
        refine L_ref10_Need_0_rule W _ i k pl ⟨s.size, 0, none⟩ ⟨t3.size, 0, none⟩ (fun _ _ q u => Ext t4 u ∧ loP T i k ≤ q ∧ q ≤ hiP T i k + 1 ∧ needN T i k pl = needG (enough T i k pl) (hiP T i k - q + 1).toNat q) (fun _ _ q _ => (hiP T i k + 1 - q).toNat) 0 0 (loP T i k) t4 ⟨Ext.refl _, Int.le_refl _, by omega, hnN⟩ ?_
        rintro n148 n149 q u ⟨eu, q1, q2, hg⟩
        have e1u := et4.trans eu
        unfold B_ref10_Need_0
        refine ⟨_, eu.cell p1.cell, ?_⟩
        refine BR_dec (fun h1 => ?_) (fun h1 => ?_)
        · have hsz : (hiP T i k - q + 1).toNat = (hiP T i k - (q + 1) + 1).toNat + 1 := by omega
          rw [hsz] at hg
          unfold needG at hg
          refine rdT (ta.ext e1u) fun x c y c' hx hy => ?_
          refine f_WithN hok hin hkm (by omega) (by omega) hx hy fun u1 y1 c1' m1 hok1 hx1 hy1 _ => ?_
          try simp only [TUP_mk, AGG_mk, HD_mk, NL_mk, TYI_mk, TYB_mk, TYP_mk, TYL_mk, TYS_mk, TYM_mk, SO_mk, NX_mk, endK_mk, endK_mk', add_0]
          refine f_place hok1 hin hx1 hy1 fun u2 m2 => ?_
          unfold spanV
          try simp only [TUP_mk, AGG_mk, HD_mk, NL_mk, TYI_mk, TYB_mk, TYP_mk, TYL_mk, TYS_mk, TYM_mk, SO_mk, NX_mk, endK_mk, endK_mk', add_0]
          have hpe : (plcP (pts (prs (withT T i k q))) (withT T i k q).m (withT T i k q).n (withT T i k q).off i).2 = (plcT (withT T i k q) i).2 := rfl
          rw [hpe]
          rw [enough_eq hok] at hg
          refine BR_dec (fun h2 => ?_) (fun h2 => ?_)
          · rw [decide_eq_true h2, if_pos rfl] at hg
            rw [hr, hg] at h
            exact h u2 (e1.trans (e1u.trans (m1.trans m2)))
          · rw [decide_eq_false h2, if_neg (by simp)] at hg
            have hw : IntKind.wrap .i64 (q + 1) = q + 1 := wrap_i64 (by omega) (by omega)
            refine ⟨_, _, _, rfl, ⟨eu.trans (m1.trans m2), by rw [hw]; omega, by rw [hw]; omega, by rw [hw]; exact hg⟩, ?_⟩
            show (hiP T i k + 1 - IntKind.wrap .i64 (q + 1)).toNat < (hiP T i k + 1 - q).toNat
            rw [hw]; omega
        · have hqe : (hiP T i k - q + 1).toNat = 0 := by omega
          rw [hqe] at hg
          unfold needG at hg
          rw [hr, hg] at h
          exact h u (e1.trans e1u)
      · have hbf : q = false := by rw [hq hok]; exact decide_eq_false hmm
        have hc : (if okT T = true then (if q = true then (0 : Int) else 2) else 1) = 2 := by rw [if_pos hok, hbf]; rfl
        rw [hc]
        refine BR_tt rfl ?_
        have hr : needR T a b pl = (0, 2) := by unfold needR; rw [if_pos hok, if_neg hmm]
        rw [hr] at h
        exact h t2 e0t2
    · have hc : (if okT T = true then (if q = true then (0 : Int) else 2) else 1) = 1 := by rw [if_neg hok]
      rw [hc]
      refine BR_tt rfl ?_
      have hr : needR T a b pl = (0, 1) := by unfold needR; rw [if_neg hok]
      rw [hr] at h
      exact h t2 e0t2
  have j1 : ∀ (t : Hp) (q : Bool), Ext s1 t → (okT T = true → q = decide (isM T a ∧ isS T b)) → J_ref10_Need_1 W (endK K E) q s.size pl T.men T.sheets x T.off.length c y T.sc.length c' a b t := by
    intro t q et hq
    unfold J_ref10_Need_1
    refine BR_bool (fun h1 => ?_) (fun h1 => j0 t false et fun hok => ?_)
    · refine ⟨_, et.cell c0, ?_⟩
      refine f_in ?_
      try simp only [TUP_mk, AGG_mk, HD_mk, NL_mk, TYI_mk, TYB_mk, TYP_mk, TYL_mk, TYS_mk, TYM_mk, SO_mk, NX_mk, endK_mk, endK_mk', add_0]
      refine ⟨⟨_, et.cell c0, _, et.cell c1, _, _, _, et.cell c2, _, _, _, et.cell c3, rfl⟩, ?_⟩
      refine j0 t _ et fun hok => ?_
      have h2 : isM T a ∧ isS T b := of_decide_eq_true ((hq hok) ▸ h1)
      congr 1
      exact propext ⟨fun h3 => ⟨h2.1, h2.2, h3⟩, fun h3 => h3.2.2⟩
    · have h2 : ¬ (isM T a ∧ isS T b) := of_decide_eq_false ((hq hok) ▸ h1)
      exact (decide_eq_false fun h3 => h2 ⟨h3.1, h3.2.1⟩).symm
  refine f_Man fun s3 q1 e3 hb => ?_
  try simp only [TUP_mk, AGG_mk, HD_mk, NL_mk, TYI_mk, TYB_mk, TYP_mk, TYL_mk, TYS_mk, TYM_mk, SO_mk, NX_mk, endK_mk, endK_mk', add_0]
  refine ⟨⟨_, e3.cell c0, _, e3.cell c1, _, _, _, e3.cell c2, _, _, _, e3.cell c3, rfl⟩, ?_⟩
  refine BR_bool (fun hq => ?_) (fun hq => ?_)
  · refine ⟨_, e3.cell c0, _, e3.cell c1, _, _, _, e3.cell c2, _, _, _, e3.cell c3, ?_⟩
    refine f_Sheet fun s4 q2 e4 hb2 => ?_
    try simp only [TUP_mk, AGG_mk, HD_mk, NL_mk, TYI_mk, TYB_mk, TYP_mk, TYL_mk, TYS_mk, TYM_mk, SO_mk, NX_mk, endK_mk, endK_mk', add_0]
    have e34 := e3.trans e4
    refine ⟨⟨_, e34.cell c0, _, e34.cell c1, _, _, _, e34.cell c2, _, _, _, e34.cell c3, rfl⟩, ?_⟩
    refine j1 s4 q2 e34 fun hok => ?_
    have h1 : isM T a := of_decide_eq_true ((hb hok) ▸ hq)
    rw [hb2 hok]
    congr 1
    apply propext
    exact ⟨fun h2 => ⟨h1, h2⟩, fun h2 => h2.2⟩
  · refine j1 s3 false e3 fun hok => ?_
    have h1 : ¬ isM T a := of_decide_eq_false ((hb hok) ▸ hq)
    exact (decide_eq_false (fun h2 => h1 h2.1)).symm
/-- Is nobody of those who are left surely before? The first ones alone. -/
def firstK (T : Tb) (left : List Nat) (i k : Nat) : Bool := decide (i ∈ left) && !((List.range k).any fun o => decide (o ∈ left) && surT T o i)
theorem firstK_succ (T : Tb) (left : List Nat) (i k : Nat) : firstK T left i (k + 1) = (firstK T left i k && !(decide (k ∈ left) && surT T k i)) := by
  unfold firstK
  rw [List.range_succ, List.any_append]
  simp only [List.any_cons, List.any_nil, Bool.or_false, Bool.not_or, Bool.and_assoc]
theorem firstK_all {left : List Nat} (hlt : ∀ o ∈ left, o < T.n) (i : Nat) : firstK T left i T.n = isFirst T left i := by
  unfold firstK isFirst held
  congr 2
  rw [Bool.eq_iff_iff, List.any_eq_true, List.any_eq_true]
  constructor
  · rintro ⟨o, ho, h⟩
    simp only [Bool.and_eq_true, decide_eq_true_eq] at h
    exact ⟨o, h.1, h.2⟩
  · rintro ⟨o, ho, h⟩
    exact ⟨o, List.mem_range.2 (hlt o ho), by simp [ho, h]⟩
theorem f_Order {x y : Option Addr} {c c' : Nat} (hx : RowAt s x (ints T.off)) (hy : ScAt s y T.sc) (hlo : T.off.length ≤ 100000) (h : ∀ s' z cz, Ext s s' → RowAt s' z (ints (natI (orderR T).1)) → K (.tuple #[.slice z (orderR T).1.length cz, .int .i64 (orderR T).2]) s') :
    CALL Pg W F_ref10_Order [.agg #[.int .i64 T.men, .int .i64 T.sheets, .slice x T.off.length c, .slice y T.sc.length c']] K E s := by
  refine does_ref10_Order W T.men T.sheets x T.off.length c y T.sc.length c' _ s ?_
  unfold T_ref10_Order
  refine NEW_rule fun s1 e1 z1 n1 _ => ?_
  have ta := tbA_new e1 hx hy n1
  refine rdT ta fun x c y c' hx hy => ?_
  refine f_Table hx hy hlo fun s2 e2 => ?_
  try simp only [TUP_mk, AGG_mk, HD_mk, NL_mk, TYI_mk, TYB_mk, TYP_mk, TYL_mk, TYS_mk, TYM_mk, SO_mk, NX_mk, endK_mk, endK_mk', add_0]
  refine BR_not (fun hf => ?_) (fun hok => ?_)
  · have hr : orderR T = ([], 1) := by unfold orderR; rw [hf]; rfl
    rw [hr] at h
    exact h s2 none 0 (e1.trans e2) (fun i hi => by simp [ints, natI] at hi)
  have hn := men_n hok
  obtain ⟨np, n6, mp, m5⟩ := n_lim hok
  have hr : orderR T = (orderP T, 0) := by unfold orderR; rw [if_pos hok]
  rw [hr] at h
  have cm : ∀ {t}, Ext s1 t → cellAt t (Addr.add ⟨s.size, 0, none⟩ 0) = some (.int .i64 (T.n : Nat)) := fun e => by rw [hn]; exact (ta.ext e).men
  refine ⟨_, cm e2, ?_⟩
  refine f_power (by omega) ?_
  try simp only [TUP_mk, AGG_mk, HD_mk, NL_mk, TYI_mk, TYB_mk, TYP_mk, TYL_mk, TYS_mk, TYM_mk, SO_mk, NX_mk, endK_mk, endK_mk', add_0]
  have hp6 : 2 ^ T.n ≤ 2 ^ 6 := Nat.pow_le_pow_right (by omega) n6
  have hp0 : 0 < 2 ^ T.n := Nat.pow_pos (by omega)
  have hw0 : IntKind.wrap .i64 (((2 ^ T.n : Nat) : Int) - 1) = ((2 ^ T.n - 1 : Nat) : Int) := by rw [wrap_i64 (by omega) (by omega)]; omega
  rw [hw0]
  refine L_ref10_Order_0_rule W _ ⟨s.size, 0, none⟩ (fun xx ll cc n u => Ext s1 u ∧ ∃ (out left : List Nat) (w : Nat), n = w ∧ w < 64 ∧ (∀ b, b < 8 → w.testBit b = decide (b ∈ left)) ∧ left.Nodup ∧ Li s1.size u xx ll cc (natI out) ∧ (∀ o ∈ left, o < T.n) ∧ out.length + left.length = T.n ∧ orderP T = out ++ ordG T left.length left) (fun _ ll _ _ _ => T.n - ll) none 0 0 _ s2
    ⟨e2, [], List.range T.n, 2 ^ T.n - 1, rfl, by omega, (fun b _ => by rw [Nat.testBit_two_pow_sub_one]; simp), List.nodup_range, ⟨Fr.nil _ _ _, (fun b hb => by cases hb)⟩, (fun o ho => List.mem_range.1 ho), by simp, by unfold orderP; simp⟩ ?_
  rintro xx ll cc n u ⟨eu, out, left, w, rfl, hw, hbits, hnd, li, hlt, hsum, hord⟩
  have hll := li.len
  have hlo' : (natI out).length = out.length := by unfold natI; simp
  unfold B_ref10_Order_0
  refine BR_dec (fun h1 => ?_) (fun h1 => ?_)
  · have hne : left ≠ [] := fun e => by
      subst e
      have := bits_zero w hw fun b hb => by rw [hbits b hb]; simp
      omega
    obtain ⟨i0, hf, hi0⟩ := first_ex hok hne hlt
    have hi0n := hlt i0 hi0
    generalize hnx0 : (fun vs => N_ref10_Order_0 (fun xx ll cc n u => Ext s1 u ∧ ∃ (out left : List Nat) (w : Nat), n = w ∧ w < 64 ∧ (∀ b, b < 8 → w.testBit b = decide (b ∈ left)) ∧ left.Nodup ∧ Li s1.size u xx ll cc (natI out) ∧ (∀ o ∈ left, o < T.n) ∧ out.length + left.length = T.n ∧ orderP T = out ++ ordG T left.length left) (fun _ ll _ _ _ => T.n - ll) xx ll cc w u vs) = nx0
    refine L_ref10_Order_1_rule W _ nx0 ⟨s.size, 0, none⟩ xx ll cc w (fun nxt i v => Ext u v ∧ ∃ k : Nat, k ≤ T.n ∧ i = k ∧ ((nxt = -1 ∧ ∀ j, j < k → isFirst T left j = false) ∨ (nxt = i0 ∧ k = i0 + 1))) (fun nxt i _ => (T.n - i).toNat) (-1) 0 u ⟨Ext.refl _, 0, by omega, rfl, .inl ⟨rfl, fun j hj => by omega⟩⟩ ?_
    rintro nxt i v ⟨ev, k, hk, rfl, hst⟩
    have e1v := eu.trans ev
    unfold B_ref10_Order_1
    refine ⟨_, cm e1v, ?_⟩
    -- it was found
    have found : nxt = i0 → J_ref10_Order_0 W (endK K E) false w k nx0 (fun vs => N_ref10_Order_1 (fun nxt i v => Ext u v ∧ ∃ k : Nat, k ≤ T.n ∧ i = k ∧ ((nxt = -1 ∧ ∀ j, j < k → isFirst T left j = false) ∨ (nxt = i0 ∧ k = i0 + 1))) (fun nxt i _ => (T.n - i).toNat) nxt k v vs) ⟨s.size, 0, none⟩ xx ll cc nxt v := by
      rintro rfl
      unfold J_ref10_Order_0
      rw [BR_f]
      refine ne1 fun v1 m1 _ o1 => ?_
      have hl8 : (natI out).length ≤ 1000 := by omega
      refine li_add (li.ext (ev.trans m1)) (Nat.le_trans e1v.1 m1.1) o1.cell hl8 fun v2 x2 c2 k2 li2 g2 => ?_
      have e12 : Ext s1 v2 := kp_nil (e1v.trans m1) (fun b ⟨a, ha, hb⟩ => by rw [← hb]; exact li.fr.fr a ha) k2
      refine f_power (by omega) ?_
      try simp only [TUP_mk, AGG_mk, HD_mk, NL_mk, TYI_mk, TYB_mk, TYP_mk, TYL_mk, TYS_mk, TYM_mk, SO_mk, NX_mk, endK_mk, endK_mk', add_0]
      have hbi : w.testBit i0 = true := by rw [hbits i0 (by omega)]; exact decide_eq_true hi0
      obtain ⟨hle, hsb⟩ := sub_bit w hw i0 (by omega) hbi
      have hws : IntKind.wrap .i64 ((w : Int) - ((2 ^ i0 : Nat) : Int)) = ((w - 2 ^ i0 : Nat) : Int) := by
        generalize 2 ^ i0 = P at *
        rw [wrap_i64 (by omega) (by omega)]; omega
      have hw64 : w - 2 ^ i0 < 64 := Nat.lt_of_le_of_lt (Nat.sub_le _ _) hw
      rw [← hnx0, hws]
      have hlen1 : (left.erase i0).length = left.length - 1 := List.length_erase_of_mem hi0
      have hlpos : 0 < left.length := List.length_pos_iff.2 hne
      refine ⟨_, _, _, _, rfl, ⟨e12, out ++ [i0], left.erase i0, w - 2 ^ i0, rfl, hw64, fun b hb => ?_, hnd.erase i0, ?_, fun o ho => hlt o (List.mem_of_mem_erase ho), ?_, ?_⟩, ?_⟩
      · have hme : b ∈ left.erase i0 ↔ b ≠ i0 ∧ b ∈ left := hnd.mem_erase_iff
        rw [hsb b hb, hbits b hb, Bool.eq_iff_iff]
        simp [hme]
      · have : natI (out ++ [i0]) = natI out ++ [(i0 : Int)] := by unfold natI; rw [List.map_append]; rfl
        rw [this]; exact li2
      · rw [List.length_append, hlen1, List.length_singleton]; omega
      · rw [hord, hlen1]
        have : left.length = (left.length - 1) + 1 := by omega
        rw [this]
        show out ++ (match firstP T left with | some i => i :: ordG T (left.length - 1) (left.erase i) | none => []) = _
        rw [hf]; simp
      · show T.n - (ll + 1) < T.n - ll
        omega
    have hfi : isFirst T left i0 = true := List.find?_some hf
    refine BR_dec (fun h2 => ?_) (fun h2 => ?_)
    · have hkn : k < T.n := by omega
      rcases hst with ⟨rfl, hno⟩ | ⟨rfl, hke⟩
      · unfold J_ref10_Order_0
        refine BR_tt rfl ?_
        refine f_Has (by omega) (by omega) ?_
        try simp only [TUP_mk, AGG_mk, HD_mk, NL_mk, TYI_mk, TYB_mk, TYP_mk, TYL_mk, TYS_mk, TYM_mk, SO_mk, NX_mk, endK_mk, endK_mk', add_0]
        generalize hnx1 : (fun vs => N_ref10_Order_1 (fun nxt i v => Ext u v ∧ ∃ k : Nat, k ≤ T.n ∧ i = k ∧ ((nxt = -1 ∧ ∀ j, j < k → isFirst T left j = false) ∨ (nxt = i0 ∧ k = i0 + 1))) (fun nxt i _ => (T.n - i).toNat) (-1) k v vs) = nx1
        refine L_ref10_Order_2_rule W _ nx0 nx1 ⟨s.size, 0, none⟩ xx ll cc w (-1) k (fun b j v' => Ext v v' ∧ ∃ q : Nat, q ≤ T.n ∧ j = q ∧ b = firstK T left k q) (fun _ j _ => (T.n - j).toNat) _ 0 v ⟨Ext.refl _, 0, by omega, rfl, by rw [hbits k (by omega)]; unfold firstK; simp⟩ ?_
        rintro b43 n44 v' ⟨ev', q, hq, rfl, rfl⟩
        have e1v' := e1v.trans ev'
        unfold B_ref10_Order_2
        refine ⟨_, cm e1v', ?_⟩
        refine BR_dec (fun h3 => ?_) (fun h3 => ?_)
        · have hqn : q < T.n := by omega
          have j1 : ∀ (v2 : Hp) (b : Bool), Ext v v2 → b = firstK T left k (q + 1) → J_ref10_Order_1 W (endK K E) ⟨s.size, 0, none⟩ xx ll cc w (-1) k (fun vs => N_ref10_Order_2 (fun b j v' => Ext v v' ∧ ∃ q : Nat, q ≤ T.n ∧ j = q ∧ b = firstK T left k q) (fun _ j _ => (T.n - j).toNat) (firstK T left k q) q v' vs) b q v2 := by
            rintro v2 b e2' rfl
            unfold J_ref10_Order_1
            exact ⟨rfl, _, _, rfl, ⟨e2', q + 1, by omega, wrap_succ (by omega), rfl⟩, ms_succ hqn (by omega)⟩
          refine BR_bool (fun hb => ?_) (fun hb => ?_)
          · refine f_Has (by omega) (by omega) ?_
            try simp only [TUP_mk, AGG_mk, HD_mk, NL_mk, TYI_mk, TYB_mk, TYP_mk, TYL_mk, TYS_mk, TYM_mk, SO_mk, NX_mk, endK_mk, endK_mk', add_0]
            rw [hbits q (by omega)]
            refine BR_dec (fun h4 => ?_) (fun h4 => ?_)
            · refine rdT (ta.ext e1v') fun x c y c' hx hy => ?_
              refine f_surely hok hqn hkn hx hy fun v2 m2 => ?_
              try simp only [TUP_mk, AGG_mk, HD_mk, NL_mk, TYI_mk, TYB_mk, TYP_mk, TYL_mk, TYS_mk, TYM_mk, SO_mk, NX_mk, endK_mk, endK_mk', add_0]
              refine j1 v2 _ (ev'.trans m2) ?_
              rw [firstK_succ, hb, decide_eq_true h4, Bool.true_and, Bool.true_and]; rfl
            · refine j1 v' _ ev' ?_
              rw [firstK_succ, hb, decide_eq_false h4, Bool.false_and]; rfl
          · refine j1 v' _ ev' ?_
            rw [firstK_succ, hb, Bool.false_and]
        · have hqn : q = T.n := by omega
          subst hqn
          rw [firstK_all hlt]
          refine BR_bool (fun hb => ?_) (fun hb => ?_)
          · have hki : k = i0 := by
              rcases Nat.lt_trichotomy k i0 with h5 | h5 | h5
              · obtain ⟨h6, l1, l2, h7, h8⟩ := List.find?_eq_some_iff_append.1 hf
                have hm : k ∈ List.range T.n := List.mem_range.2 hkn
                have hs : (List.range T.n).Pairwise (· < ·) := List.pairwise_lt_range
                rw [h7] at hm hs
                rcases List.mem_append.1 hm with h9 | h9
                · have := h8 k h9; rw [hb] at this; cases this
                · rcases List.mem_cons.1 h9 with h9 | h9
                  · exact h9
                  · have := List.rel_of_pairwise_cons (List.pairwise_append.1 hs).2.1 h9; omega
              · exact h5
              · have := hno i0 h5; rw [hfi] at this; cases this
            subst hki
            rw [← hnx1]
            exact ⟨rfl, _, _, rfl, ⟨ev.trans ev', k + 1, by omega, wrap_succ (by omega), .inr ⟨rfl, rfl⟩⟩, ms_succ hkn (by omega)⟩
          · rw [← hnx1]
            refine ⟨rfl, _, _, rfl, ⟨ev.trans ev', k + 1, by omega, wrap_succ (by omega), .inl ⟨rfl, fun j hj => ?_⟩⟩, ms_succ hkn (by omega)⟩
            by_cases e : j = k
            · subst e; exact hb
            · exact hno j (by omega)
      · have : decide (((i0 : Nat) : Int) < 0) = false := decide_eq_false (by omega)
        rw [this]; exact found rfl
    · have hkn : k = T.n := by omega
      rcases hst with ⟨rfl, hno⟩ | ⟨rfl, hke⟩
      · have := hno i0 (by omega)
        rw [hfi] at this; cases this
      · exact found rfl
  · have hle : left = [] := by
      cases left with
      | nil => rfl
      | cons b r =>
        have hb := hbits b (by have := hlt b (by simp); omega)
        rw [decide_eq_true (by simp)] at hb
        have hw0' : w = 0 := by omega
        subst hw0'
        simp at hb
    subst hle
    have ho : orderP T = out := by rw [hord]; show out ++ [] = out; simp
    rw [ho] at h
    have hlo2 : ll = out.length := by omega
    subst hlo2
    exact h u _ _ (e1.trans eu) li.fr.row
end
end Go.Proofs.Ytkgcbfbbcaajpaa.G

/- Rank, in plain Lean: the order that is told; ploughmen who are numbered otherwise. -/
set_option linter.unusedSimpArgs false
set_option linter.unusedVariables false
set_option maxRecDepth 20000
namespace Go.Proofs.Ytkgcbfbbcaajpaa.G
open Go.V
/-! ### The order -/
/-- 'l' is an order of those who are left. -/
def Good (T : Tb) : List Nat → List Nat → Prop
  | left, [] => left = []
  | left, a :: r => a ∈ left ∧ held T left a = false ∧ (∀ b, b < a → b ∈ left → held T left b = true) ∧ Good T (left.erase a) r
theorem good_ord {T : Tb} (hok : okT T = true) : ∀ (left : List Nat), (∀ o ∈ left, o < T.n) → Good T left (ordG T left.length left)
  | [], _ => rfl
  | x :: l, hlt => by
    obtain ⟨i, hf, hi⟩ := first_ex hok (left := x :: l) (by simp) hlt
    have hlen : ((x :: l).erase i).length = l.length := by rw [List.length_erase_of_mem hi]; simp
    show Good T (x :: l) (ordG T (l.length + 1) (x :: l))
    have he : ordG T (l.length + 1) (x :: l) = i :: ordG T l.length ((x :: l).erase i) := by
      show (match firstP T (x :: l) with | some i => i :: ordG T l.length ((x :: l).erase i) | none => []) = _
      rw [hf]
    rw [he]
    have hF := List.find?_some hf
    unfold isFirst at hF
    simp only [Bool.and_eq_true, decide_eq_true_eq, Bool.not_eq_true'] at hF
    refine ⟨hi, hF.2, fun b hb hbl => ?_, ?_⟩
    · obtain ⟨h1, l1, l2, h2, h3⟩ := List.find?_eq_some_iff_append.1 hf
      have hbm : b ∈ l1 := by
        have hb' : b ∈ List.range T.n := List.mem_range.2 (hlt b hbl)
        rw [h2] at hb'
        have hs : (List.range T.n).Pairwise (· < ·) := List.pairwise_lt_range
        rw [h2] at hs
        rcases List.mem_append.1 hb' with h | h
        · exact h
        · rcases List.mem_cons.1 h with rfl | h
          · omega
          · have := List.rel_of_pairwise_cons (List.pairwise_append.1 hs).2.1 h; omega
      have := h3 b hbm
      unfold isFirst at this
      rw [decide_eq_true hbl] at this
      simpa using this
    · have := good_ord hok ((x :: l).erase i) (fun o ho => hlt o (List.mem_of_mem_erase ho))
      rw [hlen] at this; exact this
  termination_by left => left.length
  decreasing_by rw [hlen]; simp
theorem good_mem {T : Tb} : ∀ (l left : List Nat), left.Nodup → Good T left l → ∀ b, b ∈ l ↔ b ∈ left
  | [], left, _, h, b => by rw [show left = [] from h]
  | a :: r, left, hn, h, b => by
    obtain ⟨h1, _, _, h4⟩ := h
    have ih := good_mem r (left.erase a) (hn.erase a) h4 b
    rw [List.mem_cons, ih]
    by_cases e : b = a
    · subst e; simp [h1]
    · rw [List.mem_erase_of_ne e]; simp [e]
theorem good_nodup {T : Tb} : ∀ (l left : List Nat), left.Nodup → Good T left l → l.Nodup
  | [], _, _, _ => List.nodup_nil
  | a :: r, left, hn, h => by
    obtain ⟨h1, _, _, h4⟩ := h
    rw [List.nodup_cons]
    exact ⟨fun hm => (List.Nodup.not_mem_erase hn) ((good_mem r (left.erase a) (hn.erase a) h4 a).1 hm), good_nodup r _ (hn.erase a) h4⟩
theorem good_at {T : Tb} : ∀ (l left : List Nat), left.Nodup → Good T left l → ∀ i (hi : i < l.length), (∀ b ∈ l.drop (i + 1), surT T b l[i] = false) ∧ ∀ b, b < l[i] → b ∈ l.drop i → ∃ c ∈ l.drop i, surT T c b = true
  | [], _, _, _, i, hi => by simp at hi
  | a :: r, left, hn, h, 0, _ => by
    obtain ⟨h1, h2, h3, h4⟩ := h
    have hm := good_mem (a :: r) left hn ⟨h1, h2, h3, h4⟩
    refine ⟨fun b hb => ?_, fun b hb hbl => ?_⟩
    · have hb' : b ∈ left := (hm b).1 (by simp at hb; simp [hb])
      unfold held at h2
      have := List.any_eq_false.1 h2 b hb'
      simpa using this
    · have hh := h3 b hb ((hm b).1 (by simpa using hbl))
      unfold held at hh
      obtain ⟨c, hc, hs⟩ := List.any_eq_true.1 hh
      exact ⟨c, by simpa using (hm c).2 hc, hs⟩
  | a :: r, left, hn, h, i + 1, hi => by
    obtain ⟨h1, h2, h3, h4⟩ := h
    exact good_at r (left.erase a) (hn.erase a) h4 i (by simpa using hi)
theorem good_len {T : Tb} : ∀ (l left : List Nat), Good T left l → l.length = left.length
  | [], left, h => by rw [show left = [] from h]
  | a :: r, left, h => by
    obtain ⟨h1, _, _, h4⟩ := h
    have := good_len r _ h4
    have hp : 0 < left.length := List.length_pos_of_mem h1
    rw [List.length_cons, this, List.length_erase_of_mem h1]; omega
theorem order_good {T : Tb} (hok : okT T = true) : Good T (List.range T.n) (orderP T) := by
  have := good_ord hok (List.range T.n) (fun o ho => List.mem_range.1 ho)
  rw [List.length_range] at this; exact this
theorem order_len {T : Tb} (hok : okT T = true) : (orderP T).length = T.n := by rw [good_len _ _ (order_good hok), List.length_range]
theorem order_mem {T : Tb} (hok : okT T = true) (b : Nat) : b ∈ orderP T ↔ b < T.n := by rw [good_mem _ _ List.nodup_range (order_good hok), List.mem_range]
theorem order_nodup {T : Tb} (hok : okT T = true) : (orderP T).Nodup := good_nodup _ _ List.nodup_range (order_good hok)
/-! ### Other numbers -/
def num (n u m : Nat) : Nat := (m + u) % n
def inu (n u j : Nat) : Nat := (j + (n - u % n)) % n
theorem num_lt {n u m : Nat} (hn : 0 < n) : num n u m < n := Nat.mod_lt _ hn
theorem inu_lt {n u m : Nat} (hn : 0 < n) : inu n u m < n := Nat.mod_lt _ hn
theorem inu_num {n u m : Nat} (hm : m < n) : inu n u (num n u m) = m := by
  have hu := Nat.mod_lt u (show 0 < n by omega)
  have h1 : num n u m = (m + u % n) % n := by unfold num; rw [Nat.add_mod, Nat.mod_eq_of_lt hm]
  unfold inu
  rw [h1]
  generalize u % n = r at *
  by_cases h : m + r < n
  · rw [Nat.mod_eq_of_lt h, show m + r + (n - r) = m + n by omega, Nat.add_mod_right, Nat.mod_eq_of_lt hm]
  · have : (m + r) % n = m + r - n := by rw [Nat.mod_eq_sub_mod (by omega), Nat.mod_eq_of_lt (by omega)]
    rw [this, show m + r - n + (n - r) = m by omega, Nat.mod_eq_of_lt hm]
theorem num_inu {n u j : Nat} (hj : j < n) : num n u (inu n u j) = j := by
  have hu := Nat.mod_lt u (show 0 < n by omega)
  unfold num inu
  have e : u = n * (u / n) + u % n := (Nat.div_add_mod u n).symm
  generalize hr : u % n = r at *
  have : ((j + (n - r)) % n + u) % n = (j + (n - r) + r) % n := by
    rw [Nat.add_mod, Nat.mod_mod, ← Nat.add_mod]
    rw [e, ← Nat.add_assoc, Nat.add_right_comm, Nat.add_mul_mod_self_left]
  rw [this, show j + (n - r) + r = j + n by omega, Nat.add_mod_right, Nat.mod_eq_of_lt hj]
theorem num_inj {n u a b : Nat} (ha : a < n) (hb : b < n) (h : num n u a = num n u b) : a = b := by rw [← inu_num ha, ← inu_num hb, h]
theorem num_perm {n u : Nat} (hn : 0 < n) : ((List.range n).map (num n u)).Perm (List.range n) := by
  have hu := Nat.mod_lt u hn
  have e1 : (List.range n).map (num n u) = ((List.range (n - u % n)).map (u % n + ·)) ++ List.range (u % n) := by
    have : List.range n = List.range (n - u % n) ++ (List.range (u % n)).map (n - u % n + ·) := by rw [← List.range_add]; congr 1; omega
    rw [this, List.map_append, List.map_map]
    congr 1
    · refine List.map_congr_left fun j hj => ?_
      have hj := List.mem_range.1 hj
      unfold num
      rw [Nat.add_mod, Nat.mod_eq_of_lt (show j < n by omega), Nat.mod_eq_of_lt (show j + u % n < n by omega), Nat.add_comm]
    · refine Eq.trans (List.map_congr_left fun j hj => ?_) (List.map_id _)
      have hj := List.mem_range.1 hj
      show num n u (n - u % n + j) = j
      unfold num
      rw [Nat.add_mod, Nat.mod_eq_of_lt (show n - u % n + j < n by omega), show n - u % n + j + u % n = j + n by omega, Nat.add_mod_right, Nat.mod_eq_of_lt (by omega)]
  rw [e1]
  have e2 : List.range n = List.range (u % n) ++ (List.range (n - u % n)).map (u % n + ·) := by rw [← List.range_add]; congr 1; omega
  rw [e2]
  exact List.perm_append_comm
theorem cntB_num {n u : Nat} (hn : 0 < n) (f : Nat → Bool) : cntB (fun o => f (num n u o)) n = cntB f n := by
  unfold cntB
  rw [← List.countP_eq_length_filter, ← List.countP_eq_length_filter]
  have h1 := (num_perm (u := u) hn).countP_eq f
  rw [List.countP_map] at h1
  exact h1
def renS (n u : Nat) (c : Sc) : Sc := ⟨(num n u c.man.toNat : Nat), c.sheet, c.lo, c.hi⟩
def renT (T : Tb) (u : Nat) : Tb := ⟨T.men, T.sheets, (List.range T.n).map fun j => offT T (inu T.n u j), T.sc.reverse.map (renS T.n u)⟩
theorem renT_get {T : Tb} {u i : Nat} (h : i < (renT T u).off.length) : (renT T u).off[i] = offT T (inu T.n u i) := by simp [renT]
section
variable {T : Tb} {u : Nat} (hok : okT T = true)
include hok
theorem renT_keys : ((renT T u).sc.map Sc.key).Nodup := by
  obtain ⟨_, _, _, _, _, g6, g7⟩ := okT_iff2.1 hok
  have hn := men_n hok
  show ((T.sc.reverse.map (renS T.n u)).map Sc.key).Nodup
  have h1 : (T.sc.reverse.map Sc.key).Nodup := by rw [List.map_reverse]; exact (List.reverse_perm _).nodup_iff.2 g7
  have e : (T.sc.reverse.map (renS T.n u)).map Sc.key = (T.sc.reverse.map Sc.key).map fun k => (((num T.n u k.1.toNat : Nat) : Int), k.2) := by
    rw [List.map_map, List.map_map]; rfl
  rw [e, List.nodup_iff_pairwise_ne, List.pairwise_map]
  rw [List.nodup_iff_pairwise_ne] at h1
  refine List.Pairwise.imp_of_mem ?_ h1
  intro k k' hk hk' hne he
  obtain ⟨c, hc, rfl⟩ := List.mem_map.1 hk
  obtain ⟨d, hd, rfl⟩ := List.mem_map.1 hk'
  have hc' := (g6 c (by simpa using hc)).1
  have hd' := (g6 d (by simpa using hd)).1
  injection he with h3 h4
  have h5 : num T.n u c.key.1.toNat = num T.n u d.key.1.toNat := by omega
  have h6 := num_inj (by show c.man.toNat < _; omega) (by show d.man.toNat < _; omega) h5
  have h7 : c.man = d.man := by have : c.man.toNat = d.man.toNat := h6; omega
  exact hne (by unfold Sc.key; rw [h7, show c.sheet = d.sheet from h4])
theorem renT_ok : okT (renT T u) = true := by
  obtain ⟨g1, g2, g3, g4, g5, g6, g7⟩ := okT_iff2.1 hok
  have hn := men_n hok
  obtain ⟨np, _⟩ := n_lim hok
  have vd := okT_vd hok
  refine okT_iff2.2 ⟨g1, g2, ?_, List.any_eq_false.2 fun x hx => ?_, ?_, fun x hx => ?_, renT_keys hok⟩
  · show (((List.range T.n).map _).length : Int) = T.men
    rw [List.length_map, List.length_range]; exact hn
  · obtain ⟨j, hj, rfl⟩ := List.mem_map.1 hx
    have hi := inu_lt (u := u) (m := j) np
    have hl : inu T.n u j < T.off.length := by rw [vd.len]; exact hi
    have := vd.off _ (show T.off.getD (inu T.n u j) 0 ∈ T.off by rw [show T.off.getD (inu T.n u j) 0 = T.off[inu T.n u j] by simp [List.getD, hl]]; exact List.getElem_mem _)
    have hb : badO (T.off.getD (inu T.n u j) 0) = false := by unfold badO; rw [decide_eq_true this]; rfl
    show ¬ badO (T.off.getD (inu T.n u j) 0) = true
    rw [hb]; simp
  · show (T.sc.reverse.map _).length ≤ 30
    rw [List.length_map, List.length_reverse]; exact g5
  · obtain ⟨c, hc, rfl⟩ := List.mem_map.1 hx
    obtain ⟨h1, h2, h3⟩ := g6 c (by simpa using hc)
    refine ⟨?_, h2, h3⟩
    have := num_lt (u := u) (m := c.man.toNat) np
    show 0 ≤ ((num T.n u c.man.toNat : Nat) : Int) ∧ ((num T.n u c.man.toNat : Nat) : Int) ≤ T.men - 1
    omega
theorem renT_pts {i : Nat} (hi : i < T.n) (k : Nat) : pts (prs (renT T u)) (((num T.n u i : Nat) : Int), (k : Int)) = pts (prs T) ((i : Int), (k : Int)) := by
  obtain ⟨_, _, _, _, _, g6, g7⟩ := okT_iff2.1 hok
  have hn := men_n hok
  by_cases h : ∃ c ∈ T.sc, c.key = ((i : Int), (k : Int))
  · obtain ⟨c, hc, he⟩ := h
    have h1 : pts (prs T) c.key = (c.lo, c.hi) := pts_mem g7 hc
    rw [he] at h1
    rw [h1]
    have h2 : pts (prs (renT T u)) (renS T.n u c).key = (c.lo, c.hi) := pts_mem (l := (renT T u).sc) (renT_keys hok) (x := renS T.n u c) (List.mem_map.2 ⟨c, by simpa using hc, rfl⟩)
    unfold Sc.key at he
    injection he with e1 e2
    have h3 : (renS T.n u c).key = (((num T.n u i : Nat) : Int), (k : Int)) := by
      unfold Sc.key renS
      simp only
      rw [e1, e2, Int.toNat_natCast]
    rw [h3] at h2; exact h2
  · have h1 : pts (prs T) ((i : Int), (k : Int)) = (0, 40) := pts_not fun c hc he => h ⟨c, hc, he⟩
    rw [h1]
    refine pts_not (l := (renT T u).sc) fun x hx he => ?_
    obtain ⟨c, hc, rfl⟩ := List.mem_map.1 hx
    have hc' : c ∈ T.sc := by simpa using hc
    obtain ⟨h2, _⟩ := g6 c hc'
    unfold Sc.key renS at he
    injection he with e1 e2
    have e3 : num T.n u c.man.toNat = num T.n u i := by simp only at e1; omega
    have e4 := num_inj (by omega) hi e3
    exact h ⟨c, hc', by unfold Sc.key; rw [show c.sheet = (k : Int) from e2, show c.man = (i : Int) by omega]⟩
theorem renT_off {i : Nat} (hi : i < T.n) : offT (renT T u) (num T.n u i) = offT T i := by
  obtain ⟨np, _⟩ := n_lim hok
  have h := num_lt (u := u) (m := i) np
  show ((List.range T.n).map fun j => offT T (inu T.n u j)).getD (num T.n u i) 0 = _
  simp [List.getD, h, inu_num hi]
theorem renT_rows {i : Nat} (hi : i < T.n) : lowR (renT T u) (num T.n u i) = lowR T i ∧ topR (renT T u) (num T.n u i) = topR T i := by
  rw [lowR_loP, lowR_loP, topR_hiP, topR_hiP, renT_off hok hi]
  have hm : (renT T u).m = T.m := rfl
  rw [hm]
  exact ⟨rowG_congr fun k _ => by unfold loP; rw [renT_pts hok hi], rowG_congr fun k _ => by unfold hiP; rw [renT_pts hok hi]⟩
theorem renT_sur {a b : Nat} (ha : a < T.n) (hb : b < T.n) : surT (renT T u) (num T.n u a) (num T.n u b) = surT T a b ∧ canT (renT T u) (num T.n u a) (num T.n u b) = canT T a b := by
  have hd : decide (num T.n u a ≠ num T.n u b) = decide (a ≠ b) := by
    congr 1
    exact propext ⟨fun h e => h (by rw [e]), fun h e => h (num_inj ha hb e)⟩
  rw [surT_eq, surT_eq, canT_eq, canT_eq, (renT_rows hok ha).1, (renT_rows hok ha).2, (renT_rows hok hb).1, (renT_rows hok hb).2, hd]
  exact ⟨rfl, rfl⟩
theorem renT_bef {a b : Nat} (ha : a < T.n) (hb : b < T.n) : befN (renT T u) (num T.n u a) (num T.n u b) = befN T a b := by
  rw [befN_eq, befN_eq, (renT_sur hok ha hb).1, (renT_sur hok ha hb).2]
theorem renT_plc {a : Nat} (ha : a < T.n) : plcT (renT T u) (num T.n u a) = plcT T a := by
  obtain ⟨np, _⟩ := n_lim hok
  have hn : (renT T u).n = T.n := rfl
  rw [plcT_eq, plcT_eq, hn]
  rw [← cntB_num (u := u) np (fun o => surT (renT T u) o (num T.n u a)), ← cntB_num (u := u) np (fun o => canT (renT T u) o (num T.n u a))]
  rw [cntB_ext (f := fun o => surT (renT T u) (num T.n u o) (num T.n u a)) (g := fun o => surT T o a) fun o ho => (renT_sur hok ho ha).1, cntB_ext (f := fun o => canT (renT T u) (num T.n u o) (num T.n u a)) (g := fun o => canT T o a) fun o ho => (renT_sur hok ho ha).2]
theorem renT_win {a : Nat} (ha : a < T.n) : surF (renT T u) (num T.n u a) = surF T a ∧ canF (renT T u) (num T.n u a) = canF T a := by
  have h := renT_plc (u := u) hok ha
  constructor
  · show decide ((plcT (renT T u) (num T.n u a)).2 = 1) = decide ((plcT T a).2 = 1); rw [h]
  · show decide ((plcT (renT T u) (num T.n u a)).1 = 1) = decide ((plcT T a).1 = 1); rw [h]
end
end Go.Proofs.Ytkgcbfbbcaajpaa.G

/- Rank: numbers as integers. -/
namespace Go.Proofs.Ytkgcbfbbcaajpaa.G
theorem natI_len (l : List Nat) : (natI l).length = l.length := by unfold natI; simp
end Go.Proofs.Ytkgcbfbbcaajpaa.G
