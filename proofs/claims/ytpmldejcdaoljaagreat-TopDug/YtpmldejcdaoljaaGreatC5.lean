import Derived.Test.YtpmldejcdaoljaaGreatC4
/- Where a pit was dug and everything was told exactly, soil, even and team tell the same: TopDug returns true at all arguments. -/
set_option linter.unusedVariables false
set_option linter.unusedSimpArgs false
set_option maxRecDepth 100000
namespace Go.Proofs.YtpmldejcdaoljaaGreat.G
open Go.V
def an_9 : Nat → Ann := fun b => match b with
 | _ => {}
def T_even_Gives (W : World) (n1 n2 n3 n4 n5 n6 n7 : Int) (x8 : Option Addr) (l9 c10 : Nat) (n11 n12 n13 : Int) (R : Ending → Hp → Prop) : Hp → Prop :=
 NEW 24 [(.int .i64 n1), (.int .i64 n2), (.int .i64 n3), (.int .i64 n4)] fun B14 =>
 NEW 42 [(.int .i64 n5), (.int .i64 n6), (.int .i64 n7), (.slice x8 l9 c10), (.int .i64 n11), (.int .i64 n12), (.int .i64 n13)] fun B15 =>
 NEWZ Pg 27 fun B16 =>
 NEWZ Pg 34 fun B17 =>
 RDI .i64 (Addr.add ⟨B14, 0, none⟩ 0) fun n18 =>
 RDI .i64 (Addr.add ⟨B14, 0, none⟩ 1) fun n19 =>
 RDI .i64 (Addr.add ⟨B14, 0, none⟩ 2) fun n20 =>
 RDI .i64 (Addr.add ⟨B14, 0, none⟩ 3) fun n21 =>
 RDI .i64 (Addr.add ⟨B15, 0, none⟩ 0) fun n22 =>
 RDI .i64 (Addr.add ⟨B15, 0, none⟩ 1) fun n23 =>
 RDI .i64 (Addr.add ⟨B15, 0, none⟩ 2) fun n24 =>
 RDL (Addr.add ⟨B15, 0, none⟩ 3) fun x25 l26 c27 =>
 RDI .i64 (Addr.add ⟨B15, 0, none⟩ 4) fun n28 =>
 RDI .i64 (Addr.add ⟨B15, 0, none⟩ 5) fun n29 =>
 RDI .i64 (Addr.add ⟨B15, 0, none⟩ 6) fun n30 =>
 RDI .i64 (Addr.add ⟨B14, 0, none⟩ 0) fun n31 =>
 RDI .i64 (Addr.add ⟨B14, 0, none⟩ 1) fun n32 =>
 RDI .i64 (Addr.add ⟨B14, 0, none⟩ 2) fun n33 =>
 RDI .i64 (Addr.add ⟨B14, 0, none⟩ 3) fun n34 =>
 CALL Pg W F_even_checked [(.agg #[(.int .i64 n18), (.int .i64 n19), (.int .i64 n20), (.int .i64 n21)]), (.agg #[(.int .i64 n22), (.int .i64 n23), (.int .i64 n24), (.slice x25 l26 c27), (.int .i64 n28), (.int .i64 n29), (.int .i64 n30)])]
 (fun v35 => TYP v35 fun p37 =>
 ANDS (RDI .i64 (Addr.add ⟨B14, 0, none⟩ 0) fun n38 =>
 RDI .i64 (Addr.add ⟨B14, 0, none⟩ 1) fun n39 =>
 RDI .i64 (Addr.add ⟨B14, 0, none⟩ 2) fun n40 =>
 RDI .i64 (Addr.add ⟨B14, 0, none⟩ 3) fun n41 =>
 fun _ => ((.agg #[(.int .i64 n38), (.int .i64 n39), (.int .i64 n40), (.int .i64 n41)]) : Value) = (.agg #[(.int .i64 n31), (.int .i64 n32), (.int .i64 n33), (.int .i64 n34)])) <|
 CALL Pg W F_even_plot_gives [(.pointer p37), (.agg #[(.int .i64 n31), (.int .i64 n32), (.int .i64 n33), (.int .i64 n34)])]
 (fun v42 => AGG v42 fun q44 => HD q44 fun v45 r46 => TYI .i64 v45 fun n47 =>
 HD r46 fun v48 r49 => TYI .i64 v48 fun n50 =>
 NL r49 <|
 CALL Pg W F_even_span [(.agg #[(.int .i64 n47), (.int .i64 n50)])]
 (fun v51 => AGG v51 fun q53 => HD q53 fun v54 r55 => TYI .i64 v54 fun n56 =>
 HD r55 fun v57 r58 => TYI .i64 v57 fun n59 =>
 NL r58 <|
 WR (Addr.add ⟨B16, 0, none⟩ 0) (.int .i64 n56) <|
 WR (Addr.add ⟨B16, 0, none⟩ 1) (.int .i64 n59) <|
 WR (Addr.add ⟨B17, 0, none⟩ 0) (.int .i64 0) <|
 DEF Pg W (.tuple #[(.func (.func 20) #[] #[(.pointer (some ⟨B17, 0, none⟩))]), (.tuple #[])]) none
 (RDI .i64 (Addr.add ⟨B16, 0, none⟩ 0) fun n60 =>
 RDI .i64 (Addr.add ⟨B16, 0, none⟩ 1) fun n61 =>
 RDI .i64 ⟨B17, 0, none⟩ fun n62 =>
 R (.returned (.tuple #[(.agg #[(.int .i64 n60), (.int .i64 n61)]), (.int .i64 n62)]))))
 (fun e52 => DEF Pg W (.tuple #[(.func (.func 20) #[] #[(.pointer (some ⟨B17, 0, none⟩))]), (.tuple #[])]) (some e52) (RDI .i64 (Addr.add ⟨B16, 0, none⟩ 0) fun n63 =>
 RDI .i64 (Addr.add ⟨B16, 0, none⟩ 1) fun n64 =>
 RDI .i64 ⟨B17, 0, none⟩ fun n65 =>
 R (.returned (.tuple #[(.agg #[(.int .i64 n63), (.int .i64 n64)]), (.int .i64 n65)])))))
 (fun e43 => DEF Pg W (.tuple #[(.func (.func 20) #[] #[(.pointer (some ⟨B17, 0, none⟩))]), (.tuple #[])]) (some e43) (RDI .i64 (Addr.add ⟨B16, 0, none⟩ 0) fun n66 =>
 RDI .i64 (Addr.add ⟨B16, 0, none⟩ 1) fun n67 =>
 RDI .i64 ⟨B17, 0, none⟩ fun n68 =>
 R (.returned (.tuple #[(.agg #[(.int .i64 n66), (.int .i64 n67)]), (.int .i64 n68)])))))
 (fun e36 => DEF Pg W (.tuple #[(.func (.func 20) #[] #[(.pointer (some ⟨B17, 0, none⟩))]), (.tuple #[])]) (some e36) (RDI .i64 (Addr.add ⟨B16, 0, none⟩ 0) fun n69 =>
 RDI .i64 (Addr.add ⟨B16, 0, none⟩ 1) fun n70 =>
 RDI .i64 ⟨B17, 0, none⟩ fun n71 =>
 R (.returned (.tuple #[(.agg #[(.int .i64 n69), (.int .i64 n70)]), (.int .i64 n71)]))))
theorem does_even_Gives (W : World) (n1 n2 n3 n4 n5 n6 n7 : Int) (x8 : Option Addr) (l9 c10 : Nat) (n11 n12 n13 : Int) (R : Ending → Hp → Prop) (s : Hp) (h : T_even_Gives W n1 n2 n3 n4 n5 n6 n7 x8 l9 c10 n11 n12 n13 R s) : Does Pg W F_even_Gives #[(.agg #[(.int .i64 n1), (.int .i64 n2), (.int .i64 n3), (.int .i64 n4)]), (.agg #[(.int .i64 n5), (.int .i64 n6), (.int .i64 n7), (.slice x8 l9 c10), (.int .i64 n11), (.int .i64 n12), (.int .i64 n13)])] s R :=
  does_of_vfun Pg W an_9 Tryz.func9 rfl (by kernel_rfl) (Eq.mpr (by kernel_rfl) h)
def an_10 : Nat → Ann := fun b => match b with
 | _ => {}
def T_even_Even (W : World) (n1 n2 n3 n4 n5 n6 n7 : Int) (x8 : Option Addr) (l9 c10 : Nat) (n11 n12 n13 : Int) (R : Ending → Hp → Prop) : Hp → Prop :=
 NEW 24 [(.int .i64 n1), (.int .i64 n2), (.int .i64 n3), (.int .i64 n4)] fun B14 =>
 NEW 42 [(.int .i64 n5), (.int .i64 n6), (.int .i64 n7), (.slice x8 l9 c10), (.int .i64 n11), (.int .i64 n12), (.int .i64 n13)] fun B15 =>
 NEWZ Pg 27 fun B16 =>
 NEWZ Pg 34 fun B17 =>
 RDI .i64 (Addr.add ⟨B14, 0, none⟩ 0) fun n18 =>
 RDI .i64 (Addr.add ⟨B14, 0, none⟩ 1) fun n19 =>
 RDI .i64 (Addr.add ⟨B14, 0, none⟩ 2) fun n20 =>
 RDI .i64 (Addr.add ⟨B14, 0, none⟩ 3) fun n21 =>
 RDI .i64 (Addr.add ⟨B15, 0, none⟩ 0) fun n22 =>
 RDI .i64 (Addr.add ⟨B15, 0, none⟩ 1) fun n23 =>
 RDI .i64 (Addr.add ⟨B15, 0, none⟩ 2) fun n24 =>
 RDL (Addr.add ⟨B15, 0, none⟩ 3) fun x25 l26 c27 =>
 RDI .i64 (Addr.add ⟨B15, 0, none⟩ 4) fun n28 =>
 RDI .i64 (Addr.add ⟨B15, 0, none⟩ 5) fun n29 =>
 RDI .i64 (Addr.add ⟨B15, 0, none⟩ 6) fun n30 =>
 RDI .i64 (Addr.add ⟨B14, 0, none⟩ 0) fun n31 =>
 RDI .i64 (Addr.add ⟨B14, 0, none⟩ 1) fun n32 =>
 RDI .i64 (Addr.add ⟨B14, 0, none⟩ 2) fun n33 =>
 RDI .i64 (Addr.add ⟨B14, 0, none⟩ 3) fun n34 =>
 CALL Pg W F_even_checked [(.agg #[(.int .i64 n18), (.int .i64 n19), (.int .i64 n20), (.int .i64 n21)]), (.agg #[(.int .i64 n22), (.int .i64 n23), (.int .i64 n24), (.slice x25 l26 c27), (.int .i64 n28), (.int .i64 n29), (.int .i64 n30)])]
 (fun v35 => TYP v35 fun p37 =>
 ANDS (RDI .i64 (Addr.add ⟨B14, 0, none⟩ 0) fun n38 =>
 RDI .i64 (Addr.add ⟨B14, 0, none⟩ 1) fun n39 =>
 RDI .i64 (Addr.add ⟨B14, 0, none⟩ 2) fun n40 =>
 RDI .i64 (Addr.add ⟨B14, 0, none⟩ 3) fun n41 =>
 fun _ => ((.agg #[(.int .i64 n38), (.int .i64 n39), (.int .i64 n40), (.int .i64 n41)]) : Value) = (.agg #[(.int .i64 n31), (.int .i64 n32), (.int .i64 n33), (.int .i64 n34)])) <|
 CALL Pg W F_even_plot_even [(.pointer p37), (.agg #[(.int .i64 n31), (.int .i64 n32), (.int .i64 n33), (.int .i64 n34)])]
 (fun v42 => AGG v42 fun q44 => HD q44 fun v45 r46 => TYI .i64 v45 fun n47 =>
 HD r46 fun v48 r49 => TYI .i64 v48 fun n50 =>
 NL r49 <|
 CALL Pg W F_even_span [(.agg #[(.int .i64 n47), (.int .i64 n50)])]
 (fun v51 => AGG v51 fun q53 => HD q53 fun v54 r55 => TYI .i64 v54 fun n56 =>
 HD r55 fun v57 r58 => TYI .i64 v57 fun n59 =>
 NL r58 <|
 WR (Addr.add ⟨B16, 0, none⟩ 0) (.int .i64 n56) <|
 WR (Addr.add ⟨B16, 0, none⟩ 1) (.int .i64 n59) <|
 WR (Addr.add ⟨B17, 0, none⟩ 0) (.int .i64 0) <|
 DEF Pg W (.tuple #[(.func (.func 25) #[] #[(.pointer (some ⟨B17, 0, none⟩))]), (.tuple #[])]) none
 (RDI .i64 (Addr.add ⟨B16, 0, none⟩ 0) fun n60 =>
 RDI .i64 (Addr.add ⟨B16, 0, none⟩ 1) fun n61 =>
 RDI .i64 ⟨B17, 0, none⟩ fun n62 =>
 R (.returned (.tuple #[(.agg #[(.int .i64 n60), (.int .i64 n61)]), (.int .i64 n62)]))))
 (fun e52 => DEF Pg W (.tuple #[(.func (.func 25) #[] #[(.pointer (some ⟨B17, 0, none⟩))]), (.tuple #[])]) (some e52) (RDI .i64 (Addr.add ⟨B16, 0, none⟩ 0) fun n63 =>
 RDI .i64 (Addr.add ⟨B16, 0, none⟩ 1) fun n64 =>
 RDI .i64 ⟨B17, 0, none⟩ fun n65 =>
 R (.returned (.tuple #[(.agg #[(.int .i64 n63), (.int .i64 n64)]), (.int .i64 n65)])))))
 (fun e43 => DEF Pg W (.tuple #[(.func (.func 25) #[] #[(.pointer (some ⟨B17, 0, none⟩))]), (.tuple #[])]) (some e43) (RDI .i64 (Addr.add ⟨B16, 0, none⟩ 0) fun n66 =>
 RDI .i64 (Addr.add ⟨B16, 0, none⟩ 1) fun n67 =>
 RDI .i64 ⟨B17, 0, none⟩ fun n68 =>
 R (.returned (.tuple #[(.agg #[(.int .i64 n66), (.int .i64 n67)]), (.int .i64 n68)])))))
 (fun e36 => DEF Pg W (.tuple #[(.func (.func 25) #[] #[(.pointer (some ⟨B17, 0, none⟩))]), (.tuple #[])]) (some e36) (RDI .i64 (Addr.add ⟨B16, 0, none⟩ 0) fun n69 =>
 RDI .i64 (Addr.add ⟨B16, 0, none⟩ 1) fun n70 =>
 RDI .i64 ⟨B17, 0, none⟩ fun n71 =>
 R (.returned (.tuple #[(.agg #[(.int .i64 n69), (.int .i64 n70)]), (.int .i64 n71)]))))
theorem does_even_Even (W : World) (n1 n2 n3 n4 n5 n6 n7 : Int) (x8 : Option Addr) (l9 c10 : Nat) (n11 n12 n13 : Int) (R : Ending → Hp → Prop) (s : Hp) (h : T_even_Even W n1 n2 n3 n4 n5 n6 n7 x8 l9 c10 n11 n12 n13 R s) : Does Pg W F_even_Even #[(.agg #[(.int .i64 n1), (.int .i64 n2), (.int .i64 n3), (.int .i64 n4)]), (.agg #[(.int .i64 n5), (.int .i64 n6), (.int .i64 n7), (.slice x8 l9 c10), (.int .i64 n11), (.int .i64 n12), (.int .i64 n13)])] s R :=
  does_of_vfun Pg W an_10 Tryz.func10 rfl (by kernel_rfl) (Eq.mpr (by kernel_rfl) h)
def an_22 : Nat → Ann := fun b => match b with
 | _ => {}
def T_even_span (W : World) (n1 n2 : Int) (R : Ending → Hp → Prop) : Hp → Prop :=
 NEW 68 [(.int .i64 n1), (.int .i64 n2)] fun B3 =>
 NEWZ Pg 27 fun B4 =>
 RDI .i64 (Addr.add ⟨B3, 0, none⟩ 0) fun n5 =>
 RDI .i64 (Addr.add ⟨B3, 0, none⟩ 1) fun n6 =>
 WR (Addr.add ⟨B4, 0, none⟩ 0) (.int .i64 n5) <|
 WR (Addr.add ⟨B4, 0, none⟩ 1) (.int .i64 n6) <|
 RDI .i64 (Addr.add ⟨B4, 0, none⟩ 0) fun n7 =>
 RDI .i64 (Addr.add ⟨B4, 0, none⟩ 1) fun n8 =>
 R (.returned (.agg #[(.int .i64 n7), (.int .i64 n8)]))
theorem does_even_span (W : World) (n1 n2 : Int) (R : Ending → Hp → Prop) (s : Hp) (h : T_even_span W n1 n2 R s) : Does Pg W F_even_span #[(.agg #[(.int .i64 n1), (.int .i64 n2)])] s R :=
  does_of_vfun Pg W an_22 Tryz.func22 rfl (by kernel_rfl) (Eq.mpr (by kernel_rfl) h)
def an_23 : Nat → Ann := fun b => match b with
 | _ => {}
def J_even_checked_0 (W : World) (R : Ending → Hp → Prop) (b35 : Bool) (B15 : Nat) : Hp → Prop :=
 CALL Pg W F_even_need [(.bool b35), (.int .i64 1)]
 (fun v36 => TUP v36 fun q38 => NL q38 <|
 RDI .i64 (Addr.add ⟨B15, 0, none⟩ 0) fun n39 =>
 RDI .i64 (Addr.add ⟨B15, 0, none⟩ 1) fun n40 =>
 RDI .i64 (Addr.add ⟨B15, 0, none⟩ 2) fun n41 =>
 RDL (Addr.add ⟨B15, 0, none⟩ 3) fun x42 l43 c44 =>
 RDI .i64 (Addr.add ⟨B15, 0, none⟩ 4) fun n45 =>
 RDI .i64 (Addr.add ⟨B15, 0, none⟩ 5) fun n46 =>
 RDI .i64 (Addr.add ⟨B15, 0, none⟩ 6) fun n47 =>
 CALL Pg W F_even_look [(.agg #[(.int .i64 n39), (.int .i64 n40), (.int .i64 n41), (.slice x42 l43 c44), (.int .i64 n45), (.int .i64 n46), (.int .i64 n47)])]
 (fun v48 => TYP v48 fun p50 =>
 R (.returned (.pointer p50)))
 (fun e49 => R (.panicked e49)))
 (fun e37 => R (.panicked e37))
def T_even_checked (W : World) (n1 n2 n3 n4 n5 n6 n7 : Int) (x8 : Option Addr) (l9 c10 : Nat) (n11 n12 n13 : Int) (R : Ending → Hp → Prop) : Hp → Prop :=
 NEW 24 [(.int .i64 n1), (.int .i64 n2), (.int .i64 n3), (.int .i64 n4)] fun B14 =>
 NEW 42 [(.int .i64 n5), (.int .i64 n6), (.int .i64 n7), (.slice x8 l9 c10), (.int .i64 n11), (.int .i64 n12), (.int .i64 n13)] fun B15 =>
 RDI .i64 (Addr.add ⟨B14, 0, none⟩ 0) fun n16 =>
 RDI .i64 (Addr.add ⟨B14, 0, none⟩ 1) fun n17 =>
 RDI .i64 (Addr.add ⟨B14, 0, none⟩ 2) fun n18 =>
 RDI .i64 (Addr.add ⟨B14, 0, none⟩ 3) fun n19 =>
 CALL Pg W F_even_rule_isValid [(.agg #[(.int .i64 n16), (.int .i64 n17), (.int .i64 n18), (.int .i64 n19)])]
 (fun v20 => TYB v20 fun b22 =>
 BR b22
 (RDI .i64 (Addr.add ⟨B15, 0, none⟩ 0) fun n23 =>
 RDI .i64 (Addr.add ⟨B15, 0, none⟩ 1) fun n24 =>
 RDI .i64 (Addr.add ⟨B15, 0, none⟩ 2) fun n25 =>
 RDL (Addr.add ⟨B15, 0, none⟩ 3) fun x26 l27 c28 =>
 RDI .i64 (Addr.add ⟨B15, 0, none⟩ 4) fun n29 =>
 RDI .i64 (Addr.add ⟨B15, 0, none⟩ 5) fun n30 =>
 RDI .i64 (Addr.add ⟨B15, 0, none⟩ 6) fun n31 =>
 CALL Pg W F_even_isPlot [(.agg #[(.int .i64 n23), (.int .i64 n24), (.int .i64 n25), (.slice x26 l27 c28), (.int .i64 n29), (.int .i64 n30), (.int .i64 n31)])]
 (fun v32 => TYB v32 fun b34 =>
 J_even_checked_0 W R b34 B15)
 (fun e33 => R (.panicked e33)))
 (J_even_checked_0 W R false B15))
 (fun e21 => R (.panicked e21))
theorem does_even_checked (W : World) (n1 n2 n3 n4 n5 n6 n7 : Int) (x8 : Option Addr) (l9 c10 : Nat) (n11 n12 n13 : Int) (R : Ending → Hp → Prop) (s : Hp) (h : T_even_checked W n1 n2 n3 n4 n5 n6 n7 x8 l9 c10 n11 n12 n13 R s) : Does Pg W F_even_checked #[(.agg #[(.int .i64 n1), (.int .i64 n2), (.int .i64 n3), (.int .i64 n4)]), (.agg #[(.int .i64 n5), (.int .i64 n6), (.int .i64 n7), (.slice x8 l9 c10), (.int .i64 n11), (.int .i64 n12), (.int .i64 n13)])] s R :=
  does_of_vfun Pg W an_23 Tryz.func23 rfl (by kernel_rfl) (Eq.mpr (by kernel_rfl) h)
def an_24 : Nat → Ann := fun b => match b with
 | _ => {}
def T_even_plot_gives (W : World) (p1 : Option Addr) (n2 n3 n4 n5 : Int) (R : Ending → Hp → Prop) : Hp → Prop :=
 NEW 72 [(.int .i64 n2), (.int .i64 n3), (.int .i64 n4), (.int .i64 n5)] fun B6 =>
 NEWZ Pg 68 fun B7 =>
 RDI .i64 (Addr.add ⟨B6, 0, none⟩ 0) fun n8 =>
 RDI .i64 (Addr.add ⟨B6, 0, none⟩ 1) fun n9 =>
 RDI .i64 (Addr.add ⟨B6, 0, none⟩ 2) fun n10 =>
 RDI .i64 (Addr.add ⟨B6, 0, none⟩ 3) fun n11 =>
 CALL Pg W F_even_plot_gifts [(.pointer p1), (.agg #[(.int .i64 n8), (.int .i64 n9), (.int .i64 n10), (.int .i64 n11)])]
 (fun v12 => TYL v12 fun x14 l15 c16 =>
 CALL Pg W F_slices_Min_int_int [(.slice x14 l15 c16)]
 (fun v17 => TYI .i64 v17 fun n19 =>
 CALL Pg W F_slices_Max_int_int [(.slice x14 l15 c16)]
 (fun v20 => TYI .i64 v20 fun n22 =>
 WR (Addr.add ⟨B7, 0, none⟩ 0) (.int .i64 n19) <|
 WR (Addr.add ⟨B7, 0, none⟩ 1) (.int .i64 n22) <|
 RDI .i64 (Addr.add ⟨B7, 0, none⟩ 0) fun n23 =>
 RDI .i64 (Addr.add ⟨B7, 0, none⟩ 1) fun n24 =>
 R (.returned (.agg #[(.int .i64 n23), (.int .i64 n24)])))
 (fun e21 => R (.panicked e21)))
 (fun e18 => R (.panicked e18)))
 (fun e13 => R (.panicked e13))
theorem does_even_plot_gives (W : World) (p1 : Option Addr) (n2 n3 n4 n5 : Int) (R : Ending → Hp → Prop) (s : Hp) (h : T_even_plot_gives W p1 n2 n3 n4 n5 R s) : Does Pg W F_even_plot_gives #[(.pointer p1), (.agg #[(.int .i64 n2), (.int .i64 n3), (.int .i64 n4), (.int .i64 n5)])] s R :=
  does_of_vfun Pg W an_24 Tryz.func24 rfl (by kernel_rfl) (Eq.mpr (by kernel_rfl) h)
def an_26 : Nat → Ann := fun b => match b with
 | _ => {}
def T_even_plot_even (W : World) (p1 : Option Addr) (n2 n3 n4 n5 : Int) (R : Ending → Hp → Prop) : Hp → Prop :=
 NEW 72 [(.int .i64 n2), (.int .i64 n3), (.int .i64 n4), (.int .i64 n5)] fun B6 =>
 NEWZ Pg 68 fun B7 =>
 RDI .i64 (Addr.add ⟨B6, 0, none⟩ 0) fun n8 =>
 RDI .i64 (Addr.add ⟨B6, 0, none⟩ 1) fun n9 =>
 RDI .i64 (Addr.add ⟨B6, 0, none⟩ 2) fun n10 =>
 RDI .i64 (Addr.add ⟨B6, 0, none⟩ 3) fun n11 =>
 CALL Pg W F_even_plot_gives [(.pointer p1), (.agg #[(.int .i64 n8), (.int .i64 n9), (.int .i64 n10), (.int .i64 n11)])]
 (fun v12 => AGG v12 fun q14 => HD q14 fun v15 r16 => TYI .i64 v15 fun n17 =>
 HD r16 fun v18 r19 => TYI .i64 v18 fun n20 =>
 NL r19 <|
 NEWZ Pg 68 fun B21 =>
 WR (Addr.add ⟨B21, 0, none⟩ 0) (.int .i64 n17) <|
 WR (Addr.add ⟨B21, 0, none⟩ 1) (.int .i64 n20) <|
 SO p1 fun a22 =>
 RDI .i64 (Addr.add (Addr.add (Addr.add a22 0) 5) 0) fun n23 =>
 RDI .i64 (Addr.add ⟨B21, 0, none⟩ 0) fun n24 =>
 SO p1 fun a25 =>
 RDI .i64 (Addr.add (Addr.add (Addr.add a25 0) 5) 1) fun n26 =>
 RDI .i64 (Addr.add ⟨B21, 0, none⟩ 1) fun n27 =>
 WR (Addr.add ⟨B7, 0, none⟩ 0) (.int .i64 (IntKind.wrap .i64 (n23 + n24))) <|
 WR (Addr.add ⟨B7, 0, none⟩ 1) (.int .i64 (IntKind.wrap .i64 (n26 + n27))) <|
 RDI .i64 (Addr.add ⟨B7, 0, none⟩ 0) fun n28 =>
 RDI .i64 (Addr.add ⟨B7, 0, none⟩ 1) fun n29 =>
 R (.returned (.agg #[(.int .i64 n28), (.int .i64 n29)])))
 (fun e13 => R (.panicked e13))
theorem does_even_plot_even (W : World) (p1 : Option Addr) (n2 n3 n4 n5 : Int) (R : Ending → Hp → Prop) (s : Hp) (h : T_even_plot_even W p1 n2 n3 n4 n5 R s) : Does Pg W F_even_plot_even #[(.pointer p1), (.agg #[(.int .i64 n2), (.int .i64 n3), (.int .i64 n4), (.int .i64 n5)])] s R :=
  does_of_vfun Pg W an_26 Tryz.func26 rfl (by kernel_rfl) (Eq.mpr (by kernel_rfl) h)
def an_45 : Nat → Ann := fun b => match b with
 | _ => {}
def T_even_need (W : World) (b1 : Bool) (n2 : Int) (R : Ending → Hp → Prop) : Hp → Prop :=
 BR (!b1)
 (R (.panicked [{ v := (.iface 111 (.agg #[(.int .i64 n2)])), recovered := false }]))
 (R (.returned (.tuple #[])))
theorem does_even_need (W : World) (b1 : Bool) (n2 : Int) (R : Ending → Hp → Prop) (s : Hp) (h : T_even_need W b1 n2 R s) : Does Pg W F_even_need #[(.bool b1), (.int .i64 n2)] s R :=
  does_of_vfun Pg W an_45 Tryz.func45 rfl (by kernel_rfl) (Eq.mpr (by kernel_rfl) h)
def an_46 : Nat → Ann := fun b => match b with
 | _ => {}
def J_even_rule_isValid_0 (W : World) (R : Ending → Hp → Prop) (b15 : Bool) (B5 : Nat) : Hp → Prop :=
 BR b15
 (RDI .i64 (Addr.add ⟨B5, 0, none⟩ 2) fun n16 =>
 RDI .i64 (Addr.add ⟨B5, 0, none⟩ 3) fun n17 =>
 CALL Pg W F_even_within [(.int .i64 n16), (.int .i64 0), (.int .i64 n17)]
 (fun v18 => TYB v18 fun b20 =>
 BR b20
 (RDI .i64 (Addr.add ⟨B5, 0, none⟩ 3) fun n21 =>
 CALL Pg W F_even_within [(.int .i64 n21), (.int .i64 0), (.int .i64 12)]
 (fun v22 => TYB v22 fun b24 =>
 R (.returned (.bool b24)))
 (fun e23 => R (.panicked e23)))
 (R (.returned (.bool false))))
 (fun e19 => R (.panicked e19)))
 (R (.returned (.bool false)))
def T_even_rule_isValid (W : World) (n1 n2 n3 n4 : Int) (R : Ending → Hp → Prop) : Hp → Prop :=
 NEW 72 [(.int .i64 n1), (.int .i64 n2), (.int .i64 n3), (.int .i64 n4)] fun B5 =>
 RDI .i64 (Addr.add ⟨B5, 0, none⟩ 0) fun n6 =>
 CALL Pg W F_even_within [(.int .i64 n6), (.int .i64 0), (.int .i64 5)]
 (fun v7 => TYB v7 fun b9 =>
 BR b9
 (RDI .i64 (Addr.add ⟨B5, 0, none⟩ 1) fun n10 =>
 RDI .i64 (Addr.add ⟨B5, 0, none⟩ 2) fun n11 =>
 CALL Pg W F_even_within [(.int .i64 n10), (.int .i64 0), (.int .i64 n11)]
 (fun v12 => TYB v12 fun b14 =>
 J_even_rule_isValid_0 W R b14 B5)
 (fun e13 => R (.panicked e13)))
 (J_even_rule_isValid_0 W R false B5))
 (fun e8 => R (.panicked e8))
theorem does_even_rule_isValid (W : World) (n1 n2 n3 n4 : Int) (R : Ending → Hp → Prop) (s : Hp) (h : T_even_rule_isValid W n1 n2 n3 n4 R s) : Does Pg W F_even_rule_isValid #[(.agg #[(.int .i64 n1), (.int .i64 n2), (.int .i64 n3), (.int .i64 n4)])] s R :=
  does_of_vfun Pg W an_46 Tryz.func46 rfl (by kernel_rfl) (Eq.mpr (by kernel_rfl) h)
def an_47 : Nat → Ann := fun b => match b with
 | _ => {}
def J_even_isPlot_0 (W : World) (R : Ending → Hp → Prop) (b34 : Bool) (B10 : Nat) : Hp → Prop :=
 BR b34
 (RDI .i64 (Addr.add (Addr.add ⟨B10, 0, none⟩ 5) 0) fun n35 =>
 RDI .i64 (Addr.add (Addr.add ⟨B10, 0, none⟩ 5) 1) fun n36 =>
 CALL Pg W F_even_within [(.int .i64 n35), (.int .i64 0), (.int .i64 n36)]
 (fun v37 => TYB v37 fun b39 =>
 BR b39
 (RDI .i64 (Addr.add (Addr.add ⟨B10, 0, none⟩ 5) 1) fun n40 =>
 R (.returned (.bool (decide (n40 ≤ 100)))))
 (R (.returned (.bool false))))
 (fun e38 => R (.panicked e38)))
 (R (.returned (.bool false)))
def T_even_isPlot (W : World) (n1 n2 n3 : Int) (x4 : Option Addr) (l5 c6 : Nat) (n7 n8 n9 : Int) (R : Ending → Hp → Prop) : Hp → Prop :=
 NEW 42 [(.int .i64 n1), (.int .i64 n2), (.int .i64 n3), (.slice x4 l5 c6), (.int .i64 n7), (.int .i64 n8), (.int .i64 n9)] fun B10 =>
 RDI .i64 (Addr.add (Addr.add ⟨B10, 0, none⟩ 0) 0) fun n11 =>
 RDI .i64 (Addr.add (Addr.add ⟨B10, 0, none⟩ 0) 1) fun n12 =>
 RDI .i64 (Addr.add (Addr.add ⟨B10, 0, none⟩ 0) 2) fun n13 =>
 RDL (Addr.add (Addr.add ⟨B10, 0, none⟩ 0) 3) fun x14 l15 c16 =>
 RDI .i64 (Addr.add ⟨B10, 0, none⟩ 4) fun n17 =>
 CALL Pg W F_soil_Hard [(.agg #[(.int .i64 n11), (.int .i64 n12), (.int .i64 n13), (.slice x14 l15 c16)]), (.int .i64 n17)]
 (fun v18 => TUP v18 fun q20 => HD q20 fun v21 r22 => AGG v21 fun q23 => HD q23 fun v24 r25 => TYI .i64 v24 fun n26 =>
 HD r25 fun v27 r28 => TYI .i64 v27 fun n29 =>
 NL r28 <|
 HD r22 fun v30 r31 => TYI .i64 v30 fun n32 =>
 NL r31 <|
 NEWZ Pg 27 fun B33 =>
 WR (Addr.add ⟨B33, 0, none⟩ 0) (.int .i64 n26) <|
 WR (Addr.add ⟨B33, 0, none⟩ 1) (.int .i64 n29) <|
 BR (n32 != 1)
 (J_even_isPlot_0 W R (n32 != 2) B10)
 (J_even_isPlot_0 W R false B10))
 (fun e19 => R (.panicked e19))
theorem does_even_isPlot (W : World) (n1 n2 n3 : Int) (x4 : Option Addr) (l5 c6 : Nat) (n7 n8 n9 : Int) (R : Ending → Hp → Prop) (s : Hp) (h : T_even_isPlot W n1 n2 n3 x4 l5 c6 n7 n8 n9 R s) : Does Pg W F_even_isPlot #[(.agg #[(.int .i64 n1), (.int .i64 n2), (.int .i64 n3), (.slice x4 l5 c6), (.int .i64 n7), (.int .i64 n8), (.int .i64 n9)])] s R :=
  does_of_vfun Pg W an_47 Tryz.func47 rfl (by kernel_rfl) (Eq.mpr (by kernel_rfl) h)
def an_48 : Nat → Ann := fun b => match b with
 | _ => {}
def T_even_look (W : World) (n1 n2 n3 : Int) (x4 : Option Addr) (l5 c6 : Nat) (n7 n8 n9 : Int) (R : Ending → Hp → Prop) : Hp → Prop :=
 NEW 42 [(.int .i64 n1), (.int .i64 n2), (.int .i64 n3), (.slice x4 l5 c6), (.int .i64 n7), (.int .i64 n8), (.int .i64 n9)] fun B10 =>
 RDI .i64 (Addr.add (Addr.add ⟨B10, 0, none⟩ 0) 0) fun n11 =>
 RDI .i64 (Addr.add (Addr.add ⟨B10, 0, none⟩ 0) 1) fun n12 =>
 RDI .i64 (Addr.add (Addr.add ⟨B10, 0, none⟩ 0) 2) fun n13 =>
 RDL (Addr.add (Addr.add ⟨B10, 0, none⟩ 0) 3) fun x14 l15 c16 =>
 RDI .i64 (Addr.add ⟨B10, 0, none⟩ 4) fun n17 =>
 CALL Pg W F_soil_Hard [(.agg #[(.int .i64 n11), (.int .i64 n12), (.int .i64 n13), (.slice x14 l15 c16)]), (.int .i64 n17)]
 (fun v18 => TUP v18 fun q20 => HD q20 fun v21 r22 => AGG v21 fun q23 => HD q23 fun v24 r25 => TYI .i64 v24 fun n26 =>
 HD r25 fun v27 r28 => TYI .i64 v27 fun n29 =>
 NL r28 <|
 HD r22 fun v30 r31 => TYI .i64 v30 fun n32 =>
 NL r31 <|
 NEWZ Pg 27 fun B33 =>
 WR (Addr.add ⟨B33, 0, none⟩ 0) (.int .i64 n26) <|
 WR (Addr.add ⟨B33, 0, none⟩ 1) (.int .i64 n29) <|
 CALL Pg W F_even_need [(.bool (n32 == 0)), (.int .i64 10)]
 (fun v34 => TUP v34 fun q36 => NL q36 <|
 RDI .i64 (Addr.add (Addr.add ⟨B10, 0, none⟩ 0) 0) fun n37 =>
 RDI .i64 (Addr.add (Addr.add ⟨B10, 0, none⟩ 0) 1) fun n38 =>
 RDI .i64 (Addr.add (Addr.add ⟨B10, 0, none⟩ 0) 2) fun n39 =>
 RDL (Addr.add (Addr.add ⟨B10, 0, none⟩ 0) 3) fun x40 l41 c42 =>
 RDI .i64 (Addr.add ⟨B10, 0, none⟩ 4) fun n43 =>
 CALL Pg W F_soil_Class [(.agg #[(.int .i64 n37), (.int .i64 n38), (.int .i64 n39), (.slice x40 l41 c42)]), (.int .i64 n43)]
 (fun v44 => TUP v44 fun q46 => HD q46 fun v47 r48 => TYI .i64 v47 fun n49 =>
 HD r48 fun v50 r51 => TYI .i64 v50 fun n52 =>
 NL r51 <|
 RDI .i64 (Addr.add ⟨B10, 0, none⟩ 0) fun n53 =>
 RDI .i64 (Addr.add ⟨B10, 0, none⟩ 1) fun n54 =>
 RDI .i64 (Addr.add ⟨B10, 0, none⟩ 2) fun n55 =>
 RDL (Addr.add ⟨B10, 0, none⟩ 3) fun x56 l57 c58 =>
 RDI .i64 (Addr.add ⟨B10, 0, none⟩ 4) fun n59 =>
 RDI .i64 (Addr.add ⟨B10, 0, none⟩ 5) fun n60 =>
 RDI .i64 (Addr.add ⟨B10, 0, none⟩ 6) fun n61 =>
 RDI .i64 (Addr.add ⟨B33, 0, none⟩ 0) fun n62 =>
 RDI .i64 (Addr.add ⟨B33, 0, none⟩ 1) fun n63 =>
 MKM fun B64 =>
 NEW 119 [(.int .i64 n53), (.int .i64 n54), (.int .i64 n55), (.slice x56 l57 c58), (.int .i64 n59), (.int .i64 n60), (.int .i64 n61), (.int .i64 n49), (.int .i64 (IntKind.wrap .i64 (Int.tdiv n62 100))), (.int .i64 (IntKind.wrap .i64 (Int.tdiv n63 100))), (.map (some B64))] fun B65 =>
 R (.returned (.pointer (some ⟨B65, 0, none⟩))))
 (fun e45 => R (.panicked e45)))
 (fun e35 => R (.panicked e35)))
 (fun e19 => R (.panicked e19))
theorem does_even_look (W : World) (n1 n2 n3 : Int) (x4 : Option Addr) (l5 c6 : Nat) (n7 n8 n9 : Int) (R : Ending → Hp → Prop) (s : Hp) (h : T_even_look W n1 n2 n3 x4 l5 c6 n7 n8 n9 R s) : Does Pg W F_even_look #[(.agg #[(.int .i64 n1), (.int .i64 n2), (.int .i64 n3), (.slice x4 l5 c6), (.int .i64 n7), (.int .i64 n8), (.int .i64 n9)])] s R :=
  does_of_vfun Pg W an_48 Tryz.func48 rfl (by kernel_rfl) (Eq.mpr (by kernel_rfl) h)
def an_49 : Nat → Ann := fun b => match b with
 | 0 => { ms := [4, 23], ks := [.l, .i .i64], us := [0, 3, 22, 66], rt := false, ex := [] }
 | 2 => { ms := [4, 9], ks := [.l, .i .i64], us := [0, 3, 8, 22, 23, 66], rt := false, ex := [] }
 | _ => {}
abbrev rv_49 : List ResultVar := [.tmp 4]
abbrev rs_49 : List Nat := [66, 4]
def L_even_plot_gifts_0 (W : World) (R : Ending → Hp → Prop) (zp0 : Option Addr) (za1 : Addr) (zn2 zn3 zn4 zn5 : Int) (x42 : Option Addr) (l43 c44 : Nat) (n45 : Int) : Hp → Prop :=
 LOOPN [.l, .i .i64] (fun ys next s => ∀ j : Tm, vc Pg W 66 rs_49 an_49 false (sub (bodyOf Tryz.f49) [1, 1, 0, 1, 0, 0]) 0 (KLoop [4, 23] [0, 3, 22, 66] [(.pointer zp0), (.pointer (some za1)), (.agg #[(.int .i64 zn2), (.int .i64 zn3), (.int .i64 zn4), (.int .i64 zn5)]), (.tuple #[])] next (KBlk 0 (KS Pg W 66 rs_49 an_49 false (sub (bodyOf Tryz.f49) [1, 1, 1]) 0 (fin Pg W 66 rv_49 R)))) (known [4, 23] ys (known [0, 3, 22, 66] [(.pointer zp0), (.pointer (some za1)), (.agg #[(.int .i64 zn2), (.int .i64 zn3), (.int .i64 zn4), (.int .i64 zn5)]), (.tuple #[])] j)) s) [(.slice x42 l43 c44), (.int .i64 n45)]
def L_even_plot_gifts_1 (W : World) (R : Ending → Hp → Prop) (nx0 : List Value → Hp → Prop) (zp0 : Option Addr) (za1 : Addr) (zn2 zn3 zn4 zn5 zn6 zn7 : Int) (x58 : Option Addr) (l59 c60 : Nat) (n61 : Int) : Hp → Prop :=
 LOOPN [.l, .i .i64] (fun ys next s => ∀ j : Tm, vc Pg W 66 rs_49 an_49 false (sub (bodyOf Tryz.f49) [1, 1, 0, 1, 0, 0, 1, 1, 0, 0, 1, 1, 1, 0, 0]) 2 (KLoop [4, 9] [0, 3, 8, 22, 23, 66] [(.pointer zp0), (.pointer (some za1)), (.int .i64 zn2), (.agg #[(.int .i64 zn3), (.int .i64 zn4), (.int .i64 zn5), (.int .i64 zn6)]), (.int .i64 zn7), (.tuple #[])] next (KBlk 2 (KBlk 1 (KS Pg W 66 rs_49 an_49 false (sub (bodyOf Tryz.f49) [1, 1, 0, 1, 0, 0, 1, 1, 1]) 0 (KLoop [4, 23] [0, 3, 22, 66] [(.pointer zp0), (.pointer (some za1)), (.agg #[(.int .i64 zn3), (.int .i64 zn4), (.int .i64 zn5), (.int .i64 zn6)]), (.tuple #[])] nx0 (KBlk 0 (KS Pg W 66 rs_49 an_49 false (sub (bodyOf Tryz.f49) [1, 1, 1]) 0 (fin Pg W 66 rv_49 R)))))))) (known [4, 9] ys (known [0, 3, 8, 22, 23, 66] [(.pointer zp0), (.pointer (some za1)), (.int .i64 zn2), (.agg #[(.int .i64 zn3), (.int .i64 zn4), (.int .i64 zn5), (.int .i64 zn6)]), (.int .i64 zn7), (.tuple #[])] j)) s) [(.slice x58 l59 c60), (.int .i64 n61)]
def B_even_plot_gifts_0 (W : World) (R : Ending → Hp → Prop) (zp0 : Option Addr) (za1 : Addr) (zn2 zn3 zn4 zn5 : Int) (x42 : Option Addr) (l43 c44 : Nat) (n45 : Int) (nx0 : List Value → Hp → Prop) : Hp → Prop :=
 BR (decide (n45 < 4))
 (IXG [(.int .i64 zn2), (.int .i64 zn3), (.int .i64 zn4), (.int .i64 zn5)] 4 1 n45 fun v46 =>
 TYC .i64 v46 fun n47 =>
 SO zp0 fun a48 =>
 RDI .i64 (Addr.add a48 7) fun n49 =>
 NNI n45 <|
 BR ((andv .i64 (shrv .i64 n49 n45) 1) == 0)
 (NX [(.pointer zp0), (.pointer (some za1)), (.agg #[(.int .i64 zn2), (.int .i64 zn3), (.int .i64 zn4), (.int .i64 zn5)]), (.tuple #[])] [(.pointer zp0), (.pointer (some za1)), (.agg #[(.int .i64 zn2), (.int .i64 zn3), (.int .i64 zn4), (.int .i64 zn5)]), (.tuple #[])] (nx0 [(.slice x42 l43 c44), (.int .i64 (IntKind.wrap .i64 (n45 + 1)))]))
 (SO zp0 fun a50 =>
 RDI .i64 (Addr.add (Addr.add a50 8) 0) fun n51 =>
 L_even_plot_gifts_1 W R nx0 zp0 za1 n47 zn2 zn3 zn4 zn5 n45 x42 l43 c44 n51))
 (SO zp0 fun a52 =>
 RDM (Addr.add a52 10) fun m53 =>
 RDI .i64 (Addr.add za1 0) fun n54 =>
 RDI .i64 (Addr.add za1 1) fun n55 =>
 RDI .i64 (Addr.add za1 2) fun n56 =>
 RDI .i64 (Addr.add za1 3) fun n57 =>
 MUP Pg 117 (.map m53) (.agg #[(.int .i64 n54), (.int .i64 n55), (.int .i64 n56), (.int .i64 n57)]) (.slice x42 l43 c44) <|
 R (.returned (.slice x42 l43 c44)))
theorem B_even_plot_gifts_0_eq (W : World) (R : Ending → Hp → Prop) (zp0 : Option Addr) (za1 : Addr) (zn2 zn3 zn4 zn5 : Int) (x42 : Option Addr) (l43 c44 : Nat) (n45 : Int) (nx0 : List Value → Hp → Prop) (j : Tm) : vc Pg W 66 rs_49 an_49 false (sub (bodyOf Tryz.f49) [1, 1, 0, 1, 0, 0]) 0 (KLoop [4, 23] [0, 3, 22, 66] [(.pointer zp0), (.pointer (some za1)), (.agg #[(.int .i64 zn2), (.int .i64 zn3), (.int .i64 zn4), (.int .i64 zn5)]), (.tuple #[])] nx0 (KBlk 0 (KS Pg W 66 rs_49 an_49 false (sub (bodyOf Tryz.f49) [1, 1, 1]) 0 (fin Pg W 66 rv_49 R)))) (known [4, 23] [(.slice x42 l43 c44), (.int .i64 n45)] (known [0, 3, 22, 66] [(.pointer zp0), (.pointer (some za1)), (.agg #[(.int .i64 zn2), (.int .i64 zn3), (.int .i64 zn4), (.int .i64 zn5)]), (.tuple #[])] j)) = B_even_plot_gifts_0 W R zp0 za1 zn2 zn3 zn4 zn5 x42 l43 c44 n45 nx0 := by kernel_rfl
def N_even_plot_gifts_0 (I : Option Addr → Nat → Nat → Int → Hp → Prop) (μ : Option Addr → Nat → Nat → Int → Hp → Nat) (x420 : Option Addr) (l430 c440 : Nat) (n450 : Int) (s : Hp) (vs : List Value) : Hp → Prop := fun s' => ∃ x42 l43 c44 n45, vs = [(.slice x42 l43 c44), (.int .i64 n45)] ∧ I x42 l43 c44 n45 s' ∧ μ x42 l43 c44 n45 s' < μ x420 l430 c440 n450 s
theorem L_even_plot_gifts_0_rule (W : World) (R : Ending → Hp → Prop) (zp0 : Option Addr) (za1 : Addr) (zn2 zn3 zn4 zn5 : Int) (I : Option Addr → Nat → Nat → Int → Hp → Prop) (μ : Option Addr → Nat → Nat → Int → Hp → Nat) (x420 : Option Addr) (l430 c440 : Nat) (n450 : Int) (s : Hp) (h0 : I x420 l430 c440 n450 s)
    (hr : ∀ (x42 : Option Addr) (l43 : Nat) (c44 : Nat) (n45 : Int) (s : Hp), I x42 l43 c44 n45 s → B_even_plot_gifts_0 W R zp0 za1 zn2 zn3 zn4 zn5 x42 l43 c44 n45 (fun vs => N_even_plot_gifts_0 I μ x42 l43 c44 n45 s vs) s) : L_even_plot_gifts_0 W R zp0 za1 zn2 zn3 zn4 zn5 x420 l430 c440 n450 s := by
  refine ⟨fun vs s => ∃ x42 l43 c44 n45, vs = [(.slice x42 l43 c44), (.int .i64 n45)] ∧ I x42 l43 c44 n45 s, fun vs s => (match vs with | [.slice x42 l43 c44, .int _ n45] => μ x42 l43 c44 n45 s | _ => 0), ⟨⟨⟨_, _, _, rfl⟩, ⟨⟨_, rfl⟩, trivial⟩⟩, ⟨_, _, _, _, rfl, h0⟩⟩, ?_⟩
  intro x42 l43 c44 n45 s hI j
  obtain ⟨x42', l43', c44', n45', hy, hI⟩ := hI
  have hI' : I x42 l43 c44 n45 s := by cases hy; exact hI
  have hh := hr x42 l43 c44 n45 s hI'
  rw [← B_even_plot_gifts_0_eq W R zp0 za1 zn2 zn3 zn4 zn5 x42 l43 c44 n45 _ j] at hh
  refine vc_mono ?_ _ _ hh
  exact KLoop_mono (fun vs s' h => by obtain ⟨x421, l431, c441, n451, rfl, h1, h2⟩ := h; exact ⟨⟨⟨_, _, _, rfl⟩, ⟨⟨_, rfl⟩, trivial⟩⟩, ⟨_, _, _, _, rfl, h1⟩, h2⟩)
def B_even_plot_gifts_1 (W : World) (R : Ending → Hp → Prop) (nx0 : List Value → Hp → Prop) (zp0 : Option Addr) (za1 : Addr) (zn2 zn3 zn4 zn5 zn6 zn7 : Int) (x58 : Option Addr) (l59 c60 : Nat) (n61 : Int) (nx1 : List Value → Hp → Prop) : Hp → Prop :=
 SO zp0 fun a62 =>
 RDI .i64 (Addr.add (Addr.add a62 8) 1) fun n63 =>
 BR (decide (n61 ≤ n63))
 (RDI .i64 (Addr.add za1 0) fun n64 =>
 NEW 3 [(.int .i64 (IntKind.wrap .i64 (zn2 + (IntKind.wrap .i64 (n61 * n64)))))] fun B65 =>
 APP Pg 3 1 x58 l59 c60 (some ⟨B65, 0, none⟩) 1 fun x66 l67 c68 =>
 NX [(.pointer zp0), (.pointer (some za1)), (.int .i64 zn2), (.agg #[(.int .i64 zn3), (.int .i64 zn4), (.int .i64 zn5), (.int .i64 zn6)]), (.int .i64 zn7), (.tuple #[])] [(.pointer zp0), (.pointer (some za1)), (.int .i64 zn2), (.agg #[(.int .i64 zn3), (.int .i64 zn4), (.int .i64 zn5), (.int .i64 zn6)]), (.int .i64 zn7), (.tuple #[])] (nx1 [(.slice x66 l67 c68), (.int .i64 (IntKind.wrap .i64 (n61 + 1)))]))
 (NX [(.pointer zp0), (.pointer (some za1)), (.agg #[(.int .i64 zn3), (.int .i64 zn4), (.int .i64 zn5), (.int .i64 zn6)]), (.tuple #[])] [(.pointer zp0), (.pointer (some za1)), (.agg #[(.int .i64 zn3), (.int .i64 zn4), (.int .i64 zn5), (.int .i64 zn6)]), (.tuple #[])] (nx0 [(.slice x58 l59 c60), (.int .i64 (IntKind.wrap .i64 (zn7 + 1)))]))
theorem B_even_plot_gifts_1_eq (W : World) (R : Ending → Hp → Prop) (nx0 : List Value → Hp → Prop) (zp0 : Option Addr) (za1 : Addr) (zn2 zn3 zn4 zn5 zn6 zn7 : Int) (x58 : Option Addr) (l59 c60 : Nat) (n61 : Int) (nx1 : List Value → Hp → Prop) (j : Tm) : vc Pg W 66 rs_49 an_49 false (sub (bodyOf Tryz.f49) [1, 1, 0, 1, 0, 0, 1, 1, 0, 0, 1, 1, 1, 0, 0]) 2 (KLoop [4, 9] [0, 3, 8, 22, 23, 66] [(.pointer zp0), (.pointer (some za1)), (.int .i64 zn2), (.agg #[(.int .i64 zn3), (.int .i64 zn4), (.int .i64 zn5), (.int .i64 zn6)]), (.int .i64 zn7), (.tuple #[])] nx1 (KBlk 2 (KBlk 1 (KS Pg W 66 rs_49 an_49 false (sub (bodyOf Tryz.f49) [1, 1, 0, 1, 0, 0, 1, 1, 1]) 0 (KLoop [4, 23] [0, 3, 22, 66] [(.pointer zp0), (.pointer (some za1)), (.agg #[(.int .i64 zn3), (.int .i64 zn4), (.int .i64 zn5), (.int .i64 zn6)]), (.tuple #[])] nx0 (KBlk 0 (KS Pg W 66 rs_49 an_49 false (sub (bodyOf Tryz.f49) [1, 1, 1]) 0 (fin Pg W 66 rv_49 R)))))))) (known [4, 9] [(.slice x58 l59 c60), (.int .i64 n61)] (known [0, 3, 8, 22, 23, 66] [(.pointer zp0), (.pointer (some za1)), (.int .i64 zn2), (.agg #[(.int .i64 zn3), (.int .i64 zn4), (.int .i64 zn5), (.int .i64 zn6)]), (.int .i64 zn7), (.tuple #[])] j)) = B_even_plot_gifts_1 W R nx0 zp0 za1 zn2 zn3 zn4 zn5 zn6 zn7 x58 l59 c60 n61 nx1 := by kernel_rfl
def N_even_plot_gifts_1 (I : Option Addr → Nat → Nat → Int → Hp → Prop) (μ : Option Addr → Nat → Nat → Int → Hp → Nat) (x580 : Option Addr) (l590 c600 : Nat) (n610 : Int) (s : Hp) (vs : List Value) : Hp → Prop := fun s' => ∃ x58 l59 c60 n61, vs = [(.slice x58 l59 c60), (.int .i64 n61)] ∧ I x58 l59 c60 n61 s' ∧ μ x58 l59 c60 n61 s' < μ x580 l590 c600 n610 s
theorem L_even_plot_gifts_1_rule (W : World) (R : Ending → Hp → Prop) (nx0 : List Value → Hp → Prop) (zp0 : Option Addr) (za1 : Addr) (zn2 zn3 zn4 zn5 zn6 zn7 : Int) (I : Option Addr → Nat → Nat → Int → Hp → Prop) (μ : Option Addr → Nat → Nat → Int → Hp → Nat) (x580 : Option Addr) (l590 c600 : Nat) (n610 : Int) (s : Hp) (h0 : I x580 l590 c600 n610 s)
    (hr : ∀ (x58 : Option Addr) (l59 : Nat) (c60 : Nat) (n61 : Int) (s : Hp), I x58 l59 c60 n61 s → B_even_plot_gifts_1 W R nx0 zp0 za1 zn2 zn3 zn4 zn5 zn6 zn7 x58 l59 c60 n61 (fun vs => N_even_plot_gifts_1 I μ x58 l59 c60 n61 s vs) s) : L_even_plot_gifts_1 W R nx0 zp0 za1 zn2 zn3 zn4 zn5 zn6 zn7 x580 l590 c600 n610 s := by
  refine ⟨fun vs s => ∃ x58 l59 c60 n61, vs = [(.slice x58 l59 c60), (.int .i64 n61)] ∧ I x58 l59 c60 n61 s, fun vs s => (match vs with | [.slice x58 l59 c60, .int _ n61] => μ x58 l59 c60 n61 s | _ => 0), ⟨⟨⟨_, _, _, rfl⟩, ⟨⟨_, rfl⟩, trivial⟩⟩, ⟨_, _, _, _, rfl, h0⟩⟩, ?_⟩
  intro x58 l59 c60 n61 s hI j
  obtain ⟨x58', l59', c60', n61', hy, hI⟩ := hI
  have hI' : I x58 l59 c60 n61 s := by cases hy; exact hI
  have hh := hr x58 l59 c60 n61 s hI'
  rw [← B_even_plot_gifts_1_eq W R nx0 zp0 za1 zn2 zn3 zn4 zn5 zn6 zn7 x58 l59 c60 n61 _ j] at hh
  refine vc_mono ?_ _ _ hh
  exact KLoop_mono (fun vs s' h => by obtain ⟨x581, l591, c601, n611, rfl, h1, h2⟩ := h; exact ⟨⟨⟨_, _, _, rfl⟩, ⟨⟨_, rfl⟩, trivial⟩⟩, ⟨_, _, _, _, rfl, h1⟩, h2⟩)
def T_even_plot_gifts (W : World) (p1 : Option Addr) (n2 n3 n4 n5 : Int) (R : Ending → Hp → Prop) : Hp → Prop :=
 NEW 72 [(.int .i64 n2), (.int .i64 n3), (.int .i64 n4), (.int .i64 n5)] fun B6 =>
 SO p1 fun a7 =>
 RDM (Addr.add a7 10) fun m8 =>
 RDI .i64 (Addr.add ⟨B6, 0, none⟩ 0) fun n9 =>
 RDI .i64 (Addr.add ⟨B6, 0, none⟩ 1) fun n10 =>
 RDI .i64 (Addr.add ⟨B6, 0, none⟩ 2) fun n11 =>
 RDI .i64 (Addr.add ⟨B6, 0, none⟩ 3) fun n12 =>
 LKP Pg 117 (.map m8) (.agg #[(.int .i64 n9), (.int .i64 n10), (.int .i64 n11), (.int .i64 n12)]) true fun v13 =>
 TUP v13 fun q14 => HD q14 fun v15 r16 => TYL v15 fun x17 l18 c19 =>
 HD r16 fun v20 r21 => TYB v20 fun b22 =>
 NL r21 <|
 BR b22
 (R (.returned (.slice x17 l18 c19)))
 (RDI .i64 (Addr.add ⟨B6, 0, none⟩ 0) fun n23 =>
 RDI .i64 (Addr.add ⟨B6, 0, none⟩ 1) fun n24 =>
 RDI .i64 (Addr.add ⟨B6, 0, none⟩ 2) fun n25 =>
 RDI .i64 (Addr.add ⟨B6, 0, none⟩ 3) fun n26 =>
 CALL Pg W F_even_rule_classes [(.agg #[(.int .i64 n23), (.int .i64 n24), (.int .i64 n25), (.int .i64 n26)])]
 (fun v27 => AGG v27 fun q29 => HD q29 fun v30 r31 => TYI .i64 v30 fun n32 =>
 HD r31 fun v33 r34 => TYI .i64 v33 fun n35 =>
 HD r34 fun v36 r37 => TYI .i64 v36 fun n38 =>
 HD r37 fun v39 r40 => TYI .i64 v39 fun n41 =>
 NL r40 <|
 L_even_plot_gifts_0 W R p1 ⟨B6, 0, none⟩ n32 n35 n38 n41 none 0 0 0)
 (fun e28 => R (.panicked e28)))
theorem does_even_plot_gifts (W : World) (p1 : Option Addr) (n2 n3 n4 n5 : Int) (R : Ending → Hp → Prop) (s : Hp) (h : T_even_plot_gifts W p1 n2 n3 n4 n5 R s) : Does Pg W F_even_plot_gifts #[(.pointer p1), (.agg #[(.int .i64 n2), (.int .i64 n3), (.int .i64 n4), (.int .i64 n5)])] s R :=
  does_of_vfun Pg W an_49 Tryz.func49 rfl (by kernel_rfl) (Eq.mpr (by kernel_rfl) h)
def an_81 : Nat → Ann := fun b => match b with
 | _ => {}
def T_even_within (W : World) (n1 n2 n3 : Int) (R : Ending → Hp → Prop) : Hp → Prop :=
 BR (decide (n2 ≤ n1))
 (R (.returned (.bool (decide (n1 ≤ n3)))))
 (R (.returned (.bool false)))
theorem does_even_within (W : World) (n1 n2 n3 : Int) (R : Ending → Hp → Prop) (s : Hp) (h : T_even_within W n1 n2 n3 R s) : Does Pg W F_even_within #[(.int .i64 n1), (.int .i64 n2), (.int .i64 n3)] s R :=
  does_of_vfun Pg W an_81 Tryz.func81 rfl (by kernel_rfl) (Eq.mpr (by kernel_rfl) h)
def an_82 : Nat → Ann := fun b => match b with
 | _ => {}
def T_even_rule_classes (W : World) (n1 n2 n3 n4 : Int) (R : Ending → Hp → Prop) : Hp → Prop :=
 NEW 72 [(.int .i64 n1), (.int .i64 n2), (.int .i64 n3), (.int .i64 n4)] fun B5 =>
 NEWZ Pg 171 fun B6 =>
 RDI .i64 (Addr.add ⟨B5, 0, none⟩ 2) fun n7 =>
 RDI .i64 (Addr.add ⟨B5, 0, none⟩ 1) fun n8 =>
 RDI .i64 (Addr.add ⟨B5, 0, none⟩ 3) fun n9 =>
 WR (Addr.add ⟨B6, 0, none⟩ 0) (.int .i64 0) <|
 WR (Addr.add ⟨B6, 0, none⟩ 1) (.int .i64 n7) <|
 WR (Addr.add ⟨B6, 0, none⟩ 2) (.int .i64 n8) <|
 WR (Addr.add ⟨B6, 0, none⟩ 3) (.int .i64 n9) <|
 RDI .i64 (Addr.add ⟨B6, 0, none⟩ 0) fun n10 =>
 RDI .i64 (Addr.add ⟨B6, 0, none⟩ 1) fun n11 =>
 RDI .i64 (Addr.add ⟨B6, 0, none⟩ 2) fun n12 =>
 RDI .i64 (Addr.add ⟨B6, 0, none⟩ 3) fun n13 =>
 R (.returned (.agg #[(.int .i64 n10), (.int .i64 n11), (.int .i64 n12), (.int .i64 n13)]))
theorem does_even_rule_classes (W : World) (n1 n2 n3 n4 : Int) (R : Ending → Hp → Prop) (s : Hp) (h : T_even_rule_classes W n1 n2 n3 n4 R s) : Does Pg W F_even_rule_classes #[(.agg #[(.int .i64 n1), (.int .i64 n2), (.int .i64 n3), (.int .i64 n4)])] s R :=
  does_of_vfun Pg W an_82 Tryz.func82 rfl (by kernel_rfl) (Eq.mpr (by kernel_rfl) h)
open Go.V
theorem zc_68 : zc Pg 68 = [.int .i64 0, .int .i64 0] := by kernel_rfl
theorem zc_171 : zc Pg 171 = [.int .i64 0, .int .i64 0, .int .i64 0, .int .i64 0] := by kernel_rfl
theorem und_117 : ∃ e, Pg.underlying 117 = some (.map 72 e) ∧ ∀ (K : Value → Hp → Prop) (E : Value → Hp → Prop) (s : Hp), sp Pg (zeroValue e) K E s = K (.slice none 0 0) s := ⟨98, by kernel_rfl, fun K E s => by kernel_rfl⟩
theorem und_72 : ∃ d, Pg.underlying 72 = some d := Option.isSome_iff_exists.1 (show (Pg.underlying 72).isSome = true by kernel_rfl)
theorem ev_ty0 (K : Hp → Prop) : tyR Pg 0 (.tuple #[]) (fun _ => K) = K := by kernel_rfl
structure RuP where
  hard : Int
  silt : Int
  sand : Int
  clay : Int
abbrev ruV (r : RuP) : Value := .agg #[.int .i64 r.hard, .int .i64 r.silt, .int .i64 r.sand, .int .i64 r.clay]
theorem check_ru (b : Bool) (r : RuP) (K : Unit → Hp → Prop) (E : Value → Hp → Prop) (s : Hp) : sp Pg (Instr.checkKey b 10000 72 (ruV r)) K E s = K () s := by kernel_rfl
section
variable {s : Hp} {r : Nat} {ru : RuP}
theorem find_nil {K : Option (Nat × Value) → Hp → Prop} {E : Value → Hp → Prop} (hk : K none s) : sp Pg (Instr.findKey 72 (ruV ru) (#[] : Array MapEntry).toList) K E s := by
  obtain ⟨d, hd⟩ := und_72
  unfold Instr.findKey
  rw [sp_bind, sp_und hd]
  exact hk
theorem lkp_new {K : VK} (hs : s[r]? = some (.map #[] 0)) (hk : K (.tuple #[.slice none 0 0, .bool false]) s) : LKP Pg 117 (.map (some r)) (ruV ru) true K s := by
  obtain ⟨e, ht, hz⟩ := und_117
  unfold LKP Instr.lookup
  rw [sp_bind, sp_und ht]
  simp only [sp_bind]
  refine ⟨_, hs, rfl, rfl, ?_⟩
  show sp Pg (Sem.pure (Obj.map #[] 0)) _ _ s
  simp only [sp, sp_bind, sp_pure]
  rw [check_ru]
  refine find_nil ?_
  simp only [sp_bind]
  rw [hz]
  exact hk
theorem mup_new {v : Value} {K : Hp → Prop} (hs : s[r]? = some (.map #[] 0)) (hk : ∀ s', Kp (· = r) s s' → K s') : MUP Pg 117 (.map (some r)) (ruV ru) v K s := by
  obtain ⟨e, ht, hz⟩ := und_117
  unfold MUP Instr.mapUpdate
  rw [sp_bind, sp_und ht]
  simp only [sp_bind]
  refine ⟨_, hs, rfl, rfl, ?_⟩
  show sp Pg (Sem.pure (Obj.map #[] 0)) _ _ s
  simp only [sp, sp_bind]
  rw [check_ru]
  refine find_nil ?_
  refine ⟨⟨_, hs, rfl, rfl⟩, ?_⟩
  exact hk _ setO_kp
end
section
variable {W : World} {K : Hp → Prop} {s : Hp}
theorem ev_vf_none (W : World) (a : Addr) (R : Ending → Hp → Prop) : vfun Pg W (fun _ => {}) Tryz.f21 [.nilIface, .pointer (some a)] R = R (.returned (.tuple #[])) := by kernel_rfl
theorem ev_caught {a : Addr} {K : VK} {E : List PanicEntry → Hp → Prop} (h : K (.tuple #[]) s) : CALL Pg W 21 [.nilIface, .pointer (some a)] K E s := by
  refine does_of_vfun Pg W (fun _ => {}) Tryz.func21 rfl (by kernel_rfl) ?_
  rw [ev_vf_none]
  exact h
theorem ev_gives {a : Addr} (h : K s) : DEF Pg W (.tuple #[.func (.func 20) #[] #[.pointer (some a)], .tuple #[]]) none K s := by
  show DoesD Pg W 20 [.pointer (some a)] none s K
  refine told2_ok (id := 0) (d := 1) (d2 := 2) (ty := 20) (ty2 := 0) (pos := "even.go:151") (pos2 := "even.go:151") (ats := #[20, 55]) (aft := #[{ on := 0, ground := Go.Ground.data }, { on := 0, ground := Go.Ground.chain }]) Tryz.func20 (by kernel_rfl) (by kernel_rfl) (by kernel_rfl) (show 1 < 3 by decide) (show 0 < 3 by decide) (by decide) (show isExt Pg 21 = false by kernel_rfl) (.inl ⟨rfl, rfl⟩) (ev_caught ?_)
  rw [ev_ty0]; exact h
theorem ev_even {a : Addr} (h : K s) : DEF Pg W (.tuple #[.func (.func 25) #[] #[.pointer (some a)], .tuple #[]]) none K s := by
  show DoesD Pg W 25 [.pointer (some a)] none s K
  refine told2_ok (id := 0) (d := 1) (d2 := 2) (ty := 20) (ty2 := 0) (pos := "even.go:157") (pos2 := "even.go:157") (ats := #[20, 55]) (aft := #[{ on := 0, ground := Go.Ground.data }, { on := 0, ground := Go.Ground.chain }]) Tryz.func25 (by kernel_rfl) (by kernel_rfl) (by kernel_rfl) (show 1 < 3 by decide) (show 0 < 3 by decide) (by decide) (show isExt Pg 21 = false by kernel_rfl) (.inl ⟨rfl, rfl⟩) (ev_caught ?_)
  rw [ev_ty0]; exact h
end
structure RuOk (r : RuP) : Prop where
  h0 : 0 ≤ r.hard
  h1 : r.hard ≤ 5
  a : 0 ≤ r.silt
  b : r.silt ≤ r.sand
  c : r.sand ≤ r.clay
  d : r.clay ≤ 12
def giftP (r : RuP) : Nat → Int
  | 0 => 0
  | 1 => r.sand
  | 2 => r.silt
  | _ => r.clay
structure PlE (s : Hp) (p : Addr) (m : Sp) (cls : Nat) (q : Int) (bt : Nat) : Prop where
  m1 : cellAt s (p.add 5) = some (.int .i64 m.1)
  m2 : cellAt s (p.add 6) = some (.int .i64 m.2)
  cl : cellAt s (p.add 7) = some (.int .i64 ((2 ^ cls : Nat) : Int))
  q1 : cellAt s (p.add 8) = some (.int .i64 q)
  q2 : cellAt s (p.add 9) = some (.int .i64 q)
  kn : cellAt s (p.add 10) = some (.map (some bt))
  mp : s[bt]? = some (.map #[] 0)
theorem bit_cls {cls k : Nat} (hc : cls < 4) (hk : k < 4) : (andv .i64 (shrv .i64 ((2 ^ cls : Nat) : Int) (k : Int)) 1 == 0) = decide (k ≠ cls) := by
  have h : ((List.range 4).all fun (c : Nat) => (List.range 4).all fun (k : Nat) => decide ((andv .i64 (shrv .i64 ((2 ^ c : Nat) : Int) (k : Int)) 1 == 0) = decide (k ≠ c))) = true := by decide +kernel
  have h1 := List.all_eq_true.1 h cls (by simpa using hc)
  have h2 := List.all_eq_true.1 h1 k (by simpa using hk)
  exact of_decide_eq_true h2
section
variable {W : World} {K : VK} {E : List PanicEntry → Hp → Prop} {s : Hp}
theorem ev_within {a b c : Int} (h1 : b ≤ a) (h2 : a ≤ c) (h : K (.bool true) s) : CALL Pg W F_even_within [.int .i64 a, .int .i64 b, .int .i64 c] K E s := by
  refine does_even_within W a b c _ s ?_
  unfold T_even_within
  refine BR_dec (fun _ => ?_) (fun h => absurd h1 h)
  have := h
  rw [← decide_eq_true h2] at this; exact this
theorem ev_need {e : Int} (h : K (.tuple #[]) s) : CALL Pg W F_even_need [.bool true, .int .i64 e] K E s := by
  refine does_even_need W true e _ s ?_
  unfold T_even_need
  exact h
theorem ev_isValid {r : RuP} (hr : RuOk r) (h : ∀ s', Ext s s' → K (.bool true) s') : CALL Pg W F_even_rule_isValid [ruV r] K E s := by
  obtain ⟨r1, r2, r3, r4, r5, r6⟩ := hr
  refine does_even_rule_isValid W _ _ _ _ _ s ?_
  unfold T_even_rule_isValid
  refine ne4 fun s1 f1 z1 o1 o2 o3 o4 => ?_
  (repeat ((with_reducible first | apply RDI_c | apply RDL_c | apply RDB_c | apply RDP_c | apply RDM_c | apply RDS_c | apply RDV_c); focus ((repeat (first | assumption | exact Own.cell (by assumption) | apply Ext.cell (by assumption))); done)))
  refine ev_within r1 r2 ?_
  try simp only [nd_]
  refine BR_tt rfl ?_
  (repeat ((with_reducible first | apply RDI_c | apply RDL_c | apply RDB_c | apply RDP_c | apply RDM_c | apply RDS_c | apply RDV_c); focus ((repeat (first | assumption | exact Own.cell (by assumption) | apply Ext.cell (by assumption))); done)))
  refine ev_within r3 r4 ?_
  try simp only [nd_]
  unfold J_even_rule_isValid_0
  refine BR_tt rfl ?_
  (repeat ((with_reducible first | apply RDI_c | apply RDL_c | apply RDB_c | apply RDP_c | apply RDM_c | apply RDS_c | apply RDV_c); focus ((repeat (first | assumption | exact Own.cell (by assumption) | apply Ext.cell (by assumption))); done)))
  refine ev_within (by omega) r5 ?_
  try simp only [nd_]
  refine BR_tt rfl ?_
  (repeat ((with_reducible first | apply RDI_c | apply RDL_c | apply RDB_c | apply RDP_c | apply RDM_c | apply RDS_c | apply RDV_c); focus ((repeat (first | assumption | exact Own.cell (by assumption) | apply Ext.cell (by assumption))); done)))
  refine ev_within (by omega) r6 ?_
  try simp only [nd_]
  exact h s1 f1
theorem ev_classes {r : RuP} (h : ∀ s', Ext s s' → K (.agg #[.int .i64 0, .int .i64 r.sand, .int .i64 r.silt, .int .i64 r.clay]) s') : CALL Pg W F_even_rule_classes [ruV r] K E s := by
  refine does_even_rule_classes W _ _ _ _ _ s ?_
  unfold T_even_rule_classes
  refine ne4 fun s1 f1 z1 o1 o2 o3 o4 => nz4 zc_171 fun s2 f2 z2 q1 q2 q3 q4 => ?_
  have hz1 : s1.size = s.size + 1 := z1
  (repeat ((with_reducible first | apply RDI_c | apply RDL_c | apply RDB_c | apply RDP_c | apply RDM_c | apply RDS_c | apply RDV_c); focus ((repeat (first | assumption | exact Own.cell (by assumption) | apply Ext.cell (by assumption))); done)))
  refine outN (s0 := s) (B := s1.size) (vs := [.int .i64 0, .int .i64 r.sand, .int .i64 r.silt, .int .i64 r.clay]) (f1.trans f2) (by omega) (fun i hi => ?_) (by simp [oneCell]) fun t e o => ?_
  · match i, hi with
    | 0, _ => exact ⟨_, q1⟩
    | 1, _ => exact ⟨_, q2⟩
    | 2, _ => exact ⟨_, q3⟩
    | 3, _ => exact ⟨_, q4⟩
  · refine ⟨_, (o 0 (by simp)).cell, ⟨_, (o 1 (by simp)).cell, ⟨_, (o 2 (by simp)).cell, ⟨_, (o 3 (by simp)).cell, ?_⟩⟩⟩⟩
    exact h t e
theorem min_one {x : Addr} {c : Nat} {v : Int} (hx : cellAt s x = some (.int .i64 v)) (h : K (.int .i64 v) s) : CALL Pg W F_slices_Min_int_int [.slice (some x) 1 c] K E s := by
  refine does_slices_Min_int_int W _ _ _ _ s ?_
  unfold T_slices_Min_int_int
  refine BR_dec (fun h => absurd h (by decide)) (fun _ => ?_)
  refine IXS_nat (i := 0) (by decide) ⟨_, hx, ?_⟩
  refine L_slices_Min_int_int_0_rule W _ (some x) 1 c (fun a k t => t = s ∧ a = v ∧ k = 1) (fun _ _ _ => 0) v 1 s ⟨rfl, rfl, rfl⟩ ?_
  rintro a k t ⟨rfl, rfl, rfl⟩
  unfold B_slices_Min_int_int_0
  exact BR_dec (fun h => absurd h (by decide)) (fun _ => h)
theorem max_one {x : Addr} {c : Nat} {v : Int} (hx : cellAt s x = some (.int .i64 v)) (h : K (.int .i64 v) s) : CALL Pg W F_slices_Max_int_int [.slice (some x) 1 c] K E s := by
  refine does_slices_Max_int_int W _ _ _ _ s ?_
  unfold T_slices_Max_int_int
  refine BR_dec (fun h => absurd h (by decide)) (fun _ => ?_)
  refine IXS_nat (i := 0) (by decide) ⟨_, hx, ?_⟩
  refine L_slices_Max_int_int_0_rule W _ (some x) 1 c (fun a k t => t = s ∧ a = v ∧ k = 1) (fun _ _ _ => 0) v 1 s ⟨rfl, rfl, rfl⟩ ?_
  rintro a k t ⟨rfl, rfl, rfl⟩
  unfold B_slices_Max_int_int_0
  exact BR_dec (fun h => absurd h (by decide)) (fun _ => h)
theorem PlE.kp {D : Nat → Prop} {s s' : Hp} {p : Addr} {m : Sp} {cls : Nat} {q : Int} {bt : Nat} (h : PlE s p m cls q bt) (k : Kp D s s') (hp : ¬ D p.block) (hb : ¬ D bt) : PlE s' p m cls q bt := by
  have hh : ∀ n, ¬ D (p.add n).block := fun n => by rw [add_blk]; exact hp
  have hl : bt < s.size := (Array.getElem?_eq_some_iff.1 h.mp).1
  exact ⟨k.cell (hh _) h.m1, k.cell (hh _) h.m2, k.cell (hh _) h.cl, k.cell (hh _) h.q1, k.cell (hh _) h.q2, k.cell (hh _) h.kn, by rw [k.2 bt hl hb]; exact h.mp⟩
theorem PlE.ext {s s' : Hp} {p : Addr} {m : Sp} {cls : Nat} {q : Int} {bt : Nat} (h : PlE s p m cls q bt) (e : Ext s s') : PlE s' p m cls q bt := h.kp (D := fun _ => False) e.kp id id
theorem ev_gifts {p : Addr} {m : Sp} {cls bt : Nat} {q : Int} {r : RuP} (hp : PlE s p m cls q bt) (hpb : p.block ≠ bt) (hc : cls < 4) (hr : RuOk r) (hq0 : 0 ≤ q) (hq1 : q ≤ 10) (h : ∀ s' x c, Kp (· = bt) s s' → cellAt s' x = some (.int .i64 (giftP r cls + q * r.hard)) → K (.slice (some x) 1 c) s') : CALL Pg W F_even_plot_gifts [.pointer (some p), ruV r] K E s := by
  refine does_even_plot_gifts W _ _ _ _ _ _ s ?_
  unfold T_even_plot_gifts
  refine ne4 fun s1 f1 z1 o1 o2 o3 o4 => ?_
  have P1 := hp.ext f1
  try simp only [nd_]
  refine ⟨_, P1.kn, ?_⟩
  (repeat ((with_reducible first | apply RDI_c | apply RDL_c | apply RDB_c | apply RDP_c | apply RDM_c | apply RDS_c | apply RDV_c); focus ((repeat (first | assumption | exact Own.cell (by assumption) | apply Ext.cell (by assumption))); done)))
  refine lkp_new (ru := r) P1.mp ?_
  try simp only [nd_]
  refine BR_ff rfl ?_
  (repeat ((with_reducible first | apply RDI_c | apply RDL_c | apply RDB_c | apply RDP_c | apply RDM_c | apply RDS_c | apply RDV_c); focus ((repeat (first | assumption | exact Own.cell (by assumption) | apply Ext.cell (by assumption))); done)))
  refine ev_classes (r := r) fun s2 f2 => ?_
  try simp only [nd_]
  have e2 : Ext s s2 := f1.trans f2
  have hbt : bt < s.size := (Array.getElem?_eq_some_iff.1 hp.mp).1
  obtain ⟨r1, r2, r3, r4, r5, r6⟩ := hr
  have hgb : 0 ≤ giftP r cls ∧ giftP r cls ≤ 12 := by
    have : cls = 0 ∨ cls = 1 ∨ cls = 2 ∨ cls = 3 := by omega
    rcases this with rfl | rfl | rfl | rfl
    · exact ⟨Int.le_refl _, by show (0 : Int) ≤ 12; decide⟩
    · show 0 ≤ r.sand ∧ r.sand ≤ 12; omega
    · show 0 ≤ r.silt ∧ r.silt ≤ 12; omega
    · show 0 ≤ r.clay ∧ r.clay ≤ 12; omega
  have hqh : 0 ≤ q * r.hard ∧ q * r.hard ≤ 10 * 5 := ⟨Int.mul_nonneg hq0 r1, Int.mul_le_mul hq1 r2 r1 (by omega)⟩
  let Got : Nat → Option Addr → Nat → Nat → Hp → Prop := fun b x l c t => (b = 0 ∧ x = none ∧ l = 0 ∧ c = 0) ∨ (b = 1 ∧ l = 1 ∧ ∃ a, x = some a ∧ s.size ≤ a.block ∧ cellAt t a = some (.int .i64 (giftP r cls + q * r.hard)))
  refine L_even_plot_gifts_0_rule W _ (some p) ⟨s.size, 0, none⟩ 0 r.sand r.silt r.clay (fun x l c n t => Ext s2 t ∧ ∃ k : Nat, n = k ∧ k ≤ 4 ∧ Got (if cls < k then 1 else 0) x l c t) (fun _ _ _ n _ => (4 - n).toNat) none 0 0 0 s2 ⟨Ext.refl _, 0, rfl, by omega, .inl ⟨by simp, rfl, rfl, rfl⟩⟩ ?_
  rintro x l c n t ⟨et, k, rfl, hk, hgot⟩
  unfold B_even_plot_gifts_0
  have Pt := hp.ext (e2.trans et)
  refine BR_dec (fun hlt => ?_) (fun hge => ?_)
  · have hk4 : k < 4 := by omega
    have hix : ∀ (K : VK), K (.int .i64 (giftP r k)) t → IXG [.int .i64 0, .int .i64 r.sand, .int .i64 r.silt, .int .i64 r.clay] 4 1 (k : Int) K t := by
      intro K hK
      unfold IXG
      rw [decide_eq_true (show (0 : Int) ≤ (k : Int) ∧ (k : Int) < (4 : Nat) by omega), Int.toNat_natCast, Nat.mul_one]
      have : k = 0 ∨ k = 1 ∨ k = 2 ∨ k = 3 := by omega
      rcases this with rfl | rfl | rfl | rfl <;> exact hK
    refine hix _ ?_
    rw [TYC_mk]
    try simp only [nd_]
    refine ⟨_, Pt.cl, ?_⟩
    refine NNI_of (by omega) ?_
    rw [bit_cls hc hk4]
    refine BR_dec (fun hne => ?_) (fun heq => ?_)
    · try simp only [nd_]
      refine ⟨_, _, _, _, rfl, ⟨et, k + 1, wrap_succ (by omega), hk4, ?_⟩, ?_⟩
      · have : (if cls < k + 1 then 1 else 0) = (if cls < k then 1 else 0) := by
          by_cases h1 : cls < k
          · rw [if_pos h1, if_pos (by omega)]
          · rw [if_neg h1, if_neg (by omega)]
        rw [this]; exact hgot
      · show ((4 : Int) - IntKind.i64.wrap ((k : Int) + 1)).toNat < ((4 : Int) - (k : Int)).toNat
        rw [wrap_succ (k := k) (by omega)]; omega
    · have hkc : k = cls := Decidable.not_not.1 heq
      subst hkc
      rw [if_neg (by omega)] at hgot
      rcases hgot with ⟨_, rfl, rfl, rfl⟩ | ⟨h1, _⟩
      rotate_left
      · cases h1
      try simp only [nd_]
      refine ⟨_, Pt.q1, ?_⟩
      generalize hnx : (fun vs => N_even_plot_gifts_0 _ _ none 0 0 (k : Int) t vs) = nx0
      refine L_even_plot_gifts_1_rule W _ nx0 (some p) ⟨s.size, 0, none⟩ (giftP r k) 0 r.sand r.silt r.clay (k : Int) (fun x l c n v => Ext t v ∧ ((n = q ∧ Got 0 x l c v) ∨ (n = q + 1 ∧ Got 1 x l c v))) (fun _ _ _ n _ => (q + 1 - n).toNat) none 0 0 q t ⟨Ext.refl _, .inl ⟨rfl, .inl ⟨rfl, rfl, rfl, rfl⟩⟩⟩ ?_
      rintro x l c n v ⟨ev, hn⟩
      unfold B_even_plot_gifts_1
      have Pv := Pt.ext ev
      try simp only [nd_]
      refine ⟨_, Pv.q2, ?_⟩
      rcases hn with ⟨rfl, hg⟩ | ⟨rfl, hg⟩
      · rcases hg with ⟨_, rfl, rfl, rfl⟩ | ⟨h1, _⟩
        rotate_left
        · cases h1
        refine BR_dec (fun _ => ?_) (fun h => absurd (Int.le_refl _) h)
        have ev0 := (f2.trans et).trans ev
        refine ⟨_, (ev0.own o1).cell, ?_⟩
        refine ne1 fun v1 g1 y1 p1 => ?_
        rw [wrap_i64 (n := n * r.hard) (by omega) (by omega), wrap_i64 (n := giftP r k + n * r.hard) (by omega) (by omega)] at p1
        have hvs : s.size ≤ v1.size := (((e2.trans et).trans ev).trans g1).1
        refine APP_fr (lo := s.size) (Fr.nil s.size v1 1) hvs (ws := [.int .i64 (giftP r k + n * r.hard)]) (fun i hi => ⟨⟨v.size, 0, none⟩, rfl, ?_⟩) rfl zc_3 rfl (by omega) (by simp [oneCell]) (by omega) fun v2 x2 c2 k2 hx2 fr2 => ?_
        · have hi0 : i = 0 := by simp at hi; omega
          subst hi0; exact p1.cell
        · have e12 : Ext v1 v2 := kp_nil (Ext.refl _) (fun b hb => by obtain ⟨a, ha, _⟩ := hb; cases ha) k2
          try simp only [nd_]
          refine ⟨_, _, _, _, rfl, ⟨(ev.trans g1).trans e12, .inr ⟨?_, .inr ⟨rfl, rfl, ?_⟩⟩⟩, ?_⟩
          · rw [wrap_i64 (by omega) (by omega)]
          · obtain ⟨a, ha, y, hy, hv⟩ := fr2.buf.own 0 (by have := fr2.buf.le; simp at this; omega)
            have hy2 := hv (by simp)
            refine ⟨a, ha, fr2.fr a ha, ?_⟩
            have := hy.cell
            rw [hy2] at this
            exact this
          · show (n + 1 - IntKind.i64.wrap (n + 1)).toNat < (n + 1 - n).toNat
            rw [wrap_i64 (n := n + 1) (by omega) (by omega)]; omega
      · refine BR_dec (fun h => absurd h (by omega)) (fun _ => ?_)
        subst hnx
        try simp only [nd_]
        refine ⟨_, _, _, _, rfl, ⟨et.trans ev, k + 1, wrap_succ (by omega), hk4, ?_⟩, ?_⟩
        · rw [if_pos (by omega)]; exact hg
        · show ((4 : Int) - IntKind.i64.wrap ((k : Int) + 1)).toNat < ((4 : Int) - (k : Int)).toNat
          rw [wrap_succ (k := k) (by omega)]; omega
  · have hk4 : k = 4 := by omega
    subst hk4
    rw [if_pos hc] at hgot
    rcases hgot with ⟨h1, _⟩ | ⟨_, rfl, a, rfl, ha, hcell⟩
    · cases h1
    try simp only [nd_]
    have ev0 := f2.trans et
    refine ⟨_, Pt.kn, ⟨_, (ev0.own o1).cell, ⟨_, (ev0.own o2).cell, ⟨_, (ev0.own o3).cell, ⟨_, (ev0.own o4).cell, ?_⟩⟩⟩⟩⟩
    refine mup_new (ru := r) Pt.mp fun t2 k2 => ?_
    exact h t2 a c ((e2.trans et).kp.trans k2) (k2.cell (by show ¬ a.block = bt; omega) hcell)
theorem ev_pgives {p : Addr} {m : Sp} {cls bt : Nat} {q : Int} {r : RuP} (hp : PlE s p m cls q bt) (hpb : p.block ≠ bt) (hc : cls < 4) (hr : RuOk r) (hq0 : 0 ≤ q) (hq1 : q ≤ 10) (h : ∀ s', Kp (· = bt) s s' → K (spV (giftP r cls + q * r.hard, giftP r cls + q * r.hard)) s') : CALL Pg W F_even_plot_gives [.pointer (some p), ruV r] K E s := by
  refine does_even_plot_gives W _ _ _ _ _ _ s ?_
  unfold T_even_plot_gives
  refine ne4 fun s1 f1 z1 o1 o2 o3 o4 => nz2 zc_68 fun s2 f2 z2 q1 q2 => ?_
  have hbt : bt < s.size := (Array.getElem?_eq_some_iff.1 hp.mp).1
  have hz1 : s1.size = s.size + 1 := z1
  (repeat ((with_reducible first | apply RDI_c | apply RDL_c | apply RDB_c | apply RDP_c | apply RDM_c | apply RDS_c | apply RDV_c); focus ((repeat (first | assumption | exact Own.cell (by assumption) | apply Ext.cell (by assumption))); done)))
  refine ev_gifts (r := r) (hp.ext (f1.trans f2)) hpb hc hr hq0 hq1 fun s3 x c k3 hx => ?_
  try simp only [nd_]
  refine min_one hx ?_
  try simp only [nd_]
  refine max_one hx ?_
  try simp only [nd_]
  have hn : ¬ s1.size = bt := by omega
  refine outk2 (k3.own hn q1) (k3.own hn q2) rfl rfl fun s4 k4 p1 p2 => ?_
  refine ⟨_, p1.cell, ⟨_, p2.cell, ?_⟩⟩
  refine h s4 ⟨Nat.le_trans (f1.trans f2).1 (Nat.le_trans k3.1 k4.1), fun b hb hnb => ?_⟩
  have h1 := (f1.trans f2).1
  rw [k4.2 b (Nat.lt_of_lt_of_le hb (Nat.le_trans h1 k3.1)) (by omega), k3.2 b (Nat.lt_of_lt_of_le hb h1) hnb, (f1.trans f2).2 b hb]
theorem ev_peven {p : Addr} {m : Sp} {cls bt : Nat} {q : Int} {r : RuP} (hp : PlE s p m cls q bt) (hpb : p.block ≠ bt) (hc : cls < 4) (hr : RuOk r) (hq0 : 0 ≤ q) (hq1 : q ≤ 10) (hm : SpOk m 100) (h : ∀ s', Kp (· = bt) s s' → K (spV (m.1 + (giftP r cls + q * r.hard), m.2 + (giftP r cls + q * r.hard))) s') : CALL Pg W F_even_plot_even [.pointer (some p), ruV r] K E s := by
  obtain ⟨m1, m2, m3⟩ := hm
  have hr' := hr
  obtain ⟨r1, r2, r3, r4, r5, r6⟩ := hr
  have hgb : 0 ≤ giftP r cls ∧ giftP r cls ≤ 12 := by
    have : cls = 0 ∨ cls = 1 ∨ cls = 2 ∨ cls = 3 := by omega
    rcases this with rfl | rfl | rfl | rfl
    · exact ⟨Int.le_refl _, by show (0 : Int) ≤ 12; decide⟩
    · show 0 ≤ r.sand ∧ r.sand ≤ 12; omega
    · show 0 ≤ r.silt ∧ r.silt ≤ 12; omega
    · show 0 ≤ r.clay ∧ r.clay ≤ 12; omega
  have hqh : 0 ≤ q * r.hard ∧ q * r.hard ≤ 10 * 5 := ⟨Int.mul_nonneg hq0 r1, Int.mul_le_mul hq1 r2 r1 (by omega)⟩
  refine does_even_plot_even W _ _ _ _ _ _ s ?_
  unfold T_even_plot_even
  refine ne4 fun s1 f1 z1 o1 o2 o3 o4 => nz2 zc_68 fun s2 f2 z2 q1 q2 => ?_
  have hbt : bt < s.size := (Array.getElem?_eq_some_iff.1 hp.mp).1
  have hz1 : s1.size = s.size + 1 := z1
  (repeat ((with_reducible first | apply RDI_c | apply RDL_c | apply RDB_c | apply RDP_c | apply RDM_c | apply RDS_c | apply RDV_c); focus ((repeat (first | assumption | exact Own.cell (by assumption) | apply Ext.cell (by assumption))); done)))
  refine ev_pgives (r := r) (hp.ext (f1.trans f2)) hpb hc hr' hq0 hq1 fun s3 k3 => ?_
  try simp only [nd_]
  have c5 := k3.cell (a := p.add 5) (by rw [add_blk]; exact hpb) ((f1.trans f2).cell hp.m1)
  have c6 := k3.cell (a := p.add 6) (by rw [add_blk]; exact hpb) ((f1.trans f2).cell hp.m2)
  refine nw2 zc_68 rfl rfl fun s4 f4 z4 p1 p2 => ?_
  have a5 : ((p.add 5).add 0) = p.add 5 := addr_add _ _ _
  have a6 : ((p.add 5).add 1) = p.add 6 := addr_add _ _ _
  refine ⟨_, by first | exact f4.cell c5 | (rw [a5]; exact f4.cell c5), ⟨_, p1.cell, ?_⟩⟩
  try simp only [nd_]
  refine ⟨_, by first | exact f4.cell c6 | (rw [a6]; exact f4.cell c6), ⟨_, p2.cell, ?_⟩⟩
  have hn : ¬ s1.size = bt := by omega
  try dsimp only
  rw [wrap_i64 (n := m.1 + (giftP r cls + q * r.hard)) (by omega) (by omega), wrap_i64 (n := m.2 + (giftP r cls + q * r.hard)) (by omega) (by omega)]
  refine outk2 (f4.own (k3.own hn q1)) (f4.own (k3.own hn q2)) rfl rfl fun s5 k5 w1 w2 => ?_
  refine ⟨_, w1.cell, ⟨_, w2.cell, ?_⟩⟩
  refine h s5 ⟨Nat.le_trans (f1.trans f2).1 (Nat.le_trans (Nat.le_trans k3.1 f4.1) k5.1), fun b hb hnb => ?_⟩
  have h1 := (f1.trans f2).1
  have h3 := k3.1
  rw [k5.2 b (by have := f4.1; omega) (by omega), f4.2 b (by omega), k3.2 b (by omega) hnb, (f1.trans f2).2 b hb]
end
open Go.V
theorem ne7 {t : TypeId} {s : Hp} {v0 v1 v2 v3 v4 v5 v6 : Value} {K : Nat → Hp → Prop} (h : ∀ s', Ext s s' → s'.size = s.size + 1 → Own s' ⟨s.size, 0, none⟩ v0 → Own s' ⟨s.size, 1, none⟩ v1 → Own s' ⟨s.size, 2, none⟩ v2 → Own s' ⟨s.size, 3, none⟩ v3 → Own s' ⟨s.size, 4, none⟩ v4 → Own s' ⟨s.size, 5, none⟩ v5 → Own s' ⟨s.size, 6, none⟩ v6 → K s.size s') : NEW t [v0, v1, v2, v3, v4, v5, v6] K s :=
  NEW_rule fun s1 e1 z1 n1 _ => h s1 e1 z1 (n1 0 _ rfl) (n1 1 _ rfl) (n1 2 _ rfl) (n1 3 _ rfl) (n1 4 _ rfl) (n1 5 _ rfl) (n1 6 _ rfl)
theorem ne11 {t : TypeId} {s : Hp} {v0 v1 v2 v3 v4 v5 v6 v7 v8 v9 v10 : Value} {K : Nat → Hp → Prop} (h : ∀ s', Ext s s' → s'.size = s.size + 1 → Own s' ⟨s.size, 0, none⟩ v0 → Own s' ⟨s.size, 1, none⟩ v1 → Own s' ⟨s.size, 2, none⟩ v2 → Own s' ⟨s.size, 3, none⟩ v3 → Own s' ⟨s.size, 4, none⟩ v4 → Own s' ⟨s.size, 5, none⟩ v5 → Own s' ⟨s.size, 6, none⟩ v6 → Own s' ⟨s.size, 7, none⟩ v7 → Own s' ⟨s.size, 8, none⟩ v8 → Own s' ⟨s.size, 9, none⟩ v9 → Own s' ⟨s.size, 10, none⟩ v10 → K s.size s') : NEW t [v0, v1, v2, v3, v4, v5, v6, v7, v8, v9, v10] K s :=
  NEW_rule fun s1 e1 z1 n1 _ => h s1 e1 z1 (n1 0 _ rfl) (n1 1 _ rfl) (n1 2 _ rfl) (n1 3 _ rfl) (n1 4 _ rfl) (n1 5 _ rfl) (n1 6 _ rfl) (n1 7 _ rfl) (n1 8 _ rfl) (n1 9 _ rfl) (n1 10 _ rfl)
abbrev evV (g : GrP) (x : Option Addr) (c k : Nat) (m : Sp) : Value := .agg #[.int .i64 g.long, .int .i64 g.rise, .int .i64 g.change, .slice x g.pits.length c, .int .i64 (k : Nat), .int .i64 m.1, .int .i64 m.2]
section
variable {W : World} {K : VK} {E : List PanicEntry → Hp → Prop} {s : Hp} {g : GrP} {x : Option Addr} {c k : Nat} {m : Sp}
theorem ev_isPlot (hg : GrOk g) (hf : fineP g) (hp : PitR s x g.pits) (hk : k ≤ g.long) (hm : SpOk m 100) (h : ∀ s', Ext s s' → K (.bool true) s') : CALL Pg W F_even_isPlot [evV g x c k m] K E s := by
  obtain ⟨m1, m2, m3⟩ := hm
  refine does_even_isPlot W _ _ _ x _ c _ _ _ _ s ?_
  unfold T_even_isPlot
  refine ne7 fun s1 f1 z1 o1 o2 o3 o4 o5 o6 o7 => ?_
  (repeat ((with_reducible first | apply RDI_c | apply RDL_c | apply RDB_c | apply RDP_c | apply RDM_c | apply RDS_c | apply RDV_c); focus ((repeat (first | assumption | exact Own.cell (by assumption) | apply Ext.cell (by assumption))); done)))
  refine c_Hard (g := g) hg hf (hp.ext f1) hk fun s2 f2 => ?_
  unfold spV
  try simp only [nd_]
  refine nw2 zc_27 rfl rfl fun s3 f3 z3 p1 p2 => ?_
  refine BR_tt rfl ?_
  unfold J_even_isPlot_0
  refine BR_tt rfl ?_
  (repeat ((with_reducible first | apply RDI_c | apply RDL_c | apply RDB_c | apply RDP_c | apply RDM_c | apply RDS_c | apply RDV_c); focus ((repeat (first | assumption | exact Own.cell (by assumption) | apply Ext.cell (by assumption))); done)))
  refine ev_within m1 m2 ?_
  try simp only [nd_]
  refine BR_tt rfl ?_
  (repeat ((with_reducible first | apply RDI_c | apply RDL_c | apply RDB_c | apply RDP_c | apply RDM_c | apply RDS_c | apply RDV_c); focus ((repeat (first | assumption | exact Own.cell (by assumption) | apply Ext.cell (by assumption))); done)))
  try dsimp only
  rw [decide_eq_true m3]
  exact h s3 ((f1.trans f2).trans f3)
theorem ev_look {cls : Nat} {q : Int} (hg : GrOk g) (hf : fineP g) (hp : PitR s x g.pits) (hk : k ≤ g.long) (hcl : classP kindsP ((mixesP g).getD k zeroM) 0 = 2 ^ cls) (h1 : (hardP g k).1.tdiv 100 = q) (h2 : (hardP g k).2.tdiv 100 = q) (hq0 : 0 ≤ q) (hq1 : q ≤ 10)
    (h : ∀ s' B bt, Ext s s' → s.size ≤ bt → B ≠ bt → PlE s' ⟨B, 0, none⟩ m cls q bt → K (.pointer (some ⟨B, 0, none⟩)) s') : CALL Pg W F_even_look [evV g x c k m] K E s := by
  refine does_even_look W _ _ _ x _ c _ _ _ _ s ?_
  unfold T_even_look
  refine ne7 fun s1 f1 z1 o1 o2 o3 o4 o5 o6 o7 => ?_
  (repeat ((with_reducible first | apply RDI_c | apply RDL_c | apply RDB_c | apply RDP_c | apply RDM_c | apply RDS_c | apply RDV_c); focus ((repeat (first | assumption | exact Own.cell (by assumption) | apply Ext.cell (by assumption))); done)))
  refine c_Hard (g := g) hg hf (hp.ext f1) hk fun s2 f2 => ?_
  unfold spV
  try simp only [nd_]
  refine nw2 zc_27 rfl rfl fun s3 f3 z3 p1 p2 => ?_
  refine ev_need ?_
  try simp only [nd_]
  (repeat ((with_reducible first | apply RDI_c | apply RDL_c | apply RDB_c | apply RDP_c | apply RDM_c | apply RDS_c | apply RDV_c); focus ((repeat (first | assumption | exact Own.cell (by assumption) | apply Ext.cell (by assumption))); done)))
  refine c_Class (g := g) hg hf (hp.ext ((f1.trans f2).trans f3)) hk fun s4 f4 => ?_
  try simp only [nd_]
  (repeat ((with_reducible first | apply RDI_c | apply RDL_c | apply RDB_c | apply RDP_c | apply RDM_c | apply RDS_c | apply RDV_c); focus ((repeat (first | assumption | exact Own.cell (by assumption) | apply Ext.cell (by assumption))); done)))
  try dsimp only
  rw [h1, h2, wrap_i64 (n := q) (by omega) (by omega), hcl]
  refine ?_
  unfold MKM
  have f5 : Ext s4 (s4.push (.map #[] 0)) := Ext.push (Ext.refl s4)
  have hm5 : (s4.push (.map #[] 0))[s4.size]? = some (.map #[] 0) := by simp
  have hz5 : (s4.push (.map #[] 0)).size = s4.size + 1 := by simp
  generalize s4.push (.map #[] 0) = s5 at f5 hm5 hz5 ⊢
  refine ne11 fun s6 f6 z6 q1 q2 q3 q4 q5 q6 q7 q8 q9 q10 q11 => ?_
  have e4 : Ext s s4 := (((f1.trans f2).trans f3).trans f4)
  exact h s6 s5.size s4.size ((e4.trans f5).trans f6) e4.1 (by omega) ⟨q6.cell, q7.cell, q8.cell, q9.cell, q10.cell, q11.cell, by rw [f6.2 _ (by omega)]; exact hm5⟩
theorem ev_checked {cls : Nat} {q : Int} {r : RuP} (hr : RuOk r) (hg : GrOk g) (hf : fineP g) (hp : PitR s x g.pits) (hk : k ≤ g.long) (hm : SpOk m 100) (hcl : classP kindsP ((mixesP g).getD k zeroM) 0 = 2 ^ cls) (h1 : (hardP g k).1.tdiv 100 = q) (h2 : (hardP g k).2.tdiv 100 = q) (hq0 : 0 ≤ q) (hq1 : q ≤ 10)
    (h : ∀ s' B bt, Ext s s' → s.size ≤ bt → B ≠ bt → PlE s' ⟨B, 0, none⟩ m cls q bt → K (.pointer (some ⟨B, 0, none⟩)) s') : CALL Pg W F_even_checked [ruV r, evV g x c k m] K E s := by
  refine does_even_checked W _ _ _ _ _ _ _ x _ c _ _ _ _ s ?_
  unfold T_even_checked
  refine ne4 fun s1 f1 z1 a1 a2 a3 a4 => ne7 fun s2 f2 z2 o1 o2 o3 o4 o5 o6 o7 => ?_
  (repeat ((with_reducible first | apply RDI_c | apply RDL_c | apply RDB_c | apply RDP_c | apply RDM_c | apply RDS_c | apply RDV_c); focus ((repeat (first | assumption | exact Own.cell (by assumption) | apply Ext.cell (by assumption))); done)))
  refine ev_isValid (r := r) hr fun s3 f3 => ?_
  try simp only [nd_]
  refine BR_tt rfl ?_
  (repeat ((with_reducible first | apply RDI_c | apply RDL_c | apply RDB_c | apply RDP_c | apply RDM_c | apply RDS_c | apply RDV_c); focus ((repeat (first | assumption | exact Own.cell (by assumption) | apply Ext.cell (by assumption))); done)))
  refine ev_isPlot (g := g) (m := m) hg hf (hp.ext ((f1.trans f2).trans f3)) hk hm fun s4 f4 => ?_
  try simp only [nd_]
  unfold J_even_checked_0
  refine ev_need ?_
  try simp only [nd_]
  (repeat ((with_reducible first | apply RDI_c | apply RDL_c | apply RDB_c | apply RDP_c | apply RDM_c | apply RDS_c | apply RDV_c); focus ((repeat (first | assumption | exact Own.cell (by assumption) | apply Ext.cell (by assumption))); done)))
  have e4 : Ext s s4 := ((f1.trans f2).trans f3).trans f4
  refine ev_look (g := g) (m := m) hg hf (hp.ext e4) hk hcl h1 h2 hq0 hq1 fun s5 B bt f5 hb hne pl => ?_
  try simp only [nd_]
  exact h s5 B bt (e4.trans f5) (Nat.le_trans e4.1 hb) hne pl
theorem ev_span {a : Sp} (h : ∀ s', Ext s s' → K (spV a) s') : CALL Pg W F_even_span [spV a] K E s := by
  refine does_even_span W _ _ _ s ?_
  unfold T_even_span
  refine ne2 fun s1 f1 z1 o1 o2 => nz2 zc_27 fun s2 f2 z2 q1 q2 => ?_
  have hz1 : s1.size = s.size + 1 := z1
  (repeat ((with_reducible first | apply RDI_c | apply RDL_c | apply RDB_c | apply RDP_c | apply RDM_c | apply RDS_c | apply RDV_c); focus ((repeat (first | assumption | exact Own.cell (by assumption) | apply Ext.cell (by assumption))); done)))
  refine out2 (s0 := s) (by repeat (first | exact Ext.refl _ | assumption | refine Ext.trans ?_ (by assumption))) (by omega) (by (repeat (first | assumption | apply Ext.own (by assumption)))) (by (repeat (first | assumption | apply Ext.own (by assumption)))) rfl rfl fun t e r1 r2 => ?_
  (repeat ((with_reducible first | apply RDI_c | apply RDL_c | apply RDB_c | apply RDP_c | apply RDM_c | apply RDS_c | apply RDV_c); focus ((repeat (first | assumption | exact Own.cell (by assumption) | apply Ext.cell (by assumption))); done)))
  exact h t e
theorem c_Gives {cls : Nat} {q : Int} {r : RuP} (hcls : cls < 4) (hr : RuOk r) (hg : GrOk g) (hf : fineP g) (hp : PitR s x g.pits) (hk : k ≤ g.long) (hm : SpOk m 100) (hcl : classP kindsP ((mixesP g).getD k zeroM) 0 = 2 ^ cls) (h1 : (hardP g k).1.tdiv 100 = q) (h2 : (hardP g k).2.tdiv 100 = q) (hq0 : 0 ≤ q) (hq1 : q ≤ 10)
    (h : ∀ s', Ext s s' → K (.tuple #[spV (giftP r cls + q * r.hard, giftP r cls + q * r.hard), .int .i64 0]) s') : CALL Pg W F_even_Gives [ruV r, evV g x c k m] K E s := by
  refine does_even_Gives W _ _ _ _ _ _ _ x _ c _ _ _ _ s ?_
  unfold T_even_Gives
  refine ne4 fun s1 f1 z1 a1 a2 a3 a4 => ne7 fun s2 f2 z2 o1 o2 o3 o4 o5 o6 o7 => nz2 zc_27 fun s3 f3 z3 q1 q2 => nz1 zc_34 fun s4 f4 z4 q3 => ?_
  have hz1 : s1.size = s.size + 1 := z1
  have hz2 : s2.size = s1.size + 1 := z2
  have hz3 : s3.size = s2.size + 1 := z3
  have hz4 : s4.size = s3.size + 1 := z4
  (repeat ((with_reducible first | apply RDI_c | apply RDL_c | apply RDB_c | apply RDP_c | apply RDM_c | apply RDS_c | apply RDV_c); focus ((repeat (first | assumption | exact Own.cell (by assumption) | apply Ext.cell (by assumption))); done)))
  have e4 : Ext s s4 := ((f1.trans f2).trans f3).trans f4
  refine ev_checked (g := g) (m := m) (r := r) hr hg hf (hp.ext e4) hk hm hcl h1 h2 hq0 hq1 fun s5 B bt f5 hb hne pl => ?_
  try simp only [nd_]
  refine ANDS_i ⟨_, (f5.own (f4.own (f3.own (f2.own a1)))).cell, ⟨_, (f5.own (f4.own (f3.own (f2.own a2)))).cell, ⟨_, (f5.own (f4.own (f3.own (f2.own a3)))).cell, ⟨_, (f5.own (f4.own (f3.own (f2.own a4)))).cell, rfl⟩⟩⟩⟩ ?_
  have hne : B ≠ bt := hne
  refine ev_pgives (r := r) (m := m) (cls := cls) (q := q) (bt := bt) pl hne hcls hr hq0 hq1 fun s6 k6 => ?_
  try simp only [nd_]
  refine ev_span (a := (giftP r cls + q * r.hard, giftP r cls + q * r.hard)) fun s7 f7 => ?_
  try simp only [nd_]
  have n2 : ¬ s2.size = bt := by omega
  have n3 : ¬ s3.size = bt := by omega
  refine outk2 (f7.own (k6.own n2 (f5.own (f4.own q1)))) (f7.own (k6.own n2 (f5.own (f4.own q2)))) rfl rfl fun s8 k8 p1 p2 => ?_
  have n32 : ¬ s3.size = s2.size := by omega
  refine outk1 (k8.own n32 (f7.own (k6.own n3 (f5.own q3)))) rfl fun s9 k9 p3 => ?_
  refine ev_gives ?_
  have n23 : ¬ s2.size = s3.size := by omega
  refine ⟨_, (k9.own n23 p1).cell, ⟨_, (k9.own n23 p2).cell, ⟨_, p3.cell, ?_⟩⟩⟩
  have e6 : Ext s s6 := ext_kp (e4.trans f5) (by omega) k6
  exact h s9 (ext_kp (ext_kp (e6.trans f7) (by omega) k8) (by omega) k9)
theorem c_Even {cls : Nat} {q : Int} {r : RuP} (hcls : cls < 4) (hr : RuOk r) (hg : GrOk g) (hf : fineP g) (hp : PitR s x g.pits) (hk : k ≤ g.long) (hm : SpOk m 100) (hcl : classP kindsP ((mixesP g).getD k zeroM) 0 = 2 ^ cls) (h1 : (hardP g k).1.tdiv 100 = q) (h2 : (hardP g k).2.tdiv 100 = q) (hq0 : 0 ≤ q) (hq1 : q ≤ 10)
    (h : ∀ s', Ext s s' → K (.tuple #[spV (m.1 + (giftP r cls + q * r.hard), m.2 + (giftP r cls + q * r.hard)), .int .i64 0]) s') : CALL Pg W F_even_Even [ruV r, evV g x c k m] K E s := by
  refine does_even_Even W _ _ _ _ _ _ _ x _ c _ _ _ _ s ?_
  unfold T_even_Even
  refine ne4 fun s1 f1 z1 a1 a2 a3 a4 => ne7 fun s2 f2 z2 o1 o2 o3 o4 o5 o6 o7 => nz2 zc_27 fun s3 f3 z3 q1 q2 => nz1 zc_34 fun s4 f4 z4 q3 => ?_
  have hz1 : s1.size = s.size + 1 := z1
  have hz2 : s2.size = s1.size + 1 := z2
  have hz3 : s3.size = s2.size + 1 := z3
  have hz4 : s4.size = s3.size + 1 := z4
  (repeat ((with_reducible first | apply RDI_c | apply RDL_c | apply RDB_c | apply RDP_c | apply RDM_c | apply RDS_c | apply RDV_c); focus ((repeat (first | assumption | exact Own.cell (by assumption) | apply Ext.cell (by assumption))); done)))
  have e4 : Ext s s4 := ((f1.trans f2).trans f3).trans f4
  refine ev_checked (g := g) (m := m) (r := r) hr hg hf (hp.ext e4) hk hm hcl h1 h2 hq0 hq1 fun s5 B bt f5 hb hne pl => ?_
  try simp only [nd_]
  refine ANDS_i ⟨_, (f5.own (f4.own (f3.own (f2.own a1)))).cell, ⟨_, (f5.own (f4.own (f3.own (f2.own a2)))).cell, ⟨_, (f5.own (f4.own (f3.own (f2.own a3)))).cell, ⟨_, (f5.own (f4.own (f3.own (f2.own a4)))).cell, rfl⟩⟩⟩⟩ ?_
  have hne : B ≠ bt := hne
  refine ev_peven (r := r) (m := m) (cls := cls) (q := q) (bt := bt) pl hne hcls hr hq0 hq1 hm fun s6 k6 => ?_
  try simp only [nd_]
  refine ev_span (a := (m.1 + (giftP r cls + q * r.hard), m.2 + (giftP r cls + q * r.hard))) fun s7 f7 => ?_
  try simp only [nd_]
  have n2 : ¬ s2.size = bt := by omega
  have n3 : ¬ s3.size = bt := by omega
  refine outk2 (f7.own (k6.own n2 (f5.own (f4.own q1)))) (f7.own (k6.own n2 (f5.own (f4.own q2)))) rfl rfl fun s8 k8 p1 p2 => ?_
  have n32 : ¬ s3.size = s2.size := by omega
  refine outk1 (k8.own n32 (f7.own (k6.own n3 (f5.own q3)))) rfl fun s9 k9 p3 => ?_
  refine ev_even ?_
  have n23 : ¬ s2.size = s3.size := by omega
  refine ⟨_, (k9.own n23 p1).cell, ⟨_, (k9.own n23 p2).cell, ⟨_, p3.cell, ?_⟩⟩⟩
  have e6 : Ext s s6 := ext_kp (e4.trans f5) (by omega) k6
  exact h s9 (ext_kp (ext_kp (e6.trans f7) (by omega) k8) (by omega) k9)
end
open Go.V
def an_11 : Nat → Ann := fun b => match b with
 | 0 => { ms := [25], ks := [.i .i64], us := [5, 6, 7, 8, 9, 24, 50], rt := false, ex := [] }
 | 2 => { ms := [], ks := [.i .i64, .i .i64], us := [], rt := false, ex := [] }
 | _ => {}
abbrev rv_11 : List ResultVar := [.cell 6 27, .cell 7 34]
abbrev rs_11 : List Nat := [50, 6, 7]
def L_team_Left_0 (W : World) (R : Ending → Hp → Prop) (za0 : Addr) (za1 : Addr) (za2 : Addr) (zp3 : Option Addr) (za4 : Addr) (zn5 zn6 zn7 zn8 : Int) (zv9 : Value) (zn10 zn11 zn12 zn13 : Int) (zv14 : Value) (n113 : Int) : Hp → Prop :=
 LOOPN [.i .i64] (fun ys next s => ∀ j : Tm, vc Pg W 50 rs_11 an_11 false (sub (bodyOf Tryz.f11) [1, 1, 1, 1, 0, 1, 0, 0]) 0 (KLoop [25] [5, 6, 7, 8, 9, 24, 50] [(.pointer (some za0)), (.pointer (some za1)), (.pointer (some za2)), (.pointer zp3), (.pointer (some za4)), (.agg #[(.int .i64 zn5), (.int .i64 zn6), (.int .i64 zn7), (.int .i64 zn8), zv9, (.int .i64 zn10), (.int .i64 zn11), (.int .i64 zn12), (.int .i64 zn13), zv14]), (.tuple #[(.func (.func 27) #[] #[(.pointer (some za2))]), (.tuple #[])])] next (KBlk 0 (KS Pg W 50 rs_11 an_11 false (sub (bodyOf Tryz.f11) [1, 1, 1, 1, 1]) 0 (fin Pg W 50 rv_11 R)))) (known [25] ys (known [5, 6, 7, 8, 9, 24, 50] [(.pointer (some za0)), (.pointer (some za1)), (.pointer (some za2)), (.pointer zp3), (.pointer (some za4)), (.agg #[(.int .i64 zn5), (.int .i64 zn6), (.int .i64 zn7), (.int .i64 zn8), zv9, (.int .i64 zn10), (.int .i64 zn11), (.int .i64 zn12), (.int .i64 zn13), zv14]), (.tuple #[(.func (.func 27) #[] #[(.pointer (some za2))]), (.tuple #[])])] j)) s) [(.int .i64 n113)]
def B_team_Left_0 (W : World) (R : Ending → Hp → Prop) (za0 : Addr) (za1 : Addr) (za2 : Addr) (zp3 : Option Addr) (za4 : Addr) (zn5 zn6 zn7 zn8 : Int) (zv9 : Value) (zn10 zn11 zn12 zn13 : Int) (zv14 : Value) (n113 : Int) (nx0 : List Value → Hp → Prop) : Hp → Prop :=
 BR (decide (n113 < 2))
 (IXH [(.int .i64 zn5), (.int .i64 zn6), (.int .i64 zn7), (.int .i64 zn8), zv9, (.int .i64 zn10), (.int .i64 zn11), (.int .i64 zn12), (.int .i64 zn13), zv14] 2 5 n113 fun v114 =>
 AGG v114 fun q115 => HD q115 fun v116 r117 => TYC .i64 v116 fun n118 =>
 HD r117 fun v119 r120 => TYC .i64 v119 fun n121 =>
 HD r120 fun v122 r123 => TYC .i64 v122 fun n124 =>
 HD r123 fun v125 r126 => TYC .i64 v125 fun n127 =>
 HD r126 fun v128 r129 => NL r129 <|
 NEWZ Pg 3 fun B130 =>
 NEWZ Pg 79 fun B131 =>
 WR (Addr.add ⟨B130, 0, none⟩ 0) (.int .i64 n113) <|
 WR (Addr.add ⟨B131, 0, none⟩ 0) (.int .i64 n118) <|
 WR (Addr.add ⟨B131, 0, none⟩ 1) (.int .i64 n121) <|
 WR (Addr.add ⟨B131, 0, none⟩ 2) (.int .i64 n124) <|
 WR (Addr.add ⟨B131, 0, none⟩ 3) (.int .i64 n127) <|
 WR (Addr.add ⟨B131, 0, none⟩ 4) v128 <|
 RDI .i64 ⟨B130, 0, none⟩ fun n132 =>
 RDI .i64 (Addr.add ⟨B131, 0, none⟩ 0) fun n133 =>
 IXA za4 2 n132 1 fun a134 =>
 WR (Addr.add a134 0) (.int .i64 n133) <|
 RDI .i64 (Addr.add ⟨B131, 0, none⟩ 0) fun n135 =>
 RDI .i64 (Addr.add ⟨B131, 0, none⟩ 1) fun n136 =>
 RDI .i64 (Addr.add ⟨B131, 0, none⟩ 2) fun n137 =>
 RDI .i64 (Addr.add ⟨B131, 0, none⟩ 3) fun n138 =>
 RDV (Addr.add ⟨B131, 0, none⟩ 4) fun v139 =>
 CALL Pg W F_team_plot_behind [(.pointer zp3), (.agg #[(.int .i64 n135), (.int .i64 n136), (.int .i64 n137), (.int .i64 n138), v139])]
 (fun v140 => RNGN Pg W v140 2
 (fun y142 fin143 => HD y142 fun v144 r145 => TYI .i64 v144 fun n146 =>
 HD r145 fun v147 r148 => TYI .i64 v147 fun n149 =>
 NL r148 <|
 RDI .i64 za0 fun n150 =>
 BR (decide (n146 < n150))
 (RDI .i64 ⟨B130, 0, none⟩ fun n151 =>
 IXA za4 2 n151 1 fun a152 =>
 WR (Addr.add a152 0) (.int .i64 n149) <|
 fin143 none)
 (fin143 none))
 (AFT
 (NX [(.pointer (some za0)), (.pointer (some za1)), (.pointer (some za2)), (.pointer zp3), (.pointer (some za4)), (.agg #[(.int .i64 zn5), (.int .i64 zn6), (.int .i64 zn7), (.int .i64 zn8), zv9, (.int .i64 zn10), (.int .i64 zn11), (.int .i64 zn12), (.int .i64 zn13), zv14]), (.tuple #[(.func (.func 27) #[] #[(.pointer (some za2))]), (.tuple #[])])] [(.pointer (some za0)), (.pointer (some za1)), (.pointer (some za2)), (.pointer zp3), (.pointer (some za4)), (.agg #[(.int .i64 zn5), (.int .i64 zn6), (.int .i64 zn7), (.int .i64 zn8), zv9, (.int .i64 zn10), (.int .i64 zn11), (.int .i64 zn12), (.int .i64 zn13), zv14]), (.tuple #[(.func (.func 27) #[] #[(.pointer (some za2))]), (.tuple #[])])] (nx0 [(.int .i64 (IntKind.wrap .i64 (n113 + 1)))])) (FF) (EXL [] fun _ => FF)))
 (fun e141 => DEF Pg W (.tuple #[(.func (.func 27) #[] #[(.pointer (some za2))]), (.tuple #[])]) (some e141) (RDI .i64 (Addr.add za1 0) fun n153 =>
 RDI .i64 (Addr.add za1 1) fun n154 =>
 RDI .i64 za2 fun n155 =>
 R (.returned (.tuple #[(.agg #[(.int .i64 n153), (.int .i64 n154)]), (.int .i64 n155)])))))
 (IXA za4 2 0 1 fun a156 =>
 RDI .i64 a156 fun n157 =>
 IXA za4 2 1 1 fun a158 =>
 RDI .i64 a158 fun n159 =>
 WR (Addr.add za1 0) (.int .i64 n157) <|
 WR (Addr.add za1 1) (.int .i64 n159) <|
 WR (Addr.add za2 0) (.int .i64 0) <|
 DEF Pg W (.tuple #[(.func (.func 27) #[] #[(.pointer (some za2))]), (.tuple #[])]) none
 (RDI .i64 (Addr.add za1 0) fun n160 =>
 RDI .i64 (Addr.add za1 1) fun n161 =>
 RDI .i64 za2 fun n162 =>
 R (.returned (.tuple #[(.agg #[(.int .i64 n160), (.int .i64 n161)]), (.int .i64 n162)]))))
theorem B_team_Left_0_eq (W : World) (R : Ending → Hp → Prop) (za0 : Addr) (za1 : Addr) (za2 : Addr) (zp3 : Option Addr) (za4 : Addr) (zn5 zn6 zn7 zn8 : Int) (zv9 : Value) (zn10 zn11 zn12 zn13 : Int) (zv14 : Value) (n113 : Int) (nx0 : List Value → Hp → Prop) (j : Tm) : vc Pg W 50 rs_11 an_11 false (sub (bodyOf Tryz.f11) [1, 1, 1, 1, 0, 1, 0, 0]) 0 (KLoop [25] [5, 6, 7, 8, 9, 24, 50] [(.pointer (some za0)), (.pointer (some za1)), (.pointer (some za2)), (.pointer zp3), (.pointer (some za4)), (.agg #[(.int .i64 zn5), (.int .i64 zn6), (.int .i64 zn7), (.int .i64 zn8), zv9, (.int .i64 zn10), (.int .i64 zn11), (.int .i64 zn12), (.int .i64 zn13), zv14]), (.tuple #[(.func (.func 27) #[] #[(.pointer (some za2))]), (.tuple #[])])] nx0 (KBlk 0 (KS Pg W 50 rs_11 an_11 false (sub (bodyOf Tryz.f11) [1, 1, 1, 1, 1]) 0 (fin Pg W 50 rv_11 R)))) (known [25] [(.int .i64 n113)] (known [5, 6, 7, 8, 9, 24, 50] [(.pointer (some za0)), (.pointer (some za1)), (.pointer (some za2)), (.pointer zp3), (.pointer (some za4)), (.agg #[(.int .i64 zn5), (.int .i64 zn6), (.int .i64 zn7), (.int .i64 zn8), zv9, (.int .i64 zn10), (.int .i64 zn11), (.int .i64 zn12), (.int .i64 zn13), zv14]), (.tuple #[(.func (.func 27) #[] #[(.pointer (some za2))]), (.tuple #[])])] j)) = B_team_Left_0 W R za0 za1 za2 zp3 za4 zn5 zn6 zn7 zn8 zv9 zn10 zn11 zn12 zn13 zv14 n113 nx0 := by kernel_rfl
def N_team_Left_0 (I : Int → Hp → Prop) (μ : Int → Hp → Nat) (n1130 : Int) (s : Hp) (vs : List Value) : Hp → Prop := fun s' => ∃ n113, vs = [(.int .i64 n113)] ∧ I n113 s' ∧ μ n113 s' < μ n1130 s
theorem L_team_Left_0_rule (W : World) (R : Ending → Hp → Prop) (za0 : Addr) (za1 : Addr) (za2 : Addr) (zp3 : Option Addr) (za4 : Addr) (zn5 zn6 zn7 zn8 : Int) (zv9 : Value) (zn10 zn11 zn12 zn13 : Int) (zv14 : Value) (I : Int → Hp → Prop) (μ : Int → Hp → Nat) (n1130 : Int) (s : Hp) (h0 : I n1130 s)
    (hr : ∀ (n113 : Int) (s : Hp), I n113 s → B_team_Left_0 W R za0 za1 za2 zp3 za4 zn5 zn6 zn7 zn8 zv9 zn10 zn11 zn12 zn13 zv14 n113 (fun vs => N_team_Left_0 I μ n113 s vs) s) : L_team_Left_0 W R za0 za1 za2 zp3 za4 zn5 zn6 zn7 zn8 zv9 zn10 zn11 zn12 zn13 zv14 n1130 s := by
  refine ⟨fun vs s => ∃ n113, vs = [(.int .i64 n113)] ∧ I n113 s, fun vs s => (match vs with | [.int _ n113] => μ n113 s | _ => 0), ⟨⟨⟨_, rfl⟩, trivial⟩, ⟨_, rfl, h0⟩⟩, ?_⟩
  intro n113 s hI j
  obtain ⟨n113', hy, hI⟩ := hI
  have hI' : I n113 s := by cases hy; exact hI
  have hh := hr n113 s hI'
  rw [← B_team_Left_0_eq W R za0 za1 za2 zp3 za4 zn5 zn6 zn7 zn8 zv9 zn10 zn11 zn12 zn13 zv14 n113 _ j] at hh
  refine vc_mono ?_ _ _ hh
  exact KLoop_mono (fun vs s' h => by obtain ⟨n1131, rfl, h1, h2⟩ := h; exact ⟨⟨⟨_, rfl⟩, trivial⟩, ⟨_, rfl, h1⟩, h2⟩)
def T_team_Left (W : World) (n1 n2 n3 n4 n5 n6 n7 n8 n9 n10 : Int) (x11 : Option Addr) (l12 c13 : Nat) (x14 : Option Addr) (l15 c16 : Nat) (n17 : Int) (R : Ending → Hp → Prop) : Hp → Prop :=
 NEW 44 [(.int .i64 n1), (.int .i64 n2), (.int .i64 n3), (.int .i64 n4), (.int .i64 n5), (.int .i64 n6), (.int .i64 n7)] fun B18 =>
 NEW 49 [(.int .i64 n8), (.int .i64 n9), (.int .i64 n10), (.slice x11 l12 c13), (.slice x14 l15 c16)] fun B19 =>
 NEW 3 [(.int .i64 n17)] fun B20 =>
 NEWZ Pg 27 fun B21 =>
 NEWZ Pg 34 fun B22 =>
 RDI .i64 (Addr.add ⟨B18, 0, none⟩ 0) fun n23 =>
 RDI .i64 (Addr.add ⟨B18, 0, none⟩ 1) fun n24 =>
 RDI .i64 (Addr.add ⟨B18, 0, none⟩ 2) fun n25 =>
 RDI .i64 (Addr.add ⟨B18, 0, none⟩ 3) fun n26 =>
 RDI .i64 (Addr.add ⟨B18, 0, none⟩ 4) fun n27 =>
 RDI .i64 (Addr.add ⟨B18, 0, none⟩ 5) fun n28 =>
 RDI .i64 (Addr.add ⟨B18, 0, none⟩ 6) fun n29 =>
 RDI .i64 (Addr.add ⟨B19, 0, none⟩ 0) fun n30 =>
 RDI .i64 (Addr.add ⟨B19, 0, none⟩ 1) fun n31 =>
 RDI .i64 (Addr.add ⟨B19, 0, none⟩ 2) fun n32 =>
 RDL (Addr.add ⟨B19, 0, none⟩ 3) fun x33 l34 c35 =>
 RDL (Addr.add ⟨B19, 0, none⟩ 4) fun x36 l37 c38 =>
 RDI .i64 ⟨B20, 0, none⟩ fun n39 =>
 RDL (Addr.add ⟨B19, 0, none⟩ 4) fun x40 l41 c42 =>
 CALL Pg W F_team_within [(.int .i64 n39), (.int .i64 0), (.int .i64 (↑l41 : Int))]
 (fun v43 => TYB v43 fun b45 =>
 ANDS (RDI .i64 (Addr.add ⟨B19, 0, none⟩ 0) fun n46 =>
 RDI .i64 (Addr.add ⟨B19, 0, none⟩ 1) fun n47 =>
 RDI .i64 (Addr.add ⟨B19, 0, none⟩ 2) fun n48 =>
 RDL (Addr.add ⟨B19, 0, none⟩ 3) fun x49 l50 c51 =>
 RDL (Addr.add ⟨B19, 0, none⟩ 4) fun x52 l53 c54 =>
 fun _ => ((.agg #[(.int .i64 n46), (.int .i64 n47), (.int .i64 n48), (.slice x49 l50 c51), (.slice x52 l53 c54)]) : Value) = (.agg #[(.int .i64 n30), (.int .i64 n31), (.int .i64 n32), (.slice x33 l34 c35), (.slice x36 l37 c38)])) <|
 ANDS (RDI .i64 (Addr.add ⟨B18, 0, none⟩ 0) fun n55 =>
 RDI .i64 (Addr.add ⟨B18, 0, none⟩ 1) fun n56 =>
 RDI .i64 (Addr.add ⟨B18, 0, none⟩ 2) fun n57 =>
 RDI .i64 (Addr.add ⟨B18, 0, none⟩ 3) fun n58 =>
 RDI .i64 (Addr.add ⟨B18, 0, none⟩ 4) fun n59 =>
 RDI .i64 (Addr.add ⟨B18, 0, none⟩ 5) fun n60 =>
 RDI .i64 (Addr.add ⟨B18, 0, none⟩ 6) fun n61 =>
 fun _ => ((.agg #[(.int .i64 n55), (.int .i64 n56), (.int .i64 n57), (.int .i64 n58), (.int .i64 n59), (.int .i64 n60), (.int .i64 n61)]) : Value) = (.agg #[(.int .i64 n23), (.int .i64 n24), (.int .i64 n25), (.int .i64 n26), (.int .i64 n27), (.int .i64 n28), (.int .i64 n29)])) <|
 CALL Pg W F_team_open [(.agg #[(.int .i64 n23), (.int .i64 n24), (.int .i64 n25), (.int .i64 n26), (.int .i64 n27), (.int .i64 n28), (.int .i64 n29)]), (.agg #[(.int .i64 n30), (.int .i64 n31), (.int .i64 n32), (.slice x33 l34 c35), (.slice x36 l37 c38)]), (.bool b45)]
 (fun v62 => TYP v62 fun p64 =>
 NEWZ Pg 76 fun B65 =>
 RDI .i64 (Addr.add ⟨B18, 0, none⟩ 0) fun n66 =>
 RDI .i64 (Addr.add ⟨B18, 0, none⟩ 1) fun n67 =>
 RDI .i64 (Addr.add ⟨B18, 0, none⟩ 2) fun n68 =>
 RDI .i64 (Addr.add ⟨B18, 0, none⟩ 3) fun n69 =>
 RDI .i64 (Addr.add ⟨B18, 0, none⟩ 4) fun n70 =>
 RDI .i64 (Addr.add ⟨B18, 0, none⟩ 5) fun n71 =>
 RDI .i64 (Addr.add ⟨B18, 0, none⟩ 6) fun n72 =>
 CALL Pg W F_team_casesOf [(.agg #[(.int .i64 n66), (.int .i64 n67), (.int .i64 n68), (.int .i64 n69), (.int .i64 n70), (.int .i64 n71), (.int .i64 n72)])]
 (fun v73 => AGG v73 fun q75 => HD q75 fun v76 r77 => TYI .i64 v76 fun n78 =>
 HD r77 fun v79 r80 => TYI .i64 v79 fun n81 =>
 HD r80 fun v82 r83 => TYI .i64 v82 fun n84 =>
 HD r83 fun v85 r86 => TYI .i64 v85 fun n87 =>
 HD r86 fun v88 r89 => HD r89 fun v90 r91 => TYI .i64 v90 fun n92 =>
 HD r91 fun v93 r94 => TYI .i64 v93 fun n95 =>
 HD r94 fun v96 r97 => TYI .i64 v96 fun n98 =>
 HD r97 fun v99 r100 => TYI .i64 v99 fun n101 =>
 HD r100 fun v102 r103 => NL r103 <|
 L_team_Left_0 W R ⟨B20, 0, none⟩ ⟨B21, 0, none⟩ ⟨B22, 0, none⟩ p64 ⟨B65, 0, none⟩ n78 n81 n84 n87 v88 n92 n95 n98 n101 v102 0)
 (fun e74 => DEF Pg W (.tuple #[(.func (.func 27) #[] #[(.pointer (some ⟨B22, 0, none⟩))]), (.tuple #[])]) (some e74) (RDI .i64 (Addr.add ⟨B21, 0, none⟩ 0) fun n104 =>
 RDI .i64 (Addr.add ⟨B21, 0, none⟩ 1) fun n105 =>
 RDI .i64 ⟨B22, 0, none⟩ fun n106 =>
 R (.returned (.tuple #[(.agg #[(.int .i64 n104), (.int .i64 n105)]), (.int .i64 n106)])))))
 (fun e63 => DEF Pg W (.tuple #[(.func (.func 27) #[] #[(.pointer (some ⟨B22, 0, none⟩))]), (.tuple #[])]) (some e63) (RDI .i64 (Addr.add ⟨B21, 0, none⟩ 0) fun n107 =>
 RDI .i64 (Addr.add ⟨B21, 0, none⟩ 1) fun n108 =>
 RDI .i64 ⟨B22, 0, none⟩ fun n109 =>
 R (.returned (.tuple #[(.agg #[(.int .i64 n107), (.int .i64 n108)]), (.int .i64 n109)])))))
 (fun e44 => DEF Pg W (.tuple #[(.func (.func 27) #[] #[(.pointer (some ⟨B22, 0, none⟩))]), (.tuple #[])]) (some e44) (RDI .i64 (Addr.add ⟨B21, 0, none⟩ 0) fun n110 =>
 RDI .i64 (Addr.add ⟨B21, 0, none⟩ 1) fun n111 =>
 RDI .i64 ⟨B22, 0, none⟩ fun n112 =>
 R (.returned (.tuple #[(.agg #[(.int .i64 n110), (.int .i64 n111)]), (.int .i64 n112)]))))
theorem does_team_Left (W : World) (n1 n2 n3 n4 n5 n6 n7 n8 n9 n10 : Int) (x11 : Option Addr) (l12 c13 : Nat) (x14 : Option Addr) (l15 c16 : Nat) (n17 : Int) (R : Ending → Hp → Prop) (s : Hp) (h : T_team_Left W n1 n2 n3 n4 n5 n6 n7 n8 n9 n10 x11 l12 c13 x14 l15 c16 n17 R s) : Does Pg W F_team_Left #[(.agg #[(.int .i64 n1), (.int .i64 n2), (.int .i64 n3), (.int .i64 n4), (.int .i64 n5), (.int .i64 n6), (.int .i64 n7)]), (.agg #[(.int .i64 n8), (.int .i64 n9), (.int .i64 n10), (.slice x11 l12 c13), (.slice x14 l15 c16)]), (.int .i64 n17)] s R :=
  does_of_vfun Pg W an_11 Tryz.func11 rfl (by kernel_rfl) (Eq.mpr (by kernel_rfl) h)
def an_12 : Nat → Ann := fun b => match b with
 | 0 => { ms := [17], ks := [.i .i64], us := [4, 5, 6, 7, 16, 37], rt := false, ex := [] }
 | _ => {}
abbrev rv_12 : List ResultVar := [.tmp 4, .cell 5 34]
abbrev rs_12 : List Nat := [37, 4, 5]
def L_team_Comes_0 (W : World) (R : Ending → Hp → Prop) (za0 : Addr) (zp1 : Option Addr) (za2 : Addr) (zn3 zn4 zn5 zn6 : Int) (zv7 : Value) (zn8 zn9 zn10 zn11 : Int) (zv12 : Value) (n80 : Int) : Hp → Prop :=
 LOOPN [.i .i64] (fun ys next s => ∀ j : Tm, vc Pg W 37 rs_12 an_12 false (sub (bodyOf Tryz.f12) [1, 1, 1, 1, 0, 1, 0, 0]) 0 (KLoop [17] [4, 5, 6, 7, 16, 37] [(.int .i64 0), (.pointer (some za0)), (.pointer zp1), (.pointer (some za2)), (.agg #[(.int .i64 zn3), (.int .i64 zn4), (.int .i64 zn5), (.int .i64 zn6), zv7, (.int .i64 zn8), (.int .i64 zn9), (.int .i64 zn10), (.int .i64 zn11), zv12]), (.tuple #[(.func (.func 33) #[] #[(.pointer (some za0))]), (.tuple #[])])] next (KBlk 0 (KS Pg W 37 rs_12 an_12 false (sub (bodyOf Tryz.f12) [1, 1, 1, 1, 1]) 0 (fin Pg W 37 rv_12 R)))) (known [17] ys (known [4, 5, 6, 7, 16, 37] [(.int .i64 0), (.pointer (some za0)), (.pointer zp1), (.pointer (some za2)), (.agg #[(.int .i64 zn3), (.int .i64 zn4), (.int .i64 zn5), (.int .i64 zn6), zv7, (.int .i64 zn8), (.int .i64 zn9), (.int .i64 zn10), (.int .i64 zn11), zv12]), (.tuple #[(.func (.func 33) #[] #[(.pointer (some za0))]), (.tuple #[])])] j)) s) [(.int .i64 n80)]
def B_team_Comes_0 (W : World) (R : Ending → Hp → Prop) (za0 : Addr) (zp1 : Option Addr) (za2 : Addr) (zn3 zn4 zn5 zn6 : Int) (zv7 : Value) (zn8 zn9 zn10 zn11 : Int) (zv12 : Value) (n80 : Int) (nx0 : List Value → Hp → Prop) : Hp → Prop :=
 BR (decide (n80 < 2))
 (IXH [(.int .i64 zn3), (.int .i64 zn4), (.int .i64 zn5), (.int .i64 zn6), zv7, (.int .i64 zn8), (.int .i64 zn9), (.int .i64 zn10), (.int .i64 zn11), zv12] 2 5 n80 fun v81 =>
 AGG v81 fun q82 => HD q82 fun v83 r84 => TYC .i64 v83 fun n85 =>
 HD r84 fun v86 r87 => TYC .i64 v86 fun n88 =>
 HD r87 fun v89 r90 => TYC .i64 v89 fun n91 =>
 HD r90 fun v92 r93 => TYC .i64 v92 fun n94 =>
 HD r93 fun v95 r96 => NL r96 <|
 NEWZ Pg 79 fun B97 =>
 WR (Addr.add ⟨B97, 0, none⟩ 0) (.int .i64 n85) <|
 WR (Addr.add ⟨B97, 0, none⟩ 1) (.int .i64 n88) <|
 WR (Addr.add ⟨B97, 0, none⟩ 2) (.int .i64 n91) <|
 WR (Addr.add ⟨B97, 0, none⟩ 3) (.int .i64 n94) <|
 WR (Addr.add ⟨B97, 0, none⟩ 4) v95 <|
 RDI .i64 (Addr.add ⟨B97, 0, none⟩ 0) fun n98 =>
 RDI .i64 (Addr.add ⟨B97, 0, none⟩ 1) fun n99 =>
 RDI .i64 (Addr.add ⟨B97, 0, none⟩ 2) fun n100 =>
 RDI .i64 (Addr.add ⟨B97, 0, none⟩ 3) fun n101 =>
 RDV (Addr.add ⟨B97, 0, none⟩ 4) fun v102 =>
 CALL Pg W F_team_plot_failed [(.pointer zp1), (.agg #[(.int .i64 n98), (.int .i64 n99), (.int .i64 n100), (.int .i64 n101), v102])]
 (fun v103 => TUP v103 fun q105 => HD q105 fun v106 r107 => TYI .i64 v106 fun n108 =>
 HD r107 fun v109 r110 => TYB v109 fun b111 =>
 NL r110 <|
 IXA za2 2 n80 1 fun a112 =>
 WR (Addr.add a112 0) (.bool b111) <|
 NX [(.int .i64 0), (.pointer (some za0)), (.pointer zp1), (.pointer (some za2)), (.agg #[(.int .i64 zn3), (.int .i64 zn4), (.int .i64 zn5), (.int .i64 zn6), zv7, (.int .i64 zn8), (.int .i64 zn9), (.int .i64 zn10), (.int .i64 zn11), zv12]), (.tuple #[(.func (.func 33) #[] #[(.pointer (some za0))]), (.tuple #[])])] [(.int .i64 0), (.pointer (some za0)), (.pointer zp1), (.pointer (some za2)), (.agg #[(.int .i64 zn3), (.int .i64 zn4), (.int .i64 zn5), (.int .i64 zn6), zv7, (.int .i64 zn8), (.int .i64 zn9), (.int .i64 zn10), (.int .i64 zn11), zv12]), (.tuple #[(.func (.func 33) #[] #[(.pointer (some za0))]), (.tuple #[])])] (nx0 [(.int .i64 (IntKind.wrap .i64 (n80 + 1)))]))
 (fun e104 => DEF Pg W (.tuple #[(.func (.func 33) #[] #[(.pointer (some za0))]), (.tuple #[])]) (some e104) (RDI .i64 za0 fun n113 =>
 R (.returned (.tuple #[(.int .i64 0), (.int .i64 n113)])))))
 (RDB (Addr.add za2 0) fun b114 =>
 RDB (Addr.add za2 1) fun b115 =>
 BR ((b114 == false) && (b115 == false))
 (WR (Addr.add za0 0) (.int .i64 0) <|
 DEF Pg W (.tuple #[(.func (.func 33) #[] #[(.pointer (some za0))]), (.tuple #[])]) none
 (RDI .i64 za0 fun n116 =>
 R (.returned (.tuple #[(.int .i64 2), (.int .i64 n116)]))))
 (BR ((b114 == true) && (b115 == true))
 (WR (Addr.add za0 0) (.int .i64 0) <|
 DEF Pg W (.tuple #[(.func (.func 33) #[] #[(.pointer (some za0))]), (.tuple #[])]) none
 (RDI .i64 za0 fun n117 =>
 R (.returned (.tuple #[(.int .i64 0), (.int .i64 n117)]))))
 (WR (Addr.add za0 0) (.int .i64 0) <|
 DEF Pg W (.tuple #[(.func (.func 33) #[] #[(.pointer (some za0))]), (.tuple #[])]) none
 (RDI .i64 za0 fun n118 =>
 R (.returned (.tuple #[(.int .i64 1), (.int .i64 n118)]))))))
theorem B_team_Comes_0_eq (W : World) (R : Ending → Hp → Prop) (za0 : Addr) (zp1 : Option Addr) (za2 : Addr) (zn3 zn4 zn5 zn6 : Int) (zv7 : Value) (zn8 zn9 zn10 zn11 : Int) (zv12 : Value) (n80 : Int) (nx0 : List Value → Hp → Prop) (j : Tm) : vc Pg W 37 rs_12 an_12 false (sub (bodyOf Tryz.f12) [1, 1, 1, 1, 0, 1, 0, 0]) 0 (KLoop [17] [4, 5, 6, 7, 16, 37] [(.int .i64 0), (.pointer (some za0)), (.pointer zp1), (.pointer (some za2)), (.agg #[(.int .i64 zn3), (.int .i64 zn4), (.int .i64 zn5), (.int .i64 zn6), zv7, (.int .i64 zn8), (.int .i64 zn9), (.int .i64 zn10), (.int .i64 zn11), zv12]), (.tuple #[(.func (.func 33) #[] #[(.pointer (some za0))]), (.tuple #[])])] nx0 (KBlk 0 (KS Pg W 37 rs_12 an_12 false (sub (bodyOf Tryz.f12) [1, 1, 1, 1, 1]) 0 (fin Pg W 37 rv_12 R)))) (known [17] [(.int .i64 n80)] (known [4, 5, 6, 7, 16, 37] [(.int .i64 0), (.pointer (some za0)), (.pointer zp1), (.pointer (some za2)), (.agg #[(.int .i64 zn3), (.int .i64 zn4), (.int .i64 zn5), (.int .i64 zn6), zv7, (.int .i64 zn8), (.int .i64 zn9), (.int .i64 zn10), (.int .i64 zn11), zv12]), (.tuple #[(.func (.func 33) #[] #[(.pointer (some za0))]), (.tuple #[])])] j)) = B_team_Comes_0 W R za0 zp1 za2 zn3 zn4 zn5 zn6 zv7 zn8 zn9 zn10 zn11 zv12 n80 nx0 := by kernel_rfl
def N_team_Comes_0 (I : Int → Hp → Prop) (μ : Int → Hp → Nat) (n800 : Int) (s : Hp) (vs : List Value) : Hp → Prop := fun s' => ∃ n80, vs = [(.int .i64 n80)] ∧ I n80 s' ∧ μ n80 s' < μ n800 s
theorem L_team_Comes_0_rule (W : World) (R : Ending → Hp → Prop) (za0 : Addr) (zp1 : Option Addr) (za2 : Addr) (zn3 zn4 zn5 zn6 : Int) (zv7 : Value) (zn8 zn9 zn10 zn11 : Int) (zv12 : Value) (I : Int → Hp → Prop) (μ : Int → Hp → Nat) (n800 : Int) (s : Hp) (h0 : I n800 s)
    (hr : ∀ (n80 : Int) (s : Hp), I n80 s → B_team_Comes_0 W R za0 zp1 za2 zn3 zn4 zn5 zn6 zv7 zn8 zn9 zn10 zn11 zv12 n80 (fun vs => N_team_Comes_0 I μ n80 s vs) s) : L_team_Comes_0 W R za0 zp1 za2 zn3 zn4 zn5 zn6 zv7 zn8 zn9 zn10 zn11 zv12 n800 s := by
  refine ⟨fun vs s => ∃ n80, vs = [(.int .i64 n80)] ∧ I n80 s, fun vs s => (match vs with | [.int _ n80] => μ n80 s | _ => 0), ⟨⟨⟨_, rfl⟩, trivial⟩, ⟨_, rfl, h0⟩⟩, ?_⟩
  intro n80 s hI j
  obtain ⟨n80', hy, hI⟩ := hI
  have hI' : I n80 s := by cases hy; exact hI
  have hh := hr n80 s hI'
  rw [← B_team_Comes_0_eq W R za0 zp1 za2 zn3 zn4 zn5 zn6 zv7 zn8 zn9 zn10 zn11 zv12 n80 _ j] at hh
  refine vc_mono ?_ _ _ hh
  exact KLoop_mono (fun vs s' h => by obtain ⟨n801, rfl, h1, h2⟩ := h; exact ⟨⟨⟨_, rfl⟩, trivial⟩, ⟨_, rfl, h1⟩, h2⟩)
def T_team_Comes (W : World) (n1 n2 n3 n4 n5 n6 n7 n8 n9 n10 : Int) (x11 : Option Addr) (l12 c13 : Nat) (x14 : Option Addr) (l15 c16 : Nat) (R : Ending → Hp → Prop) : Hp → Prop :=
 NEW 44 [(.int .i64 n1), (.int .i64 n2), (.int .i64 n3), (.int .i64 n4), (.int .i64 n5), (.int .i64 n6), (.int .i64 n7)] fun B17 =>
 NEW 49 [(.int .i64 n8), (.int .i64 n9), (.int .i64 n10), (.slice x11 l12 c13), (.slice x14 l15 c16)] fun B18 =>
 NEWZ Pg 34 fun B19 =>
 RDI .i64 (Addr.add ⟨B17, 0, none⟩ 0) fun n20 =>
 RDI .i64 (Addr.add ⟨B17, 0, none⟩ 1) fun n21 =>
 RDI .i64 (Addr.add ⟨B17, 0, none⟩ 2) fun n22 =>
 RDI .i64 (Addr.add ⟨B17, 0, none⟩ 3) fun n23 =>
 RDI .i64 (Addr.add ⟨B17, 0, none⟩ 4) fun n24 =>
 RDI .i64 (Addr.add ⟨B17, 0, none⟩ 5) fun n25 =>
 RDI .i64 (Addr.add ⟨B17, 0, none⟩ 6) fun n26 =>
 RDI .i64 (Addr.add ⟨B18, 0, none⟩ 0) fun n27 =>
 RDI .i64 (Addr.add ⟨B18, 0, none⟩ 1) fun n28 =>
 RDI .i64 (Addr.add ⟨B18, 0, none⟩ 2) fun n29 =>
 RDL (Addr.add ⟨B18, 0, none⟩ 3) fun x30 l31 c32 =>
 RDL (Addr.add ⟨B18, 0, none⟩ 4) fun x33 l34 c35 =>
 CALL Pg W F_team_open [(.agg #[(.int .i64 n20), (.int .i64 n21), (.int .i64 n22), (.int .i64 n23), (.int .i64 n24), (.int .i64 n25), (.int .i64 n26)]), (.agg #[(.int .i64 n27), (.int .i64 n28), (.int .i64 n29), (.slice x30 l31 c32), (.slice x33 l34 c35)]), (.bool true)]
 (fun v36 => TYP v36 fun p38 =>
 NEWZ Pg 85 fun B39 =>
 WR (Addr.add ⟨B39, 0, none⟩ 0) (.bool false) <|
 WR (Addr.add ⟨B39, 0, none⟩ 1) (.bool false) <|
 RDI .i64 (Addr.add ⟨B17, 0, none⟩ 0) fun n40 =>
 RDI .i64 (Addr.add ⟨B17, 0, none⟩ 1) fun n41 =>
 RDI .i64 (Addr.add ⟨B17, 0, none⟩ 2) fun n42 =>
 RDI .i64 (Addr.add ⟨B17, 0, none⟩ 3) fun n43 =>
 RDI .i64 (Addr.add ⟨B17, 0, none⟩ 4) fun n44 =>
 RDI .i64 (Addr.add ⟨B17, 0, none⟩ 5) fun n45 =>
 RDI .i64 (Addr.add ⟨B17, 0, none⟩ 6) fun n46 =>
 CALL Pg W F_team_casesOf [(.agg #[(.int .i64 n40), (.int .i64 n41), (.int .i64 n42), (.int .i64 n43), (.int .i64 n44), (.int .i64 n45), (.int .i64 n46)])]
 (fun v47 => AGG v47 fun q49 => HD q49 fun v50 r51 => TYI .i64 v50 fun n52 =>
 HD r51 fun v53 r54 => TYI .i64 v53 fun n55 =>
 HD r54 fun v56 r57 => TYI .i64 v56 fun n58 =>
 HD r57 fun v59 r60 => TYI .i64 v59 fun n61 =>
 HD r60 fun v62 r63 => HD r63 fun v64 r65 => TYI .i64 v64 fun n66 =>
 HD r65 fun v67 r68 => TYI .i64 v67 fun n69 =>
 HD r68 fun v70 r71 => TYI .i64 v70 fun n72 =>
 HD r71 fun v73 r74 => TYI .i64 v73 fun n75 =>
 HD r74 fun v76 r77 => NL r77 <|
 L_team_Comes_0 W R ⟨B19, 0, none⟩ p38 ⟨B39, 0, none⟩ n52 n55 n58 n61 v62 n66 n69 n72 n75 v76 0)
 (fun e48 => DEF Pg W (.tuple #[(.func (.func 33) #[] #[(.pointer (some ⟨B19, 0, none⟩))]), (.tuple #[])]) (some e48) (RDI .i64 ⟨B19, 0, none⟩ fun n78 =>
 R (.returned (.tuple #[(.int .i64 0), (.int .i64 n78)])))))
 (fun e37 => DEF Pg W (.tuple #[(.func (.func 33) #[] #[(.pointer (some ⟨B19, 0, none⟩))]), (.tuple #[])]) (some e37) (RDI .i64 ⟨B19, 0, none⟩ fun n79 =>
 R (.returned (.tuple #[(.int .i64 0), (.int .i64 n79)]))))
theorem does_team_Comes (W : World) (n1 n2 n3 n4 n5 n6 n7 n8 n9 n10 : Int) (x11 : Option Addr) (l12 c13 : Nat) (x14 : Option Addr) (l15 c16 : Nat) (R : Ending → Hp → Prop) (s : Hp) (h : T_team_Comes W n1 n2 n3 n4 n5 n6 n7 n8 n9 n10 x11 l12 c13 x14 l15 c16 R s) : Does Pg W F_team_Comes #[(.agg #[(.int .i64 n1), (.int .i64 n2), (.int .i64 n3), (.int .i64 n4), (.int .i64 n5), (.int .i64 n6), (.int .i64 n7)]), (.agg #[(.int .i64 n8), (.int .i64 n9), (.int .i64 n10), (.slice x11 l12 c13), (.slice x14 l15 c16)])] s R :=
  does_of_vfun Pg W an_12 Tryz.func12 rfl (by kernel_rfl) (Eq.mpr (by kernel_rfl) h)
def an_29 : Nat → Ann := fun b => match b with
 | _ => {}
def J_team_open_0 (W : World) (R : Ending → Hp → Prop) (b42 b17 : Bool) (B19 : Nat) : Hp → Prop :=
 CALL Pg W F_team_need [(.bool b42), (.int .i64 1)]
 (fun v43 => TUP v43 fun q45 => NL q45 <|
 CALL Pg W F_team_need [(.bool b17), (.int .i64 2)]
 (fun v46 => TUP v46 fun q48 => NL q48 <|
 RDI .i64 (Addr.add ⟨B19, 0, none⟩ 0) fun n49 =>
 RDI .i64 (Addr.add ⟨B19, 0, none⟩ 1) fun n50 =>
 RDI .i64 (Addr.add ⟨B19, 0, none⟩ 2) fun n51 =>
 RDL (Addr.add ⟨B19, 0, none⟩ 3) fun x52 l53 c54 =>
 RDL (Addr.add ⟨B19, 0, none⟩ 4) fun x55 l56 c57 =>
 CALL Pg W F_team_look [(.agg #[(.int .i64 n49), (.int .i64 n50), (.int .i64 n51), (.slice x52 l53 c54), (.slice x55 l56 c57)])]
 (fun v58 => TYP v58 fun p60 =>
 R (.returned (.pointer p60)))
 (fun e59 => R (.panicked e59)))
 (fun e47 => R (.panicked e47)))
 (fun e44 => R (.panicked e44))
def T_team_open (W : World) (n1 n2 n3 n4 n5 n6 n7 n8 n9 n10 : Int) (x11 : Option Addr) (l12 c13 : Nat) (x14 : Option Addr) (l15 c16 : Nat) (b17 : Bool) (R : Ending → Hp → Prop) : Hp → Prop :=
 NEW 44 [(.int .i64 n1), (.int .i64 n2), (.int .i64 n3), (.int .i64 n4), (.int .i64 n5), (.int .i64 n6), (.int .i64 n7)] fun B18 =>
 NEW 49 [(.int .i64 n8), (.int .i64 n9), (.int .i64 n10), (.slice x11 l12 c13), (.slice x14 l15 c16)] fun B19 =>
 RDI .i64 (Addr.add ⟨B18, 0, none⟩ 0) fun n20 =>
 RDI .i64 (Addr.add ⟨B18, 0, none⟩ 1) fun n21 =>
 RDI .i64 (Addr.add ⟨B18, 0, none⟩ 2) fun n22 =>
 RDI .i64 (Addr.add ⟨B18, 0, none⟩ 3) fun n23 =>
 RDI .i64 (Addr.add ⟨B18, 0, none⟩ 4) fun n24 =>
 RDI .i64 (Addr.add ⟨B18, 0, none⟩ 5) fun n25 =>
 RDI .i64 (Addr.add ⟨B18, 0, none⟩ 6) fun n26 =>
 CALL Pg W F_team_isTeam [(.agg #[(.int .i64 n20), (.int .i64 n21), (.int .i64 n22), (.int .i64 n23), (.int .i64 n24), (.int .i64 n25), (.int .i64 n26)])]
 (fun v27 => TYB v27 fun b29 =>
 BR b29
 (RDI .i64 (Addr.add ⟨B19, 0, none⟩ 0) fun n30 =>
 RDI .i64 (Addr.add ⟨B19, 0, none⟩ 1) fun n31 =>
 RDI .i64 (Addr.add ⟨B19, 0, none⟩ 2) fun n32 =>
 RDL (Addr.add ⟨B19, 0, none⟩ 3) fun x33 l34 c35 =>
 RDL (Addr.add ⟨B19, 0, none⟩ 4) fun x36 l37 c38 =>
 CALL Pg W F_team_isPlot [(.agg #[(.int .i64 n30), (.int .i64 n31), (.int .i64 n32), (.slice x33 l34 c35), (.slice x36 l37 c38)])]
 (fun v39 => TYB v39 fun b41 =>
 J_team_open_0 W R b41 b17 B19)
 (fun e40 => R (.panicked e40)))
 (J_team_open_0 W R false b17 B19))
 (fun e28 => R (.panicked e28))
theorem does_team_open (W : World) (n1 n2 n3 n4 n5 n6 n7 n8 n9 n10 : Int) (x11 : Option Addr) (l12 c13 : Nat) (x14 : Option Addr) (l15 c16 : Nat) (b17 : Bool) (R : Ending → Hp → Prop) (s : Hp) (h : T_team_open W n1 n2 n3 n4 n5 n6 n7 n8 n9 n10 x11 l12 c13 x14 l15 c16 b17 R s) : Does Pg W F_team_open #[(.agg #[(.int .i64 n1), (.int .i64 n2), (.int .i64 n3), (.int .i64 n4), (.int .i64 n5), (.int .i64 n6), (.int .i64 n7)]), (.agg #[(.int .i64 n8), (.int .i64 n9), (.int .i64 n10), (.slice x11 l12 c13), (.slice x14 l15 c16)]), (.bool b17)] s R :=
  does_of_vfun Pg W an_29 Tryz.func29 rfl (by kernel_rfl) (Eq.mpr (by kernel_rfl) h)
def an_30 : Nat → Ann := fun b => match b with
 | _ => {}
def T_team_within (W : World) (n1 n2 n3 : Int) (R : Ending → Hp → Prop) : Hp → Prop :=
 BR (decide (n2 ≤ n1))
 (R (.returned (.bool (decide (n1 ≤ n3)))))
 (R (.returned (.bool false)))
theorem does_team_within (W : World) (n1 n2 n3 : Int) (R : Ending → Hp → Prop) (s : Hp) (h : T_team_within W n1 n2 n3 R s) : Does Pg W F_team_within #[(.int .i64 n1), (.int .i64 n2), (.int .i64 n3)] s R :=
  does_of_vfun Pg W an_30 Tryz.func30 rfl (by kernel_rfl) (Eq.mpr (by kernel_rfl) h)
def an_31 : Nat → Ann := fun b => match b with
 | _ => {}
def T_team_casesOf (W : World) (n1 n2 n3 n4 n5 n6 n7 : Int) (R : Ending → Hp → Prop) : Hp → Prop :=
 NEW 44 [(.int .i64 n1), (.int .i64 n2), (.int .i64 n3), (.int .i64 n4), (.int .i64 n5), (.int .i64 n6), (.int .i64 n7)] fun B8 =>
 NEWZ Pg 80 fun B9 =>
 RDI .i64 (Addr.add (Addr.add ⟨B8, 0, none⟩ 0) 0) fun n10 =>
 RDI .i64 (Addr.add (Addr.add ⟨B8, 0, none⟩ 2) 1) fun n11 =>
 RDI .i64 (Addr.add (Addr.add ⟨B8, 0, none⟩ 4) 0) fun n12 =>
 RDI .i64 (Addr.add ⟨B8, 0, none⟩ 6) fun n13 =>
 RDI .i64 (Addr.add (Addr.add ⟨B8, 0, none⟩ 0) 1) fun n14 =>
 RDI .i64 (Addr.add (Addr.add ⟨B8, 0, none⟩ 2) 0) fun n15 =>
 RDI .i64 (Addr.add (Addr.add ⟨B8, 0, none⟩ 4) 1) fun n16 =>
 RDI .i64 (Addr.add ⟨B8, 0, none⟩ 6) fun n17 =>
 WR (Addr.add ⟨B9, 0, none⟩ 0) (.int .i64 n10) <|
 WR (Addr.add ⟨B9, 0, none⟩ 1) (.int .i64 n11) <|
 WR (Addr.add ⟨B9, 0, none⟩ 2) (.int .i64 n12) <|
 WR (Addr.add ⟨B9, 0, none⟩ 3) (.int .i64 n13) <|
 WR (Addr.add ⟨B9, 0, none⟩ 4) (.func (.func 57) #[] #[]) <|
 WR (Addr.add ⟨B9, 0, none⟩ 5) (.int .i64 n14) <|
 WR (Addr.add ⟨B9, 0, none⟩ 6) (.int .i64 n15) <|
 WR (Addr.add ⟨B9, 0, none⟩ 7) (.int .i64 n16) <|
 WR (Addr.add ⟨B9, 0, none⟩ 8) (.int .i64 n17) <|
 WR (Addr.add ⟨B9, 0, none⟩ 9) (.func (.func 56) #[] #[]) <|
 RDI .i64 (Addr.add ⟨B9, 0, none⟩ 0) fun n18 =>
 RDI .i64 (Addr.add ⟨B9, 0, none⟩ 1) fun n19 =>
 RDI .i64 (Addr.add ⟨B9, 0, none⟩ 2) fun n20 =>
 RDI .i64 (Addr.add ⟨B9, 0, none⟩ 3) fun n21 =>
 RDV (Addr.add ⟨B9, 0, none⟩ 4) fun v22 =>
 RDI .i64 (Addr.add ⟨B9, 0, none⟩ 5) fun n23 =>
 RDI .i64 (Addr.add ⟨B9, 0, none⟩ 6) fun n24 =>
 RDI .i64 (Addr.add ⟨B9, 0, none⟩ 7) fun n25 =>
 RDI .i64 (Addr.add ⟨B9, 0, none⟩ 8) fun n26 =>
 RDV (Addr.add ⟨B9, 0, none⟩ 9) fun v27 =>
 R (.returned (.agg #[(.int .i64 n18), (.int .i64 n19), (.int .i64 n20), (.int .i64 n21), v22, (.int .i64 n23), (.int .i64 n24), (.int .i64 n25), (.int .i64 n26), v27]))
theorem does_team_casesOf (W : World) (n1 n2 n3 n4 n5 n6 n7 : Int) (R : Ending → Hp → Prop) (s : Hp) (h : T_team_casesOf W n1 n2 n3 n4 n5 n6 n7 R s) : Does Pg W F_team_casesOf #[(.agg #[(.int .i64 n1), (.int .i64 n2), (.int .i64 n3), (.int .i64 n4), (.int .i64 n5), (.int .i64 n6), (.int .i64 n7)])] s R :=
  does_of_vfun Pg W an_31 Tryz.func31 rfl (by kernel_rfl) (Eq.mpr (by kernel_rfl) h)
def an_32 : Nat → Ann := fun b => match b with
 | _ => {}
def T_team_plot_behind (W : World) (p1 : Option Addr) (n2 n3 n4 n5 : Int) (v6 : Value) (R : Ending → Hp → Prop) : Hp → Prop :=
 NEW 73 [(.pointer p1)] fun B7 =>
 NEW 79 [(.int .i64 n2), (.int .i64 n3), (.int .i64 n4), (.int .i64 n5), v6] fun B8 =>
 R (.returned (.func (.func 58) #[] #[(.pointer (some ⟨B8, 0, none⟩)), (.pointer (some ⟨B7, 0, none⟩))]))
theorem does_team_plot_behind (W : World) (p1 : Option Addr) (n2 n3 n4 n5 : Int) (v6 : Value) (R : Ending → Hp → Prop) (s : Hp) (h : T_team_plot_behind W p1 n2 n3 n4 n5 v6 R s) : Does Pg W F_team_plot_behind #[(.pointer p1), (.agg #[(.int .i64 n2), (.int .i64 n3), (.int .i64 n4), (.int .i64 n5), v6])] s R :=
  does_of_vfun Pg W an_32 Tryz.func32 rfl (by kernel_rfl) (Eq.mpr (by kernel_rfl) h)
def an_34 : Nat → Ann := fun b => match b with
 | 0 => { ms := [], ks := [.i .i64, .i .i64], us := [], rt := true, ex := [] }
 | _ => {}
def T_team_plot_failed (W : World) (p1 : Option Addr) (n2 n3 n4 n5 : Int) (v6 : Value) (R : Ending → Hp → Prop) : Hp → Prop :=
 NEW 79 [(.int .i64 n2), (.int .i64 n3), (.int .i64 n4), (.int .i64 n5), v6] fun B7 =>
 NEWZ Pg 3 fun B8 =>
 NEWZ Pg 4 fun B9 =>
 RDI .i64 (Addr.add ⟨B7, 0, none⟩ 0) fun n10 =>
 RDI .i64 (Addr.add ⟨B7, 0, none⟩ 1) fun n11 =>
 RDI .i64 (Addr.add ⟨B7, 0, none⟩ 2) fun n12 =>
 RDI .i64 (Addr.add ⟨B7, 0, none⟩ 3) fun n13 =>
 RDV (Addr.add ⟨B7, 0, none⟩ 4) fun v14 =>
 CALL Pg W F_team_plot_behind [(.pointer p1), (.agg #[(.int .i64 n10), (.int .i64 n11), (.int .i64 n12), (.int .i64 n13), v14])]
 (fun v15 => RNGN Pg W v15 2
 (fun y17 fin18 => HD y17 fun v19 r20 => TYI .i64 v19 fun n21 =>
 HD r20 fun v22 r23 => TYI .i64 v22 fun n24 =>
 NL r23 <|
 BR (decide (n24 ≥ 0))
 (fin18 none)
 (WR (Addr.add ⟨B8, 0, none⟩ 0) (.int .i64 n21) <|
 WR (Addr.add ⟨B9, 0, none⟩ 0) (.bool true) <|
 fin18 (some .ret)))
 (AFT
 (WR (Addr.add ⟨B8, 0, none⟩ 0) (.int .i64 0) <|
 WR (Addr.add ⟨B9, 0, none⟩ 0) (.bool false) <|
 RDI .i64 ⟨B8, 0, none⟩ fun n25 =>
 RDB ⟨B9, 0, none⟩ fun b26 =>
 R (.returned (.tuple #[(.int .i64 n25), (.bool b26)]))) (RDI .i64 ⟨B8, 0, none⟩ fun n27 =>
 RDB ⟨B9, 0, none⟩ fun b28 =>
 R (.returned (.tuple #[(.int .i64 n27), (.bool b28)]))) (EXL [] fun _ => FF)))
 (fun e16 => R (.panicked e16))
theorem does_team_plot_failed (W : World) (p1 : Option Addr) (n2 n3 n4 n5 : Int) (v6 : Value) (R : Ending → Hp → Prop) (s : Hp) (h : T_team_plot_failed W p1 n2 n3 n4 n5 v6 R s) : Does Pg W F_team_plot_failed #[(.pointer p1), (.agg #[(.int .i64 n2), (.int .i64 n3), (.int .i64 n4), (.int .i64 n5), v6])] s R :=
  does_of_vfun Pg W an_34 Tryz.func34 rfl (by kernel_rfl) (Eq.mpr (by kernel_rfl) h)
def an_52 : Nat → Ann := fun b => match b with
 | _ => {}
def T_team_need (W : World) (b1 : Bool) (n2 : Int) (R : Ending → Hp → Prop) : Hp → Prop :=
 BR (!b1)
 (R (.panicked [{ v := (.iface 121 (.agg #[(.int .i64 n2)])), recovered := false }]))
 (R (.returned (.tuple #[])))
theorem does_team_need (W : World) (b1 : Bool) (n2 : Int) (R : Ending → Hp → Prop) (s : Hp) (h : T_team_need W b1 n2 R s) : Does Pg W F_team_need #[(.bool b1), (.int .i64 n2)] s R :=
  does_of_vfun Pg W an_52 Tryz.func52 rfl (by kernel_rfl) (Eq.mpr (by kernel_rfl) h)
def an_53 : Nat → Ann := fun b => match b with
 | _ => {}
def J_team_isTeam_0 (W : World) (R : Ending → Hp → Prop) (b25 : Bool) (B8 : Nat) : Hp → Prop :=
 BR b25
 (RDI .i64 (Addr.add (Addr.add ⟨B8, 0, none⟩ 4) 0) fun n26 =>
 RDI .i64 (Addr.add (Addr.add ⟨B8, 0, none⟩ 4) 1) fun n27 =>
 CALL Pg W F_team_isSpan [(.agg #[(.int .i64 n26), (.int .i64 n27)]), (.int .i64 1000)]
 (fun v28 => TYB v28 fun b30 =>
 R (.returned (.bool b30)))
 (fun e29 => R (.panicked e29)))
 (R (.returned (.bool false)))
def J_team_isTeam_1 (W : World) (R : Ending → Hp → Prop) (b19 : Bool) (B8 : Nat) : Hp → Prop :=
 BR b19
 (RDI .i64 (Addr.add (Addr.add ⟨B8, 0, none⟩ 2) 0) fun n20 =>
 RDI .i64 (Addr.add (Addr.add ⟨B8, 0, none⟩ 2) 1) fun n21 =>
 CALL Pg W F_team_isSpan [(.agg #[(.int .i64 n20), (.int .i64 n21)]), (.int .i64 100)]
 (fun v22 => TYB v22 fun b24 =>
 J_team_isTeam_0 W R b24 B8)
 (fun e23 => R (.panicked e23)))
 (J_team_isTeam_0 W R false B8)
def T_team_isTeam (W : World) (n1 n2 n3 n4 n5 n6 n7 : Int) (R : Ending → Hp → Prop) : Hp → Prop :=
 NEW 44 [(.int .i64 n1), (.int .i64 n2), (.int .i64 n3), (.int .i64 n4), (.int .i64 n5), (.int .i64 n6), (.int .i64 n7)] fun B8 =>
 RDI .i64 (Addr.add ⟨B8, 0, none⟩ 6) fun n9 =>
 CALL Pg W F_team_within [(.int .i64 n9), (.int .i64 0), (.int .i64 10000)]
 (fun v10 => TYB v10 fun b12 =>
 BR b12
 (RDI .i64 (Addr.add (Addr.add ⟨B8, 0, none⟩ 0) 0) fun n13 =>
 RDI .i64 (Addr.add (Addr.add ⟨B8, 0, none⟩ 0) 1) fun n14 =>
 RDI .i64 (Addr.add ⟨B8, 0, none⟩ 6) fun n15 =>
 CALL Pg W F_team_isSpan [(.agg #[(.int .i64 n13), (.int .i64 n14)]), (.int .i64 n15)]
 (fun v16 => TYB v16 fun b18 =>
 J_team_isTeam_1 W R b18 B8)
 (fun e17 => R (.panicked e17)))
 (J_team_isTeam_1 W R false B8))
 (fun e11 => R (.panicked e11))
theorem does_team_isTeam (W : World) (n1 n2 n3 n4 n5 n6 n7 : Int) (R : Ending → Hp → Prop) (s : Hp) (h : T_team_isTeam W n1 n2 n3 n4 n5 n6 n7 R s) : Does Pg W F_team_isTeam #[(.agg #[(.int .i64 n1), (.int .i64 n2), (.int .i64 n3), (.int .i64 n4), (.int .i64 n5), (.int .i64 n6), (.int .i64 n7)])] s R :=
  does_of_vfun Pg W an_53 Tryz.func53 rfl (by kernel_rfl) (Eq.mpr (by kernel_rfl) h)
def an_54 : Nat → Ann := fun b => match b with
 | _ => {}
def J_team_isPlot_0 (W : World) (R : Ending → Hp → Prop) (b33 : Bool) (B10 : Nat) : Hp → Prop :=
 BR b33
 (R (.returned (.bool false)))
 (RDL (Addr.add ⟨B10, 0, none⟩ 4) fun x34 l35 c36 =>
 CALL Pg W F_slices_ContainsFunc_api_TeamStep_api_TeamStep [(.slice x34 l35 c36), (.func (.func 84) #[] #[(.pointer (some ⟨B10, 0, none⟩))])]
 (fun v37 => TYB v37 fun b39 =>
 R (.returned (.bool (!b39))))
 (fun e38 => R (.panicked e38)))
def T_team_isPlot (W : World) (n1 n2 n3 : Int) (x4 : Option Addr) (l5 c6 : Nat) (x7 : Option Addr) (l8 c9 : Nat) (R : Ending → Hp → Prop) : Hp → Prop :=
 NEW 49 [(.int .i64 n1), (.int .i64 n2), (.int .i64 n3), (.slice x4 l5 c6), (.slice x7 l8 c9)] fun B10 =>
 RDI .i64 (Addr.add (Addr.add ⟨B10, 0, none⟩ 0) 0) fun n11 =>
 RDI .i64 (Addr.add (Addr.add ⟨B10, 0, none⟩ 0) 1) fun n12 =>
 RDI .i64 (Addr.add (Addr.add ⟨B10, 0, none⟩ 0) 2) fun n13 =>
 RDL (Addr.add (Addr.add ⟨B10, 0, none⟩ 0) 3) fun x14 l15 c16 =>
 CALL Pg W F_soil_Hard [(.agg #[(.int .i64 n11), (.int .i64 n12), (.int .i64 n13), (.slice x14 l15 c16)]), (.int .i64 0)]
 (fun v17 => TUP v17 fun q19 => HD q19 fun v20 r21 => AGG v20 fun q22 => HD q22 fun v23 r24 => TYI .i64 v23 fun n25 =>
 HD r24 fun v26 r27 => TYI .i64 v26 fun n28 =>
 NL r27 <|
 HD r21 fun v29 r30 => TYI .i64 v29 fun n31 =>
 NL r30 <|
 NEWZ Pg 27 fun B32 =>
 WR (Addr.add ⟨B32, 0, none⟩ 0) (.int .i64 n25) <|
 WR (Addr.add ⟨B32, 0, none⟩ 1) (.int .i64 n28) <|
 BR (n31 == 1)
 (J_team_isPlot_0 W R true B10)
 (RDL (Addr.add ⟨B10, 0, none⟩ 4) fun x40 l41 c42 =>
 J_team_isPlot_0 W R (decide ((↑l41 : Int) > 12)) B10))
 (fun e18 => R (.panicked e18))
theorem does_team_isPlot (W : World) (n1 n2 n3 : Int) (x4 : Option Addr) (l5 c6 : Nat) (x7 : Option Addr) (l8 c9 : Nat) (R : Ending → Hp → Prop) (s : Hp) (h : T_team_isPlot W n1 n2 n3 x4 l5 c6 x7 l8 c9 R s) : Does Pg W F_team_isPlot #[(.agg #[(.int .i64 n1), (.int .i64 n2), (.int .i64 n3), (.slice x4 l5 c6), (.slice x7 l8 c9)])] s R :=
  does_of_vfun Pg W an_54 Tryz.func54 rfl (by kernel_rfl) (Eq.mpr (by kernel_rfl) h)
def an_55 : Nat → Ann := fun b => match b with
 | 0 => { ms := [24], ks := [.i .i64], us := [1, 2, 5, 22, 23, 54], rt := false, ex := [] }
 | _ => {}
abbrev rv_55 : List ResultVar := [.tmp 2]
abbrev rs_55 : List Nat := [54, 2]
def L_team_look_0 (W : World) (R : Ending → Hp → Prop) (za0 : Addr) (za1 : Addr) (zp2 : Option Addr) (zl3 zl4 : Nat) (zn5 n49 : Int) : Hp → Prop :=
 LOOPN [.i .i64] (fun ys next s => ∀ j : Tm, vc Pg W 54 rs_55 an_55 false (sub (bodyOf Tryz.f55) [1, 1, 1, 1, 0, 1, 0, 0]) 0 (KLoop [24] [1, 2, 5, 22, 23, 54] [(.pointer (some za0)), (.pointer none), (.pointer (some za1)), (.slice zp2 zl3 zl4), (.int .i64 zn5), (.tuple #[])] next (KBlk 0 (KS Pg W 54 rs_55 an_55 false (sub (bodyOf Tryz.f55) [1, 1, 1, 1, 1]) 0 (fin Pg W 54 rv_55 R)))) (known [24] ys (known [1, 2, 5, 22, 23, 54] [(.pointer (some za0)), (.pointer none), (.pointer (some za1)), (.slice zp2 zl3 zl4), (.int .i64 zn5), (.tuple #[])] j)) s) [(.int .i64 n49)]
def J_team_look_0 (W : World) (R : Ending → Hp → Prop) (za1 : Addr) (B55 : Nat) (za0 : Addr) (zp2 : Option Addr) (zl3 zl4 : Nat) (zn5 : Int) (nx0 : List Value → Hp → Prop) (n49 : Int) : Hp → Prop :=
 RDL (Addr.add za1 5) fun x80 l81 c82 =>
 RDI .i64 (Addr.add ⟨B55, 0, none⟩ 0) fun n83 =>
 RDI .i64 (Addr.add ⟨B55, 0, none⟩ 1) fun n84 =>
 NEW 27 [(.int .i64 n83), (.int .i64 n84)] fun B85 =>
 ANDS (RDL (Addr.add za1 5) fun x86 l87 c88 =>
 fun _ => ((.slice x86 l87 c88) : Value) = (.slice x80 l81 c82)) <|
 APP Pg 27 2 x80 l81 c82 (some ⟨B85, 0, none⟩) 1 fun x89 l90 c91 =>
 WR (Addr.add (Addr.add za1 5) 0) (.slice x89 l90 c91) <|
 NX [(.pointer (some za0)), (.pointer none), (.pointer (some za1)), (.slice zp2 zl3 zl4), (.int .i64 zn5), (.tuple #[])] [(.pointer (some za0)), (.pointer none), (.pointer (some za1)), (.slice zp2 zl3 zl4), (.int .i64 zn5), (.tuple #[])] (nx0 [(.int .i64 (IntKind.wrap .i64 (n49 + 1)))])
def B_team_look_0 (W : World) (R : Ending → Hp → Prop) (za0 : Addr) (za1 : Addr) (zp2 : Option Addr) (zl3 zl4 : Nat) (zn5 n49 : Int) (nx0 : List Value → Hp → Prop) : Hp → Prop :=
 BR (decide (n49 < zn5))
 (IXS zp2 zl3 n49 3 fun a50 =>
 RDI .i64 (Addr.add a50 0) fun n51 =>
 RDI .i64 (Addr.add a50 1) fun n52 =>
 RDI .i64 (Addr.add a50 2) fun n53 =>
 NEWZ Pg 46 fun B54 =>
 WR (Addr.add ⟨B54, 0, none⟩ 0) (.int .i64 n51) <|
 WR (Addr.add ⟨B54, 0, none⟩ 1) (.int .i64 n52) <|
 WR (Addr.add ⟨B54, 0, none⟩ 2) (.int .i64 n53) <|
 NEWZ Pg 27 fun B55 =>
 WR (Addr.add ⟨B55, 0, none⟩ 0) (.int .i64 0) <|
 WR (Addr.add ⟨B55, 0, none⟩ 1) (.int .i64 0) <|
 RDI .i64 (Addr.add ⟨B54, 0, none⟩ 2) fun n56 =>
 BR (n56 == 0)
 (RDI .i64 (Addr.add (Addr.add za0 0) 0) fun n57 =>
 RDI .i64 (Addr.add (Addr.add za0 0) 1) fun n58 =>
 RDI .i64 (Addr.add (Addr.add za0 0) 2) fun n59 =>
 RDL (Addr.add (Addr.add za0 0) 3) fun x60 l61 c62 =>
 RDI .i64 (Addr.add ⟨B54, 0, none⟩ 0) fun n63 =>
 RDI .i64 (Addr.add ⟨B54, 0, none⟩ 1) fun n64 =>
 CALL Pg W F_soil_Work [(.agg #[(.int .i64 n57), (.int .i64 n58), (.int .i64 n59), (.slice x60 l61 c62)]), (.int .i64 n63), (.int .i64 n64)]
 (fun v65 => TUP v65 fun q67 => HD q67 fun v68 r69 => AGG v68 fun q70 => HD q70 fun v71 r72 => TYI .i64 v71 fun n73 =>
 HD r72 fun v74 r75 => TYI .i64 v74 fun n76 =>
 NL r75 <|
 HD r69 fun v77 r78 => TYI .i64 v77 fun n79 =>
 NL r78 <|
 WR (Addr.add ⟨B55, 0, none⟩ 0) (.int .i64 n73) <|
 WR (Addr.add ⟨B55, 0, none⟩ 1) (.int .i64 n76) <|
 J_team_look_0 W R za1 B55 za0 zp2 zl3 zl4 zn5 nx0 n49)
 (fun e66 => R (.panicked e66)))
 (J_team_look_0 W R za1 B55 za0 zp2 zl3 zl4 zn5 nx0 n49))
 (R (.returned (.pointer (some za1))))
theorem B_team_look_0_eq (W : World) (R : Ending → Hp → Prop) (za0 : Addr) (za1 : Addr) (zp2 : Option Addr) (zl3 zl4 : Nat) (zn5 n49 : Int) (nx0 : List Value → Hp → Prop) (j : Tm) : vc Pg W 54 rs_55 an_55 false (sub (bodyOf Tryz.f55) [1, 1, 1, 1, 0, 1, 0, 0]) 0 (KLoop [24] [1, 2, 5, 22, 23, 54] [(.pointer (some za0)), (.pointer none), (.pointer (some za1)), (.slice zp2 zl3 zl4), (.int .i64 zn5), (.tuple #[])] nx0 (KBlk 0 (KS Pg W 54 rs_55 an_55 false (sub (bodyOf Tryz.f55) [1, 1, 1, 1, 1]) 0 (fin Pg W 54 rv_55 R)))) (known [24] [(.int .i64 n49)] (known [1, 2, 5, 22, 23, 54] [(.pointer (some za0)), (.pointer none), (.pointer (some za1)), (.slice zp2 zl3 zl4), (.int .i64 zn5), (.tuple #[])] j)) = B_team_look_0 W R za0 za1 zp2 zl3 zl4 zn5 n49 nx0 := by kernel_rfl
def N_team_look_0 (I : Int → Hp → Prop) (μ : Int → Hp → Nat) (n490 : Int) (s : Hp) (vs : List Value) : Hp → Prop := fun s' => ∃ n49, vs = [(.int .i64 n49)] ∧ I n49 s' ∧ μ n49 s' < μ n490 s
theorem L_team_look_0_rule (W : World) (R : Ending → Hp → Prop) (za0 : Addr) (za1 : Addr) (zp2 : Option Addr) (zl3 zl4 : Nat) (zn5 : Int) (I : Int → Hp → Prop) (μ : Int → Hp → Nat) (n490 : Int) (s : Hp) (h0 : I n490 s)
    (hr : ∀ (n49 : Int) (s : Hp), I n49 s → B_team_look_0 W R za0 za1 zp2 zl3 zl4 zn5 n49 (fun vs => N_team_look_0 I μ n49 s vs) s) : L_team_look_0 W R za0 za1 zp2 zl3 zl4 zn5 n490 s := by
  refine ⟨fun vs s => ∃ n49, vs = [(.int .i64 n49)] ∧ I n49 s, fun vs s => (match vs with | [.int _ n49] => μ n49 s | _ => 0), ⟨⟨⟨_, rfl⟩, trivial⟩, ⟨_, rfl, h0⟩⟩, ?_⟩
  intro n49 s hI j
  obtain ⟨n49', hy, hI⟩ := hI
  have hI' : I n49 s := by cases hy; exact hI
  have hh := hr n49 s hI'
  rw [← B_team_look_0_eq W R za0 za1 zp2 zl3 zl4 zn5 n49 _ j] at hh
  refine vc_mono ?_ _ _ hh
  exact KLoop_mono (fun vs s' h => by obtain ⟨n491, rfl, h1, h2⟩ := h; exact ⟨⟨⟨_, rfl⟩, trivial⟩, ⟨_, rfl, h1⟩, h2⟩)
def T_team_look (W : World) (n1 n2 n3 : Int) (x4 : Option Addr) (l5 c6 : Nat) (x7 : Option Addr) (l8 c9 : Nat) (R : Ending → Hp → Prop) : Hp → Prop :=
 NEW 49 [(.int .i64 n1), (.int .i64 n2), (.int .i64 n3), (.slice x4 l5 c6), (.slice x7 l8 c9)] fun B10 =>
 RDI .i64 (Addr.add (Addr.add ⟨B10, 0, none⟩ 0) 0) fun n11 =>
 RDI .i64 (Addr.add (Addr.add ⟨B10, 0, none⟩ 0) 1) fun n12 =>
 RDI .i64 (Addr.add (Addr.add ⟨B10, 0, none⟩ 0) 2) fun n13 =>
 RDL (Addr.add (Addr.add ⟨B10, 0, none⟩ 0) 3) fun x14 l15 c16 =>
 CALL Pg W F_soil_Hard [(.agg #[(.int .i64 n11), (.int .i64 n12), (.int .i64 n13), (.slice x14 l15 c16)]), (.int .i64 0)]
 (fun v17 => TUP v17 fun q19 => HD q19 fun v20 r21 => AGG v20 fun q22 => HD q22 fun v23 r24 => TYI .i64 v23 fun n25 =>
 HD r24 fun v26 r27 => TYI .i64 v26 fun n28 =>
 NL r27 <|
 HD r21 fun v29 r30 => TYI .i64 v29 fun n31 =>
 NL r30 <|
 NEWZ Pg 27 fun B32 =>
 WR (Addr.add ⟨B32, 0, none⟩ 0) (.int .i64 n25) <|
 WR (Addr.add ⟨B32, 0, none⟩ 1) (.int .i64 n28) <|
 CALL Pg W F_team_need [(.bool (n31 == 0)), (.int .i64 10)]
 (fun v33 => TUP v33 fun q35 => NL q35 <|
 RDI .i64 (Addr.add ⟨B10, 0, none⟩ 0) fun n36 =>
 RDI .i64 (Addr.add ⟨B10, 0, none⟩ 1) fun n37 =>
 RDI .i64 (Addr.add ⟨B10, 0, none⟩ 2) fun n38 =>
 RDL (Addr.add ⟨B10, 0, none⟩ 3) fun x39 l40 c41 =>
 RDL (Addr.add ⟨B10, 0, none⟩ 4) fun x42 l43 c44 =>
 NEW 176 [(.int .i64 n36), (.int .i64 n37), (.int .i64 n38), (.slice x39 l40 c41), (.slice x42 l43 c44), (.slice none 0 0)] fun B45 =>
 RDL (Addr.add ⟨B10, 0, none⟩ 4) fun x46 l47 c48 =>
 L_team_look_0 W R ⟨B10, 0, none⟩ ⟨B45, 0, none⟩ x46 l47 c48 (↑l47 : Int) 0)
 (fun e34 => R (.panicked e34)))
 (fun e18 => R (.panicked e18))
theorem does_team_look (W : World) (n1 n2 n3 : Int) (x4 : Option Addr) (l5 c6 : Nat) (x7 : Option Addr) (l8 c9 : Nat) (R : Ending → Hp → Prop) (s : Hp) (h : T_team_look W n1 n2 n3 x4 l5 c6 x7 l8 c9 R s) : Does Pg W F_team_look #[(.agg #[(.int .i64 n1), (.int .i64 n2), (.int .i64 n3), (.slice x4 l5 c6), (.slice x7 l8 c9)])] s R :=
  does_of_vfun Pg W an_55 Tryz.func55 rfl (by kernel_rfl) (Eq.mpr (by kernel_rfl) h)
def an_56 : Nat → Ann := fun b => match b with
 | _ => {}
def T_team_casesOf_c1 (W : World) (n1 n2 : Int) (R : Ending → Hp → Prop) : Hp → Prop :=
 NEW 27 [(.int .i64 n1), (.int .i64 n2)] fun B3 =>
 RDI .i64 (Addr.add ⟨B3, 0, none⟩ 0) fun n4 =>
 R (.returned (.int .i64 n4))
theorem does_team_casesOf_c1 (W : World) (n1 n2 : Int) (R : Ending → Hp → Prop) (s : Hp) (h : T_team_casesOf_c1 W n1 n2 R s) : Does Pg W F_team_casesOf_c1 #[(.agg #[(.int .i64 n1), (.int .i64 n2)])] s R :=
  does_of_vfun Pg W an_56 Tryz.func56 rfl (by kernel_rfl) (Eq.mpr (by kernel_rfl) h)
def an_57 : Nat → Ann := fun b => match b with
 | _ => {}
def T_team_casesOf_c2 (W : World) (n1 n2 : Int) (R : Ending → Hp → Prop) : Hp → Prop :=
 NEW 27 [(.int .i64 n1), (.int .i64 n2)] fun B3 =>
 RDI .i64 (Addr.add ⟨B3, 0, none⟩ 1) fun n4 =>
 R (.returned (.int .i64 n4))
theorem does_team_casesOf_c2 (W : World) (n1 n2 : Int) (R : Ending → Hp → Prop) (s : Hp) (h : T_team_casesOf_c2 W n1 n2 R s) : Does Pg W F_team_casesOf_c2 #[(.agg #[(.int .i64 n1), (.int .i64 n2)])] s R :=
  does_of_vfun Pg W an_57 Tryz.func57 rfl (by kernel_rfl) (Eq.mpr (by kernel_rfl) h)
def an_58 : Nat → Ann := fun b => match b with
 | 0 => { ms := [4, 12], ks := [.i .i64, .i .i64], us := [0, 1, 10, 11, 27], rt := false, ex := [] }
 | _ => {}
abbrev rv_58 : List ResultVar := []
abbrev rs_58 : List Nat := [27]
def L_team_plot_behind_c1_0 (W : World) (R : Ending → Hp → Prop) (zv0 : Value) (za1 : Addr) (zp2 : Option Addr) (zl3 zl4 : Nat) (zn5 n11 n12 : Int) : Hp → Prop :=
 LOOPN [.i .i64, .i .i64] (fun ys next s => ∀ j : Tm, vc Pg W 27 rs_58 an_58 false (sub (bodyOf Tryz.f58) [1, 1, 0, 0]) 0 (KLoop [4, 12] [0, 1, 10, 11, 27] [zv0, (.pointer (some za1)), (.slice zp2 zl3 zl4), (.int .i64 zn5), (.tuple #[])] next (KBlk 0 (fin Pg W 27 rv_58 R))) (known [4, 12] ys (known [0, 1, 10, 11, 27] [zv0, (.pointer (some za1)), (.slice zp2 zl3 zl4), (.int .i64 zn5), (.tuple #[])] j)) s) [(.int .i64 n11), (.int .i64 n12)]
def B_team_plot_behind_c1_0 (W : World) (R : Ending → Hp → Prop) (zv0 : Value) (za1 : Addr) (zp2 : Option Addr) (zl3 zl4 : Nat) (zn5 n11 n12 : Int) (nx0 : List Value → Hp → Prop) : Hp → Prop :=
 BR (decide (n12 < zn5))
 (IXS zp2 zl3 n12 1 fun a13 =>
 RDV a13 fun v14 =>
 RDI .i64 (Addr.add za1 0) fun n15 =>
 RDI .i64 (Addr.add za1 1) fun n16 =>
 RDI .i64 (Addr.add za1 2) fun n17 =>
 RDI .i64 (Addr.add za1 3) fun n18 =>
 RDV (Addr.add za1 4) fun v19 =>
 INV Pg W v14 "furrowworks/team.do" [(.agg #[(.int .i64 n15), (.int .i64 n16), (.int .i64 n17), (.int .i64 n18), v19]), (.int .i64 n11)]
 (fun v20 => TYI .i64 v20 fun n22 =>
 CALLV Pg W zv0 [(.int .i64 n12), (.int .i64 n22)]
 (fun v23 => TYB v23 fun b25 =>
 BR (!b25)
 (R (.returned (.tuple #[])))
 (NX [zv0, (.pointer (some za1)), (.slice zp2 zl3 zl4), (.int .i64 zn5), (.tuple #[])] [zv0, (.pointer (some za1)), (.slice zp2 zl3 zl4), (.int .i64 zn5), (.tuple #[])] (nx0 [(.int .i64 n22), (.int .i64 (IntKind.wrap .i64 (n12 + 1)))])))
 (fun e24 => R (.panicked e24)))
 (fun e21 => R (.panicked e21)))
 (R (.returned (.tuple #[])))
theorem B_team_plot_behind_c1_0_eq (W : World) (R : Ending → Hp → Prop) (zv0 : Value) (za1 : Addr) (zp2 : Option Addr) (zl3 zl4 : Nat) (zn5 n11 n12 : Int) (nx0 : List Value → Hp → Prop) (j : Tm) : vc Pg W 27 rs_58 an_58 false (sub (bodyOf Tryz.f58) [1, 1, 0, 0]) 0 (KLoop [4, 12] [0, 1, 10, 11, 27] [zv0, (.pointer (some za1)), (.slice zp2 zl3 zl4), (.int .i64 zn5), (.tuple #[])] nx0 (KBlk 0 (fin Pg W 27 rv_58 R))) (known [4, 12] [(.int .i64 n11), (.int .i64 n12)] (known [0, 1, 10, 11, 27] [zv0, (.pointer (some za1)), (.slice zp2 zl3 zl4), (.int .i64 zn5), (.tuple #[])] j)) = B_team_plot_behind_c1_0 W R zv0 za1 zp2 zl3 zl4 zn5 n11 n12 nx0 := by kernel_rfl
def N_team_plot_behind_c1_0 (I : Int → Int → Hp → Prop) (μ : Int → Int → Hp → Nat) (n110 n120 : Int) (s : Hp) (vs : List Value) : Hp → Prop := fun s' => ∃ n11 n12, vs = [(.int .i64 n11), (.int .i64 n12)] ∧ I n11 n12 s' ∧ μ n11 n12 s' < μ n110 n120 s
theorem L_team_plot_behind_c1_0_rule (W : World) (R : Ending → Hp → Prop) (zv0 : Value) (za1 : Addr) (zp2 : Option Addr) (zl3 zl4 : Nat) (zn5 : Int) (I : Int → Int → Hp → Prop) (μ : Int → Int → Hp → Nat) (n110 n120 : Int) (s : Hp) (h0 : I n110 n120 s)
    (hr : ∀ (n11 : Int) (n12 : Int) (s : Hp), I n11 n12 s → B_team_plot_behind_c1_0 W R zv0 za1 zp2 zl3 zl4 zn5 n11 n12 (fun vs => N_team_plot_behind_c1_0 I μ n11 n12 s vs) s) : L_team_plot_behind_c1_0 W R zv0 za1 zp2 zl3 zl4 zn5 n110 n120 s := by
  refine ⟨fun vs s => ∃ n11 n12, vs = [(.int .i64 n11), (.int .i64 n12)] ∧ I n11 n12 s, fun vs s => (match vs with | [.int _ n11, .int _ n12] => μ n11 n12 s | _ => 0), ⟨⟨⟨_, rfl⟩, ⟨⟨_, rfl⟩, trivial⟩⟩, ⟨_, _, rfl, h0⟩⟩, ?_⟩
  intro n11 n12 s hI j
  obtain ⟨n11', n12', hy, hI⟩ := hI
  have hI' : I n11 n12 s := by cases hy; exact hI
  have hh := hr n11 n12 s hI'
  rw [← B_team_plot_behind_c1_0_eq W R zv0 za1 zp2 zl3 zl4 zn5 n11 n12 _ j] at hh
  refine vc_mono ?_ _ _ hh
  exact KLoop_mono (fun vs s' h => by obtain ⟨n111, n121, rfl, h1, h2⟩ := h; exact ⟨⟨⟨_, rfl⟩, ⟨⟨_, rfl⟩, trivial⟩⟩, ⟨_, _, rfl, h1⟩, h2⟩)
def T_team_plot_behind_c1 (W : World) (v1 : Value) (a2 : Addr) (a3 : Addr) (R : Ending → Hp → Prop) : Hp → Prop :=
 RDI .i64 (Addr.add a2 0) fun n4 =>
 RDP a3 fun p5 =>
 CALL Pg W F_team_plot_steps [(.pointer p5)]
 (fun v6 => TYL v6 fun x8 l9 c10 =>
 L_team_plot_behind_c1_0 W R v1 a2 x8 l9 c10 (↑l9 : Int) n4 0)
 (fun e7 => R (.panicked e7))
theorem does_team_plot_behind_c1 (W : World) (v1 : Value) (a2 : Addr) (a3 : Addr) (R : Ending → Hp → Prop) (s : Hp) (h : T_team_plot_behind_c1 W v1 a2 a3 R s) : Does Pg W F_team_plot_behind_c1 #[v1, (.pointer (some a2)), (.pointer (some a3))] s R :=
  does_of_vfun Pg W an_58 Tryz.func58 rfl (by kernel_rfl) (Eq.mpr (by kernel_rfl) h)
def an_59 : Nat → Ann := fun b => match b with
 | 0 => { ms := [2, 11], ks := [.l, .i .i64], us := [0, 9, 10, 35], rt := false, ex := [] }
 | _ => {}
abbrev rv_59 : List ResultVar := [.tmp 2]
abbrev rs_59 : List Nat := [35, 2]
def L_team_plot_steps_0 (W : World) (R : Ending → Hp → Prop) (zp0 zp1 : Option Addr) (zl2 zl3 : Nat) (zn4 : Int) (x6 : Option Addr) (l7 c8 : Nat) (n9 : Int) : Hp → Prop :=
 LOOPN [.l, .i .i64] (fun ys next s => ∀ j : Tm, vc Pg W 35 rs_59 an_59 false (sub (bodyOf Tryz.f59) [1, 0, 1, 0, 0]) 0 (KLoop [2, 11] [0, 9, 10, 35] [(.pointer zp0), (.slice zp1 zl2 zl3), (.int .i64 zn4), (.tuple #[])] next (KBlk 0 (KS Pg W 35 rs_59 an_59 false (sub (bodyOf Tryz.f59) [1, 1]) 0 (fin Pg W 35 rv_59 R)))) (known [2, 11] ys (known [0, 9, 10, 35] [(.pointer zp0), (.slice zp1 zl2 zl3), (.int .i64 zn4), (.tuple #[])] j)) s) [(.slice x6 l7 c8), (.int .i64 n9)]
def B_team_plot_steps_0 (W : World) (R : Ending → Hp → Prop) (zp0 zp1 : Option Addr) (zl2 zl3 : Nat) (zn4 : Int) (x6 : Option Addr) (l7 c8 : Nat) (n9 : Int) (nx0 : List Value → Hp → Prop) : Hp → Prop :=
 BR (decide (n9 < zn4))
 (IXS zp1 zl2 n9 3 fun a10 =>
 RDI .i64 (Addr.add a10 0) fun n11 =>
 RDI .i64 (Addr.add a10 1) fun n12 =>
 RDI .i64 (Addr.add a10 2) fun n13 =>
 NEWZ Pg 46 fun B14 =>
 WR (Addr.add ⟨B14, 0, none⟩ 0) (.int .i64 n11) <|
 WR (Addr.add ⟨B14, 0, none⟩ 1) (.int .i64 n12) <|
 WR (Addr.add ⟨B14, 0, none⟩ 2) (.int .i64 n13) <|
 RDI .i64 (Addr.add ⟨B14, 0, none⟩ 2) fun n15 =>
 BR (decide (n15 > 0))
 (NEW 130 [(.iface 178 (.agg #[(.pointer zp0), (.int .i64 n9)]))] fun B16 =>
 APP Pg 130 1 x6 l7 c8 (some ⟨B16, 0, none⟩) 1 fun x17 l18 c19 =>
 NX [(.pointer zp0), (.slice zp1 zl2 zl3), (.int .i64 zn4), (.tuple #[])] [(.pointer zp0), (.slice zp1 zl2 zl3), (.int .i64 zn4), (.tuple #[])] (nx0 [(.slice x17 l18 c19), (.int .i64 (IntKind.wrap .i64 (n9 + 1)))]))
 (NEW 130 [(.iface 179 (.agg #[(.pointer zp0), (.int .i64 n9)]))] fun B20 =>
 APP Pg 130 1 x6 l7 c8 (some ⟨B20, 0, none⟩) 1 fun x21 l22 c23 =>
 NX [(.pointer zp0), (.slice zp1 zl2 zl3), (.int .i64 zn4), (.tuple #[])] [(.pointer zp0), (.slice zp1 zl2 zl3), (.int .i64 zn4), (.tuple #[])] (nx0 [(.slice x21 l22 c23), (.int .i64 (IntKind.wrap .i64 (n9 + 1)))])))
 (R (.returned (.slice x6 l7 c8)))
theorem B_team_plot_steps_0_eq (W : World) (R : Ending → Hp → Prop) (zp0 zp1 : Option Addr) (zl2 zl3 : Nat) (zn4 : Int) (x6 : Option Addr) (l7 c8 : Nat) (n9 : Int) (nx0 : List Value → Hp → Prop) (j : Tm) : vc Pg W 35 rs_59 an_59 false (sub (bodyOf Tryz.f59) [1, 0, 1, 0, 0]) 0 (KLoop [2, 11] [0, 9, 10, 35] [(.pointer zp0), (.slice zp1 zl2 zl3), (.int .i64 zn4), (.tuple #[])] nx0 (KBlk 0 (KS Pg W 35 rs_59 an_59 false (sub (bodyOf Tryz.f59) [1, 1]) 0 (fin Pg W 35 rv_59 R)))) (known [2, 11] [(.slice x6 l7 c8), (.int .i64 n9)] (known [0, 9, 10, 35] [(.pointer zp0), (.slice zp1 zl2 zl3), (.int .i64 zn4), (.tuple #[])] j)) = B_team_plot_steps_0 W R zp0 zp1 zl2 zl3 zn4 x6 l7 c8 n9 nx0 := by kernel_rfl
def N_team_plot_steps_0 (I : Option Addr → Nat → Nat → Int → Hp → Prop) (μ : Option Addr → Nat → Nat → Int → Hp → Nat) (x60 : Option Addr) (l70 c80 : Nat) (n90 : Int) (s : Hp) (vs : List Value) : Hp → Prop := fun s' => ∃ x6 l7 c8 n9, vs = [(.slice x6 l7 c8), (.int .i64 n9)] ∧ I x6 l7 c8 n9 s' ∧ μ x6 l7 c8 n9 s' < μ x60 l70 c80 n90 s
theorem L_team_plot_steps_0_rule (W : World) (R : Ending → Hp → Prop) (zp0 zp1 : Option Addr) (zl2 zl3 : Nat) (zn4 : Int) (I : Option Addr → Nat → Nat → Int → Hp → Prop) (μ : Option Addr → Nat → Nat → Int → Hp → Nat) (x60 : Option Addr) (l70 c80 : Nat) (n90 : Int) (s : Hp) (h0 : I x60 l70 c80 n90 s)
    (hr : ∀ (x6 : Option Addr) (l7 : Nat) (c8 : Nat) (n9 : Int) (s : Hp), I x6 l7 c8 n9 s → B_team_plot_steps_0 W R zp0 zp1 zl2 zl3 zn4 x6 l7 c8 n9 (fun vs => N_team_plot_steps_0 I μ x6 l7 c8 n9 s vs) s) : L_team_plot_steps_0 W R zp0 zp1 zl2 zl3 zn4 x60 l70 c80 n90 s := by
  refine ⟨fun vs s => ∃ x6 l7 c8 n9, vs = [(.slice x6 l7 c8), (.int .i64 n9)] ∧ I x6 l7 c8 n9 s, fun vs s => (match vs with | [.slice x6 l7 c8, .int _ n9] => μ x6 l7 c8 n9 s | _ => 0), ⟨⟨⟨_, _, _, rfl⟩, ⟨⟨_, rfl⟩, trivial⟩⟩, ⟨_, _, _, _, rfl, h0⟩⟩, ?_⟩
  intro x6 l7 c8 n9 s hI j
  obtain ⟨x6', l7', c8', n9', hy, hI⟩ := hI
  have hI' : I x6 l7 c8 n9 s := by cases hy; exact hI
  have hh := hr x6 l7 c8 n9 s hI'
  rw [← B_team_plot_steps_0_eq W R zp0 zp1 zl2 zl3 zn4 x6 l7 c8 n9 _ j] at hh
  refine vc_mono ?_ _ _ hh
  exact KLoop_mono (fun vs s' h => by obtain ⟨x61, l71, c81, n91, rfl, h1, h2⟩ := h; exact ⟨⟨⟨_, _, _, rfl⟩, ⟨⟨_, rfl⟩, trivial⟩⟩, ⟨_, _, _, _, rfl, h1⟩, h2⟩)
def T_team_plot_steps (W : World) (p1 : Option Addr) (R : Ending → Hp → Prop) : Hp → Prop :=
 SO p1 fun a2 =>
 RDL (Addr.add (Addr.add a2 0) 4) fun x3 l4 c5 =>
 L_team_plot_steps_0 W R p1 x3 l4 c5 (↑l4 : Int) none 0 0 0
theorem does_team_plot_steps (W : World) (p1 : Option Addr) (R : Ending → Hp → Prop) (s : Hp) (h : T_team_plot_steps W p1 R s) : Does Pg W F_team_plot_steps #[(.pointer p1)] s R :=
  does_of_vfun Pg W an_59 Tryz.func59 rfl (by kernel_rfl) (Eq.mpr (by kernel_rfl) h)
def an_83 : Nat → Ann := fun b => match b with
 | _ => {}
def T_team_isSpan (W : World) (n1 n2 n3 : Int) (R : Ending → Hp → Prop) : Hp → Prop :=
 NEW 27 [(.int .i64 n1), (.int .i64 n2)] fun B4 =>
 RDI .i64 (Addr.add ⟨B4, 0, none⟩ 0) fun n5 =>
 BR (decide ((0 : Int) ≤ n5))
 (RDI .i64 (Addr.add ⟨B4, 0, none⟩ 0) fun n6 =>
 RDI .i64 (Addr.add ⟨B4, 0, none⟩ 1) fun n7 =>
 BR (decide (n6 ≤ n7))
 (RDI .i64 (Addr.add ⟨B4, 0, none⟩ 1) fun n8 =>
 R (.returned (.bool (decide (n8 ≤ n3)))))
 (R (.returned (.bool false))))
 (R (.returned (.bool false)))
theorem does_team_isSpan (W : World) (n1 n2 n3 : Int) (R : Ending → Hp → Prop) (s : Hp) (h : T_team_isSpan W n1 n2 n3 R s) : Does Pg W F_team_isSpan #[(.agg #[(.int .i64 n1), (.int .i64 n2)]), (.int .i64 n3)] s R :=
  does_of_vfun Pg W an_83 Tryz.func83 rfl (by kernel_rfl) (Eq.mpr (by kernel_rfl) h)
def an_84 : Nat → Ann := fun b => match b with
 | _ => {}
def J_team_isPlot_c1_0 (W : World) (R : Ending → Hp → Prop) (B5 : Nat) (b16 : Bool) : Hp → Prop :=
 RDI .i64 (Addr.add ⟨B5, 0, none⟩ 2) fun n17 =>
 CALL Pg W F_team_within [(.int .i64 n17), (.int .i64 0), (.int .i64 600)]
 (fun v18 => TYB v18 fun b20 =>
 BR (!b20)
 (R (.returned (.bool true)))
 (RDI .i64 (Addr.add ⟨B5, 0, none⟩ 2) fun n21 =>
 BR (n21 == 0)
 (R (.returned (.bool (!b16))))
 (R (.returned (.bool false)))))
 (fun e19 => R (.panicked e19))
def T_team_isPlot_c1 (W : World) (n1 n2 n3 : Int) (a4 : Addr) (R : Ending → Hp → Prop) : Hp → Prop :=
 NEW 46 [(.int .i64 n1), (.int .i64 n2), (.int .i64 n3)] fun B5 =>
 RDI .i64 (Addr.add ⟨B5, 0, none⟩ 0) fun n6 =>
 RDI .i64 (Addr.add ⟨B5, 0, none⟩ 1) fun n7 =>
 CALL Pg W F_team_within [(.int .i64 n6), (.int .i64 0), (.int .i64 n7)]
 (fun v8 => TYB v8 fun b10 =>
 BR b10
 (RDI .i64 (Addr.add ⟨B5, 0, none⟩ 1) fun n11 =>
 RDI .i64 (Addr.add (Addr.add a4 0) 0) fun n12 =>
 CALL Pg W F_team_within [(.int .i64 n11), (.int .i64 0), (.int .i64 n12)]
 (fun v13 => TYB v13 fun b15 =>
 J_team_isPlot_c1_0 W R B5 b15)
 (fun e14 => R (.panicked e14)))
 (J_team_isPlot_c1_0 W R B5 false))
 (fun e9 => R (.panicked e9))
theorem does_team_isPlot_c1 (W : World) (n1 n2 n3 : Int) (a4 : Addr) (R : Ending → Hp → Prop) (s : Hp) (h : T_team_isPlot_c1 W n1 n2 n3 a4 R s) : Does Pg W F_team_isPlot_c1 #[(.agg #[(.int .i64 n1), (.int .i64 n2), (.int .i64 n3)]), (.pointer (some a4))] s R :=
  does_of_vfun Pg W an_84 Tryz.func84 rfl (by kernel_rfl) (Eq.mpr (by kernel_rfl) h)
def an_136 : Nat → Ann := fun b => match b with
 | _ => {}
def T_team_rest_do (W : World) (p1 : Option Addr) (n2 n3 n4 n5 n6 : Int) (v7 : Value) (n8 : Int) (R : Ending → Hp → Prop) : Hp → Prop :=
 NEW 178 [(.pointer p1), (.int .i64 n2)] fun B9 =>
 NEW 79 [(.int .i64 n3), (.int .i64 n4), (.int .i64 n5), (.int .i64 n6), v7] fun B10 =>
 RDI .i64 (Addr.add ⟨B10, 0, none⟩ 3) fun n11 =>
 RDI .i64 (Addr.add ⟨B10, 0, none⟩ 2) fun n12 =>
 RDP (Addr.add ⟨B9, 0, none⟩ 0) fun p13 =>
 SO p13 fun a14 =>
 RDL (Addr.add (Addr.add a14 0) 4) fun x15 l16 c17 =>
 RDI .i64 (Addr.add ⟨B9, 0, none⟩ 1) fun n18 =>
 IXS x15 l16 n18 3 fun a19 =>
 RDI .i64 (Addr.add a19 2) fun n20 =>
 R (.returned (.int .i64 (if (IntKind.wrap .i64 (n8 + (IntKind.wrap .i64 (n12 * n20)))) < n11 then (IntKind.wrap .i64 (n8 + (IntKind.wrap .i64 (n12 * n20)))) else n11)))
theorem does_team_rest_do (W : World) (p1 : Option Addr) (n2 n3 n4 n5 n6 : Int) (v7 : Value) (n8 : Int) (R : Ending → Hp → Prop) (s : Hp) (h : T_team_rest_do W p1 n2 n3 n4 n5 n6 v7 n8 R s) : Does Pg W F_team_rest_do #[(.agg #[(.pointer p1), (.int .i64 n2)]), (.agg #[(.int .i64 n3), (.int .i64 n4), (.int .i64 n5), (.int .i64 n6), v7]), (.int .i64 n8)] s R :=
  does_of_vfun Pg W an_136 Tryz.func136 rfl (by kernel_rfl) (Eq.mpr (by kernel_rfl) h)
def an_137 : Nat → Ann := fun b => match b with
 | _ => {}
def T_team_furrow_do (W : World) (p1 : Option Addr) (n2 n3 n4 n5 n6 : Int) (v7 : Value) (n8 : Int) (R : Ending → Hp → Prop) : Hp → Prop :=
 NEW 179 [(.pointer p1), (.int .i64 n2)] fun B9 =>
 NEW 79 [(.int .i64 n3), (.int .i64 n4), (.int .i64 n5), (.int .i64 n6), v7] fun B10 =>
 RDI .i64 (Addr.add ⟨B10, 0, none⟩ 1) fun n11 =>
 RDV (Addr.add ⟨B10, 0, none⟩ 4) fun v12 =>
 RDP (Addr.add ⟨B9, 0, none⟩ 0) fun p13 =>
 SO p13 fun a14 =>
 RDL (Addr.add a14 5) fun x15 l16 c17 =>
 RDI .i64 (Addr.add ⟨B9, 0, none⟩ 1) fun n18 =>
 IXS x15 l16 n18 2 fun a19 =>
 RDI .i64 (Addr.add a19 0) fun n20 =>
 RDI .i64 (Addr.add a19 1) fun n21 =>
 CALLV Pg W v12 [(.agg #[(.int .i64 n20), (.int .i64 n21)])]
 (fun v22 => TYI .i64 v22 fun n24 =>
 ANDS (RDI .i64 (Addr.add ⟨B10, 0, none⟩ 1) fun n25 =>
 fun _ => ((.int .i64 n25) : Value) = (.int .i64 n11)) <|
 R (.returned (.int .i64 (IntKind.wrap .i64 (n8 - (IntKind.wrap .i64 (Int.tdiv (IntKind.wrap .i64 ((IntKind.wrap .i64 (n11 * n24)) + 99)) 100)))))))
 (fun e23 => R (.panicked e23))
theorem does_team_furrow_do (W : World) (p1 : Option Addr) (n2 n3 n4 n5 n6 : Int) (v7 : Value) (n8 : Int) (R : Ending → Hp → Prop) (s : Hp) (h : T_team_furrow_do W p1 n2 n3 n4 n5 n6 v7 n8 R s) : Does Pg W F_team_furrow_do #[(.agg #[(.pointer p1), (.int .i64 n2)]), (.agg #[(.int .i64 n3), (.int .i64 n4), (.int .i64 n5), (.int .i64 n6), v7]), (.int .i64 n8)] s R :=
  does_of_vfun Pg W an_137 Tryz.func137 rfl (by kernel_rfl) (Eq.mpr (by kernel_rfl) h)
open Go.V
theorem flat_len {α β : Type} {f : α → List β} {M : Nat} : ∀ (l : List α), (∀ x ∈ l, (f x).length = M) → (l.flatMap f).length = l.length * M
  | [], _ => by simp
  | x :: l, h => by
    rw [List.flatMap_cons, List.length_append, h x (by simp), flat_len l (fun y hy => h y (by simp [hy])), List.length_cons, Nat.add_mul]
    omega
theorem flat_get {α β : Type} {f : α → List β} {M : Nat} : ∀ (l : List α), (∀ x ∈ l, (f x).length = M) → ∀ (i : Nat) (hi : i < l.length) (t : Nat), t < M → (l.flatMap f)[i * M + t]? = (f l[i])[t]?
  | [], _, i, hi, _, _ => by simp at hi
  | x :: l, h, 0, _, t, ht => by
    have hx := h x (by simp)
    rw [List.flatMap_cons, Nat.zero_mul, Nat.zero_add, List.getElem?_append_left (by omega)]
    rfl
  | x :: l, h, i + 1, hi, t, ht => by
    have hx := h x (by simp)
    have e : (i + 1) * M + t = M + (i * M + t) := by rw [Nat.add_mul]; omega
    rw [List.flatMap_cons, List.getElem?_append_right (by omega), hx, e, Nat.add_sub_cancel_left, flat_get l (fun y hy => h y (by simp [hy])) i (by simpa using hi) t ht]
    rfl
theorem rowF {α : Type} {f : α → List Value} {M : Nat} (hf : ∀ x, (f x).length = M) {s : Hp} {x : Option Addr} {l : List α} (h : RowAt s x (l.flatMap f)) (i : Nat) (hi : i < l.length) (hM : 0 < M) : ∃ a, x = some a ∧ ∀ t (ht : t < M), cellAt s ((a.add (i * M)).add t) = some ((f l[i])[t]'(by rw [hf]; exact ht)) := by
  have hl : (l.flatMap f).length = l.length * M := flat_len l fun x _ => hf x
  have hlt : ∀ t, t < M → i * M + t < (l.flatMap f).length := fun t ht => by
    rw [hl]
    have : (i + 1) * M ≤ l.length * M := Nat.mul_le_mul_right _ hi
    rw [Nat.add_mul] at this
    omega
  obtain ⟨a, ha, _⟩ := h (i * M) (by have := hlt 0 hM; omega)
  refine ⟨a, ha, fun t ht => ?_⟩
  obtain ⟨b, hb, hcell⟩ := h (i * M + t) (hlt t ht)
  rw [ha] at hb; cases hb
  have hg := flat_get (M := M) (f := f) l (fun x _ => hf x) i hi t ht
  rw [List.getElem?_eq_getElem (hlt t ht), List.getElem?_eq_getElem (by rw [hf]; exact ht)] at hg
  rw [Nat.mul_one] at hcell
  rw [addr_add, hcell]
  exact hg
structure StP where
  fr : Nat
  to : Nat
  rest : Int
structure HsP where
  st : Int
  loss : Int
  gain : Int
  full : Int
  hi : Bool
structure TmP where
  st : Sp
  loss : Sp
  gain : Sp
  full : Int
def stWork (g : GrP) (t : StP) : Sp := if t.rest = 0 then workN g t.fr (t.to + 1 - t.fr) else (0, 0)
def ofP (hi : Bool) (s : Sp) : Int := if hi then s.2 else s.1
def doP (g : GrP) (h : HsP) (t : StP) (now : Int) : Int := if t.rest > 0 then min h.full (now + h.gain * t.rest) else now - Int.tdiv (h.loss * ofP h.hi (stWork g t) + 99) 100
def nowP (g : GrP) (h : HsP) (sts : List StP) : Nat → Int
  | 0 => h.st
  | k + 1 => match sts[k]? with | some t => doP g h t (nowP g h sts k) | none => 0
def failP (g : GrP) (h : HsP) (sts : List StP) : Bool := (List.range sts.length).any fun k => decide (nowP g h sts (k + 1) < 0)
def worstP (t : TmP) : HsP := ⟨t.st.1, t.loss.2, t.gain.1, t.full, true⟩
def bestP (t : TmP) : HsP := ⟨t.st.2, t.loss.1, t.gain.2, t.full, false⟩
structure TmOk (t : TmP) : Prop where
  f0 : 0 ≤ t.full
  f1 : t.full ≤ 10000
  st : SpOk t.st t.full
  loss : SpOk t.loss 100
  gain : SpOk t.gain 1000
structure StOk (g : GrP) (t : StP) : Prop where
  r0 : 0 ≤ t.rest
  r1 : t.rest ≤ 600
  a : t.fr ≤ t.to
  b : t.to ≤ g.long
structure HsOk (h : HsP) : Prop where
  s0 : 0 ≤ h.st
  s1 : h.st ≤ 10000
  l0 : 0 ≤ h.loss
  l1 : h.loss ≤ 100
  g0 : 0 ≤ h.gain
  g1 : h.gain ≤ 1000
  f0 : 0 ≤ h.full
  f1 : h.full ≤ 10000
theorem TmOk.worst {t : TmP} (h : TmOk t) : HsOk (worstP t) := by
  obtain ⟨a, b, ⟨c1, c2, c3⟩, ⟨d1, d2, d3⟩, ⟨e1, e2, e3⟩⟩ := h
  exact ⟨c1, by show t.st.1 ≤ 10000; omega, by show 0 ≤ t.loss.2; omega, d3, e1, by show t.gain.1 ≤ 1000; omega, a, b⟩
theorem TmOk.best {t : TmP} (h : TmOk t) : HsOk (bestP t) := by
  obtain ⟨a, b, ⟨c1, c2, c3⟩, ⟨d1, d2, d3⟩, ⟨e1, e2, e3⟩⟩ := h
  exact ⟨by show 0 ≤ t.st.2; omega, by show t.st.2 ≤ 10000; omega, d1, by show t.loss.1 ≤ 100; omega, by show 0 ≤ t.gain.2; omega, e3, a, b⟩
theorem stWork_b {g : GrP} (hg : GrOk g) (hf : fineP g) {t : StP} (h : StOk g t) : 0 ≤ (stWork g t).1 ∧ (stWork g t).1 ≤ 41000 ∧ 0 ≤ (stWork g t).2 ∧ (stWork g t).2 ≤ 41000 := by
  unfold stWork
  have := hg.long
  have h1 := h.a
  have h2 := h.b
  split
  · have := work_b hf t.fr (t.to + 1 - t.fr) (by omega)
    omega
  · exact ⟨Int.le_refl _, by decide, Int.le_refl _, by decide⟩
theorem lose_b {g : GrP} (hg : GrOk g) (hf : fineP g) {t : StP} (h : StOk g t) {s : HsP} (hs : HsOk s) : 0 ≤ s.loss * ofP s.hi (stWork g t) ∧ s.loss * ofP s.hi (stWork g t) ≤ 100 * 41000 := by
  have hw := stWork_b hg hf h
  have ho : 0 ≤ ofP s.hi (stWork g t) ∧ ofP s.hi (stWork g t) ≤ 41000 := by unfold ofP; split <;> omega
  exact ⟨Int.mul_nonneg hs.l0 ho.1, Int.mul_le_mul hs.l1 ho.2 ho.1 (by decide)⟩
theorem now_b {g : GrP} (hg : GrOk g) (hf : fineP g) {s : HsP} (hs : HsOk s) {sts : List StP} (hst : ∀ t ∈ sts, StOk g t) : ∀ k, k ≤ sts.length → -(k * 50000 : Int) ≤ nowP g s sts k ∧ nowP g s sts k ≤ 10000
  | 0, _ => ⟨by have := hs.s0; show -((0 : Nat) * 50000 : Int) ≤ s.st; omega, hs.s1⟩
  | k + 1, hk => by
    have ih := now_b hg hf hs hst k (by omega)
    have hkl : k < sts.length := by omega
    have ho := hst _ (List.getElem_mem hkl)
    unfold nowP
    simp only [List.getElem?_eq_getElem hkl]
    unfold doP
    split
    · rename_i hr
      have h0 : 0 ≤ s.gain * sts[k].rest := Int.mul_nonneg hs.g0 ho.r0
      have := hs.f0
      have := hs.f1
      omega
    · have hl := lose_b hg hf ho hs
      generalize s.loss * ofP s.hi (stWork g sts[k]) = q at *
      have : Int.tdiv (q + 99) 100 = (q + 99) / 100 := Int.tdiv_eq_ediv_of_nonneg (by omega)
      rw [this]
      omega
def wkV (w : Sp) : List Value := [.int .i64 w.1, .int .i64 w.2]
def StpR (s : Hp) (x : Option Addr) (sts : List StP) : Prop := ∀ i (h : i < sts.length), ∃ a, x = some a ∧ cellAt s ((a.add (i * 3)).add 0) = some (.int .i64 (sts[i].fr : Nat)) ∧ cellAt s ((a.add (i * 3)).add 1) = some (.int .i64 (sts[i].to : Nat)) ∧ cellAt s ((a.add (i * 3)).add 2) = some (.int .i64 sts[i].rest)
theorem StpR.ext {s s' : Hp} {x : Option Addr} {sts : List StP} (h : StpR s x sts) (e : Ext s s') : StpR s' x sts := fun i hi => by
  obtain ⟨a, h0, h1, h2, h3⟩ := h i hi
  exact ⟨a, h0, e.cell h1, e.cell h2, e.cell h3⟩
structure PlT (s : Hp) (p : Addr) (g : GrP) (sts : List StP) : Prop where
  st : ∃ x c, cellAt s (p.add 4) = some (.slice x sts.length c) ∧ StpR s x sts
  wk : ∃ x c, cellAt s (p.add 5) = some (.slice x sts.length c) ∧ RowAt s x ((sts.map (stWork g)).flatMap wkV)
theorem PlT.ext {s s' : Hp} {p : Addr} {g : GrP} {sts : List StP} (h : PlT s p g sts) (e : Ext s s') : PlT s' p g sts := by
  obtain ⟨⟨x, c, h1, h2⟩, ⟨y, d, h3, h4⟩⟩ := h
  exact ⟨⟨x, c, e.cell h1, h2.ext e⟩, ⟨y, d, e.cell h3, h4.ext e⟩⟩
def ofV (hi : Bool) : Value := .func (.func (if hi then 57 else 56)) #[] #[]
abbrev hsV (h : HsP) : Value := .agg #[.int .i64 h.st, .int .i64 h.loss, .int .i64 h.gain, .int .i64 h.full, ofV h.hi]
def stpV (p : Addr) (i : Nat) (t : StP) : Value := if t.rest > 0 then .iface 178 (.agg #[.pointer (some p), .int .i64 (i : Nat)]) else .iface 179 (.agg #[.pointer (some p), .int .i64 (i : Nat)])
theorem mth_178 : mth Pg 178 "furrowworks/team.do" = some F_team_rest_do := by kernel_rfl
theorem mth_179 : mth Pg 179 "furrowworks/team.do" = some F_team_furrow_do := by kernel_rfl
theorem zc_130 : zc Pg 130 = [.nilIface] := by kernel_rfl
theorem zc_46 : zc Pg 46 = [.int .i64 0, .int .i64 0, .int .i64 0] := by kernel_rfl
theorem te_ne5 {t : TypeId} {s : Hp} {v0 v1 v2 v3 v4 : Value} {K : Nat → Hp → Prop} (h : ∀ s', Ext s s' → s'.size = s.size + 1 → Own s' ⟨s.size, 0, none⟩ v0 → Own s' ⟨s.size, 1, none⟩ v1 → Own s' ⟨s.size, 2, none⟩ v2 → Own s' ⟨s.size, 3, none⟩ v3 → Own s' ⟨s.size, 4, none⟩ v4 → K s.size s') : NEW t [v0, v1, v2, v3, v4] K s :=
  NEW_rule fun s1 e1 z1 n1 _ => h s1 e1 z1 (n1 0 _ rfl) (n1 1 _ rfl) (n1 2 _ rfl) (n1 3 _ rfl) (n1 4 _ rfl)
theorem te_ne7 {t : TypeId} {s : Hp} {v0 v1 v2 v3 v4 v5 v6 : Value} {K : Nat → Hp → Prop} (h : ∀ s', Ext s s' → s'.size = s.size + 1 → Own s' ⟨s.size, 0, none⟩ v0 → Own s' ⟨s.size, 1, none⟩ v1 → Own s' ⟨s.size, 2, none⟩ v2 → Own s' ⟨s.size, 3, none⟩ v3 → Own s' ⟨s.size, 4, none⟩ v4 → Own s' ⟨s.size, 5, none⟩ v5 → Own s' ⟨s.size, 6, none⟩ v6 → K s.size s') : NEW t [v0, v1, v2, v3, v4, v5, v6] K s :=
  NEW_rule fun s1 e1 z1 n1 _ => h s1 e1 z1 (n1 0 _ rfl) (n1 1 _ rfl) (n1 2 _ rfl) (n1 3 _ rfl) (n1 4 _ rfl) (n1 5 _ rfl) (n1 6 _ rfl)
section
variable {W : World} {K : VK} {E : List PanicEntry → Hp → Prop} {s : Hp} {g : GrP} {p : Addr} {sts : List StP} {h : HsP}
theorem te_of {hi : Bool} {w : Sp} (hk : ∀ s', Ext s s' → K (.int .i64 (ofP hi w)) s') : CALLV Pg W (ofV hi) [spV w] K E s := by
  unfold ofV
  cases hi with
  | true =>
    refine CALLV_func ?_
    refine does_team_casesOf_c2 W _ _ _ s ?_
    unfold T_team_casesOf_c2
    refine ne2 fun s1 f1 z1 o1 o2 => ?_
    (repeat ((with_reducible first | apply RDI_c | apply RDL_c | apply RDB_c | apply RDP_c | apply RDM_c | apply RDS_c | apply RDV_c); focus ((repeat (first | assumption | exact Own.cell (by assumption) | apply Ext.cell (by assumption))); done)))
    exact hk s1 f1
  | false =>
    refine CALLV_func ?_
    refine does_team_casesOf_c1 W _ _ _ s ?_
    unfold T_team_casesOf_c1
    refine ne2 fun s1 f1 z1 o1 o2 => ?_
    (repeat ((with_reducible first | apply RDI_c | apply RDL_c | apply RDB_c | apply RDP_c | apply RDM_c | apply RDS_c | apply RDV_c); focus ((repeat (first | assumption | exact Own.cell (by assumption) | apply Ext.cell (by assumption))); done)))
    exact hk s1 f1
theorem te_do {i : Nat} {now : Int} (hg : GrOk g) (hf : fineP g) (hs : HsOk h) (hp : PlT s p g sts) (hst : ∀ t ∈ sts, StOk g t) (hi : i < sts.length) (hn : -10000000 ≤ now ∧ now ≤ 10000) (hk : ∀ s', Ext s s' → K (.int .i64 (doP g h sts[i] now)) s') : INV Pg W (stpV p i sts[i]) "furrowworks/team.do" [hsV h, .int .i64 now] K E s := by
  have ho := hst _ (List.getElem_mem hi)
  obtain ⟨⟨x, c, a1, a2⟩, ⟨y, d, b1, b2⟩⟩ := hp
  unfold stpV
  unfold doP at hk
  by_cases hr : sts[i].rest > 0
  · rw [if_pos hr]
    rw [if_pos hr] at hk
    unfold INV
    simp only [mth_178]
    refine does_team_rest_do W _ _ _ _ _ _ _ _ _ s ?_
    unfold T_team_rest_do
    refine ne2 fun s1 f1 z1 o1 o2 => te_ne5 fun s2 f2 z2 q1 q2 q3 q4 q5 => ?_
    obtain ⟨a, hx, c1, c2, c3⟩ := (a2.ext (f1.trans f2)) i hi
    subst hx
    have a1' := (f1.trans f2).cell a1
    (repeat ((with_reducible first | apply RDI_c | apply RDL_c | apply RDB_c | apply RDP_c | apply RDM_c | apply RDS_c | apply RDV_c); focus ((repeat (first | assumption | exact Own.cell (by assumption) | apply Ext.cell (by assumption))); done)))
    try simp only [nd_]
    (repeat ((with_reducible first | apply RDI_c | apply RDL_c | apply RDB_c | apply RDP_c | apply RDM_c | apply RDS_c | apply RDV_c); focus ((repeat (first | assumption | exact Own.cell (by assumption) | apply Ext.cell (by assumption))); done)))
    refine IXS_nat hi ?_
    refine ⟨_, c3, ?_⟩
    have h0 : 0 ≤ h.gain * sts[i].rest ∧ h.gain * sts[i].rest ≤ 1000 * 600 := ⟨Int.mul_nonneg hs.g0 ho.r0, Int.mul_le_mul hs.g1 ho.r1 ho.r0 (by decide)⟩
    try dsimp only
    have hh := hk s2 (f1.trans f2)
    generalize h.gain * sts[i].rest = q at *
    rw [wrap_i64 (n := q) (by omega) (by omega), wrap_i64 (n := now + q) (by omega) (by omega)]
    have : (if now + q < h.full then now + q else h.full) = min h.full (now + q) := by split <;> omega
    rw [this]
    exact hh
  · rw [if_neg hr]
    rw [if_neg hr] at hk
    unfold INV
    simp only [mth_179]
    refine does_team_furrow_do W _ _ _ _ _ _ _ _ _ s ?_
    unfold T_team_furrow_do
    refine ne2 fun s1 f1 z1 o1 o2 => te_ne5 fun s2 f2 z2 q1 q2 q3 q4 q5 => ?_
    have b1' := (f1.trans f2).cell b1
    have hil : i < (sts.map (stWork g)).length := by simpa using hi
    obtain ⟨a, hy, hc⟩ := rowF (f := wkV) (M := 2) (fun _ => rfl) (b2.ext (f1.trans f2)) i hil (by decide)
    subst hy
    have w1 := hc 0 (by decide)
    have w2 := hc 1 (by decide)
    have hgi : (sts.map (stWork g))[i] = stWork g sts[i] := by simp
    rw [hgi] at w1 w2
    (repeat ((with_reducible first | apply RDI_c | apply RDL_c | apply RDB_c | apply RDP_c | apply RDM_c | apply RDS_c | apply RDV_c); focus ((repeat (first | assumption | exact Own.cell (by assumption) | apply Ext.cell (by assumption))); done)))
    try simp only [nd_]
    (repeat ((with_reducible first | apply RDI_c | apply RDL_c | apply RDB_c | apply RDP_c | apply RDM_c | apply RDS_c | apply RDV_c); focus ((repeat (first | assumption | exact Own.cell (by assumption) | apply Ext.cell (by assumption))); done)))
    refine IXS_nat hi ?_
    refine ⟨_, w1, ⟨_, w2, ?_⟩⟩
    refine te_of (hi := h.hi) (w := stWork g sts[i]) fun s3 f3 => ?_
    try simp only [nd_]
    refine ANDS_i ⟨_, (f3.own q2).cell, rfl⟩ ?_
    have hl := lose_b hg hf ho hs
    have hh := hk s3 ((f1.trans f2).trans f3)
    generalize h.loss * ofP h.hi (stWork g sts[i]) = q at *
    have ht : Int.tdiv (q + 99) 100 = (q + 99) / 100 := Int.tdiv_eq_ediv_of_nonneg (by omega)
    rw [wrap_i64 (n := q) (by omega) (by omega), wrap_i64 (n := q + 99) (by omega) (by omega), ht, wrap_i64 (n := (q + 99) / 100) (by omega) (by omega), wrap_i64 (n := now - (q + 99) / 100) (by omega) (by omega)]
    rw [ht] at hh
    exact hh
def stepsV (p : Addr) (sts : List StP) (k : Nat) : List Value := (List.range k).map fun i => stpV p i (sts.getD i ⟨0, 0, 0⟩)
theorem stepsV_succ (k : Nat) : stepsV p sts (k + 1) = stepsV p sts k ++ [stpV p k (sts.getD k ⟨0, 0, 0⟩)] := by
  unfold stepsV; rw [List.range_succ, List.map_append]; rfl
theorem stpV_one (p : Addr) (i : Nat) (t : StP) : oneCell (stpV p i t) = true := by unfold stpV; split <;> rfl
theorem te_steps (hp : PlT s p g sts) (h12 : sts.length ≤ 12) (hk : ∀ s' x c, Ext s s' → RowAt s' x (stepsV p sts sts.length) → (∀ a, x = some a → s.size ≤ a.block) → K (.slice x sts.length c) s') : CALL Pg W F_team_plot_steps [.pointer (some p)] K E s := by
  obtain ⟨⟨x, c, a1, a2⟩, _⟩ := hp
  refine does_team_plot_steps W _ _ s ?_
  unfold T_team_plot_steps
  try simp only [nd_]
  refine ⟨_, _, _, a1, ?_⟩
  refine L_team_plot_steps_0_rule W _ (some p) x _ c _ (fun x l cp n t => Ext s t ∧ ∃ k : Nat, n = k ∧ k ≤ sts.length ∧ l = k ∧ Fr s.size t x l cp 1 (stepsV p sts k)) (fun _ _ _ n _ => ((sts.length : Int) - n).toNat) none 0 0 0 s ⟨Ext.refl _, 0, rfl, by omega, rfl, Fr.nil _ _ _⟩ ?_
  rintro x1 l1 c1 n t ⟨et, k, rfl, hk1, rfl, fr⟩
  unfold B_team_plot_steps_0
  refine BR_dec (fun hlt => ?_) (fun hge => ?_)
  · have hkl : l1 < sts.length := by omega
    obtain ⟨a, hx, b1, b2, b3⟩ := (a2.ext et) l1 hkl
    subst hx
    refine IXS_nat hkl ⟨_, b1, ⟨_, b2, ⟨_, b3, ?_⟩⟩⟩
    refine nw3 zc_46 rfl rfl rfl fun t1 g1 z1 q1 q2 q3 => ?_
    refine ⟨_, q3.cell, ?_⟩
    have hgd : sts.getD l1 ⟨0, 0, 0⟩ = sts[l1] := by rw [List.getD_eq_getElem?_getD, List.getElem?_eq_getElem hkl]; rfl
    have fin : ∀ (v : Value), v = stpV p l1 sts[l1] → NEW 130 [v] (fun B16 => APP Pg 130 1 x1 l1 c1 (some ⟨B16, 0, none⟩) 1 fun x17 l18 c19 => fun s' => (fun vs => N_team_plot_steps_0 (fun x l cp n t => Ext s t ∧ ∃ k : Nat, n = k ∧ k ≤ sts.length ∧ l = k ∧ Fr s.size t x l cp 1 (stepsV p sts k)) (fun _ _ _ n _ => ((sts.length : Int) - n).toNat) x1 l1 c1 (l1 : Int) t vs) [(.slice x17 l18 c19), (.int .i64 (IntKind.wrap .i64 ((l1 : Int) + 1)))] s') t1 := by
      intro v hv
      refine ne1 fun t2 g2 z2 q4 => ?_
      have e2 := g1.trans g2
      refine APP_fr (lo := s.size) (fr.ext e2) (et.trans e2).1 (ws := [v]) (fun i hi => ⟨⟨t1.size, 0, none⟩, rfl, ?_⟩) rfl zc_130 rfl (by omega) (by rw [hv]; simp [stpV_one]) (by omega) fun t3 x3 c3 k3 hx3 fr3 => ?_
      · have hi0 : i = 0 := by simp at hi; omega
        subst hi0; exact q4.cell
      · refine ⟨_, _, _, _, rfl, ⟨kp_nil (et.trans e2) (fun b hb => by obtain ⟨a, ha, rfl⟩ := hb; exact fr.fr a ha) k3, l1 + 1, wrap_succ (by omega), hkl, rfl, ?_⟩, ms_succ hkl (by omega)⟩
        rw [stepsV_succ, hgd, ← hv]
        exact fr3
    refine BR_dec (fun hr => ?_) (fun hr => ?_)
    · have := fin (.iface 178 (.agg #[.pointer (some p), .int .i64 (l1 : Nat)])) (by unfold stpV; rw [if_pos hr])
      simp only [NX_mk]
      exact this
    · have := fin (.iface 179 (.agg #[.pointer (some p), .int .i64 (l1 : Nat)])) (by unfold stpV; rw [if_neg hr])
      simp only [NX_mk]
      exact this
  · have hkl : l1 = sts.length := by omega
    subst hkl
    exact hk t x1 c1 et fr.row fr.fr
end
open Go.V
abbrev tmV (t : TmP) : Value := .agg #[.int .i64 t.st.1, .int .i64 t.st.2, .int .i64 t.loss.1, .int .i64 t.loss.2, .int .i64 t.gain.1, .int .i64 t.gain.2, .int .i64 t.full]
abbrev ptV (g : GrP) (x : Option Addr) (c : Nat) (y : Option Addr) (sts : List StP) (d : Nat) : Value := .agg #[.int .i64 g.long, .int .i64 g.rise, .int .i64 g.change, .slice x g.pits.length c, .slice y sts.length d]
section
variable {W : World} {K : VK} {E : List PanicEntry → Hp → Prop} {s : Hp} {g : GrP} {p : Addr} {sts : List StP} {h : HsP} {x y : Option Addr} {c d : Nat}
theorem te_within {a b c : Int} (h1 : b ≤ a) (h2 : a ≤ c) (h : K (.bool true) s) : CALL Pg W F_team_within [.int .i64 a, .int .i64 b, .int .i64 c] K E s := by
  refine does_team_within W a b c _ s ?_
  unfold T_team_within
  refine BR_dec (fun _ => ?_) (fun h => absurd h1 h)
  have := h
  rw [← decide_eq_true h2] at this; exact this
theorem te_need {e : Int} (h : K (.tuple #[]) s) : CALL Pg W F_team_need [.bool true, .int .i64 e] K E s := by
  refine does_team_need W true e _ s ?_
  unfold T_team_need
  exact h
theorem te_isSpan {a : Sp} {n : Int} (ho : SpOk a n) (h : ∀ s', Ext s s' → K (.bool true) s') : CALL Pg W F_team_isSpan [spV a, .int .i64 n] K E s := by
  obtain ⟨h1, h2, h3⟩ := ho
  refine does_team_isSpan W _ _ _ _ s ?_
  unfold T_team_isSpan
  refine ne2 fun s1 e1 z1 o1 o2 => ⟨_, o1.cell, ?_⟩
  refine BR_dec (fun _ => ⟨_, o1.cell, ⟨_, o2.cell, ?_⟩⟩) (fun h => absurd h1 h)
  refine BR_dec (fun _ => ⟨_, o2.cell, ?_⟩) (fun h => absurd h2 h)
  have hh := h s1 e1
  rw [← decide_eq_true h3] at hh
  exact hh
theorem te_isTeam {t : TmP} (ht : TmOk t) (h : ∀ s', Ext s s' → K (.bool true) s') : CALL Pg W F_team_isTeam [tmV t] K E s := by
  obtain ⟨f0, f1', st, lo, ga⟩ := ht
  refine does_team_isTeam W _ _ _ _ _ _ _ _ s ?_
  unfold T_team_isTeam
  refine te_ne7 fun s1 f1 z1 o1 o2 o3 o4 o5 o6 o7 => ?_
  (repeat ((with_reducible first | apply RDI_c | apply RDL_c | apply RDB_c | apply RDP_c | apply RDM_c | apply RDS_c | apply RDV_c); focus ((repeat (first | assumption | exact Own.cell (by assumption) | apply Ext.cell (by assumption))); done)))
  refine te_within f0 f1' ?_
  try simp only [nd_]
  refine BR_tt rfl ?_
  (repeat ((with_reducible first | apply RDI_c | apply RDL_c | apply RDB_c | apply RDP_c | apply RDM_c | apply RDS_c | apply RDV_c); focus ((repeat (first | assumption | exact Own.cell (by assumption) | apply Ext.cell (by assumption))); done)))
  refine te_isSpan (a := t.st) st fun s2 f2 => ?_
  try simp only [nd_]
  unfold J_team_isTeam_1
  refine BR_tt rfl ?_
  (repeat ((with_reducible first | apply RDI_c | apply RDL_c | apply RDB_c | apply RDP_c | apply RDM_c | apply RDS_c | apply RDV_c); focus ((repeat (first | assumption | exact Own.cell (by assumption) | apply Ext.cell (by assumption))); done)))
  refine te_isSpan (a := t.loss) lo fun s3 f3 => ?_
  try simp only [nd_]
  unfold J_team_isTeam_0
  refine BR_tt rfl ?_
  (repeat ((with_reducible first | apply RDI_c | apply RDL_c | apply RDB_c | apply RDP_c | apply RDM_c | apply RDS_c | apply RDV_c); focus ((repeat (first | assumption | exact Own.cell (by assumption) | apply Ext.cell (by assumption))); done)))
  refine te_isSpan (a := t.gain) ga fun s4 f4 => ?_
  try simp only [nd_]
  exact h s4 (((f1.trans f2).trans f3).trans f4)
theorem te_bad {a : Addr} {t : StP} (ha : cellAt s a = some (.int .i64 g.long)) (ho : StOk g t) (h : ∀ s', Ext s s' → K (.bool false) s') : CALLV Pg W (.func (.func 84) #[] #[.pointer (some a)]) [.agg #[.int .i64 (t.fr : Nat), .int .i64 (t.to : Nat), .int .i64 t.rest]] K E s := by
  obtain ⟨r0, r1, hab, hb⟩ := ho
  refine CALLV_func ?_
  refine does_team_isPlot_c1 W _ _ _ a _ s ?_
  unfold T_team_isPlot_c1
  refine ne3 fun s1 f1 z1 o1 o2 o3 => ?_
  (repeat ((with_reducible first | apply RDI_c | apply RDL_c | apply RDB_c | apply RDP_c | apply RDM_c | apply RDS_c | apply RDV_c); focus ((repeat (first | assumption | exact Own.cell (by assumption) | apply Ext.cell (by assumption))); done)))
  refine te_within (by omega) (by omega) ?_
  try simp only [nd_]
  refine BR_tt rfl ?_
  (repeat ((with_reducible first | apply RDI_c | apply RDL_c | apply RDB_c | apply RDP_c | apply RDM_c | apply RDS_c | apply RDV_c); focus ((repeat (first | assumption | exact Own.cell (by assumption) | apply Ext.cell (by assumption))); done)))
  refine te_within (by omega) (by omega) ?_
  try simp only [nd_]
  unfold J_team_isPlot_c1_0
  (repeat ((with_reducible first | apply RDI_c | apply RDL_c | apply RDB_c | apply RDP_c | apply RDM_c | apply RDS_c | apply RDV_c); focus ((repeat (first | assumption | exact Own.cell (by assumption) | apply Ext.cell (by assumption))); done)))
  refine te_within r0 r1 ?_
  try simp only [nd_]
  refine BR_ff rfl ?_
  (repeat ((with_reducible first | apply RDI_c | apply RDL_c | apply RDB_c | apply RDP_c | apply RDM_c | apply RDS_c | apply RDV_c); focus ((repeat (first | assumption | exact Own.cell (by assumption) | apply Ext.cell (by assumption))); done)))
  refine BR_eq (fun hr => ?_) (fun hr => ?_)
  · exact h s1 f1
  · exact h s1 f1
theorem te_has {v : Value} (hl : sts.length ≤ 1000) (hy : StpR s y sts) (hv : ∀ t ∈ sts, ∀ s1 K E, Ext s s1 → (∀ s2, Ext s1 s2 → K (.bool false) s2) → CALLV Pg W v [.agg #[.int .i64 (t.fr : Nat), .int .i64 (t.to : Nat), .int .i64 t.rest]] K E s1) (h : ∀ s', Ext s s' → K (.bool false) s') :
    CALL Pg W F_slices_ContainsFunc_api_TeamStep_api_TeamStep [.slice y sts.length d, v] K E s := by
  refine does_slices_ContainsFunc_api_TeamStep_api_TeamStep W y _ d v _ s ?_
  unfold T_slices_ContainsFunc_api_TeamStep_api_TeamStep
  refine does_slices_IndexFunc_api_TeamStep_api_TeamStep W y _ d v _ s ?_
  unfold T_slices_IndexFunc_api_TeamStep_api_TeamStep
  refine L_slices_IndexFunc_api_TeamStep_api_TeamStep_0_rule W _ y _ d v _ (fun _ n t => Ext s t ∧ ∃ k : Nat, n = k ∧ k ≤ sts.length) (fun _ n _ => ((sts.length : Int) - n).toNat) 0 0 s ⟨Ext.refl _, 0, rfl, by omega⟩ ?_
  rintro n5 n t ⟨et, k, rfl, hk⟩
  unfold B_slices_IndexFunc_api_TeamStep_api_TeamStep_0
  refine BR_dec (fun hlt => ?_) (fun hge => ?_)
  · have hkl : k < sts.length := by omega
    obtain ⟨a, hx0, g1, g2, g3⟩ := (hy.ext et) k hkl
    subst hx0
    refine IXS_nat hkl ⟨_, g1, ⟨_, g2, ⟨_, g3, ?_⟩⟩⟩
    refine hv sts[k] (List.getElem_mem hkl) t _ _ et fun t2 e2 => ?_
    try simp only [nd_]
    refine BR_ff rfl ?_
    try simp only [nd_]
    exact ⟨_, _, rfl, ⟨et.trans e2, k + 1, wrap_succ (by omega), hkl⟩, ms_succ hkl (by omega)⟩
  · try simp only [nd_]
    exact h t et
theorem te_isPlot (hg : GrOk g) (hf : fineP g) (hp : PitR s x g.pits) (hy : StpR s y sts) (h12 : sts.length ≤ 12) (hst : ∀ t ∈ sts, StOk g t) (h : ∀ s', Ext s s' → K (.bool true) s') : CALL Pg W F_team_isPlot [ptV g x c y sts d] K E s := by
  refine does_team_isPlot W _ _ _ x _ c y _ d _ s ?_
  unfold T_team_isPlot
  refine te_ne5 fun s1 f1 z1 o1 o2 o3 o4 o5 => ?_
  (repeat ((with_reducible first | apply RDI_c | apply RDL_c | apply RDB_c | apply RDP_c | apply RDM_c | apply RDS_c | apply RDV_c); focus ((repeat (first | assumption | exact Own.cell (by assumption) | apply Ext.cell (by assumption))); done)))
  refine c_Hard (g := g) (k := 0) hg hf (hp.ext f1) (Nat.zero_le _) fun s2 f2 => ?_
  unfold spV
  try simp only [nd_]
  refine nw2 zc_27 rfl rfl fun s3 f3 z3 p1 p2 => ?_
  refine BR_ff rfl ?_
  (repeat ((with_reducible first | apply RDI_c | apply RDL_c | apply RDB_c | apply RDP_c | apply RDM_c | apply RDS_c | apply RDV_c); focus ((repeat (first | assumption | exact Own.cell (by assumption) | apply Ext.cell (by assumption))); done)))
  try dsimp only
  rw [decide_eq_false (show ¬ ((sts.length : Int) > 12) by omega)]
  unfold J_team_isPlot_0
  refine BR_ff rfl ?_
  (repeat ((with_reducible first | apply RDI_c | apply RDL_c | apply RDB_c | apply RDP_c | apply RDM_c | apply RDS_c | apply RDV_c); focus ((repeat (first | assumption | exact Own.cell (by assumption) | apply Ext.cell (by assumption))); done)))
  have e3 := (f1.trans f2).trans f3
  refine te_has (by omega) (hy.ext e3) (fun t ht s4 K E e4 hK => te_bad (g := g) (a := ⟨s.size, 0, none⟩) (((f2.trans f3).trans e4).cell o1.cell) (hst t ht) hK) fun s4 e4 => ?_
  try simp only [nd_]
  exact h s4 (e3.trans e4)
theorem zs_27 : zc Pg 27 = [.int .i64 0, .int .i64 0] := zc_27
theorem te_look (hg : GrOk g) (hf : fineP g) (hp : PitR s x g.pits) (hy : StpR s y sts) (h12 : sts.length ≤ 12) (hst : ∀ t ∈ sts, StOk g t) (hk : ∀ s' B, Ext s s' → PlT s' ⟨B, 0, none⟩ g sts → K (.pointer (some ⟨B, 0, none⟩)) s') : CALL Pg W F_team_look [ptV g x c y sts d] K E s := by
  refine does_team_look W _ _ _ x _ c y _ d _ s ?_
  unfold T_team_look
  refine te_ne5 fun s1 f1 z1 o1 o2 o3 o4 o5 => ?_
  (repeat ((with_reducible first | apply RDI_c | apply RDL_c | apply RDB_c | apply RDP_c | apply RDM_c | apply RDS_c | apply RDV_c); focus ((repeat (first | assumption | exact Own.cell (by assumption) | apply Ext.cell (by assumption))); done)))
  refine c_Hard (g := g) (k := 0) hg hf (hp.ext f1) (Nat.zero_le _) fun s2 f2 => ?_
  unfold spV
  try simp only [nd_]
  refine nw2 zc_27 rfl rfl fun s3 f3 z3 p1 p2 => ?_
  refine te_need ?_
  try simp only [nd_]
  (repeat ((with_reducible first | apply RDI_c | apply RDL_c | apply RDB_c | apply RDP_c | apply RDM_c | apply RDS_c | apply RDV_c); focus ((repeat (first | assumption | exact Own.cell (by assumption) | apply Ext.cell (by assumption))); done)))
  refine ne6 fun s4 f4 z4 q1 q2 q3 q4 q5 q6 => ?_
  (repeat ((with_reducible first | apply RDI_c | apply RDL_c | apply RDB_c | apply RDP_c | apply RDM_c | apply RDS_c | apply RDV_c); focus ((repeat (first | assumption | exact Own.cell (by assumption) | apply Ext.cell (by assumption))); done)))
  have e34 : Ext s1 s4 := (f2.trans f3).trans f4
  have e4 : Ext s s4 := f1.trans e34
  refine L_team_look_0_rule W _ ⟨s.size, 0, none⟩ ⟨s3.size, 0, none⟩ y _ d _ (fun n t => Ext s3 t ∧ cellAt t ⟨s3.size, 4, none⟩ = some (.slice y sts.length d) ∧ ∃ (k : Nat) (xw : Option Addr) (cw : Nat), n = k ∧ k ≤ sts.length ∧ Own t ⟨s3.size, 5, none⟩ (.slice xw k cw) ∧ Fr s4.size t xw k cw 2 (((sts.map (stWork g)).take k).flatMap wkV)) (fun n _ => ((sts.length : Int) - n).toNat) 0 s4
    ⟨f4, q5.cell, 0, none, 0, rfl, by omega, q6, Fr.nil _ _ _⟩ ?_
  have hz4 : s4.size = s3.size + 1 := z4
  rintro n t ⟨et, c4, k, xw, cw, rfl, hk1, ow, fr⟩
  unfold B_team_look_0
  have e1t : Ext s1 t := (f2.trans f3).trans et
  refine BR_dec (fun hlt => ?_) (fun hge => ?_)
  · have hkl : k < sts.length := by omega
    obtain ⟨a, hx0, g1, g2, g3⟩ := (hy.ext (f1.trans e1t)) k hkl
    subst hx0
    refine IXS_nat hkl ⟨_, g1, ⟨_, g2, ⟨_, g3, ?_⟩⟩⟩
    refine nw3 zc_46 rfl rfl rfl fun t1 h1 w1 r1 r2 r3 => nw2 zc_27 rfl rfl fun t2 h2 w2 r4 r5 => ?_
    refine ⟨_, (h2.own r3).cell, ?_⟩
    have ho := hst _ (List.getElem_mem hkl)
    have et2 : Ext t t2 := h1.trans h2
    have hlt3 : s3.size < t.size := ow.lt
    -- the end of a round
    have fin : ∀ u, Ext t u → Own u ⟨t1.size, 0, none⟩ (.int .i64 (stWork g sts[k]).1) → Own u ⟨t1.size, 1, none⟩ (.int .i64 (stWork g sts[k]).2) → J_team_look_0 W (endK K E) ⟨s3.size, 0, none⟩ t1.size ⟨s.size, 0, none⟩ (some a) sts.length d (sts.length : Int) (fun vs => N_team_look_0 (fun n t => Ext s3 t ∧ cellAt t ⟨s3.size, 4, none⟩ = some (.slice (some a) sts.length d) ∧ ∃ (k : Nat) (xw : Option Addr) (cw : Nat), n = k ∧ k ≤ sts.length ∧ Own t ⟨s3.size, 5, none⟩ (.slice xw k cw) ∧ Fr s4.size t xw k cw 2 (((sts.map (stWork g)).take k).flatMap wkV)) (fun n _ => ((sts.length : Int) - n).toNat) (k : Int) t vs) (k : Int) u := by
      intro u eu u1 u2
      unfold J_team_look_0
      refine ⟨_, _, _, (eu.own ow).cell, ?_⟩
      refine ⟨_, u1.cell, ⟨_, u2.cell, ?_⟩⟩
      refine ne2 fun v1 g1 y1 v2 v3 => ?_
      refine ANDS_i ⟨_, _, _, ((eu.trans g1).own ow).cell, rfl⟩ ?_
      have euv := eu.trans g1
      have h4t : s4.size ≤ t.size := by have := ow.lt; omega
      refine APP_fr (lo := s4.size) (fr.ext euv) (Nat.le_trans h4t euv.1) (ws := wkV (stWork g sts[k])) (fun i hi => ⟨⟨u.size, 0, none⟩, rfl, ?_⟩) rfl zs_27 rfl (by omega) (by simp [wkV, oneCell]) (by omega) fun v4 x4 c4' k4 hx4 fr4 => ?_
      · have hi2 : i = 0 ∨ i = 1 := by simp [wkV] at hi; omega
        rcases hi2 with rfl | rfl
        · exact v2.cell
        · exact v3.cell
      · have hnx : ¬ (∃ a, xw = some a ∧ a.block = s3.size) := fun ⟨a, ha, hb⟩ => by have := fr.fr a ha; omega
        have ow4 : Own v4 ⟨s3.size, 5, none⟩ (.slice xw k cw) := k4.own hnx (euv.own ow)
        have c44 : cellAt v4 ⟨s3.size, 4, none⟩ = some (.slice (some a) sts.length d) := k4.cell hnx (euv.cell c4)
        have e3v : Ext s3 v4 := kp_nil (et.trans euv) (fun b hb => by obtain ⟨a', ha, rfl⟩ := hb; have := fr.fr a' ha; omega) k4
        refine WR_own (a := ⟨s3.size, 5, none⟩) ow4 rfl ?_
        have o5' := own_set (v := .slice x4 (k + 1) c4') ow4
        have c45 : cellAt (setC v4 ⟨s3.size, 5, none⟩ (.slice x4 (k + 1) c4')) ⟨s3.size, 4, none⟩ = some (.slice (some a) sts.length d) := cell_set_ne (.inr (by simp)) c44
        have hfr : Fr s4.size (setC v4 ⟨s3.size, 5, none⟩ (.slice x4 (k + 1) c4')) x4 (k + 1) c4' 2 (((sts.map (stWork g)).take (k + 1)).flatMap wkV) := by
          have hkm : k < (sts.map (stWork g)).length := by simpa using hkl
          rw [take_snoc hkm, List.flatMap_append]
          have hg1 : (sts.map (stWork g))[k] = stWork g sts[k] := by simp
          rw [hg1]
          have : [stWork g sts[k]].flatMap wkV = wkV (stWork g sts[k]) := by simp
          rw [this]
          exact fr4.kp (D := (· = s3.size)) ((Kp.refl v4).setC (.inl rfl)) fun a' ha' => by have := fr4.fr a' ha'; show ¬ a'.block = s3.size; omega
        try simp only [nd_]
        exact ⟨_, rfl, ⟨Ext.setC e3v (Nat.le_refl _), c45, k + 1, x4, c4', wrap_succ (by omega), hkl, o5', hfr⟩, ms_succ hkl (by omega)⟩
    refine BR_eq (fun hr => ?_) (fun hr => ?_)
    · have hw : stWork g sts[k] = workN g sts[k].fr (sts[k].to + 1 - sts[k].fr) := by unfold stWork; rw [if_pos hr]
      have e12 : Ext s1 t2 := e1t.trans et2
      refine ⟨_, (e12.own o1).cell, ⟨_, (e12.own o2).cell, ⟨_, (e12.own o3).cell, ⟨_, _, _, (e12.own o4).cell, ⟨_, (h2.own r1).cell, ⟨_, (h2.own r2).cell, ?_⟩⟩⟩⟩⟩⟩
      refine c_Work (g := g) hg hf (hp.ext (f1.trans e12)) ho.a ho.b fun u eu => ?_
      unfold spV
      try simp only [nd_]
      refine outk2 (eu.own r4) (eu.own r5) rfl rfl fun u2 k2 u3 u4 => ?_
      rw [← hw] at u3 u4
      exact fin u2 (ext_kp (et2.trans eu) (by have := h1.1; omega) k2) u3 u4
    · have hw : stWork g sts[k] = (0, 0) := by unfold stWork; rw [if_neg hr]
      refine fin t2 et2 ?_ ?_
      · rw [hw]; exact r4
      · rw [hw]; exact r5
  · have hkl : k = sts.length := by omega
    subst hkl
    have hl : (sts.map (stWork g)).take sts.length = sts.map (stWork g) := List.take_of_length_le (by simp)
    rw [hl] at fr
    exact hk t s3.size (f1.trans e1t) ⟨⟨y, d, c4, hy.ext (f1.trans e1t)⟩, ⟨xw, cw, ow.cell, fr.row⟩⟩
theorem te_open {t : TmP} (ht : TmOk t) (hg : GrOk g) (hf : fineP g) (hp : PitR s x g.pits) (hy : StpR s y sts) (h12 : sts.length ≤ 12) (hst : ∀ t ∈ sts, StOk g t) (hk : ∀ s' B, Ext s s' → PlT s' ⟨B, 0, none⟩ g sts → K (.pointer (some ⟨B, 0, none⟩)) s') : CALL Pg W F_team_open [tmV t, ptV g x c y sts d, .bool true] K E s := by
  refine does_team_open W _ _ _ _ _ _ _ _ _ _ x _ c y _ d _ _ s ?_
  unfold T_team_open
  refine te_ne7 fun s1 f1 z1 a1 a2 a3 a4 a5 a6 a7 => te_ne5 fun s2 f2 z2 o1 o2 o3 o4 o5 => ?_
  (repeat ((with_reducible first | apply RDI_c | apply RDL_c | apply RDB_c | apply RDP_c | apply RDM_c | apply RDS_c | apply RDV_c); focus ((repeat (first | assumption | exact Own.cell (by assumption) | apply Ext.cell (by assumption))); done)))
  refine te_isTeam (t := t) ht fun s3 f3 => ?_
  try simp only [nd_]
  refine BR_tt rfl ?_
  (repeat ((with_reducible first | apply RDI_c | apply RDL_c | apply RDB_c | apply RDP_c | apply RDM_c | apply RDS_c | apply RDV_c); focus ((repeat (first | assumption | exact Own.cell (by assumption) | apply Ext.cell (by assumption))); done)))
  refine te_isPlot (g := g) (sts := sts) hg hf (hp.ext ((f1.trans f2).trans f3)) (hy.ext ((f1.trans f2).trans f3)) h12 hst fun s4 f4 => ?_
  try simp only [nd_]
  unfold J_team_open_0
  refine te_need ?_
  try simp only [nd_]
  refine te_need ?_
  try simp only [nd_]
  (repeat ((with_reducible first | apply RDI_c | apply RDL_c | apply RDB_c | apply RDP_c | apply RDM_c | apply RDS_c | apply RDV_c); focus ((repeat (first | assumption | exact Own.cell (by assumption) | apply Ext.cell (by assumption))); done)))
  have e4 : Ext s s4 := ((f1.trans f2).trans f3).trans f4
  refine te_look (g := g) (sts := sts) hg hf (hp.ext e4) (hy.ext e4) h12 hst fun s5 B f5 pl => ?_
  try simp only [nd_]
  exact hk s5 B (e4.trans f5) pl
end
open Go.V
theorem row_blind {s : Hp} {l : Nat} {o : Obj} {x : Option Addr} {vs : List Value} (hl : s[l]? = some o) (h : RowAt (s.setIfInBounds l junk) x vs) : RowAt s x vs := fun i hi => by
  obtain ⟨a, ha, hc⟩ := h i hi
  exact ⟨a, ha, cell_blind hl hc⟩
theorem stp_blind {s : Hp} {l : Nat} {o : Obj} {x : Option Addr} {sts : List StP} (hl : s[l]? = some o) (h : StpR (s.setIfInBounds l junk) x sts) : StpR s x sts := fun i hi => by
  obtain ⟨a, ha, h1, h2, h3⟩ := h i hi
  exact ⟨a, ha, cell_blind hl h1, cell_blind hl h2, cell_blind hl h3⟩
structure BhR (p a b : Addr) (g : GrP) (h : HsP) (sts : List StP) (s : Hp) : Prop where
  c0 : cellAt s (a.add 0) = some (.int .i64 h.st)
  c1 : cellAt s (a.add 1) = some (.int .i64 h.loss)
  c2 : cellAt s (a.add 2) = some (.int .i64 h.gain)
  c3 : cellAt s (a.add 3) = some (.int .i64 h.full)
  c4 : cellAt s (a.add 4) = some (ofV h.hi)
  pp : cellAt s b = some (.pointer (some p))
  pl : PlT s p g sts
theorem BhR.blind {p a b : Addr} {g : GrP} {h : HsP} {sts : List StP} : Blind (BhR p a b g h sts) := fun s l o hl ho r => by
  obtain ⟨c0, c1, c2, c3, c4, pp, ⟨⟨x, c, h1, h2⟩, ⟨y, d, h3, h4⟩⟩⟩ := r
  exact ⟨cell_blind hl c0, cell_blind hl c1, cell_blind hl c2, cell_blind hl c3, cell_blind hl c4, cell_blind hl pp, ⟨⟨x, c, cell_blind hl h1, stp_blind hl h2⟩, ⟨y, d, cell_blind hl h3, row_blind hl h4⟩⟩⟩
def bhY (g : GrP) (h : HsP) (sts : List StP) (k : Nat) (x : List Value) (_ : Hp) : Prop := x = [.int .i64 (k : Nat), .int .i64 (nowP g h sts (k + 1))]
section
variable {W : World} {K : VK} {E : List PanicEntry → Hp → Prop} {s : Hp} {g : GrP} {p : Addr} {sts : List StP} {h : HsP} {x y : Option Addr} {c d : Nat}
theorem it_behind {a b : Addr} (hg : GrOk g) (hf : fineP g) (hs : HsOk h) (h12 : sts.length ≤ 12) (hst : ∀ t ∈ sts, StOk g t) : IterG Pg W (.func (.func 58) #[] #[.pointer (some a), .pointer (some b)]) sts.length (bhY g h sts) (BhR p a b g h sts) true := by
  refine ⟨⟨_, _, _, rfl⟩, fun y I J s hone hR hI hJ hy h0 => ?_⟩
  refine does_team_plot_behind_c1 W y a b _ s ?_
  unfold T_team_plot_behind_c1
  have r0 := hR 0 s h0
  refine ⟨_, r0.c0, ⟨_, r0.pp, ?_⟩⟩
  refine te_steps (g := g) (sts := sts) r0.pl h12 fun s1 x c e1 hx hlo => ?_
  try simp only [nd_]
  have hI' : ∀ k t t', I k t → t.size ≤ t'.size → (∀ q, q < t.size → q < s.size → t'[q]? = t[q]?) → I k t' := fun k t t' ht h1 h2 => hI k t t' ht h1 fun q hq hn => h2 q hq (Nat.lt_of_not_le fun hh => hn ⟨rfl, hh⟩)
  have i1 : I 0 s1 := hI' 0 s s1 h0 e1.1 fun q hq _ => e1.2 q hq
  refine L_team_plot_behind_c1_0_rule W _ y a x _ c _ (fun n k t => ∃ q : Nat, k = q ∧ q ≤ sts.length ∧ n = nowP g h sts q ∧ I q t ∧ RowAt t x (stepsV p sts sts.length) ∧ s.size ≤ t.size) (fun _ k _ => ((sts.length : Int) - k).toNat) h.st 0 s1 ⟨0, rfl, by omega, rfl, i1, hx, e1.1⟩ ?_
  rintro n k t ⟨q, rfl, hq, rfl, it, rt, hst'⟩
  unfold B_team_plot_behind_c1_0
  have r1 := hR _ _ it
  refine BR_dec (fun hlt => ?_) (fun hge => ?_)
  · have hql : q < sts.length := by omega
    have hsl : (stepsV p sts sts.length).length = sts.length := by unfold stepsV; simp
    obtain ⟨a', hx', hc⟩ := rt q (by omega)
    subst hx'
    refine IXS_nat hql ?_
    have hgd : sts.getD q ⟨0, 0, 0⟩ = sts[q] := by rw [List.getD_eq_getElem?_getD, List.getElem?_eq_getElem hql]; rfl
    have hv : (stepsV p sts sts.length)[q]'(by omega) = stpV p q sts[q] := by
      unfold stepsV
      rw [List.getElem_map, List.getElem_range, hgd]
    rw [hv] at hc
    refine ⟨_, hc, ⟨_, r1.c0, ⟨_, r1.c1, ⟨_, r1.c2, ⟨_, r1.c3, ⟨_, r1.c4, ?_⟩⟩⟩⟩⟩⟩
    have hnb := now_b hg hf hs hst q (by omega)
    refine te_do (g := g) (sts := sts) (h := h) hg hf hs r1.pl hst hql (by omega) fun t2 e2 => ?_
    try simp only [nd_]
    have i2 := hI' q t t2 it e2.1 fun b hb _ => e2.2 b hb
    have hnow : doP g h sts[q] (nowP g h sts q) = nowP g h sts (q + 1) := by
      conv => rhs; unfold nowP
      simp only [List.getElem?_eq_getElem hql]
    rw [hnow]
    refine DoesV.mono (hy q _ t2 hql i2 rfl) ?_
    rintro e s3 hfr
    have hf1 := FRM_frame hfr rfl
    have hsz : s.size < t2.size := by
      have := hlo a' rfl
      have h2 := cell_lt hc
      rw [add_blk] at h2
      have := e2.1
      omega
    have hz3 : t2.size ≤ s3.size := by
      have h1 := hf1 (t2.size - 1) (by omega) (by omega)
      have h5 : t2[t2.size - 1]? = some t2[t2.size - 1] := Array.getElem?_eq_getElem (by omega)
      rw [h5] at h1
      have := (Array.getElem?_eq_some_iff.1 h1).1
      omega
    rcases FRM_val hfr with ⟨rfl, hh⟩ | ⟨rfl, hh⟩
    · try simp only [nd_]
      refine BR_not (fun h => by cases h) (fun _ => ?_)
      try simp only [nd_]
      refine ⟨_, _, rfl, ⟨q + 1, wrap_succ (by omega), hql, rfl, hh, ?_, by omega⟩, ms_succ hql (by omega)⟩
      have hrow := rt.ext e2
      intro i hi
      obtain ⟨a2, ha2, hc2⟩ := hrow i hi
      refine ⟨a2, ha2, ?_⟩
      have hlo2 := hlo a2 ha2
      have hb2 := cell_lt hc2
      rw [cell_of_block (hf1 _ (by rw [add_blk]; exact hlo2) hb2)]
      exact hc2
    · try simp only [nd_]
      refine BR_not (fun _ => ?_) (fun h => by cases h)
      exact ⟨⟨_, rfl⟩, .inr hh⟩
  · have hql : q = sts.length := by omega
    subst hql
    exact ⟨⟨_, rfl⟩, .inl it⟩
theorem rng_behind {s0 : Hp} {B : List Value → (Option Code → Hp → Prop) → Hp → Prop} {A : Option Code → Hp → Prop} (hg : GrOk g) (hf : fineP g) (hs : HsOk h) (h12 : sts.length ≤ 12) (hst : ∀ t ∈ sts, StOk g t) (hp : PlT s0 p g sts) (e0 : Ext s0 s) (D : Nat → Prop) (hD : ∀ b, D b → s0.size ≤ b ∧ b < s.size)
    (I : Nat → Hp → Prop) (S : Code → Hp → Prop) (h0 : ∀ s', Ext s s' → I 0 s') (hI : ∀ k t t', I k t → s.size ≤ t.size → (∀ b, b < s.size → t'[b]? = t[b]?) → I k t') (hS : ∀ k t t', S k t → s.size ≤ t.size → (∀ b, b < s.size → t'[b]? = t[b]?) → S k t')
    (hB : ∀ k t F, k < sts.length → Kp D s t → I k t → (∀ t', Kp D t t' → I (k + 1) t' → F none t') → (∀ c t', Kp D t t' → S c t' → F (some c) t') → B [.int .i64 (k : Nat), .int .i64 (nowP g h sts (k + 1))] F t)
    (hA : ∀ t, Kp D s t → I sts.length t → A none t) (hAS : ∀ c t, Kp D s t → S c t → A (some c) t) :
    CALL Pg W F_team_plot_behind [.pointer (some p), hsV h] (fun v => RNGN Pg W v 2 B A) E s := by
  refine does_team_plot_behind W _ _ _ _ _ _ _ s ?_
  unfold T_team_plot_behind
  refine ne1 fun s1 f1 z1 o1 => te_ne5 fun s2 f2 z2 q0 q1 q2 q3 q4 => ?_
  have hz1 : s1.size = s.size + 1 := z1
  have e2 : Ext s s2 := f1.trans f2
  show RNGN Pg W (.func (.func 58) #[] #[.pointer (some ⟨s1.size, 0, none⟩), .pointer (some ⟨s.size, 0, none⟩)]) 2 B A s2
  have kp2 : ∀ t, Kp D s2 t → Kp D s t := fun t k => e2.kp.trans k
  have hR : ∀ t, Kp D s2 t → BhR p ⟨s1.size, 0, none⟩ ⟨s.size, 0, none⟩ g h sts t := fun t k => by
    have n1 : ¬ D s1.size := fun h => by have := (hD _ h).2; omega
    have n0 : ¬ D s.size := fun h => by have := (hD _ h).2; omega
    have et : Ext s0 t := ⟨Nat.le_trans (e0.trans e2).1 k.1, fun b hb => by
      rw [k.2 b (Nat.lt_of_lt_of_le hb (e0.trans e2).1) (fun h => by have := (hD _ h).1; omega), (e0.trans e2).2 b hb]⟩
    exact ⟨k.cell (a := ⟨s1.size, 0, none⟩) n1 q0.cell, k.cell (a := ⟨s1.size, 1, none⟩) n1 q1.cell, k.cell (a := ⟨s1.size, 2, none⟩) n1 q2.cell, k.cell (a := ⟨s1.size, 3, none⟩) n1 q3.cell, k.cell (a := ⟨s1.size, 4, none⟩) n1 q4.cell, k.cell (a := ⟨s.size, 0, none⟩) n0 (f2.own o1).cell, hp.ext et⟩
  have hs2 := e2.1
  refine ⟨sts.length, bhY g h sts, BhR p ⟨s1.size, 0, none⟩ ⟨s.size, 0, none⟩ g h sts, true, fun k t => Kp D s2 t ∧ I k t, fun c t => Kp D s2 t ∧ S c t, it_behind hg hf hs h12 hst, BhR.blind, fun _ _ _ _ _ _ _ h => h, fun k t ht => hR t ht.1, fun k t t' ht h1 h2 => ?_, fun _ c t t' ht h1 h2 => ?_, ⟨(Kp.refl _).ext (Ext.push (Ext.push (Ext.refl _))), h0 _ (e2.trans (Ext.push (Ext.push (Ext.refl _))))⟩, fun k x t hk ht hx => ?_, fun t ht => hA t (kp2 t ht.1) ht.2, fun c t ht => hAS c t (kp2 t ht.1) ht.2⟩
  · refine ⟨⟨Nat.le_trans ht.1.1 h1, fun b hb hn => ?_⟩, hI k t t' ht.2 (by have := ht.1.1; omega) fun b hb => h2 b (by have := ht.1.1; omega) (by omega)⟩
    rw [h2 b (Nat.lt_of_lt_of_le hb ht.1.1) (by omega), ht.1.2 b hb hn]
  · refine ⟨⟨Nat.le_trans ht.1.1 h1, fun b hb hn => ?_⟩, hS c t t' ht.2 (by have := ht.1.1; omega) fun b hb => h2 b (by have := ht.1.1; omega) (by omega)⟩
    rw [h2 b (Nat.lt_of_lt_of_le hb ht.1.1) (by omega), ht.1.2 b hb hn]
  · have hx' : x = [.int .i64 (k : Nat), .int .i64 (nowP g h sts (k + 1))] := hx
    subst hx'
    refine ⟨rfl, ?_⟩
    have hfr : ∀ t', Kp D t t' → ∀ b, s2.size + 2 ≤ b → b < t.size → t'[b]? = t[b]? := fun t' k' b hb hlt => k'.2 b hlt fun hd => by have := (hD b hd).2; omega
    exact hB k t _ hk (kp2 t ht.1) ht.2 (fun t' k' hi => FRM_intro (fun _ => hfr t' k') ⟨ht.1.trans k', hi⟩) (fun c t' k' hi => FRM_intro (fun _ => hfr t' k') ⟨ht.1.trans k', hi⟩)
theorem te_failed {s0 : Hp} (hg : GrOk g) (hf : fineP g) (hs : HsOk h) (h12 : sts.length ≤ 12) (hst : ∀ t ∈ sts, StOk g t) (hp : PlT s p g sts) (hk : ∀ s' n, Ext s s' → K (.tuple #[.int .i64 n, .bool (failP g h sts)]) s') : CALL Pg W F_team_plot_failed [.pointer (some p), hsV h] K E s := by
  refine does_team_plot_failed W _ _ _ _ _ _ _ s ?_
  unfold T_team_plot_failed
  refine te_ne5 fun s1 f1 z1 o1 o2 o3 o4 o5 => nz1 zc_3 fun s2 f2 z2 q1 => nz1 zc_4 fun s3 f3 z3 q2 => ?_
  have hz1 : s1.size = s.size + 1 := z1
  have hz2 : s2.size = s1.size + 1 := z2
  have hz3 : s3.size = s2.size + 1 := z3
  (repeat ((with_reducible first | apply RDI_c | apply RDL_c | apply RDB_c | apply RDP_c | apply RDM_c | apply RDS_c | apply RDV_c); focus ((repeat (first | assumption | exact Own.cell (by assumption) | apply Ext.cell (by assumption))); done)))
  have e3 : Ext s s3 := (f1.trans f2).trans f3
  have q1' : Own s3 ⟨s1.size, 0, none⟩ (.int .i64 0) := f3.own q1
  have own_keep : ∀ {t t' : Hp} {a : Addr} {v : Value}, a.block < s3.size → (∀ b, b < s3.size → t'[b]? = t[b]?) → Own t a v → Own t' a v := fun hb h2 ho => ⟨by rw [cell_of_block (h2 _ hb)]; exact ho.1, by rw [frozen_of_block (h2 _ hb)]; exact ho.2⟩
  refine rng_behind (g := g) (sts := sts) (h := h) (s0 := s) hg hf hs h12 hst hp e3 (fun b => b = s1.size ∨ b = s2.size) (fun b hb => by rcases hb with rfl | rfl <;> omega)
    (fun k t => (∀ j, j < k → 0 ≤ nowP g h sts (j + 1)) ∧ (∃ v, Own t ⟨s1.size, 0, none⟩ v) ∧ (∃ v, Own t ⟨s2.size, 0, none⟩ v)) (fun c t => c = .ret ∧ failP g h sts = true ∧ (∃ n, Own t ⟨s1.size, 0, none⟩ (.int .i64 n)) ∧ Own t ⟨s2.size, 0, none⟩ (.bool true))
    (fun s' e => ⟨fun j hj => by omega, ⟨_, e.own q1'⟩, ⟨_, e.own q2⟩⟩) (fun k t t' ht h1 h2 => ⟨ht.1, ⟨_, own_keep (by show s1.size < s3.size; omega) h2 ht.2.1.choose_spec⟩, ⟨_, own_keep (by show s2.size < s3.size; omega) h2 ht.2.2.choose_spec⟩⟩) (fun c t t' ht h1 h2 => ⟨ht.1, ht.2.1, ⟨_, own_keep (by show s1.size < s3.size; omega) h2 ht.2.2.1.choose_spec⟩, own_keep (by show s2.size < s3.size; omega) h2 ht.2.2.2⟩) (fun k t F hk1 kt ht hF hG => ?_) (fun t kt ht => ?_) (fun c t kt ht => ?_)
  · obtain ⟨h1, ⟨v1, w1⟩, ⟨v2, w2⟩⟩ := ht
    try simp only [nd_]
    refine BR_dec (fun hn => ?_) (fun hn => ?_)
    · refine hF t (Kp.refl _) ⟨fun j hj => ?_, ⟨_, w1⟩, ⟨_, w2⟩⟩
      by_cases e : j = k
      · subst e; exact hn
      · exact h1 j (by omega)
    · have n12 : ¬ s2.size = s1.size := by omega
      have n21 : ¬ s1.size = s2.size := by omega
      refine outk1 w1 rfl fun t1 k1 p1 => ?_
      refine outk1 (k1.own n12 w2) rfl fun t2 k2 p2 => ?_
      refine hG .ret t2 ((k1.mono fun b hb => .inl hb).trans (k2.mono fun b hb => .inr hb)) ⟨rfl, ?_, ⟨_, k2.own n21 p1⟩, p2⟩
      unfold failP
      exact List.any_eq_true.2 ⟨k, by simpa using hk1, decide_eq_true (by omega)⟩
  · obtain ⟨h1, ⟨v1, w1⟩, ⟨v2, w2⟩⟩ := ht
    simp only [AFT]
    have n12 : ¬ s2.size = s1.size := by omega
    have n21 : ¬ s1.size = s2.size := by omega
    refine outk1 w1 rfl fun t1 k1 p1 => ?_
    refine outk1 (k1.own n12 w2) rfl fun t2 k2 p2 => ?_
    refine ⟨_, (k2.own n21 p1).cell, ⟨_, p2.cell, ?_⟩⟩
    have hv : failP g h sts = false := by
      unfold failP
      rw [List.any_eq_false]
      intro k hk'
      have := h1 k (by simpa using hk')
      simp only [decide_eq_true_eq]; omega
    have := hk t2 0 (kp_nil (kp_nil (kp_nil e3 (fun b hb => by rcases hb with rfl | rfl <;> omega) kt) (fun b hb => by have : b = s1.size := hb; omega) k1) (fun b hb => by have : b = s2.size := hb; omega) k2)
    rw [hv] at this
    exact this
  · obtain ⟨rfl, hv, ⟨n, w1⟩, w2⟩ := ht
    simp only [AFT]
    refine ⟨_, w1.cell, ⟨_, w2.cell, ?_⟩⟩
    have := hk t n (kp_nil e3 (fun b hb => by rcases hb with rfl | rfl <;> omega) kt)
    rw [hv] at this
    exact this
end
open Go.V
theorem zc_76 : zc Pg 76 = [.int .i64 0, .int .i64 0] := by kernel_rfl
theorem zc_79 : zc Pg 79 = [.int .i64 0, .int .i64 0, .int .i64 0, .int .i64 0, .nilFunc] := by kernel_rfl
theorem zc_80 : zc Pg 80 = [.int .i64 0, .int .i64 0, .int .i64 0, .int .i64 0, .nilFunc, .int .i64 0, .int .i64 0, .int .i64 0, .int .i64 0, .nilFunc] := by kernel_rfl
theorem zc_85 : zc Pg 85 = [.bool false, .bool false] := by kernel_rfl
theorem te_ty0 (K : Hp → Prop) : tyR Pg 0 (.tuple #[]) (fun _ => K) = K := by kernel_rfl
theorem te_vf_none (W : World) (a : Addr) (R : Ending → Hp → Prop) : vfun Pg W (fun _ => {}) Tryz.f28 [.nilIface, .pointer (some a)] R = R (.returned (.tuple #[])) := by kernel_rfl
section
variable {W : World} {K : Hp → Prop} {s : Hp}
theorem te_caught {a : Addr} {K : VK} {E : List PanicEntry → Hp → Prop} (h : K (.tuple #[]) s) : CALL Pg W 28 [.nilIface, .pointer (some a)] K E s := by
  refine does_of_vfun Pg W (fun _ => {}) Tryz.func28 rfl (by kernel_rfl) ?_
  rw [te_vf_none]
  exact h
theorem te_defLeft {a : Addr} (h : K s) : DEF Pg W (.tuple #[.func (.func 27) #[] #[.pointer (some a)], .tuple #[]]) none K s := by
  show DoesD Pg W 27 [.pointer (some a)] none s K
  refine told2_ok (id := 0) (d := 1) (d2 := 2) (ty := 20) (ty2 := 0) (pos := "team.go:195") (pos2 := "team.go:195") (ats := #[20, 55]) (aft := #[{ on := 0, ground := Go.Ground.data }, { on := 0, ground := Go.Ground.chain }]) Tryz.func27 (by kernel_rfl) (by kernel_rfl) (by kernel_rfl) (show 1 < 3 by decide) (show 0 < 3 by decide) (by decide) (show isExt Pg 28 = false by kernel_rfl) (.inl ⟨rfl, rfl⟩) (te_caught ?_)
  rw [te_ty0]; exact h
theorem te_defComes {a : Addr} (h : K s) : DEF Pg W (.tuple #[.func (.func 33) #[] #[.pointer (some a)], .tuple #[]]) none K s := by
  show DoesD Pg W 33 [.pointer (some a)] none s K
  refine told2_ok (id := 0) (d := 1) (d2 := 2) (ty := 20) (ty2 := 0) (pos := "team.go:178") (pos2 := "team.go:178") (ats := #[20, 55]) (aft := #[{ on := 0, ground := Go.Ground.data }, { on := 0, ground := Go.Ground.chain }]) Tryz.func33 (by kernel_rfl) (by kernel_rfl) (by kernel_rfl) (show 1 < 3 by decide) (show 0 < 3 by decide) (by decide) (show isExt Pg 28 = false by kernel_rfl) (.inl ⟨rfl, rfl⟩) (te_caught ?_)
  rw [te_ty0]; exact h
end
def leftP (g : GrP) (t : TmP) (sts : List StP) : Sp := (nowP g (worstP t) sts sts.length, nowP g (bestP t) sts sts.length)
def comesP (g : GrP) (t : TmP) (sts : List StP) : Int := if failP g (worstP t) sts = false ∧ failP g (bestP t) sts = false then 2 else if failP g (worstP t) sts = true ∧ failP g (bestP t) sts = true then 0 else 1
def caseP (t : TmP) (k : Nat) : HsP := if k = 0 then worstP t else bestP t
section
variable {W : World} {K : VK} {E : List PanicEntry → Hp → Prop} {s : Hp} {g : GrP} {p : Addr} {sts : List StP} {h : HsP} {x y : Option Addr} {c d : Nat} {t : TmP}
theorem te_casesOf (hk : ∀ s', Ext s s' → K (.agg #[.int .i64 t.st.1, .int .i64 t.loss.2, .int .i64 t.gain.1, .int .i64 t.full, ofV true, .int .i64 t.st.2, .int .i64 t.loss.1, .int .i64 t.gain.2, .int .i64 t.full, ofV false]) s') : CALL Pg W F_team_casesOf [tmV t] K E s := by
  refine does_team_casesOf W _ _ _ _ _ _ _ _ s ?_
  unfold T_team_casesOf
  refine te_ne7 fun s1 f1 z1 a1 a2 a3 a4 a5 a6 a7 => ?_
  refine NEWZ_rule zc_80 fun s2 f2 z2 n2 => ?_
  have hz1 : s1.size = s.size + 1 := z1
  (repeat ((with_reducible first | apply RDI_c | apply RDL_c | apply RDB_c | apply RDP_c | apply RDM_c | apply RDS_c | apply RDV_c); focus ((repeat (first | assumption | exact Own.cell (by assumption) | apply Ext.cell (by assumption))); done)))
  refine outN (s0 := s) (B := s1.size) (vs := [.int .i64 t.st.1, .int .i64 t.loss.2, .int .i64 t.gain.1, .int .i64 t.full, .func (.func 57) #[] #[], .int .i64 t.st.2, .int .i64 t.loss.1, .int .i64 t.gain.2, .int .i64 t.full, .func (.func 56) #[] #[]]) (f1.trans f2) (by omega) (fun i hi => ?_) (by simp [oneCell]) fun u e o => ?_
  · match i, hi with
    | 0, _ => exact ⟨_, n2 0 _ rfl⟩
    | 1, _ => exact ⟨_, n2 1 _ rfl⟩
    | 2, _ => exact ⟨_, n2 2 _ rfl⟩
    | 3, _ => exact ⟨_, n2 3 _ rfl⟩
    | 4, _ => exact ⟨_, n2 4 _ rfl⟩
    | 5, _ => exact ⟨_, n2 5 _ rfl⟩
    | 6, _ => exact ⟨_, n2 6 _ rfl⟩
    | 7, _ => exact ⟨_, n2 7 _ rfl⟩
    | 8, _ => exact ⟨_, n2 8 _ rfl⟩
    | 9, _ => exact ⟨_, n2 9 _ rfl⟩
  · refine ⟨_, (o 0 (by simp)).cell, ⟨_, (o 1 (by simp)).cell, ⟨_, (o 2 (by simp)).cell, ⟨_, (o 3 (by simp)).cell, ⟨_, (o 4 (by simp)).cell, ⟨_, (o 5 (by simp)).cell, ⟨_, (o 6 (by simp)).cell, ⟨_, (o 7 (by simp)).cell, ⟨_, (o 8 (by simp)).cell, ⟨_, (o 9 (by simp)).cell, ?_⟩⟩⟩⟩⟩⟩⟩⟩⟩⟩
    exact hk u e
theorem IXA_nat {a : Addr} {l i es : Nat} {K : Addr → Hp → Prop} {s : Hp} (h : i < l) (hk : K (a.add (i * es)) s) : IXA a l (i : Int) es K s := ⟨⟨by omega, by omega⟩, hk⟩
theorem add_one {b k : Nat} : Addr.add (Addr.add ⟨b, 0, none⟩ (k * 1)) 0 = ⟨b, k, none⟩ := by rw [add_nil, add_nil]; simp
theorem nw5 {t : TypeId} {z0 z1 z2 z3 z4 v0 v1 v2 v3 v4 : Value} {K : Nat → Hp → Prop} {s : Hp} (hz : zc Pg t = [z0, z1, z2, z3, z4]) (h0 : oneCell v0 = true) (h1 : oneCell v1 = true) (h2 : oneCell v2 = true) (h3 : oneCell v3 = true) (h4 : oneCell v4 = true) (h : ∀ s', Ext s s' → s'.size = s.size + 1 → Own s' ⟨s.size, 0, none⟩ v0 → Own s' ⟨s.size, 1, none⟩ v1 → Own s' ⟨s.size, 2, none⟩ v2 → Own s' ⟨s.size, 3, none⟩ v3 → Own s' ⟨s.size, 4, none⟩ v4 → K s.size s') :
    NEWZ Pg t (fun B => WR (Addr.add ⟨B, 0, none⟩ 0) v0 (WR (Addr.add ⟨B, 0, none⟩ 1) v1 (WR (Addr.add ⟨B, 0, none⟩ 2) v2 (WR (Addr.add ⟨B, 0, none⟩ 3) v3 (WR (Addr.add ⟨B, 0, none⟩ 4) v4 (K B)))))) s :=
  nwN (vs := [v0, v1, v2, v3, v4]) hz rfl (by simp [h0, h1, h2, h3, h4]) fun s' e z o => h s' e z (o 0 (by simp)) (o 1 (by simp)) (o 2 (by simp)) (o 3 (by simp)) (o 4 (by simp))
theorem ofV_one (b : Bool) : oneCell (ofV b) = true := by cases b <;> rfl
theorem c_Comes (ht : TmOk t) (hg : GrOk g) (hf : fineP g) (hp : PitR s x g.pits) (hy : StpR s y sts) (h12 : sts.length ≤ 12) (hst : ∀ t ∈ sts, StOk g t) (hk : ∀ s', Ext s s' → K (.tuple #[.int .i64 (comesP g t sts), .int .i64 0]) s') : CALL Pg W F_team_Comes [tmV t, ptV g x c y sts d] K E s := by
  refine does_team_Comes W _ _ _ _ _ _ _ _ _ _ x _ c y _ d _ s ?_
  unfold T_team_Comes
  refine te_ne7 fun s1 f1 z1 a1 a2 a3 a4 a5 a6 a7 => te_ne5 fun s2 f2 z2 o1 o2 o3 o4 o5 => nz1 zc_34 fun s3 f3 z3 q1 => ?_
  have hz1 : s1.size = s.size + 1 := z1
  have hz2 : s2.size = s1.size + 1 := z2
  have hz3 : s3.size = s2.size + 1 := z3
  (repeat ((with_reducible first | apply RDI_c | apply RDL_c | apply RDB_c | apply RDP_c | apply RDM_c | apply RDS_c | apply RDV_c); focus ((repeat (first | assumption | exact Own.cell (by assumption) | apply Ext.cell (by assumption))); done)))
  refine te_open (g := g) (sts := sts) (t := t) ht hg hf (hp.ext ((f1.trans f2).trans f3)) (hy.ext ((f1.trans f2).trans f3)) h12 hst fun s4 B f4 pl => ?_
  try simp only [nd_]
  refine nw2 zc_85 rfl rfl fun s5 f5 z5 w0 w1 => ?_
  (repeat ((with_reducible first | apply RDI_c | apply RDL_c | apply RDB_c | apply RDP_c | apply RDM_c | apply RDS_c | apply RDV_c); focus ((repeat (first | assumption | exact Own.cell (by assumption) | apply Ext.cell (by assumption))); done)))
  refine te_casesOf (t := t) fun s6 f6 => ?_
  unfold ofV
  try simp only [nd_]
  have e36 : Ext s3 s6 := (f4.trans f5).trans f6
  have e06 : Ext s s6 := ((f1.trans f2).trans f3).trans e36
  have hz4 := f4.1
  have pl6 := pl.ext (f5.trans f6)
  refine L_team_Comes_0_rule W _ ⟨s2.size, 0, none⟩ (some ⟨B, 0, none⟩) ⟨s4.size, 0, none⟩ t.st.1 t.loss.2 t.gain.1 t.full _ t.st.2 t.loss.1 t.gain.2 t.full _ (fun n u => ∃ k : Nat, n = k ∧ k ≤ 2 ∧ Kp (· = s4.size) s6 u ∧ ∃ b0 b1, Own u ⟨s4.size, 0, none⟩ (.bool b0) ∧ Own u ⟨s4.size, 1, none⟩ (.bool b1) ∧ (1 ≤ k → b0 = failP g (worstP t) sts) ∧ (2 ≤ k → b1 = failP g (bestP t) sts)) (fun n _ => (2 - n).toNat) 0 s6
    ⟨0, rfl, by omega, Kp.refl _, false, false, f6.own w0, f6.own w1, fun h => by omega, fun h => by omega⟩ ?_
  rintro n u ⟨k, rfl, hk2, ku, b0, b1, u0, u1, hb0, hb1⟩
  unfold B_team_Comes_0
  have h46 := (f5.trans f6).1
  have e6u : ∀ b, b < s4.size → u[b]? = s6[b]? := fun b hb => ku.2 b (by omega) (by omega)
  have plu : PlT u ⟨B, 0, none⟩ g sts := by
    have e4u : Ext s4 u := ⟨Nat.le_trans h46 ku.1, fun b hb => by rw [e6u b hb]; exact (f5.trans f6).2 b hb⟩
    exact pl.ext e4u
  refine BR_dec (fun hlt => ?_) (fun hge => ?_)
  · have hkl : k < 2 := by omega
    refine IXH_at hkl ?_
    have hfin : ∀ (u1' : Hp) (bb : Bool), Ext u u1' → bb = failP g (caseP t k) sts → (IXA ⟨s4.size, 0, none⟩ 2 (k : Int) 1 fun a112 => WR (Addr.add a112 0) (.bool bb) <| fun s' => (fun vs => N_team_Comes_0 (fun n u => ∃ k : Nat, n = k ∧ k ≤ 2 ∧ Kp (· = s4.size) s6 u ∧ ∃ b0 b1, Own u ⟨s4.size, 0, none⟩ (.bool b0) ∧ Own u ⟨s4.size, 1, none⟩ (.bool b1) ∧ (1 ≤ k → b0 = failP g (worstP t) sts) ∧ (2 ≤ k → b1 = failP g (bestP t) sts)) (fun n _ => (2 - n).toNat) (k : Int) u vs) [.int .i64 (IntKind.wrap .i64 ((k : Int) + 1))] s') u1' := by
      intro v bb ev hbb
      refine IXA_nat hkl ?_
      rw [add_one]
      have hms : ((2 : Int) - IntKind.i64.wrap ((k : Int) + 1)).toNat < ((2 : Int) - (k : Int)).toNat := by rw [wrap_succ (k := k) (by omega)]; omega
      have hk01 : k = 0 ∨ k = 1 := by omega
      rcases hk01 with rfl | rfl
      · refine WR_own (ev.own u0) rfl ?_
        exact ⟨_, rfl, ⟨1, rfl, by omega, (ku.ext ev).setC (.inl rfl), bb, b1, own_set (ev.own u0), own_set_ne (.inr (by simp)) (ev.own u1), fun _ => hbb, fun h => by omega⟩, hms⟩
      · refine WR_own (ev.own u1) rfl ?_
        exact ⟨_, rfl, ⟨2, rfl, by omega, (ku.ext ev).setC (.inl rfl), b0, bb, own_set_ne (.inr (by simp)) (ev.own u0), own_set (ev.own u1), fun _ => hb0 (by omega), fun _ => hbb⟩, hms⟩
    have hcase : ∀ (q : HsP), HsOk q → q = caseP t k → (NEWZ Pg 79 fun B97 => WR (Addr.add ⟨B97, 0, none⟩ 0) (.int .i64 q.st) <| WR (Addr.add ⟨B97, 0, none⟩ 1) (.int .i64 q.loss) <| WR (Addr.add ⟨B97, 0, none⟩ 2) (.int .i64 q.gain) <| WR (Addr.add ⟨B97, 0, none⟩ 3) (.int .i64 q.full) <| WR (Addr.add ⟨B97, 0, none⟩ 4) (ofV q.hi) <| RDI .i64 (Addr.add ⟨B97, 0, none⟩ 0) fun n98 => RDI .i64 (Addr.add ⟨B97, 0, none⟩ 1) fun n99 => RDI .i64 (Addr.add ⟨B97, 0, none⟩ 2) fun n100 => RDI .i64 (Addr.add ⟨B97, 0, none⟩ 3) fun n101 => RDV (Addr.add ⟨B97, 0, none⟩ 4) fun v102 => CALL Pg W F_team_plot_failed [.pointer (some ⟨B, 0, none⟩), .agg #[.int .i64 n98, .int .i64 n99, .int .i64 n100, .int .i64 n101, v102]]
          (fun v103 => TUP v103 fun q105 => HD q105 fun v106 r107 => TYI .i64 v106 fun n108 => HD r107 fun v109 r110 => TYB v109 fun b111 => NL r110 <| IXA ⟨s4.size, 0, none⟩ 2 (k : Int) 1 fun a112 => WR (Addr.add a112 0) (.bool b111) <| fun s' => (fun vs => N_team_Comes_0 (fun n u => ∃ k : Nat, n = k ∧ k ≤ 2 ∧ Kp (· = s4.size) s6 u ∧ ∃ b0 b1, Own u ⟨s4.size, 0, none⟩ (.bool b0) ∧ Own u ⟨s4.size, 1, none⟩ (.bool b1) ∧ (1 ≤ k → b0 = failP g (worstP t) sts) ∧ (2 ≤ k → b1 = failP g (bestP t) sts)) (fun n _ => (2 - n).toNat) (k : Int) u vs) [.int .i64 (IntKind.wrap .i64 ((k : Int) + 1))] s')
          (fun e104 => DEF Pg W (.tuple #[(.func (.func 33) #[] #[(.pointer (some ⟨s2.size, 0, none⟩))]), (.tuple #[])]) (some e104) (RDI .i64 ⟨s2.size, 0, none⟩ fun n113 => endK K E (.returned (.tuple #[(.int .i64 0), (.int .i64 n113)]))))) u := by
      intro q hq hqe
      refine nw5 zc_79 rfl rfl rfl rfl (ofV_one _) fun v1 g1 y1 r0 r1 r2 r3 r4 => ?_
      refine ⟨_, r0.cell, ⟨_, r1.cell, ⟨_, r2.cell, ⟨_, r3.cell, ⟨_, r4.cell, ?_⟩⟩⟩⟩⟩
      refine te_failed (s0 := v1) (h := q) hg hf hq h12 hst (plu.ext g1) fun v2 n e2 => ?_
      try simp only [nd_]
      exact hfin v2 _ (g1.trans e2) (by rw [hqe])
    have hk01 : k = 0 ∨ k = 1 := by omega
    rcases hk01 with rfl | rfl
    · show (AGG (.agg ([.int .i64 t.st.1, .int .i64 t.loss.2, .int .i64 t.gain.1, .int .i64 t.full, .func (.func 57) #[] #[]] : List Value).toArray) _) u
      simp only [AGG_mk, HD_mk, NL_mk, TYC_mk, NX_mk]
      exact hcase (worstP t) ht.worst rfl
    · show (AGG (.agg ([.int .i64 t.st.2, .int .i64 t.loss.1, .int .i64 t.gain.2, .int .i64 t.full, .func (.func 56) #[] #[]] : List Value).toArray) _) u
      simp only [AGG_mk, HD_mk, NL_mk, TYC_mk, NX_mk]
      exact hcase (bestP t) ht.best rfl
  · have hke : k = 2 := by omega
    subst hke
    have h0 := hb0 (by omega)
    have h1 := hb1 (by omega)
    refine ⟨_, u0.cell, ⟨_, u1.cell, ?_⟩⟩
    have q1u : Own u ⟨s2.size, 0, none⟩ (.int .i64 0) := ku.own (by show ¬ s2.size = s4.size; omega) (e36.own q1)
    have eu : Ext s u := kp_nil e06 (fun b hb => by have : b = s4.size := hb; omega) ku
    have fin : ∀ (m : Int), m = comesP g t sts → (WR (Addr.add ⟨s2.size, 0, none⟩ 0) (.int .i64 0) <| DEF Pg W (.tuple #[(.func (.func 33) #[] #[(.pointer (some ⟨s2.size, 0, none⟩))]), (.tuple #[])]) none (RDI .i64 ⟨s2.size, 0, none⟩ fun n116 => endK K E (.returned (.tuple #[(.int .i64 m), (.int .i64 n116)])))) u := by
      intro m hm
      refine outk1 q1u rfl fun v1 k1 p1 => ?_
      refine te_defComes ?_
      refine ⟨_, p1.cell, ?_⟩
      rw [hm]
      exact hk v1 (ext_kp eu (by omega) k1)
    unfold comesP at fin
    rw [← h0, ← h1] at fin
    cases b0 <;> cases b1 <;> exact fin _ (by simp)
end
open Go.V
section
variable {W : World} {K : VK} {E : List PanicEntry → Hp → Prop} {s : Hp} {g : GrP} {p : Addr} {sts : List StP} {h : HsP} {x y : Option Addr} {c d : Nat} {t : TmP}
theorem c_Left (ht : TmOk t) (hg : GrOk g) (hf : fineP g) (hp : PitR s x g.pits) (hy : StpR s y sts) (h12 : sts.length ≤ 12) (hst : ∀ t ∈ sts, StOk g t) (hk : ∀ s', Ext s s' → K (.tuple #[spV (leftP g t sts), .int .i64 0]) s') : CALL Pg W F_team_Left [tmV t, ptV g x c y sts d, .int .i64 (sts.length : Nat)] K E s := by
  refine does_team_Left W _ _ _ _ _ _ _ _ _ _ x _ c y _ d _ _ s ?_
  unfold T_team_Left
  refine te_ne7 fun s1 f1 z1 a1 a2 a3 a4 a5 a6 a7 => te_ne5 fun s2 f2 z2 o1 o2 o3 o4 o5 => ne1 fun s2' f2' z2' oS => nz2 zc_27 fun s3 f3 z3 q1 q2 => nz1 zc_34 fun s3' f3' z3' q3 => ?_
  have hz1 : s1.size = s.size + 1 := z1
  have hz2 : s2.size = s1.size + 1 := z2
  have hz2' : s2'.size = s2.size + 1 := z2'
  have hz3 : s3.size = s2'.size + 1 := z3
  have hz3' : s3'.size = s3.size + 1 := z3'
  (repeat ((with_reducible first | apply RDI_c | apply RDL_c | apply RDB_c | apply RDP_c | apply RDM_c | apply RDS_c | apply RDV_c); focus ((repeat (first | assumption | exact Own.cell (by assumption) | apply Ext.cell (by assumption))); done)))
  refine te_within (by omega) (Int.le_refl _) ?_
  try simp only [nd_]
  (repeat (((with_reducible refine ANDS_i ?_ ?_); focus ((repeat ((with_reducible first | apply RDI_c | apply RDL_c | apply RDB_c | apply RDP_c | apply RDM_c | apply RDS_c | apply RDV_c); focus ((repeat (first | assumption | exact Own.cell (by assumption) | apply Ext.cell (by assumption))); done))); exact rfl))))
  refine te_open (g := g) (sts := sts) (t := t) ht hg hf (hp.ext ((((f1.trans f2).trans f2').trans f3).trans f3')) (hy.ext ((((f1.trans f2).trans f2').trans f3).trans f3')) h12 hst fun s4 B f4 pl => ?_
  try simp only [nd_]
  refine nz2 zc_76 fun s5 f5 z5 w0 w1 => ?_
  (repeat ((with_reducible first | apply RDI_c | apply RDL_c | apply RDB_c | apply RDP_c | apply RDM_c | apply RDS_c | apply RDV_c); focus ((repeat (first | assumption | exact Own.cell (by assumption) | apply Ext.cell (by assumption))); done)))
  refine te_casesOf (t := t) fun s6 f6 => ?_
  unfold ofV
  try simp only [nd_]
  have e36 : Ext s3' s6 := (f4.trans f5).trans f6
  have e06 : Ext s s6 := ((((f1.trans f2).trans f2').trans f3).trans f3').trans e36
  have hz4 := f4.1
  refine L_team_Left_0_rule W _ ⟨s2.size, 0, none⟩ ⟨s2'.size, 0, none⟩ ⟨s3.size, 0, none⟩ (some ⟨B, 0, none⟩) ⟨s4.size, 0, none⟩ t.st.1 t.loss.2 t.gain.1 t.full _ t.st.2 t.loss.1 t.gain.2 t.full _ (fun n u => ∃ k : Nat, n = k ∧ k ≤ 2 ∧ Kp (· = s4.size) s6 u ∧ ∃ b0 b1, Own u ⟨s4.size, 0, none⟩ (.int .i64 b0) ∧ Own u ⟨s4.size, 1, none⟩ (.int .i64 b1) ∧ (1 ≤ k → b0 = (leftP g t sts).1) ∧ (2 ≤ k → b1 = (leftP g t sts).2)) (fun n _ => (2 - n).toNat) 0 s6
    ⟨0, rfl, by omega, Kp.refl _, 0, 0, f6.own w0, f6.own w1, fun h => by omega, fun h => by omega⟩ ?_
  rintro n u ⟨k, rfl, hk2, ku, b0, b1, u0, u1, hb0, hb1⟩
  unfold B_team_Left_0
  have h46 := (f5.trans f6).1
  have hsz5 : s4.size < u.size := u0.lt
  have e6u : ∀ b, b < s4.size → u[b]? = s6[b]? := fun b hb => ku.2 b (by omega) (by omega)
  have e4u : Ext s4 u := ⟨Nat.le_trans h46 ku.1, fun b hb => by rw [e6u b hb]; exact (f5.trans f6).2 b hb⟩
  have oSu : Own u ⟨s2.size, 0, none⟩ (.int .i64 (sts.length : Nat)) := e4u.own (f4.own (f3'.own (f3.own oS)))
  refine BR_dec (fun hlt => ?_) (fun hge => ?_)
  · have hkl : k < 2 := by omega
    refine IXH_at hkl ?_
    generalize hnx : (fun vs => N_team_Left_0 _ _ (k : Int) u vs) = nx
    have hcase : ∀ (q : HsP), HsOk q → q = caseP t k → (NEWZ Pg 3 fun B130 => NEWZ Pg 79 fun B131 => WR (Addr.add ⟨B130, 0, none⟩ 0) (.int .i64 (k : Int)) <| WR (Addr.add ⟨B131, 0, none⟩ 0) (.int .i64 q.st) <| WR (Addr.add ⟨B131, 0, none⟩ 1) (.int .i64 q.loss) <| WR (Addr.add ⟨B131, 0, none⟩ 2) (.int .i64 q.gain) <| WR (Addr.add ⟨B131, 0, none⟩ 3) (.int .i64 q.full) <| WR (Addr.add ⟨B131, 0, none⟩ 4) (ofV q.hi) <| RDI .i64 ⟨B130, 0, none⟩ fun n132 => RDI .i64 (Addr.add ⟨B131, 0, none⟩ 0) fun n133 => IXA ⟨s4.size, 0, none⟩ 2 n132 1 fun a134 => WR (Addr.add a134 0) (.int .i64 n133) <|
        RDI .i64 (Addr.add ⟨B131, 0, none⟩ 0) fun n98 => RDI .i64 (Addr.add ⟨B131, 0, none⟩ 1) fun n99 => RDI .i64 (Addr.add ⟨B131, 0, none⟩ 2) fun n100 => RDI .i64 (Addr.add ⟨B131, 0, none⟩ 3) fun n101 => RDV (Addr.add ⟨B131, 0, none⟩ 4) fun v102 => CALL Pg W F_team_plot_behind [.pointer (some ⟨B, 0, none⟩), .agg #[.int .i64 n98, .int .i64 n99, .int .i64 n100, .int .i64 n101, v102]]
          (fun v140 => RNGN Pg W v140 2 (fun y142 fin143 => HD y142 fun v144 r145 => TYI .i64 v144 fun n146 => HD r145 fun v147 r148 => TYI .i64 v147 fun n149 => NL r148 <| RDI .i64 ⟨s2.size, 0, none⟩ fun n150 => BR (decide (n146 < n150)) (RDI .i64 ⟨B130, 0, none⟩ fun n151 => IXA ⟨s4.size, 0, none⟩ 2 n151 1 fun a152 => WR (Addr.add a152 0) (.int .i64 n149) <| fin143 none) (fin143 none))
            (AFT (nx [.int .i64 (IntKind.wrap .i64 ((k : Int) + 1))]) (FF) (EXL [] fun _ => FF)))
          (fun e141 => DEF Pg W (.tuple #[(.func (.func 27) #[] #[(.pointer (some ⟨s3.size, 0, none⟩))]), (.tuple #[])]) (some e141) (RDI .i64 (Addr.add ⟨s2'.size, 0, none⟩ 0) fun n153 => RDI .i64 (Addr.add ⟨s2'.size, 0, none⟩ 1) fun n154 => RDI .i64 ⟨s3.size, 0, none⟩ fun n155 => endK K E (.returned (.tuple #[(.agg #[(.int .i64 n153), (.int .i64 n154)]), (.int .i64 n155)]))))) u := by
      intro q hq hqe
      refine nz1 zc_3 fun v1 g1 y1 r => ?_
      refine NEWZ_rule zc_79 fun v2 g2 y2 nn => ?_
      have hy1 : v1.size = u.size + 1 := y1
      refine outk1 (g2.own r) rfl fun v3 k3 r' => ?_
      have n13 : ¬ v1.size = u.size := by omega
      refine outNk (s0 := u) (B := v1.size) (vs := [.int .i64 q.st, .int .i64 q.loss, .int .i64 q.gain, .int .i64 q.full, ofV q.hi]) (ext_kp (g1.trans g2) (Nat.le_refl _) k3) (by omega) (fun i hi => ?_) (fun v hv => by simp only [List.mem_cons, List.not_mem_nil, or_false] at hv; rcases hv with rfl | rfl | rfl | rfl | rfl; rfl; rfl; rfl; rfl; exact ofV_one _) fun v4 e4 k4 _ o => ?_
      · match i, hi with
        | 0, _ => exact ⟨_, k3.own n13 (nn 0 _ rfl)⟩
        | 1, _ => exact ⟨_, k3.own n13 (nn 1 _ rfl)⟩
        | 2, _ => exact ⟨_, k3.own n13 (nn 2 _ rfl)⟩
        | 3, _ => exact ⟨_, k3.own n13 (nn 3 _ rfl)⟩
        | 4, _ => exact ⟨_, k3.own n13 (nn 4 _ rfl)⟩
      have n31 : ¬ u.size = v1.size := by omega
      have r4 := k4.own n31 r'
      have r0 := o 0 (by simp)
      have r1 := o 1 (by simp)
      have r2 := o 2 (by simp)
      have r3 := o 3 (by simp)
      have r5 := o 4 (by simp)
      refine ⟨_, r4.cell, ⟨_, r0.cell, ?_⟩⟩
      refine IXA_nat hkl ?_
      rw [add_one]
      -- both ends
      have hends : ∃ y yo, Own u ⟨s4.size, k, none⟩ y ∧ Own u ⟨s4.size, 1 - k, none⟩ (.int .i64 yo) ∧ (k = 0 → yo = b1) ∧ (k = 1 → yo = b0) := by
        have hk01 : k = 0 ∨ k = 1 := by omega
        rcases hk01 with rfl | rfl
        · exact ⟨_, b1, u0, u1, fun _ => rfl, fun h => by omega⟩
        · exact ⟨_, b0, u1, u0, fun h => by omega, fun _ => rfl⟩
      obtain ⟨ye, yo, w1', w2', hyo0, hyo1⟩ := hends
      have hne : (1 - k : Nat) ≠ k := by omega
      refine WR_own (e4.own w1') rfl ?_
      have p1 := own_set (v := .int .i64 q.st) (e4.own w1')
      have p2 := own_set_ne (a := ⟨s4.size, k, none⟩) (w := .int .i64 q.st) (.inr hne) (e4.own w2')
      have k5 : Kp (· = s4.size) v4 (setC v4 ⟨s4.size, k, none⟩ (.int .i64 q.st)) := (Kp.refl v4).setC (.inl rfl)
      generalize setC v4 ⟨s4.size, k, none⟩ (.int .i64 q.st) = v5 at p1 p2 k5 ⊢
      have nv1 : ¬ v1.size = s4.size := by omega
      have nu : ¬ u.size = s4.size := by omega
      refine ⟨_, (k5.own nv1 r0).cell, ⟨_, (k5.own nv1 r1).cell, ⟨_, (k5.own nv1 r2).cell, ⟨_, (k5.own nv1 r3).cell, ⟨_, (k5.own nv1 r5).cell, ?_⟩⟩⟩⟩⟩
      have e45 : Ext s4 v5 := kp_nil (e4u.trans e4) (fun b hb => by have : b = s4.size := hb; omega) k5
      have hs5 : s4.size < v5.size := p1.lt
      have r6 := k5.own nu r4
      have ns2 : ¬ s2.size = s4.size := by omega
      have oS5 := k5.own (a := ⟨s2.size, 0, none⟩) ns2 (e4.own oSu)
      have keep : ∀ {w w' : Hp} {j : Nat} {v : Value}, (∀ b, b < v5.size → w'[b]? = w[b]?) → Own w ⟨s4.size, j, none⟩ v → Own w' ⟨s4.size, j, none⟩ v := fun h2 ho => ⟨by rw [cell_of_block (h2 _ hs5)]; exact ho.1, by rw [frozen_of_block (h2 _ hs5)]; exact ho.2⟩
      refine rng_behind (g := g) (sts := sts) (h := q) (s0 := s4) hg hf hq h12 hst pl e45 (· = s4.size) (fun b hb => by have : b = s4.size := hb; omega)
        (fun i w => Own w ⟨s4.size, k, none⟩ (.int .i64 (nowP g q sts i)) ∧ Own w ⟨s4.size, 1 - k, none⟩ (.int .i64 yo)) (fun _ _ => False) (fun w e => ⟨e.own p1, e.own p2⟩) (fun i w w' hw h1 h2 => ⟨keep h2 hw.1, keep h2 hw.2⟩) (fun _ _ _ h => h.elim) (fun i w F hi kw hw hF hG => ?_) (fun w kw hw => ?_) (fun _ _ _ h => h.elim)
      · try simp only [nd_]
        refine ⟨_, (kw.own ns2 oS5).cell, ?_⟩
        refine BR_dec (fun _ => ?_) (fun h => absurd (by omega) h)
        refine ⟨_, (kw.own nu r6).cell, ?_⟩
        refine IXA_nat hkl ?_
        have ha1 : Addr.add ⟨s4.size, 0, none⟩ (k * 1) = ⟨s4.size, k, none⟩ := by rw [add_nil]; simp
        rw [ha1]
        refine WR_own hw.1 rfl ?_
        exact hF _ ((Kp.refl w).setC (.inl rfl)) ⟨own_set hw.1, own_set_ne (.inr hne) hw.2⟩
      · simp only [AFT]
        subst hnx
        have hkw : Kp (· = s4.size) s6 w := ((ku.ext e4).trans k5).trans kw
        have hms : ((2 : Int) - IntKind.i64.wrap ((k : Int) + 1)).toNat < ((2 : Int) - (k : Int)).toNat := by rw [wrap_succ (k := k) (by omega)]; omega
        have hk01 : k = 0 ∨ k = 1 := by omega
        rcases hk01 with rfl | rfl
        · exact ⟨_, rfl, ⟨1, rfl, by omega, hkw, _, _, hw.1, hw.2, fun _ => by rw [hqe]; rfl, fun h => by omega⟩, hms⟩
        · exact ⟨_, rfl, ⟨2, rfl, by omega, hkw, _, _, hw.2, hw.1, fun _ => by rw [hyo1 rfl]; exact hb0 (by omega), fun _ => by rw [hqe]; rfl⟩, hms⟩
    have hk01 : k = 0 ∨ k = 1 := by omega
    rcases hk01 with rfl | rfl
    · show (AGG (.agg ([.int .i64 t.st.1, .int .i64 t.loss.2, .int .i64 t.gain.1, .int .i64 t.full, .func (.func 57) #[] #[]] : List Value).toArray) _) u
      simp only [AGG_mk, HD_mk, NL_mk, TYC_mk, NX_mk]
      exact hcase (worstP t) ht.worst rfl
    · show (AGG (.agg ([.int .i64 t.st.2, .int .i64 t.loss.1, .int .i64 t.gain.2, .int .i64 t.full, .func (.func 56) #[] #[]] : List Value).toArray) _) u
      simp only [AGG_mk, HD_mk, NL_mk, TYC_mk, NX_mk]
      exact hcase (bestP t) ht.best rfl
  · have hke : k = 2 := by omega
    subst hke
    have h0 := hb0 (by omega)
    have h1 := hb1 (by omega)
    refine IXA_nat (i := 0) (by decide) ⟨_, u0.cell, ?_⟩
    refine IXA_nat (i := 1) (by decide) ⟨_, u1.cell, ?_⟩
    have e3u : Ext s3' u := f4.trans e4u
    have q1u := e3u.own (f3'.own q1)
    have q2u := e3u.own (f3'.own q2)
    have q3u := e3u.own q3
    have eu : Ext s u := ((((f1.trans f2).trans f2').trans f3).trans f3').trans e3u
    refine outk2 q1u q2u rfl rfl fun v1 k1 p1 p2 => ?_
    refine outk1 (k1.own (by show ¬ s3.size = s2'.size; omega) q3u) rfl fun v2 k2 p3 => ?_
    refine te_defLeft ?_
    have n23 : ¬ s2'.size = s3.size := by omega
    refine ⟨_, (k2.own n23 p1).cell, ⟨_, (k2.own n23 p2).cell, ⟨_, p3.cell, ?_⟩⟩⟩
    rw [h0, h1]
    exact hk v2 (ext_kp (ext_kp eu (by omega) k1) (by omega) k2)
end
open Go.V
theorem zc_33 : zc Pg 33 = [.int .i64 0, .int .i64 0, .int .i64 0, .slice none 0 0] := by kernel_rfl
theorem zc_44 : zc Pg 44 = [.int .i64 0, .int .i64 0, .int .i64 0, .int .i64 0, .int .i64 0, .int .i64 0, .int .i64 0] := by kernel_rfl
theorem zc_49 : zc Pg 49 = [.int .i64 0, .int .i64 0, .int .i64 0, .slice none 0 0, .slice none 0 0] := by kernel_rfl
def pA : PitP := ⟨2, (300, 320), ⟨(10, 12), (4, 6), (4, 5)⟩⟩
def pB : PitP := ⟨8, (500, 520), ⟨(5, 6), (3, 5), (9, 11)⟩⟩
def gr07 : GrP := ⟨10, 50, 2, [pA, pB]⟩
def tm07 : TmP := ⟨(100, 110), (5, 6), (10, 12), 120⟩
def st07 : List StP := [⟨4, 6, 0⟩, ⟨0, 0, 2⟩, ⟨5, 5, 0⟩]
theorem gr07_ok : GrOk gr07 := by
  refine ⟨by decide, by decide, by decide, by decide, by decide, by decide, fun p hp => ?_, fun i hi => ?_⟩
  · have hp' : p = pA ∨ p = pB := by simpa [gr07] using hp
    rcases hp' with rfl | rfl <;> exact ⟨⟨by decide, by decide, by decide⟩, ⟨by decide, by decide, by decide⟩, ⟨by decide, by decide, by decide⟩, ⟨by decide, by decide, by decide⟩⟩
  · have : i = 0 ∨ i = 1 := by have : gr07.pits.length = 2 := rfl; omega
    rcases this with rfl | rfl
    · exact ⟨show (-1 : Int) < 2 by decide, show (2 : Int) ≤ 10 by decide⟩
    · exact ⟨show (2 : Int) < 8 by decide, show (8 : Int) ≤ 10 by decide⟩
theorem gr07_fine : fineP gr07 := fun k hk => by
  have h : ((List.range 11).all fun k => decide ((hardP gr07 k).1 ≤ (hardP gr07 k).2) && !noneM ((mixesP gr07).getD k zeroM)) = true := by decide +kernel
  have h1 := List.all_eq_true.1 h k (by have : gr07.long = 10 := rfl; simp; omega)
  simp only [Bool.and_eq_true, decide_eq_true_eq, Bool.not_eq_true'] at h1
  exact h1
theorem gr07_class : classP kindsP ((mixesP gr07).getD 8 zeroM) 0 = 2 ^ 3 := by decide +kernel
theorem gr07_hard : hardP gr07 8 = (500, 520) := by decide +kernel
theorem left07 : leftP gr07 tm07 st07 = (6, 63) := by decide +kernel
theorem tm07_ok : TmOk tm07 := ⟨by decide, by decide, ⟨by decide, by decide, by decide⟩, ⟨by decide, by decide, by decide⟩, ⟨by decide, by decide, by decide⟩⟩
theorem st07_ok : ∀ t ∈ st07, StOk gr07 t := fun t ht => by
  have : t = ⟨4, 6, 0⟩ ∨ t = ⟨0, 0, 2⟩ ∨ t = ⟨5, 5, 0⟩ := by simpa [st07] using ht
  rcases this with rfl | rfl | rfl <;> exact ⟨by decide, by decide, by decide, by decide⟩
theorem pit_row {s : Hp} {b : Nat} {ps : List PitP} (h : ∀ i (hi : i < ps.length), Own s ⟨b, i * 9, none⟩ (.int .i64 ps[i].pos) ∧ Own s ⟨b, i * 9 + 1, none⟩ (.int .i64 ps[i].hard.1) ∧ Own s ⟨b, i * 9 + 2, none⟩ (.int .i64 ps[i].hard.2) ∧ Own s ⟨b, i * 9 + 3, none⟩ (.int .i64 ps[i].mix.sand.1) ∧ Own s ⟨b, i * 9 + 4, none⟩ (.int .i64 ps[i].mix.sand.2) ∧ Own s ⟨b, i * 9 + 5, none⟩ (.int .i64 ps[i].mix.silt.1) ∧ Own s ⟨b, i * 9 + 6, none⟩ (.int .i64 ps[i].mix.silt.2) ∧ Own s ⟨b, i * 9 + 7, none⟩ (.int .i64 ps[i].mix.clay.1) ∧ Own s ⟨b, i * 9 + 8, none⟩ (.int .i64 ps[i].mix.clay.2)) : PitR s (some ⟨b, 0, none⟩) ps := fun i hi => by
  obtain ⟨h0, h1, h2, h3, h4, h5, h6, h7, h8⟩ := h i hi
  have e : Addr.add ⟨b, 0, none⟩ (i * 9) = ⟨b, i * 9, none⟩ := by rw [add_nil]; simp
  exact ⟨_, rfl, by rw [e]; exact ⟨h0.cell, h1.cell, h2.cell, h3.cell, h4.cell, h5.cell, h6.cell, h7.cell, h8.cell⟩⟩
section
variable {W : World} {K : VK} {E : List PanicEntry → Hp → Prop} {s : Hp}
theorem c_span04 {a b : Int} (h : ∀ s', Ext s s' → K (.agg #[.int .i64 a, .int .i64 b]) s') : CALL Pg W F_top_span04 [.int .i64 a, .int .i64 b] K E s := by
  refine does_top_span04 W a b _ s ?_
  unfold T_top_span04
  refine nw2 zc_27 rfl rfl fun s1 e1 z1 o1 o2 => ⟨_, o1.cell, ⟨_, o2.cell, ?_⟩⟩
  exact h s1 e1
theorem c_ground07 (h : ∀ s' x, Ext s s' → PitR s' x gr07.pits → K (grV gr07 x 2) s') : CALL Pg W F_top_ground07 [] K E s := by
  refine does_top_ground07 W _ s ?_
  unfold T_top_ground07
  refine nz4 zc_33 fun s1 f1 z1 p1 p2 p3 p4 => ?_
  refine c_span04 fun s2 f2 => ?_
  try simp only [nd_]
  refine c_span04 fun s3 f3 => ?_
  try simp only [nd_]
  refine c_span04 fun s4 f4 => ?_
  try simp only [nd_]
  refine c_span04 fun s5 f5 => ?_
  try simp only [nd_]
  refine c_span04 fun s6 f6 => ?_
  try simp only [nd_]
  refine c_span04 fun s7 f7 => ?_
  try simp only [nd_]
  refine c_span04 fun s8 f8 => ?_
  try simp only [nd_]
  refine c_span04 fun s9 f9 => ?_
  try simp only [nd_]
  refine NEW_rule fun t ft zt nt _ => ?_
  have e1t : Ext s1 t := (((((((f2.trans f3).trans f4).trans f5).trans f6).trans f7).trans f8).trans f9).trans ft
  have hz : s1.size ≤ s9.size := (((((((f2.trans f3).trans f4).trans f5).trans f6).trans f7).trans f8).trans f9).1
  have hz1 : s1.size = s.size + 1 := z1
  refine outNk (s0 := s) (B := s.size) (vs := [.int .i64 10, .int .i64 50, .int .i64 2, .slice (some ⟨s9.size, 0, none⟩) 2 2]) (f1.trans e1t) (Nat.le_refl _) (fun i hi => ?_) (by simp [oneCell]) fun u eu ku _ o => ?_
  · match i, hi with
    | 0, _ => exact ⟨_, e1t.own p1⟩
    | 1, _ => exact ⟨_, e1t.own p2⟩
    | 2, _ => exact ⟨_, e1t.own p3⟩
    | 3, _ => exact ⟨_, e1t.own p4⟩
  · refine ⟨_, (o 0 (by simp)).cell, ⟨_, (o 1 (by simp)).cell, ⟨_, (o 2 (by simp)).cell, ⟨_, _, _, (o 3 (by simp)).cell, ?_⟩⟩⟩⟩
    refine h u (some ⟨s9.size, 0, none⟩) eu (pit_row fun i hi => ?_)
    have hn : ¬ s9.size = s.size := by omega
    have hi2 : i = 0 ∨ i = 1 := by have : gr07.pits.length = 2 := rfl; omega
    rcases hi2 with rfl | rfl
    · exact ⟨ku.own hn (nt 0 _ rfl), ku.own hn (nt 1 _ rfl), ku.own hn (nt 2 _ rfl), ku.own hn (nt 3 _ rfl), ku.own hn (nt 4 _ rfl), ku.own hn (nt 5 _ rfl), ku.own hn (nt 6 _ rfl), ku.own hn (nt 7 _ rfl), ku.own hn (nt 8 _ rfl)⟩
    · exact ⟨ku.own hn (nt 9 _ rfl), ku.own hn (nt 10 _ rfl), ku.own hn (nt 11 _ rfl), ku.own hn (nt 12 _ rfl), ku.own hn (nt 13 _ rfl), ku.own hn (nt 14 _ rfl), ku.own hn (nt 15 _ rfl), ku.own hn (nt 16 _ rfl), ku.own hn (nt 17 _ rfl)⟩
theorem c_horses07 (h : ∀ s', Ext s s' → K (tmV tm07) s') : CALL Pg W F_top_horses07 [] K E s := by
  refine does_top_horses07 W _ s ?_
  unfold T_top_horses07
  refine NEWZ_rule zc_44 fun s1 f1 z1 n1 => ?_
  refine c_span04 fun s2 f2 => ?_
  try simp only [nd_]
  refine c_span04 fun s3 f3 => ?_
  try simp only [nd_]
  refine c_span04 fun s4 f4 => ?_
  try simp only [nd_]
  have e : Ext s1 s4 := (f2.trans f3).trans f4
  refine outN (s0 := s) (B := s.size) (vs := [.int .i64 100, .int .i64 110, .int .i64 5, .int .i64 6, .int .i64 10, .int .i64 12, .int .i64 120]) (f1.trans e) (Nat.le_refl _) (fun i hi => ?_) (by simp [oneCell]) fun u eu o => ?_
  · match i, hi with
    | 0, _ => exact ⟨_, e.own (n1 0 _ rfl)⟩
    | 1, _ => exact ⟨_, e.own (n1 1 _ rfl)⟩
    | 2, _ => exact ⟨_, e.own (n1 2 _ rfl)⟩
    | 3, _ => exact ⟨_, e.own (n1 3 _ rfl)⟩
    | 4, _ => exact ⟨_, e.own (n1 4 _ rfl)⟩
    | 5, _ => exact ⟨_, e.own (n1 5 _ rfl)⟩
    | 6, _ => exact ⟨_, e.own (n1 6 _ rfl)⟩
  · refine ⟨_, (o 0 (by simp)).cell, ⟨_, (o 1 (by simp)).cell, ⟨_, (o 2 (by simp)).cell, ⟨_, (o 3 (by simp)).cell, ⟨_, (o 4 (by simp)).cell, ⟨_, (o 5 (by simp)).cell, ⟨_, (o 6 (by simp)).cell, ?_⟩⟩⟩⟩⟩⟩⟩
    exact h u eu
set_option maxHeartbeats 1000000 in
theorem c_alive07 (h : ∀ s', Ext s s' → K (.bool true) s') : CALL Pg W F_top_alive07 [] K E s := by
  refine does_top_alive07 W _ s ?_
  unfold T_top_alive07
  refine Ck.c_sample fun s1 x y z f1 hc => ?_
  unfold Ck.clkV
  try simp only [nd_]
  refine Ck.c_Lasted (c := Ck.CL 136) hc fun s2 lo hi err f2 hq => ?_
  obtain ⟨rfl, rfl, rfl⟩ := Ck.cl_lasted01 hq
  try simp only [nd_]
  refine nw2 zc_27 rfl rfl fun s3 f3 z3 p1 p2 => ?_
  refine c_ground07 fun s4 xp f4 hp => ?_
  try simp only [nd_]
  refine ne9 fun s5 f5 z5 q0 q1 q2 q3 q4 q5 q6 q7 q8 => ?_
  refine nw5 zc_49 rfl rfl rfl rfl rfl fun s6 f6 z6 w0 w1 w2 w3 w4 => ?_
  (repeat ((with_reducible first | apply RDI_c | apply RDL_c | apply RDB_c | apply RDP_c | apply RDM_c | apply RDS_c | apply RDV_c); focus ((repeat (first | assumption | exact Own.cell (by assumption) | apply Ext.cell (by assumption))); done)))
  have hz5 : s5.size = s4.size + 1 := z5
  have e4 : Ext s s4 := ((f1.trans f2).trans f3).trans f4
  have hst : StpR s6 (some ⟨s4.size, 0, none⟩) st07 := fun i hi => by
    have hi3 : i = 0 ∨ i = 1 ∨ i = 2 := by have : st07.length = 3 := rfl; omega
    rcases hi3 with rfl | rfl | rfl
    · exact ⟨_, rfl, (f6.own q0).cell, (f6.own q1).cell, (f6.own q2).cell⟩
    · exact ⟨_, rfl, (f6.own q3).cell, (f6.own q4).cell, (f6.own q5).cell⟩
    · exact ⟨_, rfl, (f6.own q6).cell, (f6.own q7).cell, (f6.own q8).cell⟩
  have hp6 := hp.ext (f5.trans f6)
  have fin : ∀ (u : Hp) (Bl : Nat), Ext s6 u → Own u ⟨Bl, 0, none⟩ (.int .i64 6) → Own u ⟨Bl, 1, none⟩ (.int .i64 63) → J_top_alive07_1 W (endK K E) s2.size 0 (some ⟨Bl, 0, none⟩) 0 u := by
    intro u Bl eu l1 l2
    have e3u : Ext s3 u := ((f4.trans f5).trans f6).trans eu
    unfold J_top_alive07_1
    refine ⟨_, (e3u.own p1).cell, ⟨_, (e3u.own p2).cell, ?_⟩⟩
    refine c_span04 fun u1 g1 => ?_
    try simp only [nd_]
    refine ANDS_i ⟨_, ((e3u.trans g1).own p1).cell, ⟨_, ((e3u.trans g1).own p2).cell, rfl⟩⟩ ?_
    refine BR_tt (by decide) ?_
    unfold J_top_alive07_0
    refine BR_tt (by decide) ?_
    try simp only [nd_]
    refine ⟨_, (g1.own l1).cell, ⟨_, (g1.own l2).cell, ?_⟩⟩
    refine c_span04 fun u2 g2 => ?_
    try simp only [nd_]
    refine ANDS_i ⟨_, (g2.own (g1.own l1)).cell, ⟨_, (g2.own (g1.own l2)).cell, rfl⟩⟩ ?_
    refine BR_tt (by decide) ?_
    exact h u2 ((((e4.trans f5).trans f6).trans eu).trans (g1.trans g2))
  have hleft : ∀ (u : Hp) (K' : VK) (E' : List PanicEntry → Hp → Prop), Ext s6 u → (∀ u', Ext u u' → K' (.tuple #[.agg #[.int .i64 6, .int .i64 63], .int .i64 0]) u') → CALL Pg W F_team_Left [tmV tm07, ptV gr07 xp 2 (some ⟨s4.size, 0, none⟩) st07 3, .int .i64 3] K' E' u := by
    intro u K' E' eu hK
    refine c_Left (g := gr07) (t := tm07) (sts := st07) tm07_ok gr07_ok gr07_fine (hp6.ext eu) (hst.ext eu) (by decide) st07_ok fun u' e' => ?_
    have := hK u' e'
    rw [left07]
    exact this
  refine CONJ_two ?_ ?_
  · refine c_horses07 fun t1 g1 => ?_
    unfold tmV
    try simp only [nd_]
    (repeat (((with_reducible refine ANDS_i ?_ ?_); focus ((repeat ((with_reducible first | apply RDI_c | apply RDL_c | apply RDB_c | apply RDP_c | apply RDM_c | apply RDS_c | apply RDV_c); focus ((repeat (first | assumption | exact Own.cell (by assumption) | apply Ext.cell (by assumption))); done))); exact rfl))))
    refine CONJ_two ?_ ?_
    · refine hleft t1 _ _ g1 fun t2 g2 => ?_
      try simp only [nd_]
      refine nz2 zc_27 fun t3 g3 y3 r1 r2 => ?_
      (repeat (((with_reducible refine ANDS_i ?_ ?_); focus ((repeat ((with_reducible first | apply RDI_c | apply RDL_c | apply RDB_c | apply RDP_c | apply RDM_c | apply RDS_c | apply RDV_c); focus ((repeat (first | assumption | exact Own.cell (by assumption) | apply Ext.cell (by assumption))); done))); exact rfl))))
      refine outk2 r1 r2 rfl rfl fun t4 k4 l1 l2 => ?_
      exact fin t4 _ (ext_kp ((g1.trans g2).trans g3) (by have := g1.1; have := g2.1; omega) k4) l1 l2
    · refine nz2 zc_27 fun t3 g3 y3 r1 r2 => ?_
      (repeat (((with_reducible refine ANDS_i ?_ ?_); focus ((repeat ((with_reducible first | apply RDI_c | apply RDL_c | apply RDB_c | apply RDP_c | apply RDM_c | apply RDS_c | apply RDV_c); focus ((repeat (first | assumption | exact Own.cell (by assumption) | apply Ext.cell (by assumption))); done))); exact rfl))))
      refine hleft t3 _ _ (g1.trans g3) fun t2 g2 => ?_
      try simp only [nd_]
      refine outk2 (g2.own r1) (g2.own r2) rfl rfl fun t4 k4 l1 l2 => ?_
      exact fin t4 _ (ext_kp ((g1.trans g3).trans g2) (by have := g1.1; omega) k4) l1 l2
  · refine nz2 zc_27 fun t3 g3 y3 r1 r2 => ?_
    (repeat (((with_reducible refine ANDS_i ?_ ?_); focus ((repeat ((with_reducible first | apply RDI_c | apply RDL_c | apply RDB_c | apply RDP_c | apply RDM_c | apply RDS_c | apply RDV_c); focus ((repeat (first | assumption | exact Own.cell (by assumption) | apply Ext.cell (by assumption))); done))); exact rfl))))
    refine c_horses07 fun t1 g1 => ?_
    unfold tmV
    try simp only [nd_]
    (repeat (((with_reducible refine ANDS_i ?_ ?_); focus ((repeat ((with_reducible first | apply RDI_c | apply RDL_c | apply RDB_c | apply RDP_c | apply RDM_c | apply RDS_c | apply RDV_c); focus ((repeat (first | assumption | exact Own.cell (by assumption) | apply Ext.cell (by assumption))); done))); exact rfl))))
    refine hleft t1 _ _ (g3.trans g1) fun t2 g2 => ?_
    try simp only [nd_]
    refine outk2 (g2.own (g1.own r1)) (g2.own (g1.own r2)) rfl rfl fun t4 k4 l1 l2 => ?_
    exact fin t4 _ (ext_kp ((g3.trans g1).trans g2) (Nat.le_refl _) k4) l1 l2
theorem c_alive11 (h : ∀ s', Ext s s' → K (.bool true) s') : CALL Pg W F_top_alive11 [] K E s := by
  refine does_top_alive11 W _ s ?_
  unfold T_top_alive11
  refine c_ground07 fun s1 xp f1 hp => ?_
  try simp only [nd_]
  refine c_span04 fun s2 f2 => ?_
  try simp only [nd_]
  refine c_Gives (g := gr07) (k := 8) (m := (60, 61)) (cls := 3) (q := 5) (r := ⟨2, 1, 3, 6⟩) (by decide) ⟨by decide, by decide, by decide, by decide, by decide, by decide⟩ gr07_ok gr07_fine (hp.ext f2) (by decide) ⟨by decide, by decide, by decide⟩ gr07_class (by rw [gr07_hard]; decide) (by rw [gr07_hard]; decide) (by decide) (by decide) fun s3 f3 => ?_
  unfold spV
  try simp only [nd_]
  refine nw2 zc_27 rfl rfl fun s4 f4 z4 p1 p2 => ?_
  refine c_ground07 fun s5 xp5 f5 hp5 => ?_
  try simp only [nd_]
  refine c_Class (g := gr07) (k := 8) gr07_ok gr07_fine hp5 (by decide) fun s6 f6 => ?_
  try simp only [nd_]
  rw [gr07_class]
  (repeat ((with_reducible first | apply RDI_c | apply RDL_c | apply RDB_c | apply RDP_c | apply RDM_c | apply RDS_c | apply RDV_c); focus ((repeat (first | assumption | exact Own.cell (by assumption) | apply Ext.cell (by assumption))); done)))
  refine c_span04 fun s7 f7 => ?_
  try simp only [nd_]
  (repeat (((with_reducible refine ANDS_i ?_ ?_); focus ((repeat ((with_reducible first | apply RDI_c | apply RDL_c | apply RDB_c | apply RDP_c | apply RDM_c | apply RDS_c | apply RDV_c); focus ((repeat (first | assumption | exact Own.cell (by assumption) | apply Ext.cell (by assumption))); done))); exact rfl))))
  refine BR_tt (by decide) ?_
  refine BR_tt (by decide) ?_
  refine BR_tt (by decide) ?_
  refine BR_tt (by decide) ?_
  refine c_alive07 fun s8 f8 => ?_
  try simp only [nd_]
  exact h s8 (((((((f1.trans f2).trans f3).trans f4).trans f5).trans f6).trans f7).trans f8)
end
open Go.V
structure Dg (n1 n4 n9 n10 h a b c m l : Int) (p cls : Nat) (r : RuP) : Prop where
  e1 : Int.tmod (IntKind.wrap .i64 n1) 1001 = h
  e4 : Int.tmod (IntKind.wrap .i64 n4) 41 = (p : Nat)
  e9 : Int.tmod (IntKind.wrap .i64 n9) 10001 = m
  e10 : Int.tmod (IntKind.wrap .i64 n10) 101 = l
  h0 : 0 ≤ h
  h1 : h ≤ 1000
  m0 : 0 ≤ m
  m1 : m ≤ 10000
  l0 : 0 ≤ l
  l1 : l ≤ 100
  p1 : p ≤ 40
  pt : Pt a b c
  ru : RuOk r
  hc : cls < 4
  cl : classP kindsP (exM a b c) 0 = 2 ^ cls
structure DgH (s : Hp) (B58 B11 : Nat) (h a b c : Int) (p : Nat) (r : RuP) (x : Option Addr) : Prop where
  g0 : Own s ⟨B58, 0, none⟩ (.int .i64 40)
  g1 : Own s ⟨B58, 1, none⟩ (.int .i64 40)
  g2 : Own s ⟨B58, 2, none⟩ (.int .i64 3)
  g3 : Own s ⟨B58, 3, none⟩ (.slice x 1 1)
  r0 : Own s ⟨B11, 0, none⟩ (.int .i64 r.hard)
  r1 : Own s ⟨B11, 1, none⟩ (.int .i64 r.silt)
  r2 : Own s ⟨B11, 2, none⟩ (.int .i64 r.sand)
  r3 : Own s ⟨B11, 3, none⟩ (.int .i64 r.clay)
  pr : PitR s x (grX p h a b c).pits
theorem DgH.ext {s s' : Hp} {B58 B11 : Nat} {h a b c : Int} {p : Nat} {r : RuP} {x : Option Addr} (H : DgH s B58 B11 h a b c p r x) (e : Ext s s') : DgH s' B58 B11 h a b c p r x :=
  ⟨e.own H.g0, e.own H.g1, e.own H.g2, e.own H.g3, e.own H.r0, e.own H.r1, e.own H.r2, e.own H.r3, H.pr.ext e⟩
theorem grX_ok {h a b c : Int} {p : Nat} (h0 : 0 ≤ h) (h1 : h ≤ 1000) (p1 : p ≤ 40) (pt : Pt a b c) : GrOk (grX p h a b c) := by
  obtain ⟨q1, q2, q3, q4⟩ := pt
  refine ⟨show (40 : Nat) ≤ 40 by decide, show (0 : Int) ≤ 40 by decide, show (40 : Int) ≤ 1000 by decide, show (0 : Int) ≤ 3 by decide, show (3 : Int) ≤ 20 by decide, show (1 : Nat) ≤ 8 by decide, fun q hq => ?_, fun i hi => ?_⟩
  · have hq' : q = pitX p h a b c := by simpa [grX] using hq
    subst hq'
    refine ⟨⟨?_, ?_, ?_⟩, ⟨?_, ?_, ?_⟩, ⟨?_, ?_, ?_⟩, ⟨?_, ?_, ?_⟩⟩ <;> simp only [pitX, exM] <;> omega
  · have : i = 0 := by have : (grX p h a b c).pits.length = 1 := rfl; omega
    subst this
    exact ⟨show (-1 : Int) < (p : Nat) by omega, show ((p : Nat) : Int) ≤ 40 by omega⟩
def tmX (m l : Int) : TmP := ⟨(m, m), (l, l), (0, 0), m⟩
def stX (p : Nat) : List StP := [⟨p, p, 0⟩]
def leftX (m l h : Int) : Int := m - (l * h + 99).tdiv 100
section
variable {W : World} {K : VK} {E : List PanicEntry → Hp → Prop} {s : Hp} {n1 n4 n9 n10 h a b c m l : Int} {p cls : Nat} {r : RuP} {x : Option Addr} {B58 B11 : Nat}
theorem now_x {hs : HsP} (hf : hardP (grX p h a b c) p = (h, h)) : nowP (grX p h a b c) hs (stX p) 1 = hs.st - (hs.loss * h + 99).tdiv 100 := by
  have e : stWork (grX p h a b c) ⟨p, p, 0⟩ = (h, h) := by
    unfold stWork
    rw [if_pos rfl]
    have : p + 1 - p = 1 := by omega
    simp only [this]
    unfold workN workN
    simp only [Nat.add_zero, hf]
    simp
  show doP (grX p h a b c) hs ⟨p, p, 0⟩ hs.st = _
  unfold doP
  rw [if_neg (by simp), e]
  unfold ofP
  simp
theorem left_x (hf : hardP (grX p h a b c) p = (h, h)) : leftP (grX p h a b c) (tmX m l) (stX p) = (leftX m l h, leftX m l h) := by
  have e : (stX p).length = 1 := rfl
  unfold leftP
  rw [e, now_x hf, now_x hf]
  rfl
theorem comes_x (hf : hardP (grX p h a b c) p = (h, h)) : comesP (grX p h a b c) (tmX m l) (stX p) = if leftX m l h < 0 then 0 else 2 := by
  have e : (stX p).length = 1 := rfl
  have hw : ∀ hs : HsP, failP (grX p h a b c) hs (stX p) = decide (hs.st - (hs.loss * h + 99).tdiv 100 < 0) := fun hs => by
    unfold failP
    rw [e]
    have : (List.range 1) = [0] := rfl
    rw [this, List.any_cons, List.any_nil, Bool.or_false, now_x hf]
  unfold comesP
  rw [hw, hw]
  have e1 : (worstP (tmX m l)).st - ((worstP (tmX m l)).loss * h + 99).tdiv 100 = leftX m l h := rfl
  have e2 : (bestP (tmX m l)).st - ((bestP (tmX m l)).loss * h + 99).tdiv 100 = leftX m l h := rfl
  rw [e1, e2]
  by_cases hl : leftX m l h < 0
  · rw [if_neg (by simp [hl]), if_pos (by simp [hl]), if_pos hl]
  · rw [if_pos (by simp [hl]), if_neg hl]
theorem leftX_w (D : Dg n1 n4 n9 n10 h a b c m l p cls r) : IntKind.wrap .i64 (m - IntKind.wrap .i64 (Int.tdiv (IntKind.wrap .i64 (IntKind.wrap .i64 (l * h) + 99)) 100)) = leftX m l h := by
  obtain ⟨_, _, _, _, h0, h1, m0, m1, l0, l1, _, _, _, _, _⟩ := D
  have q0 : 0 ≤ l * h := Int.mul_nonneg l0 h0
  have q1 : l * h ≤ 100 * 1000 := Int.le_trans (Int.mul_le_mul_of_nonneg_right l1 h0) (Int.mul_le_mul_of_nonneg_left h1 (by decide))
  unfold leftX
  generalize l * h = q at q0 q1 ⊢
  have d0 : 0 ≤ (q + 99).tdiv 100 := Int.tdiv_nonneg (by omega) (by decide)
  have d1 : (q + 99).tdiv 100 ≤ q + 99 := Int.tdiv_le_self _ (by omega)
  rw [wrap_i64 (n := q) (by omega) (by omega), wrap_i64 (n := q + 99) (by omega) (by omega), wrap_i64 (n := (q + 99).tdiv 100) (by omega) (by omega), wrap_i64 (by omega) (by omega)]
theorem d_1 (D : Dg n1 n4 n9 n10 h a b c m l p cls r) (hK : ∀ s', Ext s s' → K (.bool true) s') : J_top_TopDug_1 W (endK K E) true (if leftX m l h < 0 then 0 else 2) n9 n10 n1 s := by
  unfold J_top_TopDug_1 J_top_TopDug_0
  rw [D.e9, D.e10, D.e1, leftX_w D]
  refine BR_tt rfl ?_
  by_cases hl : leftX m l h < 0
  · simp only [if_pos hl]
    refine BR_tt (by simp; omega) ?_
    refine BR_tt (by simp; omega) ?_
    refine c_alive11 fun s1 f1 => ?_
    try simp only [nd_]
    exact hK s1 f1
  · simp only [if_neg hl]
    refine BR_tt (by simp; omega) ?_
    refine BR_tt (by simp; omega) ?_
    refine c_alive11 fun s1 f1 => ?_
    try simp only [nd_]
    exact hK s1 f1
set_option maxHeartbeats 1000000 in
theorem d_3 (D : Dg n1 n4 n9 n10 h a b c m l p cls r) (H : DgH s B58 B11 h a b c p r x) (hK : ∀ s', Ext s s' → K (.bool true) s') : J_top_TopDug_3 W (endK K E) false n9 n10 B58 n4 n1 s := by
  have D' := D
  obtain ⟨e1, e4, e9, e10, h0, h1, m0, m1, l0, l1, p1, pt, ru, hc, cl⟩ := D'
  obtain ⟨hfine, hhard, hmix⟩ := fine_x (h := h) p1 h0 h1 pt
  clear hmix
  have hgr := grX_ok h0 h1 p1 pt
  have hlw := leftX_w D
  unfold J_top_TopDug_3
  refine BR_ff rfl ?_
  simp only [e1, e4, e9, e10, hlw]
  obtain ⟨g0, g1, g2, g3, r0, r1, r2, r3, pr⟩ := H
  refine c_span04 fun s1 f1 => ?_
  try simp only [nd_]
  refine c_span04 fun s2 f2 => ?_
  try simp only [nd_]
  refine NEWZ_rule zc_44 fun s3 f3 z3 n3 => ?_
  refine outN (s0 := s2) (B := s2.size) (vs := [.int .i64 m, .int .i64 m, .int .i64 l, .int .i64 l, .int .i64 0, .int .i64 0, .int .i64 m]) f3 (Nat.le_refl _) (fun i hi => ?_) (by simp [oneCell]) fun u eu o => ?_
  · match i, hi with
    | 0, _ => exact ⟨_, n3 0 _ rfl⟩
    | 1, _ => exact ⟨_, n3 1 _ rfl⟩
    | 2, _ => exact ⟨_, n3 2 _ rfl⟩
    | 3, _ => exact ⟨_, n3 3 _ rfl⟩
    | 4, _ => exact ⟨_, n3 4 _ rfl⟩
    | 5, _ => exact ⟨_, n3 5 _ rfl⟩
    | 6, _ => exact ⟨_, n3 6 _ rfl⟩
  have o0 : Own u ⟨s2.size, 0, none⟩ (.int .i64 m) := o 0 (by simp)
  have o1 : Own u ⟨s2.size, 1, none⟩ (.int .i64 m) := o 1 (by simp)
  have o2 : Own u ⟨s2.size, 2, none⟩ (.int .i64 l) := o 2 (by simp)
  have o3 : Own u ⟨s2.size, 3, none⟩ (.int .i64 l) := o 3 (by simp)
  have o4 : Own u ⟨s2.size, 4, none⟩ (.int .i64 0) := o 4 (by simp)
  have o5 : Own u ⟨s2.size, 5, none⟩ (.int .i64 0) := o 5 (by simp)
  have o6 : Own u ⟨s2.size, 6, none⟩ (.int .i64 m) := o 6 (by simp)
  clear o n3 f3 z3
  have e2 : Ext s u := (f1.trans f2).trans eu
  refine ⟨_, (e2.own g0).cell, ⟨_, (e2.own g1).cell, ⟨_, (e2.own g2).cell, ⟨_, _, _, (e2.own g3).cell, ?_⟩⟩⟩⟩
  clear e2
  refine ne3 fun s5 f5 z5 q0 q1 q2 => ?_
  refine nw5 zc_49 rfl rfl rfl rfl rfl fun s6 f6 z6 w0 w1 w2 w3 w4 => ?_
  (repeat ((with_reducible first | apply RDI_c | apply RDL_c | apply RDB_c | apply RDP_c | apply RDM_c | apply RDS_c | apply RDV_c); focus ((repeat (first | assumption | exact Own.cell (by assumption) | apply Ext.cell (by assumption))); done)))
  have hst : StpR s6 (some ⟨u.size, 0, none⟩) (stX p) := fun i hi => by
    have hi3 : i = 0 := by have : (stX p).length = 1 := rfl; omega
    subst hi3
    exact ⟨_, rfl, (f6.own q0).cell, (f6.own q1).cell, (f6.own q2).cell⟩
  have hp6 : PitR s6 x (grX p h a b c).pits := ((((pr.ext f1).ext f2).ext eu).ext f5).ext f6
  have htm : TmOk (tmX m l) := ⟨m0, m1, ⟨m0, Int.le_refl _, Int.le_refl _⟩, ⟨l0, Int.le_refl _, l1⟩, ⟨Int.le_refl _, Int.le_refl _, show (0 : Int) ≤ 1000 by decide⟩⟩
  have hss : ∀ t ∈ stX p, StOk (grX p h a b c) t := fun t ht => by
    have : t = ⟨p, p, 0⟩ := by simpa [stX] using ht
    subst this
    exact ⟨Int.le_refl _, show (0 : Int) ≤ 600 by decide, Nat.le_refl _, p1⟩
  refine c_Left (g := grX p h a b c) (t := tmX m l) (sts := stX p) htm hgr hfine hp6 hst (by simp [stX]) hss fun s7 f7 => ?_
  rw [left_x hhard]
  try simp only [nd_]
  refine nw2 zc_27 rfl rfl fun s8 f8 z8 k0 k1 => ?_
  (repeat ((with_reducible first | apply RDI_c | apply RDL_c | apply RDB_c | apply RDP_c | apply RDM_c | apply RDS_c | apply RDV_c); focus ((repeat (first | assumption | exact Own.cell (by assumption) | apply Ext.cell (by assumption))); done)))
  refine c_Comes (g := grX p h a b c) (t := tmX m l) (sts := stX p) htm hgr hfine ((hp6.ext f7).ext f8) ((hst.ext f7).ext f8) (by simp [stX]) hss fun s9 f9 => ?_
  rw [comes_x hhard]
  try simp only [nd_]
  (repeat ((with_reducible first | apply RDI_c | apply RDL_c | apply RDB_c | apply RDP_c | apply RDM_c | apply RDS_c | apply RDV_c); focus ((repeat (first | assumption | exact Own.cell (by assumption) | apply Ext.cell (by assumption))); done)))
  refine c_span04 fun s10 f10 => ?_
  try simp only [nd_]
  (repeat (((with_reducible refine ANDS_i ?_ ?_); focus ((repeat ((with_reducible first | apply RDI_c | apply RDL_c | apply RDB_c | apply RDP_c | apply RDM_c | apply RDS_c | apply RDV_c); focus ((repeat (first | assumption | exact Own.cell (by assumption) | apply Ext.cell (by assumption))); done))); exact rfl))))
  refine BR_tt (by simp) ?_
  unfold J_top_TopDug_2
  refine BR_tt rfl ?_
  exact d_1 D fun s' e => hK s' ((((((((((f1.trans f2).trans eu).trans f5).trans f6).trans f7).trans f8).trans f9).trans f10)).trans e)
end
open Go.V
def gvX (r : RuP) (cls : Nat) (h : Int) : Int := giftP r cls + h.tdiv 100 * r.hard
theorem gift_b {r : RuP} (hr : RuOk r) {cls : Nat} (hc : cls < 4) : 0 ≤ giftP r cls ∧ giftP r cls ≤ 12 := by
  obtain ⟨h1, h2, h3, h4, h5, h6⟩ := hr
  match cls, hc with
  | 0, _ => exact ⟨Int.le_refl _, show (0 : Int) ≤ 12 by decide⟩
  | 1, _ => show 0 ≤ r.sand ∧ r.sand ≤ 12; omega
  | 2, _ => show 0 ≤ r.silt ∧ r.silt ≤ 12; omega
  | 3, _ => show 0 ≤ r.clay ∧ r.clay ≤ 12; omega
section
variable {W : World} {K : VK} {E : List PanicEntry → Hp → Prop} {s : Hp} {n1 n4 n9 n10 h a b c m l : Int} {p cls : Nat} {r : RuP} {x : Option Addr} {B58 B11 : Nat}
theorem div_b (h0 : 0 ≤ h) (h1 : h ≤ 1000) : 0 ≤ h.tdiv 100 ∧ h.tdiv 100 ≤ 10 := by
  rw [Int.tdiv_eq_ediv_of_nonneg h0]
  omega
theorem gv_b (D : Dg n1 n4 n9 n10 h a b c m l p cls r) : 0 ≤ h.tdiv 100 * r.hard ∧ h.tdiv 100 * r.hard ≤ 50 ∧ 0 ≤ gvX r cls h ∧ gvX r cls h ≤ 62 := by
  obtain ⟨q0, q1⟩ := div_b D.h0 D.h1
  obtain ⟨g0, g1⟩ := gift_b D.ru D.hc
  have r0 := D.ru.h0
  have r1 := D.ru.h1
  have a0 : 0 ≤ h.tdiv 100 * r.hard := Int.mul_nonneg q0 r0
  have a1 : h.tdiv 100 * r.hard ≤ 10 * 5 := Int.le_trans (Int.mul_le_mul_of_nonneg_right q1 r0) (Int.mul_le_mul_of_nonneg_left r1 (by decide))
  unfold gvX
  omega
theorem gv_w (D : Dg n1 n4 n9 n10 h a b c m l p cls r) : IntKind.wrap .i64 (IntKind.wrap .i64 (r.hard * IntKind.wrap .i64 (h.tdiv 100)) + giftP r cls) = gvX r cls h := by
  obtain ⟨a0, a1, _, _⟩ := gv_b D
  obtain ⟨q0, q1⟩ := div_b D.h0 D.h1
  obtain ⟨g0, g1⟩ := gift_b D.ru D.hc
  rw [wrap_i64 (n := h.tdiv 100) (by omega) (by omega), Int.mul_comm]
  unfold gvX
  generalize h.tdiv 100 * r.hard = y at a0 a1 ⊢
  rw [wrap_i64 (n := y) (by omega) (by omega), wrap_i64 (by omega) (by omega)]
  omega
theorem gv_w1 (D : Dg n1 n4 n9 n10 h a b c m l p cls r) : IntKind.wrap .i64 (10 + gvX r cls h) = 10 + gvX r cls h ∧ IntKind.wrap .i64 (20 + gvX r cls h) = 20 + gvX r cls h := by
  obtain ⟨_, _, a0, a1⟩ := gv_b D
  exact ⟨wrap_i64 (by omega) (by omega), wrap_i64 (by omega) (by omega)⟩
theorem d_6 {Bu Bv : Nat} (D : Dg n1 n4 n9 n10 h a b c m l p cls r) (H : DgH s B58 B11 h a b c p r x) (u0 : Own s ⟨Bu, 0, none⟩ (.int .i64 (gvX r cls h))) (u1 : Own s ⟨Bu, 1, none⟩ (.int .i64 (gvX r cls h))) (v0 : Own s ⟨Bv, 0, none⟩ (.int .i64 (10 + gvX r cls h))) (v1 : Own s ⟨Bv, 1, none⟩ (.int .i64 (20 + gvX r cls h))) (hK : ∀ s', Ext s s' → K (.bool true) s') : J_top_TopDug_6 W (endK K E) (some ⟨Bu, 0, none⟩) r.hard n1 (giftP r cls) n9 n10 B58 n4 0 (some ⟨Bv, 0, none⟩) 0 s := by
  unfold J_top_TopDug_6
  try simp only [nd_]
  simp only [D.e1, gv_w D]
  refine ⟨_, u0.cell, ⟨_, u1.cell, ?_⟩⟩
  refine c_span04 fun s1 f1 => ?_
  try simp only [nd_]
  refine ANDS_i ⟨_, (f1.own u0).cell, ⟨_, (f1.own u1).cell, rfl⟩⟩ ?_
  refine BR_ff (by simp) ?_
  unfold J_top_TopDug_5
  refine BR_ff (by simp) ?_
  try simp only [nd_]
  simp only [D.e1, gv_w D, (gv_w1 D).1, (gv_w1 D).2]
  refine ⟨_, (f1.own v0).cell, ⟨_, (f1.own v1).cell, ?_⟩⟩
  refine c_span04 fun s2 f2 => ?_
  try simp only [nd_]
  refine ANDS_i ⟨_, (f2.own (f1.own v0)).cell, ⟨_, (f2.own (f1.own v1)).cell, rfl⟩⟩ ?_
  unfold J_top_TopDug_4
  refine BR_ff (by simp) ?_
  exact d_3 D ((H.ext f1).ext f2) fun s' e => hK s' ((f1.trans f2).trans e)
set_option maxHeartbeats 1000000 in
theorem d_7 {Bu : Nat} (D : Dg n1 n4 n9 n10 h a b c m l p cls r) (H : DgH s B58 B11 h a b c p r x) (u0 : Own s ⟨Bu, 0, none⟩ (.int .i64 (gvX r cls h))) (u1 : Own s ⟨Bu, 1, none⟩ (.int .i64 (gvX r cls h))) (hK : ∀ s', Ext s s' → K (.bool true) s') : J_top_TopDug_7 W (endK K E) B11 B58 n4 (some ⟨Bu, 0, none⟩) r.hard n1 (giftP r cls) n9 n10 0 s := by
  have hEven : ∀ (t : Hp) (K' : VK) (E' : List PanicEntry → Hp → Prop), Ext s t → (∀ t', Ext t t' → K' (.tuple #[.agg #[.int .i64 (10 + gvX r cls h), .int .i64 (20 + gvX r cls h)], .int .i64 0]) t') → CALL Pg W F_even_Even [ruV r, evV (grX p h a b c) x 1 p (10, 20)] K' E' t := by
    intro t K' E' e hk
    obtain ⟨hfine, hhard, hmix⟩ := fine_x (h := h) D.p1 D.h0 D.h1 D.pt
    exact c_Even (g := grX p h a b c) (k := p) (m := (10, 20)) (q := h.tdiv 100) D.hc D.ru (grX_ok D.h0 D.h1 D.p1 D.pt) hfine (H.pr.ext e) D.p1 ⟨by decide, by decide, by decide⟩ (by rw [hmix]; exact D.cl) (by rw [hhard]) (by rw [hhard]) (div_b D.h0 D.h1).1 (div_b D.h0 D.h1).2 hk
  have fin : ∀ (t : Hp) (Bv : Nat), Ext s t → Own t ⟨Bv, 0, none⟩ (.int .i64 (10 + gvX r cls h)) → Own t ⟨Bv, 1, none⟩ (.int .i64 (20 + gvX r cls h)) → J_top_TopDug_6 W (endK K E) (some ⟨Bu, 0, none⟩) r.hard n1 (giftP r cls) n9 n10 B58 n4 0 (some ⟨Bv, 0, none⟩) 0 t := fun t Bv e v0 v1 => d_6 D (H.ext e) (e.own u0) (e.own u1) v0 v1 fun s' e' => hK s' (e.trans e')
  unfold J_top_TopDug_7
  simp only [D.e4]
  obtain ⟨g0, g1, g2, g3, r0, r1, r2, r3, pr⟩ := H
  (repeat ((with_reducible first | apply RDI_c | apply RDL_c | apply RDB_c | apply RDP_c | apply RDM_c | apply RDS_c | apply RDV_c); focus ((repeat (first | assumption | exact Own.cell (by assumption) | apply Ext.cell (by assumption))); done)))
  refine CONJ_two ?_ ?_
  · refine c_span04 fun s1 f1 => ?_
    try simp only [nd_]
    (repeat (((with_reducible refine ANDS_i ?_ ?_); focus ((repeat ((with_reducible first | apply RDI_c | apply RDL_c | apply RDB_c | apply RDP_c | apply RDM_c | apply RDS_c | apply RDV_c); focus ((repeat (first | assumption | exact Own.cell (by assumption) | apply Ext.cell (by assumption))); done))); exact rfl))))
    refine CONJ_two ?_ ?_
    · refine hEven s1 _ _ f1 fun s2 f2 => ?_
      try simp only [nd_]
      refine nz2 zc_27 fun s3 f3 z3 q0 q1 => ?_
      (repeat (((with_reducible refine ANDS_i ?_ ?_); focus ((repeat ((with_reducible first | apply RDI_c | apply RDL_c | apply RDB_c | apply RDP_c | apply RDM_c | apply RDS_c | apply RDV_c); focus ((repeat (first | assumption | exact Own.cell (by assumption) | apply Ext.cell (by assumption))); done))); exact rfl))))
      refine outk2 q0 q1 rfl rfl fun s4 k4 o0 o1 => ?_
      exact fin s4 _ (ext_kp ((f1.trans f2).trans f3) (by have := f1.1; have := f2.1; omega) k4) o0 o1
    · refine nz2 zc_27 fun s3 f3 z3 q0 q1 => ?_
      (repeat (((with_reducible refine ANDS_i ?_ ?_); focus ((repeat ((with_reducible first | apply RDI_c | apply RDL_c | apply RDB_c | apply RDP_c | apply RDM_c | apply RDS_c | apply RDV_c); focus ((repeat (first | assumption | exact Own.cell (by assumption) | apply Ext.cell (by assumption))); done))); exact rfl))))
      refine hEven s3 _ _ (f1.trans f3) fun s2 f2 => ?_
      try simp only [nd_]
      refine outk2 (f2.own q0) (f2.own q1) rfl rfl fun s4 k4 o0 o1 => ?_
      exact fin s4 _ (ext_kp ((f1.trans f3).trans f2) (by have := f1.1; omega) k4) o0 o1
  · refine nz2 zc_27 fun s3 f3 z3 q0 q1 => ?_
    (repeat (((with_reducible refine ANDS_i ?_ ?_); focus ((repeat ((with_reducible first | apply RDI_c | apply RDL_c | apply RDB_c | apply RDP_c | apply RDM_c | apply RDS_c | apply RDV_c); focus ((repeat (first | assumption | exact Own.cell (by assumption) | apply Ext.cell (by assumption))); done))); exact rfl))))
    refine c_span04 fun s1 f1 => ?_
    try simp only [nd_]
    (repeat (((with_reducible refine ANDS_i ?_ ?_); focus ((repeat ((with_reducible first | apply RDI_c | apply RDL_c | apply RDB_c | apply RDP_c | apply RDM_c | apply RDS_c | apply RDV_c); focus ((repeat (first | assumption | exact Own.cell (by assumption) | apply Ext.cell (by assumption))); done))); exact rfl))))
    refine hEven s1 _ _ (f3.trans f1) fun s2 f2 => ?_
    try simp only [nd_]
    refine outk2 (f2.own (f1.own q0)) (f2.own (f1.own q1)) rfl rfl fun s4 k4 o0 o1 => ?_
    exact fin s4 _ (ext_kp ((f3.trans f1).trans f2) (Nat.le_refl _) k4) o0 o1
set_option maxHeartbeats 1000000 in
theorem d_8 (D : Dg n1 n4 n9 n10 h a b c m l p cls r) (H : DgH s B58 B11 h a b c p r x) (hK : ∀ s', Ext s s' → K (.bool true) s') : J_top_TopDug_8 W (endK K E) false B11 B58 n4 n1 (giftP r cls) n9 n10 s := by
  have hGives : ∀ (t : Hp) (K' : VK) (E' : List PanicEntry → Hp → Prop), Ext s t → (∀ t', Ext t t' → K' (.tuple #[.agg #[.int .i64 (gvX r cls h), .int .i64 (gvX r cls h)], .int .i64 0]) t') → CALL Pg W F_even_Gives [ruV r, evV (grX p h a b c) x 1 p (10, 20)] K' E' t := by
    intro t K' E' e hk
    obtain ⟨hfine, hhard, hmix⟩ := fine_x (h := h) D.p1 D.h0 D.h1 D.pt
    exact c_Gives (g := grX p h a b c) (k := p) (m := (10, 20)) (q := h.tdiv 100) D.hc D.ru (grX_ok D.h0 D.h1 D.p1 D.pt) hfine (H.pr.ext e) D.p1 ⟨by decide, by decide, by decide⟩ (by rw [hmix]; exact D.cl) (by rw [hhard]) (by rw [hhard]) (div_b D.h0 D.h1).1 (div_b D.h0 D.h1).2 hk
  have fin : ∀ (t : Hp) (Bv : Nat), Ext s t → Own t ⟨Bv, 0, none⟩ (.int .i64 (gvX r cls h)) → Own t ⟨Bv, 1, none⟩ (.int .i64 (gvX r cls h)) → J_top_TopDug_7 W (endK K E) B11 B58 n4 (some ⟨Bv, 0, none⟩) r.hard n1 (giftP r cls) n9 n10 0 t := fun t Bv e v0 v1 => d_7 D (H.ext e) v0 v1 fun s' e' => hK s' (e.trans e')
  unfold J_top_TopDug_8
  simp only [D.e4]
  obtain ⟨g0, g1, g2, g3, r0, r1, r2, r3, pr⟩ := H
  refine BR_ff rfl ?_
  (repeat ((with_reducible first | apply RDI_c | apply RDL_c | apply RDB_c | apply RDP_c | apply RDM_c | apply RDS_c | apply RDV_c); focus ((repeat (first | assumption | exact Own.cell (by assumption) | apply Ext.cell (by assumption))); done)))
  refine CONJ_two ?_ ?_
  · refine c_span04 fun s1 f1 => ?_
    try simp only [nd_]
    (repeat (((with_reducible refine ANDS_i ?_ ?_); focus ((repeat ((with_reducible first | apply RDI_c | apply RDL_c | apply RDB_c | apply RDP_c | apply RDM_c | apply RDS_c | apply RDV_c); focus ((repeat (first | assumption | exact Own.cell (by assumption) | apply Ext.cell (by assumption))); done))); exact rfl))))
    refine CONJ_two ?_ ?_
    · refine hGives s1 _ _ f1 fun s2 f2 => ?_
      try simp only [nd_]
      refine nz2 zc_27 fun s3 f3 z3 q0 q1 => ?_
      (repeat (((with_reducible refine ANDS_i ?_ ?_); focus ((repeat ((with_reducible first | apply RDI_c | apply RDL_c | apply RDB_c | apply RDP_c | apply RDM_c | apply RDS_c | apply RDV_c); focus ((repeat (first | assumption | exact Own.cell (by assumption) | apply Ext.cell (by assumption))); done))); exact rfl))))
      refine outk2 q0 q1 rfl rfl fun s4 k4 o0 o1 => ?_
      exact fin s4 _ (ext_kp ((f1.trans f2).trans f3) (by have := f1.1; have := f2.1; omega) k4) o0 o1
    · refine nz2 zc_27 fun s3 f3 z3 q0 q1 => ?_
      (repeat (((with_reducible refine ANDS_i ?_ ?_); focus ((repeat ((with_reducible first | apply RDI_c | apply RDL_c | apply RDB_c | apply RDP_c | apply RDM_c | apply RDS_c | apply RDV_c); focus ((repeat (first | assumption | exact Own.cell (by assumption) | apply Ext.cell (by assumption))); done))); exact rfl))))
      refine hGives s3 _ _ (f1.trans f3) fun s2 f2 => ?_
      try simp only [nd_]
      refine outk2 (f2.own q0) (f2.own q1) rfl rfl fun s4 k4 o0 o1 => ?_
      exact fin s4 _ (ext_kp ((f1.trans f3).trans f2) (by have := f1.1; omega) k4) o0 o1
  · refine nz2 zc_27 fun s3 f3 z3 q0 q1 => ?_
    (repeat (((with_reducible refine ANDS_i ?_ ?_); focus ((repeat ((with_reducible first | apply RDI_c | apply RDL_c | apply RDB_c | apply RDP_c | apply RDM_c | apply RDS_c | apply RDV_c); focus ((repeat (first | assumption | exact Own.cell (by assumption) | apply Ext.cell (by assumption))); done))); exact rfl))))
    refine c_span04 fun s1 f1 => ?_
    try simp only [nd_]
    (repeat (((with_reducible refine ANDS_i ?_ ?_); focus ((repeat ((with_reducible first | apply RDI_c | apply RDL_c | apply RDB_c | apply RDP_c | apply RDM_c | apply RDS_c | apply RDV_c); focus ((repeat (first | assumption | exact Own.cell (by assumption) | apply Ext.cell (by assumption))); done))); exact rfl))))
    refine hGives s1 _ _ (f3.trans f1) fun s2 f2 => ?_
    try simp only [nd_]
    refine outk2 (f2.own (f1.own q0)) (f2.own (f1.own q1)) rfl rfl fun s4 k4 o0 o1 => ?_
    exact fin s4 _ (ext_kp ((f3.trans f1).trans f2) (Nat.le_refl _) k4) o0 o1
end
open Go.V
section
variable {W : World} {K : VK} {E : List PanicEntry → Hp → Prop} {s : Hp} {n1 n4 n9 n10 h a b c m l : Int} {p cls : Nat} {r : RuP} {x : Option Addr} {B58 B11 : Nat}
theorem work_x (hf : hardP (grX p h a b c) p = (h, h)) : workN (grX p h a b c) p (p + 1 - p) = (h, h) := by
  have : p + 1 - p = 1 := by omega
  rw [this]
  unfold workN workN
  simp only [Nat.add_zero, hf]
  simp
set_option maxHeartbeats 1000000 in
theorem d_13 (D : Dg n1 n4 n9 n10 h a b c m l p cls r) (H : DgH s B58 B11 h a b c p r x) (hK : ∀ s', Ext s s' → K (.bool true) s') : J_top_TopDug_13 W (endK K E) B58 n4 n1 B11 (giftP r cls) n9 n10 (cls : Nat) s := by
  have hgr := grX_ok D.h0 D.h1 D.p1 D.pt
  have H' := H
  unfold J_top_TopDug_13
  simp only [D.e4, D.e1]
  obtain ⟨g0, g1, g2, g3, r0, r1, r2, r3, pr⟩ := H
  (repeat ((with_reducible first | apply RDI_c | apply RDL_c | apply RDB_c | apply RDP_c | apply RDM_c | apply RDS_c | apply RDV_c); focus ((repeat (first | assumption | exact Own.cell (by assumption) | apply Ext.cell (by assumption))); done)))
  have hfine := (fine_x (h := h) D.p1 D.h0 D.h1 D.pt).1
  refine c_Hard (g := grX p h a b c) hgr hfine pr D.p1 fun s1 f1 => ?_
  rw [(fine_x (h := h) D.p1 D.h0 D.h1 D.pt).2.1]
  try simp only [nd_]
  refine nw2 zc_27 rfl rfl fun s2 f2 z2 o0 o1 => ?_
  clear hfine
  (repeat ((with_reducible first | apply RDI_c | apply RDL_c | apply RDB_c | apply RDP_c | apply RDM_c | apply RDS_c | apply RDV_c); focus ((repeat (first | assumption | exact Own.cell (by assumption) | apply Ext.cell (by assumption))); done)))
  have hfine := (fine_x (h := h) D.p1 D.h0 D.h1 D.pt).1
  refine c_Class (g := grX p h a b c) hgr hfine ((pr.ext f1).ext f2) D.p1 fun s3 f3 => ?_
  rw [(fine_x (h := h) D.p1 D.h0 D.h1 D.pt).2.2, D.cl]
  try simp only [nd_]
  clear hfine
  (repeat ((with_reducible first | apply RDI_c | apply RDL_c | apply RDB_c | apply RDP_c | apply RDM_c | apply RDS_c | apply RDV_c); focus ((repeat (first | assumption | exact Own.cell (by assumption) | apply Ext.cell (by assumption))); done)))
  have hfine := (fine_x (h := h) D.p1 D.h0 D.h1 D.pt).1
  refine c_Work (g := grX p h a b c) hgr hfine (((pr.ext f1).ext f2).ext f3) (Nat.le_refl _) D.p1 fun s4 f4 => ?_
  rw [work_x (fine_x (h := h) D.p1 D.h0 D.h1 D.pt).2.1]
  try simp only [nd_]
  refine nw2 zc_27 rfl rfl fun s5 f5 z5 q0 q1 => ?_
  clear hfine
  (repeat ((with_reducible first | apply RDI_c | apply RDL_c | apply RDB_c | apply RDP_c | apply RDM_c | apply RDS_c | apply RDV_c); focus ((repeat (first | assumption | exact Own.cell (by assumption) | apply Ext.cell (by assumption))); done)))
  refine c_span04 fun s6 f6 => ?_
  try simp only [nd_]
  (repeat (((with_reducible refine ANDS_i ?_ ?_); focus ((repeat ((with_reducible first | apply RDI_c | apply RDL_c | apply RDB_c | apply RDP_c | apply RDM_c | apply RDS_c | apply RDV_c); focus ((repeat (first | assumption | exact Own.cell (by assumption) | apply Ext.cell (by assumption))); done))); exact rfl))))
  refine BR_ff (by simp) ?_
  unfold J_top_TopDug_12
  refine BR_ff (by simp) ?_
  refine NNI_of (by omega) ?_
  have hsh : shlv .i64 1 (cls : Nat) = ((2 ^ cls : Nat) : Int) := by
    have := D.hc
    match cls, this with
    | 0, _ => rfl
    | 1, _ => rfl
    | 2, _ => rfl
    | 3, _ => rfl
  rw [hsh]
  unfold J_top_TopDug_11
  refine BR_ff (by simp) ?_
  unfold J_top_TopDug_10
  refine BR_ff (by simp) ?_
  refine ⟨_, (f6.own q0).cell, ⟨_, (f6.own q1).cell, ⟨_, ((((f3.trans f4).trans f5).trans f6).own o0).cell, ⟨_, ((((f3.trans f4).trans f5).trans f6).own o1).cell, ?_⟩⟩⟩⟩
  unfold J_top_TopDug_9
  refine BR_ff (by simp) ?_
  have e : Ext s s6 := ((((f1.trans f2).trans f3).trans f4).trans f5).trans f6
  exact d_8 D (H'.ext e) fun s' e' => hK s' (e.trans e')
theorem d_alive {n2 n3 : Int} (hK : ∀ s', Ext s s' → K (.bool true) s') : J_top_TopDug_14 W (endK K E) true n2 n1 n3 n4 B11 n9 n10 s := by
  unfold J_top_TopDug_14
  refine BR_tt rfl ?_
  refine c_alive11 fun s1 f1 => ?_
  try simp only [nd_]
  exact hK s1 f1
set_option maxHeartbeats 1000000 in
theorem d_14 {n2 n3 : Int} (b1 : 0 ≤ n1) (c1 : n1 < 65536) (b2 : 0 ≤ n2) (c2 : n2 < 256) (b3 : 0 ≤ n3) (c3 : n3 < 256) (b4 : 0 ≤ n4) (c4 : n4 < 256) (b9 : 0 ≤ n9) (c9 : n9 < 65536) (b10 : 0 ≤ n10) (c10 : n10 < 256) (ru : RuOk r) (r0 : Own s ⟨B11, 0, none⟩ (.int .i64 r.hard)) (r1 : Own s ⟨B11, 1, none⟩ (.int .i64 r.silt)) (r2 : Own s ⟨B11, 2, none⟩ (.int .i64 r.sand)) (r3 : Own s ⟨B11, 3, none⟩ (.int .i64 r.clay)) (hK : ∀ s', Ext s s' → K (.bool true) s') : J_top_TopDug_14 W (endK K E) false n2 n1 n3 n4 B11 n9 n10 s := by
  have w1 := wrap_i64 (n := n1) (by omega) (by omega)
  have w2 := wrap_i64 (n := n2) (by omega) (by omega)
  have w3 := wrap_i64 (n := n3) (by omega) (by omega)
  have w4 := wrap_i64 (n := n4) (by omega) (by omega)
  have w9 := wrap_i64 (n := n9) (by omega) (by omega)
  have w10 := wrap_i64 (n := n10) (by omega) (by omega)
  have t1 : n1.tmod 1001 = n1 % 1001 := Int.tmod_eq_emod_of_nonneg b1
  have t2 : n2.tmod 21 = n2 % 21 := Int.tmod_eq_emod_of_nonneg b2
  have t4 : n4.tmod 41 = n4 % 41 := Int.tmod_eq_emod_of_nonneg b4
  have t9 : n9.tmod 10001 = n9 % 10001 := Int.tmod_eq_emod_of_nonneg b9
  have t10 : n10.tmod 101 = n10 % 101 := Int.tmod_eq_emod_of_nonneg b10
  have a0 : 0 ≤ n2.tmod 21 := by omega
  have a1 : n2.tmod 21 ≤ 20 := by omega
  have hn : IntKind.wrap .i64 (IntKind.wrap .i64 (20 - n2.tmod 21) + 1) = 21 - n2.tmod 21 := by
    rw [wrap_i64 (n := 20 - n2.tmod 21) (by omega) (by omega), wrap_i64 (by omega) (by omega)]
    omega
  have t3 : n3.tmod (21 - n2.tmod 21) = n3 % (21 - n2.tmod 21) := Int.tmod_eq_emod_of_nonneg b3
  have d0 : 0 ≤ n3.tmod (21 - n2.tmod 21) := by rw [t3]; exact Int.emod_nonneg _ (by omega)
  have d1 : n3.tmod (21 - n2.tmod 21) < 21 - n2.tmod 21 := by rw [t3]; exact Int.emod_lt_of_pos _ (by omega)
  obtain ⟨p, hp⟩ := Int.eq_ofNat_of_zero_le (a := n4.tmod 41) (by omega)
  have p1 : p ≤ 40 := by omega
  have hm0 : 0 ≤ n9.tmod 10001 := by omega
  have hm1 : n9.tmod 10001 ≤ 10000 := by omega
  have hl0 : 0 ≤ n10.tmod 101 := by omega
  have hl1 : n10.tmod 101 ≤ 100 := by omega
  have hh0 : 0 ≤ n1.tmod 1001 := by omega
  have hh1 : n1.tmod 1001 ≤ 1000 := by omega
  unfold J_top_TopDug_14
  refine BR_ff rfl ?_
  simp only [w1, w2, w3, w4, hn, hp]
  clear t1 t2 t3 t4 t9 t10
  generalize he1 : n1.tmod 1001 = h at hh0 hh1 ⊢
  generalize he2 : n2.tmod 21 = a at a0 a1 hn d0 d1 ⊢
  generalize he3 : n3.tmod (21 - a) = b at d0 d1 ⊢
  have hc : IntKind.wrap .i64 (IntKind.wrap .i64 (20 - a) - b) = 20 - a - b := by
    rw [wrap_i64 (n := 20 - a) (by omega) (by omega), wrap_i64 (by omega) (by omega)]
  simp only [hc]
  have pt : Pt a b (20 - a - b) := ⟨a0, d0, by omega, by omega⟩
  have hcls := class_x pt
  generalize hce : 20 - a - b = c at pt hcls ⊢
  refine NZI_pos (by omega) ?_
  refine c_span04 fun s1 f1 => ?_
  try simp only [nd_]
  refine c_span04 fun s2 f2 => ?_
  try simp only [nd_]
  refine c_span04 fun s3 f3 => ?_
  try simp only [nd_]
  refine c_span04 fun s4 f4 => ?_
  try simp only [nd_]
  refine ne9 fun s5 f5 z5 q0 q1 q2 q3 q4 q5 q6 q7 q8 => ?_
  refine nw4 zc_33 rfl rfl rfl rfl fun s6 f6 z6 g0 g1 g2 g3 => ?_
  have e : Ext s s6 := ((((f1.trans f2).trans f3).trans f4).trans f5).trans f6
  have H : DgH s6 s5.size B11 h a b c p r (some ⟨s4.size, 0, none⟩) := by
    refine ⟨g0, g1, g2, g3, e.own r0, e.own r1, e.own r2, e.own r3, pit_row fun i hi => ?_⟩
    have : i = 0 := by have : (grX p h a b c).pits.length = 1 := rfl; omega
    subst this
    exact ⟨f6.own q0, f6.own q1, f6.own q2, f6.own q3, f6.own q4, f6.own q5, f6.own q6, f6.own q7, f6.own q8⟩
  have key : ∀ cls : Nat, cls < 4 → classP kindsP (exM a b c) 0 = 2 ^ cls → J_top_TopDug_13 W (endK K E) s5.size n4 n1 B11 (giftP r cls) n9 n10 (cls : Nat) s6 := fun cls h4 hcl =>
    d_13 (h := h) (a := a) (b := b) (c := c) (m := n9.tmod 10001) (l := n10.tmod 101) (p := p) ⟨by rw [w1]; exact he1, by rw [w4]; exact hp, by rw [w9], by rw [w10], hh0, hh1, hm0, hm1, hl0, hl1, p1, pt, ru, h4, hcl⟩ H fun s' e' => hK s' (e.trans e')
  refine BR_dec (fun h1 => ?_) (fun h1 => ?_)
  · refine ⟨_, (e.own r3).cell, ?_⟩
    refine ANDS_i ⟨_, (e.own r3).cell, rfl⟩ ?_
    exact key 3 (by decide) (by rw [hcls, if_pos h1])
  · refine BR_dec (fun h2 => ?_) (fun h2 => ?_)
    · refine ⟨_, (e.own r2).cell, ?_⟩
      refine ANDS_i ⟨_, (e.own r2).cell, rfl⟩ ?_
      exact key 1 (by decide) (by rw [hcls, if_neg h1, if_pos h2])
    · refine BR_dec (fun h3 => ?_) (fun h3 => ?_)
      · refine ⟨_, (e.own r1).cell, ?_⟩
        refine ANDS_i ⟨_, (e.own r1).cell, rfl⟩ ?_
        exact key 2 (by decide) (by rw [hcls, if_neg h1, if_neg h2, if_pos h3])
      · exact key 0 (by decide) (by rw [hcls, if_neg h1, if_neg h2, if_neg h3])
theorem w_TopDug {n2 n3 : Int} (b1 : 0 ≤ n1) (c1 : n1 < 65536) (b2 : 0 ≤ n2) (c2 : n2 < 256) (b3 : 0 ≤ n3) (c3 : n3 < 256) (b4 : 0 ≤ n4) (c4 : n4 < 256) (b9 : 0 ≤ n9) (c9 : n9 < 65536) (b10 : 0 ≤ n10) (c10 : n10 < 256) (hK : ∀ s', Ext s s' → K (.bool true) s') : CALL Pg W F_top_TopDug [.int .u16 n1, .int .u8 n2, .int .u8 n3, .int .u8 n4, ruV r, .int .u16 n9, .int .u8 n10] K E s := by
  refine does_top_TopDug W n1 n2 n3 n4 _ _ _ _ n9 n10 _ s ?_
  unfold T_top_TopDug
  refine ne4 fun s1 f1 z1 r0 r1 r2 r3 => ?_
  have no : ∀ {n2 n3 : Int}, J_top_TopDug_14 W (endK K E) true n2 n1 n3 n4 s.size n9 n10 s1 := d_alive fun s' e => hK s' (f1.trans e)
  have no15 : J_top_TopDug_15 W (endK K E) true n2 n1 n3 n4 s.size n9 n10 s1 := by unfold J_top_TopDug_15; exact BR_tt rfl no
  have no16 : J_top_TopDug_16 W (endK K E) true n2 n1 n3 n4 s.size n9 n10 s1 := by unfold J_top_TopDug_16; exact BR_tt rfl no15
  have no17 : J_top_TopDug_17 W (endK K E) true n2 n1 n3 n4 s.size n9 n10 s1 := by unfold J_top_TopDug_17; exact BR_tt rfl no16
  have no18 : J_top_TopDug_18 W (endK K E) true n2 n1 n3 n4 s.size n9 n10 s1 := by unfold J_top_TopDug_18; exact BR_tt rfl no17
  refine ⟨_, r0.cell, ?_⟩
  refine BR_dec (fun _ => no18) (fun h0 => ?_)
  refine ⟨_, r0.cell, ?_⟩
  try dsimp only
  by_cases h1 : r.hard > 5
  · rw [decide_eq_true h1]; exact no18
  rw [decide_eq_false h1]
  unfold J_top_TopDug_18
  refine BR_ff rfl ⟨_, r1.cell, ?_⟩
  try dsimp only
  by_cases h2 : r.silt < 0
  · rw [decide_eq_true h2]; exact no17
  rw [decide_eq_false h2]
  unfold J_top_TopDug_17
  refine BR_ff rfl ⟨_, r2.cell, ⟨_, r1.cell, ?_⟩⟩
  try dsimp only
  by_cases h3 : r.sand < r.silt
  · rw [decide_eq_true h3]; exact no16
  rw [decide_eq_false h3]
  unfold J_top_TopDug_16
  refine BR_ff rfl ⟨_, r3.cell, ⟨_, r2.cell, ?_⟩⟩
  try dsimp only
  by_cases h4 : r.clay < r.sand
  · rw [decide_eq_true h4]; exact no15
  rw [decide_eq_false h4]
  unfold J_top_TopDug_15
  refine BR_ff rfl ⟨_, r3.cell, ?_⟩
  try dsimp only
  by_cases h5 : r.clay > 12
  · rw [decide_eq_true h5]; exact no
  rw [decide_eq_false h5]
  exact d_14 b1 c1 b2 c2 b3 c3 b4 c4 b9 c9 b10 c10 ⟨by omega, by omega, by omega, by omega, by omega, by omega⟩ r0 r1 r2 r3 fun s' e => hK s' (f1.trans e)
end
open Go.V
section
variable {s : Hp}
theorem rds_24 (n : Nat) (cs : List Value) : Rds Pg s (n + 1) 24 cs = (cs.length = 4 ∧ Rds Pg s n 3 ((cs.drop 0).take 1) ∧ Rds Pg s n 3 ((cs.drop 1).take 1) ∧ Rds Pg s n 3 ((cs.drop 2).take 1) ∧ Rds Pg s n 3 ((cs.drop 3).take 1) ∧ True) := by kernel_rfl
theorem rds_3 (n : Nat) (cs : List Value) : Rds Pg s (n + 1) 3 cs = (∃ m, cs = [.int .i64 m] ∧ (Lit.int .i64 m).wf = true) := by kernel_rfl
theorem rds_5 (n : Nat) (cs : List Value) : Rds Pg s (n + 1) 5 cs = (∃ m, cs = [.int .u8 m] ∧ (Lit.int .u8 m).wf = true) := by kernel_rfl
theorem rds_22 (n : Nat) (cs : List Value) : Rds Pg s (n + 1) 22 cs = (∃ m, cs = [.int .u16 m] ∧ (Lit.int .u16 m).wf = true) := by kernel_rfl
theorem ag_24 : isAg Pg 24 = true := by kernel_rfl
theorem ag_22 : isAg Pg 22 = false := by kernel_rfl
theorem ag_5 : isAg Pg 5 = false := by kernel_rfl
theorem u8_rd {v : Value} (h : RdV Pg s 5 v) : ∃ n : Int, v = .int .u8 n ∧ 0 ≤ n ∧ n < 256 := by
  obtain ⟨cs, rfl, h⟩ := h
  rw [ag_5, rds_5] at *
  obtain ⟨m, rfl, hw⟩ := h
  have h1 : 0 ≤ m ∧ m ≤ 255 := by simp [Lit.wf, IntKind.min, IntKind.max, IntKind.bits, IntKind.signed] at hw; omega
  exact ⟨m, rfl, by omega, by omega⟩
theorem u16_rd {v : Value} (h : RdV Pg s 22 v) : ∃ n : Int, v = .int .u16 n ∧ 0 ≤ n ∧ n < 65536 := by
  obtain ⟨cs, rfl, h⟩ := h
  rw [ag_22, rds_22] at *
  obtain ⟨m, rfl, hw⟩ := h
  have h1 : 0 ≤ m ∧ m ≤ 65535 := by simp [Lit.wf, IntKind.min, IntKind.max, IntKind.bits, IntKind.signed] at hw; omega
  exact ⟨m, rfl, by omega, by omega⟩
theorem ru_rd {v : Value} (h : RdV Pg s 24 v) : ∃ r : RuP, v = ruV r := by
  obtain ⟨cs, rfl, h⟩ := h
  rw [ag_24, rds_24, rds_3, rds_3, rds_3, rds_3] at *
  obtain ⟨h0, ⟨a, h1, _⟩, ⟨b, h2, _⟩, ⟨c, h3, _⟩, ⟨d, h4, _⟩, _⟩ := h
  match cs, h0 with
  | [p, q, u, w], _ =>
    simp at h1 h2 h3 h4
    subst h1; subst h2; subst h3; subst h4
    exact ⟨⟨a, b, c, d⟩, rfl⟩
end
theorem v_TopDug {W : World} {s : Hp} {v0 v1 v2 v3 v4 v5 v6 : Value} (k0 : RdV Pg s 22 v0) (k1 : RdV Pg s 5 v1) (k2 : RdV Pg s 5 v2) (k3 : RdV Pg s 5 v3) (k4 : RdV Pg s 24 v4) (k5 : RdV Pg s 22 v5) (k6 : RdV Pg s 5 v6) : CALL Pg W F_top_TopDug [v0, v1, v2, v3, v4, v5, v6] (fun v s' => v = .bool true ∧ Ext s s') (fun _ _ => False) s := by
  obtain ⟨n0, rfl, a0, b0⟩ := u16_rd k0
  obtain ⟨n1, rfl, a1, b1⟩ := u8_rd k1
  obtain ⟨n2, rfl, a2, b2⟩ := u8_rd k2
  obtain ⟨n3, rfl, a3, b3⟩ := u8_rd k3
  obtain ⟨r, rfl⟩ := ru_rd k4
  obtain ⟨n5, rfl, a5, b5⟩ := u16_rd k5
  obtain ⟨n6, rfl, a6, b6⟩ := u8_rd k6
  exact w_TopDug a0 b0 a1 b1 a2 b2 a3 b3 a5 b5 a6 b6 fun s' e => ⟨rfl, e⟩
end Go.Proofs.YtpmldejcdaoljaaGreat.G
namespace Go.Proofs.YtpmldejcdaoljaaGreat.topDug
open Go.ChangeShapes Go.WideShapes Go.ChangeAt Go.RowKit Go.V
theorem own : ownKnob Tryz.prog.godebug = none := by kernel_rfl
theorem laidOut : laidOutB Tryz.prog = true := by kernel_rfl
set_option maxRecDepth 100000 in
theorem lifted (os : Os) (started : os.Started) (H : Type) (enc : TypeId × Value → H) :
    ReturnsInHanded {} Tryz.checked os 3 .any (Rows.topDugSpec.pre6 enc Tryz.prog Tryz.f3 Rows.topDugRow.domain false) (Rows.topDugSpec.post enc Tryz.prog Tryz.f3 false true false false) := by
  refine returnsInHanded_of_change_sized (C := Tryz.checked) own started (by kernel_rfl) Tryz.func3
    (ChangeSpec.witness6 (enc := enc) (C := Tryz.checked) false ⟨#[], #[(.int .u16 0), (.int .u8 0), (.int .u8 0), (.int .u8 0), (.agg #[(.int .i64 0), (.int .i64 0), (.int .i64 0), (.int .i64 0)]), (.int .u16 0), (.int .u8 0)], []⟩ 8 (by kernel_rfl) (by kernel_rfl) (by kernel_rfl) (by kernel_rfl)) ?_
  intro W base args ds gs before hval0 hW hcnd hsz0 _
  have hsz : (DataW.weightsEach Tryz.prog (Tryz.f3.params.toList ++ Rows.topDugSpec.plain.varTypes Tryz.prog) (ds ++ gs)).all (· ≤ reachBytes) = true := hsz0
  have hval : ∀ (j : Nat) t v, Tryz.f3.params[j]? = some t → args[j]? = some v → Value.okWide Tryz.prog W .any base t v := hval0
  have hW' := hW
  obtain ⟨p, q, hA0, hV, rfl, hfz, hnd⟩ := hW
  have hA : DataW.TrodAll enc Tryz.prog W 0 (fun _ => true) true Tryz.f3.params.toList args.toList ds p := hA0
  rw [Tryz.params3] at hA hval hsz
  obtain ⟨v0, vs0, d0, ds0, p0, q0, hargs, rfl, rfl, h0, r0⟩ := trodAll_cons hA
  obtain ⟨v1, vs1, d1, ds1, p1, q1, rfl, rfl, rfl, h1, r1⟩ := trodAll_cons r0
  obtain ⟨v2, vs2, d2, ds2, p2, q2, rfl, rfl, rfl, h2, r2⟩ := trodAll_cons r1
  obtain ⟨v3, vs3, d3, ds3, p3, q3, rfl, rfl, rfl, h3, r3⟩ := trodAll_cons r2
  obtain ⟨v4, vs4, d4, ds4, p4, q4, rfl, rfl, rfl, h4, r4⟩ := trodAll_cons r3
  obtain ⟨v5, vs5, d5, ds5, p5, q5, rfl, rfl, rfl, h5, r5⟩ := trodAll_cons r4
  obtain ⟨v6, vs6, d6, ds6, p6, q6, rfl, rfl, rfl, h6, r6⟩ := trodAll_cons r5
  obtain ⟨rfl, rfl, rfl⟩ := trodAll_nil r6
  obtain rfl : args = #[v0, v1, v2, v3, v4, v5, v6] := by cases args; simp_all
  obtain ⟨rfl, rfl⟩ := trodVars_none hV
  have k0 := trod_rdV (hval 0 22 v0 rfl rfl) h0
  have lt0 : ∀ x ∈ p0, x.block < W.heap.size := by obtain ⟨m, hm⟩ := h0; exact DataW.trod_lt m _ _ _ hm
  have k1 := trod_rdV (hval 1 5 v1 rfl rfl) h1
  have lt1 : ∀ x ∈ p1, x.block < W.heap.size := by obtain ⟨m, hm⟩ := h1; exact DataW.trod_lt m _ _ _ hm
  have k2 := trod_rdV (hval 2 5 v2 rfl rfl) h2
  have lt2 : ∀ x ∈ p2, x.block < W.heap.size := by obtain ⟨m, hm⟩ := h2; exact DataW.trod_lt m _ _ _ hm
  have k3 := trod_rdV (hval 3 5 v3 rfl rfl) h3
  have lt3 : ∀ x ∈ p3, x.block < W.heap.size := by obtain ⟨m, hm⟩ := h3; exact DataW.trod_lt m _ _ _ hm
  have k4 := trod_rdV (hval 4 24 v4 rfl rfl) h4
  have lt4 : ∀ x ∈ p4, x.block < W.heap.size := by obtain ⟨m, hm⟩ := h4; exact DataW.trod_lt m _ _ _ hm
  have k5 := trod_rdV (hval 5 22 v5 rfl rfl) h5
  have lt5 : ∀ x ∈ p5, x.block < W.heap.size := by obtain ⟨m, hm⟩ := h5; exact DataW.trod_lt m _ _ _ hm
  have k6 := trod_rdV (hval 6 5 v6 rfl rfl) h6
  have lt6 : ∀ x ∈ p6, x.block < W.heap.size := by obtain ⟨m, hm⟩ := h6; exact DataW.trod_lt m _ _ _ hm
  refine (calls_of_does (does_of_call (G.v_TopDug (W := W) (s := W.heap) k0 k1 k2 k3 k4 k5 k6))).mono fun e W' ⟨he, bel⟩ => ?_
  subst he
  exact ⟨_, rfl, _, _, _, [], _, [], hW', trodAll_mk1 (shut_bool Tryz.underlying4 _), (trodAll_cons_mk (Below.trod laidOut (by kernel_rfl) (of_decide_eq_true (by kernel_rfl)) h0 bel lt0) (trodAll_cons_mk (Below.trod laidOut (by kernel_rfl) (of_decide_eq_true (by kernel_rfl)) h1 bel lt1) (trodAll_cons_mk (Below.trod laidOut (by kernel_rfl) (of_decide_eq_true (by kernel_rfl)) h2 bel lt2) (trodAll_cons_mk (Below.trod laidOut (by kernel_rfl) (of_decide_eq_true (by kernel_rfl)) h3 bel lt3) (trodAll_cons_mk (Below.trod laidOut (by kernel_rfl) (of_decide_eq_true (by kernel_rfl)) h4 bel lt4) (trodAll_cons_mk (Below.trod laidOut (by kernel_rfl) (of_decide_eq_true (by kernel_rfl)) h5 bel lt5) (trodAll_cons_mk (Below.trod laidOut (by kernel_rfl) (of_decide_eq_true (by kernel_rfl)) h6 bel lt6) trodAll_mk0))))))), rfl, bel.frame _, fun h => by cases h⟩
theorem over : Rows.topDugRow.holds Tryz.pinned (OpenSpec.ofChange Rows.topDugSpec) :=
  OpenClaim.holds_of_wide 3 Tryz.f3 rfl rfl rfl rfl rfl rfl rfl ⟨rfl, rfl, rfl, rfl, rfl⟩ rfl rfl rfl rfl rfl (by kernel_rfl) Tryz.func3 (by kernel_rfl)
    (of_decide_eq_true (by kernel_rfl)) (by unfold Func.isWrapper; first | (rw [if_pos (by decide +kernel)]; kernel_rfl) | (rw [if_neg (by decide +kernel)]; exact ⟨rfl, rfl⟩))
    (fun os started H enc _ => lifted os started H enc)
theorem proved : Rows.TopDugSaid := over
end Go.Proofs.YtpmldejcdaoljaaGreat.topDug
namespace Go.Proofs.YtpmldejcdaoljaaGreat
theorem topDug_holds : Rows.TopDugSaid := topDug.proved
end Go.Proofs.YtpmldejcdaoljaaGreat
