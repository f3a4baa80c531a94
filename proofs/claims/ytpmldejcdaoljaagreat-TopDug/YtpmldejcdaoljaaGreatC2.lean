import Derived.Test.YtpmldejcdaoljaaGreatC1
import Derived.Test.YtpmldejcdaoljaaGreatProg
/- Lemmas: contracts over the visible heap, and that they are sound; no condition. -/
set_option linter.unusedVariables false
set_option maxRecDepth 100000
namespace Go.Proofs.YtpmldejcdaoljaaGreat.G
open Go.V
noncomputable abbrev Pg : Program := Tryz.prog
abbrev F_top_TopDug : FuncId := 3
abbrev F_top_alive11 : FuncId := 4
abbrev F_top_span04 : FuncId := 5
abbrev F_soil_Hard : FuncId := 6
abbrev F_soil_Class : FuncId := 7
abbrev F_soil_Work : FuncId := 8
abbrev F_even_Gives : FuncId := 9
abbrev F_even_Even : FuncId := 10
abbrev F_team_Left : FuncId := 11
abbrev F_team_Comes : FuncId := 12
abbrev F_top_ground07 : FuncId := 13
abbrev F_top_alive07 : FuncId := 14
abbrev F_soil_open : FuncId := 16
abbrev F_soil_isPlace : FuncId := 17
abbrev F_soil_ground_classes : FuncId := 18
abbrev F_soil_Work_c1 : FuncId := 19
abbrev F_even_span : FuncId := 22
abbrev F_even_checked : FuncId := 23
abbrev F_even_plot_gives : FuncId := 24
abbrev F_even_plot_even : FuncId := 26
abbrev F_team_open : FuncId := 29
abbrev F_team_within : FuncId := 30
abbrev F_team_casesOf : FuncId := 31
abbrev F_team_plot_behind : FuncId := 32
abbrev F_team_plot_failed : FuncId := 34
abbrev F_clock_Lasted : FuncId := 35
abbrev F_top_clock07 : FuncId := 36
abbrev F_top_horses07 : FuncId := 37
abbrev F_soil_must : FuncId := 38
abbrev F_soil_isGround : FuncId := 39
abbrev F_soil_look : FuncId := 40
abbrev F_soil_isPlace_c1 : FuncId := 41
abbrev F_soil_within : FuncId := 42
abbrev F_soil_kinds : FuncId := 43
abbrev F_soil_mix_isNone : FuncId := 44
abbrev F_even_need : FuncId := 45
abbrev F_even_rule_isValid : FuncId := 46
abbrev F_even_isPlot : FuncId := 47
abbrev F_even_look : FuncId := 48
abbrev F_even_plot_gifts : FuncId := 49
abbrev F_slices_Min_int_int : FuncId := 50
abbrev F_slices_Max_int_int : FuncId := 51
abbrev F_team_need : FuncId := 52
abbrev F_team_isTeam : FuncId := 53
abbrev F_team_isPlot : FuncId := 54
abbrev F_team_look : FuncId := 55
abbrev F_team_casesOf_c1 : FuncId := 56
abbrev F_team_casesOf_c2 : FuncId := 57
abbrev F_team_plot_behind_c1 : FuncId := 58
abbrev F_team_plot_steps : FuncId := 59
abbrev F_clock_Lasted_c2 : FuncId := 62
abbrev F_clock_bounds_later : FuncId := 63
abbrev F_clock_open : FuncId := 64
abbrev F_clock_isEvent : FuncId := 65
abbrev F_clock_clock_ask : FuncId := 66
abbrev F_soil_isSpan : FuncId := 67
abbrev F_soil_ground_places : FuncId := 68
abbrev F_soil_both : FuncId := 69
abbrev F_soil_anything : FuncId := 70
abbrev F_soil_mix_and : FuncId := 71
abbrev F_soil_mix_next : FuncId := 72
abbrev F_soil_kinds_c1 : FuncId := 73
abbrev F_soil_kinds_c2 : FuncId := 74
abbrev F_soil_kinds_c3 : FuncId := 75
abbrev F_soil_kinds_c4 : FuncId := 76
abbrev F_soil_kinds_c5 : FuncId := 77
abbrev F_soil_kinds_c6 : FuncId := 78
abbrev F_soil_kinds_c6_c1 : FuncId := 79
abbrev F_soil_kinds_c6_c2 : FuncId := 80
abbrev F_even_within : FuncId := 81
abbrev F_even_rule_classes : FuncId := 82
abbrev F_team_isSpan : FuncId := 83
abbrev F_team_isPlot_c1 : FuncId := 84
abbrev F_slices_ContainsFunc_api_TeamStep_api_TeamStep : FuncId := 85
abbrev F_clock_need : FuncId := 86
abbrev F_clock_isClock : FuncId := 87
abbrev F_clock_within : FuncId := 88
abbrev F_clock_ends_int_keep : FuncId := 89
abbrev F_clock_clock_truths : FuncId := 90
abbrev F_clock_clock_every : FuncId := 91
abbrev F_soil_ground_places_c1 : FuncId := 92
abbrev F_soil_most_int : FuncId := 93
abbrev F_soil_least_int : FuncId := 94
abbrev F_soil_mix_tight : FuncId := 95
abbrev F_soil_mix_next_c1 : FuncId := 96
abbrev F_slices_IndexFunc_api_TeamStep_api_TeamStep : FuncId := 97
abbrev F_clock_isClock_c1 : FuncId := 98
abbrev F_clock_isSpan : FuncId := 99
abbrev F_clock_isClock_c2 : FuncId := 100
abbrev F_clock_isWatch : FuncId := 101
abbrev F_clock_isClock_c3 : FuncId := 102
abbrev F_slices_ContainsFunc_api_ClockWatch_api_ClockWatch : FuncId := 103
abbrev F_slices_ContainsFunc_api_ClockReading_api_ClockReading : FuncId := 104
abbrev F_slices_ContainsFunc_api_ClockLink_api_ClockLink : FuncId := 105
abbrev F_clock_clock_truths_c1 : FuncId := 106
abbrev F_clock_clock_tellers : FuncId := 107
abbrev F_clock_clock_choices : FuncId := 108
abbrev F_clock_bounds_tight : FuncId := 109
abbrev F_soil_mix_tight_c1 : FuncId := 110
abbrev F_slices_IndexFunc_api_ClockWatch_api_ClockWatch : FuncId := 111
abbrev F_slices_IndexFunc_api_ClockReading_api_ClockReading : FuncId := 112
abbrev F_slices_IndexFunc_api_ClockLink_api_ClockLink : FuncId := 113
abbrev F_clock_clock_choices_c1 : FuncId := 114
abbrev F_clock_clock_choices_c1_c1 : FuncId := 115
abbrev F_clock_bounds_put : FuncId := 116
abbrev F_soil_limit_hard : FuncId := 134
abbrev F_soil_dug_hard : FuncId := 135
abbrev F_team_rest_do : FuncId := 136
abbrev F_team_furrow_do : FuncId := 137
abbrev F_clock_day_tell : FuncId := 138
abbrev F_clock_bounds_tie : FuncId := 139
abbrev F_clock_reading_tell : FuncId := 140
abbrev F_clock_going_minutes : FuncId := 141
abbrev F_clock_going_minutes_c1 : FuncId := 142
abbrev F_clock_link_tell : FuncId := 143
def an_6 : Nat → Ann := fun b => match b with
 | _ => {}
def J_soil_Hard_0 (W : World) (R : Ending → Hp → Prop) (B10 B9 : Nat) : Hp → Prop :=
 DEF Pg W (.tuple #[(.func (.func 15) #[] #[]), (.tuple #[(.pointer (some ⟨B10, 0, none⟩))])]) none
 (RDI .i64 (Addr.add ⟨B9, 0, none⟩ 0) fun n54 =>
 RDI .i64 (Addr.add ⟨B9, 0, none⟩ 1) fun n55 =>
 RDI .i64 ⟨B10, 0, none⟩ fun n56 =>
 R (.returned (.tuple #[(.agg #[(.int .i64 n54), (.int .i64 n55)]), (.int .i64 n56)])))
def T_soil_Hard (W : World) (n1 n2 n3 : Int) (x4 : Option Addr) (l5 c6 : Nat) (n7 : Int) (R : Ending → Hp → Prop) : Hp → Prop :=
 NEW 33 [(.int .i64 n1), (.int .i64 n2), (.int .i64 n3), (.slice x4 l5 c6)] fun B8 =>
 NEWZ Pg 27 fun B9 =>
 NEWZ Pg 34 fun B10 =>
 RDI .i64 (Addr.add ⟨B8, 0, none⟩ 0) fun n11 =>
 RDI .i64 (Addr.add ⟨B8, 0, none⟩ 1) fun n12 =>
 RDI .i64 (Addr.add ⟨B8, 0, none⟩ 2) fun n13 =>
 RDL (Addr.add ⟨B8, 0, none⟩ 3) fun x14 l15 c16 =>
 RDI .i64 (Addr.add ⟨B8, 0, none⟩ 0) fun n17 =>
 RDI .i64 (Addr.add ⟨B8, 0, none⟩ 1) fun n18 =>
 RDI .i64 (Addr.add ⟨B8, 0, none⟩ 2) fun n19 =>
 RDL (Addr.add ⟨B8, 0, none⟩ 3) fun x20 l21 c22 =>
 CONJ [
 CALL Pg W F_soil_isPlace [(.agg #[(.int .i64 n17), (.int .i64 n18), (.int .i64 n19), (.slice x20 l21 c22)])]
 (fun v23 => ANDS (RDI .i64 (Addr.add ⟨B8, 0, none⟩ 0) fun n25 =>
 RDI .i64 (Addr.add ⟨B8, 0, none⟩ 1) fun n26 =>
 RDI .i64 (Addr.add ⟨B8, 0, none⟩ 2) fun n27 =>
 RDL (Addr.add ⟨B8, 0, none⟩ 3) fun x28 l29 c30 =>
 fun _ => ((.agg #[(.int .i64 n25), (.int .i64 n26), (.int .i64 n27), (.slice x28 l29 c30)]) : Value) = (.agg #[(.int .i64 n11), (.int .i64 n12), (.int .i64 n13), (.slice x14 l15 c16)])) <|
 NEW 3 [(.int .i64 n7)] fun B31 =>
 ANDS (RDI .i64 (Addr.add ⟨B8, 0, none⟩ 0) fun n32 =>
 RDI .i64 (Addr.add ⟨B8, 0, none⟩ 1) fun n33 =>
 RDI .i64 (Addr.add ⟨B8, 0, none⟩ 2) fun n34 =>
 RDL (Addr.add ⟨B8, 0, none⟩ 3) fun x35 l36 c37 =>
 fun _ => ((.agg #[(.int .i64 n32), (.int .i64 n33), (.int .i64 n34), (.slice x35 l36 c37)]) : Value) = (.agg #[(.int .i64 n17), (.int .i64 n18), (.int .i64 n19), (.slice x20 l21 c22)])) <|
 ANDS (RDI .i64 (Addr.add ⟨B8, 0, none⟩ 0) fun n38 =>
 RDI .i64 (Addr.add ⟨B8, 0, none⟩ 1) fun n39 =>
 RDI .i64 (Addr.add ⟨B8, 0, none⟩ 2) fun n40 =>
 RDL (Addr.add ⟨B8, 0, none⟩ 3) fun x41 l42 c43 =>
 fun _ => ((.agg #[(.int .i64 n38), (.int .i64 n39), (.int .i64 n40), (.slice x41 l42 c43)]) : Value) = (.agg #[(.int .i64 n11), (.int .i64 n12), (.int .i64 n13), (.slice x14 l15 c16)])) <|
 CALL Pg W F_soil_open [(.agg #[(.int .i64 n11), (.int .i64 n12), (.int .i64 n13), (.slice x14 l15 c16)]), v23, (.slice (some ⟨B31, 0, none⟩) 1 1)]
 (fun v44 => TYP v44 fun p46 =>
 SO p46 fun a47 =>
 RDL (Addr.add a47 4) fun x48 l49 c50 =>
 IXS x48 l49 n7 2 fun a51 =>
 RDI .i64 (Addr.add a51 0) fun n52 =>
 RDI .i64 (Addr.add a51 1) fun n53 =>
 WR (Addr.add ⟨B9, 0, none⟩ 0) (.int .i64 n52) <|
 WR (Addr.add ⟨B9, 0, none⟩ 1) (.int .i64 n53) <|
 WR (Addr.add ⟨B10, 0, none⟩ 0) (.int .i64 0) <|
 J_soil_Hard_0 W R B10 B9)
 (fun e45 => DEF Pg W (.tuple #[(.func (.func 15) #[] #[]), (.tuple #[(.pointer (some ⟨B10, 0, none⟩))])]) (some e45) (RDI .i64 (Addr.add ⟨B9, 0, none⟩ 0) fun n57 =>
 RDI .i64 (Addr.add ⟨B9, 0, none⟩ 1) fun n58 =>
 RDI .i64 ⟨B10, 0, none⟩ fun n59 =>
 R (.returned (.tuple #[(.agg #[(.int .i64 n57), (.int .i64 n58)]), (.int .i64 n59)])))))
 (fun e24 => DEF Pg W (.tuple #[(.func (.func 15) #[] #[]), (.tuple #[(.pointer (some ⟨B10, 0, none⟩))])]) (some e24) (RDI .i64 (Addr.add ⟨B9, 0, none⟩ 0) fun n60 =>
 RDI .i64 (Addr.add ⟨B9, 0, none⟩ 1) fun n61 =>
 RDI .i64 ⟨B10, 0, none⟩ fun n62 =>
 R (.returned (.tuple #[(.agg #[(.int .i64 n60), (.int .i64 n61)]), (.int .i64 n62)])))),
 NEW 3 [(.int .i64 n7)] fun B63 =>
 ANDS (RDI .i64 (Addr.add ⟨B8, 0, none⟩ 0) fun n64 =>
 RDI .i64 (Addr.add ⟨B8, 0, none⟩ 1) fun n65 =>
 RDI .i64 (Addr.add ⟨B8, 0, none⟩ 2) fun n66 =>
 RDL (Addr.add ⟨B8, 0, none⟩ 3) fun x67 l68 c69 =>
 fun _ => ((.agg #[(.int .i64 n64), (.int .i64 n65), (.int .i64 n66), (.slice x67 l68 c69)]) : Value) = (.agg #[(.int .i64 n17), (.int .i64 n18), (.int .i64 n19), (.slice x20 l21 c22)])) <|
 ANDS (RDI .i64 (Addr.add ⟨B8, 0, none⟩ 0) fun n70 =>
 RDI .i64 (Addr.add ⟨B8, 0, none⟩ 1) fun n71 =>
 RDI .i64 (Addr.add ⟨B8, 0, none⟩ 2) fun n72 =>
 RDL (Addr.add ⟨B8, 0, none⟩ 3) fun x73 l74 c75 =>
 fun _ => ((.agg #[(.int .i64 n70), (.int .i64 n71), (.int .i64 n72), (.slice x73 l74 c75)]) : Value) = (.agg #[(.int .i64 n11), (.int .i64 n12), (.int .i64 n13), (.slice x14 l15 c16)])) <|
 CALL Pg W F_soil_isPlace [(.agg #[(.int .i64 n17), (.int .i64 n18), (.int .i64 n19), (.slice x20 l21 c22)])]
 (fun v76 => ANDS (RDI .i64 (Addr.add ⟨B8, 0, none⟩ 0) fun n78 =>
 RDI .i64 (Addr.add ⟨B8, 0, none⟩ 1) fun n79 =>
 RDI .i64 (Addr.add ⟨B8, 0, none⟩ 2) fun n80 =>
 RDL (Addr.add ⟨B8, 0, none⟩ 3) fun x81 l82 c83 =>
 fun _ => ((.agg #[(.int .i64 n78), (.int .i64 n79), (.int .i64 n80), (.slice x81 l82 c83)]) : Value) = (.agg #[(.int .i64 n11), (.int .i64 n12), (.int .i64 n13), (.slice x14 l15 c16)])) <|
 CALL Pg W F_soil_open [(.agg #[(.int .i64 n11), (.int .i64 n12), (.int .i64 n13), (.slice x14 l15 c16)]), v76, (.slice (some ⟨B63, 0, none⟩) 1 1)]
 (fun v84 => TYP v84 fun p86 =>
 SO p86 fun a87 =>
 RDL (Addr.add a87 4) fun x88 l89 c90 =>
 IXS x88 l89 n7 2 fun a91 =>
 RDI .i64 (Addr.add a91 0) fun n92 =>
 RDI .i64 (Addr.add a91 1) fun n93 =>
 WR (Addr.add ⟨B9, 0, none⟩ 0) (.int .i64 n92) <|
 WR (Addr.add ⟨B9, 0, none⟩ 1) (.int .i64 n93) <|
 WR (Addr.add ⟨B10, 0, none⟩ 0) (.int .i64 0) <|
 J_soil_Hard_0 W R B10 B9)
 (fun e85 => DEF Pg W (.tuple #[(.func (.func 15) #[] #[]), (.tuple #[(.pointer (some ⟨B10, 0, none⟩))])]) (some e85) (RDI .i64 (Addr.add ⟨B9, 0, none⟩ 0) fun n94 =>
 RDI .i64 (Addr.add ⟨B9, 0, none⟩ 1) fun n95 =>
 RDI .i64 ⟨B10, 0, none⟩ fun n96 =>
 R (.returned (.tuple #[(.agg #[(.int .i64 n94), (.int .i64 n95)]), (.int .i64 n96)])))))
 (fun e77 => DEF Pg W (.tuple #[(.func (.func 15) #[] #[]), (.tuple #[(.pointer (some ⟨B10, 0, none⟩))])]) (some e77) (RDI .i64 (Addr.add ⟨B9, 0, none⟩ 0) fun n97 =>
 RDI .i64 (Addr.add ⟨B9, 0, none⟩ 1) fun n98 =>
 RDI .i64 ⟨B10, 0, none⟩ fun n99 =>
 R (.returned (.tuple #[(.agg #[(.int .i64 n97), (.int .i64 n98)]), (.int .i64 n99)]))))]
theorem does_soil_Hard (W : World) (n1 n2 n3 : Int) (x4 : Option Addr) (l5 c6 : Nat) (n7 : Int) (R : Ending → Hp → Prop) (s : Hp) (h : T_soil_Hard W n1 n2 n3 x4 l5 c6 n7 R s) : Does Pg W F_soil_Hard #[(.agg #[(.int .i64 n1), (.int .i64 n2), (.int .i64 n3), (.slice x4 l5 c6)]), (.int .i64 n7)] s R :=
  does_of_vfun Pg W an_6 Tryz.func6 rfl (by kernel_rfl) (Eq.mpr (by kernel_rfl) h)
def an_7 : Nat → Ann := fun b => match b with
 | _ => {}
def T_soil_Class (W : World) (n1 n2 n3 : Int) (x4 : Option Addr) (l5 c6 : Nat) (n7 : Int) (R : Ending → Hp → Prop) : Hp → Prop :=
 NEW 33 [(.int .i64 n1), (.int .i64 n2), (.int .i64 n3), (.slice x4 l5 c6)] fun B8 =>
 NEWZ Pg 34 fun B9 =>
 RDI .i64 (Addr.add ⟨B8, 0, none⟩ 0) fun n10 =>
 RDI .i64 (Addr.add ⟨B8, 0, none⟩ 1) fun n11 =>
 RDI .i64 (Addr.add ⟨B8, 0, none⟩ 2) fun n12 =>
 RDL (Addr.add ⟨B8, 0, none⟩ 3) fun x13 l14 c15 =>
 RDI .i64 (Addr.add ⟨B8, 0, none⟩ 0) fun n16 =>
 RDI .i64 (Addr.add ⟨B8, 0, none⟩ 1) fun n17 =>
 RDI .i64 (Addr.add ⟨B8, 0, none⟩ 2) fun n18 =>
 RDL (Addr.add ⟨B8, 0, none⟩ 3) fun x19 l20 c21 =>
 CONJ [
 CALL Pg W F_soil_isPlace [(.agg #[(.int .i64 n16), (.int .i64 n17), (.int .i64 n18), (.slice x19 l20 c21)])]
 (fun v22 => ANDS (RDI .i64 (Addr.add ⟨B8, 0, none⟩ 0) fun n24 =>
 RDI .i64 (Addr.add ⟨B8, 0, none⟩ 1) fun n25 =>
 RDI .i64 (Addr.add ⟨B8, 0, none⟩ 2) fun n26 =>
 RDL (Addr.add ⟨B8, 0, none⟩ 3) fun x27 l28 c29 =>
 fun _ => ((.agg #[(.int .i64 n24), (.int .i64 n25), (.int .i64 n26), (.slice x27 l28 c29)]) : Value) = (.agg #[(.int .i64 n10), (.int .i64 n11), (.int .i64 n12), (.slice x13 l14 c15)])) <|
 NEW 3 [(.int .i64 n7)] fun B30 =>
 ANDS (RDI .i64 (Addr.add ⟨B8, 0, none⟩ 0) fun n31 =>
 RDI .i64 (Addr.add ⟨B8, 0, none⟩ 1) fun n32 =>
 RDI .i64 (Addr.add ⟨B8, 0, none⟩ 2) fun n33 =>
 RDL (Addr.add ⟨B8, 0, none⟩ 3) fun x34 l35 c36 =>
 fun _ => ((.agg #[(.int .i64 n31), (.int .i64 n32), (.int .i64 n33), (.slice x34 l35 c36)]) : Value) = (.agg #[(.int .i64 n16), (.int .i64 n17), (.int .i64 n18), (.slice x19 l20 c21)])) <|
 ANDS (RDI .i64 (Addr.add ⟨B8, 0, none⟩ 0) fun n37 =>
 RDI .i64 (Addr.add ⟨B8, 0, none⟩ 1) fun n38 =>
 RDI .i64 (Addr.add ⟨B8, 0, none⟩ 2) fun n39 =>
 RDL (Addr.add ⟨B8, 0, none⟩ 3) fun x40 l41 c42 =>
 fun _ => ((.agg #[(.int .i64 n37), (.int .i64 n38), (.int .i64 n39), (.slice x40 l41 c42)]) : Value) = (.agg #[(.int .i64 n10), (.int .i64 n11), (.int .i64 n12), (.slice x13 l14 c15)])) <|
 CALL Pg W F_soil_open [(.agg #[(.int .i64 n10), (.int .i64 n11), (.int .i64 n12), (.slice x13 l14 c15)]), v22, (.slice (some ⟨B30, 0, none⟩) 1 1)]
 (fun v43 => TYP v43 fun p45 =>
 CALL Pg W F_soil_ground_classes [(.pointer p45), (.int .i64 n7)]
 (fun v46 => TYI .i64 v46 fun n48 =>
 WR (Addr.add ⟨B9, 0, none⟩ 0) (.int .i64 0) <|
 DEF Pg W (.tuple #[(.func (.func 15) #[] #[]), (.tuple #[(.pointer (some ⟨B9, 0, none⟩))])]) none
 (RDI .i64 ⟨B9, 0, none⟩ fun n49 =>
 R (.returned (.tuple #[(.int .i64 n48), (.int .i64 n49)]))))
 (fun e47 => DEF Pg W (.tuple #[(.func (.func 15) #[] #[]), (.tuple #[(.pointer (some ⟨B9, 0, none⟩))])]) (some e47) (RDI .i64 ⟨B9, 0, none⟩ fun n50 =>
 R (.returned (.tuple #[(.int .i64 0), (.int .i64 n50)])))))
 (fun e44 => DEF Pg W (.tuple #[(.func (.func 15) #[] #[]), (.tuple #[(.pointer (some ⟨B9, 0, none⟩))])]) (some e44) (RDI .i64 ⟨B9, 0, none⟩ fun n51 =>
 R (.returned (.tuple #[(.int .i64 0), (.int .i64 n51)])))))
 (fun e23 => DEF Pg W (.tuple #[(.func (.func 15) #[] #[]), (.tuple #[(.pointer (some ⟨B9, 0, none⟩))])]) (some e23) (RDI .i64 ⟨B9, 0, none⟩ fun n52 =>
 R (.returned (.tuple #[(.int .i64 0), (.int .i64 n52)])))),
 NEW 3 [(.int .i64 n7)] fun B53 =>
 ANDS (RDI .i64 (Addr.add ⟨B8, 0, none⟩ 0) fun n54 =>
 RDI .i64 (Addr.add ⟨B8, 0, none⟩ 1) fun n55 =>
 RDI .i64 (Addr.add ⟨B8, 0, none⟩ 2) fun n56 =>
 RDL (Addr.add ⟨B8, 0, none⟩ 3) fun x57 l58 c59 =>
 fun _ => ((.agg #[(.int .i64 n54), (.int .i64 n55), (.int .i64 n56), (.slice x57 l58 c59)]) : Value) = (.agg #[(.int .i64 n16), (.int .i64 n17), (.int .i64 n18), (.slice x19 l20 c21)])) <|
 ANDS (RDI .i64 (Addr.add ⟨B8, 0, none⟩ 0) fun n60 =>
 RDI .i64 (Addr.add ⟨B8, 0, none⟩ 1) fun n61 =>
 RDI .i64 (Addr.add ⟨B8, 0, none⟩ 2) fun n62 =>
 RDL (Addr.add ⟨B8, 0, none⟩ 3) fun x63 l64 c65 =>
 fun _ => ((.agg #[(.int .i64 n60), (.int .i64 n61), (.int .i64 n62), (.slice x63 l64 c65)]) : Value) = (.agg #[(.int .i64 n10), (.int .i64 n11), (.int .i64 n12), (.slice x13 l14 c15)])) <|
 CALL Pg W F_soil_isPlace [(.agg #[(.int .i64 n16), (.int .i64 n17), (.int .i64 n18), (.slice x19 l20 c21)])]
 (fun v66 => ANDS (RDI .i64 (Addr.add ⟨B8, 0, none⟩ 0) fun n68 =>
 RDI .i64 (Addr.add ⟨B8, 0, none⟩ 1) fun n69 =>
 RDI .i64 (Addr.add ⟨B8, 0, none⟩ 2) fun n70 =>
 RDL (Addr.add ⟨B8, 0, none⟩ 3) fun x71 l72 c73 =>
 fun _ => ((.agg #[(.int .i64 n68), (.int .i64 n69), (.int .i64 n70), (.slice x71 l72 c73)]) : Value) = (.agg #[(.int .i64 n10), (.int .i64 n11), (.int .i64 n12), (.slice x13 l14 c15)])) <|
 CALL Pg W F_soil_open [(.agg #[(.int .i64 n10), (.int .i64 n11), (.int .i64 n12), (.slice x13 l14 c15)]), v66, (.slice (some ⟨B53, 0, none⟩) 1 1)]
 (fun v74 => TYP v74 fun p76 =>
 CALL Pg W F_soil_ground_classes [(.pointer p76), (.int .i64 n7)]
 (fun v77 => TYI .i64 v77 fun n79 =>
 WR (Addr.add ⟨B9, 0, none⟩ 0) (.int .i64 0) <|
 DEF Pg W (.tuple #[(.func (.func 15) #[] #[]), (.tuple #[(.pointer (some ⟨B9, 0, none⟩))])]) none
 (RDI .i64 ⟨B9, 0, none⟩ fun n80 =>
 R (.returned (.tuple #[(.int .i64 n79), (.int .i64 n80)]))))
 (fun e78 => DEF Pg W (.tuple #[(.func (.func 15) #[] #[]), (.tuple #[(.pointer (some ⟨B9, 0, none⟩))])]) (some e78) (RDI .i64 ⟨B9, 0, none⟩ fun n81 =>
 R (.returned (.tuple #[(.int .i64 0), (.int .i64 n81)])))))
 (fun e75 => DEF Pg W (.tuple #[(.func (.func 15) #[] #[]), (.tuple #[(.pointer (some ⟨B9, 0, none⟩))])]) (some e75) (RDI .i64 ⟨B9, 0, none⟩ fun n82 =>
 R (.returned (.tuple #[(.int .i64 0), (.int .i64 n82)])))))
 (fun e67 => DEF Pg W (.tuple #[(.func (.func 15) #[] #[]), (.tuple #[(.pointer (some ⟨B9, 0, none⟩))])]) (some e67) (RDI .i64 ⟨B9, 0, none⟩ fun n83 =>
 R (.returned (.tuple #[(.int .i64 0), (.int .i64 n83)]))))]
theorem does_soil_Class (W : World) (n1 n2 n3 : Int) (x4 : Option Addr) (l5 c6 : Nat) (n7 : Int) (R : Ending → Hp → Prop) (s : Hp) (h : T_soil_Class W n1 n2 n3 x4 l5 c6 n7 R s) : Does Pg W F_soil_Class #[(.agg #[(.int .i64 n1), (.int .i64 n2), (.int .i64 n3), (.slice x4 l5 c6)]), (.int .i64 n7)] s R :=
  does_of_vfun Pg W an_7 Tryz.func7 rfl (by kernel_rfl) (Eq.mpr (by kernel_rfl) h)
def an_8 : Nat → Ann := fun b => match b with
 | 0 => { ms := [29], ks := [.i .i64], us := [6, 7, 27, 28, 47], rt := false, ex := [] }
 | _ => {}
abbrev rv_8 : List ResultVar := [.cell 6 27, .cell 7 34]
abbrev rs_8 : List Nat := [47, 6, 7]
def L_soil_Work_0 (W : World) (R : Ending → Hp → Prop) (za0 : Addr) (za1 : Addr) (zp2 : Option Addr) (zl3 zl4 : Nat) (zn5 n50 : Int) : Hp → Prop :=
 LOOPN [.i .i64] (fun ys next s => ∀ j : Tm, vc Pg W 47 rs_8 an_8 false (sub (bodyOf Tryz.f8) [1, 1, 1, 1, 0, 1, 0, 0]) 0 (KLoop [29] [6, 7, 27, 28, 47] [(.pointer (some za0)), (.pointer (some za1)), (.slice zp2 zl3 zl4), (.int .i64 zn5), (.tuple #[(.func (.func 15) #[] #[]), (.tuple #[(.pointer (some za1))])])] next (KBlk 0 (KS Pg W 47 rs_8 an_8 false (sub (bodyOf Tryz.f8) [1, 1, 1, 1, 1]) 0 (fin Pg W 47 rv_8 R)))) (known [29] ys (known [6, 7, 27, 28, 47] [(.pointer (some za0)), (.pointer (some za1)), (.slice zp2 zl3 zl4), (.int .i64 zn5), (.tuple #[(.func (.func 15) #[] #[]), (.tuple #[(.pointer (some za1))])])] j)) s) [(.int .i64 n50)]
def B_soil_Work_0 (W : World) (R : Ending → Hp → Prop) (za0 : Addr) (za1 : Addr) (zp2 : Option Addr) (zl3 zl4 : Nat) (zn5 n50 : Int) (nx0 : List Value → Hp → Prop) : Hp → Prop :=
 BR (decide (n50 < zn5))
 (IXS zp2 zl3 n50 2 fun a51 =>
 RDI .i64 (Addr.add a51 0) fun n52 =>
 RDI .i64 (Addr.add a51 1) fun n53 =>
 NEWZ Pg 27 fun B54 =>
 WR (Addr.add ⟨B54, 0, none⟩ 0) (.int .i64 n52) <|
 WR (Addr.add ⟨B54, 0, none⟩ 1) (.int .i64 n53) <|
 RDI .i64 (Addr.add za0 0) fun n55 =>
 RDI .i64 (Addr.add ⟨B54, 0, none⟩ 0) fun n56 =>
 RDI .i64 (Addr.add za0 1) fun n57 =>
 RDI .i64 (Addr.add ⟨B54, 0, none⟩ 1) fun n58 =>
 WR (Addr.add (Addr.add za0 0) 0) (.int .i64 (IntKind.wrap .i64 (n55 + n56))) <|
 ANDS (RDI .i64 (Addr.add ⟨B54, 0, none⟩ 1) fun n59 =>
 fun _ => ((.int .i64 n59) : Value) = (.int .i64 n58)) <|
 WR (Addr.add (Addr.add za0 1) 0) (.int .i64 (IntKind.wrap .i64 (n57 + n58))) <|
 NX [(.pointer (some za0)), (.pointer (some za1)), (.slice zp2 zl3 zl4), (.int .i64 zn5), (.tuple #[(.func (.func 15) #[] #[]), (.tuple #[(.pointer (some za1))])])] [(.pointer (some za0)), (.pointer (some za1)), (.slice zp2 zl3 zl4), (.int .i64 zn5), (.tuple #[(.func (.func 15) #[] #[]), (.tuple #[(.pointer (some za1))])])] (nx0 [(.int .i64 (IntKind.wrap .i64 (n50 + 1)))]))
 (RDI .i64 (Addr.add za0 0) fun n60 =>
 RDI .i64 (Addr.add za0 1) fun n61 =>
 WR (Addr.add za0 0) (.int .i64 n60) <|
 WR (Addr.add za0 1) (.int .i64 n61) <|
 WR (Addr.add za1 0) (.int .i64 0) <|
 DEF Pg W (.tuple #[(.func (.func 15) #[] #[]), (.tuple #[(.pointer (some za1))])]) none
 (RDI .i64 (Addr.add za0 0) fun n62 =>
 RDI .i64 (Addr.add za0 1) fun n63 =>
 RDI .i64 za1 fun n64 =>
 R (.returned (.tuple #[(.agg #[(.int .i64 n62), (.int .i64 n63)]), (.int .i64 n64)]))))
theorem B_soil_Work_0_eq (W : World) (R : Ending → Hp → Prop) (za0 : Addr) (za1 : Addr) (zp2 : Option Addr) (zl3 zl4 : Nat) (zn5 n50 : Int) (nx0 : List Value → Hp → Prop) (j : Tm) : vc Pg W 47 rs_8 an_8 false (sub (bodyOf Tryz.f8) [1, 1, 1, 1, 0, 1, 0, 0]) 0 (KLoop [29] [6, 7, 27, 28, 47] [(.pointer (some za0)), (.pointer (some za1)), (.slice zp2 zl3 zl4), (.int .i64 zn5), (.tuple #[(.func (.func 15) #[] #[]), (.tuple #[(.pointer (some za1))])])] nx0 (KBlk 0 (KS Pg W 47 rs_8 an_8 false (sub (bodyOf Tryz.f8) [1, 1, 1, 1, 1]) 0 (fin Pg W 47 rv_8 R)))) (known [29] [(.int .i64 n50)] (known [6, 7, 27, 28, 47] [(.pointer (some za0)), (.pointer (some za1)), (.slice zp2 zl3 zl4), (.int .i64 zn5), (.tuple #[(.func (.func 15) #[] #[]), (.tuple #[(.pointer (some za1))])])] j)) = B_soil_Work_0 W R za0 za1 zp2 zl3 zl4 zn5 n50 nx0 := by kernel_rfl
def N_soil_Work_0 (I : Int → Hp → Prop) (μ : Int → Hp → Nat) (n500 : Int) (s : Hp) (vs : List Value) : Hp → Prop := fun s' => ∃ n50, vs = [(.int .i64 n50)] ∧ I n50 s' ∧ μ n50 s' < μ n500 s
theorem L_soil_Work_0_rule (W : World) (R : Ending → Hp → Prop) (za0 : Addr) (za1 : Addr) (zp2 : Option Addr) (zl3 zl4 : Nat) (zn5 : Int) (I : Int → Hp → Prop) (μ : Int → Hp → Nat) (n500 : Int) (s : Hp) (h0 : I n500 s)
    (hr : ∀ (n50 : Int) (s : Hp), I n50 s → B_soil_Work_0 W R za0 za1 zp2 zl3 zl4 zn5 n50 (fun vs => N_soil_Work_0 I μ n50 s vs) s) : L_soil_Work_0 W R za0 za1 zp2 zl3 zl4 zn5 n500 s := by
  refine ⟨fun vs s => ∃ n50, vs = [(.int .i64 n50)] ∧ I n50 s, fun vs s => (match vs with | [.int _ n50] => μ n50 s | _ => 0), ⟨⟨⟨_, rfl⟩, trivial⟩, ⟨_, rfl, h0⟩⟩, ?_⟩
  intro n50 s hI j
  obtain ⟨n50', hy, hI⟩ := hI
  have hI' : I n50 s := by cases hy; exact hI
  have hh := hr n50 s hI'
  rw [← B_soil_Work_0_eq W R za0 za1 zp2 zl3 zl4 zn5 n50 _ j] at hh
  refine vc_mono ?_ _ _ hh
  exact KLoop_mono (fun vs s' h => by obtain ⟨n501, rfl, h1, h2⟩ := h; exact ⟨⟨⟨_, rfl⟩, trivial⟩, ⟨_, rfl, h1⟩, h2⟩)
def T_soil_Work (W : World) (n1 n2 n3 : Int) (x4 : Option Addr) (l5 c6 : Nat) (n7 n8 : Int) (R : Ending → Hp → Prop) : Hp → Prop :=
 NEW 33 [(.int .i64 n1), (.int .i64 n2), (.int .i64 n3), (.slice x4 l5 c6)] fun B9 =>
 NEW 3 [(.int .i64 n7)] fun B10 =>
 NEW 3 [(.int .i64 n8)] fun B11 =>
 NEWZ Pg 27 fun B12 =>
 NEWZ Pg 34 fun B13 =>
 RDI .i64 (Addr.add ⟨B9, 0, none⟩ 0) fun n14 =>
 RDI .i64 (Addr.add ⟨B9, 0, none⟩ 1) fun n15 =>
 RDI .i64 (Addr.add ⟨B9, 0, none⟩ 2) fun n16 =>
 RDL (Addr.add ⟨B9, 0, none⟩ 3) fun x17 l18 c19 =>
 CALL Pg W F_soil_isPlace [(.agg #[(.int .i64 n14), (.int .i64 n15), (.int .i64 n16), (.slice x17 l18 c19)])]
 (fun v20 => NEWZ Pg 62 fun B22 =>
 ONE v20 <|
 WR (Addr.add ⟨B22, 0, none⟩ 0) v20 <|
 RDI .i64 (Addr.add ⟨B9, 0, none⟩ 0) fun n23 =>
 RDI .i64 (Addr.add ⟨B9, 0, none⟩ 1) fun n24 =>
 RDI .i64 (Addr.add ⟨B9, 0, none⟩ 2) fun n25 =>
 RDL (Addr.add ⟨B9, 0, none⟩ 3) fun x26 l27 c28 =>
 RDI .i64 ⟨B10, 0, none⟩ fun n29 =>
 RDI .i64 ⟨B11, 0, none⟩ fun n30 =>
 NEW 3 [(.int .i64 n29), (.int .i64 n30)] fun B31 =>
 CALL Pg W F_soil_open [(.agg #[(.int .i64 n23), (.int .i64 n24), (.int .i64 n25), (.slice x26 l27 c28)]), (.func (.func 19) #[] #[(.pointer (some ⟨B22, 0, none⟩)), (.pointer (some ⟨B10, 0, none⟩)), (.pointer (some ⟨B11, 0, none⟩))]), (.slice (some ⟨B31, 0, none⟩) 2 2)]
 (fun v32 => TYP v32 fun p34 =>
 SO p34 fun a35 =>
 RDL (Addr.add a35 4) fun x36 l37 c38 =>
 RDI .i64 ⟨B10, 0, none⟩ fun n39 =>
 RDI .i64 ⟨B11, 0, none⟩ fun n40 =>
 SLS x36 c38 n39 (IntKind.wrap .i64 (n40 + 1)) 2 fun x41 l42 c43 =>
 L_soil_Work_0 W R ⟨B12, 0, none⟩ ⟨B13, 0, none⟩ x41 l42 c43 (↑l42 : Int) 0)
 (fun e33 => DEF Pg W (.tuple #[(.func (.func 15) #[] #[]), (.tuple #[(.pointer (some ⟨B13, 0, none⟩))])]) (some e33) (RDI .i64 (Addr.add ⟨B12, 0, none⟩ 0) fun n44 =>
 RDI .i64 (Addr.add ⟨B12, 0, none⟩ 1) fun n45 =>
 RDI .i64 ⟨B13, 0, none⟩ fun n46 =>
 R (.returned (.tuple #[(.agg #[(.int .i64 n44), (.int .i64 n45)]), (.int .i64 n46)])))))
 (fun e21 => DEF Pg W (.tuple #[(.func (.func 15) #[] #[]), (.tuple #[(.pointer (some ⟨B13, 0, none⟩))])]) (some e21) (RDI .i64 (Addr.add ⟨B12, 0, none⟩ 0) fun n47 =>
 RDI .i64 (Addr.add ⟨B12, 0, none⟩ 1) fun n48 =>
 RDI .i64 ⟨B13, 0, none⟩ fun n49 =>
 R (.returned (.tuple #[(.agg #[(.int .i64 n47), (.int .i64 n48)]), (.int .i64 n49)]))))
theorem does_soil_Work (W : World) (n1 n2 n3 : Int) (x4 : Option Addr) (l5 c6 : Nat) (n7 n8 : Int) (R : Ending → Hp → Prop) (s : Hp) (h : T_soil_Work W n1 n2 n3 x4 l5 c6 n7 n8 R s) : Does Pg W F_soil_Work #[(.agg #[(.int .i64 n1), (.int .i64 n2), (.int .i64 n3), (.slice x4 l5 c6)]), (.int .i64 n7), (.int .i64 n8)] s R :=
  does_of_vfun Pg W an_8 Tryz.func8 rfl (by kernel_rfl) (Eq.mpr (by kernel_rfl) h)
def an_16 : Nat → Ann := fun b => match b with
 | 0 => { ms := [16], ks := [.i .i64], us := [1, 3, 6, 14, 15, 33], rt := false, ex := [] }
 | _ => {}
abbrev rv_16 : List ResultVar := [.tmp 6]
abbrev rs_16 : List Nat := [33, 6]
def L_soil_open_0 (W : World) (R : Ending → Hp → Prop) (zv0 : Value) (za1 : Addr) (zp2 : Option Addr) (zl3 zl4 : Nat) (zn5 n24 : Int) : Hp → Prop :=
 LOOPN [.i .i64] (fun ys next s => ∀ j : Tm, vc Pg W 33 rs_16 an_16 false (sub (bodyOf Tryz.f16) [1, 1, 0, 1, 0, 0]) 0 (KLoop [16] [1, 3, 6, 14, 15, 33] [zv0, (.pointer (some za1)), (.pointer none), (.slice zp2 zl3 zl4), (.int .i64 zn5), (.tuple #[])] next (KBlk 0 (KS Pg W 33 rs_16 an_16 false (sub (bodyOf Tryz.f16) [1, 1, 1]) 0 (fin Pg W 33 rv_16 R)))) (known [16] ys (known [1, 3, 6, 14, 15, 33] [zv0, (.pointer (some za1)), (.pointer none), (.slice zp2 zl3 zl4), (.int .i64 zn5), (.tuple #[])] j)) s) [(.int .i64 n24)]
def B_soil_open_0 (W : World) (R : Ending → Hp → Prop) (zv0 : Value) (za1 : Addr) (zp2 : Option Addr) (zl3 zl4 : Nat) (zn5 n24 : Int) (nx0 : List Value → Hp → Prop) : Hp → Prop :=
 BR (decide (n24 < zn5))
 (IXS zp2 zl3 n24 1 fun a25 =>
 RDI .i64 a25 fun n26 =>
 CALLV Pg W zv0 [(.int .i64 n26)]
 (fun v27 => TYB v27 fun b29 =>
 CALL Pg W F_soil_must [(.bool b29), (.int .i64 2)]
 (fun v30 => TUP v30 fun q32 => NL q32 <|
 NX [zv0, (.pointer (some za1)), (.pointer none), (.slice zp2 zl3 zl4), (.int .i64 zn5), (.tuple #[])] [zv0, (.pointer (some za1)), (.pointer none), (.slice zp2 zl3 zl4), (.int .i64 zn5), (.tuple #[])] (nx0 [(.int .i64 (IntKind.wrap .i64 (n24 + 1)))]))
 (fun e31 => R (.panicked e31)))
 (fun e28 => R (.panicked e28)))
 (RDI .i64 (Addr.add za1 0) fun n33 =>
 RDI .i64 (Addr.add za1 1) fun n34 =>
 RDI .i64 (Addr.add za1 2) fun n35 =>
 RDL (Addr.add za1 3) fun x36 l37 c38 =>
 CALL Pg W F_soil_look [(.agg #[(.int .i64 n33), (.int .i64 n34), (.int .i64 n35), (.slice x36 l37 c38)])]
 (fun v39 => TUP v39 fun q41 => HD q41 fun v42 r43 => TYP v42 fun p44 =>
 HD r43 fun v45 r46 => TYB v45 fun b47 =>
 NL r46 <|
 CALL Pg W F_soil_must [(.bool b47), (.int .i64 10)]
 (fun v48 => TUP v48 fun q50 => NL q50 <|
 R (.returned (.pointer p44)))
 (fun e49 => R (.panicked e49)))
 (fun e40 => R (.panicked e40)))
theorem B_soil_open_0_eq (W : World) (R : Ending → Hp → Prop) (zv0 : Value) (za1 : Addr) (zp2 : Option Addr) (zl3 zl4 : Nat) (zn5 n24 : Int) (nx0 : List Value → Hp → Prop) (j : Tm) : vc Pg W 33 rs_16 an_16 false (sub (bodyOf Tryz.f16) [1, 1, 0, 1, 0, 0]) 0 (KLoop [16] [1, 3, 6, 14, 15, 33] [zv0, (.pointer (some za1)), (.pointer none), (.slice zp2 zl3 zl4), (.int .i64 zn5), (.tuple #[])] nx0 (KBlk 0 (KS Pg W 33 rs_16 an_16 false (sub (bodyOf Tryz.f16) [1, 1, 1]) 0 (fin Pg W 33 rv_16 R)))) (known [16] [(.int .i64 n24)] (known [1, 3, 6, 14, 15, 33] [zv0, (.pointer (some za1)), (.pointer none), (.slice zp2 zl3 zl4), (.int .i64 zn5), (.tuple #[])] j)) = B_soil_open_0 W R zv0 za1 zp2 zl3 zl4 zn5 n24 nx0 := by kernel_rfl
def N_soil_open_0 (I : Int → Hp → Prop) (μ : Int → Hp → Nat) (n240 : Int) (s : Hp) (vs : List Value) : Hp → Prop := fun s' => ∃ n24, vs = [(.int .i64 n24)] ∧ I n24 s' ∧ μ n24 s' < μ n240 s
theorem L_soil_open_0_rule (W : World) (R : Ending → Hp → Prop) (zv0 : Value) (za1 : Addr) (zp2 : Option Addr) (zl3 zl4 : Nat) (zn5 : Int) (I : Int → Hp → Prop) (μ : Int → Hp → Nat) (n240 : Int) (s : Hp) (h0 : I n240 s)
    (hr : ∀ (n24 : Int) (s : Hp), I n24 s → B_soil_open_0 W R zv0 za1 zp2 zl3 zl4 zn5 n24 (fun vs => N_soil_open_0 I μ n24 s vs) s) : L_soil_open_0 W R zv0 za1 zp2 zl3 zl4 zn5 n240 s := by
  refine ⟨fun vs s => ∃ n24, vs = [(.int .i64 n24)] ∧ I n24 s, fun vs s => (match vs with | [.int _ n24] => μ n24 s | _ => 0), ⟨⟨⟨_, rfl⟩, trivial⟩, ⟨_, rfl, h0⟩⟩, ?_⟩
  intro n24 s hI j
  obtain ⟨n24', hy, hI⟩ := hI
  have hI' : I n24 s := by cases hy; exact hI
  have hh := hr n24 s hI'
  rw [← B_soil_open_0_eq W R zv0 za1 zp2 zl3 zl4 zn5 n24 _ j] at hh
  refine vc_mono ?_ _ _ hh
  exact KLoop_mono (fun vs s' h => by obtain ⟨n241, rfl, h1, h2⟩ := h; exact ⟨⟨⟨_, rfl⟩, trivial⟩, ⟨_, rfl, h1⟩, h2⟩)
def T_soil_open (W : World) (n1 n2 n3 : Int) (x4 : Option Addr) (l5 c6 : Nat) (v7 : Value) (x8 : Option Addr) (l9 c10 : Nat) (R : Ending → Hp → Prop) : Hp → Prop :=
 NEW 33 [(.int .i64 n1), (.int .i64 n2), (.int .i64 n3), (.slice x4 l5 c6)] fun B11 =>
 RDI .i64 (Addr.add ⟨B11, 0, none⟩ 0) fun n12 =>
 RDI .i64 (Addr.add ⟨B11, 0, none⟩ 1) fun n13 =>
 RDI .i64 (Addr.add ⟨B11, 0, none⟩ 2) fun n14 =>
 RDL (Addr.add ⟨B11, 0, none⟩ 3) fun x15 l16 c17 =>
 CALL Pg W F_soil_isGround [(.agg #[(.int .i64 n12), (.int .i64 n13), (.int .i64 n14), (.slice x15 l16 c17)])]
 (fun v18 => TYB v18 fun b20 =>
 CALL Pg W F_soil_must [(.bool b20), (.int .i64 1)]
 (fun v21 => TUP v21 fun q23 => NL q23 <|
 L_soil_open_0 W R v7 ⟨B11, 0, none⟩ x8 l9 c10 (↑l9 : Int) 0)
 (fun e22 => R (.panicked e22)))
 (fun e19 => R (.panicked e19))
theorem does_soil_open (W : World) (n1 n2 n3 : Int) (x4 : Option Addr) (l5 c6 : Nat) (v7 : Value) (x8 : Option Addr) (l9 c10 : Nat) (R : Ending → Hp → Prop) (s : Hp) (h : T_soil_open W n1 n2 n3 x4 l5 c6 v7 x8 l9 c10 R s) : Does Pg W F_soil_open #[(.agg #[(.int .i64 n1), (.int .i64 n2), (.int .i64 n3), (.slice x4 l5 c6)]), v7, (.slice x8 l9 c10)] s R :=
  does_of_vfun Pg W an_16 Tryz.func16 rfl (by kernel_rfl) (Eq.mpr (by kernel_rfl) h)
def an_17 : Nat → Ann := fun b => match b with
 | _ => {}
def T_soil_isPlace (W : World) (n1 n2 n3 : Int) (x4 : Option Addr) (l5 c6 : Nat) (R : Ending → Hp → Prop) : Hp → Prop :=
 NEW 33 [(.int .i64 n1), (.int .i64 n2), (.int .i64 n3), (.slice x4 l5 c6)] fun B7 =>
 R (.returned (.func (.func 41) #[] #[(.pointer (some ⟨B7, 0, none⟩))]))
theorem does_soil_isPlace (W : World) (n1 n2 n3 : Int) (x4 : Option Addr) (l5 c6 : Nat) (R : Ending → Hp → Prop) (s : Hp) (h : T_soil_isPlace W n1 n2 n3 x4 l5 c6 R s) : Does Pg W F_soil_isPlace #[(.agg #[(.int .i64 n1), (.int .i64 n2), (.int .i64 n3), (.slice x4 l5 c6)])] s R :=
  does_of_vfun Pg W an_17 Tryz.func17 rfl (by kernel_rfl) (Eq.mpr (by kernel_rfl) h)
def an_18 : Nat → Ann := fun b => match b with
 | 0 => { ms := [4, 16], ks := [.i .i64, .i .i64], us := [5, 15, 40], rt := false, ex := [] }
 | _ => {}
abbrev rv_18 : List ResultVar := [.tmp 4]
abbrev rs_18 : List Nat := [40, 4]
def L_soil_ground_classes_0 (W : World) (R : Ending → Hp → Prop) (za0 : Addr) (zn1 : Int) (zv2 zv3 : Value) (zn4 : Int) (zv5 zv6 : Value) (zn7 : Int) (zv8 zv9 : Value) (n39 n40 : Int) : Hp → Prop :=
 LOOPN [.i .i64, .i .i64] (fun ys next s => ∀ j : Tm, vc Pg W 40 rs_18 an_18 false (sub (bodyOf Tryz.f18) [1, 1, 0, 1, 0, 0]) 0 (KLoop [4, 16] [5, 15, 40] [(.pointer (some za0)), (.agg #[(.int .i64 zn1), zv2, zv3, (.int .i64 zn4), zv5, zv6, (.int .i64 zn7), zv8, zv9]), (.tuple #[])] next (KBlk 0 (KS Pg W 40 rs_18 an_18 false (sub (bodyOf Tryz.f18) [1, 1, 1]) 0 (fin Pg W 40 rv_18 R)))) (known [4, 16] ys (known [5, 15, 40] [(.pointer (some za0)), (.agg #[(.int .i64 zn1), zv2, zv3, (.int .i64 zn4), zv5, zv6, (.int .i64 zn7), zv8, zv9]), (.tuple #[])] j)) s) [(.int .i64 n39), (.int .i64 n40)]
def J_soil_ground_classes_0 (W : World) (R : Ending → Hp → Prop) (B50 : Nat) (za0 : Addr) (n83 zn1 : Int) (zv2 zv3 : Value) (zn4 : Int) (zv5 zv6 : Value) (zn7 : Int) (zv8 zv9 : Value) (nx0 : List Value → Hp → Prop) (n40 : Int) : Hp → Prop :=
 RDV (Addr.add ⟨B50, 0, none⟩ 2) fun v84 =>
 RDI .i64 (Addr.add za0 0) fun n85 =>
 RDI .i64 (Addr.add za0 1) fun n86 =>
 RDI .i64 (Addr.add za0 2) fun n87 =>
 RDI .i64 (Addr.add za0 3) fun n88 =>
 RDI .i64 (Addr.add za0 4) fun n89 =>
 RDI .i64 (Addr.add za0 5) fun n90 =>
 CALLV Pg W v84 [(.agg #[(.int .i64 n85), (.int .i64 n86), (.int .i64 n87), (.int .i64 n88), (.int .i64 n89), (.int .i64 n90)])]
 (fun v91 => AGG v91 fun q93 => HD q93 fun v94 r95 => TYI .i64 v94 fun n96 =>
 HD r95 fun v97 r98 => TYI .i64 v97 fun n99 =>
 HD r98 fun v100 r101 => TYI .i64 v100 fun n102 =>
 HD r101 fun v103 r104 => TYI .i64 v103 fun n105 =>
 HD r104 fun v106 r107 => TYI .i64 v106 fun n108 =>
 HD r107 fun v109 r110 => TYI .i64 v109 fun n111 =>
 NL r110 <|
 WR (Addr.add za0 0) (.int .i64 n96) <|
 WR (Addr.add za0 1) (.int .i64 n99) <|
 WR (Addr.add za0 2) (.int .i64 n102) <|
 WR (Addr.add za0 3) (.int .i64 n105) <|
 WR (Addr.add za0 4) (.int .i64 n108) <|
 WR (Addr.add za0 5) (.int .i64 n111) <|
 RDI .i64 (Addr.add za0 0) fun n112 =>
 RDI .i64 (Addr.add za0 1) fun n113 =>
 RDI .i64 (Addr.add za0 2) fun n114 =>
 RDI .i64 (Addr.add za0 3) fun n115 =>
 RDI .i64 (Addr.add za0 4) fun n116 =>
 RDI .i64 (Addr.add za0 5) fun n117 =>
 CALL Pg W F_soil_mix_isNone [(.agg #[(.int .i64 n112), (.int .i64 n113), (.int .i64 n114), (.int .i64 n115), (.int .i64 n116), (.int .i64 n117)])]
 (fun v118 => TYB v118 fun b120 =>
 BR b120
 (R (.returned (.int .i64 n83)))
 (NX [(.pointer (some za0)), (.agg #[(.int .i64 zn1), zv2, zv3, (.int .i64 zn4), zv5, zv6, (.int .i64 zn7), zv8, zv9]), (.tuple #[])] [(.pointer (some za0)), (.agg #[(.int .i64 zn1), zv2, zv3, (.int .i64 zn4), zv5, zv6, (.int .i64 zn7), zv8, zv9]), (.tuple #[])] (nx0 [(.int .i64 n83), (.int .i64 (IntKind.wrap .i64 (n40 + 1)))])))
 (fun e119 => R (.panicked e119)))
 (fun e92 => R (.panicked e92))
def B_soil_ground_classes_0 (W : World) (R : Ending → Hp → Prop) (za0 : Addr) (zn1 : Int) (zv2 zv3 : Value) (zn4 : Int) (zv5 zv6 : Value) (zn7 : Int) (zv8 zv9 : Value) (n39 n40 : Int) (nx0 : List Value → Hp → Prop) : Hp → Prop :=
 BR (decide (n40 < 3))
 (IXH [(.int .i64 zn1), zv2, zv3, (.int .i64 zn4), zv5, zv6, (.int .i64 zn7), zv8, zv9] 3 3 n40 fun v41 =>
 AGG v41 fun q42 => HD q42 fun v43 r44 => TYC .i64 v43 fun n45 =>
 HD r44 fun v46 r47 => HD r47 fun v48 r49 => NL r49 <|
 NEWZ Pg 107 fun B50 =>
 WR (Addr.add ⟨B50, 0, none⟩ 0) (.int .i64 n45) <|
 WR (Addr.add ⟨B50, 0, none⟩ 1) v46 <|
 WR (Addr.add ⟨B50, 0, none⟩ 2) v48 <|
 RDV (Addr.add ⟨B50, 0, none⟩ 1) fun v51 =>
 RDI .i64 (Addr.add za0 0) fun n52 =>
 RDI .i64 (Addr.add za0 1) fun n53 =>
 RDI .i64 (Addr.add za0 2) fun n54 =>
 RDI .i64 (Addr.add za0 3) fun n55 =>
 RDI .i64 (Addr.add za0 4) fun n56 =>
 RDI .i64 (Addr.add za0 5) fun n57 =>
 CALLV Pg W v51 [(.agg #[(.int .i64 n52), (.int .i64 n53), (.int .i64 n54), (.int .i64 n55), (.int .i64 n56), (.int .i64 n57)])]
 (fun v58 => AGG v58 fun q60 => HD q60 fun v61 r62 => TYI .i64 v61 fun n63 =>
 HD r62 fun v64 r65 => TYI .i64 v64 fun n66 =>
 HD r65 fun v67 r68 => TYI .i64 v67 fun n69 =>
 HD r68 fun v70 r71 => TYI .i64 v70 fun n72 =>
 HD r71 fun v73 r74 => TYI .i64 v73 fun n75 =>
 HD r74 fun v76 r77 => TYI .i64 v76 fun n78 =>
 NL r77 <|
 CALL Pg W F_soil_mix_isNone [(.agg #[(.int .i64 n63), (.int .i64 n66), (.int .i64 n69), (.int .i64 n72), (.int .i64 n75), (.int .i64 n78)])]
 (fun v79 => TYB v79 fun b81 =>
 BR (!b81)
 (RDI .i64 (Addr.add ⟨B50, 0, none⟩ 0) fun n82 =>
 NNI n82 <|
 J_soil_ground_classes_0 W R B50 za0 (orv .i64 n39 (shlv .i64 1 n82)) zn1 zv2 zv3 zn4 zv5 zv6 zn7 zv8 zv9 nx0 n40)
 (J_soil_ground_classes_0 W R B50 za0 n39 zn1 zv2 zv3 zn4 zv5 zv6 zn7 zv8 zv9 nx0 n40))
 (fun e80 => R (.panicked e80)))
 (fun e59 => R (.panicked e59)))
 (R (.returned (.int .i64 (orv .i64 n39 1))))
theorem B_soil_ground_classes_0_eq (W : World) (R : Ending → Hp → Prop) (za0 : Addr) (zn1 : Int) (zv2 zv3 : Value) (zn4 : Int) (zv5 zv6 : Value) (zn7 : Int) (zv8 zv9 : Value) (n39 n40 : Int) (nx0 : List Value → Hp → Prop) (j : Tm) : vc Pg W 40 rs_18 an_18 false (sub (bodyOf Tryz.f18) [1, 1, 0, 1, 0, 0]) 0 (KLoop [4, 16] [5, 15, 40] [(.pointer (some za0)), (.agg #[(.int .i64 zn1), zv2, zv3, (.int .i64 zn4), zv5, zv6, (.int .i64 zn7), zv8, zv9]), (.tuple #[])] nx0 (KBlk 0 (KS Pg W 40 rs_18 an_18 false (sub (bodyOf Tryz.f18) [1, 1, 1]) 0 (fin Pg W 40 rv_18 R)))) (known [4, 16] [(.int .i64 n39), (.int .i64 n40)] (known [5, 15, 40] [(.pointer (some za0)), (.agg #[(.int .i64 zn1), zv2, zv3, (.int .i64 zn4), zv5, zv6, (.int .i64 zn7), zv8, zv9]), (.tuple #[])] j)) = B_soil_ground_classes_0 W R za0 zn1 zv2 zv3 zn4 zv5 zv6 zn7 zv8 zv9 n39 n40 nx0 := by kernel_rfl
def N_soil_ground_classes_0 (I : Int → Int → Hp → Prop) (μ : Int → Int → Hp → Nat) (n390 n400 : Int) (s : Hp) (vs : List Value) : Hp → Prop := fun s' => ∃ n39 n40, vs = [(.int .i64 n39), (.int .i64 n40)] ∧ I n39 n40 s' ∧ μ n39 n40 s' < μ n390 n400 s
theorem L_soil_ground_classes_0_rule (W : World) (R : Ending → Hp → Prop) (za0 : Addr) (zn1 : Int) (zv2 zv3 : Value) (zn4 : Int) (zv5 zv6 : Value) (zn7 : Int) (zv8 zv9 : Value) (I : Int → Int → Hp → Prop) (μ : Int → Int → Hp → Nat) (n390 n400 : Int) (s : Hp) (h0 : I n390 n400 s)
    (hr : ∀ (n39 : Int) (n40 : Int) (s : Hp), I n39 n40 s → B_soil_ground_classes_0 W R za0 zn1 zv2 zv3 zn4 zv5 zv6 zn7 zv8 zv9 n39 n40 (fun vs => N_soil_ground_classes_0 I μ n39 n40 s vs) s) : L_soil_ground_classes_0 W R za0 zn1 zv2 zv3 zn4 zv5 zv6 zn7 zv8 zv9 n390 n400 s := by
  refine ⟨fun vs s => ∃ n39 n40, vs = [(.int .i64 n39), (.int .i64 n40)] ∧ I n39 n40 s, fun vs s => (match vs with | [.int _ n39, .int _ n40] => μ n39 n40 s | _ => 0), ⟨⟨⟨_, rfl⟩, ⟨⟨_, rfl⟩, trivial⟩⟩, ⟨_, _, rfl, h0⟩⟩, ?_⟩
  intro n39 n40 s hI j
  obtain ⟨n39', n40', hy, hI⟩ := hI
  have hI' : I n39 n40 s := by cases hy; exact hI
  have hh := hr n39 n40 s hI'
  rw [← B_soil_ground_classes_0_eq W R za0 zn1 zv2 zv3 zn4 zv5 zv6 zn7 zv8 zv9 n39 n40 _ j] at hh
  refine vc_mono ?_ _ _ hh
  exact KLoop_mono (fun vs s' h => by obtain ⟨n391, n401, rfl, h1, h2⟩ := h; exact ⟨⟨⟨_, rfl⟩, ⟨⟨_, rfl⟩, trivial⟩⟩, ⟨_, _, rfl, h1⟩, h2⟩)
def T_soil_ground_classes (W : World) (p1 : Option Addr) (n2 : Int) (R : Ending → Hp → Prop) : Hp → Prop :=
 SO p1 fun a3 =>
 RDL (Addr.add a3 5) fun x4 l5 c6 =>
 IXS x4 l5 n2 6 fun a7 =>
 RDI .i64 (Addr.add a7 0) fun n8 =>
 RDI .i64 (Addr.add a7 1) fun n9 =>
 RDI .i64 (Addr.add a7 2) fun n10 =>
 RDI .i64 (Addr.add a7 3) fun n11 =>
 RDI .i64 (Addr.add a7 4) fun n12 =>
 RDI .i64 (Addr.add a7 5) fun n13 =>
 NEWZ Pg 104 fun B14 =>
 WR (Addr.add ⟨B14, 0, none⟩ 0) (.int .i64 n8) <|
 WR (Addr.add ⟨B14, 0, none⟩ 1) (.int .i64 n9) <|
 WR (Addr.add ⟨B14, 0, none⟩ 2) (.int .i64 n10) <|
 WR (Addr.add ⟨B14, 0, none⟩ 3) (.int .i64 n11) <|
 WR (Addr.add ⟨B14, 0, none⟩ 4) (.int .i64 n12) <|
 WR (Addr.add ⟨B14, 0, none⟩ 5) (.int .i64 n13) <|
 CALL Pg W F_soil_kinds []
 (fun v15 => AGG v15 fun q17 => HD q17 fun v18 r19 => TYI .i64 v18 fun n20 =>
 HD r19 fun v21 r22 => HD r22 fun v23 r24 => HD r24 fun v25 r26 => TYI .i64 v25 fun n27 =>
 HD r26 fun v28 r29 => HD r29 fun v30 r31 => HD r31 fun v32 r33 => TYI .i64 v32 fun n34 =>
 HD r33 fun v35 r36 => HD r36 fun v37 r38 => NL r38 <|
 L_soil_ground_classes_0 W R ⟨B14, 0, none⟩ n20 v21 v23 n27 v28 v30 n34 v35 v37 0 0)
 (fun e16 => R (.panicked e16))
theorem does_soil_ground_classes (W : World) (p1 : Option Addr) (n2 : Int) (R : Ending → Hp → Prop) (s : Hp) (h : T_soil_ground_classes W p1 n2 R s) : Does Pg W F_soil_ground_classes #[(.pointer p1), (.int .i64 n2)] s R :=
  does_of_vfun Pg W an_18 Tryz.func18 rfl (by kernel_rfl) (Eq.mpr (by kernel_rfl) h)
def an_19 : Nat → Ann := fun b => match b with
 | _ => {}
def T_soil_Work_c1 (W : World) (n1 : Int) (a2 : Addr) (a3 : Addr) (a4 : Addr) (R : Ending → Hp → Prop) : Hp → Prop :=
 RDV a2 fun v5 =>
 CALLV Pg W v5 [(.int .i64 n1)]
 (fun v6 => TYB v6 fun b8 =>
 BR b8
 (RDI .i64 a3 fun n9 =>
 RDI .i64 a4 fun n10 =>
 R (.returned (.bool (decide (n9 ≤ n10)))))
 (R (.returned (.bool false))))
 (fun e7 => R (.panicked e7))
theorem does_soil_Work_c1 (W : World) (n1 : Int) (a2 : Addr) (a3 : Addr) (a4 : Addr) (R : Ending → Hp → Prop) (s : Hp) (h : T_soil_Work_c1 W n1 a2 a3 a4 R s) : Does Pg W F_soil_Work_c1 #[(.int .i64 n1), (.pointer (some a2)), (.pointer (some a3)), (.pointer (some a4))] s R :=
  does_of_vfun Pg W an_19 Tryz.func19 rfl (by kernel_rfl) (Eq.mpr (by kernel_rfl) h)
def an_38 : Nat → Ann := fun b => match b with
 | _ => {}
def T_soil_must (W : World) (b1 : Bool) (n2 : Int) (R : Ending → Hp → Prop) : Hp → Prop :=
 BR (!b1)
 (R (.panicked [{ v := (.iface 97 (.agg #[(.int .i64 n2)])), recovered := false }]))
 (R (.returned (.tuple #[])))
theorem does_soil_must (W : World) (b1 : Bool) (n2 : Int) (R : Ending → Hp → Prop) (s : Hp) (h : T_soil_must W b1 n2 R s) : Does Pg W F_soil_must #[(.bool b1), (.int .i64 n2)] s R :=
  does_of_vfun Pg W an_38 Tryz.func38 rfl (by kernel_rfl) (Eq.mpr (by kernel_rfl) h)
def an_39 : Nat → Ann := fun b => match b with
 | 0 => { ms := [2, 3, 31], ks := [.b, .i .i64, .i .i64], us := [1, 29, 30, 70], rt := false, ex := [] }
 | _ => {}
abbrev rv_39 : List ResultVar := [.tmp 2]
abbrev rs_39 : List Nat := [70, 2]
def L_soil_isGround_0 (W : World) (R : Ending → Hp → Prop) (za0 : Addr) (zp1 : Option Addr) (zl2 zl3 : Nat) (zn4 : Int) (b29 : Bool) (n30 n31 : Int) : Hp → Prop :=
 LOOPN [.b, .i .i64, .i .i64] (fun ys next s => ∀ j : Tm, vc Pg W 70 rs_39 an_39 false (sub (bodyOf Tryz.f39) [1, 1, 1, 0, 1, 0, 0]) 0 (KLoop [2, 3, 31] [1, 29, 30, 70] [(.pointer (some za0)), (.slice zp1 zl2 zl3), (.int .i64 zn4), (.tuple #[])] next (KBlk 0 (KS Pg W 70 rs_39 an_39 false (sub (bodyOf Tryz.f39) [1, 1, 1, 1]) 0 (fin Pg W 70 rv_39 R)))) (known [2, 3, 31] ys (known [1, 29, 30, 70] [(.pointer (some za0)), (.slice zp1 zl2 zl3), (.int .i64 zn4), (.tuple #[])] j)) s) [(.bool b29), (.int .i64 n30), (.int .i64 n31)]
def J_soil_isGround_0 (W : World) (R : Ending → Hp → Prop) (b14 : Bool) (B7 : Nat) : Hp → Prop :=
 BR b14
 (R (.returned (.bool false)))
 (RDL (Addr.add ⟨B7, 0, none⟩ 3) fun x15 l16 c17 =>
 L_soil_isGround_0 W R ⟨B7, 0, none⟩ x15 l16 c17 (↑l16 : Int) false (-1) 0)
def J_soil_isGround_1 (W : World) (R : Ending → Hp → Prop) (b13 : Bool) (B7 : Nat) : Hp → Prop :=
 BR b13
 (J_soil_isGround_0 W R true B7)
 (RDL (Addr.add ⟨B7, 0, none⟩ 3) fun x18 l19 c20 =>
 J_soil_isGround_0 W R (decide ((↑l19 : Int) > 8)) B7)
def J_soil_isGround_2 (W : World) (R : Ending → Hp → Prop) (b12 : Bool) (B7 : Nat) : Hp → Prop :=
 BR b12
 (J_soil_isGround_1 W R true B7)
 (RDI .i64 (Addr.add ⟨B7, 0, none⟩ 2) fun n21 =>
 CALL Pg W F_soil_within [(.int .i64 n21), (.int .i64 0), (.int .i64 20)]
 (fun v22 => TYB v22 fun b24 =>
 J_soil_isGround_1 W R (!b24) B7)
 (fun e23 => R (.panicked e23)))
def J_soil_isGround_3 (W : World) (R : Ending → Hp → Prop) (b51 : Bool) (B42 : Nat) (za0 : Addr) (zp1 : Option Addr) (zl2 zl3 : Nat) (zn4 : Int) (nx0 : List Value → Hp → Prop) (b29 : Bool) (n31 : Int) : Hp → Prop :=
 BR b51
 (R (.returned (.bool false)))
 (RDI .i64 (Addr.add ⟨B42, 0, none⟩ 0) fun n52 =>
 NX [(.pointer (some za0)), (.slice zp1 zl2 zl3), (.int .i64 zn4), (.tuple #[])] [(.pointer (some za0)), (.slice zp1 zl2 zl3), (.int .i64 zn4), (.tuple #[])] (nx0 [(.bool b29), (.int .i64 n52), (.int .i64 (IntKind.wrap .i64 (n31 + 1)))]))
def J_soil_isGround_4 (W : World) (R : Ending → Hp → Prop) (b50 : Bool) (B42 : Nat) (za0 : Addr) (zp1 : Option Addr) (zl2 zl3 : Nat) (zn4 : Int) (nx0 : List Value → Hp → Prop) (b29 : Bool) (n31 : Int) : Hp → Prop :=
 BR b50
 (J_soil_isGround_3 W R true B42 za0 zp1 zl2 zl3 zn4 nx0 b29 n31)
 (RDI .i64 (Addr.add (Addr.add ⟨B42, 0, none⟩ 7) 0) fun n53 =>
 RDI .i64 (Addr.add (Addr.add ⟨B42, 0, none⟩ 7) 1) fun n54 =>
 CALL Pg W F_soil_isSpan [(.agg #[(.int .i64 n53), (.int .i64 n54)]), (.int .i64 20)]
 (fun v55 => TYB v55 fun b57 =>
 J_soil_isGround_3 W R (!b57) B42 za0 zp1 zl2 zl3 zn4 nx0 b29 n31)
 (fun e56 => R (.panicked e56)))
def J_soil_isGround_5 (W : World) (R : Ending → Hp → Prop) (b49 : Bool) (B42 : Nat) (za0 : Addr) (zp1 : Option Addr) (zl2 zl3 : Nat) (zn4 : Int) (nx0 : List Value → Hp → Prop) (b29 : Bool) (n31 : Int) : Hp → Prop :=
 BR b49
 (J_soil_isGround_4 W R true B42 za0 zp1 zl2 zl3 zn4 nx0 b29 n31)
 (RDI .i64 (Addr.add (Addr.add ⟨B42, 0, none⟩ 5) 0) fun n58 =>
 RDI .i64 (Addr.add (Addr.add ⟨B42, 0, none⟩ 5) 1) fun n59 =>
 CALL Pg W F_soil_isSpan [(.agg #[(.int .i64 n58), (.int .i64 n59)]), (.int .i64 20)]
 (fun v60 => TYB v60 fun b62 =>
 J_soil_isGround_4 W R (!b62) B42 za0 zp1 zl2 zl3 zn4 nx0 b29 n31)
 (fun e61 => R (.panicked e61)))
def J_soil_isGround_6 (W : World) (R : Ending → Hp → Prop) (b48 : Bool) (B42 : Nat) (za0 : Addr) (zp1 : Option Addr) (zl2 zl3 : Nat) (zn4 : Int) (nx0 : List Value → Hp → Prop) (b29 : Bool) (n31 : Int) : Hp → Prop :=
 BR b48
 (J_soil_isGround_5 W R true B42 za0 zp1 zl2 zl3 zn4 nx0 b29 n31)
 (RDI .i64 (Addr.add (Addr.add ⟨B42, 0, none⟩ 3) 0) fun n63 =>
 RDI .i64 (Addr.add (Addr.add ⟨B42, 0, none⟩ 3) 1) fun n64 =>
 CALL Pg W F_soil_isSpan [(.agg #[(.int .i64 n63), (.int .i64 n64)]), (.int .i64 20)]
 (fun v65 => TYB v65 fun b67 =>
 J_soil_isGround_5 W R (!b67) B42 za0 zp1 zl2 zl3 zn4 nx0 b29 n31)
 (fun e66 => R (.panicked e66)))
def B_soil_isGround_0 (W : World) (R : Ending → Hp → Prop) (za0 : Addr) (zp1 : Option Addr) (zl2 zl3 : Nat) (zn4 : Int) (b29 : Bool) (n30 n31 : Int) (nx0 : List Value → Hp → Prop) : Hp → Prop :=
 BR (decide (n31 < zn4))
 (IXS zp1 zl2 n31 9 fun a32 =>
 RDI .i64 (Addr.add a32 0) fun n33 =>
 RDI .i64 (Addr.add a32 1) fun n34 =>
 RDI .i64 (Addr.add a32 2) fun n35 =>
 RDI .i64 (Addr.add a32 3) fun n36 =>
 RDI .i64 (Addr.add a32 4) fun n37 =>
 RDI .i64 (Addr.add a32 5) fun n38 =>
 RDI .i64 (Addr.add a32 6) fun n39 =>
 RDI .i64 (Addr.add a32 7) fun n40 =>
 RDI .i64 (Addr.add a32 8) fun n41 =>
 NEWZ Pg 30 fun B42 =>
 WR (Addr.add ⟨B42, 0, none⟩ 0) (.int .i64 n33) <|
 WR (Addr.add ⟨B42, 0, none⟩ 1) (.int .i64 n34) <|
 WR (Addr.add ⟨B42, 0, none⟩ 2) (.int .i64 n35) <|
 WR (Addr.add ⟨B42, 0, none⟩ 3) (.int .i64 n36) <|
 WR (Addr.add ⟨B42, 0, none⟩ 4) (.int .i64 n37) <|
 WR (Addr.add ⟨B42, 0, none⟩ 5) (.int .i64 n38) <|
 WR (Addr.add ⟨B42, 0, none⟩ 6) (.int .i64 n39) <|
 WR (Addr.add ⟨B42, 0, none⟩ 7) (.int .i64 n40) <|
 WR (Addr.add ⟨B42, 0, none⟩ 8) (.int .i64 n41) <|
 RDI .i64 (Addr.add ⟨B42, 0, none⟩ 0) fun n43 =>
 RDI .i64 (Addr.add za0 0) fun n44 =>
 CALL Pg W F_soil_within [(.int .i64 n43), (.int .i64 (IntKind.wrap .i64 (n30 + 1))), (.int .i64 n44)]
 (fun v45 => TYB v45 fun b47 =>
 BR (!b47)
 (J_soil_isGround_6 W R true B42 za0 zp1 zl2 zl3 zn4 nx0 b29 n31)
 (RDI .i64 (Addr.add (Addr.add ⟨B42, 0, none⟩ 1) 0) fun n68 =>
 RDI .i64 (Addr.add (Addr.add ⟨B42, 0, none⟩ 1) 1) fun n69 =>
 CALL Pg W F_soil_isSpan [(.agg #[(.int .i64 n68), (.int .i64 n69)]), (.int .i64 1000)]
 (fun v70 => TYB v70 fun b72 =>
 J_soil_isGround_6 W R (!b72) B42 za0 zp1 zl2 zl3 zn4 nx0 b29 n31)
 (fun e71 => R (.panicked e71))))
 (fun e46 => R (.panicked e46)))
 (R (.returned (.bool true)))
theorem B_soil_isGround_0_eq (W : World) (R : Ending → Hp → Prop) (za0 : Addr) (zp1 : Option Addr) (zl2 zl3 : Nat) (zn4 : Int) (b29 : Bool) (n30 n31 : Int) (nx0 : List Value → Hp → Prop) (j : Tm) : vc Pg W 70 rs_39 an_39 false (sub (bodyOf Tryz.f39) [1, 1, 1, 0, 1, 0, 0]) 0 (KLoop [2, 3, 31] [1, 29, 30, 70] [(.pointer (some za0)), (.slice zp1 zl2 zl3), (.int .i64 zn4), (.tuple #[])] nx0 (KBlk 0 (KS Pg W 70 rs_39 an_39 false (sub (bodyOf Tryz.f39) [1, 1, 1, 1]) 0 (fin Pg W 70 rv_39 R)))) (known [2, 3, 31] [(.bool b29), (.int .i64 n30), (.int .i64 n31)] (known [1, 29, 30, 70] [(.pointer (some za0)), (.slice zp1 zl2 zl3), (.int .i64 zn4), (.tuple #[])] j)) = B_soil_isGround_0 W R za0 zp1 zl2 zl3 zn4 b29 n30 n31 nx0 := by kernel_rfl
def N_soil_isGround_0 (I : Bool → Int → Int → Hp → Prop) (μ : Bool → Int → Int → Hp → Nat) (b290 : Bool) (n300 n310 : Int) (s : Hp) (vs : List Value) : Hp → Prop := fun s' => ∃ b29 n30 n31, vs = [(.bool b29), (.int .i64 n30), (.int .i64 n31)] ∧ I b29 n30 n31 s' ∧ μ b29 n30 n31 s' < μ b290 n300 n310 s
theorem L_soil_isGround_0_rule (W : World) (R : Ending → Hp → Prop) (za0 : Addr) (zp1 : Option Addr) (zl2 zl3 : Nat) (zn4 : Int) (I : Bool → Int → Int → Hp → Prop) (μ : Bool → Int → Int → Hp → Nat) (b290 : Bool) (n300 n310 : Int) (s : Hp) (h0 : I b290 n300 n310 s)
    (hr : ∀ (b29 : Bool) (n30 : Int) (n31 : Int) (s : Hp), I b29 n30 n31 s → B_soil_isGround_0 W R za0 zp1 zl2 zl3 zn4 b29 n30 n31 (fun vs => N_soil_isGround_0 I μ b29 n30 n31 s vs) s) : L_soil_isGround_0 W R za0 zp1 zl2 zl3 zn4 b290 n300 n310 s := by
  refine ⟨fun vs s => ∃ b29 n30 n31, vs = [(.bool b29), (.int .i64 n30), (.int .i64 n31)] ∧ I b29 n30 n31 s, fun vs s => (match vs with | [.bool b29, .int _ n30, .int _ n31] => μ b29 n30 n31 s | _ => 0), ⟨⟨⟨_, rfl⟩, ⟨⟨_, rfl⟩, ⟨⟨_, rfl⟩, trivial⟩⟩⟩, ⟨_, _, _, rfl, h0⟩⟩, ?_⟩
  intro b29 n30 n31 s hI j
  obtain ⟨b29', n30', n31', hy, hI⟩ := hI
  have hI' : I b29 n30 n31 s := by cases hy; exact hI
  have hh := hr b29 n30 n31 s hI'
  rw [← B_soil_isGround_0_eq W R za0 zp1 zl2 zl3 zn4 b29 n30 n31 _ j] at hh
  refine vc_mono ?_ _ _ hh
  exact KLoop_mono (fun vs s' h => by obtain ⟨b291, n301, n311, rfl, h1, h2⟩ := h; exact ⟨⟨⟨_, rfl⟩, ⟨⟨_, rfl⟩, ⟨⟨_, rfl⟩, trivial⟩⟩⟩, ⟨_, _, _, rfl, h1⟩, h2⟩)
def T_soil_isGround (W : World) (n1 n2 n3 : Int) (x4 : Option Addr) (l5 c6 : Nat) (R : Ending → Hp → Prop) : Hp → Prop :=
 NEW 33 [(.int .i64 n1), (.int .i64 n2), (.int .i64 n3), (.slice x4 l5 c6)] fun B7 =>
 RDI .i64 (Addr.add ⟨B7, 0, none⟩ 0) fun n8 =>
 CALL Pg W F_soil_within [(.int .i64 n8), (.int .i64 0), (.int .i64 40)]
 (fun v9 => TYB v9 fun b11 =>
 BR (!b11)
 (J_soil_isGround_2 W R true B7)
 (RDI .i64 (Addr.add ⟨B7, 0, none⟩ 1) fun n25 =>
 CALL Pg W F_soil_within [(.int .i64 n25), (.int .i64 0), (.int .i64 1000)]
 (fun v26 => TYB v26 fun b28 =>
 J_soil_isGround_2 W R (!b28) B7)
 (fun e27 => R (.panicked e27))))
 (fun e10 => R (.panicked e10))
theorem does_soil_isGround (W : World) (n1 n2 n3 : Int) (x4 : Option Addr) (l5 c6 : Nat) (R : Ending → Hp → Prop) (s : Hp) (h : T_soil_isGround W n1 n2 n3 x4 l5 c6 R s) : Does Pg W F_soil_isGround #[(.agg #[(.int .i64 n1), (.int .i64 n2), (.int .i64 n3), (.slice x4 l5 c6)])] s R :=
  does_of_vfun Pg W an_39 Tryz.func39 rfl (by kernel_rfl) (Eq.mpr (by kernel_rfl) h)
def an_40 : Nat → Ann := fun b => match b with
 | 0 => { ms := [40], ks := [.i .i64], us := [1, 2, 3, 4, 5, 6, 38, 39, 192], rt := false, ex := [] }
 | 2 => { ms := [], ks := [.i .i64], us := [], rt := false, ex := [] }
 | 4 => { ms := [72], ks := [.i .i64], us := [1, 2, 3, 4, 6, 9, 10, 70, 71, 192], rt := false, ex := [] }
 | 6 => { ms := [122], ks := [.i .i64], us := [1, 2, 3, 4, 120, 121, 192], rt := false, ex := [] }
 | 8 => { ms := [], ks := [.i .i64], us := [], rt := false, ex := [] }
 | 10 => { ms := [], ks := [.i .i64], us := [], rt := true, ex := [] }
 | _ => {}
abbrev rv_40 : List ResultVar := [.cell 2 60, .cell 3 4]
abbrev rs_40 : List Nat := [192, 2, 3]
def L_soil_look_0 (W : World) (R : Ending → Hp → Prop) (za0 : Addr) (za1 : Addr) (za2 : Addr) (zp3 : Option Addr) (za4 : Addr) (za5 : Addr) (zp6 : Option Addr) (zl7 zl8 : Nat) (zn9 n177 : Int) : Hp → Prop :=
 LOOPN [.i .i64] (fun ys next s => ∀ j : Tm, vc Pg W 192 rs_40 an_40 false (sub (bodyOf Tryz.f40) [1, 1, 1, 1, 0, 1, 0, 0]) 0 (KLoop [40] [1, 2, 3, 4, 5, 6, 38, 39, 192] [(.pointer (some za0)), (.pointer (some za1)), (.pointer (some za2)), (.pointer zp3), (.pointer (some za4)), (.pointer (some za5)), (.slice zp6 zl7 zl8), (.int .i64 zn9), (.tuple #[])] next (KBlk 0 (KS Pg W 192 rs_40 an_40 false (sub (bodyOf Tryz.f40) [1, 1, 1, 1, 1]) 0 (fin Pg W 192 rv_40 R)))) (known [40] ys (known [1, 2, 3, 4, 5, 6, 38, 39, 192] [(.pointer (some za0)), (.pointer (some za1)), (.pointer (some za2)), (.pointer zp3), (.pointer (some za4)), (.pointer (some za5)), (.slice zp6 zl7 zl8), (.int .i64 zn9), (.tuple #[])] j)) s) [(.int .i64 n177)]
def L_soil_look_1 (W : World) (R : Ending → Hp → Prop) (fin218 : Option Code → Hp → Prop) (za0 : Addr) (za1 : Addr) (za2 : Addr) (zp3 : Option Addr) (za4 : Addr) (zn5 : Int) (zp6 zp7 : Option Addr) (zl8 zl9 : Nat) (zn10 n263 : Int) : Hp → Prop :=
 LOOPN [.i .i64] (fun ys next s => ∀ j : Tm, vc Pg W 192 rs_40 an_40 true (sub (bodyOf Tryz.f40) [1, 1, 1, 1, 1, 0, 1, 0, 1, 0, 1, 0, 1, 0, 0]) 4 (KLoop [72] [1, 2, 3, 4, 6, 9, 10, 70, 71, 192] [(.pointer (some za0)), (.pointer (some za1)), (.pointer (some za2)), (.pointer zp3), (.pointer (some za4)), (.int .i64 zn5), (.pointer zp6), (.slice zp7 zl8 zl9), (.int .i64 zn10), (.tuple #[])] next (KBlk 4 (KS Pg W 192 rs_40 an_40 true (sub (bodyOf Tryz.f40) [1, 1, 1, 1, 1, 0, 1, 0, 1, 0, 1, 1]) 3 (KBlk 3 (KRnd fin218))))) (known [72] ys (known [1, 2, 3, 4, 6, 9, 10, 70, 71, 192] [(.pointer (some za0)), (.pointer (some za1)), (.pointer (some za2)), (.pointer zp3), (.pointer (some za4)), (.int .i64 zn5), (.pointer zp6), (.slice zp7 zl8 zl9), (.int .i64 zn10), (.tuple #[])] j)) s) [(.int .i64 n263)]
def L_soil_look_2 (W : World) (R : Ending → Hp → Prop) (za0 : Addr) (za1 : Addr) (za2 : Addr) (zp3 : Option Addr) (za4 : Addr) (n423 : Int) : Hp → Prop :=
 LOOPN [.i .i64] (fun ys next s => ∀ j : Tm, vc Pg W 192 rs_40 an_40 false (sub (bodyOf Tryz.f40) [1, 1, 1, 1, 1, 1, 0, 1, 0, 0]) 6 (KLoop [122] [1, 2, 3, 4, 120, 121, 192] [(.pointer (some za0)), (.pointer (some za1)), (.pointer (some za2)), (.pointer zp3), (.slice (some za4) 2 2), (.int .i64 2), (.tuple #[])] next (KBlk 6 (KS Pg W 192 rs_40 an_40 false (sub (bodyOf Tryz.f40) [1, 1, 1, 1, 1, 1, 1]) 0 (fin Pg W 192 rv_40 R)))) (known [122] ys (known [1, 2, 3, 4, 120, 121, 192] [(.pointer (some za0)), (.pointer (some za1)), (.pointer (some za2)), (.pointer zp3), (.slice (some za4) 2 2), (.int .i64 2), (.tuple #[])] j)) s) [(.int .i64 n423)]
def J_soil_look_0 (W : World) (R : Ending → Hp → Prop) (B7 B8 B9 : Nat) (p44 : Option Addr) : Hp → Prop :=
 NEW 161 [(.iface 153 (.agg #[]))] fun B45 =>
 NEWZ Pg 154 fun B46 =>
 WR (Addr.add ⟨B46, 0, none⟩ 0) (.slice (some ⟨B45, 0, none⟩) 1 1) <|
 MKM fun B47 =>
 NEWZ Pg 155 fun B48 =>
 WR (Addr.add ⟨B48, 0, none⟩ 0) (.map (some B47)) <|
 RDL (Addr.add ⟨B7, 0, none⟩ 3) fun x49 l50 c51 =>
 L_soil_look_0 W R ⟨B7, 0, none⟩ ⟨B8, 0, none⟩ ⟨B9, 0, none⟩ p44 ⟨B46, 0, none⟩ ⟨B48, 0, none⟩ x49 l50 c51 (↑l50 : Int) 0
def J_soil_look_1 (W : World) (R : Ending → Hp → Prop) (za4 : Addr) (fin218 : Option Code → Hp → Prop) (za0 : Addr) (za1 : Addr) (za2 : Addr) (zp3 : Option Addr) (za5 : Addr) (n221 : Int) (p243 : Option Addr) : Hp → Prop :=
 RDL za4 fun x244 l245 c246 =>
 L_soil_look_1 W R fin218 za0 za1 za2 zp3 za5 n221 p243 x244 l245 c246 (↑l245 : Int) 0
def J_soil_look_2 (W : World) (R : Ending → Hp → Prop) (zp3 : Option Addr) (B426 : Nat) (n436 : Int) (fin433 : Option Code → Hp → Prop) : Hp → Prop :=
 SO zp3 fun a464 =>
 RDP a464 fun p465 =>
 SO p465 fun a466 =>
 RDL (Addr.add a466 5) fun x467 l468 c469 =>
 RDI .i64 (Addr.add ⟨B426, 0, none⟩ 0) fun n470 =>
 RDI .i64 (Addr.add ⟨B426, 0, none⟩ 1) fun n471 =>
 RDI .i64 (Addr.add ⟨B426, 0, none⟩ 2) fun n472 =>
 RDI .i64 (Addr.add ⟨B426, 0, none⟩ 3) fun n473 =>
 RDI .i64 (Addr.add ⟨B426, 0, none⟩ 4) fun n474 =>
 RDI .i64 (Addr.add ⟨B426, 0, none⟩ 5) fun n475 =>
 IXS x467 l468 n436 6 fun a476 =>
 WR (Addr.add a476 0) (.int .i64 n470) <|
 WR (Addr.add a476 1) (.int .i64 n471) <|
 WR (Addr.add a476 2) (.int .i64 n472) <|
 WR (Addr.add a476 3) (.int .i64 n473) <|
 WR (Addr.add a476 4) (.int .i64 n474) <|
 WR (Addr.add a476 5) (.int .i64 n475) <|
 fin433 none
def B_soil_look_0 (W : World) (R : Ending → Hp → Prop) (za0 : Addr) (za1 : Addr) (za2 : Addr) (zp3 : Option Addr) (za4 : Addr) (za5 : Addr) (zp6 : Option Addr) (zl7 zl8 : Nat) (zn9 n177 : Int) (nx0 : List Value → Hp → Prop) : Hp → Prop :=
 BR (decide (n177 < zn9))
 (IXS zp6 zl7 n177 9 fun a178 =>
 RDI .i64 (Addr.add a178 0) fun n179 =>
 RDI .i64 (Addr.add a178 1) fun n180 =>
 RDI .i64 (Addr.add a178 2) fun n181 =>
 RDI .i64 (Addr.add a178 3) fun n182 =>
 RDI .i64 (Addr.add a178 4) fun n183 =>
 RDI .i64 (Addr.add a178 5) fun n184 =>
 RDI .i64 (Addr.add a178 6) fun n185 =>
 RDI .i64 (Addr.add a178 7) fun n186 =>
 RDI .i64 (Addr.add a178 8) fun n187 =>
 NEWZ Pg 30 fun B188 =>
 WR (Addr.add ⟨B188, 0, none⟩ 0) (.int .i64 n179) <|
 WR (Addr.add ⟨B188, 0, none⟩ 1) (.int .i64 n180) <|
 WR (Addr.add ⟨B188, 0, none⟩ 2) (.int .i64 n181) <|
 WR (Addr.add ⟨B188, 0, none⟩ 3) (.int .i64 n182) <|
 WR (Addr.add ⟨B188, 0, none⟩ 4) (.int .i64 n183) <|
 WR (Addr.add ⟨B188, 0, none⟩ 5) (.int .i64 n184) <|
 WR (Addr.add ⟨B188, 0, none⟩ 6) (.int .i64 n185) <|
 WR (Addr.add ⟨B188, 0, none⟩ 7) (.int .i64 n186) <|
 WR (Addr.add ⟨B188, 0, none⟩ 8) (.int .i64 n187) <|
 RDL za4 fun x189 l190 c191 =>
 RDI .i64 (Addr.add ⟨B188, 0, none⟩ 0) fun n192 =>
 RDI .i64 (Addr.add ⟨B188, 0, none⟩ 1) fun n193 =>
 RDI .i64 (Addr.add ⟨B188, 0, none⟩ 2) fun n194 =>
 RDI .i64 (Addr.add ⟨B188, 0, none⟩ 3) fun n195 =>
 RDI .i64 (Addr.add ⟨B188, 0, none⟩ 4) fun n196 =>
 RDI .i64 (Addr.add ⟨B188, 0, none⟩ 5) fun n197 =>
 RDI .i64 (Addr.add ⟨B188, 0, none⟩ 6) fun n198 =>
 RDI .i64 (Addr.add ⟨B188, 0, none⟩ 7) fun n199 =>
 RDI .i64 (Addr.add ⟨B188, 0, none⟩ 8) fun n200 =>
 NEW 161 [(.iface 156 (.agg #[(.int .i64 n192), (.int .i64 n193), (.int .i64 n194), (.int .i64 n195), (.int .i64 n196), (.int .i64 n197), (.int .i64 n198), (.int .i64 n199), (.int .i64 n200)]))] fun B201 =>
 APP Pg 161 1 x189 l190 c191 (some ⟨B201, 0, none⟩) 1 fun x202 l203 c204 =>
 WR (Addr.add za4 0) (.slice x202 l203 c204) <|
 RDM za5 fun m205 =>
 RDI .i64 (Addr.add ⟨B188, 0, none⟩ 0) fun n206 =>
 RDI .i64 (Addr.add (Addr.add ⟨B188, 0, none⟩ 3) 0) fun n207 =>
 RDI .i64 (Addr.add (Addr.add ⟨B188, 0, none⟩ 3) 1) fun n208 =>
 RDI .i64 (Addr.add (Addr.add ⟨B188, 0, none⟩ 5) 0) fun n209 =>
 RDI .i64 (Addr.add (Addr.add ⟨B188, 0, none⟩ 5) 1) fun n210 =>
 RDI .i64 (Addr.add (Addr.add ⟨B188, 0, none⟩ 7) 0) fun n211 =>
 RDI .i64 (Addr.add (Addr.add ⟨B188, 0, none⟩ 7) 1) fun n212 =>
 MUP Pg 155 (.map m205) (.int .i64 n206) (.agg #[(.int .i64 n207), (.int .i64 n208), (.int .i64 n209), (.int .i64 n210), (.int .i64 n211), (.int .i64 n212)]) <|
 NX [(.pointer (some za0)), (.pointer (some za1)), (.pointer (some za2)), (.pointer zp3), (.pointer (some za4)), (.pointer (some za5)), (.slice zp6 zl7 zl8), (.int .i64 zn9), (.tuple #[])] [(.pointer (some za0)), (.pointer (some za1)), (.pointer (some za2)), (.pointer zp3), (.pointer (some za4)), (.pointer (some za5)), (.slice zp6 zl7 zl8), (.int .i64 zn9), (.tuple #[])] (nx0 [(.int .i64 (IntKind.wrap .i64 (n177 + 1)))]))
 (SO zp3 fun a213 =>
 RDP a213 fun p214 =>
 CALL Pg W F_soil_ground_places [(.pointer p214), (.bool false)]
 (fun v215 => RNGN Pg W v215 1
 (fun y217 fin218 => HD y217 fun v219 r220 => TYI .i64 v219 fun n221 =>
 NL r220 <|
 RDL za4 fun x222 l223 c224 =>
 IXS x222 l223 0 1 fun a225 =>
 RDV a225 fun v226 =>
 RDI .i64 (Addr.add za0 1) fun n227 =>
 CONJ [
 INV Pg W v226 "furrowworks/soil.hard" [(.int .i64 n221), (.int .i64 n227)]
 (fun v228 => AGG v228 fun q230 => HD q230 fun v231 r232 => TYI .i64 v231 fun n233 =>
 HD r232 fun v234 r235 => TYI .i64 v234 fun n236 =>
 NL r235 <|
 NEWZ Pg 27 fun B237 =>
 ANDS (RDI .i64 (Addr.add za0 1) fun n238 =>
 fun _ => ((.int .i64 n238) : Value) = (.int .i64 n227)) <|
 ANDS (RDV a225 fun v239 =>
 fun _ => (v239 : Value) = v226) <|
 ANDS (RDL za4 fun x240 l241 c242 =>
 fun _ => ((.slice x240 l241 c242) : Value) = (.slice x222 l223 c224)) <|
 WR (Addr.add ⟨B237, 0, none⟩ 0) (.int .i64 n233) <|
 WR (Addr.add ⟨B237, 0, none⟩ 1) (.int .i64 n236) <|
 J_soil_look_1 W R za4 fin218 za0 za1 za2 zp3 za5 n221 (some ⟨B237, 0, none⟩))
 (fun e229 => FF),
 NEWZ Pg 27 fun B247 =>
 ANDS (RDI .i64 (Addr.add za0 1) fun n248 =>
 fun _ => ((.int .i64 n248) : Value) = (.int .i64 n227)) <|
 ANDS (RDV a225 fun v249 =>
 fun _ => (v249 : Value) = v226) <|
 ANDS (RDL za4 fun x250 l251 c252 =>
 fun _ => ((.slice x250 l251 c252) : Value) = (.slice x222 l223 c224)) <|
 INV Pg W v226 "furrowworks/soil.hard" [(.int .i64 n221), (.int .i64 n227)]
 (fun v253 => AGG v253 fun q255 => HD q255 fun v256 r257 => TYI .i64 v256 fun n258 =>
 HD r257 fun v259 r260 => TYI .i64 v259 fun n261 =>
 NL r260 <|
 WR (Addr.add ⟨B247, 0, none⟩ 0) (.int .i64 n258) <|
 WR (Addr.add ⟨B247, 0, none⟩ 1) (.int .i64 n261) <|
 J_soil_look_1 W R za4 fin218 za0 za1 za2 zp3 za5 n221 (some ⟨B247, 0, none⟩))
 (fun e254 => FF)])
 (AFT
 (NEW 4 [(.bool false), (.bool true)] fun B262 =>
 L_soil_look_2 W R za0 za1 za2 zp3 ⟨B262, 0, none⟩ 0) (FF) (EXL [] fun _ => FF)))
 (fun e216 => R (.panicked e216)))
theorem B_soil_look_0_eq (W : World) (R : Ending → Hp → Prop) (za0 : Addr) (za1 : Addr) (za2 : Addr) (zp3 : Option Addr) (za4 : Addr) (za5 : Addr) (zp6 : Option Addr) (zl7 zl8 : Nat) (zn9 n177 : Int) (nx0 : List Value → Hp → Prop) (j : Tm) : vc Pg W 192 rs_40 an_40 false (sub (bodyOf Tryz.f40) [1, 1, 1, 1, 0, 1, 0, 0]) 0 (KLoop [40] [1, 2, 3, 4, 5, 6, 38, 39, 192] [(.pointer (some za0)), (.pointer (some za1)), (.pointer (some za2)), (.pointer zp3), (.pointer (some za4)), (.pointer (some za5)), (.slice zp6 zl7 zl8), (.int .i64 zn9), (.tuple #[])] nx0 (KBlk 0 (KS Pg W 192 rs_40 an_40 false (sub (bodyOf Tryz.f40) [1, 1, 1, 1, 1]) 0 (fin Pg W 192 rv_40 R)))) (known [40] [(.int .i64 n177)] (known [1, 2, 3, 4, 5, 6, 38, 39, 192] [(.pointer (some za0)), (.pointer (some za1)), (.pointer (some za2)), (.pointer zp3), (.pointer (some za4)), (.pointer (some za5)), (.slice zp6 zl7 zl8), (.int .i64 zn9), (.tuple #[])] j)) = B_soil_look_0 W R za0 za1 za2 zp3 za4 za5 zp6 zl7 zl8 zn9 n177 nx0 := by kernel_rfl
def N_soil_look_0 (I : Int → Hp → Prop) (μ : Int → Hp → Nat) (n1770 : Int) (s : Hp) (vs : List Value) : Hp → Prop := fun s' => ∃ n177, vs = [(.int .i64 n177)] ∧ I n177 s' ∧ μ n177 s' < μ n1770 s
theorem L_soil_look_0_rule (W : World) (R : Ending → Hp → Prop) (za0 : Addr) (za1 : Addr) (za2 : Addr) (zp3 : Option Addr) (za4 : Addr) (za5 : Addr) (zp6 : Option Addr) (zl7 zl8 : Nat) (zn9 : Int) (I : Int → Hp → Prop) (μ : Int → Hp → Nat) (n1770 : Int) (s : Hp) (h0 : I n1770 s)
    (hr : ∀ (n177 : Int) (s : Hp), I n177 s → B_soil_look_0 W R za0 za1 za2 zp3 za4 za5 zp6 zl7 zl8 zn9 n177 (fun vs => N_soil_look_0 I μ n177 s vs) s) : L_soil_look_0 W R za0 za1 za2 zp3 za4 za5 zp6 zl7 zl8 zn9 n1770 s := by
  refine ⟨fun vs s => ∃ n177, vs = [(.int .i64 n177)] ∧ I n177 s, fun vs s => (match vs with | [.int _ n177] => μ n177 s | _ => 0), ⟨⟨⟨_, rfl⟩, trivial⟩, ⟨_, rfl, h0⟩⟩, ?_⟩
  intro n177 s hI j
  obtain ⟨n177', hy, hI⟩ := hI
  have hI' : I n177 s := by cases hy; exact hI
  have hh := hr n177 s hI'
  rw [← B_soil_look_0_eq W R za0 za1 za2 zp3 za4 za5 zp6 zl7 zl8 zn9 n177 _ j] at hh
  refine vc_mono ?_ _ _ hh
  exact KLoop_mono (fun vs s' h => by obtain ⟨n1771, rfl, h1, h2⟩ := h; exact ⟨⟨⟨_, rfl⟩, trivial⟩, ⟨_, rfl, h1⟩, h2⟩)
def B_soil_look_1 (W : World) (R : Ending → Hp → Prop) (fin218 : Option Code → Hp → Prop) (za0 : Addr) (za1 : Addr) (za2 : Addr) (zp3 : Option Addr) (za4 : Addr) (zn5 : Int) (zp6 zp7 : Option Addr) (zl8 zl9 : Nat) (zn10 n263 : Int) (nx1 : List Value → Hp → Prop) : Hp → Prop :=
 BR (decide (n263 < zn10))
 (IXS zp7 zl8 n263 1 fun a264 =>
 RDV a264 fun v265 =>
 SO zp6 fun a266 =>
 RDI .i64 (Addr.add a266 0) fun n267 =>
 RDI .i64 (Addr.add a266 1) fun n268 =>
 RDI .i64 (Addr.add za0 1) fun n269 =>
 INV Pg W v265 "furrowworks/soil.hard" [(.int .i64 zn5), (.int .i64 n269)]
 (fun v270 => AGG v270 fun q272 => HD q272 fun v273 r274 => TYI .i64 v273 fun n275 =>
 HD r274 fun v276 r277 => TYI .i64 v276 fun n278 =>
 NL r277 <|
 ANDS (SO zp6 fun a279 =>
 RDI .i64 (Addr.add a279 0) fun n280 =>
 RDI .i64 (Addr.add a279 1) fun n281 =>
 fun _ => ((.agg #[(.int .i64 n280), (.int .i64 n281)]) : Value) = (.agg #[(.int .i64 n267), (.int .i64 n268)])) <|
 CALL Pg W F_soil_both [(.agg #[(.int .i64 n267), (.int .i64 n268)]), (.agg #[(.int .i64 n275), (.int .i64 n278)])]
 (fun v282 => AGG v282 fun q284 => HD q284 fun v285 r286 => TYI .i64 v285 fun n287 =>
 HD r286 fun v288 r289 => TYI .i64 v288 fun n290 =>
 NL r289 <|
 SO zp6 fun a291 =>
 WR (Addr.add a291 0) (.int .i64 n287) <|
 WR (Addr.add a291 1) (.int .i64 n290) <|
 NX [(.pointer (some za0)), (.pointer (some za1)), (.pointer (some za2)), (.pointer zp3), (.pointer (some za4)), (.int .i64 zn5), (.pointer zp6), (.slice zp7 zl8 zl9), (.int .i64 zn10), (.tuple #[])] [(.pointer (some za0)), (.pointer (some za1)), (.pointer (some za2)), (.pointer zp3), (.pointer (some za4)), (.int .i64 zn5), (.pointer zp6), (.slice zp7 zl8 zl9), (.int .i64 zn10), (.tuple #[])] (nx1 [(.int .i64 (IntKind.wrap .i64 (n263 + 1)))]))
 (fun e283 => FF))
 (fun e271 => FF))
 (SO zp3 fun a292 =>
 RDP a292 fun p293 =>
 SO p293 fun a294 =>
 RDL (Addr.add a294 4) fun x295 l296 c297 =>
 SO zp3 fun a298 =>
 RDP a298 fun p299 =>
 SO p299 fun a300 =>
 RDL (Addr.add a300 5) fun x301 l302 c303 =>
 SO zp6 fun a304 =>
 RDI .i64 (Addr.add a304 0) fun n305 =>
 RDI .i64 (Addr.add a304 1) fun n306 =>
 CALL Pg W F_soil_anything []
 (fun v307 => AGG v307 fun q309 => HD q309 fun v310 r311 => TYI .i64 v310 fun n312 =>
 HD r311 fun v313 r314 => TYI .i64 v313 fun n315 =>
 HD r314 fun v316 r317 => TYI .i64 v316 fun n318 =>
 HD r317 fun v319 r320 => TYI .i64 v319 fun n321 =>
 HD r320 fun v322 r323 => TYI .i64 v322 fun n324 =>
 HD r323 fun v325 r326 => TYI .i64 v325 fun n327 =>
 NL r326 <|
 ANDS (SO zp6 fun a328 =>
 RDI .i64 (Addr.add a328 0) fun n329 =>
 RDI .i64 (Addr.add a328 1) fun n330 =>
 fun _ => ((.agg #[(.int .i64 n329), (.int .i64 n330)]) : Value) = (.agg #[(.int .i64 n305), (.int .i64 n306)])) <|
 ANDS (RDL (Addr.add a300 5) fun x331 l332 c333 =>
 fun _ => ((.slice x331 l332 c333) : Value) = (.slice x301 l302 c303)) <|
 ANDS (SO zp3 fun a334 =>
 RDP a334 fun p335 =>
 fun _ => ((.pointer p335) : Value) = (.pointer p299)) <|
 ANDS (RDL (Addr.add a294 4) fun x336 l337 c338 =>
 fun _ => ((.slice x336 l337 c338) : Value) = (.slice x295 l296 c297)) <|
 ANDS (SO zp3 fun a339 =>
 RDP a339 fun p340 =>
 fun _ => ((.pointer p340) : Value) = (.pointer p293)) <|
 IXS x295 l296 zn5 2 fun a341 =>
 WR (Addr.add a341 0) (.int .i64 n305) <|
 WR (Addr.add a341 1) (.int .i64 n306) <|
 IXS x301 l302 zn5 6 fun a342 =>
 WR (Addr.add a342 0) (.int .i64 n312) <|
 WR (Addr.add a342 1) (.int .i64 n315) <|
 WR (Addr.add a342 2) (.int .i64 n318) <|
 WR (Addr.add a342 3) (.int .i64 n321) <|
 WR (Addr.add a342 4) (.int .i64 n324) <|
 WR (Addr.add a342 5) (.int .i64 n327) <|
 RDM za4 fun m343 =>
 LKP Pg 155 (.map m343) (.int .i64 zn5) true fun v344 =>
 TUP v344 fun q345 => HD q345 fun v346 r347 => AGG v346 fun q348 => HD q348 fun v349 r350 => TYI .i64 v349 fun n351 =>
 HD r350 fun v352 r353 => TYI .i64 v352 fun n354 =>
 HD r353 fun v355 r356 => TYI .i64 v355 fun n357 =>
 HD r356 fun v358 r359 => TYI .i64 v358 fun n360 =>
 HD r359 fun v361 r362 => TYI .i64 v361 fun n363 =>
 HD r362 fun v364 r365 => TYI .i64 v364 fun n366 =>
 NL r365 <|
 HD r347 fun v367 r368 => TYB v367 fun b369 =>
 NL r368 <|
 NEWZ Pg 104 fun B370 =>
 WR (Addr.add ⟨B370, 0, none⟩ 0) (.int .i64 n351) <|
 WR (Addr.add ⟨B370, 0, none⟩ 1) (.int .i64 n354) <|
 WR (Addr.add ⟨B370, 0, none⟩ 2) (.int .i64 n357) <|
 WR (Addr.add ⟨B370, 0, none⟩ 3) (.int .i64 n360) <|
 WR (Addr.add ⟨B370, 0, none⟩ 4) (.int .i64 n363) <|
 WR (Addr.add ⟨B370, 0, none⟩ 5) (.int .i64 n366) <|
 BR b369
 (SO zp3 fun a371 =>
 RDP a371 fun p372 =>
 SO p372 fun a373 =>
 RDL (Addr.add a373 5) fun x374 l375 c376 =>
 SO zp3 fun a377 =>
 RDP a377 fun p378 =>
 SO p378 fun a379 =>
 RDL (Addr.add a379 5) fun x380 l381 c382 =>
 IXS x380 l381 zn5 6 fun a383 =>
 RDI .i64 (Addr.add a383 0) fun n384 =>
 RDI .i64 (Addr.add a383 1) fun n385 =>
 RDI .i64 (Addr.add a383 2) fun n386 =>
 RDI .i64 (Addr.add a383 3) fun n387 =>
 RDI .i64 (Addr.add a383 4) fun n388 =>
 RDI .i64 (Addr.add a383 5) fun n389 =>
 RDI .i64 (Addr.add ⟨B370, 0, none⟩ 0) fun n390 =>
 RDI .i64 (Addr.add ⟨B370, 0, none⟩ 1) fun n391 =>
 RDI .i64 (Addr.add ⟨B370, 0, none⟩ 2) fun n392 =>
 RDI .i64 (Addr.add ⟨B370, 0, none⟩ 3) fun n393 =>
 RDI .i64 (Addr.add ⟨B370, 0, none⟩ 4) fun n394 =>
 RDI .i64 (Addr.add ⟨B370, 0, none⟩ 5) fun n395 =>
 CALL Pg W F_soil_mix_and [(.agg #[(.int .i64 n384), (.int .i64 n385), (.int .i64 n386), (.int .i64 n387), (.int .i64 n388), (.int .i64 n389)]), (.agg #[(.int .i64 n390), (.int .i64 n391), (.int .i64 n392), (.int .i64 n393), (.int .i64 n394), (.int .i64 n395)])]
 (fun v396 => AGG v396 fun q398 => HD q398 fun v399 r400 => TYI .i64 v399 fun n401 =>
 HD r400 fun v402 r403 => TYI .i64 v402 fun n404 =>
 HD r403 fun v405 r406 => TYI .i64 v405 fun n407 =>
 HD r406 fun v408 r409 => TYI .i64 v408 fun n410 =>
 HD r409 fun v411 r412 => TYI .i64 v411 fun n413 =>
 HD r412 fun v414 r415 => TYI .i64 v414 fun n416 =>
 NL r415 <|
 ANDS (RDL (Addr.add a373 5) fun x417 l418 c419 =>
 fun _ => ((.slice x417 l418 c419) : Value) = (.slice x374 l375 c376)) <|
 ANDS (SO zp3 fun a420 =>
 RDP a420 fun p421 =>
 fun _ => ((.pointer p421) : Value) = (.pointer p372)) <|
 IXS x374 l375 zn5 6 fun a422 =>
 WR (Addr.add a422 0) (.int .i64 n401) <|
 WR (Addr.add a422 1) (.int .i64 n404) <|
 WR (Addr.add a422 2) (.int .i64 n407) <|
 WR (Addr.add a422 3) (.int .i64 n410) <|
 WR (Addr.add a422 4) (.int .i64 n413) <|
 WR (Addr.add a422 5) (.int .i64 n416) <|
 fin218 none)
 (fun e397 => FF))
 (fin218 none))
 (fun e308 => FF))
theorem B_soil_look_1_eq (W : World) (R : Ending → Hp → Prop) (fin218 : Option Code → Hp → Prop) (za0 : Addr) (za1 : Addr) (za2 : Addr) (zp3 : Option Addr) (za4 : Addr) (zn5 : Int) (zp6 zp7 : Option Addr) (zl8 zl9 : Nat) (zn10 n263 : Int) (nx1 : List Value → Hp → Prop) (j : Tm) : vc Pg W 192 rs_40 an_40 true (sub (bodyOf Tryz.f40) [1, 1, 1, 1, 1, 0, 1, 0, 1, 0, 1, 0, 1, 0, 0]) 4 (KLoop [72] [1, 2, 3, 4, 6, 9, 10, 70, 71, 192] [(.pointer (some za0)), (.pointer (some za1)), (.pointer (some za2)), (.pointer zp3), (.pointer (some za4)), (.int .i64 zn5), (.pointer zp6), (.slice zp7 zl8 zl9), (.int .i64 zn10), (.tuple #[])] nx1 (KBlk 4 (KS Pg W 192 rs_40 an_40 true (sub (bodyOf Tryz.f40) [1, 1, 1, 1, 1, 0, 1, 0, 1, 0, 1, 1]) 3 (KBlk 3 (KRnd fin218))))) (known [72] [(.int .i64 n263)] (known [1, 2, 3, 4, 6, 9, 10, 70, 71, 192] [(.pointer (some za0)), (.pointer (some za1)), (.pointer (some za2)), (.pointer zp3), (.pointer (some za4)), (.int .i64 zn5), (.pointer zp6), (.slice zp7 zl8 zl9), (.int .i64 zn10), (.tuple #[])] j)) = B_soil_look_1 W R fin218 za0 za1 za2 zp3 za4 zn5 zp6 zp7 zl8 zl9 zn10 n263 nx1 := by kernel_rfl
def N_soil_look_1 (I : Int → Hp → Prop) (μ : Int → Hp → Nat) (n2630 : Int) (s : Hp) (vs : List Value) : Hp → Prop := fun s' => ∃ n263, vs = [(.int .i64 n263)] ∧ I n263 s' ∧ μ n263 s' < μ n2630 s
theorem L_soil_look_1_rule (W : World) (R : Ending → Hp → Prop) (fin218 : Option Code → Hp → Prop) (za0 : Addr) (za1 : Addr) (za2 : Addr) (zp3 : Option Addr) (za4 : Addr) (zn5 : Int) (zp6 zp7 : Option Addr) (zl8 zl9 : Nat) (zn10 : Int) (I : Int → Hp → Prop) (μ : Int → Hp → Nat) (n2630 : Int) (s : Hp) (h0 : I n2630 s)
    (hr : ∀ (n263 : Int) (s : Hp), I n263 s → B_soil_look_1 W R fin218 za0 za1 za2 zp3 za4 zn5 zp6 zp7 zl8 zl9 zn10 n263 (fun vs => N_soil_look_1 I μ n263 s vs) s) : L_soil_look_1 W R fin218 za0 za1 za2 zp3 za4 zn5 zp6 zp7 zl8 zl9 zn10 n2630 s := by
  refine ⟨fun vs s => ∃ n263, vs = [(.int .i64 n263)] ∧ I n263 s, fun vs s => (match vs with | [.int _ n263] => μ n263 s | _ => 0), ⟨⟨⟨_, rfl⟩, trivial⟩, ⟨_, rfl, h0⟩⟩, ?_⟩
  intro n263 s hI j
  obtain ⟨n263', hy, hI⟩ := hI
  have hI' : I n263 s := by cases hy; exact hI
  have hh := hr n263 s hI'
  rw [← B_soil_look_1_eq W R fin218 za0 za1 za2 zp3 za4 zn5 zp6 zp7 zl8 zl9 zn10 n263 _ j] at hh
  refine vc_mono ?_ _ _ hh
  exact KLoop_mono (fun vs s' h => by obtain ⟨n2631, rfl, h1, h2⟩ := h; exact ⟨⟨⟨_, rfl⟩, trivial⟩, ⟨_, rfl, h1⟩, h2⟩)
def B_soil_look_2 (W : World) (R : Ending → Hp → Prop) (za0 : Addr) (za1 : Addr) (za2 : Addr) (zp3 : Option Addr) (za4 : Addr) (n423 : Int) (nx2 : List Value → Hp → Prop) : Hp → Prop :=
 BR (decide (n423 < 2))
 (IXS (some za4) 2 n423 1 fun a424 =>
 RDB a424 fun b425 =>
 NEWZ Pg 104 fun B426 =>
 NEWZ Pg 4 fun B427 =>
 WR (Addr.add ⟨B426, 0, none⟩ 0) (.int .i64 0) <|
 WR (Addr.add ⟨B426, 0, none⟩ 1) (.int .i64 0) <|
 WR (Addr.add ⟨B426, 0, none⟩ 2) (.int .i64 0) <|
 WR (Addr.add ⟨B426, 0, none⟩ 3) (.int .i64 0) <|
 WR (Addr.add ⟨B426, 0, none⟩ 4) (.int .i64 0) <|
 WR (Addr.add ⟨B426, 0, none⟩ 5) (.int .i64 0) <|
 WR (Addr.add ⟨B427, 0, none⟩ 0) (.bool true) <|
 SO zp3 fun a428 =>
 RDP a428 fun p429 =>
 CALL Pg W F_soil_ground_places [(.pointer p429), (.bool b425)]
 (fun v430 => RNGN Pg W v430 1
 (fun y432 fin433 => HD y432 fun v434 r435 => TYI .i64 v434 fun n436 =>
 NL r435 <|
 SO zp3 fun a437 =>
 RDP a437 fun p438 =>
 SO p438 fun a439 =>
 RDL (Addr.add a439 5) fun x440 l441 c442 =>
 IXS x440 l441 n436 6 fun a443 =>
 RDI .i64 (Addr.add a443 0) fun n444 =>
 RDI .i64 (Addr.add a443 1) fun n445 =>
 RDI .i64 (Addr.add a443 2) fun n446 =>
 RDI .i64 (Addr.add a443 3) fun n447 =>
 RDI .i64 (Addr.add a443 4) fun n448 =>
 RDI .i64 (Addr.add a443 5) fun n449 =>
 RDB ⟨B427, 0, none⟩ fun b450 =>
 BR b450
 (SO zp3 fun a451 =>
 RDP a451 fun p452 =>
 SO p452 fun a453 =>
 RDL (Addr.add a453 5) fun x454 l455 c456 =>
 IXS x454 l455 n436 6 fun a457 =>
 RDI .i64 (Addr.add a457 0) fun n458 =>
 RDI .i64 (Addr.add a457 1) fun n459 =>
 RDI .i64 (Addr.add a457 2) fun n460 =>
 RDI .i64 (Addr.add a457 3) fun n461 =>
 RDI .i64 (Addr.add a457 4) fun n462 =>
 RDI .i64 (Addr.add a457 5) fun n463 =>
 WR (Addr.add ⟨B426, 0, none⟩ 0) (.int .i64 n458) <|
 WR (Addr.add ⟨B426, 0, none⟩ 1) (.int .i64 n459) <|
 WR (Addr.add ⟨B426, 0, none⟩ 2) (.int .i64 n460) <|
 WR (Addr.add ⟨B426, 0, none⟩ 3) (.int .i64 n461) <|
 WR (Addr.add ⟨B426, 0, none⟩ 4) (.int .i64 n462) <|
 WR (Addr.add ⟨B426, 0, none⟩ 5) (.int .i64 n463) <|
 WR (Addr.add ⟨B427, 0, none⟩ 0) (.bool false) <|
 J_soil_look_2 W R zp3 B426 n436 fin433)
 (RDI .i64 (Addr.add ⟨B426, 0, none⟩ 0) fun n477 =>
 RDI .i64 (Addr.add ⟨B426, 0, none⟩ 1) fun n478 =>
 RDI .i64 (Addr.add ⟨B426, 0, none⟩ 2) fun n479 =>
 RDI .i64 (Addr.add ⟨B426, 0, none⟩ 3) fun n480 =>
 RDI .i64 (Addr.add ⟨B426, 0, none⟩ 4) fun n481 =>
 RDI .i64 (Addr.add ⟨B426, 0, none⟩ 5) fun n482 =>
 RDI .i64 (Addr.add za0 2) fun n483 =>
 CALL Pg W F_soil_mix_next [(.agg #[(.int .i64 n477), (.int .i64 n478), (.int .i64 n479), (.int .i64 n480), (.int .i64 n481), (.int .i64 n482)]), (.int .i64 n483)]
 (fun v484 => AGG v484 fun q486 => HD q486 fun v487 r488 => TYI .i64 v487 fun n489 =>
 HD r488 fun v490 r491 => TYI .i64 v490 fun n492 =>
 HD r491 fun v493 r494 => TYI .i64 v493 fun n495 =>
 HD r494 fun v496 r497 => TYI .i64 v496 fun n498 =>
 HD r497 fun v499 r500 => TYI .i64 v499 fun n501 =>
 HD r500 fun v502 r503 => TYI .i64 v502 fun n504 =>
 NL r503 <|
 CALLV Pg W (.func (.func 71) #[(.agg #[(.int .i64 n444), (.int .i64 n445), (.int .i64 n446), (.int .i64 n447), (.int .i64 n448), (.int .i64 n449)])] #[]) [(.agg #[(.int .i64 n489), (.int .i64 n492), (.int .i64 n495), (.int .i64 n498), (.int .i64 n501), (.int .i64 n504)])]
 (fun v505 => AGG v505 fun q507 => HD q507 fun v508 r509 => TYI .i64 v508 fun n510 =>
 HD r509 fun v511 r512 => TYI .i64 v511 fun n513 =>
 HD r512 fun v514 r515 => TYI .i64 v514 fun n516 =>
 HD r515 fun v517 r518 => TYI .i64 v517 fun n519 =>
 HD r518 fun v520 r521 => TYI .i64 v520 fun n522 =>
 HD r521 fun v523 r524 => TYI .i64 v523 fun n525 =>
 NL r524 <|
 WR (Addr.add ⟨B426, 0, none⟩ 0) (.int .i64 n510) <|
 WR (Addr.add ⟨B426, 0, none⟩ 1) (.int .i64 n513) <|
 WR (Addr.add ⟨B426, 0, none⟩ 2) (.int .i64 n516) <|
 WR (Addr.add ⟨B426, 0, none⟩ 3) (.int .i64 n519) <|
 WR (Addr.add ⟨B426, 0, none⟩ 4) (.int .i64 n522) <|
 WR (Addr.add ⟨B426, 0, none⟩ 5) (.int .i64 n525) <|
 J_soil_look_2 W R zp3 B426 n436 fin433)
 (fun e506 => FF))
 (fun e485 => FF)))
 (AFT
 (NX [(.pointer (some za0)), (.pointer (some za1)), (.pointer (some za2)), (.pointer zp3), (.slice (some za4) 2 2), (.int .i64 2), (.tuple #[])] [(.pointer (some za0)), (.pointer (some za1)), (.pointer (some za2)), (.pointer zp3), (.slice (some za4) 2 2), (.int .i64 2), (.tuple #[])] (nx2 [(.int .i64 (IntKind.wrap .i64 (n423 + 1)))])) (FF) (EXL [] fun _ => FF)))
 (fun e431 => R (.panicked e431)))
 (SO zp3 fun a526 =>
 RDP a526 fun p527 =>
 CALL Pg W F_soil_ground_places [(.pointer p527), (.bool false)]
 (fun v528 => RNGN Pg W v528 1
 (fun y530 fin531 => HD y530 fun v532 r533 => TYI .i64 v532 fun n534 =>
 NL r533 <|
 SO zp3 fun a535 =>
 RDP a535 fun p536 =>
 SO p536 fun a537 =>
 RDL (Addr.add a537 4) fun x538 l539 c540 =>
 IXS x538 l539 n534 2 fun a541 =>
 RDI .i64 (Addr.add a541 0) fun n542 =>
 SO zp3 fun a543 =>
 RDP a543 fun p544 =>
 SO p544 fun a545 =>
 RDL (Addr.add a545 4) fun x546 l547 c548 =>
 IXS x546 l547 n534 2 fun a549 =>
 RDI .i64 (Addr.add a549 1) fun n550 =>
 BR (decide (n542 > n550))
 (WR (Addr.add za1 0) (.pointer none) <|
 WR (Addr.add za2 0) (.bool false) <|
 fin531 (some .ret))
 (SO zp3 fun a551 =>
 RDP a551 fun p552 =>
 SO p552 fun a553 =>
 RDL (Addr.add a553 5) fun x554 l555 c556 =>
 IXS x554 l555 n534 6 fun a557 =>
 RDI .i64 (Addr.add a557 0) fun n558 =>
 RDI .i64 (Addr.add a557 1) fun n559 =>
 RDI .i64 (Addr.add a557 2) fun n560 =>
 RDI .i64 (Addr.add a557 3) fun n561 =>
 RDI .i64 (Addr.add a557 4) fun n562 =>
 RDI .i64 (Addr.add a557 5) fun n563 =>
 CALL Pg W F_soil_mix_isNone [(.agg #[(.int .i64 n558), (.int .i64 n559), (.int .i64 n560), (.int .i64 n561), (.int .i64 n562), (.int .i64 n563)])]
 (fun v564 => TYB v564 fun b566 =>
 BR b566
 (WR (Addr.add za1 0) (.pointer none) <|
 WR (Addr.add za2 0) (.bool false) <|
 fin531 (some .ret))
 (fin531 none))
 (fun e565 => FF)))
 (AFT
 (SO zp3 fun a567 =>
 RDP a567 fun p568 =>
 WR (Addr.add za1 0) (.pointer p568) <|
 WR (Addr.add za2 0) (.bool true) <|
 RDP za1 fun p569 =>
 RDB za2 fun b570 =>
 R (.returned (.tuple #[(.pointer p569), (.bool b570)]))) (RDP za1 fun p571 =>
 RDB za2 fun b572 =>
 R (.returned (.tuple #[(.pointer p571), (.bool b572)]))) (EXL [] fun _ => FF)))
 (fun e529 => R (.panicked e529)))
theorem B_soil_look_2_eq (W : World) (R : Ending → Hp → Prop) (za0 : Addr) (za1 : Addr) (za2 : Addr) (zp3 : Option Addr) (za4 : Addr) (n423 : Int) (nx2 : List Value → Hp → Prop) (j : Tm) : vc Pg W 192 rs_40 an_40 false (sub (bodyOf Tryz.f40) [1, 1, 1, 1, 1, 1, 0, 1, 0, 0]) 6 (KLoop [122] [1, 2, 3, 4, 120, 121, 192] [(.pointer (some za0)), (.pointer (some za1)), (.pointer (some za2)), (.pointer zp3), (.slice (some za4) 2 2), (.int .i64 2), (.tuple #[])] nx2 (KBlk 6 (KS Pg W 192 rs_40 an_40 false (sub (bodyOf Tryz.f40) [1, 1, 1, 1, 1, 1, 1]) 0 (fin Pg W 192 rv_40 R)))) (known [122] [(.int .i64 n423)] (known [1, 2, 3, 4, 120, 121, 192] [(.pointer (some za0)), (.pointer (some za1)), (.pointer (some za2)), (.pointer zp3), (.slice (some za4) 2 2), (.int .i64 2), (.tuple #[])] j)) = B_soil_look_2 W R za0 za1 za2 zp3 za4 n423 nx2 := by kernel_rfl
def N_soil_look_2 (I : Int → Hp → Prop) (μ : Int → Hp → Nat) (n4230 : Int) (s : Hp) (vs : List Value) : Hp → Prop := fun s' => ∃ n423, vs = [(.int .i64 n423)] ∧ I n423 s' ∧ μ n423 s' < μ n4230 s
theorem L_soil_look_2_rule (W : World) (R : Ending → Hp → Prop) (za0 : Addr) (za1 : Addr) (za2 : Addr) (zp3 : Option Addr) (za4 : Addr) (I : Int → Hp → Prop) (μ : Int → Hp → Nat) (n4230 : Int) (s : Hp) (h0 : I n4230 s)
    (hr : ∀ (n423 : Int) (s : Hp), I n423 s → B_soil_look_2 W R za0 za1 za2 zp3 za4 n423 (fun vs => N_soil_look_2 I μ n423 s vs) s) : L_soil_look_2 W R za0 za1 za2 zp3 za4 n4230 s := by
  refine ⟨fun vs s => ∃ n423, vs = [(.int .i64 n423)] ∧ I n423 s, fun vs s => (match vs with | [.int _ n423] => μ n423 s | _ => 0), ⟨⟨⟨_, rfl⟩, trivial⟩, ⟨_, rfl, h0⟩⟩, ?_⟩
  intro n423 s hI j
  obtain ⟨n423', hy, hI⟩ := hI
  have hI' : I n423 s := by cases hy; exact hI
  have hh := hr n423 s hI'
  rw [← B_soil_look_2_eq W R za0 za1 za2 zp3 za4 n423 _ j] at hh
  refine vc_mono ?_ _ _ hh
  exact KLoop_mono (fun vs s' h => by obtain ⟨n4231, rfl, h1, h2⟩ := h; exact ⟨⟨⟨_, rfl⟩, trivial⟩, ⟨_, rfl, h1⟩, h2⟩)
def T_soil_look (W : World) (n1 n2 n3 : Int) (x4 : Option Addr) (l5 c6 : Nat) (R : Ending → Hp → Prop) : Hp → Prop :=
 NEW 33 [(.int .i64 n1), (.int .i64 n2), (.int .i64 n3), (.slice x4 l5 c6)] fun B7 =>
 NEWZ Pg 60 fun B8 =>
 NEWZ Pg 4 fun B9 =>
 RDI .i64 (Addr.add ⟨B7, 0, none⟩ 0) fun n10 =>
 RDI .i64 (Addr.add ⟨B7, 0, none⟩ 1) fun n11 =>
 RDI .i64 (Addr.add ⟨B7, 0, none⟩ 2) fun n12 =>
 RDL (Addr.add ⟨B7, 0, none⟩ 3) fun x13 l14 c15 =>
 RDI .i64 (Addr.add ⟨B7, 0, none⟩ 0) fun n16 =>
 RDI .i64 (Addr.add ⟨B7, 0, none⟩ 0) fun n17 =>
 CONJ [
 MKS Pg 27 (IntKind.wrap .i64 (n16 + 1)) (IntKind.wrap .i64 (n16 + 1)) fun B18 =>
 ANDS (RDI .i64 (Addr.add ⟨B7, 0, none⟩ 0) fun n19 =>
 fun _ => ((.int .i64 n19) : Value) = (.int .i64 n17)) <|
 ANDS (RDI .i64 (Addr.add ⟨B7, 0, none⟩ 0) fun n20 =>
 RDI .i64 (Addr.add ⟨B7, 0, none⟩ 1) fun n21 =>
 RDI .i64 (Addr.add ⟨B7, 0, none⟩ 2) fun n22 =>
 RDL (Addr.add ⟨B7, 0, none⟩ 3) fun x23 l24 c25 =>
 fun _ => ((.agg #[(.int .i64 n20), (.int .i64 n21), (.int .i64 n22), (.slice x23 l24 c25)]) : Value) = (.agg #[(.int .i64 n10), (.int .i64 n11), (.int .i64 n12), (.slice x13 l14 c15)])) <|
 CONJ [
 MKS Pg 104 (IntKind.wrap .i64 (n17 + 1)) (IntKind.wrap .i64 (n17 + 1)) fun B26 =>
 ANDS (RDI .i64 (Addr.add ⟨B7, 0, none⟩ 0) fun n27 =>
 fun _ => ((.int .i64 n27) : Value) = (.int .i64 n16)) <|
 ANDS (RDI .i64 (Addr.add ⟨B7, 0, none⟩ 0) fun n28 =>
 RDI .i64 (Addr.add ⟨B7, 0, none⟩ 1) fun n29 =>
 RDI .i64 (Addr.add ⟨B7, 0, none⟩ 2) fun n30 =>
 RDL (Addr.add ⟨B7, 0, none⟩ 3) fun x31 l32 c33 =>
 fun _ => ((.agg #[(.int .i64 n28), (.int .i64 n29), (.int .i64 n30), (.slice x31 l32 c33)]) : Value) = (.agg #[(.int .i64 n10), (.int .i64 n11), (.int .i64 n12), (.slice x13 l14 c15)])) <|
 CONJ [
 NEW 59 [(.int .i64 n10), (.int .i64 n11), (.int .i64 n12), (.slice x13 l14 c15), (.slice (some ⟨B18, 0, none⟩) (Int.toNat (IntKind.wrap .i64 (n16 + 1))) (Int.toNat (IntKind.wrap .i64 (n16 + 1)))), (.slice (some ⟨B26, 0, none⟩) (Int.toNat (IntKind.wrap .i64 (n17 + 1))) (Int.toNat (IntKind.wrap .i64 (n17 + 1))))] fun B34 =>
 NEWZ Pg 60 fun B35 =>
 ANDS (RDI .i64 (Addr.add ⟨B7, 0, none⟩ 0) fun n36 =>
 fun _ => ((.int .i64 n36) : Value) = (.int .i64 n17)) <|
 ANDS (RDI .i64 (Addr.add ⟨B7, 0, none⟩ 0) fun n37 =>
 fun _ => ((.int .i64 n37) : Value) = (.int .i64 n16)) <|
 ANDS (RDI .i64 (Addr.add ⟨B7, 0, none⟩ 0) fun n38 =>
 RDI .i64 (Addr.add ⟨B7, 0, none⟩ 1) fun n39 =>
 RDI .i64 (Addr.add ⟨B7, 0, none⟩ 2) fun n40 =>
 RDL (Addr.add ⟨B7, 0, none⟩ 3) fun x41 l42 c43 =>
 fun _ => ((.agg #[(.int .i64 n38), (.int .i64 n39), (.int .i64 n40), (.slice x41 l42 c43)]) : Value) = (.agg #[(.int .i64 n10), (.int .i64 n11), (.int .i64 n12), (.slice x13 l14 c15)])) <|
 WR (Addr.add ⟨B35, 0, none⟩ 0) (.pointer (some ⟨B34, 0, none⟩)) <|
 J_soil_look_0 W R B7 B8 B9 (some ⟨B35, 0, none⟩),
 NEWZ Pg 60 fun B52 =>
 ANDS (RDI .i64 (Addr.add ⟨B7, 0, none⟩ 0) fun n53 =>
 fun _ => ((.int .i64 n53) : Value) = (.int .i64 n17)) <|
 ANDS (RDI .i64 (Addr.add ⟨B7, 0, none⟩ 0) fun n54 =>
 fun _ => ((.int .i64 n54) : Value) = (.int .i64 n16)) <|
 ANDS (RDI .i64 (Addr.add ⟨B7, 0, none⟩ 0) fun n55 =>
 RDI .i64 (Addr.add ⟨B7, 0, none⟩ 1) fun n56 =>
 RDI .i64 (Addr.add ⟨B7, 0, none⟩ 2) fun n57 =>
 RDL (Addr.add ⟨B7, 0, none⟩ 3) fun x58 l59 c60 =>
 fun _ => ((.agg #[(.int .i64 n55), (.int .i64 n56), (.int .i64 n57), (.slice x58 l59 c60)]) : Value) = (.agg #[(.int .i64 n10), (.int .i64 n11), (.int .i64 n12), (.slice x13 l14 c15)])) <|
 NEW 59 [(.int .i64 n10), (.int .i64 n11), (.int .i64 n12), (.slice x13 l14 c15), (.slice (some ⟨B18, 0, none⟩) (Int.toNat (IntKind.wrap .i64 (n16 + 1))) (Int.toNat (IntKind.wrap .i64 (n16 + 1)))), (.slice (some ⟨B26, 0, none⟩) (Int.toNat (IntKind.wrap .i64 (n17 + 1))) (Int.toNat (IntKind.wrap .i64 (n17 + 1))))] fun B61 =>
 WR (Addr.add ⟨B52, 0, none⟩ 0) (.pointer (some ⟨B61, 0, none⟩)) <|
 J_soil_look_0 W R B7 B8 B9 (some ⟨B52, 0, none⟩)],
 NEWZ Pg 60 fun B62 =>
 ANDS (RDI .i64 (Addr.add ⟨B7, 0, none⟩ 0) fun n63 =>
 fun _ => ((.int .i64 n63) : Value) = (.int .i64 n17)) <|
 ANDS (RDI .i64 (Addr.add ⟨B7, 0, none⟩ 0) fun n64 =>
 fun _ => ((.int .i64 n64) : Value) = (.int .i64 n16)) <|
 ANDS (RDI .i64 (Addr.add ⟨B7, 0, none⟩ 0) fun n65 =>
 RDI .i64 (Addr.add ⟨B7, 0, none⟩ 1) fun n66 =>
 RDI .i64 (Addr.add ⟨B7, 0, none⟩ 2) fun n67 =>
 RDL (Addr.add ⟨B7, 0, none⟩ 3) fun x68 l69 c70 =>
 fun _ => ((.agg #[(.int .i64 n65), (.int .i64 n66), (.int .i64 n67), (.slice x68 l69 c70)]) : Value) = (.agg #[(.int .i64 n10), (.int .i64 n11), (.int .i64 n12), (.slice x13 l14 c15)])) <|
 MKS Pg 104 (IntKind.wrap .i64 (n17 + 1)) (IntKind.wrap .i64 (n17 + 1)) fun B71 =>
 ANDS (RDI .i64 (Addr.add ⟨B7, 0, none⟩ 0) fun n72 =>
 fun _ => ((.int .i64 n72) : Value) = (.int .i64 n16)) <|
 ANDS (RDI .i64 (Addr.add ⟨B7, 0, none⟩ 0) fun n73 =>
 RDI .i64 (Addr.add ⟨B7, 0, none⟩ 1) fun n74 =>
 RDI .i64 (Addr.add ⟨B7, 0, none⟩ 2) fun n75 =>
 RDL (Addr.add ⟨B7, 0, none⟩ 3) fun x76 l77 c78 =>
 fun _ => ((.agg #[(.int .i64 n73), (.int .i64 n74), (.int .i64 n75), (.slice x76 l77 c78)]) : Value) = (.agg #[(.int .i64 n10), (.int .i64 n11), (.int .i64 n12), (.slice x13 l14 c15)])) <|
 NEW 59 [(.int .i64 n10), (.int .i64 n11), (.int .i64 n12), (.slice x13 l14 c15), (.slice (some ⟨B18, 0, none⟩) (Int.toNat (IntKind.wrap .i64 (n16 + 1))) (Int.toNat (IntKind.wrap .i64 (n16 + 1)))), (.slice (some ⟨B71, 0, none⟩) (Int.toNat (IntKind.wrap .i64 (n17 + 1))) (Int.toNat (IntKind.wrap .i64 (n17 + 1))))] fun B79 =>
 WR (Addr.add ⟨B62, 0, none⟩ 0) (.pointer (some ⟨B79, 0, none⟩)) <|
 J_soil_look_0 W R B7 B8 B9 (some ⟨B62, 0, none⟩)],
 MKS Pg 104 (IntKind.wrap .i64 (n17 + 1)) (IntKind.wrap .i64 (n17 + 1)) fun B80 =>
 ANDS (RDI .i64 (Addr.add ⟨B7, 0, none⟩ 0) fun n81 =>
 fun _ => ((.int .i64 n81) : Value) = (.int .i64 n16)) <|
 ANDS (RDI .i64 (Addr.add ⟨B7, 0, none⟩ 0) fun n82 =>
 RDI .i64 (Addr.add ⟨B7, 0, none⟩ 1) fun n83 =>
 RDI .i64 (Addr.add ⟨B7, 0, none⟩ 2) fun n84 =>
 RDL (Addr.add ⟨B7, 0, none⟩ 3) fun x85 l86 c87 =>
 fun _ => ((.agg #[(.int .i64 n82), (.int .i64 n83), (.int .i64 n84), (.slice x85 l86 c87)]) : Value) = (.agg #[(.int .i64 n10), (.int .i64 n11), (.int .i64 n12), (.slice x13 l14 c15)])) <|
 CONJ [
 MKS Pg 27 (IntKind.wrap .i64 (n16 + 1)) (IntKind.wrap .i64 (n16 + 1)) fun B88 =>
 ANDS (RDI .i64 (Addr.add ⟨B7, 0, none⟩ 0) fun n89 =>
 fun _ => ((.int .i64 n89) : Value) = (.int .i64 n17)) <|
 ANDS (RDI .i64 (Addr.add ⟨B7, 0, none⟩ 0) fun n90 =>
 RDI .i64 (Addr.add ⟨B7, 0, none⟩ 1) fun n91 =>
 RDI .i64 (Addr.add ⟨B7, 0, none⟩ 2) fun n92 =>
 RDL (Addr.add ⟨B7, 0, none⟩ 3) fun x93 l94 c95 =>
 fun _ => ((.agg #[(.int .i64 n90), (.int .i64 n91), (.int .i64 n92), (.slice x93 l94 c95)]) : Value) = (.agg #[(.int .i64 n10), (.int .i64 n11), (.int .i64 n12), (.slice x13 l14 c15)])) <|
 CONJ [
 NEW 59 [(.int .i64 n10), (.int .i64 n11), (.int .i64 n12), (.slice x13 l14 c15), (.slice (some ⟨B88, 0, none⟩) (Int.toNat (IntKind.wrap .i64 (n16 + 1))) (Int.toNat (IntKind.wrap .i64 (n16 + 1)))), (.slice (some ⟨B80, 0, none⟩) (Int.toNat (IntKind.wrap .i64 (n17 + 1))) (Int.toNat (IntKind.wrap .i64 (n17 + 1))))] fun B96 =>
 NEWZ Pg 60 fun B97 =>
 ANDS (RDI .i64 (Addr.add ⟨B7, 0, none⟩ 0) fun n98 =>
 fun _ => ((.int .i64 n98) : Value) = (.int .i64 n17)) <|
 ANDS (RDI .i64 (Addr.add ⟨B7, 0, none⟩ 0) fun n99 =>
 fun _ => ((.int .i64 n99) : Value) = (.int .i64 n16)) <|
 ANDS (RDI .i64 (Addr.add ⟨B7, 0, none⟩ 0) fun n100 =>
 RDI .i64 (Addr.add ⟨B7, 0, none⟩ 1) fun n101 =>
 RDI .i64 (Addr.add ⟨B7, 0, none⟩ 2) fun n102 =>
 RDL (Addr.add ⟨B7, 0, none⟩ 3) fun x103 l104 c105 =>
 fun _ => ((.agg #[(.int .i64 n100), (.int .i64 n101), (.int .i64 n102), (.slice x103 l104 c105)]) : Value) = (.agg #[(.int .i64 n10), (.int .i64 n11), (.int .i64 n12), (.slice x13 l14 c15)])) <|
 WR (Addr.add ⟨B97, 0, none⟩ 0) (.pointer (some ⟨B96, 0, none⟩)) <|
 J_soil_look_0 W R B7 B8 B9 (some ⟨B97, 0, none⟩),
 NEWZ Pg 60 fun B106 =>
 ANDS (RDI .i64 (Addr.add ⟨B7, 0, none⟩ 0) fun n107 =>
 fun _ => ((.int .i64 n107) : Value) = (.int .i64 n17)) <|
 ANDS (RDI .i64 (Addr.add ⟨B7, 0, none⟩ 0) fun n108 =>
 fun _ => ((.int .i64 n108) : Value) = (.int .i64 n16)) <|
 ANDS (RDI .i64 (Addr.add ⟨B7, 0, none⟩ 0) fun n109 =>
 RDI .i64 (Addr.add ⟨B7, 0, none⟩ 1) fun n110 =>
 RDI .i64 (Addr.add ⟨B7, 0, none⟩ 2) fun n111 =>
 RDL (Addr.add ⟨B7, 0, none⟩ 3) fun x112 l113 c114 =>
 fun _ => ((.agg #[(.int .i64 n109), (.int .i64 n110), (.int .i64 n111), (.slice x112 l113 c114)]) : Value) = (.agg #[(.int .i64 n10), (.int .i64 n11), (.int .i64 n12), (.slice x13 l14 c15)])) <|
 NEW 59 [(.int .i64 n10), (.int .i64 n11), (.int .i64 n12), (.slice x13 l14 c15), (.slice (some ⟨B88, 0, none⟩) (Int.toNat (IntKind.wrap .i64 (n16 + 1))) (Int.toNat (IntKind.wrap .i64 (n16 + 1)))), (.slice (some ⟨B80, 0, none⟩) (Int.toNat (IntKind.wrap .i64 (n17 + 1))) (Int.toNat (IntKind.wrap .i64 (n17 + 1))))] fun B115 =>
 WR (Addr.add ⟨B106, 0, none⟩ 0) (.pointer (some ⟨B115, 0, none⟩)) <|
 J_soil_look_0 W R B7 B8 B9 (some ⟨B106, 0, none⟩)],
 NEWZ Pg 60 fun B116 =>
 ANDS (RDI .i64 (Addr.add ⟨B7, 0, none⟩ 0) fun n117 =>
 fun _ => ((.int .i64 n117) : Value) = (.int .i64 n17)) <|
 ANDS (RDI .i64 (Addr.add ⟨B7, 0, none⟩ 0) fun n118 =>
 fun _ => ((.int .i64 n118) : Value) = (.int .i64 n16)) <|
 ANDS (RDI .i64 (Addr.add ⟨B7, 0, none⟩ 0) fun n119 =>
 RDI .i64 (Addr.add ⟨B7, 0, none⟩ 1) fun n120 =>
 RDI .i64 (Addr.add ⟨B7, 0, none⟩ 2) fun n121 =>
 RDL (Addr.add ⟨B7, 0, none⟩ 3) fun x122 l123 c124 =>
 fun _ => ((.agg #[(.int .i64 n119), (.int .i64 n120), (.int .i64 n121), (.slice x122 l123 c124)]) : Value) = (.agg #[(.int .i64 n10), (.int .i64 n11), (.int .i64 n12), (.slice x13 l14 c15)])) <|
 MKS Pg 27 (IntKind.wrap .i64 (n16 + 1)) (IntKind.wrap .i64 (n16 + 1)) fun B125 =>
 ANDS (RDI .i64 (Addr.add ⟨B7, 0, none⟩ 0) fun n126 =>
 fun _ => ((.int .i64 n126) : Value) = (.int .i64 n17)) <|
 ANDS (RDI .i64 (Addr.add ⟨B7, 0, none⟩ 0) fun n127 =>
 RDI .i64 (Addr.add ⟨B7, 0, none⟩ 1) fun n128 =>
 RDI .i64 (Addr.add ⟨B7, 0, none⟩ 2) fun n129 =>
 RDL (Addr.add ⟨B7, 0, none⟩ 3) fun x130 l131 c132 =>
 fun _ => ((.agg #[(.int .i64 n127), (.int .i64 n128), (.int .i64 n129), (.slice x130 l131 c132)]) : Value) = (.agg #[(.int .i64 n10), (.int .i64 n11), (.int .i64 n12), (.slice x13 l14 c15)])) <|
 NEW 59 [(.int .i64 n10), (.int .i64 n11), (.int .i64 n12), (.slice x13 l14 c15), (.slice (some ⟨B125, 0, none⟩) (Int.toNat (IntKind.wrap .i64 (n16 + 1))) (Int.toNat (IntKind.wrap .i64 (n16 + 1)))), (.slice (some ⟨B80, 0, none⟩) (Int.toNat (IntKind.wrap .i64 (n17 + 1))) (Int.toNat (IntKind.wrap .i64 (n17 + 1))))] fun B133 =>
 WR (Addr.add ⟨B116, 0, none⟩ 0) (.pointer (some ⟨B133, 0, none⟩)) <|
 J_soil_look_0 W R B7 B8 B9 (some ⟨B116, 0, none⟩)],
 NEWZ Pg 60 fun B134 =>
 ANDS (RDI .i64 (Addr.add ⟨B7, 0, none⟩ 0) fun n135 =>
 fun _ => ((.int .i64 n135) : Value) = (.int .i64 n17)) <|
 ANDS (RDI .i64 (Addr.add ⟨B7, 0, none⟩ 0) fun n136 =>
 fun _ => ((.int .i64 n136) : Value) = (.int .i64 n16)) <|
 ANDS (RDI .i64 (Addr.add ⟨B7, 0, none⟩ 0) fun n137 =>
 RDI .i64 (Addr.add ⟨B7, 0, none⟩ 1) fun n138 =>
 RDI .i64 (Addr.add ⟨B7, 0, none⟩ 2) fun n139 =>
 RDL (Addr.add ⟨B7, 0, none⟩ 3) fun x140 l141 c142 =>
 fun _ => ((.agg #[(.int .i64 n137), (.int .i64 n138), (.int .i64 n139), (.slice x140 l141 c142)]) : Value) = (.agg #[(.int .i64 n10), (.int .i64 n11), (.int .i64 n12), (.slice x13 l14 c15)])) <|
 CONJ [
 MKS Pg 27 (IntKind.wrap .i64 (n16 + 1)) (IntKind.wrap .i64 (n16 + 1)) fun B143 =>
 ANDS (RDI .i64 (Addr.add ⟨B7, 0, none⟩ 0) fun n144 =>
 fun _ => ((.int .i64 n144) : Value) = (.int .i64 n17)) <|
 ANDS (RDI .i64 (Addr.add ⟨B7, 0, none⟩ 0) fun n145 =>
 RDI .i64 (Addr.add ⟨B7, 0, none⟩ 1) fun n146 =>
 RDI .i64 (Addr.add ⟨B7, 0, none⟩ 2) fun n147 =>
 RDL (Addr.add ⟨B7, 0, none⟩ 3) fun x148 l149 c150 =>
 fun _ => ((.agg #[(.int .i64 n145), (.int .i64 n146), (.int .i64 n147), (.slice x148 l149 c150)]) : Value) = (.agg #[(.int .i64 n10), (.int .i64 n11), (.int .i64 n12), (.slice x13 l14 c15)])) <|
 MKS Pg 104 (IntKind.wrap .i64 (n17 + 1)) (IntKind.wrap .i64 (n17 + 1)) fun B151 =>
 ANDS (RDI .i64 (Addr.add ⟨B7, 0, none⟩ 0) fun n152 =>
 fun _ => ((.int .i64 n152) : Value) = (.int .i64 n16)) <|
 ANDS (RDI .i64 (Addr.add ⟨B7, 0, none⟩ 0) fun n153 =>
 RDI .i64 (Addr.add ⟨B7, 0, none⟩ 1) fun n154 =>
 RDI .i64 (Addr.add ⟨B7, 0, none⟩ 2) fun n155 =>
 RDL (Addr.add ⟨B7, 0, none⟩ 3) fun x156 l157 c158 =>
 fun _ => ((.agg #[(.int .i64 n153), (.int .i64 n154), (.int .i64 n155), (.slice x156 l157 c158)]) : Value) = (.agg #[(.int .i64 n10), (.int .i64 n11), (.int .i64 n12), (.slice x13 l14 c15)])) <|
 NEW 59 [(.int .i64 n10), (.int .i64 n11), (.int .i64 n12), (.slice x13 l14 c15), (.slice (some ⟨B143, 0, none⟩) (Int.toNat (IntKind.wrap .i64 (n16 + 1))) (Int.toNat (IntKind.wrap .i64 (n16 + 1)))), (.slice (some ⟨B151, 0, none⟩) (Int.toNat (IntKind.wrap .i64 (n17 + 1))) (Int.toNat (IntKind.wrap .i64 (n17 + 1))))] fun B159 =>
 WR (Addr.add ⟨B134, 0, none⟩ 0) (.pointer (some ⟨B159, 0, none⟩)) <|
 J_soil_look_0 W R B7 B8 B9 (some ⟨B134, 0, none⟩),
 MKS Pg 104 (IntKind.wrap .i64 (n17 + 1)) (IntKind.wrap .i64 (n17 + 1)) fun B160 =>
 ANDS (RDI .i64 (Addr.add ⟨B7, 0, none⟩ 0) fun n161 =>
 fun _ => ((.int .i64 n161) : Value) = (.int .i64 n16)) <|
 ANDS (RDI .i64 (Addr.add ⟨B7, 0, none⟩ 0) fun n162 =>
 RDI .i64 (Addr.add ⟨B7, 0, none⟩ 1) fun n163 =>
 RDI .i64 (Addr.add ⟨B7, 0, none⟩ 2) fun n164 =>
 RDL (Addr.add ⟨B7, 0, none⟩ 3) fun x165 l166 c167 =>
 fun _ => ((.agg #[(.int .i64 n162), (.int .i64 n163), (.int .i64 n164), (.slice x165 l166 c167)]) : Value) = (.agg #[(.int .i64 n10), (.int .i64 n11), (.int .i64 n12), (.slice x13 l14 c15)])) <|
 MKS Pg 27 (IntKind.wrap .i64 (n16 + 1)) (IntKind.wrap .i64 (n16 + 1)) fun B168 =>
 ANDS (RDI .i64 (Addr.add ⟨B7, 0, none⟩ 0) fun n169 =>
 fun _ => ((.int .i64 n169) : Value) = (.int .i64 n17)) <|
 ANDS (RDI .i64 (Addr.add ⟨B7, 0, none⟩ 0) fun n170 =>
 RDI .i64 (Addr.add ⟨B7, 0, none⟩ 1) fun n171 =>
 RDI .i64 (Addr.add ⟨B7, 0, none⟩ 2) fun n172 =>
 RDL (Addr.add ⟨B7, 0, none⟩ 3) fun x173 l174 c175 =>
 fun _ => ((.agg #[(.int .i64 n170), (.int .i64 n171), (.int .i64 n172), (.slice x173 l174 c175)]) : Value) = (.agg #[(.int .i64 n10), (.int .i64 n11), (.int .i64 n12), (.slice x13 l14 c15)])) <|
 NEW 59 [(.int .i64 n10), (.int .i64 n11), (.int .i64 n12), (.slice x13 l14 c15), (.slice (some ⟨B168, 0, none⟩) (Int.toNat (IntKind.wrap .i64 (n16 + 1))) (Int.toNat (IntKind.wrap .i64 (n16 + 1)))), (.slice (some ⟨B160, 0, none⟩) (Int.toNat (IntKind.wrap .i64 (n17 + 1))) (Int.toNat (IntKind.wrap .i64 (n17 + 1))))] fun B176 =>
 WR (Addr.add ⟨B134, 0, none⟩ 0) (.pointer (some ⟨B176, 0, none⟩)) <|
 J_soil_look_0 W R B7 B8 B9 (some ⟨B134, 0, none⟩)]]
theorem does_soil_look (W : World) (n1 n2 n3 : Int) (x4 : Option Addr) (l5 c6 : Nat) (R : Ending → Hp → Prop) (s : Hp) (h : T_soil_look W n1 n2 n3 x4 l5 c6 R s) : Does Pg W F_soil_look #[(.agg #[(.int .i64 n1), (.int .i64 n2), (.int .i64 n3), (.slice x4 l5 c6)])] s R :=
  does_of_vfun Pg W an_40 Tryz.func40 rfl (by kernel_rfl) (Eq.mpr (by kernel_rfl) h)
def an_41 : Nat → Ann := fun b => match b with
 | _ => {}
def T_soil_isPlace_c1 (W : World) (n1 : Int) (a2 : Addr) (R : Ending → Hp → Prop) : Hp → Prop :=
 RDI .i64 (Addr.add a2 0) fun n3 =>
 CALL Pg W F_soil_within [(.int .i64 n1), (.int .i64 0), (.int .i64 n3)]
 (fun v4 => TYB v4 fun b6 =>
 R (.returned (.bool b6)))
 (fun e5 => R (.panicked e5))
theorem does_soil_isPlace_c1 (W : World) (n1 : Int) (a2 : Addr) (R : Ending → Hp → Prop) (s : Hp) (h : T_soil_isPlace_c1 W n1 a2 R s) : Does Pg W F_soil_isPlace_c1 #[(.int .i64 n1), (.pointer (some a2))] s R :=
  does_of_vfun Pg W an_41 Tryz.func41 rfl (by kernel_rfl) (Eq.mpr (by kernel_rfl) h)
def an_42 : Nat → Ann := fun b => match b with
 | _ => {}
def T_soil_within (W : World) (n1 n2 n3 : Int) (R : Ending → Hp → Prop) : Hp → Prop :=
 BR (decide (n2 ≤ n1))
 (R (.returned (.bool (decide (n1 ≤ n3)))))
 (R (.returned (.bool false)))
theorem does_soil_within (W : World) (n1 n2 n3 : Int) (R : Ending → Hp → Prop) (s : Hp) (h : T_soil_within W n1 n2 n3 R s) : Does Pg W F_soil_within #[(.int .i64 n1), (.int .i64 n2), (.int .i64 n3)] s R :=
  does_of_vfun Pg W an_42 Tryz.func42 rfl (by kernel_rfl) (Eq.mpr (by kernel_rfl) h)
def an_43 : Nat → Ann := fun b => match b with
 | _ => {}
def T_soil_kinds (W : World) (R : Ending → Hp → Prop) : Hp → Prop :=
 NEWZ Pg 108 fun B1 =>
 NEWZ Pg 167 fun B2 =>
 WR (Addr.add ⟨B2, 0, none⟩ 0) (.func (.func 73) #[] #[]) <|
 NEWZ Pg 167 fun B3 =>
 WR (Addr.add ⟨B3, 0, none⟩ 0) (.func (.func 74) #[] #[]) <|
 CALL Pg W F_soil_anything []
 (fun v4 => AGG v4 fun q6 => HD q6 fun v7 r8 => TYI .i64 v7 fun n9 =>
 HD r8 fun v10 r11 => TYI .i64 v10 fun n12 =>
 HD r11 fun v13 r14 => TYI .i64 v13 fun n15 =>
 HD r14 fun v16 r17 => TYI .i64 v16 fun n18 =>
 HD r17 fun v19 r20 => TYI .i64 v19 fun n21 =>
 HD r20 fun v22 r23 => TYI .i64 v22 fun n24 =>
 NL r23 <|
 NEWZ Pg 104 fun B25 =>
 WR (Addr.add ⟨B25, 0, none⟩ 0) (.int .i64 n9) <|
 WR (Addr.add ⟨B25, 0, none⟩ 1) (.int .i64 n12) <|
 WR (Addr.add ⟨B25, 0, none⟩ 2) (.int .i64 n15) <|
 WR (Addr.add ⟨B25, 0, none⟩ 3) (.int .i64 n18) <|
 WR (Addr.add ⟨B25, 0, none⟩ 4) (.int .i64 n21) <|
 WR (Addr.add ⟨B25, 0, none⟩ 5) (.int .i64 n24) <|
 CALLV Pg W (.func (.func 78) #[] #[(.pointer (some ⟨B2, 0, none⟩)), (.pointer (some ⟨B3, 0, none⟩))]) [(.int .i64 3), (.int .i64 8), (.func (.func 75) #[] #[(.pointer (some ⟨B25, 0, none⟩))])]
 (fun v26 => AGG v26 fun q28 => HD q28 fun v29 r30 => TYI .i64 v29 fun n31 =>
 HD r30 fun v32 r33 => HD r33 fun v34 r35 => NL r35 <|
 CALLV Pg W (.func (.func 78) #[] #[(.pointer (some ⟨B2, 0, none⟩)), (.pointer (some ⟨B3, 0, none⟩))]) [(.int .i64 1), (.int .i64 14), (.func (.func 76) #[] #[(.pointer (some ⟨B25, 0, none⟩))])]
 (fun v36 => AGG v36 fun q38 => HD q38 fun v39 r40 => TYI .i64 v39 fun n41 =>
 HD r40 fun v42 r43 => HD r43 fun v44 r45 => NL r45 <|
 CALLV Pg W (.func (.func 78) #[] #[(.pointer (some ⟨B2, 0, none⟩)), (.pointer (some ⟨B3, 0, none⟩))]) [(.int .i64 2), (.int .i64 12), (.func (.func 77) #[] #[(.pointer (some ⟨B25, 0, none⟩))])]
 (fun v46 => AGG v46 fun q48 => HD q48 fun v49 r50 => TYI .i64 v49 fun n51 =>
 HD r50 fun v52 r53 => HD r53 fun v54 r55 => NL r55 <|
 WR (Addr.add ⟨B1, 0, none⟩ 0) (.int .i64 n31) <|
 WR (Addr.add ⟨B1, 0, none⟩ 1) v32 <|
 WR (Addr.add ⟨B1, 0, none⟩ 2) v34 <|
 WR (Addr.add ⟨B1, 0, none⟩ 3) (.int .i64 n41) <|
 WR (Addr.add ⟨B1, 0, none⟩ 4) v42 <|
 WR (Addr.add ⟨B1, 0, none⟩ 5) v44 <|
 WR (Addr.add ⟨B1, 0, none⟩ 6) (.int .i64 n51) <|
 WR (Addr.add ⟨B1, 0, none⟩ 7) v52 <|
 WR (Addr.add ⟨B1, 0, none⟩ 8) v54 <|
 RDI .i64 (Addr.add ⟨B1, 0, none⟩ 0) fun n56 =>
 RDV (Addr.add ⟨B1, 0, none⟩ 1) fun v57 =>
 RDV (Addr.add ⟨B1, 0, none⟩ 2) fun v58 =>
 RDI .i64 (Addr.add ⟨B1, 0, none⟩ 3) fun n59 =>
 RDV (Addr.add ⟨B1, 0, none⟩ 4) fun v60 =>
 RDV (Addr.add ⟨B1, 0, none⟩ 5) fun v61 =>
 RDI .i64 (Addr.add ⟨B1, 0, none⟩ 6) fun n62 =>
 RDV (Addr.add ⟨B1, 0, none⟩ 7) fun v63 =>
 RDV (Addr.add ⟨B1, 0, none⟩ 8) fun v64 =>
 R (.returned (.agg #[(.int .i64 n56), v57, v58, (.int .i64 n59), v60, v61, (.int .i64 n62), v63, v64])))
 (fun e47 => R (.panicked e47)))
 (fun e37 => R (.panicked e37)))
 (fun e27 => R (.panicked e27)))
 (fun e5 => R (.panicked e5))
theorem does_soil_kinds (W : World) (R : Ending → Hp → Prop) (s : Hp) (h : T_soil_kinds W R s) : Does Pg W F_soil_kinds #[] s R :=
  does_of_vfun Pg W an_43 Tryz.func43 rfl (by kernel_rfl) (Eq.mpr (by kernel_rfl) h)
def an_44 : Nat → Ann := fun b => match b with
 | _ => {}
def T_soil_mix_isNone (W : World) (n1 n2 n3 n4 n5 n6 : Int) (R : Ending → Hp → Prop) : Hp → Prop :=
 NEW 104 [(.int .i64 n1), (.int .i64 n2), (.int .i64 n3), (.int .i64 n4), (.int .i64 n5), (.int .i64 n6)] fun B7 =>
 RDI .i64 (Addr.add (Addr.add ⟨B7, 0, none⟩ 0) 0) fun n8 =>
 RDI .i64 (Addr.add (Addr.add ⟨B7, 0, none⟩ 0) 1) fun n9 =>
 BR (decide (n8 > n9))
 (R (.returned (.bool true)))
 (RDI .i64 (Addr.add (Addr.add ⟨B7, 0, none⟩ 2) 0) fun n10 =>
 RDI .i64 (Addr.add (Addr.add ⟨B7, 0, none⟩ 2) 1) fun n11 =>
 BR (decide (n10 > n11))
 (R (.returned (.bool true)))
 (RDI .i64 (Addr.add (Addr.add ⟨B7, 0, none⟩ 4) 0) fun n12 =>
 RDI .i64 (Addr.add (Addr.add ⟨B7, 0, none⟩ 4) 1) fun n13 =>
 R (.returned (.bool (decide (n12 > n13))))))
theorem does_soil_mix_isNone (W : World) (n1 n2 n3 n4 n5 n6 : Int) (R : Ending → Hp → Prop) (s : Hp) (h : T_soil_mix_isNone W n1 n2 n3 n4 n5 n6 R s) : Does Pg W F_soil_mix_isNone #[(.agg #[(.int .i64 n1), (.int .i64 n2), (.int .i64 n3), (.int .i64 n4), (.int .i64 n5), (.int .i64 n6)])] s R :=
  does_of_vfun Pg W an_44 Tryz.func44 rfl (by kernel_rfl) (Eq.mpr (by kernel_rfl) h)
def an_67 : Nat → Ann := fun b => match b with
 | _ => {}
def T_soil_isSpan (W : World) (n1 n2 n3 : Int) (R : Ending → Hp → Prop) : Hp → Prop :=
 NEW 27 [(.int .i64 n1), (.int .i64 n2)] fun B4 =>
 RDI .i64 (Addr.add ⟨B4, 0, none⟩ 0) fun n5 =>
 BR (decide ((0 : Int) ≤ n5))
 (RDI .i64 (Addr.add ⟨B4, 0, none⟩ 0) fun n6 =>
 RDI .i64 (Addr.add ⟨B4, 0, none⟩ 1) fun n7 =>
 BR (decide (n6 ≤ n7))
 (RDI .i64 (Addr.add ⟨B4, 0, none⟩ 1) fun n8 =>
 R (.returned (.bool (decide (n8 ≤ n3)))))
 (R (.returned (.bool false))))
 (R (.returned (.bool false)))
theorem does_soil_isSpan (W : World) (n1 n2 n3 : Int) (R : Ending → Hp → Prop) (s : Hp) (h : T_soil_isSpan W n1 n2 n3 R s) : Does Pg W F_soil_isSpan #[(.agg #[(.int .i64 n1), (.int .i64 n2)]), (.int .i64 n3)] s R :=
  does_of_vfun Pg W an_67 Tryz.func67 rfl (by kernel_rfl) (Eq.mpr (by kernel_rfl) h)
def an_68 : Nat → Ann := fun b => match b with
 | _ => {}
def T_soil_ground_places (W : World) (p1 : Option Addr) (b2 : Bool) (R : Ending → Hp → Prop) : Hp → Prop :=
 NEW 60 [(.pointer p1)] fun B3 =>
 NEW 4 [(.bool b2)] fun B4 =>
 R (.returned (.func (.func 92) #[] #[(.pointer (some ⟨B3, 0, none⟩)), (.pointer (some ⟨B4, 0, none⟩))]))
theorem does_soil_ground_places (W : World) (p1 : Option Addr) (b2 : Bool) (R : Ending → Hp → Prop) (s : Hp) (h : T_soil_ground_places W p1 b2 R s) : Does Pg W F_soil_ground_places #[(.pointer p1), (.bool b2)] s R :=
  does_of_vfun Pg W an_68 Tryz.func68 rfl (by kernel_rfl) (Eq.mpr (by kernel_rfl) h)
def an_69 : Nat → Ann := fun b => match b with
 | _ => {}
def T_soil_both (W : World) (n1 n2 n3 n4 : Int) (R : Ending → Hp → Prop) : Hp → Prop :=
 NEW 27 [(.int .i64 n1), (.int .i64 n2)] fun B5 =>
 NEW 27 [(.int .i64 n3), (.int .i64 n4)] fun B6 =>
 NEWZ Pg 27 fun B7 =>
 RDI .i64 (Addr.add ⟨B5, 0, none⟩ 0) fun n8 =>
 RDI .i64 (Addr.add ⟨B6, 0, none⟩ 0) fun n9 =>
 RDI .i64 (Addr.add ⟨B5, 0, none⟩ 1) fun n10 =>
 RDI .i64 (Addr.add ⟨B6, 0, none⟩ 1) fun n11 =>
 CONJ [
 NEW 3 [(.int .i64 n9)] fun B12 =>
 ANDS (RDI .i64 (Addr.add ⟨B6, 0, none⟩ 1) fun n13 =>
 fun _ => ((.int .i64 n13) : Value) = (.int .i64 n11)) <|
 ANDS (RDI .i64 (Addr.add ⟨B5, 0, none⟩ 1) fun n14 =>
 fun _ => ((.int .i64 n14) : Value) = (.int .i64 n10)) <|
 ANDS (RDI .i64 (Addr.add ⟨B5, 0, none⟩ 0) fun n15 =>
 fun _ => ((.int .i64 n15) : Value) = (.int .i64 n8)) <|
 CONJ [
 CALL Pg W F_soil_most_int [(.int .i64 n8), (.slice (some ⟨B12, 0, none⟩) 1 1)]
 (fun v16 => TYI .i64 v16 fun n18 =>
 ANDS (RDI .i64 (Addr.add ⟨B6, 0, none⟩ 1) fun n19 =>
 fun _ => ((.int .i64 n19) : Value) = (.int .i64 n11)) <|
 ANDS (RDI .i64 (Addr.add ⟨B5, 0, none⟩ 1) fun n20 =>
 fun _ => ((.int .i64 n20) : Value) = (.int .i64 n10)) <|
 NEW 3 [(.int .i64 n11)] fun B21 =>
 ANDS (RDI .i64 (Addr.add ⟨B5, 0, none⟩ 1) fun n22 =>
 fun _ => ((.int .i64 n22) : Value) = (.int .i64 n10)) <|
 ANDS (RDI .i64 (Addr.add ⟨B6, 0, none⟩ 0) fun n23 =>
 fun _ => ((.int .i64 n23) : Value) = (.int .i64 n9)) <|
 ANDS (RDI .i64 (Addr.add ⟨B5, 0, none⟩ 0) fun n24 =>
 fun _ => ((.int .i64 n24) : Value) = (.int .i64 n8)) <|
 CALL Pg W F_soil_least_int [(.int .i64 n10), (.slice (some ⟨B21, 0, none⟩) 1 1)]
 (fun v25 => TYI .i64 v25 fun n27 =>
 WR (Addr.add ⟨B7, 0, none⟩ 0) (.int .i64 n18) <|
 WR (Addr.add ⟨B7, 0, none⟩ 1) (.int .i64 n27) <|
 RDI .i64 (Addr.add ⟨B7, 0, none⟩ 0) fun n28 =>
 RDI .i64 (Addr.add ⟨B7, 0, none⟩ 1) fun n29 =>
 R (.returned (.agg #[(.int .i64 n28), (.int .i64 n29)])))
 (fun e26 => R (.panicked e26)))
 (fun e17 => R (.panicked e17)),
 NEW 3 [(.int .i64 n11)] fun B30 =>
 ANDS (RDI .i64 (Addr.add ⟨B5, 0, none⟩ 1) fun n31 =>
 fun _ => ((.int .i64 n31) : Value) = (.int .i64 n10)) <|
 ANDS (RDI .i64 (Addr.add ⟨B6, 0, none⟩ 0) fun n32 =>
 fun _ => ((.int .i64 n32) : Value) = (.int .i64 n9)) <|
 ANDS (RDI .i64 (Addr.add ⟨B5, 0, none⟩ 0) fun n33 =>
 fun _ => ((.int .i64 n33) : Value) = (.int .i64 n8)) <|
 CALL Pg W F_soil_most_int [(.int .i64 n8), (.slice (some ⟨B12, 0, none⟩) 1 1)]
 (fun v34 => TYI .i64 v34 fun n36 =>
 ANDS (RDI .i64 (Addr.add ⟨B6, 0, none⟩ 1) fun n37 =>
 fun _ => ((.int .i64 n37) : Value) = (.int .i64 n11)) <|
 ANDS (RDI .i64 (Addr.add ⟨B5, 0, none⟩ 1) fun n38 =>
 fun _ => ((.int .i64 n38) : Value) = (.int .i64 n10)) <|
 CALL Pg W F_soil_least_int [(.int .i64 n10), (.slice (some ⟨B30, 0, none⟩) 1 1)]
 (fun v39 => TYI .i64 v39 fun n41 =>
 WR (Addr.add ⟨B7, 0, none⟩ 0) (.int .i64 n36) <|
 WR (Addr.add ⟨B7, 0, none⟩ 1) (.int .i64 n41) <|
 RDI .i64 (Addr.add ⟨B7, 0, none⟩ 0) fun n42 =>
 RDI .i64 (Addr.add ⟨B7, 0, none⟩ 1) fun n43 =>
 R (.returned (.agg #[(.int .i64 n42), (.int .i64 n43)])))
 (fun e40 => R (.panicked e40)))
 (fun e35 => R (.panicked e35))],
 NEW 3 [(.int .i64 n11)] fun B44 =>
 ANDS (RDI .i64 (Addr.add ⟨B5, 0, none⟩ 1) fun n45 =>
 fun _ => ((.int .i64 n45) : Value) = (.int .i64 n10)) <|
 ANDS (RDI .i64 (Addr.add ⟨B6, 0, none⟩ 0) fun n46 =>
 fun _ => ((.int .i64 n46) : Value) = (.int .i64 n9)) <|
 ANDS (RDI .i64 (Addr.add ⟨B5, 0, none⟩ 0) fun n47 =>
 fun _ => ((.int .i64 n47) : Value) = (.int .i64 n8)) <|
 NEW 3 [(.int .i64 n9)] fun B48 =>
 ANDS (RDI .i64 (Addr.add ⟨B6, 0, none⟩ 1) fun n49 =>
 fun _ => ((.int .i64 n49) : Value) = (.int .i64 n11)) <|
 ANDS (RDI .i64 (Addr.add ⟨B5, 0, none⟩ 1) fun n50 =>
 fun _ => ((.int .i64 n50) : Value) = (.int .i64 n10)) <|
 ANDS (RDI .i64 (Addr.add ⟨B5, 0, none⟩ 0) fun n51 =>
 fun _ => ((.int .i64 n51) : Value) = (.int .i64 n8)) <|
 CALL Pg W F_soil_most_int [(.int .i64 n8), (.slice (some ⟨B48, 0, none⟩) 1 1)]
 (fun v52 => TYI .i64 v52 fun n54 =>
 ANDS (RDI .i64 (Addr.add ⟨B6, 0, none⟩ 1) fun n55 =>
 fun _ => ((.int .i64 n55) : Value) = (.int .i64 n11)) <|
 ANDS (RDI .i64 (Addr.add ⟨B5, 0, none⟩ 1) fun n56 =>
 fun _ => ((.int .i64 n56) : Value) = (.int .i64 n10)) <|
 CALL Pg W F_soil_least_int [(.int .i64 n10), (.slice (some ⟨B44, 0, none⟩) 1 1)]
 (fun v57 => TYI .i64 v57 fun n59 =>
 WR (Addr.add ⟨B7, 0, none⟩ 0) (.int .i64 n54) <|
 WR (Addr.add ⟨B7, 0, none⟩ 1) (.int .i64 n59) <|
 RDI .i64 (Addr.add ⟨B7, 0, none⟩ 0) fun n60 =>
 RDI .i64 (Addr.add ⟨B7, 0, none⟩ 1) fun n61 =>
 R (.returned (.agg #[(.int .i64 n60), (.int .i64 n61)])))
 (fun e58 => R (.panicked e58)))
 (fun e53 => R (.panicked e53))]
theorem does_soil_both (W : World) (n1 n2 n3 n4 : Int) (R : Ending → Hp → Prop) (s : Hp) (h : T_soil_both W n1 n2 n3 n4 R s) : Does Pg W F_soil_both #[(.agg #[(.int .i64 n1), (.int .i64 n2)]), (.agg #[(.int .i64 n3), (.int .i64 n4)])] s R :=
  does_of_vfun Pg W an_69 Tryz.func69 rfl (by kernel_rfl) (Eq.mpr (by kernel_rfl) h)
def an_70 : Nat → Ann := fun b => match b with
 | _ => {}
def T_soil_anything (W : World) (R : Ending → Hp → Prop) : Hp → Prop :=
 NEWZ Pg 104 fun B1 =>
 NEWZ Pg 27 fun B2 =>
 WR (Addr.add ⟨B2, 0, none⟩ 0) (.int .i64 0) <|
 WR (Addr.add ⟨B2, 0, none⟩ 1) (.int .i64 20) <|
 RDI .i64 (Addr.add ⟨B2, 0, none⟩ 0) fun n3 =>
 RDI .i64 (Addr.add ⟨B2, 0, none⟩ 1) fun n4 =>
 RDI .i64 (Addr.add ⟨B2, 0, none⟩ 0) fun n5 =>
 RDI .i64 (Addr.add ⟨B2, 0, none⟩ 1) fun n6 =>
 RDI .i64 (Addr.add ⟨B2, 0, none⟩ 0) fun n7 =>
 RDI .i64 (Addr.add ⟨B2, 0, none⟩ 1) fun n8 =>
 WR (Addr.add ⟨B1, 0, none⟩ 0) (.int .i64 n3) <|
 WR (Addr.add ⟨B1, 0, none⟩ 1) (.int .i64 n4) <|
 WR (Addr.add ⟨B1, 0, none⟩ 2) (.int .i64 n5) <|
 WR (Addr.add ⟨B1, 0, none⟩ 3) (.int .i64 n6) <|
 WR (Addr.add ⟨B1, 0, none⟩ 4) (.int .i64 n7) <|
 WR (Addr.add ⟨B1, 0, none⟩ 5) (.int .i64 n8) <|
 RDI .i64 (Addr.add ⟨B1, 0, none⟩ 0) fun n9 =>
 RDI .i64 (Addr.add ⟨B1, 0, none⟩ 1) fun n10 =>
 RDI .i64 (Addr.add ⟨B1, 0, none⟩ 2) fun n11 =>
 RDI .i64 (Addr.add ⟨B1, 0, none⟩ 3) fun n12 =>
 RDI .i64 (Addr.add ⟨B1, 0, none⟩ 4) fun n13 =>
 RDI .i64 (Addr.add ⟨B1, 0, none⟩ 5) fun n14 =>
 R (.returned (.agg #[(.int .i64 n9), (.int .i64 n10), (.int .i64 n11), (.int .i64 n12), (.int .i64 n13), (.int .i64 n14)]))
theorem does_soil_anything (W : World) (R : Ending → Hp → Prop) (s : Hp) (h : T_soil_anything W R s) : Does Pg W F_soil_anything #[] s R :=
  does_of_vfun Pg W an_70 Tryz.func70 rfl (by kernel_rfl) (Eq.mpr (by kernel_rfl) h)
def an_71 : Nat → Ann := fun b => match b with
 | _ => {}
def J_soil_mix_and_0 (W : World) (R : Ending → Hp → Prop) (b94 : Bool) (p80 : Option Addr) (B15 : Nat) : Hp → Prop :=
 BR b94
 (SO p80 fun a95 =>
 RDI .i64 (Addr.add a95 0) fun n96 =>
 RDI .i64 (Addr.add a95 1) fun n97 =>
 RDI .i64 (Addr.add a95 2) fun n98 =>
 RDI .i64 (Addr.add a95 3) fun n99 =>
 RDI .i64 (Addr.add a95 4) fun n100 =>
 RDI .i64 (Addr.add a95 5) fun n101 =>
 WR (Addr.add ⟨B15, 0, none⟩ 0) (.int .i64 n96) <|
 WR (Addr.add ⟨B15, 0, none⟩ 1) (.int .i64 n97) <|
 WR (Addr.add ⟨B15, 0, none⟩ 2) (.int .i64 n98) <|
 WR (Addr.add ⟨B15, 0, none⟩ 3) (.int .i64 n99) <|
 WR (Addr.add ⟨B15, 0, none⟩ 4) (.int .i64 n100) <|
 WR (Addr.add ⟨B15, 0, none⟩ 5) (.int .i64 n101) <|
 RDI .i64 (Addr.add ⟨B15, 0, none⟩ 0) fun n102 =>
 RDI .i64 (Addr.add ⟨B15, 0, none⟩ 1) fun n103 =>
 RDI .i64 (Addr.add ⟨B15, 0, none⟩ 2) fun n104 =>
 RDI .i64 (Addr.add ⟨B15, 0, none⟩ 3) fun n105 =>
 RDI .i64 (Addr.add ⟨B15, 0, none⟩ 4) fun n106 =>
 RDI .i64 (Addr.add ⟨B15, 0, none⟩ 5) fun n107 =>
 R (.returned (.agg #[(.int .i64 n102), (.int .i64 n103), (.int .i64 n104), (.int .i64 n105), (.int .i64 n106), (.int .i64 n107)])))
 (SO p80 fun a108 =>
 RDI .i64 (Addr.add a108 0) fun n109 =>
 RDI .i64 (Addr.add a108 1) fun n110 =>
 RDI .i64 (Addr.add a108 2) fun n111 =>
 RDI .i64 (Addr.add a108 3) fun n112 =>
 RDI .i64 (Addr.add a108 4) fun n113 =>
 RDI .i64 (Addr.add a108 5) fun n114 =>
 CALL Pg W F_soil_mix_tight [(.agg #[(.int .i64 n109), (.int .i64 n110), (.int .i64 n111), (.int .i64 n112), (.int .i64 n113), (.int .i64 n114)])]
 (fun v115 => AGG v115 fun q117 => HD q117 fun v118 r119 => TYI .i64 v118 fun n120 =>
 HD r119 fun v121 r122 => TYI .i64 v121 fun n123 =>
 HD r122 fun v124 r125 => TYI .i64 v124 fun n126 =>
 HD r125 fun v127 r128 => TYI .i64 v127 fun n129 =>
 HD r128 fun v130 r131 => TYI .i64 v130 fun n132 =>
 HD r131 fun v133 r134 => TYI .i64 v133 fun n135 =>
 NL r134 <|
 WR (Addr.add ⟨B15, 0, none⟩ 0) (.int .i64 n120) <|
 WR (Addr.add ⟨B15, 0, none⟩ 1) (.int .i64 n123) <|
 WR (Addr.add ⟨B15, 0, none⟩ 2) (.int .i64 n126) <|
 WR (Addr.add ⟨B15, 0, none⟩ 3) (.int .i64 n129) <|
 WR (Addr.add ⟨B15, 0, none⟩ 4) (.int .i64 n132) <|
 WR (Addr.add ⟨B15, 0, none⟩ 5) (.int .i64 n135) <|
 RDI .i64 (Addr.add ⟨B15, 0, none⟩ 0) fun n136 =>
 RDI .i64 (Addr.add ⟨B15, 0, none⟩ 1) fun n137 =>
 RDI .i64 (Addr.add ⟨B15, 0, none⟩ 2) fun n138 =>
 RDI .i64 (Addr.add ⟨B15, 0, none⟩ 3) fun n139 =>
 RDI .i64 (Addr.add ⟨B15, 0, none⟩ 4) fun n140 =>
 RDI .i64 (Addr.add ⟨B15, 0, none⟩ 5) fun n141 =>
 R (.returned (.agg #[(.int .i64 n136), (.int .i64 n137), (.int .i64 n138), (.int .i64 n139), (.int .i64 n140), (.int .i64 n141)])))
 (fun e116 => R (.panicked e116)))
def J_soil_mix_and_1 (W : World) (R : Ending → Hp → Prop) (p80 : Option Addr) (B13 B15 : Nat) : Hp → Prop :=
 SO p80 fun a81 =>
 RDI .i64 (Addr.add a81 0) fun n82 =>
 RDI .i64 (Addr.add a81 1) fun n83 =>
 RDI .i64 (Addr.add a81 2) fun n84 =>
 RDI .i64 (Addr.add a81 3) fun n85 =>
 RDI .i64 (Addr.add a81 4) fun n86 =>
 RDI .i64 (Addr.add a81 5) fun n87 =>
 RDI .i64 (Addr.add ⟨B13, 0, none⟩ 0) fun n88 =>
 RDI .i64 (Addr.add ⟨B13, 0, none⟩ 1) fun n89 =>
 RDI .i64 (Addr.add ⟨B13, 0, none⟩ 2) fun n90 =>
 RDI .i64 (Addr.add ⟨B13, 0, none⟩ 3) fun n91 =>
 RDI .i64 (Addr.add ⟨B13, 0, none⟩ 4) fun n92 =>
 RDI .i64 (Addr.add ⟨B13, 0, none⟩ 5) fun n93 =>
 BR ((n82 == n88) && ((n83 == n89) && ((n84 == n90) && ((n85 == n91) && ((n86 == n92) && (n87 == n93))))))
 (J_soil_mix_and_0 W R true p80 B15)
 (SO p80 fun a142 =>
 RDI .i64 (Addr.add a142 0) fun n143 =>
 RDI .i64 (Addr.add a142 1) fun n144 =>
 RDI .i64 (Addr.add a142 2) fun n145 =>
 RDI .i64 (Addr.add a142 3) fun n146 =>
 RDI .i64 (Addr.add a142 4) fun n147 =>
 RDI .i64 (Addr.add a142 5) fun n148 =>
 CALL Pg W F_soil_mix_isNone [(.agg #[(.int .i64 n143), (.int .i64 n144), (.int .i64 n145), (.int .i64 n146), (.int .i64 n147), (.int .i64 n148)])]
 (fun v149 => TYB v149 fun b151 =>
 J_soil_mix_and_0 W R b151 p80 B15)
 (fun e150 => R (.panicked e150)))
def T_soil_mix_and (W : World) (n1 n2 n3 n4 n5 n6 n7 n8 n9 n10 n11 n12 : Int) (R : Ending → Hp → Prop) : Hp → Prop :=
 NEW 104 [(.int .i64 n1), (.int .i64 n2), (.int .i64 n3), (.int .i64 n4), (.int .i64 n5), (.int .i64 n6)] fun B13 =>
 NEW 104 [(.int .i64 n7), (.int .i64 n8), (.int .i64 n9), (.int .i64 n10), (.int .i64 n11), (.int .i64 n12)] fun B14 =>
 NEWZ Pg 104 fun B15 =>
 RDI .i64 (Addr.add (Addr.add ⟨B13, 0, none⟩ 0) 0) fun n16 =>
 RDI .i64 (Addr.add (Addr.add ⟨B13, 0, none⟩ 0) 1) fun n17 =>
 RDI .i64 (Addr.add (Addr.add ⟨B14, 0, none⟩ 0) 0) fun n18 =>
 RDI .i64 (Addr.add (Addr.add ⟨B14, 0, none⟩ 0) 1) fun n19 =>
 RDI .i64 (Addr.add (Addr.add ⟨B13, 0, none⟩ 2) 0) fun n20 =>
 RDI .i64 (Addr.add (Addr.add ⟨B13, 0, none⟩ 2) 1) fun n21 =>
 RDI .i64 (Addr.add (Addr.add ⟨B14, 0, none⟩ 2) 0) fun n22 =>
 RDI .i64 (Addr.add (Addr.add ⟨B14, 0, none⟩ 2) 1) fun n23 =>
 RDI .i64 (Addr.add (Addr.add ⟨B13, 0, none⟩ 4) 0) fun n24 =>
 RDI .i64 (Addr.add (Addr.add ⟨B13, 0, none⟩ 4) 1) fun n25 =>
 RDI .i64 (Addr.add (Addr.add ⟨B14, 0, none⟩ 4) 0) fun n26 =>
 RDI .i64 (Addr.add (Addr.add ⟨B14, 0, none⟩ 4) 1) fun n27 =>
 CONJ [
 CALL Pg W F_soil_both [(.agg #[(.int .i64 n16), (.int .i64 n17)]), (.agg #[(.int .i64 n18), (.int .i64 n19)])]
 (fun v28 => AGG v28 fun q30 => HD q30 fun v31 r32 => TYI .i64 v31 fun n33 =>
 HD r32 fun v34 r35 => TYI .i64 v34 fun n36 =>
 NL r35 <|
 ANDS (RDI .i64 (Addr.add (Addr.add ⟨B14, 0, none⟩ 4) 0) fun n37 =>
 RDI .i64 (Addr.add (Addr.add ⟨B14, 0, none⟩ 4) 1) fun n38 =>
 fun _ => ((.agg #[(.int .i64 n37), (.int .i64 n38)]) : Value) = (.agg #[(.int .i64 n26), (.int .i64 n27)])) <|
 ANDS (RDI .i64 (Addr.add (Addr.add ⟨B13, 0, none⟩ 4) 0) fun n39 =>
 RDI .i64 (Addr.add (Addr.add ⟨B13, 0, none⟩ 4) 1) fun n40 =>
 fun _ => ((.agg #[(.int .i64 n39), (.int .i64 n40)]) : Value) = (.agg #[(.int .i64 n24), (.int .i64 n25)])) <|
 ANDS (RDI .i64 (Addr.add (Addr.add ⟨B14, 0, none⟩ 2) 0) fun n41 =>
 RDI .i64 (Addr.add (Addr.add ⟨B14, 0, none⟩ 2) 1) fun n42 =>
 fun _ => ((.agg #[(.int .i64 n41), (.int .i64 n42)]) : Value) = (.agg #[(.int .i64 n22), (.int .i64 n23)])) <|
 ANDS (RDI .i64 (Addr.add (Addr.add ⟨B13, 0, none⟩ 2) 0) fun n43 =>
 RDI .i64 (Addr.add (Addr.add ⟨B13, 0, none⟩ 2) 1) fun n44 =>
 fun _ => ((.agg #[(.int .i64 n43), (.int .i64 n44)]) : Value) = (.agg #[(.int .i64 n20), (.int .i64 n21)])) <|
 CONJ [
 CALL Pg W F_soil_both [(.agg #[(.int .i64 n20), (.int .i64 n21)]), (.agg #[(.int .i64 n22), (.int .i64 n23)])]
 (fun v45 => AGG v45 fun q47 => HD q47 fun v48 r49 => TYI .i64 v48 fun n50 =>
 HD r49 fun v51 r52 => TYI .i64 v51 fun n53 =>
 NL r52 <|
 ANDS (RDI .i64 (Addr.add (Addr.add ⟨B14, 0, none⟩ 4) 0) fun n54 =>
 RDI .i64 (Addr.add (Addr.add ⟨B14, 0, none⟩ 4) 1) fun n55 =>
 fun _ => ((.agg #[(.int .i64 n54), (.int .i64 n55)]) : Value) = (.agg #[(.int .i64 n26), (.int .i64 n27)])) <|
 ANDS (RDI .i64 (Addr.add (Addr.add ⟨B13, 0, none⟩ 4) 0) fun n56 =>
 RDI .i64 (Addr.add (Addr.add ⟨B13, 0, none⟩ 4) 1) fun n57 =>
 fun _ => ((.agg #[(.int .i64 n56), (.int .i64 n57)]) : Value) = (.agg #[(.int .i64 n24), (.int .i64 n25)])) <|
 CONJ [
 CALL Pg W F_soil_both [(.agg #[(.int .i64 n24), (.int .i64 n25)]), (.agg #[(.int .i64 n26), (.int .i64 n27)])]
 (fun v58 => AGG v58 fun q60 => HD q60 fun v61 r62 => TYI .i64 v61 fun n63 =>
 HD r62 fun v64 r65 => TYI .i64 v64 fun n66 =>
 NL r65 <|
 NEWZ Pg 104 fun B67 =>
 ANDS (RDI .i64 (Addr.add (Addr.add ⟨B14, 0, none⟩ 4) 0) fun n68 =>
 RDI .i64 (Addr.add (Addr.add ⟨B14, 0, none⟩ 4) 1) fun n69 =>
 fun _ => ((.agg #[(.int .i64 n68), (.int .i64 n69)]) : Value) = (.agg #[(.int .i64 n26), (.int .i64 n27)])) <|
 ANDS (RDI .i64 (Addr.add (Addr.add ⟨B13, 0, none⟩ 4) 0) fun n70 =>
 RDI .i64 (Addr.add (Addr.add ⟨B13, 0, none⟩ 4) 1) fun n71 =>
 fun _ => ((.agg #[(.int .i64 n70), (.int .i64 n71)]) : Value) = (.agg #[(.int .i64 n24), (.int .i64 n25)])) <|
 ANDS (RDI .i64 (Addr.add (Addr.add ⟨B14, 0, none⟩ 2) 0) fun n72 =>
 RDI .i64 (Addr.add (Addr.add ⟨B14, 0, none⟩ 2) 1) fun n73 =>
 fun _ => ((.agg #[(.int .i64 n72), (.int .i64 n73)]) : Value) = (.agg #[(.int .i64 n22), (.int .i64 n23)])) <|
 ANDS (RDI .i64 (Addr.add (Addr.add ⟨B13, 0, none⟩ 2) 0) fun n74 =>
 RDI .i64 (Addr.add (Addr.add ⟨B13, 0, none⟩ 2) 1) fun n75 =>
 fun _ => ((.agg #[(.int .i64 n74), (.int .i64 n75)]) : Value) = (.agg #[(.int .i64 n20), (.int .i64 n21)])) <|
 ANDS (RDI .i64 (Addr.add (Addr.add ⟨B14, 0, none⟩ 0) 0) fun n76 =>
 RDI .i64 (Addr.add (Addr.add ⟨B14, 0, none⟩ 0) 1) fun n77 =>
 fun _ => ((.agg #[(.int .i64 n76), (.int .i64 n77)]) : Value) = (.agg #[(.int .i64 n18), (.int .i64 n19)])) <|
 ANDS (RDI .i64 (Addr.add (Addr.add ⟨B13, 0, none⟩ 0) 0) fun n78 =>
 RDI .i64 (Addr.add (Addr.add ⟨B13, 0, none⟩ 0) 1) fun n79 =>
 fun _ => ((.agg #[(.int .i64 n78), (.int .i64 n79)]) : Value) = (.agg #[(.int .i64 n16), (.int .i64 n17)])) <|
 WR (Addr.add ⟨B67, 0, none⟩ 0) (.int .i64 n33) <|
 WR (Addr.add ⟨B67, 0, none⟩ 1) (.int .i64 n36) <|
 WR (Addr.add ⟨B67, 0, none⟩ 2) (.int .i64 n50) <|
 WR (Addr.add ⟨B67, 0, none⟩ 3) (.int .i64 n53) <|
 WR (Addr.add ⟨B67, 0, none⟩ 4) (.int .i64 n63) <|
 WR (Addr.add ⟨B67, 0, none⟩ 5) (.int .i64 n66) <|
 J_soil_mix_and_1 W R (some ⟨B67, 0, none⟩) B13 B15)
 (fun e59 => R (.panicked e59)),
 NEWZ Pg 104 fun B152 =>
 ANDS (RDI .i64 (Addr.add (Addr.add ⟨B14, 0, none⟩ 4) 0) fun n153 =>
 RDI .i64 (Addr.add (Addr.add ⟨B14, 0, none⟩ 4) 1) fun n154 =>
 fun _ => ((.agg #[(.int .i64 n153), (.int .i64 n154)]) : Value) = (.agg #[(.int .i64 n26), (.int .i64 n27)])) <|
 ANDS (RDI .i64 (Addr.add (Addr.add ⟨B13, 0, none⟩ 4) 0) fun n155 =>
 RDI .i64 (Addr.add (Addr.add ⟨B13, 0, none⟩ 4) 1) fun n156 =>
 fun _ => ((.agg #[(.int .i64 n155), (.int .i64 n156)]) : Value) = (.agg #[(.int .i64 n24), (.int .i64 n25)])) <|
 ANDS (RDI .i64 (Addr.add (Addr.add ⟨B14, 0, none⟩ 2) 0) fun n157 =>
 RDI .i64 (Addr.add (Addr.add ⟨B14, 0, none⟩ 2) 1) fun n158 =>
 fun _ => ((.agg #[(.int .i64 n157), (.int .i64 n158)]) : Value) = (.agg #[(.int .i64 n22), (.int .i64 n23)])) <|
 ANDS (RDI .i64 (Addr.add (Addr.add ⟨B13, 0, none⟩ 2) 0) fun n159 =>
 RDI .i64 (Addr.add (Addr.add ⟨B13, 0, none⟩ 2) 1) fun n160 =>
 fun _ => ((.agg #[(.int .i64 n159), (.int .i64 n160)]) : Value) = (.agg #[(.int .i64 n20), (.int .i64 n21)])) <|
 ANDS (RDI .i64 (Addr.add (Addr.add ⟨B14, 0, none⟩ 0) 0) fun n161 =>
 RDI .i64 (Addr.add (Addr.add ⟨B14, 0, none⟩ 0) 1) fun n162 =>
 fun _ => ((.agg #[(.int .i64 n161), (.int .i64 n162)]) : Value) = (.agg #[(.int .i64 n18), (.int .i64 n19)])) <|
 ANDS (RDI .i64 (Addr.add (Addr.add ⟨B13, 0, none⟩ 0) 0) fun n163 =>
 RDI .i64 (Addr.add (Addr.add ⟨B13, 0, none⟩ 0) 1) fun n164 =>
 fun _ => ((.agg #[(.int .i64 n163), (.int .i64 n164)]) : Value) = (.agg #[(.int .i64 n16), (.int .i64 n17)])) <|
 CALL Pg W F_soil_both [(.agg #[(.int .i64 n24), (.int .i64 n25)]), (.agg #[(.int .i64 n26), (.int .i64 n27)])]
 (fun v165 => AGG v165 fun q167 => HD q167 fun v168 r169 => TYI .i64 v168 fun n170 =>
 HD r169 fun v171 r172 => TYI .i64 v171 fun n173 =>
 NL r172 <|
 WR (Addr.add ⟨B152, 0, none⟩ 0) (.int .i64 n33) <|
 WR (Addr.add ⟨B152, 0, none⟩ 1) (.int .i64 n36) <|
 WR (Addr.add ⟨B152, 0, none⟩ 2) (.int .i64 n50) <|
 WR (Addr.add ⟨B152, 0, none⟩ 3) (.int .i64 n53) <|
 WR (Addr.add ⟨B152, 0, none⟩ 4) (.int .i64 n170) <|
 WR (Addr.add ⟨B152, 0, none⟩ 5) (.int .i64 n173) <|
 J_soil_mix_and_1 W R (some ⟨B152, 0, none⟩) B13 B15)
 (fun e166 => R (.panicked e166))])
 (fun e46 => R (.panicked e46)),
 NEWZ Pg 104 fun B174 =>
 ANDS (RDI .i64 (Addr.add (Addr.add ⟨B14, 0, none⟩ 4) 0) fun n175 =>
 RDI .i64 (Addr.add (Addr.add ⟨B14, 0, none⟩ 4) 1) fun n176 =>
 fun _ => ((.agg #[(.int .i64 n175), (.int .i64 n176)]) : Value) = (.agg #[(.int .i64 n26), (.int .i64 n27)])) <|
 ANDS (RDI .i64 (Addr.add (Addr.add ⟨B13, 0, none⟩ 4) 0) fun n177 =>
 RDI .i64 (Addr.add (Addr.add ⟨B13, 0, none⟩ 4) 1) fun n178 =>
 fun _ => ((.agg #[(.int .i64 n177), (.int .i64 n178)]) : Value) = (.agg #[(.int .i64 n24), (.int .i64 n25)])) <|
 ANDS (RDI .i64 (Addr.add (Addr.add ⟨B14, 0, none⟩ 2) 0) fun n179 =>
 RDI .i64 (Addr.add (Addr.add ⟨B14, 0, none⟩ 2) 1) fun n180 =>
 fun _ => ((.agg #[(.int .i64 n179), (.int .i64 n180)]) : Value) = (.agg #[(.int .i64 n22), (.int .i64 n23)])) <|
 ANDS (RDI .i64 (Addr.add (Addr.add ⟨B13, 0, none⟩ 2) 0) fun n181 =>
 RDI .i64 (Addr.add (Addr.add ⟨B13, 0, none⟩ 2) 1) fun n182 =>
 fun _ => ((.agg #[(.int .i64 n181), (.int .i64 n182)]) : Value) = (.agg #[(.int .i64 n20), (.int .i64 n21)])) <|
 ANDS (RDI .i64 (Addr.add (Addr.add ⟨B14, 0, none⟩ 0) 0) fun n183 =>
 RDI .i64 (Addr.add (Addr.add ⟨B14, 0, none⟩ 0) 1) fun n184 =>
 fun _ => ((.agg #[(.int .i64 n183), (.int .i64 n184)]) : Value) = (.agg #[(.int .i64 n18), (.int .i64 n19)])) <|
 ANDS (RDI .i64 (Addr.add (Addr.add ⟨B13, 0, none⟩ 0) 0) fun n185 =>
 RDI .i64 (Addr.add (Addr.add ⟨B13, 0, none⟩ 0) 1) fun n186 =>
 fun _ => ((.agg #[(.int .i64 n185), (.int .i64 n186)]) : Value) = (.agg #[(.int .i64 n16), (.int .i64 n17)])) <|
 CALL Pg W F_soil_both [(.agg #[(.int .i64 n20), (.int .i64 n21)]), (.agg #[(.int .i64 n22), (.int .i64 n23)])]
 (fun v187 => AGG v187 fun q189 => HD q189 fun v190 r191 => TYI .i64 v190 fun n192 =>
 HD r191 fun v193 r194 => TYI .i64 v193 fun n195 =>
 NL r194 <|
 ANDS (RDI .i64 (Addr.add (Addr.add ⟨B14, 0, none⟩ 4) 0) fun n196 =>
 RDI .i64 (Addr.add (Addr.add ⟨B14, 0, none⟩ 4) 1) fun n197 =>
 fun _ => ((.agg #[(.int .i64 n196), (.int .i64 n197)]) : Value) = (.agg #[(.int .i64 n26), (.int .i64 n27)])) <|
 ANDS (RDI .i64 (Addr.add (Addr.add ⟨B13, 0, none⟩ 4) 0) fun n198 =>
 RDI .i64 (Addr.add (Addr.add ⟨B13, 0, none⟩ 4) 1) fun n199 =>
 fun _ => ((.agg #[(.int .i64 n198), (.int .i64 n199)]) : Value) = (.agg #[(.int .i64 n24), (.int .i64 n25)])) <|
 CALL Pg W F_soil_both [(.agg #[(.int .i64 n24), (.int .i64 n25)]), (.agg #[(.int .i64 n26), (.int .i64 n27)])]
 (fun v200 => AGG v200 fun q202 => HD q202 fun v203 r204 => TYI .i64 v203 fun n205 =>
 HD r204 fun v206 r207 => TYI .i64 v206 fun n208 =>
 NL r207 <|
 WR (Addr.add ⟨B174, 0, none⟩ 0) (.int .i64 n33) <|
 WR (Addr.add ⟨B174, 0, none⟩ 1) (.int .i64 n36) <|
 WR (Addr.add ⟨B174, 0, none⟩ 2) (.int .i64 n192) <|
 WR (Addr.add ⟨B174, 0, none⟩ 3) (.int .i64 n195) <|
 WR (Addr.add ⟨B174, 0, none⟩ 4) (.int .i64 n205) <|
 WR (Addr.add ⟨B174, 0, none⟩ 5) (.int .i64 n208) <|
 J_soil_mix_and_1 W R (some ⟨B174, 0, none⟩) B13 B15)
 (fun e201 => R (.panicked e201)))
 (fun e188 => R (.panicked e188))])
 (fun e29 => R (.panicked e29)),
 NEWZ Pg 104 fun B209 =>
 ANDS (RDI .i64 (Addr.add (Addr.add ⟨B14, 0, none⟩ 4) 0) fun n210 =>
 RDI .i64 (Addr.add (Addr.add ⟨B14, 0, none⟩ 4) 1) fun n211 =>
 fun _ => ((.agg #[(.int .i64 n210), (.int .i64 n211)]) : Value) = (.agg #[(.int .i64 n26), (.int .i64 n27)])) <|
 ANDS (RDI .i64 (Addr.add (Addr.add ⟨B13, 0, none⟩ 4) 0) fun n212 =>
 RDI .i64 (Addr.add (Addr.add ⟨B13, 0, none⟩ 4) 1) fun n213 =>
 fun _ => ((.agg #[(.int .i64 n212), (.int .i64 n213)]) : Value) = (.agg #[(.int .i64 n24), (.int .i64 n25)])) <|
 ANDS (RDI .i64 (Addr.add (Addr.add ⟨B14, 0, none⟩ 2) 0) fun n214 =>
 RDI .i64 (Addr.add (Addr.add ⟨B14, 0, none⟩ 2) 1) fun n215 =>
 fun _ => ((.agg #[(.int .i64 n214), (.int .i64 n215)]) : Value) = (.agg #[(.int .i64 n22), (.int .i64 n23)])) <|
 ANDS (RDI .i64 (Addr.add (Addr.add ⟨B13, 0, none⟩ 2) 0) fun n216 =>
 RDI .i64 (Addr.add (Addr.add ⟨B13, 0, none⟩ 2) 1) fun n217 =>
 fun _ => ((.agg #[(.int .i64 n216), (.int .i64 n217)]) : Value) = (.agg #[(.int .i64 n20), (.int .i64 n21)])) <|
 ANDS (RDI .i64 (Addr.add (Addr.add ⟨B14, 0, none⟩ 0) 0) fun n218 =>
 RDI .i64 (Addr.add (Addr.add ⟨B14, 0, none⟩ 0) 1) fun n219 =>
 fun _ => ((.agg #[(.int .i64 n218), (.int .i64 n219)]) : Value) = (.agg #[(.int .i64 n18), (.int .i64 n19)])) <|
 ANDS (RDI .i64 (Addr.add (Addr.add ⟨B13, 0, none⟩ 0) 0) fun n220 =>
 RDI .i64 (Addr.add (Addr.add ⟨B13, 0, none⟩ 0) 1) fun n221 =>
 fun _ => ((.agg #[(.int .i64 n220), (.int .i64 n221)]) : Value) = (.agg #[(.int .i64 n16), (.int .i64 n17)])) <|
 CALL Pg W F_soil_both [(.agg #[(.int .i64 n16), (.int .i64 n17)]), (.agg #[(.int .i64 n18), (.int .i64 n19)])]
 (fun v222 => AGG v222 fun q224 => HD q224 fun v225 r226 => TYI .i64 v225 fun n227 =>
 HD r226 fun v228 r229 => TYI .i64 v228 fun n230 =>
 NL r229 <|
 ANDS (RDI .i64 (Addr.add (Addr.add ⟨B14, 0, none⟩ 4) 0) fun n231 =>
 RDI .i64 (Addr.add (Addr.add ⟨B14, 0, none⟩ 4) 1) fun n232 =>
 fun _ => ((.agg #[(.int .i64 n231), (.int .i64 n232)]) : Value) = (.agg #[(.int .i64 n26), (.int .i64 n27)])) <|
 ANDS (RDI .i64 (Addr.add (Addr.add ⟨B13, 0, none⟩ 4) 0) fun n233 =>
 RDI .i64 (Addr.add (Addr.add ⟨B13, 0, none⟩ 4) 1) fun n234 =>
 fun _ => ((.agg #[(.int .i64 n233), (.int .i64 n234)]) : Value) = (.agg #[(.int .i64 n24), (.int .i64 n25)])) <|
 ANDS (RDI .i64 (Addr.add (Addr.add ⟨B14, 0, none⟩ 2) 0) fun n235 =>
 RDI .i64 (Addr.add (Addr.add ⟨B14, 0, none⟩ 2) 1) fun n236 =>
 fun _ => ((.agg #[(.int .i64 n235), (.int .i64 n236)]) : Value) = (.agg #[(.int .i64 n22), (.int .i64 n23)])) <|
 ANDS (RDI .i64 (Addr.add (Addr.add ⟨B13, 0, none⟩ 2) 0) fun n237 =>
 RDI .i64 (Addr.add (Addr.add ⟨B13, 0, none⟩ 2) 1) fun n238 =>
 fun _ => ((.agg #[(.int .i64 n237), (.int .i64 n238)]) : Value) = (.agg #[(.int .i64 n20), (.int .i64 n21)])) <|
 CALL Pg W F_soil_both [(.agg #[(.int .i64 n20), (.int .i64 n21)]), (.agg #[(.int .i64 n22), (.int .i64 n23)])]
 (fun v239 => AGG v239 fun q241 => HD q241 fun v242 r243 => TYI .i64 v242 fun n244 =>
 HD r243 fun v245 r246 => TYI .i64 v245 fun n247 =>
 NL r246 <|
 ANDS (RDI .i64 (Addr.add (Addr.add ⟨B14, 0, none⟩ 4) 0) fun n248 =>
 RDI .i64 (Addr.add (Addr.add ⟨B14, 0, none⟩ 4) 1) fun n249 =>
 fun _ => ((.agg #[(.int .i64 n248), (.int .i64 n249)]) : Value) = (.agg #[(.int .i64 n26), (.int .i64 n27)])) <|
 ANDS (RDI .i64 (Addr.add (Addr.add ⟨B13, 0, none⟩ 4) 0) fun n250 =>
 RDI .i64 (Addr.add (Addr.add ⟨B13, 0, none⟩ 4) 1) fun n251 =>
 fun _ => ((.agg #[(.int .i64 n250), (.int .i64 n251)]) : Value) = (.agg #[(.int .i64 n24), (.int .i64 n25)])) <|
 CALL Pg W F_soil_both [(.agg #[(.int .i64 n24), (.int .i64 n25)]), (.agg #[(.int .i64 n26), (.int .i64 n27)])]
 (fun v252 => AGG v252 fun q254 => HD q254 fun v255 r256 => TYI .i64 v255 fun n257 =>
 HD r256 fun v258 r259 => TYI .i64 v258 fun n260 =>
 NL r259 <|
 WR (Addr.add ⟨B209, 0, none⟩ 0) (.int .i64 n227) <|
 WR (Addr.add ⟨B209, 0, none⟩ 1) (.int .i64 n230) <|
 WR (Addr.add ⟨B209, 0, none⟩ 2) (.int .i64 n244) <|
 WR (Addr.add ⟨B209, 0, none⟩ 3) (.int .i64 n247) <|
 WR (Addr.add ⟨B209, 0, none⟩ 4) (.int .i64 n257) <|
 WR (Addr.add ⟨B209, 0, none⟩ 5) (.int .i64 n260) <|
 J_soil_mix_and_1 W R (some ⟨B209, 0, none⟩) B13 B15)
 (fun e253 => R (.panicked e253)))
 (fun e240 => R (.panicked e240)))
 (fun e223 => R (.panicked e223))]
theorem does_soil_mix_and (W : World) (n1 n2 n3 n4 n5 n6 n7 n8 n9 n10 n11 n12 : Int) (R : Ending → Hp → Prop) (s : Hp) (h : T_soil_mix_and W n1 n2 n3 n4 n5 n6 n7 n8 n9 n10 n11 n12 R s) : Does Pg W F_soil_mix_and #[(.agg #[(.int .i64 n1), (.int .i64 n2), (.int .i64 n3), (.int .i64 n4), (.int .i64 n5), (.int .i64 n6)]), (.agg #[(.int .i64 n7), (.int .i64 n8), (.int .i64 n9), (.int .i64 n10), (.int .i64 n11), (.int .i64 n12)])] s R :=
  does_of_vfun Pg W an_71 Tryz.func71 rfl (by kernel_rfl) (Eq.mpr (by kernel_rfl) h)
def an_72 : Nat → Ann := fun b => match b with
 | _ => {}
def T_soil_mix_next (W : World) (n1 n2 n3 n4 n5 n6 n7 : Int) (R : Ending → Hp → Prop) : Hp → Prop :=
 NEW 104 [(.int .i64 n1), (.int .i64 n2), (.int .i64 n3), (.int .i64 n4), (.int .i64 n5), (.int .i64 n6)] fun B8 =>
 NEW 3 [(.int .i64 n7)] fun B9 =>
 NEWZ Pg 104 fun B10 =>
 RDI .i64 (Addr.add ⟨B8, 0, none⟩ 0) fun n11 =>
 RDI .i64 (Addr.add ⟨B8, 0, none⟩ 1) fun n12 =>
 RDI .i64 (Addr.add ⟨B8, 0, none⟩ 2) fun n13 =>
 RDI .i64 (Addr.add ⟨B8, 0, none⟩ 3) fun n14 =>
 RDI .i64 (Addr.add ⟨B8, 0, none⟩ 4) fun n15 =>
 RDI .i64 (Addr.add ⟨B8, 0, none⟩ 5) fun n16 =>
 CALL Pg W F_soil_mix_isNone [(.agg #[(.int .i64 n11), (.int .i64 n12), (.int .i64 n13), (.int .i64 n14), (.int .i64 n15), (.int .i64 n16)])]
 (fun v17 => TYB v17 fun b19 =>
 BR b19
 (RDI .i64 (Addr.add ⟨B8, 0, none⟩ 0) fun n20 =>
 RDI .i64 (Addr.add ⟨B8, 0, none⟩ 1) fun n21 =>
 RDI .i64 (Addr.add ⟨B8, 0, none⟩ 2) fun n22 =>
 RDI .i64 (Addr.add ⟨B8, 0, none⟩ 3) fun n23 =>
 RDI .i64 (Addr.add ⟨B8, 0, none⟩ 4) fun n24 =>
 RDI .i64 (Addr.add ⟨B8, 0, none⟩ 5) fun n25 =>
 WR (Addr.add ⟨B10, 0, none⟩ 0) (.int .i64 n20) <|
 WR (Addr.add ⟨B10, 0, none⟩ 1) (.int .i64 n21) <|
 WR (Addr.add ⟨B10, 0, none⟩ 2) (.int .i64 n22) <|
 WR (Addr.add ⟨B10, 0, none⟩ 3) (.int .i64 n23) <|
 WR (Addr.add ⟨B10, 0, none⟩ 4) (.int .i64 n24) <|
 WR (Addr.add ⟨B10, 0, none⟩ 5) (.int .i64 n25) <|
 RDI .i64 (Addr.add ⟨B10, 0, none⟩ 0) fun n26 =>
 RDI .i64 (Addr.add ⟨B10, 0, none⟩ 1) fun n27 =>
 RDI .i64 (Addr.add ⟨B10, 0, none⟩ 2) fun n28 =>
 RDI .i64 (Addr.add ⟨B10, 0, none⟩ 3) fun n29 =>
 RDI .i64 (Addr.add ⟨B10, 0, none⟩ 4) fun n30 =>
 RDI .i64 (Addr.add ⟨B10, 0, none⟩ 5) fun n31 =>
 R (.returned (.agg #[(.int .i64 n26), (.int .i64 n27), (.int .i64 n28), (.int .i64 n29), (.int .i64 n30), (.int .i64 n31)])))
 (RDI .i64 (Addr.add (Addr.add ⟨B8, 0, none⟩ 0) 0) fun n32 =>
 RDI .i64 (Addr.add (Addr.add ⟨B8, 0, none⟩ 0) 1) fun n33 =>
 RDI .i64 (Addr.add (Addr.add ⟨B8, 0, none⟩ 2) 0) fun n34 =>
 RDI .i64 (Addr.add (Addr.add ⟨B8, 0, none⟩ 2) 1) fun n35 =>
 RDI .i64 (Addr.add (Addr.add ⟨B8, 0, none⟩ 4) 0) fun n36 =>
 RDI .i64 (Addr.add (Addr.add ⟨B8, 0, none⟩ 4) 1) fun n37 =>
 CALLV Pg W (.func (.func 96) #[] #[(.pointer (some ⟨B9, 0, none⟩))]) [(.agg #[(.int .i64 n32), (.int .i64 n33)])]
 (fun v38 => AGG v38 fun q40 => HD q40 fun v41 r42 => TYI .i64 v41 fun n43 =>
 HD r42 fun v44 r45 => TYI .i64 v44 fun n46 =>
 NL r45 <|
 ANDS (RDI .i64 (Addr.add (Addr.add ⟨B8, 0, none⟩ 4) 0) fun n47 =>
 RDI .i64 (Addr.add (Addr.add ⟨B8, 0, none⟩ 4) 1) fun n48 =>
 fun _ => ((.agg #[(.int .i64 n47), (.int .i64 n48)]) : Value) = (.agg #[(.int .i64 n36), (.int .i64 n37)])) <|
 ANDS (RDI .i64 (Addr.add (Addr.add ⟨B8, 0, none⟩ 2) 0) fun n49 =>
 RDI .i64 (Addr.add (Addr.add ⟨B8, 0, none⟩ 2) 1) fun n50 =>
 fun _ => ((.agg #[(.int .i64 n49), (.int .i64 n50)]) : Value) = (.agg #[(.int .i64 n34), (.int .i64 n35)])) <|
 CALLV Pg W (.func (.func 96) #[] #[(.pointer (some ⟨B9, 0, none⟩))]) [(.agg #[(.int .i64 n34), (.int .i64 n35)])]
 (fun v51 => AGG v51 fun q53 => HD q53 fun v54 r55 => TYI .i64 v54 fun n56 =>
 HD r55 fun v57 r58 => TYI .i64 v57 fun n59 =>
 NL r58 <|
 ANDS (RDI .i64 (Addr.add (Addr.add ⟨B8, 0, none⟩ 4) 0) fun n60 =>
 RDI .i64 (Addr.add (Addr.add ⟨B8, 0, none⟩ 4) 1) fun n61 =>
 fun _ => ((.agg #[(.int .i64 n60), (.int .i64 n61)]) : Value) = (.agg #[(.int .i64 n36), (.int .i64 n37)])) <|
 CALLV Pg W (.func (.func 96) #[] #[(.pointer (some ⟨B9, 0, none⟩))]) [(.agg #[(.int .i64 n36), (.int .i64 n37)])]
 (fun v62 => AGG v62 fun q64 => HD q64 fun v65 r66 => TYI .i64 v65 fun n67 =>
 HD r66 fun v68 r69 => TYI .i64 v68 fun n70 =>
 NL r69 <|
 CALL Pg W F_soil_mix_tight [(.agg #[(.int .i64 n43), (.int .i64 n46), (.int .i64 n56), (.int .i64 n59), (.int .i64 n67), (.int .i64 n70)])]
 (fun v71 => AGG v71 fun q73 => HD q73 fun v74 r75 => TYI .i64 v74 fun n76 =>
 HD r75 fun v77 r78 => TYI .i64 v77 fun n79 =>
 HD r78 fun v80 r81 => TYI .i64 v80 fun n82 =>
 HD r81 fun v83 r84 => TYI .i64 v83 fun n85 =>
 HD r84 fun v86 r87 => TYI .i64 v86 fun n88 =>
 HD r87 fun v89 r90 => TYI .i64 v89 fun n91 =>
 NL r90 <|
 WR (Addr.add ⟨B10, 0, none⟩ 0) (.int .i64 n76) <|
 WR (Addr.add ⟨B10, 0, none⟩ 1) (.int .i64 n79) <|
 WR (Addr.add ⟨B10, 0, none⟩ 2) (.int .i64 n82) <|
 WR (Addr.add ⟨B10, 0, none⟩ 3) (.int .i64 n85) <|
 WR (Addr.add ⟨B10, 0, none⟩ 4) (.int .i64 n88) <|
 WR (Addr.add ⟨B10, 0, none⟩ 5) (.int .i64 n91) <|
 RDI .i64 (Addr.add ⟨B10, 0, none⟩ 0) fun n92 =>
 RDI .i64 (Addr.add ⟨B10, 0, none⟩ 1) fun n93 =>
 RDI .i64 (Addr.add ⟨B10, 0, none⟩ 2) fun n94 =>
 RDI .i64 (Addr.add ⟨B10, 0, none⟩ 3) fun n95 =>
 RDI .i64 (Addr.add ⟨B10, 0, none⟩ 4) fun n96 =>
 RDI .i64 (Addr.add ⟨B10, 0, none⟩ 5) fun n97 =>
 R (.returned (.agg #[(.int .i64 n92), (.int .i64 n93), (.int .i64 n94), (.int .i64 n95), (.int .i64 n96), (.int .i64 n97)])))
 (fun e72 => R (.panicked e72)))
 (fun e63 => R (.panicked e63)))
 (fun e52 => R (.panicked e52)))
 (fun e39 => R (.panicked e39))))
 (fun e18 => R (.panicked e18))
theorem does_soil_mix_next (W : World) (n1 n2 n3 n4 n5 n6 n7 : Int) (R : Ending → Hp → Prop) (s : Hp) (h : T_soil_mix_next W n1 n2 n3 n4 n5 n6 n7 R s) : Does Pg W F_soil_mix_next #[(.agg #[(.int .i64 n1), (.int .i64 n2), (.int .i64 n3), (.int .i64 n4), (.int .i64 n5), (.int .i64 n6)]), (.int .i64 n7)] s R :=
  does_of_vfun Pg W an_72 Tryz.func72 rfl (by kernel_rfl) (Eq.mpr (by kernel_rfl) h)
def an_73 : Nat → Ann := fun b => match b with
 | _ => {}
def T_soil_kinds_c1 (W : World) (n1 : Int) (R : Ending → Hp → Prop) : Hp → Prop :=
 NEWZ Pg 27 fun B2 =>
 WR (Addr.add ⟨B2, 0, none⟩ 0) (.int .i64 n1) <|
 WR (Addr.add ⟨B2, 0, none⟩ 1) (.int .i64 20) <|
 RDI .i64 (Addr.add ⟨B2, 0, none⟩ 0) fun n3 =>
 RDI .i64 (Addr.add ⟨B2, 0, none⟩ 1) fun n4 =>
 R (.returned (.agg #[(.int .i64 n3), (.int .i64 n4)]))
theorem does_soil_kinds_c1 (W : World) (n1 : Int) (R : Ending → Hp → Prop) (s : Hp) (h : T_soil_kinds_c1 W n1 R s) : Does Pg W F_soil_kinds_c1 #[(.int .i64 n1)] s R :=
  does_of_vfun Pg W an_73 Tryz.func73 rfl (by kernel_rfl) (Eq.mpr (by kernel_rfl) h)
def an_74 : Nat → Ann := fun b => match b with
 | _ => {}
def T_soil_kinds_c2 (W : World) (n1 : Int) (R : Ending → Hp → Prop) : Hp → Prop :=
 NEWZ Pg 27 fun B2 =>
 WR (Addr.add ⟨B2, 0, none⟩ 0) (.int .i64 0) <|
 WR (Addr.add ⟨B2, 0, none⟩ 1) (.int .i64 (IntKind.wrap .i64 (n1 - 1))) <|
 RDI .i64 (Addr.add ⟨B2, 0, none⟩ 0) fun n3 =>
 RDI .i64 (Addr.add ⟨B2, 0, none⟩ 1) fun n4 =>
 R (.returned (.agg #[(.int .i64 n3), (.int .i64 n4)]))
theorem does_soil_kinds_c2 (W : World) (n1 : Int) (R : Ending → Hp → Prop) (s : Hp) (h : T_soil_kinds_c2 W n1 R s) : Does Pg W F_soil_kinds_c2 #[(.int .i64 n1)] s R :=
  does_of_vfun Pg W an_74 Tryz.func74 rfl (by kernel_rfl) (Eq.mpr (by kernel_rfl) h)
def an_75 : Nat → Ann := fun b => match b with
 | _ => {}
def T_soil_kinds_c3 (W : World) (n1 n2 : Int) (a3 : Addr) (R : Ending → Hp → Prop) : Hp → Prop :=
 NEW 27 [(.int .i64 n1), (.int .i64 n2)] fun B4 =>
 NEWZ Pg 104 fun B5 =>
 RDI .i64 (Addr.add (Addr.add a3 0) 0) fun n6 =>
 RDI .i64 (Addr.add (Addr.add a3 0) 1) fun n7 =>
 RDI .i64 (Addr.add (Addr.add a3 2) 0) fun n8 =>
 RDI .i64 (Addr.add (Addr.add a3 2) 1) fun n9 =>
 RDI .i64 (Addr.add ⟨B4, 0, none⟩ 0) fun n10 =>
 RDI .i64 (Addr.add ⟨B4, 0, none⟩ 1) fun n11 =>
 WR (Addr.add ⟨B5, 0, none⟩ 0) (.int .i64 n6) <|
 WR (Addr.add ⟨B5, 0, none⟩ 1) (.int .i64 n7) <|
 WR (Addr.add ⟨B5, 0, none⟩ 2) (.int .i64 n8) <|
 WR (Addr.add ⟨B5, 0, none⟩ 3) (.int .i64 n9) <|
 WR (Addr.add ⟨B5, 0, none⟩ 4) (.int .i64 n10) <|
 WR (Addr.add ⟨B5, 0, none⟩ 5) (.int .i64 n11) <|
 RDI .i64 (Addr.add ⟨B5, 0, none⟩ 0) fun n12 =>
 RDI .i64 (Addr.add ⟨B5, 0, none⟩ 1) fun n13 =>
 RDI .i64 (Addr.add ⟨B5, 0, none⟩ 2) fun n14 =>
 RDI .i64 (Addr.add ⟨B5, 0, none⟩ 3) fun n15 =>
 RDI .i64 (Addr.add ⟨B5, 0, none⟩ 4) fun n16 =>
 RDI .i64 (Addr.add ⟨B5, 0, none⟩ 5) fun n17 =>
 R (.returned (.agg #[(.int .i64 n12), (.int .i64 n13), (.int .i64 n14), (.int .i64 n15), (.int .i64 n16), (.int .i64 n17)]))
theorem does_soil_kinds_c3 (W : World) (n1 n2 : Int) (a3 : Addr) (R : Ending → Hp → Prop) (s : Hp) (h : T_soil_kinds_c3 W n1 n2 a3 R s) : Does Pg W F_soil_kinds_c3 #[(.agg #[(.int .i64 n1), (.int .i64 n2)]), (.pointer (some a3))] s R :=
  does_of_vfun Pg W an_75 Tryz.func75 rfl (by kernel_rfl) (Eq.mpr (by kernel_rfl) h)
def an_76 : Nat → Ann := fun b => match b with
 | _ => {}
def T_soil_kinds_c4 (W : World) (n1 n2 : Int) (a3 : Addr) (R : Ending → Hp → Prop) : Hp → Prop :=
 NEW 27 [(.int .i64 n1), (.int .i64 n2)] fun B4 =>
 NEWZ Pg 104 fun B5 =>
 RDI .i64 (Addr.add ⟨B4, 0, none⟩ 0) fun n6 =>
 RDI .i64 (Addr.add ⟨B4, 0, none⟩ 1) fun n7 =>
 RDI .i64 (Addr.add (Addr.add a3 2) 0) fun n8 =>
 RDI .i64 (Addr.add (Addr.add a3 2) 1) fun n9 =>
 RDI .i64 (Addr.add (Addr.add a3 4) 0) fun n10 =>
 RDI .i64 (Addr.add (Addr.add a3 4) 1) fun n11 =>
 WR (Addr.add ⟨B5, 0, none⟩ 0) (.int .i64 n6) <|
 WR (Addr.add ⟨B5, 0, none⟩ 1) (.int .i64 n7) <|
 WR (Addr.add ⟨B5, 0, none⟩ 2) (.int .i64 n8) <|
 WR (Addr.add ⟨B5, 0, none⟩ 3) (.int .i64 n9) <|
 WR (Addr.add ⟨B5, 0, none⟩ 4) (.int .i64 n10) <|
 WR (Addr.add ⟨B5, 0, none⟩ 5) (.int .i64 n11) <|
 RDI .i64 (Addr.add ⟨B5, 0, none⟩ 0) fun n12 =>
 RDI .i64 (Addr.add ⟨B5, 0, none⟩ 1) fun n13 =>
 RDI .i64 (Addr.add ⟨B5, 0, none⟩ 2) fun n14 =>
 RDI .i64 (Addr.add ⟨B5, 0, none⟩ 3) fun n15 =>
 RDI .i64 (Addr.add ⟨B5, 0, none⟩ 4) fun n16 =>
 RDI .i64 (Addr.add ⟨B5, 0, none⟩ 5) fun n17 =>
 R (.returned (.agg #[(.int .i64 n12), (.int .i64 n13), (.int .i64 n14), (.int .i64 n15), (.int .i64 n16), (.int .i64 n17)]))
theorem does_soil_kinds_c4 (W : World) (n1 n2 : Int) (a3 : Addr) (R : Ending → Hp → Prop) (s : Hp) (h : T_soil_kinds_c4 W n1 n2 a3 R s) : Does Pg W F_soil_kinds_c4 #[(.agg #[(.int .i64 n1), (.int .i64 n2)]), (.pointer (some a3))] s R :=
  does_of_vfun Pg W an_76 Tryz.func76 rfl (by kernel_rfl) (Eq.mpr (by kernel_rfl) h)
def an_77 : Nat → Ann := fun b => match b with
 | _ => {}
def T_soil_kinds_c5 (W : World) (n1 n2 : Int) (a3 : Addr) (R : Ending → Hp → Prop) : Hp → Prop :=
 NEW 27 [(.int .i64 n1), (.int .i64 n2)] fun B4 =>
 NEWZ Pg 104 fun B5 =>
 RDI .i64 (Addr.add (Addr.add a3 0) 0) fun n6 =>
 RDI .i64 (Addr.add (Addr.add a3 0) 1) fun n7 =>
 RDI .i64 (Addr.add ⟨B4, 0, none⟩ 0) fun n8 =>
 RDI .i64 (Addr.add ⟨B4, 0, none⟩ 1) fun n9 =>
 RDI .i64 (Addr.add (Addr.add a3 4) 0) fun n10 =>
 RDI .i64 (Addr.add (Addr.add a3 4) 1) fun n11 =>
 WR (Addr.add ⟨B5, 0, none⟩ 0) (.int .i64 n6) <|
 WR (Addr.add ⟨B5, 0, none⟩ 1) (.int .i64 n7) <|
 WR (Addr.add ⟨B5, 0, none⟩ 2) (.int .i64 n8) <|
 WR (Addr.add ⟨B5, 0, none⟩ 3) (.int .i64 n9) <|
 WR (Addr.add ⟨B5, 0, none⟩ 4) (.int .i64 n10) <|
 WR (Addr.add ⟨B5, 0, none⟩ 5) (.int .i64 n11) <|
 RDI .i64 (Addr.add ⟨B5, 0, none⟩ 0) fun n12 =>
 RDI .i64 (Addr.add ⟨B5, 0, none⟩ 1) fun n13 =>
 RDI .i64 (Addr.add ⟨B5, 0, none⟩ 2) fun n14 =>
 RDI .i64 (Addr.add ⟨B5, 0, none⟩ 3) fun n15 =>
 RDI .i64 (Addr.add ⟨B5, 0, none⟩ 4) fun n16 =>
 RDI .i64 (Addr.add ⟨B5, 0, none⟩ 5) fun n17 =>
 R (.returned (.agg #[(.int .i64 n12), (.int .i64 n13), (.int .i64 n14), (.int .i64 n15), (.int .i64 n16), (.int .i64 n17)]))
theorem does_soil_kinds_c5 (W : World) (n1 n2 : Int) (a3 : Addr) (R : Ending → Hp → Prop) (s : Hp) (h : T_soil_kinds_c5 W n1 n2 a3 R s) : Does Pg W F_soil_kinds_c5 #[(.agg #[(.int .i64 n1), (.int .i64 n2)]), (.pointer (some a3))] s R :=
  does_of_vfun Pg W an_77 Tryz.func77 rfl (by kernel_rfl) (Eq.mpr (by kernel_rfl) h)
def an_78 : Nat → Ann := fun b => match b with
 | _ => {}
def T_soil_kinds_c6 (W : World) (n1 n2 : Int) (v3 : Value) (a4 : Addr) (a5 : Addr) (R : Ending → Hp → Prop) : Hp → Prop :=
 NEW 3 [(.int .i64 n2)] fun B6 =>
 ONE v3 <|
 NEW 168 [v3] fun B7 =>
 NEWZ Pg 107 fun B8 =>
 WR (Addr.add ⟨B8, 0, none⟩ 0) (.int .i64 n1) <|
 WR (Addr.add ⟨B8, 0, none⟩ 1) (.func (.func 79) #[] #[(.pointer (some ⟨B7, 0, none⟩)), (.pointer (some a4)), (.pointer (some ⟨B6, 0, none⟩))]) <|
 WR (Addr.add ⟨B8, 0, none⟩ 2) (.func (.func 80) #[] #[(.pointer (some ⟨B7, 0, none⟩)), (.pointer (some a5)), (.pointer (some ⟨B6, 0, none⟩))]) <|
 RDI .i64 (Addr.add ⟨B8, 0, none⟩ 0) fun n9 =>
 RDV (Addr.add ⟨B8, 0, none⟩ 1) fun v10 =>
 RDV (Addr.add ⟨B8, 0, none⟩ 2) fun v11 =>
 R (.returned (.agg #[(.int .i64 n9), v10, v11]))
theorem does_soil_kinds_c6 (W : World) (n1 n2 : Int) (v3 : Value) (a4 : Addr) (a5 : Addr) (R : Ending → Hp → Prop) (s : Hp) (h : T_soil_kinds_c6 W n1 n2 v3 a4 a5 R s) : Does Pg W F_soil_kinds_c6 #[(.int .i64 n1), (.int .i64 n2), v3, (.pointer (some a4)), (.pointer (some a5))] s R :=
  does_of_vfun Pg W an_78 Tryz.func78 rfl (by kernel_rfl) (Eq.mpr (by kernel_rfl) h)
def an_79 : Nat → Ann := fun b => match b with
 | _ => {}
def T_soil_kinds_c6_c1 (W : World) (n1 n2 n3 n4 n5 n6 : Int) (a7 : Addr) (a8 : Addr) (a9 : Addr) (R : Ending → Hp → Prop) : Hp → Prop :=
 NEW 104 [(.int .i64 n1), (.int .i64 n2), (.int .i64 n3), (.int .i64 n4), (.int .i64 n5), (.int .i64 n6)] fun B10 =>
 NEWZ Pg 104 fun B11 =>
 RDI .i64 (Addr.add ⟨B10, 0, none⟩ 0) fun n12 =>
 RDI .i64 (Addr.add ⟨B10, 0, none⟩ 1) fun n13 =>
 RDI .i64 (Addr.add ⟨B10, 0, none⟩ 2) fun n14 =>
 RDI .i64 (Addr.add ⟨B10, 0, none⟩ 3) fun n15 =>
 RDI .i64 (Addr.add ⟨B10, 0, none⟩ 4) fun n16 =>
 RDI .i64 (Addr.add ⟨B10, 0, none⟩ 5) fun n17 =>
 RDV a7 fun v18 =>
 RDV a8 fun v19 =>
 RDI .i64 a9 fun n20 =>
 CALLV Pg W v19 [(.int .i64 n20)]
 (fun v21 => AGG v21 fun q23 => HD q23 fun v24 r25 => TYI .i64 v24 fun n26 =>
 HD r25 fun v27 r28 => TYI .i64 v27 fun n29 =>
 NL r28 <|
 ANDS (RDV a7 fun v30 =>
 fun _ => (v30 : Value) = v18) <|
 ANDS (RDI .i64 (Addr.add ⟨B10, 0, none⟩ 0) fun n31 =>
 RDI .i64 (Addr.add ⟨B10, 0, none⟩ 1) fun n32 =>
 RDI .i64 (Addr.add ⟨B10, 0, none⟩ 2) fun n33 =>
 RDI .i64 (Addr.add ⟨B10, 0, none⟩ 3) fun n34 =>
 RDI .i64 (Addr.add ⟨B10, 0, none⟩ 4) fun n35 =>
 RDI .i64 (Addr.add ⟨B10, 0, none⟩ 5) fun n36 =>
 fun _ => ((.agg #[(.int .i64 n31), (.int .i64 n32), (.int .i64 n33), (.int .i64 n34), (.int .i64 n35), (.int .i64 n36)]) : Value) = (.agg #[(.int .i64 n12), (.int .i64 n13), (.int .i64 n14), (.int .i64 n15), (.int .i64 n16), (.int .i64 n17)])) <|
 CALLV Pg W v18 [(.agg #[(.int .i64 n26), (.int .i64 n29)])]
 (fun v37 => AGG v37 fun q39 => HD q39 fun v40 r41 => TYI .i64 v40 fun n42 =>
 HD r41 fun v43 r44 => TYI .i64 v43 fun n45 =>
 HD r44 fun v46 r47 => TYI .i64 v46 fun n48 =>
 HD r47 fun v49 r50 => TYI .i64 v49 fun n51 =>
 HD r50 fun v52 r53 => TYI .i64 v52 fun n54 =>
 HD r53 fun v55 r56 => TYI .i64 v55 fun n57 =>
 NL r56 <|
 ANDS (RDI .i64 (Addr.add ⟨B10, 0, none⟩ 0) fun n58 =>
 RDI .i64 (Addr.add ⟨B10, 0, none⟩ 1) fun n59 =>
 RDI .i64 (Addr.add ⟨B10, 0, none⟩ 2) fun n60 =>
 RDI .i64 (Addr.add ⟨B10, 0, none⟩ 3) fun n61 =>
 RDI .i64 (Addr.add ⟨B10, 0, none⟩ 4) fun n62 =>
 RDI .i64 (Addr.add ⟨B10, 0, none⟩ 5) fun n63 =>
 fun _ => ((.agg #[(.int .i64 n58), (.int .i64 n59), (.int .i64 n60), (.int .i64 n61), (.int .i64 n62), (.int .i64 n63)]) : Value) = (.agg #[(.int .i64 n12), (.int .i64 n13), (.int .i64 n14), (.int .i64 n15), (.int .i64 n16), (.int .i64 n17)])) <|
 CALL Pg W F_soil_mix_and [(.agg #[(.int .i64 n12), (.int .i64 n13), (.int .i64 n14), (.int .i64 n15), (.int .i64 n16), (.int .i64 n17)]), (.agg #[(.int .i64 n42), (.int .i64 n45), (.int .i64 n48), (.int .i64 n51), (.int .i64 n54), (.int .i64 n57)])]
 (fun v64 => AGG v64 fun q66 => HD q66 fun v67 r68 => TYI .i64 v67 fun n69 =>
 HD r68 fun v70 r71 => TYI .i64 v70 fun n72 =>
 HD r71 fun v73 r74 => TYI .i64 v73 fun n75 =>
 HD r74 fun v76 r77 => TYI .i64 v76 fun n78 =>
 HD r77 fun v79 r80 => TYI .i64 v79 fun n81 =>
 HD r80 fun v82 r83 => TYI .i64 v82 fun n84 =>
 NL r83 <|
 WR (Addr.add ⟨B11, 0, none⟩ 0) (.int .i64 n69) <|
 WR (Addr.add ⟨B11, 0, none⟩ 1) (.int .i64 n72) <|
 WR (Addr.add ⟨B11, 0, none⟩ 2) (.int .i64 n75) <|
 WR (Addr.add ⟨B11, 0, none⟩ 3) (.int .i64 n78) <|
 WR (Addr.add ⟨B11, 0, none⟩ 4) (.int .i64 n81) <|
 WR (Addr.add ⟨B11, 0, none⟩ 5) (.int .i64 n84) <|
 RDI .i64 (Addr.add ⟨B11, 0, none⟩ 0) fun n85 =>
 RDI .i64 (Addr.add ⟨B11, 0, none⟩ 1) fun n86 =>
 RDI .i64 (Addr.add ⟨B11, 0, none⟩ 2) fun n87 =>
 RDI .i64 (Addr.add ⟨B11, 0, none⟩ 3) fun n88 =>
 RDI .i64 (Addr.add ⟨B11, 0, none⟩ 4) fun n89 =>
 RDI .i64 (Addr.add ⟨B11, 0, none⟩ 5) fun n90 =>
 R (.returned (.agg #[(.int .i64 n85), (.int .i64 n86), (.int .i64 n87), (.int .i64 n88), (.int .i64 n89), (.int .i64 n90)])))
 (fun e65 => R (.panicked e65)))
 (fun e38 => R (.panicked e38)))
 (fun e22 => R (.panicked e22))
theorem does_soil_kinds_c6_c1 (W : World) (n1 n2 n3 n4 n5 n6 : Int) (a7 : Addr) (a8 : Addr) (a9 : Addr) (R : Ending → Hp → Prop) (s : Hp) (h : T_soil_kinds_c6_c1 W n1 n2 n3 n4 n5 n6 a7 a8 a9 R s) : Does Pg W F_soil_kinds_c6_c1 #[(.agg #[(.int .i64 n1), (.int .i64 n2), (.int .i64 n3), (.int .i64 n4), (.int .i64 n5), (.int .i64 n6)]), (.pointer (some a7)), (.pointer (some a8)), (.pointer (some a9))] s R :=
  does_of_vfun Pg W an_79 Tryz.func79 rfl (by kernel_rfl) (Eq.mpr (by kernel_rfl) h)
def an_80 : Nat → Ann := fun b => match b with
 | _ => {}
def T_soil_kinds_c6_c2 (W : World) (n1 n2 n3 n4 n5 n6 : Int) (a7 : Addr) (a8 : Addr) (a9 : Addr) (R : Ending → Hp → Prop) : Hp → Prop :=
 NEW 104 [(.int .i64 n1), (.int .i64 n2), (.int .i64 n3), (.int .i64 n4), (.int .i64 n5), (.int .i64 n6)] fun B10 =>
 NEWZ Pg 104 fun B11 =>
 RDI .i64 (Addr.add ⟨B10, 0, none⟩ 0) fun n12 =>
 RDI .i64 (Addr.add ⟨B10, 0, none⟩ 1) fun n13 =>
 RDI .i64 (Addr.add ⟨B10, 0, none⟩ 2) fun n14 =>
 RDI .i64 (Addr.add ⟨B10, 0, none⟩ 3) fun n15 =>
 RDI .i64 (Addr.add ⟨B10, 0, none⟩ 4) fun n16 =>
 RDI .i64 (Addr.add ⟨B10, 0, none⟩ 5) fun n17 =>
 RDV a7 fun v18 =>
 RDV a8 fun v19 =>
 RDI .i64 a9 fun n20 =>
 CALLV Pg W v19 [(.int .i64 n20)]
 (fun v21 => AGG v21 fun q23 => HD q23 fun v24 r25 => TYI .i64 v24 fun n26 =>
 HD r25 fun v27 r28 => TYI .i64 v27 fun n29 =>
 NL r28 <|
 ANDS (RDV a7 fun v30 =>
 fun _ => (v30 : Value) = v18) <|
 ANDS (RDI .i64 (Addr.add ⟨B10, 0, none⟩ 0) fun n31 =>
 RDI .i64 (Addr.add ⟨B10, 0, none⟩ 1) fun n32 =>
 RDI .i64 (Addr.add ⟨B10, 0, none⟩ 2) fun n33 =>
 RDI .i64 (Addr.add ⟨B10, 0, none⟩ 3) fun n34 =>
 RDI .i64 (Addr.add ⟨B10, 0, none⟩ 4) fun n35 =>
 RDI .i64 (Addr.add ⟨B10, 0, none⟩ 5) fun n36 =>
 fun _ => ((.agg #[(.int .i64 n31), (.int .i64 n32), (.int .i64 n33), (.int .i64 n34), (.int .i64 n35), (.int .i64 n36)]) : Value) = (.agg #[(.int .i64 n12), (.int .i64 n13), (.int .i64 n14), (.int .i64 n15), (.int .i64 n16), (.int .i64 n17)])) <|
 CALLV Pg W v18 [(.agg #[(.int .i64 n26), (.int .i64 n29)])]
 (fun v37 => AGG v37 fun q39 => HD q39 fun v40 r41 => TYI .i64 v40 fun n42 =>
 HD r41 fun v43 r44 => TYI .i64 v43 fun n45 =>
 HD r44 fun v46 r47 => TYI .i64 v46 fun n48 =>
 HD r47 fun v49 r50 => TYI .i64 v49 fun n51 =>
 HD r50 fun v52 r53 => TYI .i64 v52 fun n54 =>
 HD r53 fun v55 r56 => TYI .i64 v55 fun n57 =>
 NL r56 <|
 ANDS (RDI .i64 (Addr.add ⟨B10, 0, none⟩ 0) fun n58 =>
 RDI .i64 (Addr.add ⟨B10, 0, none⟩ 1) fun n59 =>
 RDI .i64 (Addr.add ⟨B10, 0, none⟩ 2) fun n60 =>
 RDI .i64 (Addr.add ⟨B10, 0, none⟩ 3) fun n61 =>
 RDI .i64 (Addr.add ⟨B10, 0, none⟩ 4) fun n62 =>
 RDI .i64 (Addr.add ⟨B10, 0, none⟩ 5) fun n63 =>
 fun _ => ((.agg #[(.int .i64 n58), (.int .i64 n59), (.int .i64 n60), (.int .i64 n61), (.int .i64 n62), (.int .i64 n63)]) : Value) = (.agg #[(.int .i64 n12), (.int .i64 n13), (.int .i64 n14), (.int .i64 n15), (.int .i64 n16), (.int .i64 n17)])) <|
 CALL Pg W F_soil_mix_and [(.agg #[(.int .i64 n12), (.int .i64 n13), (.int .i64 n14), (.int .i64 n15), (.int .i64 n16), (.int .i64 n17)]), (.agg #[(.int .i64 n42), (.int .i64 n45), (.int .i64 n48), (.int .i64 n51), (.int .i64 n54), (.int .i64 n57)])]
 (fun v64 => AGG v64 fun q66 => HD q66 fun v67 r68 => TYI .i64 v67 fun n69 =>
 HD r68 fun v70 r71 => TYI .i64 v70 fun n72 =>
 HD r71 fun v73 r74 => TYI .i64 v73 fun n75 =>
 HD r74 fun v76 r77 => TYI .i64 v76 fun n78 =>
 HD r77 fun v79 r80 => TYI .i64 v79 fun n81 =>
 HD r80 fun v82 r83 => TYI .i64 v82 fun n84 =>
 NL r83 <|
 WR (Addr.add ⟨B11, 0, none⟩ 0) (.int .i64 n69) <|
 WR (Addr.add ⟨B11, 0, none⟩ 1) (.int .i64 n72) <|
 WR (Addr.add ⟨B11, 0, none⟩ 2) (.int .i64 n75) <|
 WR (Addr.add ⟨B11, 0, none⟩ 3) (.int .i64 n78) <|
 WR (Addr.add ⟨B11, 0, none⟩ 4) (.int .i64 n81) <|
 WR (Addr.add ⟨B11, 0, none⟩ 5) (.int .i64 n84) <|
 RDI .i64 (Addr.add ⟨B11, 0, none⟩ 0) fun n85 =>
 RDI .i64 (Addr.add ⟨B11, 0, none⟩ 1) fun n86 =>
 RDI .i64 (Addr.add ⟨B11, 0, none⟩ 2) fun n87 =>
 RDI .i64 (Addr.add ⟨B11, 0, none⟩ 3) fun n88 =>
 RDI .i64 (Addr.add ⟨B11, 0, none⟩ 4) fun n89 =>
 RDI .i64 (Addr.add ⟨B11, 0, none⟩ 5) fun n90 =>
 R (.returned (.agg #[(.int .i64 n85), (.int .i64 n86), (.int .i64 n87), (.int .i64 n88), (.int .i64 n89), (.int .i64 n90)])))
 (fun e65 => R (.panicked e65)))
 (fun e38 => R (.panicked e38)))
 (fun e22 => R (.panicked e22))
theorem does_soil_kinds_c6_c2 (W : World) (n1 n2 n3 n4 n5 n6 : Int) (a7 : Addr) (a8 : Addr) (a9 : Addr) (R : Ending → Hp → Prop) (s : Hp) (h : T_soil_kinds_c6_c2 W n1 n2 n3 n4 n5 n6 a7 a8 a9 R s) : Does Pg W F_soil_kinds_c6_c2 #[(.agg #[(.int .i64 n1), (.int .i64 n2), (.int .i64 n3), (.int .i64 n4), (.int .i64 n5), (.int .i64 n6)]), (.pointer (some a7)), (.pointer (some a8)), (.pointer (some a9))] s R :=
  does_of_vfun Pg W an_80 Tryz.func80 rfl (by kernel_rfl) (Eq.mpr (by kernel_rfl) h)
def an_92 : Nat → Ann := fun b => match b with
 | 0 => { ms := [11], ks := [.i .i64], us := [0, 1, 2, 10, 27], rt := false, ex := [] }
 | _ => {}
abbrev rv_92 : List ResultVar := []
abbrev rs_92 : List Nat := [27]
def L_soil_ground_places_c1_0 (W : World) (R : Ending → Hp → Prop) (zv0 : Value) (za1 : Addr) (za2 : Addr) (zn3 n7 : Int) : Hp → Prop :=
 LOOPN [.i .i64] (fun ys next s => ∀ j : Tm, vc Pg W 27 rs_92 an_92 false (sub (bodyOf Tryz.f92) [1, 0, 0]) 0 (KLoop [11] [0, 1, 2, 10, 27] [zv0, (.pointer (some za1)), (.pointer (some za2)), (.int .i64 zn3), (.tuple #[])] next (KBlk 0 (fin Pg W 27 rv_92 R))) (known [11] ys (known [0, 1, 2, 10, 27] [zv0, (.pointer (some za1)), (.pointer (some za2)), (.int .i64 zn3), (.tuple #[])] j)) s) [(.int .i64 n7)]
def J_soil_ground_places_c1_0 (W : World) (R : Ending → Hp → Prop) (zv0 : Value) (n12 : Int) (za1 : Addr) (za2 : Addr) (zn3 : Int) (nx0 : List Value → Hp → Prop) (n7 : Int) : Hp → Prop :=
 CALLV Pg W zv0 [(.int .i64 n12)]
 (fun v13 => TYB v13 fun b15 =>
 BR (!b15)
 (R (.returned (.tuple #[])))
 (NX [zv0, (.pointer (some za1)), (.pointer (some za2)), (.int .i64 zn3), (.tuple #[])] [zv0, (.pointer (some za1)), (.pointer (some za2)), (.int .i64 zn3), (.tuple #[])] (nx0 [(.int .i64 (IntKind.wrap .i64 (n7 + 1)))])))
 (fun e14 => R (.panicked e14))
def B_soil_ground_places_c1_0 (W : World) (R : Ending → Hp → Prop) (zv0 : Value) (za1 : Addr) (za2 : Addr) (zn3 n7 : Int) (nx0 : List Value → Hp → Prop) : Hp → Prop :=
 BR (decide (n7 < zn3))
 (RDB za2 fun b8 =>
 BR b8
 (RDP za1 fun p9 =>
 SO p9 fun a10 =>
 RDI .i64 (Addr.add (Addr.add a10 0) 0) fun n11 =>
 J_soil_ground_places_c1_0 W R zv0 (IntKind.wrap .i64 (n11 - n7)) za1 za2 zn3 nx0 n7)
 (J_soil_ground_places_c1_0 W R zv0 n7 za1 za2 zn3 nx0 n7))
 (R (.returned (.tuple #[])))
theorem B_soil_ground_places_c1_0_eq (W : World) (R : Ending → Hp → Prop) (zv0 : Value) (za1 : Addr) (za2 : Addr) (zn3 n7 : Int) (nx0 : List Value → Hp → Prop) (j : Tm) : vc Pg W 27 rs_92 an_92 false (sub (bodyOf Tryz.f92) [1, 0, 0]) 0 (KLoop [11] [0, 1, 2, 10, 27] [zv0, (.pointer (some za1)), (.pointer (some za2)), (.int .i64 zn3), (.tuple #[])] nx0 (KBlk 0 (fin Pg W 27 rv_92 R))) (known [11] [(.int .i64 n7)] (known [0, 1, 2, 10, 27] [zv0, (.pointer (some za1)), (.pointer (some za2)), (.int .i64 zn3), (.tuple #[])] j)) = B_soil_ground_places_c1_0 W R zv0 za1 za2 zn3 n7 nx0 := by kernel_rfl
def N_soil_ground_places_c1_0 (I : Int → Hp → Prop) (μ : Int → Hp → Nat) (n70 : Int) (s : Hp) (vs : List Value) : Hp → Prop := fun s' => ∃ n7, vs = [(.int .i64 n7)] ∧ I n7 s' ∧ μ n7 s' < μ n70 s
theorem L_soil_ground_places_c1_0_rule (W : World) (R : Ending → Hp → Prop) (zv0 : Value) (za1 : Addr) (za2 : Addr) (zn3 : Int) (I : Int → Hp → Prop) (μ : Int → Hp → Nat) (n70 : Int) (s : Hp) (h0 : I n70 s)
    (hr : ∀ (n7 : Int) (s : Hp), I n7 s → B_soil_ground_places_c1_0 W R zv0 za1 za2 zn3 n7 (fun vs => N_soil_ground_places_c1_0 I μ n7 s vs) s) : L_soil_ground_places_c1_0 W R zv0 za1 za2 zn3 n70 s := by
  refine ⟨fun vs s => ∃ n7, vs = [(.int .i64 n7)] ∧ I n7 s, fun vs s => (match vs with | [.int _ n7] => μ n7 s | _ => 0), ⟨⟨⟨_, rfl⟩, trivial⟩, ⟨_, rfl, h0⟩⟩, ?_⟩
  intro n7 s hI j
  obtain ⟨n7', hy, hI⟩ := hI
  have hI' : I n7 s := by cases hy; exact hI
  have hh := hr n7 s hI'
  rw [← B_soil_ground_places_c1_0_eq W R zv0 za1 za2 zn3 n7 _ j] at hh
  refine vc_mono ?_ _ _ hh
  exact KLoop_mono (fun vs s' h => by obtain ⟨n71, rfl, h1, h2⟩ := h; exact ⟨⟨⟨_, rfl⟩, trivial⟩, ⟨_, rfl, h1⟩, h2⟩)
def T_soil_ground_places_c1 (W : World) (v1 : Value) (a2 : Addr) (a3 : Addr) (R : Ending → Hp → Prop) : Hp → Prop :=
 RDP a2 fun p4 =>
 SO p4 fun a5 =>
 RDI .i64 (Addr.add (Addr.add a5 0) 0) fun n6 =>
 L_soil_ground_places_c1_0 W R v1 a2 a3 (IntKind.wrap .i64 (n6 + 1)) 0
theorem does_soil_ground_places_c1 (W : World) (v1 : Value) (a2 : Addr) (a3 : Addr) (R : Ending → Hp → Prop) (s : Hp) (h : T_soil_ground_places_c1 W v1 a2 a3 R s) : Does Pg W F_soil_ground_places_c1 #[v1, (.pointer (some a2)), (.pointer (some a3))] s R :=
  does_of_vfun Pg W an_92 Tryz.func92 rfl (by kernel_rfl) (Eq.mpr (by kernel_rfl) h)
def an_93 : Nat → Ann := fun b => match b with
 | 0 => { ms := [0, 9], ks := [.i .i64, .i .i64], us := [4, 7, 8, 18], rt := false, ex := [] }
 | _ => {}
abbrev rv_93 : List ResultVar := [.tmp 4]
abbrev rs_93 : List Nat := [18, 4]
def L_soil_most_int_0 (W : World) (R : Ending → Hp → Prop) (zp0 : Option Addr) (zl1 zl2 : Nat) (zn3 n5 n6 : Int) : Hp → Prop :=
 LOOPN [.i .i64, .i .i64] (fun ys next s => ∀ j : Tm, vc Pg W 18 rs_93 an_93 false (sub (bodyOf Tryz.f93) [1, 0, 1, 0, 0]) 0 (KLoop [0, 9] [4, 7, 8, 18] [(.int .i64 0), (.slice zp0 zl1 zl2), (.int .i64 zn3), (.tuple #[])] next (KBlk 0 (KS Pg W 18 rs_93 an_93 false (sub (bodyOf Tryz.f93) [1, 1]) 0 (fin Pg W 18 rv_93 R)))) (known [0, 9] ys (known [4, 7, 8, 18] [(.int .i64 0), (.slice zp0 zl1 zl2), (.int .i64 zn3), (.tuple #[])] j)) s) [(.int .i64 n5), (.int .i64 n6)]
def B_soil_most_int_0 (W : World) (R : Ending → Hp → Prop) (zp0 : Option Addr) (zl1 zl2 : Nat) (zn3 n5 n6 : Int) (nx0 : List Value → Hp → Prop) : Hp → Prop :=
 BR (decide (n6 < zn3))
 (IXS zp0 zl1 n6 1 fun a7 =>
 RDI .i64 a7 fun n8 =>
 NX [(.int .i64 0), (.slice zp0 zl1 zl2), (.int .i64 zn3), (.tuple #[])] [(.int .i64 0), (.slice zp0 zl1 zl2), (.int .i64 zn3), (.tuple #[])] (nx0 [(.int .i64 (if n8 > n5 then n8 else n5)), (.int .i64 (IntKind.wrap .i64 (n6 + 1)))]))
 (R (.returned (.int .i64 n5)))
theorem B_soil_most_int_0_eq (W : World) (R : Ending → Hp → Prop) (zp0 : Option Addr) (zl1 zl2 : Nat) (zn3 n5 n6 : Int) (nx0 : List Value → Hp → Prop) (j : Tm) : vc Pg W 18 rs_93 an_93 false (sub (bodyOf Tryz.f93) [1, 0, 1, 0, 0]) 0 (KLoop [0, 9] [4, 7, 8, 18] [(.int .i64 0), (.slice zp0 zl1 zl2), (.int .i64 zn3), (.tuple #[])] nx0 (KBlk 0 (KS Pg W 18 rs_93 an_93 false (sub (bodyOf Tryz.f93) [1, 1]) 0 (fin Pg W 18 rv_93 R)))) (known [0, 9] [(.int .i64 n5), (.int .i64 n6)] (known [4, 7, 8, 18] [(.int .i64 0), (.slice zp0 zl1 zl2), (.int .i64 zn3), (.tuple #[])] j)) = B_soil_most_int_0 W R zp0 zl1 zl2 zn3 n5 n6 nx0 := by kernel_rfl
def N_soil_most_int_0 (I : Int → Int → Hp → Prop) (μ : Int → Int → Hp → Nat) (n50 n60 : Int) (s : Hp) (vs : List Value) : Hp → Prop := fun s' => ∃ n5 n6, vs = [(.int .i64 n5), (.int .i64 n6)] ∧ I n5 n6 s' ∧ μ n5 n6 s' < μ n50 n60 s
theorem L_soil_most_int_0_rule (W : World) (R : Ending → Hp → Prop) (zp0 : Option Addr) (zl1 zl2 : Nat) (zn3 : Int) (I : Int → Int → Hp → Prop) (μ : Int → Int → Hp → Nat) (n50 n60 : Int) (s : Hp) (h0 : I n50 n60 s)
    (hr : ∀ (n5 : Int) (n6 : Int) (s : Hp), I n5 n6 s → B_soil_most_int_0 W R zp0 zl1 zl2 zn3 n5 n6 (fun vs => N_soil_most_int_0 I μ n5 n6 s vs) s) : L_soil_most_int_0 W R zp0 zl1 zl2 zn3 n50 n60 s := by
  refine ⟨fun vs s => ∃ n5 n6, vs = [(.int .i64 n5), (.int .i64 n6)] ∧ I n5 n6 s, fun vs s => (match vs with | [.int _ n5, .int _ n6] => μ n5 n6 s | _ => 0), ⟨⟨⟨_, rfl⟩, ⟨⟨_, rfl⟩, trivial⟩⟩, ⟨_, _, rfl, h0⟩⟩, ?_⟩
  intro n5 n6 s hI j
  obtain ⟨n5', n6', hy, hI⟩ := hI
  have hI' : I n5 n6 s := by cases hy; exact hI
  have hh := hr n5 n6 s hI'
  rw [← B_soil_most_int_0_eq W R zp0 zl1 zl2 zn3 n5 n6 _ j] at hh
  refine vc_mono ?_ _ _ hh
  exact KLoop_mono (fun vs s' h => by obtain ⟨n51, n61, rfl, h1, h2⟩ := h; exact ⟨⟨⟨_, rfl⟩, ⟨⟨_, rfl⟩, trivial⟩⟩, ⟨_, _, rfl, h1⟩, h2⟩)
def T_soil_most_int (W : World) (n1 : Int) (x2 : Option Addr) (l3 c4 : Nat) (R : Ending → Hp → Prop) : Hp → Prop :=
 L_soil_most_int_0 W R x2 l3 c4 (↑l3 : Int) n1 0
theorem does_soil_most_int (W : World) (n1 : Int) (x2 : Option Addr) (l3 c4 : Nat) (R : Ending → Hp → Prop) (s : Hp) (h : T_soil_most_int W n1 x2 l3 c4 R s) : Does Pg W F_soil_most_int #[(.int .i64 n1), (.slice x2 l3 c4)] s R :=
  does_of_vfun Pg W an_93 Tryz.func93 rfl (by kernel_rfl) (Eq.mpr (by kernel_rfl) h)
def an_94 : Nat → Ann := fun b => match b with
 | 0 => { ms := [0, 9], ks := [.i .i64, .i .i64], us := [4, 7, 8, 18], rt := false, ex := [] }
 | _ => {}
abbrev rv_94 : List ResultVar := [.tmp 4]
abbrev rs_94 : List Nat := [18, 4]
def L_soil_least_int_0 (W : World) (R : Ending → Hp → Prop) (zp0 : Option Addr) (zl1 zl2 : Nat) (zn3 n5 n6 : Int) : Hp → Prop :=
 LOOPN [.i .i64, .i .i64] (fun ys next s => ∀ j : Tm, vc Pg W 18 rs_94 an_94 false (sub (bodyOf Tryz.f94) [1, 0, 1, 0, 0]) 0 (KLoop [0, 9] [4, 7, 8, 18] [(.int .i64 0), (.slice zp0 zl1 zl2), (.int .i64 zn3), (.tuple #[])] next (KBlk 0 (KS Pg W 18 rs_94 an_94 false (sub (bodyOf Tryz.f94) [1, 1]) 0 (fin Pg W 18 rv_94 R)))) (known [0, 9] ys (known [4, 7, 8, 18] [(.int .i64 0), (.slice zp0 zl1 zl2), (.int .i64 zn3), (.tuple #[])] j)) s) [(.int .i64 n5), (.int .i64 n6)]
def B_soil_least_int_0 (W : World) (R : Ending → Hp → Prop) (zp0 : Option Addr) (zl1 zl2 : Nat) (zn3 n5 n6 : Int) (nx0 : List Value → Hp → Prop) : Hp → Prop :=
 BR (decide (n6 < zn3))
 (IXS zp0 zl1 n6 1 fun a7 =>
 RDI .i64 a7 fun n8 =>
 NX [(.int .i64 0), (.slice zp0 zl1 zl2), (.int .i64 zn3), (.tuple #[])] [(.int .i64 0), (.slice zp0 zl1 zl2), (.int .i64 zn3), (.tuple #[])] (nx0 [(.int .i64 (if n8 < n5 then n8 else n5)), (.int .i64 (IntKind.wrap .i64 (n6 + 1)))]))
 (R (.returned (.int .i64 n5)))
theorem B_soil_least_int_0_eq (W : World) (R : Ending → Hp → Prop) (zp0 : Option Addr) (zl1 zl2 : Nat) (zn3 n5 n6 : Int) (nx0 : List Value → Hp → Prop) (j : Tm) : vc Pg W 18 rs_94 an_94 false (sub (bodyOf Tryz.f94) [1, 0, 1, 0, 0]) 0 (KLoop [0, 9] [4, 7, 8, 18] [(.int .i64 0), (.slice zp0 zl1 zl2), (.int .i64 zn3), (.tuple #[])] nx0 (KBlk 0 (KS Pg W 18 rs_94 an_94 false (sub (bodyOf Tryz.f94) [1, 1]) 0 (fin Pg W 18 rv_94 R)))) (known [0, 9] [(.int .i64 n5), (.int .i64 n6)] (known [4, 7, 8, 18] [(.int .i64 0), (.slice zp0 zl1 zl2), (.int .i64 zn3), (.tuple #[])] j)) = B_soil_least_int_0 W R zp0 zl1 zl2 zn3 n5 n6 nx0 := by kernel_rfl
def N_soil_least_int_0 (I : Int → Int → Hp → Prop) (μ : Int → Int → Hp → Nat) (n50 n60 : Int) (s : Hp) (vs : List Value) : Hp → Prop := fun s' => ∃ n5 n6, vs = [(.int .i64 n5), (.int .i64 n6)] ∧ I n5 n6 s' ∧ μ n5 n6 s' < μ n50 n60 s
theorem L_soil_least_int_0_rule (W : World) (R : Ending → Hp → Prop) (zp0 : Option Addr) (zl1 zl2 : Nat) (zn3 : Int) (I : Int → Int → Hp → Prop) (μ : Int → Int → Hp → Nat) (n50 n60 : Int) (s : Hp) (h0 : I n50 n60 s)
    (hr : ∀ (n5 : Int) (n6 : Int) (s : Hp), I n5 n6 s → B_soil_least_int_0 W R zp0 zl1 zl2 zn3 n5 n6 (fun vs => N_soil_least_int_0 I μ n5 n6 s vs) s) : L_soil_least_int_0 W R zp0 zl1 zl2 zn3 n50 n60 s := by
  refine ⟨fun vs s => ∃ n5 n6, vs = [(.int .i64 n5), (.int .i64 n6)] ∧ I n5 n6 s, fun vs s => (match vs with | [.int _ n5, .int _ n6] => μ n5 n6 s | _ => 0), ⟨⟨⟨_, rfl⟩, ⟨⟨_, rfl⟩, trivial⟩⟩, ⟨_, _, rfl, h0⟩⟩, ?_⟩
  intro n5 n6 s hI j
  obtain ⟨n5', n6', hy, hI⟩ := hI
  have hI' : I n5 n6 s := by cases hy; exact hI
  have hh := hr n5 n6 s hI'
  rw [← B_soil_least_int_0_eq W R zp0 zl1 zl2 zn3 n5 n6 _ j] at hh
  refine vc_mono ?_ _ _ hh
  exact KLoop_mono (fun vs s' h => by obtain ⟨n51, n61, rfl, h1, h2⟩ := h; exact ⟨⟨⟨_, rfl⟩, ⟨⟨_, rfl⟩, trivial⟩⟩, ⟨_, _, rfl, h1⟩, h2⟩)
def T_soil_least_int (W : World) (n1 : Int) (x2 : Option Addr) (l3 c4 : Nat) (R : Ending → Hp → Prop) : Hp → Prop :=
 L_soil_least_int_0 W R x2 l3 c4 (↑l3 : Int) n1 0
theorem does_soil_least_int (W : World) (n1 : Int) (x2 : Option Addr) (l3 c4 : Nat) (R : Ending → Hp → Prop) (s : Hp) (h : T_soil_least_int W n1 x2 l3 c4 R s) : Does Pg W F_soil_least_int #[(.int .i64 n1), (.slice x2 l3 c4)] s R :=
  does_of_vfun Pg W an_94 Tryz.func94 rfl (by kernel_rfl) (Eq.mpr (by kernel_rfl) h)
def an_95 : Nat → Ann := fun b => match b with
 | _ => {}
def T_soil_mix_tight (W : World) (n1 n2 n3 n4 n5 n6 : Int) (R : Ending → Hp → Prop) : Hp → Prop :=
 NEW 104 [(.int .i64 n1), (.int .i64 n2), (.int .i64 n3), (.int .i64 n4), (.int .i64 n5), (.int .i64 n6)] fun B7 =>
 NEWZ Pg 104 fun B8 =>
 RDI .i64 (Addr.add (Addr.add ⟨B7, 0, none⟩ 0) 0) fun n9 =>
 RDI .i64 (Addr.add (Addr.add ⟨B7, 0, none⟩ 0) 1) fun n10 =>
 RDI .i64 (Addr.add (Addr.add ⟨B7, 0, none⟩ 2) 0) fun n11 =>
 RDI .i64 (Addr.add (Addr.add ⟨B7, 0, none⟩ 2) 1) fun n12 =>
 RDI .i64 (Addr.add (Addr.add ⟨B7, 0, none⟩ 4) 0) fun n13 =>
 RDI .i64 (Addr.add (Addr.add ⟨B7, 0, none⟩ 4) 1) fun n14 =>
 RDI .i64 (Addr.add (Addr.add ⟨B7, 0, none⟩ 2) 0) fun n15 =>
 RDI .i64 (Addr.add (Addr.add ⟨B7, 0, none⟩ 2) 1) fun n16 =>
 RDI .i64 (Addr.add (Addr.add ⟨B7, 0, none⟩ 0) 0) fun n17 =>
 RDI .i64 (Addr.add (Addr.add ⟨B7, 0, none⟩ 0) 1) fun n18 =>
 RDI .i64 (Addr.add (Addr.add ⟨B7, 0, none⟩ 4) 0) fun n19 =>
 RDI .i64 (Addr.add (Addr.add ⟨B7, 0, none⟩ 4) 1) fun n20 =>
 RDI .i64 (Addr.add (Addr.add ⟨B7, 0, none⟩ 4) 0) fun n21 =>
 RDI .i64 (Addr.add (Addr.add ⟨B7, 0, none⟩ 4) 1) fun n22 =>
 RDI .i64 (Addr.add (Addr.add ⟨B7, 0, none⟩ 0) 0) fun n23 =>
 RDI .i64 (Addr.add (Addr.add ⟨B7, 0, none⟩ 0) 1) fun n24 =>
 RDI .i64 (Addr.add (Addr.add ⟨B7, 0, none⟩ 2) 0) fun n25 =>
 RDI .i64 (Addr.add (Addr.add ⟨B7, 0, none⟩ 2) 1) fun n26 =>
 CALLV Pg W (.func (.func 110) #[] #[]) [(.agg #[(.int .i64 n9), (.int .i64 n10)]), (.agg #[(.int .i64 n11), (.int .i64 n12)]), (.agg #[(.int .i64 n13), (.int .i64 n14)])]
 (fun v27 => AGG v27 fun q29 => HD q29 fun v30 r31 => TYI .i64 v30 fun n32 =>
 HD r31 fun v33 r34 => TYI .i64 v33 fun n35 =>
 NL r34 <|
 ANDS (RDI .i64 (Addr.add (Addr.add ⟨B7, 0, none⟩ 2) 0) fun n36 =>
 RDI .i64 (Addr.add (Addr.add ⟨B7, 0, none⟩ 2) 1) fun n37 =>
 fun _ => ((.agg #[(.int .i64 n36), (.int .i64 n37)]) : Value) = (.agg #[(.int .i64 n25), (.int .i64 n26)])) <|
 ANDS (RDI .i64 (Addr.add (Addr.add ⟨B7, 0, none⟩ 0) 0) fun n38 =>
 RDI .i64 (Addr.add (Addr.add ⟨B7, 0, none⟩ 0) 1) fun n39 =>
 fun _ => ((.agg #[(.int .i64 n38), (.int .i64 n39)]) : Value) = (.agg #[(.int .i64 n23), (.int .i64 n24)])) <|
 ANDS (RDI .i64 (Addr.add (Addr.add ⟨B7, 0, none⟩ 4) 0) fun n40 =>
 RDI .i64 (Addr.add (Addr.add ⟨B7, 0, none⟩ 4) 1) fun n41 =>
 fun _ => ((.agg #[(.int .i64 n40), (.int .i64 n41)]) : Value) = (.agg #[(.int .i64 n21), (.int .i64 n22)])) <|
 ANDS (RDI .i64 (Addr.add (Addr.add ⟨B7, 0, none⟩ 4) 0) fun n42 =>
 RDI .i64 (Addr.add (Addr.add ⟨B7, 0, none⟩ 4) 1) fun n43 =>
 fun _ => ((.agg #[(.int .i64 n42), (.int .i64 n43)]) : Value) = (.agg #[(.int .i64 n19), (.int .i64 n20)])) <|
 ANDS (RDI .i64 (Addr.add (Addr.add ⟨B7, 0, none⟩ 0) 0) fun n44 =>
 RDI .i64 (Addr.add (Addr.add ⟨B7, 0, none⟩ 0) 1) fun n45 =>
 fun _ => ((.agg #[(.int .i64 n44), (.int .i64 n45)]) : Value) = (.agg #[(.int .i64 n17), (.int .i64 n18)])) <|
 ANDS (RDI .i64 (Addr.add (Addr.add ⟨B7, 0, none⟩ 2) 0) fun n46 =>
 RDI .i64 (Addr.add (Addr.add ⟨B7, 0, none⟩ 2) 1) fun n47 =>
 fun _ => ((.agg #[(.int .i64 n46), (.int .i64 n47)]) : Value) = (.agg #[(.int .i64 n15), (.int .i64 n16)])) <|
 CALLV Pg W (.func (.func 110) #[] #[]) [(.agg #[(.int .i64 n15), (.int .i64 n16)]), (.agg #[(.int .i64 n17), (.int .i64 n18)]), (.agg #[(.int .i64 n19), (.int .i64 n20)])]
 (fun v48 => AGG v48 fun q50 => HD q50 fun v51 r52 => TYI .i64 v51 fun n53 =>
 HD r52 fun v54 r55 => TYI .i64 v54 fun n56 =>
 NL r55 <|
 ANDS (RDI .i64 (Addr.add (Addr.add ⟨B7, 0, none⟩ 2) 0) fun n57 =>
 RDI .i64 (Addr.add (Addr.add ⟨B7, 0, none⟩ 2) 1) fun n58 =>
 fun _ => ((.agg #[(.int .i64 n57), (.int .i64 n58)]) : Value) = (.agg #[(.int .i64 n25), (.int .i64 n26)])) <|
 ANDS (RDI .i64 (Addr.add (Addr.add ⟨B7, 0, none⟩ 0) 0) fun n59 =>
 RDI .i64 (Addr.add (Addr.add ⟨B7, 0, none⟩ 0) 1) fun n60 =>
 fun _ => ((.agg #[(.int .i64 n59), (.int .i64 n60)]) : Value) = (.agg #[(.int .i64 n23), (.int .i64 n24)])) <|
 ANDS (RDI .i64 (Addr.add (Addr.add ⟨B7, 0, none⟩ 4) 0) fun n61 =>
 RDI .i64 (Addr.add (Addr.add ⟨B7, 0, none⟩ 4) 1) fun n62 =>
 fun _ => ((.agg #[(.int .i64 n61), (.int .i64 n62)]) : Value) = (.agg #[(.int .i64 n21), (.int .i64 n22)])) <|
 CALLV Pg W (.func (.func 110) #[] #[]) [(.agg #[(.int .i64 n21), (.int .i64 n22)]), (.agg #[(.int .i64 n23), (.int .i64 n24)]), (.agg #[(.int .i64 n25), (.int .i64 n26)])]
 (fun v63 => AGG v63 fun q65 => HD q65 fun v66 r67 => TYI .i64 v66 fun n68 =>
 HD r67 fun v69 r70 => TYI .i64 v69 fun n71 =>
 NL r70 <|
 WR (Addr.add ⟨B8, 0, none⟩ 0) (.int .i64 n32) <|
 WR (Addr.add ⟨B8, 0, none⟩ 1) (.int .i64 n35) <|
 WR (Addr.add ⟨B8, 0, none⟩ 2) (.int .i64 n53) <|
 WR (Addr.add ⟨B8, 0, none⟩ 3) (.int .i64 n56) <|
 WR (Addr.add ⟨B8, 0, none⟩ 4) (.int .i64 n68) <|
 WR (Addr.add ⟨B8, 0, none⟩ 5) (.int .i64 n71) <|
 RDI .i64 (Addr.add ⟨B8, 0, none⟩ 0) fun n72 =>
 RDI .i64 (Addr.add ⟨B8, 0, none⟩ 1) fun n73 =>
 RDI .i64 (Addr.add ⟨B8, 0, none⟩ 2) fun n74 =>
 RDI .i64 (Addr.add ⟨B8, 0, none⟩ 3) fun n75 =>
 RDI .i64 (Addr.add ⟨B8, 0, none⟩ 4) fun n76 =>
 RDI .i64 (Addr.add ⟨B8, 0, none⟩ 5) fun n77 =>
 R (.returned (.agg #[(.int .i64 n72), (.int .i64 n73), (.int .i64 n74), (.int .i64 n75), (.int .i64 n76), (.int .i64 n77)])))
 (fun e64 => R (.panicked e64)))
 (fun e49 => R (.panicked e49)))
 (fun e28 => R (.panicked e28))
theorem does_soil_mix_tight (W : World) (n1 n2 n3 n4 n5 n6 : Int) (R : Ending → Hp → Prop) (s : Hp) (h : T_soil_mix_tight W n1 n2 n3 n4 n5 n6 R s) : Does Pg W F_soil_mix_tight #[(.agg #[(.int .i64 n1), (.int .i64 n2), (.int .i64 n3), (.int .i64 n4), (.int .i64 n5), (.int .i64 n6)])] s R :=
  does_of_vfun Pg W an_95 Tryz.func95 rfl (by kernel_rfl) (Eq.mpr (by kernel_rfl) h)
def an_96 : Nat → Ann := fun b => match b with
 | _ => {}
def T_soil_mix_next_c1 (W : World) (n1 n2 : Int) (a3 : Addr) (R : Ending → Hp → Prop) : Hp → Prop :=
 NEW 27 [(.int .i64 n1), (.int .i64 n2)] fun B4 =>
 NEWZ Pg 27 fun B5 =>
 RDI .i64 (Addr.add ⟨B4, 0, none⟩ 0) fun n6 =>
 RDI .i64 a3 fun n7 =>
 RDI .i64 (Addr.add ⟨B4, 0, none⟩ 1) fun n8 =>
 RDI .i64 a3 fun n9 =>
 WR (Addr.add ⟨B5, 0, none⟩ 0) (.int .i64 (IntKind.wrap .i64 (n6 - n7))) <|
 WR (Addr.add ⟨B5, 0, none⟩ 1) (.int .i64 (IntKind.wrap .i64 (n8 + n9))) <|
 RDI .i64 (Addr.add ⟨B5, 0, none⟩ 0) fun n10 =>
 RDI .i64 (Addr.add ⟨B5, 0, none⟩ 1) fun n11 =>
 R (.returned (.agg #[(.int .i64 n10), (.int .i64 n11)]))
theorem does_soil_mix_next_c1 (W : World) (n1 n2 : Int) (a3 : Addr) (R : Ending → Hp → Prop) (s : Hp) (h : T_soil_mix_next_c1 W n1 n2 a3 R s) : Does Pg W F_soil_mix_next_c1 #[(.agg #[(.int .i64 n1), (.int .i64 n2)]), (.pointer (some a3))] s R :=
  does_of_vfun Pg W an_96 Tryz.func96 rfl (by kernel_rfl) (Eq.mpr (by kernel_rfl) h)
def an_110 : Nat → Ann := fun b => match b with
 | _ => {}
def T_soil_mix_tight_c1 (W : World) (n1 n2 n3 n4 n5 n6 : Int) (R : Ending → Hp → Prop) : Hp → Prop :=
 NEW 27 [(.int .i64 n1), (.int .i64 n2)] fun B7 =>
 NEW 27 [(.int .i64 n3), (.int .i64 n4)] fun B8 =>
 NEW 27 [(.int .i64 n5), (.int .i64 n6)] fun B9 =>
 NEWZ Pg 27 fun B10 =>
 RDI .i64 (Addr.add ⟨B7, 0, none⟩ 0) fun n11 =>
 RDI .i64 (Addr.add ⟨B8, 0, none⟩ 1) fun n12 =>
 RDI .i64 (Addr.add ⟨B9, 0, none⟩ 1) fun n13 =>
 RDI .i64 (Addr.add ⟨B7, 0, none⟩ 1) fun n14 =>
 RDI .i64 (Addr.add ⟨B8, 0, none⟩ 0) fun n15 =>
 RDI .i64 (Addr.add ⟨B9, 0, none⟩ 0) fun n16 =>
 CONJ [
 NEW 3 [(.int .i64 n11), (.int .i64 (IntKind.wrap .i64 ((IntKind.wrap .i64 (20 - n12)) - n13)))] fun B17 =>
 ANDS (RDI .i64 (Addr.add ⟨B9, 0, none⟩ 0) fun n18 =>
 fun _ => ((.int .i64 n18) : Value) = (.int .i64 n16)) <|
 ANDS (RDI .i64 (Addr.add ⟨B8, 0, none⟩ 0) fun n19 =>
 fun _ => ((.int .i64 n19) : Value) = (.int .i64 n15)) <|
 ANDS (RDI .i64 (Addr.add ⟨B7, 0, none⟩ 1) fun n20 =>
 fun _ => ((.int .i64 n20) : Value) = (.int .i64 n14)) <|
 CONJ [
 CALL Pg W F_soil_most_int [(.int .i64 0), (.slice (some ⟨B17, 0, none⟩) 2 2)]
 (fun v21 => TYI .i64 v21 fun n23 =>
 ANDS (RDI .i64 (Addr.add ⟨B9, 0, none⟩ 0) fun n24 =>
 fun _ => ((.int .i64 n24) : Value) = (.int .i64 n16)) <|
 ANDS (RDI .i64 (Addr.add ⟨B8, 0, none⟩ 0) fun n25 =>
 fun _ => ((.int .i64 n25) : Value) = (.int .i64 n15)) <|
 ANDS (RDI .i64 (Addr.add ⟨B7, 0, none⟩ 1) fun n26 =>
 fun _ => ((.int .i64 n26) : Value) = (.int .i64 n14)) <|
 NEW 3 [(.int .i64 n14), (.int .i64 (IntKind.wrap .i64 ((IntKind.wrap .i64 (20 - n15)) - n16)))] fun B27 =>
 ANDS (RDI .i64 (Addr.add ⟨B9, 0, none⟩ 1) fun n28 =>
 fun _ => ((.int .i64 n28) : Value) = (.int .i64 n13)) <|
 ANDS (RDI .i64 (Addr.add ⟨B8, 0, none⟩ 1) fun n29 =>
 fun _ => ((.int .i64 n29) : Value) = (.int .i64 n12)) <|
 ANDS (RDI .i64 (Addr.add ⟨B7, 0, none⟩ 0) fun n30 =>
 fun _ => ((.int .i64 n30) : Value) = (.int .i64 n11)) <|
 CALL Pg W F_soil_least_int [(.int .i64 20), (.slice (some ⟨B27, 0, none⟩) 2 2)]
 (fun v31 => TYI .i64 v31 fun n33 =>
 WR (Addr.add ⟨B10, 0, none⟩ 0) (.int .i64 n23) <|
 WR (Addr.add ⟨B10, 0, none⟩ 1) (.int .i64 n33) <|
 RDI .i64 (Addr.add ⟨B10, 0, none⟩ 0) fun n34 =>
 RDI .i64 (Addr.add ⟨B10, 0, none⟩ 1) fun n35 =>
 R (.returned (.agg #[(.int .i64 n34), (.int .i64 n35)])))
 (fun e32 => R (.panicked e32)))
 (fun e22 => R (.panicked e22)),
 NEW 3 [(.int .i64 n14), (.int .i64 (IntKind.wrap .i64 ((IntKind.wrap .i64 (20 - n15)) - n16)))] fun B36 =>
 ANDS (RDI .i64 (Addr.add ⟨B9, 0, none⟩ 1) fun n37 =>
 fun _ => ((.int .i64 n37) : Value) = (.int .i64 n13)) <|
 ANDS (RDI .i64 (Addr.add ⟨B8, 0, none⟩ 1) fun n38 =>
 fun _ => ((.int .i64 n38) : Value) = (.int .i64 n12)) <|
 ANDS (RDI .i64 (Addr.add ⟨B7, 0, none⟩ 0) fun n39 =>
 fun _ => ((.int .i64 n39) : Value) = (.int .i64 n11)) <|
 CALL Pg W F_soil_most_int [(.int .i64 0), (.slice (some ⟨B17, 0, none⟩) 2 2)]
 (fun v40 => TYI .i64 v40 fun n42 =>
 ANDS (RDI .i64 (Addr.add ⟨B9, 0, none⟩ 0) fun n43 =>
 fun _ => ((.int .i64 n43) : Value) = (.int .i64 n16)) <|
 ANDS (RDI .i64 (Addr.add ⟨B8, 0, none⟩ 0) fun n44 =>
 fun _ => ((.int .i64 n44) : Value) = (.int .i64 n15)) <|
 ANDS (RDI .i64 (Addr.add ⟨B7, 0, none⟩ 1) fun n45 =>
 fun _ => ((.int .i64 n45) : Value) = (.int .i64 n14)) <|
 CALL Pg W F_soil_least_int [(.int .i64 20), (.slice (some ⟨B36, 0, none⟩) 2 2)]
 (fun v46 => TYI .i64 v46 fun n48 =>
 WR (Addr.add ⟨B10, 0, none⟩ 0) (.int .i64 n42) <|
 WR (Addr.add ⟨B10, 0, none⟩ 1) (.int .i64 n48) <|
 RDI .i64 (Addr.add ⟨B10, 0, none⟩ 0) fun n49 =>
 RDI .i64 (Addr.add ⟨B10, 0, none⟩ 1) fun n50 =>
 R (.returned (.agg #[(.int .i64 n49), (.int .i64 n50)])))
 (fun e47 => R (.panicked e47)))
 (fun e41 => R (.panicked e41))],
 NEW 3 [(.int .i64 n14), (.int .i64 (IntKind.wrap .i64 ((IntKind.wrap .i64 (20 - n15)) - n16)))] fun B51 =>
 ANDS (RDI .i64 (Addr.add ⟨B9, 0, none⟩ 1) fun n52 =>
 fun _ => ((.int .i64 n52) : Value) = (.int .i64 n13)) <|
 ANDS (RDI .i64 (Addr.add ⟨B8, 0, none⟩ 1) fun n53 =>
 fun _ => ((.int .i64 n53) : Value) = (.int .i64 n12)) <|
 ANDS (RDI .i64 (Addr.add ⟨B7, 0, none⟩ 0) fun n54 =>
 fun _ => ((.int .i64 n54) : Value) = (.int .i64 n11)) <|
 NEW 3 [(.int .i64 n11), (.int .i64 (IntKind.wrap .i64 ((IntKind.wrap .i64 (20 - n12)) - n13)))] fun B55 =>
 ANDS (RDI .i64 (Addr.add ⟨B9, 0, none⟩ 0) fun n56 =>
 fun _ => ((.int .i64 n56) : Value) = (.int .i64 n16)) <|
 ANDS (RDI .i64 (Addr.add ⟨B8, 0, none⟩ 0) fun n57 =>
 fun _ => ((.int .i64 n57) : Value) = (.int .i64 n15)) <|
 ANDS (RDI .i64 (Addr.add ⟨B7, 0, none⟩ 1) fun n58 =>
 fun _ => ((.int .i64 n58) : Value) = (.int .i64 n14)) <|
 CALL Pg W F_soil_most_int [(.int .i64 0), (.slice (some ⟨B55, 0, none⟩) 2 2)]
 (fun v59 => TYI .i64 v59 fun n61 =>
 ANDS (RDI .i64 (Addr.add ⟨B9, 0, none⟩ 0) fun n62 =>
 fun _ => ((.int .i64 n62) : Value) = (.int .i64 n16)) <|
 ANDS (RDI .i64 (Addr.add ⟨B8, 0, none⟩ 0) fun n63 =>
 fun _ => ((.int .i64 n63) : Value) = (.int .i64 n15)) <|
 ANDS (RDI .i64 (Addr.add ⟨B7, 0, none⟩ 1) fun n64 =>
 fun _ => ((.int .i64 n64) : Value) = (.int .i64 n14)) <|
 CALL Pg W F_soil_least_int [(.int .i64 20), (.slice (some ⟨B51, 0, none⟩) 2 2)]
 (fun v65 => TYI .i64 v65 fun n67 =>
 WR (Addr.add ⟨B10, 0, none⟩ 0) (.int .i64 n61) <|
 WR (Addr.add ⟨B10, 0, none⟩ 1) (.int .i64 n67) <|
 RDI .i64 (Addr.add ⟨B10, 0, none⟩ 0) fun n68 =>
 RDI .i64 (Addr.add ⟨B10, 0, none⟩ 1) fun n69 =>
 R (.returned (.agg #[(.int .i64 n68), (.int .i64 n69)])))
 (fun e66 => R (.panicked e66)))
 (fun e60 => R (.panicked e60))]
theorem does_soil_mix_tight_c1 (W : World) (n1 n2 n3 n4 n5 n6 : Int) (R : Ending → Hp → Prop) (s : Hp) (h : T_soil_mix_tight_c1 W n1 n2 n3 n4 n5 n6 R s) : Does Pg W F_soil_mix_tight_c1 #[(.agg #[(.int .i64 n1), (.int .i64 n2)]), (.agg #[(.int .i64 n3), (.int .i64 n4)]), (.agg #[(.int .i64 n5), (.int .i64 n6)])] s R :=
  does_of_vfun Pg W an_110 Tryz.func110 rfl (by kernel_rfl) (Eq.mpr (by kernel_rfl) h)
def an_134 : Nat → Ann := fun b => match b with
 | _ => {}
def T_soil_limit_hard (W : World) (n1 n2 : Int) (R : Ending → Hp → Prop) : Hp → Prop :=
 NEW 153 [] fun B3 =>
 NEWZ Pg 27 fun B4 =>
 WR (Addr.add ⟨B4, 0, none⟩ 0) (.int .i64 0) <|
 WR (Addr.add ⟨B4, 0, none⟩ 1) (.int .i64 1000) <|
 RDI .i64 (Addr.add ⟨B4, 0, none⟩ 0) fun n5 =>
 RDI .i64 (Addr.add ⟨B4, 0, none⟩ 1) fun n6 =>
 R (.returned (.agg #[(.int .i64 n5), (.int .i64 n6)]))
theorem does_soil_limit_hard (W : World) (n1 n2 : Int) (R : Ending → Hp → Prop) (s : Hp) (h : T_soil_limit_hard W n1 n2 R s) : Does Pg W F_soil_limit_hard #[(.agg #[]), (.int .i64 n1), (.int .i64 n2)] s R :=
  does_of_vfun Pg W an_134 Tryz.func134 rfl (by kernel_rfl) (Eq.mpr (by kernel_rfl) h)
def an_135 : Nat → Ann := fun b => match b with
 | _ => {}
def T_soil_dug_hard (W : World) (n1 n2 n3 n4 n5 n6 n7 n8 n9 n10 n11 : Int) (R : Ending → Hp → Prop) : Hp → Prop :=
 NEW 156 [(.int .i64 n1), (.int .i64 n2), (.int .i64 n3), (.int .i64 n4), (.int .i64 n5), (.int .i64 n6), (.int .i64 n7), (.int .i64 n8), (.int .i64 n9)] fun B12 =>
 NEWZ Pg 27 fun B13 =>
 RDI .i64 (Addr.add ⟨B12, 0, none⟩ 0) fun n14 =>
 RDI .i64 (Addr.add ⟨B12, 0, none⟩ 0) fun n15 =>
 RDI .i64 (Addr.add (Addr.add ⟨B12, 0, none⟩ 1) 0) fun n16 =>
 RDI .i64 (Addr.add (Addr.add ⟨B12, 0, none⟩ 1) 1) fun n17 =>
 WR (Addr.add ⟨B13, 0, none⟩ 0) (.int .i64 (IntKind.wrap .i64 (n16 - (IntKind.wrap .i64 ((if (IntKind.wrap .i64 (n15 - n10)) > (IntKind.wrap .i64 (n10 - n14)) then (IntKind.wrap .i64 (n15 - n10)) else (IntKind.wrap .i64 (n10 - n14))) * n11))))) <|
 WR (Addr.add ⟨B13, 0, none⟩ 1) (.int .i64 (IntKind.wrap .i64 (n17 + (IntKind.wrap .i64 ((if (IntKind.wrap .i64 (n15 - n10)) > (IntKind.wrap .i64 (n10 - n14)) then (IntKind.wrap .i64 (n15 - n10)) else (IntKind.wrap .i64 (n10 - n14))) * n11))))) <|
 RDI .i64 (Addr.add ⟨B13, 0, none⟩ 0) fun n18 =>
 RDI .i64 (Addr.add ⟨B13, 0, none⟩ 1) fun n19 =>
 R (.returned (.agg #[(.int .i64 n18), (.int .i64 n19)]))
theorem does_soil_dug_hard (W : World) (n1 n2 n3 n4 n5 n6 n7 n8 n9 n10 n11 : Int) (R : Ending → Hp → Prop) (s : Hp) (h : T_soil_dug_hard W n1 n2 n3 n4 n5 n6 n7 n8 n9 n10 n11 R s) : Does Pg W F_soil_dug_hard #[(.agg #[(.int .i64 n1), (.int .i64 n2), (.int .i64 n3), (.int .i64 n4), (.int .i64 n5), (.int .i64 n6), (.int .i64 n7), (.int .i64 n8), (.int .i64 n9)]), (.int .i64 n10), (.int .i64 n11)] s R :=
  does_of_vfun Pg W an_135 Tryz.func135 rfl (by kernel_rfl) (Eq.mpr (by kernel_rfl) h)
open Go.V
def an_35 : Nat → Ann := fun b => match b with
 | _ => {}
def J_clock_Lasted_0 (W : World) (R : Ending → Hp → Prop) (x80 : Option Addr) (l81 c82 : Nat) (n83 : Int) (x84 : Option Addr) (l85 c86 : Nat) (x87 : Option Addr) (l88 c89 : Nat) (b113 : Bool) (B18 : Nat) (v114 : Value) (B16 B17 : Nat) : Hp → Prop :=
 CALL Pg W F_clock_open [(.agg #[(.slice x80 l81 c82), (.int .i64 n83), (.slice x84 l85 c86), (.slice x87 l88 c89)]), (.bool b113)]
 (fun v115 => TYP v115 fun p117 =>
 ANDS (RDV (Addr.add ⟨B18, 0, none⟩ 0) fun v118 =>
 fun _ => ((.agg #[v118]) : Value) = (.agg #[v114])) <|
 CALL Pg W F_clock_clock_ask [(.pointer p117), (.agg #[v114])]
 (fun v119 => AGG v119 fun q121 => HD q121 fun v122 r123 => TYI .i64 v122 fun n124 =>
 HD r123 fun v125 r126 => TYI .i64 v125 fun n127 =>
 NL r126 <|
 WR (Addr.add ⟨B16, 0, none⟩ 0) (.int .i64 n124) <|
 WR (Addr.add ⟨B16, 0, none⟩ 1) (.int .i64 n127) <|
 WR (Addr.add ⟨B17, 0, none⟩ 0) (.int .i64 0) <|
 DEF Pg W (.tuple #[(.func (.func 60) #[] #[(.pointer (some ⟨B17, 0, none⟩))]), (.tuple #[])]) none
 (RDI .i64 (Addr.add ⟨B16, 0, none⟩ 0) fun n128 =>
 RDI .i64 (Addr.add ⟨B16, 0, none⟩ 1) fun n129 =>
 RDI .i64 ⟨B17, 0, none⟩ fun n130 =>
 R (.returned (.tuple #[(.agg #[(.int .i64 n128), (.int .i64 n129)]), (.int .i64 n130)]))))
 (fun e120 => DEF Pg W (.tuple #[(.func (.func 60) #[] #[(.pointer (some ⟨B17, 0, none⟩))]), (.tuple #[])]) (some e120) (RDI .i64 (Addr.add ⟨B16, 0, none⟩ 0) fun n131 =>
 RDI .i64 (Addr.add ⟨B16, 0, none⟩ 1) fun n132 =>
 RDI .i64 ⟨B17, 0, none⟩ fun n133 =>
 R (.returned (.tuple #[(.agg #[(.int .i64 n131), (.int .i64 n132)]), (.int .i64 n133)])))))
 (fun e116 => DEF Pg W (.tuple #[(.func (.func 60) #[] #[(.pointer (some ⟨B17, 0, none⟩))]), (.tuple #[])]) (some e116) (RDI .i64 (Addr.add ⟨B16, 0, none⟩ 0) fun n134 =>
 RDI .i64 (Addr.add ⟨B16, 0, none⟩ 1) fun n135 =>
 RDI .i64 ⟨B17, 0, none⟩ fun n136 =>
 R (.returned (.tuple #[(.agg #[(.int .i64 n134), (.int .i64 n135)]), (.int .i64 n136)]))))
def T_clock_Lasted (W : World) (x1 : Option Addr) (l2 c3 : Nat) (n4 : Int) (x5 : Option Addr) (l6 c7 : Nat) (x8 : Option Addr) (l9 c10 : Nat) (n11 n12 : Int) (R : Ending → Hp → Prop) : Hp → Prop :=
 NEW 93 [(.slice x1 l2 c3), (.int .i64 n4), (.slice x5 l6 c7), (.slice x8 l9 c10)] fun B13 =>
 NEW 3 [(.int .i64 n11)] fun B14 =>
 NEW 3 [(.int .i64 n12)] fun B15 =>
 NEWZ Pg 27 fun B16 =>
 NEWZ Pg 34 fun B17 =>
 NEWZ Pg 140 fun B18 =>
 WR (Addr.add ⟨B18, 0, none⟩ 0) (.func (.func 62) #[] #[(.pointer (some ⟨B14, 0, none⟩)), (.pointer (some ⟨B15, 0, none⟩))]) <|
 RDL (Addr.add ⟨B13, 0, none⟩ 0) fun x19 l20 c21 =>
 RDI .i64 (Addr.add ⟨B13, 0, none⟩ 1) fun n22 =>
 RDL (Addr.add ⟨B13, 0, none⟩ 2) fun x23 l24 c25 =>
 RDL (Addr.add ⟨B13, 0, none⟩ 3) fun x26 l27 c28 =>
 RDL (Addr.add ⟨B13, 0, none⟩ 0) fun x29 l30 c31 =>
 RDI .i64 (Addr.add ⟨B13, 0, none⟩ 1) fun n32 =>
 RDL (Addr.add ⟨B13, 0, none⟩ 2) fun x33 l34 c35 =>
 RDL (Addr.add ⟨B13, 0, none⟩ 3) fun x36 l37 c38 =>
 RDI .i64 ⟨B14, 0, none⟩ fun n39 =>
 RDV (Addr.add ⟨B18, 0, none⟩ 0) fun v40 =>
 CALL Pg W F_clock_isEvent [(.agg #[(.slice x29 l30 c31), (.int .i64 n32), (.slice x33 l34 c35), (.slice x36 l37 c38)]), (.int .i64 n39)]
 (fun v41 => TYB v41 fun b43 =>
 ANDS (RDV (Addr.add ⟨B18, 0, none⟩ 0) fun v44 =>
 fun _ => ((.agg #[v44]) : Value) = (.agg #[v40])) <|
 ANDS (RDL (Addr.add ⟨B13, 0, none⟩ 0) fun x45 l46 c47 =>
 RDI .i64 (Addr.add ⟨B13, 0, none⟩ 1) fun n48 =>
 RDL (Addr.add ⟨B13, 0, none⟩ 2) fun x49 l50 c51 =>
 RDL (Addr.add ⟨B13, 0, none⟩ 3) fun x52 l53 c54 =>
 fun _ => ((.agg #[(.slice x45 l46 c47), (.int .i64 n48), (.slice x49 l50 c51), (.slice x52 l53 c54)]) : Value) = (.agg #[(.slice x19 l20 c21), (.int .i64 n22), (.slice x23 l24 c25), (.slice x26 l27 c28)])) <|
 BR b43
 (RDL (Addr.add ⟨B13, 0, none⟩ 0) fun x55 l56 c57 =>
 RDI .i64 (Addr.add ⟨B13, 0, none⟩ 1) fun n58 =>
 RDL (Addr.add ⟨B13, 0, none⟩ 2) fun x59 l60 c61 =>
 RDL (Addr.add ⟨B13, 0, none⟩ 3) fun x62 l63 c64 =>
 RDI .i64 ⟨B15, 0, none⟩ fun n65 =>
 CALL Pg W F_clock_isEvent [(.agg #[(.slice x55 l56 c57), (.int .i64 n58), (.slice x59 l60 c61), (.slice x62 l63 c64)]), (.int .i64 n65)]
 (fun v66 => TYB v66 fun b68 =>
 ANDS (RDV (Addr.add ⟨B18, 0, none⟩ 0) fun v69 =>
 fun _ => ((.agg #[v69]) : Value) = (.agg #[v40])) <|
 ANDS (RDL (Addr.add ⟨B13, 0, none⟩ 0) fun x70 l71 c72 =>
 RDI .i64 (Addr.add ⟨B13, 0, none⟩ 1) fun n73 =>
 RDL (Addr.add ⟨B13, 0, none⟩ 2) fun x74 l75 c76 =>
 RDL (Addr.add ⟨B13, 0, none⟩ 3) fun x77 l78 c79 =>
 fun _ => ((.agg #[(.slice x70 l71 c72), (.int .i64 n73), (.slice x74 l75 c76), (.slice x77 l78 c79)]) : Value) = (.agg #[(.slice x19 l20 c21), (.int .i64 n22), (.slice x23 l24 c25), (.slice x26 l27 c28)])) <|
 J_clock_Lasted_0 W R x19 l20 c21 n22 x23 l24 c25 x26 l27 c28 b68 B18 v40 B16 B17)
 (fun e67 => DEF Pg W (.tuple #[(.func (.func 60) #[] #[(.pointer (some ⟨B17, 0, none⟩))]), (.tuple #[])]) (some e67) (RDI .i64 (Addr.add ⟨B16, 0, none⟩ 0) fun n137 =>
 RDI .i64 (Addr.add ⟨B16, 0, none⟩ 1) fun n138 =>
 RDI .i64 ⟨B17, 0, none⟩ fun n139 =>
 R (.returned (.tuple #[(.agg #[(.int .i64 n137), (.int .i64 n138)]), (.int .i64 n139)])))))
 (J_clock_Lasted_0 W R x19 l20 c21 n22 x23 l24 c25 x26 l27 c28 false B18 v40 B16 B17))
 (fun e42 => DEF Pg W (.tuple #[(.func (.func 60) #[] #[(.pointer (some ⟨B17, 0, none⟩))]), (.tuple #[])]) (some e42) (RDI .i64 (Addr.add ⟨B16, 0, none⟩ 0) fun n140 =>
 RDI .i64 (Addr.add ⟨B16, 0, none⟩ 1) fun n141 =>
 RDI .i64 ⟨B17, 0, none⟩ fun n142 =>
 R (.returned (.tuple #[(.agg #[(.int .i64 n140), (.int .i64 n141)]), (.int .i64 n142)]))))
theorem does_clock_Lasted (W : World) (x1 : Option Addr) (l2 c3 : Nat) (n4 : Int) (x5 : Option Addr) (l6 c7 : Nat) (x8 : Option Addr) (l9 c10 : Nat) (n11 n12 : Int) (R : Ending → Hp → Prop) (s : Hp) (h : T_clock_Lasted W x1 l2 c3 n4 x5 l6 c7 x8 l9 c10 n11 n12 R s) : Does Pg W F_clock_Lasted #[(.agg #[(.slice x1 l2 c3), (.int .i64 n4), (.slice x5 l6 c7), (.slice x8 l9 c10)]), (.int .i64 n11), (.int .i64 n12)] s R :=
  does_of_vfun Pg W an_35 Tryz.func35 rfl (by kernel_rfl) (Eq.mpr (by kernel_rfl) h)
def an_62 : Nat → Ann := fun b => match b with
 | _ => {}
def T_clock_Lasted_c2 (W : World) (n1 n2 n3 n4 : Int) (m5 : Option Nat) (a6 : Addr) (a7 : Addr) (R : Ending → Hp → Prop) : Hp → Prop :=
 NEW 135 [(.int .i64 n1), (.int .i64 n2), (.int .i64 n3), (.int .i64 n4)] fun B8 =>
 NEWZ Pg 27 fun B9 =>
 RDI .i64 a6 fun n10 =>
 RDI .i64 a7 fun n11 =>
 CALL Pg W F_clock_bounds_later [(.map m5), (.int .i64 n10), (.int .i64 n11)]
 (fun v12 => AGG v12 fun q14 => HD q14 fun v15 r16 => TYI .i64 v15 fun n17 =>
 HD r16 fun v18 r19 => TYI .i64 v18 fun n20 =>
 NL r19 <|
 WR (Addr.add ⟨B9, 0, none⟩ 0) (.int .i64 n17) <|
 WR (Addr.add ⟨B9, 0, none⟩ 1) (.int .i64 n20) <|
 RDI .i64 (Addr.add ⟨B9, 0, none⟩ 0) fun n21 =>
 RDI .i64 (Addr.add ⟨B9, 0, none⟩ 1) fun n22 =>
 R (.returned (.agg #[(.int .i64 n21), (.int .i64 n22)])))
 (fun e13 => R (.panicked e13))
theorem does_clock_Lasted_c2 (W : World) (n1 n2 n3 n4 : Int) (m5 : Option Nat) (a6 : Addr) (a7 : Addr) (R : Ending → Hp → Prop) (s : Hp) (h : T_clock_Lasted_c2 W n1 n2 n3 n4 m5 a6 a7 R s) : Does Pg W F_clock_Lasted_c2 #[(.agg #[(.int .i64 n1), (.int .i64 n2), (.int .i64 n3), (.int .i64 n4)]), (.map m5), (.pointer (some a6)), (.pointer (some a7))] s R :=
  does_of_vfun Pg W an_62 Tryz.func62 rfl (by kernel_rfl) (Eq.mpr (by kernel_rfl) h)
def an_63 : Nat → Ann := fun b => match b with
 | _ => {}
def T_clock_bounds_later (W : World) (m1 : Option Nat) (n2 n3 : Int) (R : Ending → Hp → Prop) : Hp → Prop :=
 NEWZ Pg 27 fun B4 =>
 BR (n2 == n3)
 (WR (Addr.add ⟨B4, 0, none⟩ 0) (.int .i64 0) <|
 WR (Addr.add ⟨B4, 0, none⟩ 1) (.int .i64 0) <|
 RDI .i64 (Addr.add ⟨B4, 0, none⟩ 0) fun n5 =>
 RDI .i64 (Addr.add ⟨B4, 0, none⟩ 1) fun n6 =>
 R (.returned (.agg #[(.int .i64 n5), (.int .i64 n6)])))
 (CONJ [
 LKP Pg 137 (.map m1) (.agg #[(.int .i64 n3), (.int .i64 n2)]) false fun v7 =>
 TYI .i64 v7 fun n8 =>
 LKP Pg 137 (.map m1) (.agg #[(.int .i64 n2), (.int .i64 n3)]) false fun v9 =>
 TYI .i64 v9 fun n10 =>
 WR (Addr.add ⟨B4, 0, none⟩ 0) (.int .i64 (IntKind.wrap .i64 (0 - n8))) <|
 WR (Addr.add ⟨B4, 0, none⟩ 1) (.int .i64 n10) <|
 RDI .i64 (Addr.add ⟨B4, 0, none⟩ 0) fun n11 =>
 RDI .i64 (Addr.add ⟨B4, 0, none⟩ 1) fun n12 =>
 R (.returned (.agg #[(.int .i64 n11), (.int .i64 n12)])),
 LKP Pg 137 (.map m1) (.agg #[(.int .i64 n2), (.int .i64 n3)]) false fun v13 =>
 TYI .i64 v13 fun n14 =>
 LKP Pg 137 (.map m1) (.agg #[(.int .i64 n3), (.int .i64 n2)]) false fun v15 =>
 TYI .i64 v15 fun n16 =>
 WR (Addr.add ⟨B4, 0, none⟩ 0) (.int .i64 (IntKind.wrap .i64 (0 - n16))) <|
 WR (Addr.add ⟨B4, 0, none⟩ 1) (.int .i64 n14) <|
 RDI .i64 (Addr.add ⟨B4, 0, none⟩ 0) fun n17 =>
 RDI .i64 (Addr.add ⟨B4, 0, none⟩ 1) fun n18 =>
 R (.returned (.agg #[(.int .i64 n17), (.int .i64 n18)]))])
theorem does_clock_bounds_later (W : World) (m1 : Option Nat) (n2 n3 : Int) (R : Ending → Hp → Prop) (s : Hp) (h : T_clock_bounds_later W m1 n2 n3 R s) : Does Pg W F_clock_bounds_later #[(.map m1), (.int .i64 n2), (.int .i64 n3)] s R :=
  does_of_vfun Pg W an_63 Tryz.func63 rfl (by kernel_rfl) (Eq.mpr (by kernel_rfl) h)
def an_64 : Nat → Ann := fun b => match b with
 | _ => {}
def T_clock_open (W : World) (x1 : Option Addr) (l2 c3 : Nat) (n4 : Int) (x5 : Option Addr) (l6 c7 : Nat) (x8 : Option Addr) (l9 c10 : Nat) (b11 : Bool) (R : Ending → Hp → Prop) : Hp → Prop :=
 NEW 93 [(.slice x1 l2 c3), (.int .i64 n4), (.slice x5 l6 c7), (.slice x8 l9 c10)] fun B12 =>
 RDL (Addr.add ⟨B12, 0, none⟩ 0) fun x13 l14 c15 =>
 RDI .i64 (Addr.add ⟨B12, 0, none⟩ 1) fun n16 =>
 RDL (Addr.add ⟨B12, 0, none⟩ 2) fun x17 l18 c19 =>
 RDL (Addr.add ⟨B12, 0, none⟩ 3) fun x20 l21 c22 =>
 CALL Pg W F_clock_isClock [(.agg #[(.slice x13 l14 c15), (.int .i64 n16), (.slice x17 l18 c19), (.slice x20 l21 c22)])]
 (fun v23 => TYB v23 fun b25 =>
 CALL Pg W F_clock_need [(.bool b25), (.int .i64 1)]
 (fun v26 => TUP v26 fun q28 => NL q28 <|
 CALL Pg W F_clock_need [(.bool b11), (.int .i64 2)]
 (fun v29 => TUP v29 fun q31 => NL q31 <|
 RDL (Addr.add ⟨B12, 0, none⟩ 0) fun x32 l33 c34 =>
 RDI .i64 (Addr.add ⟨B12, 0, none⟩ 1) fun n35 =>
 RDL (Addr.add ⟨B12, 0, none⟩ 2) fun x36 l37 c38 =>
 RDL (Addr.add ⟨B12, 0, none⟩ 3) fun x39 l40 c41 =>
 NEW 187 [(.slice x32 l33 c34), (.int .i64 n35), (.slice x36 l37 c38), (.slice x39 l40 c41)] fun B42 =>
 R (.returned (.pointer (some ⟨B42, 0, none⟩))))
 (fun e30 => R (.panicked e30)))
 (fun e27 => R (.panicked e27)))
 (fun e24 => R (.panicked e24))
theorem does_clock_open (W : World) (x1 : Option Addr) (l2 c3 : Nat) (n4 : Int) (x5 : Option Addr) (l6 c7 : Nat) (x8 : Option Addr) (l9 c10 : Nat) (b11 : Bool) (R : Ending → Hp → Prop) (s : Hp) (h : T_clock_open W x1 l2 c3 n4 x5 l6 c7 x8 l9 c10 b11 R s) : Does Pg W F_clock_open #[(.agg #[(.slice x1 l2 c3), (.int .i64 n4), (.slice x5 l6 c7), (.slice x8 l9 c10)]), (.bool b11)] s R :=
  does_of_vfun Pg W an_64 Tryz.func64 rfl (by kernel_rfl) (Eq.mpr (by kernel_rfl) h)
def an_65 : Nat → Ann := fun b => match b with
 | _ => {}
def T_clock_isEvent (W : World) (x1 : Option Addr) (l2 c3 : Nat) (n4 : Int) (x5 : Option Addr) (l6 c7 : Nat) (x8 : Option Addr) (l9 c10 : Nat) (n11 : Int) (R : Ending → Hp → Prop) : Hp → Prop :=
 NEW 93 [(.slice x1 l2 c3), (.int .i64 n4), (.slice x5 l6 c7), (.slice x8 l9 c10)] fun B12 =>
 RDI .i64 (Addr.add ⟨B12, 0, none⟩ 1) fun n13 =>
 CALL Pg W F_clock_within [(.int .i64 n11), (.int .i64 0), (.int .i64 (IntKind.wrap .i64 (n13 - 1)))]
 (fun v14 => TYB v14 fun b16 =>
 R (.returned (.bool b16)))
 (fun e15 => R (.panicked e15))
theorem does_clock_isEvent (W : World) (x1 : Option Addr) (l2 c3 : Nat) (n4 : Int) (x5 : Option Addr) (l6 c7 : Nat) (x8 : Option Addr) (l9 c10 : Nat) (n11 : Int) (R : Ending → Hp → Prop) (s : Hp) (h : T_clock_isEvent W x1 l2 c3 n4 x5 l6 c7 x8 l9 c10 n11 R s) : Does Pg W F_clock_isEvent #[(.agg #[(.slice x1 l2 c3), (.int .i64 n4), (.slice x5 l6 c7), (.slice x8 l9 c10)]), (.int .i64 n11)] s R :=
  does_of_vfun Pg W an_65 Tryz.func65 rfl (by kernel_rfl) (Eq.mpr (by kernel_rfl) h)
def an_66 : Nat → Ann := fun b => match b with
 | 0 => { ms := [], ks := [.v, .m], us := [], rt := false, ex := [], pt := [135, 137] }
 | _ => {}
def T_clock_clock_ask (W : World) (p1 : Option Addr) (v2 : Value) (R : Ending → Hp → Prop) : Hp → Prop :=
 NEW 140 [v2] fun B3 =>
 NEWZ Pg 27 fun B4 =>
 NEWZ Pg 189 fun B5 =>
 NEWZ Pg 190 fun B6 =>
 WR (Addr.add ⟨B6, 0, none⟩ 0) (.func (.func 89) #[(.pointer (some ⟨B5, 0, none⟩))] #[]) <|
 CALL Pg W F_clock_clock_every [(.pointer p1)]
 (fun v7 => TYI .u64 v7 fun n9 =>
 CALL Pg W F_clock_clock_truths [(.pointer p1), (.int .u64 n9)]
 (fun v10 => RNGN Pg W v10 2
 (fun y12 fin13 => HD y12 fun v14 r15 => AGG v14 fun q16 => HD q16 fun v17 r18 => TYI .i64 v17 fun n19 =>
 HD r18 fun v20 r21 => TYI .i64 v20 fun n22 =>
 HD r21 fun v23 r24 => TYI .i64 v23 fun n25 =>
 HD r24 fun v26 r27 => TYI .i64 v26 fun n28 =>
 NL r27 <|
 HD r15 fun v29 r30 => TYM v29 fun m31 =>
 NL r30 <|
 NEWZ Pg 135 fun B32 =>
 WR (Addr.add ⟨B32, 0, none⟩ 0) (.int .i64 n19) <|
 WR (Addr.add ⟨B32, 0, none⟩ 1) (.int .i64 n22) <|
 WR (Addr.add ⟨B32, 0, none⟩ 2) (.int .i64 n25) <|
 WR (Addr.add ⟨B32, 0, none⟩ 3) (.int .i64 n28) <|
 RDV (Addr.add ⟨B3, 0, none⟩ 0) fun v33 =>
 RDI .i64 (Addr.add ⟨B32, 0, none⟩ 0) fun n34 =>
 RDI .i64 (Addr.add ⟨B32, 0, none⟩ 1) fun n35 =>
 RDI .i64 (Addr.add ⟨B32, 0, none⟩ 2) fun n36 =>
 RDI .i64 (Addr.add ⟨B32, 0, none⟩ 3) fun n37 =>
 CALLV Pg W v33 [(.agg #[(.int .i64 n34), (.int .i64 n35), (.int .i64 n36), (.int .i64 n37)]), (.map m31)]
 (fun v38 => AGG v38 fun q40 => HD q40 fun v41 r42 => TYI .i64 v41 fun n43 =>
 HD r42 fun v44 r45 => TYI .i64 v44 fun n46 =>
 NL r45 <|
 NEWZ Pg 27 fun B47 =>
 WR (Addr.add ⟨B47, 0, none⟩ 0) (.int .i64 n43) <|
 WR (Addr.add ⟨B47, 0, none⟩ 1) (.int .i64 n46) <|
 RDV ⟨B6, 0, none⟩ fun v48 =>
 RDI .i64 (Addr.add ⟨B47, 0, none⟩ 0) fun n49 =>
 RDI .i64 (Addr.add ⟨B47, 0, none⟩ 1) fun n50 =>
 NEW 3 [(.int .i64 n49), (.int .i64 n50)] fun B51 =>
 CALLV Pg W v48 [(.slice (some ⟨B51, 0, none⟩) 2 2)]
 (fun v52 => TUP v52 fun q54 => NL q54 <|
 fin13 none)
 (fun e53 => FF))
 (fun e39 => FF))
 (AFT
 (RDB (Addr.add ⟨B5, 0, none⟩ 2) fun b55 =>
 CALL Pg W F_clock_need [(.bool b55), (.int .i64 10)]
 (fun v56 => TUP v56 fun q58 => NL q58 <|
 RDI .i64 (Addr.add ⟨B5, 0, none⟩ 0) fun n59 =>
 RDI .i64 (Addr.add ⟨B5, 0, none⟩ 1) fun n60 =>
 WR (Addr.add ⟨B4, 0, none⟩ 0) (.int .i64 n59) <|
 WR (Addr.add ⟨B4, 0, none⟩ 1) (.int .i64 n60) <|
 RDI .i64 (Addr.add ⟨B4, 0, none⟩ 0) fun n61 =>
 RDI .i64 (Addr.add ⟨B4, 0, none⟩ 1) fun n62 =>
 R (.returned (.agg #[(.int .i64 n61), (.int .i64 n62)])))
 (fun e57 => R (.panicked e57))) (FF) (EXL [] fun _ => FF)))
 (fun e11 => R (.panicked e11)))
 (fun e8 => R (.panicked e8))
theorem does_clock_clock_ask (W : World) (p1 : Option Addr) (v2 : Value) (R : Ending → Hp → Prop) (s : Hp) (h : T_clock_clock_ask W p1 v2 R s) : Does Pg W F_clock_clock_ask #[(.pointer p1), (.agg #[v2])] s R :=
  does_of_vfun Pg W an_66 Tryz.func66 rfl (by kernel_rfl) (Eq.mpr (by kernel_rfl) h)
def an_86 : Nat → Ann := fun b => match b with
 | _ => {}
def T_clock_need (W : World) (b1 : Bool) (n2 : Int) (R : Ending → Hp → Prop) : Hp → Prop :=
 BR (!b1)
 (R (.panicked [{ v := (.iface 181 (.agg #[(.int .i64 n2)])), recovered := false }]))
 (R (.returned (.tuple #[])))
theorem does_clock_need (W : World) (b1 : Bool) (n2 : Int) (R : Ending → Hp → Prop) (s : Hp) (h : T_clock_need W b1 n2 R s) : Does Pg W F_clock_need #[(.bool b1), (.int .i64 n2)] s R :=
  does_of_vfun Pg W an_86 Tryz.func86 rfl (by kernel_rfl) (Eq.mpr (by kernel_rfl) h)
def an_87 : Nat → Ann := fun b => match b with
 | _ => {}
def J_clock_isClock_0 (W : World) (R : Ending → Hp → Prop) (b41 : Bool) (B11 : Nat) : Hp → Prop :=
 BR b41
 (RDL (Addr.add ⟨B11, 0, none⟩ 3) fun x42 l43 c44 =>
 CALL Pg W F_slices_ContainsFunc_api_ClockLink_api_ClockLink [(.slice x42 l43 c44), (.func (.func 102) #[] #[(.pointer (some ⟨B11, 0, none⟩))])]
 (fun v45 => TYB v45 fun b47 =>
 R (.returned (.bool (!b47))))
 (fun e46 => R (.panicked e46)))
 (R (.returned (.bool false)))
def J_clock_isClock_1 (W : World) (R : Ending → Hp → Prop) (b34 : Bool) (B11 : Nat) : Hp → Prop :=
 BR b34
 (RDL (Addr.add ⟨B11, 0, none⟩ 2) fun x35 l36 c37 =>
 CALL Pg W F_slices_ContainsFunc_api_ClockReading_api_ClockReading [(.slice x35 l36 c37), (.func (.func 100) #[] #[(.pointer (some ⟨B11, 0, none⟩))])]
 (fun v38 => TYB v38 fun b40 =>
 J_clock_isClock_0 W R (!b40) B11)
 (fun e39 => R (.panicked e39)))
 (J_clock_isClock_0 W R false B11)
def J_clock_isClock_2 (W : World) (R : Ending → Hp → Prop) (b27 : Bool) (B11 : Nat) : Hp → Prop :=
 BR b27
 (RDL (Addr.add ⟨B11, 0, none⟩ 0) fun x28 l29 c30 =>
 CALL Pg W F_slices_ContainsFunc_api_ClockWatch_api_ClockWatch [(.slice x28 l29 c30), (.func (.func 98) #[] #[])]
 (fun v31 => TYB v31 fun b33 =>
 J_clock_isClock_1 W R (!b33) B11)
 (fun e32 => R (.panicked e32)))
 (J_clock_isClock_1 W R false B11)
def J_clock_isClock_3 (W : World) (R : Ending → Hp → Prop) (b23 : Bool) (B11 : Nat) : Hp → Prop :=
 BR b23
 (RDL (Addr.add ⟨B11, 0, none⟩ 3) fun x24 l25 c26 =>
 J_clock_isClock_2 W R (decide ((↑l25 : Int) ≤ 5)) B11)
 (J_clock_isClock_2 W R false B11)
def J_clock_isClock_4 (W : World) (R : Ending → Hp → Prop) (b19 : Bool) (B11 : Nat) : Hp → Prop :=
 BR b19
 (RDL (Addr.add ⟨B11, 0, none⟩ 2) fun x20 l21 c22 =>
 J_clock_isClock_3 W R (decide ((↑l21 : Int) ≤ 8)) B11)
 (J_clock_isClock_3 W R false B11)
def T_clock_isClock (W : World) (x1 : Option Addr) (l2 c3 : Nat) (n4 : Int) (x5 : Option Addr) (l6 c7 : Nat) (x8 : Option Addr) (l9 c10 : Nat) (R : Ending → Hp → Prop) : Hp → Prop :=
 NEW 93 [(.slice x1 l2 c3), (.int .i64 n4), (.slice x5 l6 c7), (.slice x8 l9 c10)] fun B11 =>
 RDL (Addr.add ⟨B11, 0, none⟩ 0) fun x12 l13 c14 =>
 BR (decide ((↑l13 : Int) ≤ 2))
 (RDI .i64 (Addr.add ⟨B11, 0, none⟩ 1) fun n15 =>
 CALL Pg W F_clock_within [(.int .i64 n15), (.int .i64 0), (.int .i64 5)]
 (fun v16 => TYB v16 fun b18 =>
 J_clock_isClock_4 W R b18 B11)
 (fun e17 => R (.panicked e17)))
 (J_clock_isClock_4 W R false B11)
theorem does_clock_isClock (W : World) (x1 : Option Addr) (l2 c3 : Nat) (n4 : Int) (x5 : Option Addr) (l6 c7 : Nat) (x8 : Option Addr) (l9 c10 : Nat) (R : Ending → Hp → Prop) (s : Hp) (h : T_clock_isClock W x1 l2 c3 n4 x5 l6 c7 x8 l9 c10 R s) : Does Pg W F_clock_isClock #[(.agg #[(.slice x1 l2 c3), (.int .i64 n4), (.slice x5 l6 c7), (.slice x8 l9 c10)])] s R :=
  does_of_vfun Pg W an_87 Tryz.func87 rfl (by kernel_rfl) (Eq.mpr (by kernel_rfl) h)
def an_88 : Nat → Ann := fun b => match b with
 | _ => {}
def T_clock_within (W : World) (n1 n2 n3 : Int) (R : Ending → Hp → Prop) : Hp → Prop :=
 BR (decide (n2 ≤ n1))
 (R (.returned (.bool (decide (n1 ≤ n3)))))
 (R (.returned (.bool false)))
theorem does_clock_within (W : World) (n1 n2 n3 : Int) (R : Ending → Hp → Prop) (s : Hp) (h : T_clock_within W n1 n2 n3 R s) : Does Pg W F_clock_within #[(.int .i64 n1), (.int .i64 n2), (.int .i64 n3)] s R :=
  does_of_vfun Pg W an_88 Tryz.func88 rfl (by kernel_rfl) (Eq.mpr (by kernel_rfl) h)
def an_89 : Nat → Ann := fun b => match b with
 | 0 => { ms := [8], ks := [.i .i64], us := [0, 6, 7, 47], rt := false, ex := [] }
 | 1000000 => { acc := true }
 | _ => {}
abbrev rv_89 : List ResultVar := []
abbrev rs_89 : List Nat := [47]
def L_clock_ends_int_keep_0 (W : World) (R : Ending → Hp → Prop) (zp0 zp1 : Option Addr) (zl2 zl3 : Nat) (zn4 n5 : Int) : Hp → Prop :=
 LOOPN [.i .i64] (fun ys next s => ∀ j : Tm, vc Pg W 47 rs_89 an_89 false (sub (bodyOf Tryz.f89) [1, 0, 0]) 0 (KLoop [8] [0, 6, 7, 47] [(.pointer zp0), (.slice zp1 zl2 zl3), (.int .i64 zn4), (.tuple #[])] next (KBlk 0 (fin Pg W 47 rv_89 R))) (known [8] ys (known [0, 6, 7, 47] [(.pointer zp0), (.slice zp1 zl2 zl3), (.int .i64 zn4), (.tuple #[])] j)) s) [(.int .i64 n5)]
def J_clock_ends_int_keep_0 (W : World) (R : Ending → Hp → Prop) (zp0 : Option Addr) (n7 : Int) (zp1 : Option Addr) (zl2 zl3 : Nat) (zn4 : Int) (nx0 : List Value → Hp → Prop) (n5 : Int) : Hp → Prop :=
 SO zp0 fun a13 =>
 RDI .i64 (Addr.add a13 0) fun n14 =>
 SO zp0 fun a15 =>
 RDI .i64 (Addr.add a15 1) fun n16 =>
 CONJ [
 ANDS (RDI .i64 (Addr.add a15 1) fun n17 =>
 fun _ => ((.int .i64 n17) : Value) = (.int .i64 n16)) <|
 SO zp0 fun a18 =>
 CONJ [
 WR (Addr.add (Addr.add a18 0) 0) (.int .i64 (if n7 < n14 then n7 else n14)) <|
 SO zp0 fun a19 =>
 WR (Addr.add (Addr.add a19 1) 0) (.int .i64 (if n7 > n16 then n7 else n16)) <|
 NX [(.pointer zp0), (.slice zp1 zl2 zl3), (.int .i64 zn4), (.tuple #[])] [(.pointer zp0), (.slice zp1 zl2 zl3), (.int .i64 zn4), (.tuple #[])] (nx0 [(.int .i64 (IntKind.wrap .i64 (n5 + 1)))]),
 WR (Addr.add (Addr.add a18 0) 0) (.int .i64 (if n7 < n14 then n7 else n14)) <|
 SO zp0 fun a20 =>
 WR (Addr.add (Addr.add a20 1) 0) (.int .i64 (if n7 > n16 then n7 else n16)) <|
 NX [(.pointer zp0), (.slice zp1 zl2 zl3), (.int .i64 zn4), (.tuple #[])] [(.pointer zp0), (.slice zp1 zl2 zl3), (.int .i64 zn4), (.tuple #[])] (nx0 [(.int .i64 (IntKind.wrap .i64 (n5 + 1)))])],
 ANDS (RDI .i64 (Addr.add a13 0) fun n21 =>
 fun _ => ((.int .i64 n21) : Value) = (.int .i64 n14)) <|
 SO zp0 fun a22 =>
 WR (Addr.add (Addr.add a22 0) 0) (.int .i64 (if n7 < n14 then n7 else n14)) <|
 SO zp0 fun a23 =>
 WR (Addr.add (Addr.add a23 1) 0) (.int .i64 (if n7 > n16 then n7 else n16)) <|
 NX [(.pointer zp0), (.slice zp1 zl2 zl3), (.int .i64 zn4), (.tuple #[])] [(.pointer zp0), (.slice zp1 zl2 zl3), (.int .i64 zn4), (.tuple #[])] (nx0 [(.int .i64 (IntKind.wrap .i64 (n5 + 1)))])]
def B_clock_ends_int_keep_0 (W : World) (R : Ending → Hp → Prop) (zp0 zp1 : Option Addr) (zl2 zl3 : Nat) (zn4 n5 : Int) (nx0 : List Value → Hp → Prop) : Hp → Prop :=
 BR (decide (n5 < zn4))
 (IXS zp1 zl2 n5 1 fun a6 =>
 RDI .i64 a6 fun n7 =>
 SO zp0 fun a8 =>
 RDB (Addr.add a8 2) fun b9 =>
 BR (!b9)
 (SO zp0 fun a10 =>
 WR (Addr.add (Addr.add a10 0) 0) (.int .i64 n7) <|
 SO zp0 fun a11 =>
 WR (Addr.add (Addr.add a11 1) 0) (.int .i64 n7) <|
 SO zp0 fun a12 =>
 WR (Addr.add (Addr.add a12 2) 0) (.bool true) <|
 J_clock_ends_int_keep_0 W R zp0 n7 zp1 zl2 zl3 zn4 nx0 n5)
 (J_clock_ends_int_keep_0 W R zp0 n7 zp1 zl2 zl3 zn4 nx0 n5))
 (R (.returned (.tuple #[])))
theorem B_clock_ends_int_keep_0_eq (W : World) (R : Ending → Hp → Prop) (zp0 zp1 : Option Addr) (zl2 zl3 : Nat) (zn4 n5 : Int) (nx0 : List Value → Hp → Prop) (j : Tm) : vc Pg W 47 rs_89 an_89 false (sub (bodyOf Tryz.f89) [1, 0, 0]) 0 (KLoop [8] [0, 6, 7, 47] [(.pointer zp0), (.slice zp1 zl2 zl3), (.int .i64 zn4), (.tuple #[])] nx0 (KBlk 0 (fin Pg W 47 rv_89 R))) (known [8] [(.int .i64 n5)] (known [0, 6, 7, 47] [(.pointer zp0), (.slice zp1 zl2 zl3), (.int .i64 zn4), (.tuple #[])] j)) = B_clock_ends_int_keep_0 W R zp0 zp1 zl2 zl3 zn4 n5 nx0 := by kernel_rfl
def N_clock_ends_int_keep_0 (I : Int → Hp → Prop) (μ : Int → Hp → Nat) (n50 : Int) (s : Hp) (vs : List Value) : Hp → Prop := fun s' => ∃ n5, vs = [(.int .i64 n5)] ∧ I n5 s' ∧ μ n5 s' < μ n50 s
theorem L_clock_ends_int_keep_0_rule (W : World) (R : Ending → Hp → Prop) (zp0 zp1 : Option Addr) (zl2 zl3 : Nat) (zn4 : Int) (I : Int → Hp → Prop) (μ : Int → Hp → Nat) (n50 : Int) (s : Hp) (h0 : I n50 s)
    (hr : ∀ (n5 : Int) (s : Hp), I n5 s → B_clock_ends_int_keep_0 W R zp0 zp1 zl2 zl3 zn4 n5 (fun vs => N_clock_ends_int_keep_0 I μ n5 s vs) s) : L_clock_ends_int_keep_0 W R zp0 zp1 zl2 zl3 zn4 n50 s := by
  refine ⟨fun vs s => ∃ n5, vs = [(.int .i64 n5)] ∧ I n5 s, fun vs s => (match vs with | [.int _ n5] => μ n5 s | _ => 0), ⟨⟨⟨_, rfl⟩, trivial⟩, ⟨_, rfl, h0⟩⟩, ?_⟩
  intro n5 s hI j
  obtain ⟨n5', hy, hI⟩ := hI
  have hI' : I n5 s := by cases hy; exact hI
  have hh := hr n5 s hI'
  rw [← B_clock_ends_int_keep_0_eq W R zp0 zp1 zl2 zl3 zn4 n5 _ j] at hh
  refine vc_mono ?_ _ _ hh
  exact KLoop_mono (fun vs s' h => by obtain ⟨n51, rfl, h1, h2⟩ := h; exact ⟨⟨⟨_, rfl⟩, trivial⟩, ⟨_, rfl, h1⟩, h2⟩)
def T_clock_ends_int_keep (W : World) (p1 x2 : Option Addr) (l3 c4 : Nat) (R : Ending → Hp → Prop) : Hp → Prop :=
 L_clock_ends_int_keep_0 W R p1 x2 l3 c4 (↑l3 : Int) 0
theorem does_clock_ends_int_keep (W : World) (p1 x2 : Option Addr) (l3 c4 : Nat) (R : Ending → Hp → Prop) (s : Hp) (h : T_clock_ends_int_keep W p1 x2 l3 c4 R s) : Does Pg W F_clock_ends_int_keep #[(.pointer p1), (.slice x2 l3 c4)] s R :=
  does_of_vfun Pg W an_89 Tryz.func89 rfl (by kernel_rfl) (Eq.mpr (by kernel_rfl) h)
def an_90 : Nat → Ann := fun b => match b with
 | _ => {}
def T_clock_clock_truths (W : World) (p1 : Option Addr) (n2 : Int) (R : Ending → Hp → Prop) : Hp → Prop :=
 NEW 141 [(.pointer p1)] fun B3 =>
 NEW 195 [(.int .u64 n2)] fun B4 =>
 R (.returned (.func (.func 106) #[] #[(.pointer (some ⟨B3, 0, none⟩)), (.pointer (some ⟨B4, 0, none⟩))]))
theorem does_clock_clock_truths (W : World) (p1 : Option Addr) (n2 : Int) (R : Ending → Hp → Prop) (s : Hp) (h : T_clock_clock_truths W p1 n2 R s) : Does Pg W F_clock_clock_truths #[(.pointer p1), (.int .u64 n2)] s R :=
  does_of_vfun Pg W an_90 Tryz.func90 rfl (by kernel_rfl) (Eq.mpr (by kernel_rfl) h)
def an_91 : Nat → Ann := fun b => match b with
 | _ => {}
def T_clock_clock_every (W : World) (p1 : Option Addr) (R : Ending → Hp → Prop) : Hp → Prop :=
 SO p1 fun a2 =>
 RDL (Addr.add (Addr.add a2 0) 2) fun x3 l4 c5 =>
 NNI (↑l4 : Int) <|
 R (.returned (.int .u64 (IntKind.wrap .u64 ((shlv .u64 1 (↑l4 : Int)) - 1))))
theorem does_clock_clock_every (W : World) (p1 : Option Addr) (R : Ending → Hp → Prop) (s : Hp) (h : T_clock_clock_every W p1 R s) : Does Pg W F_clock_clock_every #[(.pointer p1)] s R :=
  does_of_vfun Pg W an_91 Tryz.func91 rfl (by kernel_rfl) (Eq.mpr (by kernel_rfl) h)
def an_98 : Nat → Ann := fun b => match b with
 | _ => {}
def J_clock_isClock_c1_0 (W : World) (R : Ending → Hp → Prop) (b13 : Bool) (B5 : Nat) : Hp → Prop :=
 BR (!b13)
 (R (.returned (.bool true)))
 (RDI .i64 (Addr.add (Addr.add ⟨B5, 0, none⟩ 2) 0) fun n14 =>
 RDI .i64 (Addr.add (Addr.add ⟨B5, 0, none⟩ 2) 1) fun n15 =>
 CALL Pg W F_clock_isSpan [(.agg #[(.int .i64 n14), (.int .i64 n15)]), (.int .i64 900), (.int .i64 1100)]
 (fun v16 => TYB v16 fun b18 =>
 BR (!b18)
 (R (.returned (.bool true)))
 (RDI .i64 (Addr.add (Addr.add ⟨B5, 0, none⟩ 2) 1) fun n19 =>
 RDI .i64 (Addr.add (Addr.add ⟨B5, 0, none⟩ 2) 0) fun n20 =>
 R (.returned (.bool (decide ((IntKind.wrap .i64 (n19 - n20)) > 4))))))
 (fun e17 => R (.panicked e17)))
def T_clock_isClock_c1 (W : World) (n1 n2 n3 n4 : Int) (R : Ending → Hp → Prop) : Hp → Prop :=
 NEW 146 [(.int .i64 n1), (.int .i64 n2), (.int .i64 n3), (.int .i64 n4)] fun B5 =>
 RDI .i64 (Addr.add (Addr.add ⟨B5, 0, none⟩ 0) 0) fun n6 =>
 RDI .i64 (Addr.add (Addr.add ⟨B5, 0, none⟩ 0) 1) fun n7 =>
 CALL Pg W F_clock_isSpan [(.agg #[(.int .i64 n6), (.int .i64 n7)]), (.int .i64 0), (.int .i64 1000)]
 (fun v8 => TYB v8 fun b10 =>
 BR b10
 (RDI .i64 (Addr.add (Addr.add ⟨B5, 0, none⟩ 0) 1) fun n11 =>
 RDI .i64 (Addr.add (Addr.add ⟨B5, 0, none⟩ 0) 0) fun n12 =>
 J_clock_isClock_c1_0 W R (decide ((IntKind.wrap .i64 (n11 - n12)) ≤ 6)) B5)
 (J_clock_isClock_c1_0 W R false B5))
 (fun e9 => R (.panicked e9))
theorem does_clock_isClock_c1 (W : World) (n1 n2 n3 n4 : Int) (R : Ending → Hp → Prop) (s : Hp) (h : T_clock_isClock_c1 W n1 n2 n3 n4 R s) : Does Pg W F_clock_isClock_c1 #[(.agg #[(.int .i64 n1), (.int .i64 n2), (.int .i64 n3), (.int .i64 n4)])] s R :=
  does_of_vfun Pg W an_98 Tryz.func98 rfl (by kernel_rfl) (Eq.mpr (by kernel_rfl) h)
def an_99 : Nat → Ann := fun b => match b with
 | _ => {}
def T_clock_isSpan (W : World) (n1 n2 n3 n4 : Int) (R : Ending → Hp → Prop) : Hp → Prop :=
 NEW 27 [(.int .i64 n1), (.int .i64 n2)] fun B5 =>
 RDI .i64 (Addr.add ⟨B5, 0, none⟩ 0) fun n6 =>
 BR (decide (n3 ≤ n6))
 (RDI .i64 (Addr.add ⟨B5, 0, none⟩ 0) fun n7 =>
 RDI .i64 (Addr.add ⟨B5, 0, none⟩ 1) fun n8 =>
 BR (decide (n7 ≤ n8))
 (RDI .i64 (Addr.add ⟨B5, 0, none⟩ 1) fun n9 =>
 R (.returned (.bool (decide (n9 ≤ n4)))))
 (R (.returned (.bool false))))
 (R (.returned (.bool false)))
theorem does_clock_isSpan (W : World) (n1 n2 n3 n4 : Int) (R : Ending → Hp → Prop) (s : Hp) (h : T_clock_isSpan W n1 n2 n3 n4 R s) : Does Pg W F_clock_isSpan #[(.agg #[(.int .i64 n1), (.int .i64 n2)]), (.int .i64 n3), (.int .i64 n4)] s R :=
  does_of_vfun Pg W an_99 Tryz.func99 rfl (by kernel_rfl) (Eq.mpr (by kernel_rfl) h)
def an_100 : Nat → Ann := fun b => match b with
 | _ => {}
def J_clock_isClock_c2_0 (W : World) (R : Ending → Hp → Prop) (b20 : Bool) (B5 : Nat) : Hp → Prop :=
 BR b20
 (R (.returned (.bool true)))
 (RDI .i64 (Addr.add ⟨B5, 0, none⟩ 2) fun n21 =>
 CALL Pg W F_clock_within [(.int .i64 n21), (.int .i64 0), (.int .i64 2000)]
 (fun v22 => TYB v22 fun b24 =>
 R (.returned (.bool (!b24))))
 (fun e23 => R (.panicked e23)))
def T_clock_isClock_c2 (W : World) (n1 n2 n3 : Int) (a4 : Addr) (R : Ending → Hp → Prop) : Hp → Prop :=
 NEW 148 [(.int .i64 n1), (.int .i64 n2), (.int .i64 n3)] fun B5 =>
 RDL (Addr.add a4 0) fun x6 l7 c8 =>
 RDI .i64 (Addr.add a4 1) fun n9 =>
 RDL (Addr.add a4 2) fun x10 l11 c12 =>
 RDL (Addr.add a4 3) fun x13 l14 c15 =>
 RDI .i64 (Addr.add ⟨B5, 0, none⟩ 0) fun n16 =>
 CALL Pg W F_clock_isEvent [(.agg #[(.slice x6 l7 c8), (.int .i64 n9), (.slice x10 l11 c12), (.slice x13 l14 c15)]), (.int .i64 n16)]
 (fun v17 => TYB v17 fun b19 =>
 BR (!b19)
 (J_clock_isClock_c2_0 W R true B5)
 (RDL (Addr.add a4 0) fun x25 l26 c27 =>
 RDI .i64 (Addr.add a4 1) fun n28 =>
 RDL (Addr.add a4 2) fun x29 l30 c31 =>
 RDL (Addr.add a4 3) fun x32 l33 c34 =>
 RDI .i64 (Addr.add ⟨B5, 0, none⟩ 1) fun n35 =>
 CALL Pg W F_clock_isWatch [(.agg #[(.slice x25 l26 c27), (.int .i64 n28), (.slice x29 l30 c31), (.slice x32 l33 c34)]), (.int .i64 n35)]
 (fun v36 => TYB v36 fun b38 =>
 J_clock_isClock_c2_0 W R (!b38) B5)
 (fun e37 => R (.panicked e37))))
 (fun e18 => R (.panicked e18))
theorem does_clock_isClock_c2 (W : World) (n1 n2 n3 : Int) (a4 : Addr) (R : Ending → Hp → Prop) (s : Hp) (h : T_clock_isClock_c2 W n1 n2 n3 a4 R s) : Does Pg W F_clock_isClock_c2 #[(.agg #[(.int .i64 n1), (.int .i64 n2), (.int .i64 n3)]), (.pointer (some a4))] s R :=
  does_of_vfun Pg W an_100 Tryz.func100 rfl (by kernel_rfl) (Eq.mpr (by kernel_rfl) h)
def an_101 : Nat → Ann := fun b => match b with
 | _ => {}
def T_clock_isWatch (W : World) (x1 : Option Addr) (l2 c3 : Nat) (n4 : Int) (x5 : Option Addr) (l6 c7 : Nat) (x8 : Option Addr) (l9 c10 : Nat) (n11 : Int) (R : Ending → Hp → Prop) : Hp → Prop :=
 NEW 93 [(.slice x1 l2 c3), (.int .i64 n4), (.slice x5 l6 c7), (.slice x8 l9 c10)] fun B12 =>
 RDL (Addr.add ⟨B12, 0, none⟩ 0) fun x13 l14 c15 =>
 CALL Pg W F_clock_within [(.int .i64 n11), (.int .i64 0), (.int .i64 (IntKind.wrap .i64 ((↑l14 : Int) - 1)))]
 (fun v16 => TYB v16 fun b18 =>
 R (.returned (.bool b18)))
 (fun e17 => R (.panicked e17))
theorem does_clock_isWatch (W : World) (x1 : Option Addr) (l2 c3 : Nat) (n4 : Int) (x5 : Option Addr) (l6 c7 : Nat) (x8 : Option Addr) (l9 c10 : Nat) (n11 : Int) (R : Ending → Hp → Prop) (s : Hp) (h : T_clock_isWatch W x1 l2 c3 n4 x5 l6 c7 x8 l9 c10 n11 R s) : Does Pg W F_clock_isWatch #[(.agg #[(.slice x1 l2 c3), (.int .i64 n4), (.slice x5 l6 c7), (.slice x8 l9 c10)]), (.int .i64 n11)] s R :=
  does_of_vfun Pg W an_101 Tryz.func101 rfl (by kernel_rfl) (Eq.mpr (by kernel_rfl) h)
def an_102 : Nat → Ann := fun b => match b with
 | _ => {}
def J_clock_isClock_c3_0 (W : World) (R : Ending → Hp → Prop) (b22 : Bool) (B6 : Nat) : Hp → Prop :=
 BR b22
 (R (.returned (.bool true)))
 (RDI .i64 (Addr.add (Addr.add ⟨B6, 0, none⟩ 2) 0) fun n23 =>
 RDI .i64 (Addr.add (Addr.add ⟨B6, 0, none⟩ 2) 1) fun n24 =>
 CALL Pg W F_clock_isSpan [(.agg #[(.int .i64 n23), (.int .i64 n24)]), (.int .i64 (-600)), (.int .i64 600)]
 (fun v25 => TYB v25 fun b27 =>
 R (.returned (.bool (!b27))))
 (fun e26 => R (.panicked e26)))
def J_clock_isClock_c3_1 (W : World) (R : Ending → Hp → Prop) (b21 : Bool) (B6 : Nat) : Hp → Prop :=
 BR b21
 (J_clock_isClock_c3_0 W R true B6)
 (RDI .i64 (Addr.add ⟨B6, 0, none⟩ 0) fun n28 =>
 RDI .i64 (Addr.add ⟨B6, 0, none⟩ 1) fun n29 =>
 J_clock_isClock_c3_0 W R (n28 == n29) B6)
def T_clock_isClock_c3 (W : World) (n1 n2 n3 n4 : Int) (a5 : Addr) (R : Ending → Hp → Prop) : Hp → Prop :=
 NEW 150 [(.int .i64 n1), (.int .i64 n2), (.int .i64 n3), (.int .i64 n4)] fun B6 =>
 RDL (Addr.add a5 0) fun x7 l8 c9 =>
 RDI .i64 (Addr.add a5 1) fun n10 =>
 RDL (Addr.add a5 2) fun x11 l12 c13 =>
 RDL (Addr.add a5 3) fun x14 l15 c16 =>
 RDI .i64 (Addr.add ⟨B6, 0, none⟩ 0) fun n17 =>
 CALL Pg W F_clock_isEvent [(.agg #[(.slice x7 l8 c9), (.int .i64 n10), (.slice x11 l12 c13), (.slice x14 l15 c16)]), (.int .i64 n17)]
 (fun v18 => TYB v18 fun b20 =>
 BR (!b20)
 (J_clock_isClock_c3_1 W R true B6)
 (RDL (Addr.add a5 0) fun x30 l31 c32 =>
 RDI .i64 (Addr.add a5 1) fun n33 =>
 RDL (Addr.add a5 2) fun x34 l35 c36 =>
 RDL (Addr.add a5 3) fun x37 l38 c39 =>
 RDI .i64 (Addr.add ⟨B6, 0, none⟩ 1) fun n40 =>
 CALL Pg W F_clock_isEvent [(.agg #[(.slice x30 l31 c32), (.int .i64 n33), (.slice x34 l35 c36), (.slice x37 l38 c39)]), (.int .i64 n40)]
 (fun v41 => TYB v41 fun b43 =>
 J_clock_isClock_c3_1 W R (!b43) B6)
 (fun e42 => R (.panicked e42))))
 (fun e19 => R (.panicked e19))
theorem does_clock_isClock_c3 (W : World) (n1 n2 n3 n4 : Int) (a5 : Addr) (R : Ending → Hp → Prop) (s : Hp) (h : T_clock_isClock_c3 W n1 n2 n3 n4 a5 R s) : Does Pg W F_clock_isClock_c3 #[(.agg #[(.int .i64 n1), (.int .i64 n2), (.int .i64 n3), (.int .i64 n4)]), (.pointer (some a5))] s R :=
  does_of_vfun Pg W an_102 Tryz.func102 rfl (by kernel_rfl) (Eq.mpr (by kernel_rfl) h)
def an_106 : Nat → Ann := fun b => match b with
 | 0 => { ms := [], ks := [.v], us := [], rt := true, ex := [], pt := [135] }
 | 2 => { ms := [18], ks := [.i .i64], us := [1, 3, 5, 6, 16, 17, 41], rt := false, ex := [] }
 | _ => {}
abbrev rs_106 : List Nat := [41]
def L_clock_clock_truths_c1_0 (W : World) (R : Ending → Hp → Prop) (fin17 : Option Code → Hp → Prop) (za0 : Addr) (za1 : Addr) (za2 : Addr) (zm3 : Option Nat) (zp4 : Option Addr) (zl5 zl6 : Nat) (zn7 n38 : Int) : Hp → Prop :=
 LOOPN [.i .i64] (fun ys next s => ∀ j : Tm, vc Pg W 41 rs_106 an_106 true (sub (bodyOf Tryz.f106) [1, 0, 1, 1, 1, 0, 1, 0, 1, 0, 1, 0, 0]) 2 (KLoop [18] [1, 3, 5, 6, 16, 17, 41] [(.pointer (some za0)), (.pointer (some za1)), (.pointer (some za2)), (.map zm3), (.slice zp4 zl5 zl6), (.int .i64 zn7), (.tuple #[])] next (KBlk 2 (KS Pg W 41 rs_106 an_106 true (sub (bodyOf Tryz.f106) [1, 0, 1, 1, 1, 0, 1, 0, 1, 1]) 1 (KBlk 1 (KRnd fin17))))) (known [18] ys (known [1, 3, 5, 6, 16, 17, 41] [(.pointer (some za0)), (.pointer (some za1)), (.pointer (some za2)), (.map zm3), (.slice zp4 zl5 zl6), (.int .i64 zn7), (.tuple #[])] j)) s) [(.int .i64 n38)]
def B_clock_clock_truths_c1_0 (W : World) (R : Ending → Hp → Prop) (fin17 : Option Code → Hp → Prop) (za0 : Addr) (za1 : Addr) (za2 : Addr) (zm3 : Option Nat) (zp4 : Option Addr) (zl5 zl6 : Nat) (zn7 n38 : Int) (nx0 : List Value → Hp → Prop) : Hp → Prop :=
 BR (decide (n38 < zn7))
 (IXS zp4 zl5 n38 1 fun a39 =>
 RDV a39 fun v40 =>
 RDI .i64 (Addr.add za2 0) fun n41 =>
 RDI .i64 (Addr.add za2 1) fun n42 =>
 RDI .i64 (Addr.add za2 2) fun n43 =>
 RDI .i64 (Addr.add za2 3) fun n44 =>
 INV Pg W v40 "furrowworks/clock.tell" [(.map zm3), (.agg #[(.int .i64 n41), (.int .i64 n42), (.int .i64 n43), (.int .i64 n44)])]
 (fun v45 => TYB v45 fun b47 =>
 BR (!b47)
 (fin17 none)
 (NX [(.pointer (some za0)), (.pointer (some za1)), (.pointer (some za2)), (.map zm3), (.slice zp4 zl5 zl6), (.int .i64 zn7), (.tuple #[])] [(.pointer (some za0)), (.pointer (some za1)), (.pointer (some za2)), (.map zm3), (.slice zp4 zl5 zl6), (.int .i64 zn7), (.tuple #[])] (nx0 [(.int .i64 (IntKind.wrap .i64 (n38 + 1)))])))
 (fun e46 => FF))
 (RDP za0 fun p48 =>
 SO p48 fun a49 =>
 RDI .i64 (Addr.add (Addr.add a49 0) 1) fun n50 =>
 CALL Pg W F_clock_bounds_tight [(.map zm3), (.int .i64 n50)]
 (fun v51 => TYB v51 fun b53 =>
 BR (!b53)
 (fin17 none)
 (RDV za1 fun v54 =>
 RDI .i64 (Addr.add za2 0) fun n55 =>
 RDI .i64 (Addr.add za2 1) fun n56 =>
 RDI .i64 (Addr.add za2 2) fun n57 =>
 RDI .i64 (Addr.add za2 3) fun n58 =>
 CALLV Pg W v54 [(.agg #[(.int .i64 n55), (.int .i64 n56), (.int .i64 n57), (.int .i64 n58)]), (.map zm3)]
 (fun v59 => TYB v59 fun b61 =>
 BR (!b61)
 (fin17 (some .ret))
 (fin17 none))
 (fun e60 => FF)))
 (fun e52 => FF))
theorem B_clock_clock_truths_c1_0_eq (W : World) (R : Ending → Hp → Prop) (fin17 : Option Code → Hp → Prop) (za0 : Addr) (za1 : Addr) (za2 : Addr) (zm3 : Option Nat) (zp4 : Option Addr) (zl5 zl6 : Nat) (zn7 n38 : Int) (nx0 : List Value → Hp → Prop) (j : Tm) : vc Pg W 41 rs_106 an_106 true (sub (bodyOf Tryz.f106) [1, 0, 1, 1, 1, 0, 1, 0, 1, 0, 1, 0, 0]) 2 (KLoop [18] [1, 3, 5, 6, 16, 17, 41] [(.pointer (some za0)), (.pointer (some za1)), (.pointer (some za2)), (.map zm3), (.slice zp4 zl5 zl6), (.int .i64 zn7), (.tuple #[])] nx0 (KBlk 2 (KS Pg W 41 rs_106 an_106 true (sub (bodyOf Tryz.f106) [1, 0, 1, 1, 1, 0, 1, 0, 1, 1]) 1 (KBlk 1 (KRnd fin17))))) (known [18] [(.int .i64 n38)] (known [1, 3, 5, 6, 16, 17, 41] [(.pointer (some za0)), (.pointer (some za1)), (.pointer (some za2)), (.map zm3), (.slice zp4 zl5 zl6), (.int .i64 zn7), (.tuple #[])] j)) = B_clock_clock_truths_c1_0 W R fin17 za0 za1 za2 zm3 zp4 zl5 zl6 zn7 n38 nx0 := by kernel_rfl
def N_clock_clock_truths_c1_0 (I : Int → Hp → Prop) (μ : Int → Hp → Nat) (n380 : Int) (s : Hp) (vs : List Value) : Hp → Prop := fun s' => ∃ n38, vs = [(.int .i64 n38)] ∧ I n38 s' ∧ μ n38 s' < μ n380 s
theorem L_clock_clock_truths_c1_0_rule (W : World) (R : Ending → Hp → Prop) (fin17 : Option Code → Hp → Prop) (za0 : Addr) (za1 : Addr) (za2 : Addr) (zm3 : Option Nat) (zp4 : Option Addr) (zl5 zl6 : Nat) (zn7 : Int) (I : Int → Hp → Prop) (μ : Int → Hp → Nat) (n380 : Int) (s : Hp) (h0 : I n380 s)
    (hr : ∀ (n38 : Int) (s : Hp), I n38 s → B_clock_clock_truths_c1_0 W R fin17 za0 za1 za2 zm3 zp4 zl5 zl6 zn7 n38 (fun vs => N_clock_clock_truths_c1_0 I μ n38 s vs) s) : L_clock_clock_truths_c1_0 W R fin17 za0 za1 za2 zm3 zp4 zl5 zl6 zn7 n380 s := by
  refine ⟨fun vs s => ∃ n38, vs = [(.int .i64 n38)] ∧ I n38 s, fun vs s => (match vs with | [.int _ n38] => μ n38 s | _ => 0), ⟨⟨⟨_, rfl⟩, trivial⟩, ⟨_, rfl, h0⟩⟩, ?_⟩
  intro n38 s hI j
  obtain ⟨n38', hy, hI⟩ := hI
  have hI' : I n38 s := by cases hy; exact hI
  have hh := hr n38 s hI'
  rw [← B_clock_clock_truths_c1_0_eq W R fin17 za0 za1 za2 zm3 zp4 zl5 zl6 zn7 n38 _ j] at hh
  refine vc_mono ?_ _ _ hh
  exact KLoop_mono (fun vs s' h => by obtain ⟨n381, rfl, h1, h2⟩ := h; exact ⟨⟨⟨_, rfl⟩, trivial⟩, ⟨_, rfl, h1⟩, h2⟩)
def T_clock_clock_truths_c1 (W : World) (v1 : Value) (a2 : Addr) (a3 : Addr) (R : Ending → Hp → Prop) : Hp → Prop :=
 ONE v1 <|
 NEW 208 [v1] fun B4 =>
 RDP a2 fun p5 =>
 RDI .u64 a3 fun n6 =>
 CALL Pg W F_clock_clock_tellers [(.pointer p5), (.int .u64 n6)]
 (fun v7 => TYL v7 fun x9 l10 c11 =>
 NEWZ Pg 209 fun B12 =>
 WR (Addr.add ⟨B12, 0, none⟩ 0) (.slice x9 l10 c11) <|
 RDP a2 fun p13 =>
 CALL Pg W F_clock_clock_choices [(.pointer p13)]
 (fun v14 => RNGN Pg W v14 1
 (fun y16 fin17 => HD y16 fun v18 r19 => AGG v18 fun q20 => HD q20 fun v21 r22 => TYI .i64 v21 fun n23 =>
 HD r22 fun v24 r25 => TYI .i64 v24 fun n26 =>
 HD r25 fun v27 r28 => TYI .i64 v27 fun n29 =>
 HD r28 fun v30 r31 => TYI .i64 v30 fun n32 =>
 NL r31 <|
 NL r19 <|
 NEWZ Pg 135 fun B33 =>
 WR (Addr.add ⟨B33, 0, none⟩ 0) (.int .i64 n23) <|
 WR (Addr.add ⟨B33, 0, none⟩ 1) (.int .i64 n26) <|
 WR (Addr.add ⟨B33, 0, none⟩ 2) (.int .i64 n29) <|
 WR (Addr.add ⟨B33, 0, none⟩ 3) (.int .i64 n32) <|
 MKM fun B34 =>
 RDL ⟨B12, 0, none⟩ fun x35 l36 c37 =>
 L_clock_clock_truths_c1_0 W R fin17 a2 ⟨B4, 0, none⟩ ⟨B33, 0, none⟩ (some B34) x35 l36 c37 (↑l36 : Int) 0)
 (AFT
 (R (.returned (.tuple #[]))) (R (.returned (.tuple #[]))) (EXL [] fun _ => FF)))
 (fun e15 => R (.panicked e15)))
 (fun e8 => R (.panicked e8))
theorem does_clock_clock_truths_c1 (W : World) (v1 : Value) (a2 : Addr) (a3 : Addr) (R : Ending → Hp → Prop) (s : Hp) (h : T_clock_clock_truths_c1 W v1 a2 a3 R s) : Does Pg W F_clock_clock_truths_c1 #[v1, (.pointer (some a2)), (.pointer (some a3))] s R :=
  does_of_vfun Pg W an_106 Tryz.func106 rfl (by kernel_rfl) (Eq.mpr (by kernel_rfl) h)
def an_107 : Nat → Ann := fun b => match b with
 | 0 => { ms := [4, 15], ks := [.l, .i .i64], us := [0, 1, 14, 71], rt := false, ex := [] }
 | 2 => { ms := [4, 31], ks := [.l, .i .i64], us := [0, 1, 29, 30, 71], rt := false, ex := [] }
 | 4 => { ms := [4, 60], ks := [.l, .i .i64], us := [58, 59, 71], rt := false, ex := [] }
 | _ => {}
abbrev rv_107 : List ResultVar := [.tmp 4]
abbrev rs_107 : List Nat := [71, 4]
def L_clock_clock_tellers_0 (W : World) (R : Ending → Hp → Prop) (zp0 : Option Addr) (zn1 zn2 : Int) (x5 : Option Addr) (l6 c7 : Nat) (n8 : Int) : Hp → Prop :=
 LOOPN [.l, .i .i64] (fun ys next s => ∀ j : Tm, vc Pg W 71 rs_107 an_107 false (sub (bodyOf Tryz.f107) [1, 0, 1, 0, 0]) 0 (KLoop [4, 15] [0, 1, 14, 71] [(.pointer zp0), (.int .u64 zn1), (.int .i64 zn2), (.tuple #[])] next (KBlk 0 (KS Pg W 71 rs_107 an_107 false (sub (bodyOf Tryz.f107) [1, 1]) 0 (fin Pg W 71 rv_107 R)))) (known [4, 15] ys (known [0, 1, 14, 71] [(.pointer zp0), (.int .u64 zn1), (.int .i64 zn2), (.tuple #[])] j)) s) [(.slice x5 l6 c7), (.int .i64 n8)]
def L_clock_clock_tellers_1 (W : World) (R : Ending → Hp → Prop) (zp0 : Option Addr) (zn1 : Int) (zp2 : Option Addr) (zl3 zl4 : Nat) (zn5 : Int) (x17 : Option Addr) (l18 c19 : Nat) (n20 : Int) : Hp → Prop :=
 LOOPN [.l, .i .i64] (fun ys next s => ∀ j : Tm, vc Pg W 71 rs_107 an_107 false (sub (bodyOf Tryz.f107) [1, 1, 0, 1, 0, 0]) 2 (KLoop [4, 31] [0, 1, 29, 30, 71] [(.pointer zp0), (.int .u64 zn1), (.slice zp2 zl3 zl4), (.int .i64 zn5), (.tuple #[])] next (KBlk 2 (KS Pg W 71 rs_107 an_107 false (sub (bodyOf Tryz.f107) [1, 1, 1]) 0 (fin Pg W 71 rv_107 R)))) (known [4, 31] ys (known [0, 1, 29, 30, 71] [(.pointer zp0), (.int .u64 zn1), (.slice zp2 zl3 zl4), (.int .i64 zn5), (.tuple #[])] j)) s) [(.slice x17 l18 c19), (.int .i64 n20)]
def L_clock_clock_tellers_2 (W : World) (R : Ending → Hp → Prop) (zp0 : Option Addr) (zl1 zl2 : Nat) (zn3 : Int) (x37 : Option Addr) (l38 c39 : Nat) (n40 : Int) : Hp → Prop :=
 LOOPN [.l, .i .i64] (fun ys next s => ∀ j : Tm, vc Pg W 71 rs_107 an_107 false (sub (bodyOf Tryz.f107) [1, 1, 1, 0, 1, 0, 0]) 4 (KLoop [4, 60] [58, 59, 71] [(.slice zp0 zl1 zl2), (.int .i64 zn3), (.tuple #[])] next (KBlk 4 (KS Pg W 71 rs_107 an_107 false (sub (bodyOf Tryz.f107) [1, 1, 1, 1]) 0 (fin Pg W 71 rv_107 R)))) (known [4, 60] ys (known [58, 59, 71] [(.slice zp0 zl1 zl2), (.int .i64 zn3), (.tuple #[])] j)) s) [(.slice x37 l38 c39), (.int .i64 n40)]
def B_clock_clock_tellers_0 (W : World) (R : Ending → Hp → Prop) (zp0 : Option Addr) (zn1 zn2 : Int) (x5 : Option Addr) (l6 c7 : Nat) (n8 : Int) (nx0 : List Value → Hp → Prop) : Hp → Prop :=
 BR (decide (n8 < zn2))
 (NEW 215 [(.iface 222 (.agg #[(.int .i64 n8)]))] fun B9 =>
 APP Pg 215 1 x5 l6 c7 (some ⟨B9, 0, none⟩) 1 fun x10 l11 c12 =>
 NX [(.pointer zp0), (.int .u64 zn1), (.int .i64 zn2), (.tuple #[])] [(.pointer zp0), (.int .u64 zn1), (.int .i64 zn2), (.tuple #[])] (nx0 [(.slice x10 l11 c12), (.int .i64 (IntKind.wrap .i64 (n8 + 1)))]))
 (SO zp0 fun a13 =>
 RDL (Addr.add (Addr.add a13 0) 2) fun x14 l15 c16 =>
 L_clock_clock_tellers_1 W R zp0 zn1 x14 l15 c16 (↑l15 : Int) x5 l6 c7 0)
theorem B_clock_clock_tellers_0_eq (W : World) (R : Ending → Hp → Prop) (zp0 : Option Addr) (zn1 zn2 : Int) (x5 : Option Addr) (l6 c7 : Nat) (n8 : Int) (nx0 : List Value → Hp → Prop) (j : Tm) : vc Pg W 71 rs_107 an_107 false (sub (bodyOf Tryz.f107) [1, 0, 1, 0, 0]) 0 (KLoop [4, 15] [0, 1, 14, 71] [(.pointer zp0), (.int .u64 zn1), (.int .i64 zn2), (.tuple #[])] nx0 (KBlk 0 (KS Pg W 71 rs_107 an_107 false (sub (bodyOf Tryz.f107) [1, 1]) 0 (fin Pg W 71 rv_107 R)))) (known [4, 15] [(.slice x5 l6 c7), (.int .i64 n8)] (known [0, 1, 14, 71] [(.pointer zp0), (.int .u64 zn1), (.int .i64 zn2), (.tuple #[])] j)) = B_clock_clock_tellers_0 W R zp0 zn1 zn2 x5 l6 c7 n8 nx0 := by kernel_rfl
def N_clock_clock_tellers_0 (I : Option Addr → Nat → Nat → Int → Hp → Prop) (μ : Option Addr → Nat → Nat → Int → Hp → Nat) (x50 : Option Addr) (l60 c70 : Nat) (n80 : Int) (s : Hp) (vs : List Value) : Hp → Prop := fun s' => ∃ x5 l6 c7 n8, vs = [(.slice x5 l6 c7), (.int .i64 n8)] ∧ I x5 l6 c7 n8 s' ∧ μ x5 l6 c7 n8 s' < μ x50 l60 c70 n80 s
theorem L_clock_clock_tellers_0_rule (W : World) (R : Ending → Hp → Prop) (zp0 : Option Addr) (zn1 zn2 : Int) (I : Option Addr → Nat → Nat → Int → Hp → Prop) (μ : Option Addr → Nat → Nat → Int → Hp → Nat) (x50 : Option Addr) (l60 c70 : Nat) (n80 : Int) (s : Hp) (h0 : I x50 l60 c70 n80 s)
    (hr : ∀ (x5 : Option Addr) (l6 : Nat) (c7 : Nat) (n8 : Int) (s : Hp), I x5 l6 c7 n8 s → B_clock_clock_tellers_0 W R zp0 zn1 zn2 x5 l6 c7 n8 (fun vs => N_clock_clock_tellers_0 I μ x5 l6 c7 n8 s vs) s) : L_clock_clock_tellers_0 W R zp0 zn1 zn2 x50 l60 c70 n80 s := by
  refine ⟨fun vs s => ∃ x5 l6 c7 n8, vs = [(.slice x5 l6 c7), (.int .i64 n8)] ∧ I x5 l6 c7 n8 s, fun vs s => (match vs with | [.slice x5 l6 c7, .int _ n8] => μ x5 l6 c7 n8 s | _ => 0), ⟨⟨⟨_, _, _, rfl⟩, ⟨⟨_, rfl⟩, trivial⟩⟩, ⟨_, _, _, _, rfl, h0⟩⟩, ?_⟩
  intro x5 l6 c7 n8 s hI j
  obtain ⟨x5', l6', c7', n8', hy, hI⟩ := hI
  have hI' : I x5 l6 c7 n8 s := by cases hy; exact hI
  have hh := hr x5 l6 c7 n8 s hI'
  rw [← B_clock_clock_tellers_0_eq W R zp0 zn1 zn2 x5 l6 c7 n8 _ j] at hh
  refine vc_mono ?_ _ _ hh
  exact KLoop_mono (fun vs s' h => by obtain ⟨x51, l61, c71, n81, rfl, h1, h2⟩ := h; exact ⟨⟨⟨_, _, _, rfl⟩, ⟨⟨_, rfl⟩, trivial⟩⟩, ⟨_, _, _, _, rfl, h1⟩, h2⟩)
def B_clock_clock_tellers_1 (W : World) (R : Ending → Hp → Prop) (zp0 : Option Addr) (zn1 : Int) (zp2 : Option Addr) (zl3 zl4 : Nat) (zn5 : Int) (x17 : Option Addr) (l18 c19 : Nat) (n20 : Int) (nx1 : List Value → Hp → Prop) : Hp → Prop :=
 BR (decide (n20 < zn5))
 (IXS zp2 zl3 n20 3 fun a21 =>
 RDI .i64 (Addr.add a21 0) fun n22 =>
 RDI .i64 (Addr.add a21 1) fun n23 =>
 RDI .i64 (Addr.add a21 2) fun n24 =>
 NEWZ Pg 148 fun B25 =>
 WR (Addr.add ⟨B25, 0, none⟩ 0) (.int .i64 n22) <|
 WR (Addr.add ⟨B25, 0, none⟩ 1) (.int .i64 n23) <|
 WR (Addr.add ⟨B25, 0, none⟩ 2) (.int .i64 n24) <|
 NNI n20 <|
 BR ((andv .u64 (shrv .u64 zn1 n20) 1) == 1)
 (RDI .i64 (Addr.add ⟨B25, 0, none⟩ 0) fun n26 =>
 RDI .i64 (Addr.add ⟨B25, 0, none⟩ 1) fun n27 =>
 RDI .i64 (Addr.add ⟨B25, 0, none⟩ 2) fun n28 =>
 NEW 215 [(.iface 224 (.agg #[(.int .i64 n26), (.int .i64 n27), (.int .i64 n28)]))] fun B29 =>
 APP Pg 215 1 x17 l18 c19 (some ⟨B29, 0, none⟩) 1 fun x30 l31 c32 =>
 NX [(.pointer zp0), (.int .u64 zn1), (.slice zp2 zl3 zl4), (.int .i64 zn5), (.tuple #[])] [(.pointer zp0), (.int .u64 zn1), (.slice zp2 zl3 zl4), (.int .i64 zn5), (.tuple #[])] (nx1 [(.slice x30 l31 c32), (.int .i64 (IntKind.wrap .i64 (n20 + 1)))]))
 (NX [(.pointer zp0), (.int .u64 zn1), (.slice zp2 zl3 zl4), (.int .i64 zn5), (.tuple #[])] [(.pointer zp0), (.int .u64 zn1), (.slice zp2 zl3 zl4), (.int .i64 zn5), (.tuple #[])] (nx1 [(.slice x17 l18 c19), (.int .i64 (IntKind.wrap .i64 (n20 + 1)))])))
 (SO zp0 fun a33 =>
 RDL (Addr.add (Addr.add a33 0) 3) fun x34 l35 c36 =>
 L_clock_clock_tellers_2 W R x34 l35 c36 (↑l35 : Int) x17 l18 c19 0)
theorem B_clock_clock_tellers_1_eq (W : World) (R : Ending → Hp → Prop) (zp0 : Option Addr) (zn1 : Int) (zp2 : Option Addr) (zl3 zl4 : Nat) (zn5 : Int) (x17 : Option Addr) (l18 c19 : Nat) (n20 : Int) (nx1 : List Value → Hp → Prop) (j : Tm) : vc Pg W 71 rs_107 an_107 false (sub (bodyOf Tryz.f107) [1, 1, 0, 1, 0, 0]) 2 (KLoop [4, 31] [0, 1, 29, 30, 71] [(.pointer zp0), (.int .u64 zn1), (.slice zp2 zl3 zl4), (.int .i64 zn5), (.tuple #[])] nx1 (KBlk 2 (KS Pg W 71 rs_107 an_107 false (sub (bodyOf Tryz.f107) [1, 1, 1]) 0 (fin Pg W 71 rv_107 R)))) (known [4, 31] [(.slice x17 l18 c19), (.int .i64 n20)] (known [0, 1, 29, 30, 71] [(.pointer zp0), (.int .u64 zn1), (.slice zp2 zl3 zl4), (.int .i64 zn5), (.tuple #[])] j)) = B_clock_clock_tellers_1 W R zp0 zn1 zp2 zl3 zl4 zn5 x17 l18 c19 n20 nx1 := by kernel_rfl
def N_clock_clock_tellers_1 (I : Option Addr → Nat → Nat → Int → Hp → Prop) (μ : Option Addr → Nat → Nat → Int → Hp → Nat) (x170 : Option Addr) (l180 c190 : Nat) (n200 : Int) (s : Hp) (vs : List Value) : Hp → Prop := fun s' => ∃ x17 l18 c19 n20, vs = [(.slice x17 l18 c19), (.int .i64 n20)] ∧ I x17 l18 c19 n20 s' ∧ μ x17 l18 c19 n20 s' < μ x170 l180 c190 n200 s
theorem L_clock_clock_tellers_1_rule (W : World) (R : Ending → Hp → Prop) (zp0 : Option Addr) (zn1 : Int) (zp2 : Option Addr) (zl3 zl4 : Nat) (zn5 : Int) (I : Option Addr → Nat → Nat → Int → Hp → Prop) (μ : Option Addr → Nat → Nat → Int → Hp → Nat) (x170 : Option Addr) (l180 c190 : Nat) (n200 : Int) (s : Hp) (h0 : I x170 l180 c190 n200 s)
    (hr : ∀ (x17 : Option Addr) (l18 : Nat) (c19 : Nat) (n20 : Int) (s : Hp), I x17 l18 c19 n20 s → B_clock_clock_tellers_1 W R zp0 zn1 zp2 zl3 zl4 zn5 x17 l18 c19 n20 (fun vs => N_clock_clock_tellers_1 I μ x17 l18 c19 n20 s vs) s) : L_clock_clock_tellers_1 W R zp0 zn1 zp2 zl3 zl4 zn5 x170 l180 c190 n200 s := by
  refine ⟨fun vs s => ∃ x17 l18 c19 n20, vs = [(.slice x17 l18 c19), (.int .i64 n20)] ∧ I x17 l18 c19 n20 s, fun vs s => (match vs with | [.slice x17 l18 c19, .int _ n20] => μ x17 l18 c19 n20 s | _ => 0), ⟨⟨⟨_, _, _, rfl⟩, ⟨⟨_, rfl⟩, trivial⟩⟩, ⟨_, _, _, _, rfl, h0⟩⟩, ?_⟩
  intro x17 l18 c19 n20 s hI j
  obtain ⟨x17', l18', c19', n20', hy, hI⟩ := hI
  have hI' : I x17 l18 c19 n20 s := by cases hy; exact hI
  have hh := hr x17 l18 c19 n20 s hI'
  rw [← B_clock_clock_tellers_1_eq W R zp0 zn1 zp2 zl3 zl4 zn5 x17 l18 c19 n20 _ j] at hh
  refine vc_mono ?_ _ _ hh
  exact KLoop_mono (fun vs s' h => by obtain ⟨x171, l181, c191, n201, rfl, h1, h2⟩ := h; exact ⟨⟨⟨_, _, _, rfl⟩, ⟨⟨_, rfl⟩, trivial⟩⟩, ⟨_, _, _, _, rfl, h1⟩, h2⟩)
def B_clock_clock_tellers_2 (W : World) (R : Ending → Hp → Prop) (zp0 : Option Addr) (zl1 zl2 : Nat) (zn3 : Int) (x37 : Option Addr) (l38 c39 : Nat) (n40 : Int) (nx2 : List Value → Hp → Prop) : Hp → Prop :=
 BR (decide (n40 < zn3))
 (IXS zp0 zl1 n40 4 fun a41 =>
 RDI .i64 (Addr.add a41 0) fun n42 =>
 RDI .i64 (Addr.add a41 1) fun n43 =>
 RDI .i64 (Addr.add a41 2) fun n44 =>
 RDI .i64 (Addr.add a41 3) fun n45 =>
 NEWZ Pg 150 fun B46 =>
 WR (Addr.add ⟨B46, 0, none⟩ 0) (.int .i64 n42) <|
 WR (Addr.add ⟨B46, 0, none⟩ 1) (.int .i64 n43) <|
 WR (Addr.add ⟨B46, 0, none⟩ 2) (.int .i64 n44) <|
 WR (Addr.add ⟨B46, 0, none⟩ 3) (.int .i64 n45) <|
 RDI .i64 (Addr.add ⟨B46, 0, none⟩ 0) fun n47 =>
 RDI .i64 (Addr.add ⟨B46, 0, none⟩ 1) fun n48 =>
 RDI .i64 (Addr.add ⟨B46, 0, none⟩ 2) fun n49 =>
 RDI .i64 (Addr.add ⟨B46, 0, none⟩ 3) fun n50 =>
 NEW 215 [(.iface 225 (.agg #[(.int .i64 n47), (.int .i64 n48), (.int .i64 n49), (.int .i64 n50)]))] fun B51 =>
 APP Pg 215 1 x37 l38 c39 (some ⟨B51, 0, none⟩) 1 fun x52 l53 c54 =>
 NX [(.slice zp0 zl1 zl2), (.int .i64 zn3), (.tuple #[])] [(.slice zp0 zl1 zl2), (.int .i64 zn3), (.tuple #[])] (nx2 [(.slice x52 l53 c54), (.int .i64 (IntKind.wrap .i64 (n40 + 1)))]))
 (R (.returned (.slice x37 l38 c39)))
theorem B_clock_clock_tellers_2_eq (W : World) (R : Ending → Hp → Prop) (zp0 : Option Addr) (zl1 zl2 : Nat) (zn3 : Int) (x37 : Option Addr) (l38 c39 : Nat) (n40 : Int) (nx2 : List Value → Hp → Prop) (j : Tm) : vc Pg W 71 rs_107 an_107 false (sub (bodyOf Tryz.f107) [1, 1, 1, 0, 1, 0, 0]) 4 (KLoop [4, 60] [58, 59, 71] [(.slice zp0 zl1 zl2), (.int .i64 zn3), (.tuple #[])] nx2 (KBlk 4 (KS Pg W 71 rs_107 an_107 false (sub (bodyOf Tryz.f107) [1, 1, 1, 1]) 0 (fin Pg W 71 rv_107 R)))) (known [4, 60] [(.slice x37 l38 c39), (.int .i64 n40)] (known [58, 59, 71] [(.slice zp0 zl1 zl2), (.int .i64 zn3), (.tuple #[])] j)) = B_clock_clock_tellers_2 W R zp0 zl1 zl2 zn3 x37 l38 c39 n40 nx2 := by kernel_rfl
def N_clock_clock_tellers_2 (I : Option Addr → Nat → Nat → Int → Hp → Prop) (μ : Option Addr → Nat → Nat → Int → Hp → Nat) (x370 : Option Addr) (l380 c390 : Nat) (n400 : Int) (s : Hp) (vs : List Value) : Hp → Prop := fun s' => ∃ x37 l38 c39 n40, vs = [(.slice x37 l38 c39), (.int .i64 n40)] ∧ I x37 l38 c39 n40 s' ∧ μ x37 l38 c39 n40 s' < μ x370 l380 c390 n400 s
theorem L_clock_clock_tellers_2_rule (W : World) (R : Ending → Hp → Prop) (zp0 : Option Addr) (zl1 zl2 : Nat) (zn3 : Int) (I : Option Addr → Nat → Nat → Int → Hp → Prop) (μ : Option Addr → Nat → Nat → Int → Hp → Nat) (x370 : Option Addr) (l380 c390 : Nat) (n400 : Int) (s : Hp) (h0 : I x370 l380 c390 n400 s)
    (hr : ∀ (x37 : Option Addr) (l38 : Nat) (c39 : Nat) (n40 : Int) (s : Hp), I x37 l38 c39 n40 s → B_clock_clock_tellers_2 W R zp0 zl1 zl2 zn3 x37 l38 c39 n40 (fun vs => N_clock_clock_tellers_2 I μ x37 l38 c39 n40 s vs) s) : L_clock_clock_tellers_2 W R zp0 zl1 zl2 zn3 x370 l380 c390 n400 s := by
  refine ⟨fun vs s => ∃ x37 l38 c39 n40, vs = [(.slice x37 l38 c39), (.int .i64 n40)] ∧ I x37 l38 c39 n40 s, fun vs s => (match vs with | [.slice x37 l38 c39, .int _ n40] => μ x37 l38 c39 n40 s | _ => 0), ⟨⟨⟨_, _, _, rfl⟩, ⟨⟨_, rfl⟩, trivial⟩⟩, ⟨_, _, _, _, rfl, h0⟩⟩, ?_⟩
  intro x37 l38 c39 n40 s hI j
  obtain ⟨x37', l38', c39', n40', hy, hI⟩ := hI
  have hI' : I x37 l38 c39 n40 s := by cases hy; exact hI
  have hh := hr x37 l38 c39 n40 s hI'
  rw [← B_clock_clock_tellers_2_eq W R zp0 zl1 zl2 zn3 x37 l38 c39 n40 _ j] at hh
  refine vc_mono ?_ _ _ hh
  exact KLoop_mono (fun vs s' h => by obtain ⟨x371, l381, c391, n401, rfl, h1, h2⟩ := h; exact ⟨⟨⟨_, _, _, rfl⟩, ⟨⟨_, rfl⟩, trivial⟩⟩, ⟨_, _, _, _, rfl, h1⟩, h2⟩)
def T_clock_clock_tellers (W : World) (p1 : Option Addr) (n2 : Int) (R : Ending → Hp → Prop) : Hp → Prop :=
 SO p1 fun a3 =>
 RDI .i64 (Addr.add (Addr.add a3 0) 1) fun n4 =>
 L_clock_clock_tellers_0 W R p1 n2 n4 none 0 0 0
theorem does_clock_clock_tellers (W : World) (p1 : Option Addr) (n2 : Int) (R : Ending → Hp → Prop) (s : Hp) (h : T_clock_clock_tellers W p1 n2 R s) : Does Pg W F_clock_clock_tellers #[(.pointer p1), (.int .u64 n2)] s R :=
  does_of_vfun Pg W an_107 Tryz.func107 rfl (by kernel_rfl) (Eq.mpr (by kernel_rfl) h)
def an_108 : Nat → Ann := fun b => match b with
 | _ => {}
def T_clock_clock_choices (W : World) (p1 : Option Addr) (R : Ending → Hp → Prop) : Hp → Prop :=
 NEW 141 [(.pointer p1)] fun B2 =>
 R (.returned (.func (.func 114) #[] #[(.pointer (some ⟨B2, 0, none⟩))]))
theorem does_clock_clock_choices (W : World) (p1 : Option Addr) (R : Ending → Hp → Prop) (s : Hp) (h : T_clock_clock_choices W p1 R s) : Does Pg W F_clock_clock_choices #[(.pointer p1)] s R :=
  does_of_vfun Pg W an_108 Tryz.func108 rfl (by kernel_rfl) (Eq.mpr (by kernel_rfl) h)
def an_109 : Nat → Ann := fun b => match b with
 | 0 => { ms := [4, 5], ks := [.b, .b], us := [0, 1, 86], rt := false, ex := [] }
 | 2 => { ms := [5, 6], ks := [.b, .i .i64], us := [0, 1, 4, 86], rt := false, ex := [] }
 | 4 => { ms := [5], ks := [.b], us := [0, 1, 4, 6, 22, 86], rt := false, ex := [] }
 | 6 => { ms := [4], ks := [.b], us := [0, 1, 5, 63, 86], rt := false, ex := [] }
 | _ => {}
abbrev rv_109 : List ResultVar := [.tmp 4]
abbrev rs_109 : List Nat := [86, 4]
def L_clock_bounds_tight_0 (W : World) (R : Ending → Hp → Prop) (zm0 : Option Nat) (zn1 : Int) (b3 b4 : Bool) : Hp → Prop :=
 LOOPN [.b, .b] (fun ys next s => ∀ j : Tm, vc Pg W 86 rs_109 an_109 false (sub (bodyOf Tryz.f109) [1, 0, 1, 0, 0]) 0 (KLoop [4, 5] [0, 1, 86] [(.map zm0), (.int .i64 zn1), (.tuple #[])] next (KBlk 0 (KS Pg W 86 rs_109 an_109 false (sub (bodyOf Tryz.f109) [1, 1]) 0 (fin Pg W 86 rv_109 R)))) (known [4, 5] ys (known [0, 1, 86] [(.map zm0), (.int .i64 zn1), (.tuple #[])] j)) s) [(.bool b3), (.bool b4)]
def L_clock_bounds_tight_1 (W : World) (R : Ending → Hp → Prop) (nx0 : List Value → Hp → Prop) (zm0 : Option Nat) (zn1 : Int) (zb2 b5 : Bool) (n6 : Int) : Hp → Prop :=
 LOOPN [.b, .i .i64] (fun ys next s => ∀ j : Tm, vc Pg W 86 rs_109 an_109 false (sub (bodyOf Tryz.f109) [1, 0, 1, 0, 0, 1, 0, 1, 0, 1, 0, 0]) 2 (KLoop [5, 6] [0, 1, 4, 86] [(.map zm0), (.int .i64 zn1), (.bool zb2), (.tuple #[])] next (KBlk 2 (KS Pg W 86 rs_109 an_109 false (sub (bodyOf Tryz.f109) [1, 0, 1, 0, 0, 1, 0, 1, 1]) 1 (KBlk 1 (KLoop [4, 5] [0, 1, 86] [(.map zm0), (.int .i64 zn1), (.tuple #[])] nx0 (KBlk 0 (KS Pg W 86 rs_109 an_109 false (sub (bodyOf Tryz.f109) [1, 1]) 0 (fin Pg W 86 rv_109 R)))))))) (known [5, 6] ys (known [0, 1, 4, 86] [(.map zm0), (.int .i64 zn1), (.bool zb2), (.tuple #[])] j)) s) [(.bool b5), (.int .i64 n6)]
def L_clock_bounds_tight_2 (W : World) (R : Ending → Hp → Prop) (nx0 : List Value → Hp → Prop) (nx1 : List Value → Hp → Prop) (zm0 : Option Nat) (zn1 : Int) (zb2 : Bool) (zn3 : Int) (za4 : Addr) (b9 : Bool) : Hp → Prop :=
 LOOPN [.b] (fun ys next s => ∀ j : Tm, vc Pg W 86 rs_109 an_109 false (sub (bodyOf Tryz.f109) [1, 0, 1, 0, 0, 1, 0, 1, 0, 1, 0, 0, 1, 0, 0, 1, 0, 0]) 4 (KLoop [5] [0, 1, 4, 6, 22, 86] [(.map zm0), (.int .i64 zn1), (.bool zb2), (.int .i64 zn3), (.pointer (some za4)), (.tuple #[])] next (KBlk 4 (KBlk 3 (KS Pg W 86 rs_109 an_109 false (sub (bodyOf Tryz.f109) [1, 0, 1, 0, 0, 1, 0, 1, 0, 1, 0, 0, 1, 1]) 2 (KLoop [5, 6] [0, 1, 4, 86] [(.map zm0), (.int .i64 zn1), (.bool zb2), (.tuple #[])] nx1 (KBlk 2 (KS Pg W 86 rs_109 an_109 false (sub (bodyOf Tryz.f109) [1, 0, 1, 0, 0, 1, 0, 1, 1]) 1 (KBlk 1 (KLoop [4, 5] [0, 1, 86] [(.map zm0), (.int .i64 zn1), (.tuple #[])] nx0 (KBlk 0 (KS Pg W 86 rs_109 an_109 false (sub (bodyOf Tryz.f109) [1, 1]) 0 (fin Pg W 86 rv_109 R)))))))))))) (known [5] ys (known [0, 1, 4, 6, 22, 86] [(.map zm0), (.int .i64 zn1), (.bool zb2), (.int .i64 zn3), (.pointer (some za4)), (.tuple #[])] j)) s) [(.bool b9)]
def L_clock_bounds_tight_3 (W : World) (R : Ending → Hp → Prop) (nx0 : List Value → Hp → Prop) (zm0 : Option Nat) (zn1 : Int) (zb2 : Bool) (za3 : Addr) (b44 : Bool) : Hp → Prop :=
 LOOPN [.b] (fun ys next s => ∀ j : Tm, vc Pg W 86 rs_109 an_109 false (sub (bodyOf Tryz.f109) [1, 0, 1, 0, 0, 1, 0, 1, 1, 1, 0, 0]) 6 (KLoop [4] [0, 1, 5, 63, 86] [(.map zm0), (.int .i64 zn1), (.bool zb2), (.pointer (some za3)), (.tuple #[])] next (KBlk 6 (KBlk 1 (KLoop [4, 5] [0, 1, 86] [(.map zm0), (.int .i64 zn1), (.tuple #[])] nx0 (KBlk 0 (KS Pg W 86 rs_109 an_109 false (sub (bodyOf Tryz.f109) [1, 1]) 0 (fin Pg W 86 rv_109 R))))))) (known [4] ys (known [0, 1, 5, 63, 86] [(.map zm0), (.int .i64 zn1), (.bool zb2), (.pointer (some za3)), (.tuple #[])] j)) s) [(.bool b44)]
def J_clock_bounds_tight_0 (W : World) (R : Ending → Hp → Prop) (b39 : Bool) (B26 : Nat) (zm0 : Option Nat) (zn3 n25 n32 zn1 : Int) (zb2 : Bool) (za4 : Addr) (nx2 : List Value → Hp → Prop) (b9 : Bool) : Hp → Prop :=
 BR b39
 (RDI .i64 (Addr.add ⟨B26, 0, none⟩ 0) fun n40 =>
 CALL Pg W F_clock_bounds_put [(.map zm0), (.agg #[(.int .i64 n40), (.int .i64 zn3)]), (.int .i64 (IntKind.wrap .i64 (n25 + n32)))]
 (fun v41 => TYB v41 fun b43 =>
 BR b43
 (NX [(.map zm0), (.int .i64 zn1), (.bool zb2), (.int .i64 zn3), (.pointer (some za4)), (.tuple #[])] [(.map zm0), (.int .i64 zn1), (.bool zb2), (.int .i64 zn3), (.pointer (some za4)), (.tuple #[])] (nx2 [(.bool true)]))
 (NX [(.map zm0), (.int .i64 zn1), (.bool zb2), (.int .i64 zn3), (.pointer (some za4)), (.tuple #[])] [(.map zm0), (.int .i64 zn1), (.bool zb2), (.int .i64 zn3), (.pointer (some za4)), (.tuple #[])] (nx2 [(.bool b9)])))
 (fun e42 => R (.panicked e42)))
 (NX [(.map zm0), (.int .i64 zn1), (.bool zb2), (.int .i64 zn3), (.pointer (some za4)), (.tuple #[])] [(.map zm0), (.int .i64 zn1), (.bool zb2), (.int .i64 zn3), (.pointer (some za4)), (.tuple #[])] (nx2 [(.bool b9)]))
def J_clock_bounds_tight_1 (W : World) (R : Ending → Hp → Prop) (b37 : Bool) (B26 : Nat) (zn3 : Int) (zm0 : Option Nat) (n25 n32 zn1 : Int) (zb2 : Bool) (za4 : Addr) (nx2 : List Value → Hp → Prop) (b9 : Bool) : Hp → Prop :=
 BR b37
 (RDI .i64 (Addr.add ⟨B26, 0, none⟩ 1) fun n38 =>
 J_clock_bounds_tight_0 W R (n38 != zn3) B26 zm0 zn3 n25 n32 zn1 zb2 za4 nx2 b9)
 (J_clock_bounds_tight_0 W R false B26 zm0 zn3 n25 n32 zn1 zb2 za4 nx2 b9)
def B_clock_bounds_tight_0 (W : World) (R : Ending → Hp → Prop) (zm0 : Option Nat) (zn1 : Int) (b3 b4 : Bool) (nx0 : List Value → Hp → Prop) : Hp → Prop :=
 BR b4
 (L_clock_bounds_tight_1 W R nx0 zm0 zn1 b3 false (-1))
 (R (.returned (.bool true)))
theorem B_clock_bounds_tight_0_eq (W : World) (R : Ending → Hp → Prop) (zm0 : Option Nat) (zn1 : Int) (b3 b4 : Bool) (nx0 : List Value → Hp → Prop) (j : Tm) : vc Pg W 86 rs_109 an_109 false (sub (bodyOf Tryz.f109) [1, 0, 1, 0, 0]) 0 (KLoop [4, 5] [0, 1, 86] [(.map zm0), (.int .i64 zn1), (.tuple #[])] nx0 (KBlk 0 (KS Pg W 86 rs_109 an_109 false (sub (bodyOf Tryz.f109) [1, 1]) 0 (fin Pg W 86 rv_109 R)))) (known [4, 5] [(.bool b3), (.bool b4)] (known [0, 1, 86] [(.map zm0), (.int .i64 zn1), (.tuple #[])] j)) = B_clock_bounds_tight_0 W R zm0 zn1 b3 b4 nx0 := by kernel_rfl
def N_clock_bounds_tight_0 (I : Bool → Bool → Hp → Prop) (μ : Bool → Bool → Hp → Nat) (b30 b40 : Bool) (s : Hp) (vs : List Value) : Hp → Prop := fun s' => ∃ b3 b4, vs = [(.bool b3), (.bool b4)] ∧ I b3 b4 s' ∧ μ b3 b4 s' < μ b30 b40 s
theorem L_clock_bounds_tight_0_rule (W : World) (R : Ending → Hp → Prop) (zm0 : Option Nat) (zn1 : Int) (I : Bool → Bool → Hp → Prop) (μ : Bool → Bool → Hp → Nat) (b30 b40 : Bool) (s : Hp) (h0 : I b30 b40 s)
    (hr : ∀ (b3 : Bool) (b4 : Bool) (s : Hp), I b3 b4 s → B_clock_bounds_tight_0 W R zm0 zn1 b3 b4 (fun vs => N_clock_bounds_tight_0 I μ b3 b4 s vs) s) : L_clock_bounds_tight_0 W R zm0 zn1 b30 b40 s := by
  refine ⟨fun vs s => ∃ b3 b4, vs = [(.bool b3), (.bool b4)] ∧ I b3 b4 s, fun vs s => (match vs with | [.bool b3, .bool b4] => μ b3 b4 s | _ => 0), ⟨⟨⟨_, rfl⟩, ⟨⟨_, rfl⟩, trivial⟩⟩, ⟨_, _, rfl, h0⟩⟩, ?_⟩
  intro b3 b4 s hI j
  obtain ⟨b3', b4', hy, hI⟩ := hI
  have hI' : I b3 b4 s := by cases hy; exact hI
  have hh := hr b3 b4 s hI'
  rw [← B_clock_bounds_tight_0_eq W R zm0 zn1 b3 b4 _ j] at hh
  refine vc_mono ?_ _ _ hh
  exact KLoop_mono (fun vs s' h => by obtain ⟨b31, b41, rfl, h1, h2⟩ := h; exact ⟨⟨⟨_, rfl⟩, ⟨⟨_, rfl⟩, trivial⟩⟩, ⟨_, _, rfl, h1⟩, h2⟩)
def B_clock_bounds_tight_1 (W : World) (R : Ending → Hp → Prop) (nx0 : List Value → Hp → Prop) (zm0 : Option Nat) (zn1 : Int) (zb2 b5 : Bool) (n6 : Int) (nx1 : List Value → Hp → Prop) : Hp → Prop :=
 BR (decide (n6 < zn1))
 (RNM Pg 137 (.map zm0) fun B7 =>
 L_clock_bounds_tight_2 W R nx0 nx1 zm0 zn1 zb2 n6 ⟨B7, 0, none⟩ b5)
 (RNM Pg 137 (.map zm0) fun B8 =>
 L_clock_bounds_tight_3 W R nx0 zm0 zn1 b5 ⟨B8, 0, none⟩ zb2)
theorem B_clock_bounds_tight_1_eq (W : World) (R : Ending → Hp → Prop) (nx0 : List Value → Hp → Prop) (zm0 : Option Nat) (zn1 : Int) (zb2 b5 : Bool) (n6 : Int) (nx1 : List Value → Hp → Prop) (j : Tm) : vc Pg W 86 rs_109 an_109 false (sub (bodyOf Tryz.f109) [1, 0, 1, 0, 0, 1, 0, 1, 0, 1, 0, 0]) 2 (KLoop [5, 6] [0, 1, 4, 86] [(.map zm0), (.int .i64 zn1), (.bool zb2), (.tuple #[])] nx1 (KBlk 2 (KS Pg W 86 rs_109 an_109 false (sub (bodyOf Tryz.f109) [1, 0, 1, 0, 0, 1, 0, 1, 1]) 1 (KBlk 1 (KLoop [4, 5] [0, 1, 86] [(.map zm0), (.int .i64 zn1), (.tuple #[])] nx0 (KBlk 0 (KS Pg W 86 rs_109 an_109 false (sub (bodyOf Tryz.f109) [1, 1]) 0 (fin Pg W 86 rv_109 R)))))))) (known [5, 6] [(.bool b5), (.int .i64 n6)] (known [0, 1, 4, 86] [(.map zm0), (.int .i64 zn1), (.bool zb2), (.tuple #[])] j)) = B_clock_bounds_tight_1 W R nx0 zm0 zn1 zb2 b5 n6 nx1 := by kernel_rfl
def N_clock_bounds_tight_1 (I : Bool → Int → Hp → Prop) (μ : Bool → Int → Hp → Nat) (b50 : Bool) (n60 : Int) (s : Hp) (vs : List Value) : Hp → Prop := fun s' => ∃ b5 n6, vs = [(.bool b5), (.int .i64 n6)] ∧ I b5 n6 s' ∧ μ b5 n6 s' < μ b50 n60 s
theorem L_clock_bounds_tight_1_rule (W : World) (R : Ending → Hp → Prop) (nx0 : List Value → Hp → Prop) (zm0 : Option Nat) (zn1 : Int) (zb2 : Bool) (I : Bool → Int → Hp → Prop) (μ : Bool → Int → Hp → Nat) (b50 : Bool) (n60 : Int) (s : Hp) (h0 : I b50 n60 s)
    (hr : ∀ (b5 : Bool) (n6 : Int) (s : Hp), I b5 n6 s → B_clock_bounds_tight_1 W R nx0 zm0 zn1 zb2 b5 n6 (fun vs => N_clock_bounds_tight_1 I μ b5 n6 s vs) s) : L_clock_bounds_tight_1 W R nx0 zm0 zn1 zb2 b50 n60 s := by
  refine ⟨fun vs s => ∃ b5 n6, vs = [(.bool b5), (.int .i64 n6)] ∧ I b5 n6 s, fun vs s => (match vs with | [.bool b5, .int _ n6] => μ b5 n6 s | _ => 0), ⟨⟨⟨_, rfl⟩, ⟨⟨_, rfl⟩, trivial⟩⟩, ⟨_, _, rfl, h0⟩⟩, ?_⟩
  intro b5 n6 s hI j
  obtain ⟨b5', n6', hy, hI⟩ := hI
  have hI' : I b5 n6 s := by cases hy; exact hI
  have hh := hr b5 n6 s hI'
  rw [← B_clock_bounds_tight_1_eq W R nx0 zm0 zn1 zb2 b5 n6 _ j] at hh
  refine vc_mono ?_ _ _ hh
  exact KLoop_mono (fun vs s' h => by obtain ⟨b51, n61, rfl, h1, h2⟩ := h; exact ⟨⟨⟨_, rfl⟩, ⟨⟨_, rfl⟩, trivial⟩⟩, ⟨_, _, rfl, h1⟩, h2⟩)
def B_clock_bounds_tight_2 (W : World) (R : Ending → Hp → Prop) (nx0 : List Value → Hp → Prop) (nx1 : List Value → Hp → Prop) (zm0 : Option Nat) (zn1 : Int) (zb2 : Bool) (zn3 : Int) (za4 : Addr) (b9 : Bool) (nx2 : List Value → Hp → Prop) : Hp → Prop :=
 NXM Pg (.pointer (some za4))
 (NX [(.map zm0), (.int .i64 zn1), (.bool zb2), (.tuple #[])] [(.map zm0), (.int .i64 zn1), (.bool zb2), (.tuple #[])] (nx1 [(.bool b9), (.int .i64 (IntKind.wrap .i64 (zn3 + 1)))])) fun v10 v11 =>
 ENT Pg (.pointer (some za4)) fun v12 v13 =>
 HD [v12, v13] fun v14 r15 => AGG v14 fun q16 => HD q16 fun v17 r18 => TYI .i64 v17 fun n19 =>
 HD r18 fun v20 r21 => TYI .i64 v20 fun n22 =>
 NL r21 <|
 HD r15 fun v23 r24 => TYI .i64 v23 fun n25 =>
 NL r24 <|
 NEWZ Pg 184 fun B26 =>
 WR (Addr.add ⟨B26, 0, none⟩ 0) (.int .i64 n19) <|
 WR (Addr.add ⟨B26, 0, none⟩ 1) (.int .i64 n22) <|
 RDI .i64 (Addr.add ⟨B26, 0, none⟩ 1) fun n27 =>
 LKP Pg 137 (.map zm0) (.agg #[(.int .i64 n27), (.int .i64 zn3)]) true fun v28 =>
 TUP v28 fun q29 => HD q29 fun v30 r31 => TYI .i64 v30 fun n32 =>
 HD r31 fun v33 r34 => TYB v33 fun b35 =>
 NL r34 <|
 BR b35
 (RDI .i64 (Addr.add ⟨B26, 0, none⟩ 0) fun n36 =>
 J_clock_bounds_tight_1 W R (n36 != zn3) B26 zn3 zm0 n25 n32 zn1 zb2 za4 nx2 b9)
 (J_clock_bounds_tight_1 W R false B26 zn3 zm0 n25 n32 zn1 zb2 za4 nx2 b9)
theorem B_clock_bounds_tight_2_eq (W : World) (R : Ending → Hp → Prop) (nx0 : List Value → Hp → Prop) (nx1 : List Value → Hp → Prop) (zm0 : Option Nat) (zn1 : Int) (zb2 : Bool) (zn3 : Int) (za4 : Addr) (b9 : Bool) (nx2 : List Value → Hp → Prop) (j : Tm) : vc Pg W 86 rs_109 an_109 false (sub (bodyOf Tryz.f109) [1, 0, 1, 0, 0, 1, 0, 1, 0, 1, 0, 0, 1, 0, 0, 1, 0, 0]) 4 (KLoop [5] [0, 1, 4, 6, 22, 86] [(.map zm0), (.int .i64 zn1), (.bool zb2), (.int .i64 zn3), (.pointer (some za4)), (.tuple #[])] nx2 (KBlk 4 (KBlk 3 (KS Pg W 86 rs_109 an_109 false (sub (bodyOf Tryz.f109) [1, 0, 1, 0, 0, 1, 0, 1, 0, 1, 0, 0, 1, 1]) 2 (KLoop [5, 6] [0, 1, 4, 86] [(.map zm0), (.int .i64 zn1), (.bool zb2), (.tuple #[])] nx1 (KBlk 2 (KS Pg W 86 rs_109 an_109 false (sub (bodyOf Tryz.f109) [1, 0, 1, 0, 0, 1, 0, 1, 1]) 1 (KBlk 1 (KLoop [4, 5] [0, 1, 86] [(.map zm0), (.int .i64 zn1), (.tuple #[])] nx0 (KBlk 0 (KS Pg W 86 rs_109 an_109 false (sub (bodyOf Tryz.f109) [1, 1]) 0 (fin Pg W 86 rv_109 R)))))))))))) (known [5] [(.bool b9)] (known [0, 1, 4, 6, 22, 86] [(.map zm0), (.int .i64 zn1), (.bool zb2), (.int .i64 zn3), (.pointer (some za4)), (.tuple #[])] j)) = B_clock_bounds_tight_2 W R nx0 nx1 zm0 zn1 zb2 zn3 za4 b9 nx2 := by kernel_rfl
def N_clock_bounds_tight_2 (I : Bool → Hp → Prop) (μ : Bool → Hp → Nat) (b90 : Bool) (s : Hp) (vs : List Value) : Hp → Prop := fun s' => ∃ b9, vs = [(.bool b9)] ∧ I b9 s' ∧ μ b9 s' < μ b90 s
theorem L_clock_bounds_tight_2_rule (W : World) (R : Ending → Hp → Prop) (nx0 : List Value → Hp → Prop) (nx1 : List Value → Hp → Prop) (zm0 : Option Nat) (zn1 : Int) (zb2 : Bool) (zn3 : Int) (za4 : Addr) (I : Bool → Hp → Prop) (μ : Bool → Hp → Nat) (b90 : Bool) (s : Hp) (h0 : I b90 s)
    (hr : ∀ (b9 : Bool) (s : Hp), I b9 s → B_clock_bounds_tight_2 W R nx0 nx1 zm0 zn1 zb2 zn3 za4 b9 (fun vs => N_clock_bounds_tight_2 I μ b9 s vs) s) : L_clock_bounds_tight_2 W R nx0 nx1 zm0 zn1 zb2 zn3 za4 b90 s := by
  refine ⟨fun vs s => ∃ b9, vs = [(.bool b9)] ∧ I b9 s, fun vs s => (match vs with | [.bool b9] => μ b9 s | _ => 0), ⟨⟨⟨_, rfl⟩, trivial⟩, ⟨_, rfl, h0⟩⟩, ?_⟩
  intro b9 s hI j
  obtain ⟨b9', hy, hI⟩ := hI
  have hI' : I b9 s := by cases hy; exact hI
  have hh := hr b9 s hI'
  rw [← B_clock_bounds_tight_2_eq W R nx0 nx1 zm0 zn1 zb2 zn3 za4 b9 _ j] at hh
  refine vc_mono ?_ _ _ hh
  exact KLoop_mono (fun vs s' h => by obtain ⟨b91, rfl, h1, h2⟩ := h; exact ⟨⟨⟨_, rfl⟩, trivial⟩, ⟨_, rfl, h1⟩, h2⟩)
def B_clock_bounds_tight_3 (W : World) (R : Ending → Hp → Prop) (nx0 : List Value → Hp → Prop) (zm0 : Option Nat) (zn1 : Int) (zb2 : Bool) (za3 : Addr) (b44 : Bool) (nx3 : List Value → Hp → Prop) : Hp → Prop :=
 NXM Pg (.pointer (some za3))
 (NX [(.map zm0), (.int .i64 zn1), (.tuple #[])] [(.map zm0), (.int .i64 zn1), (.tuple #[])] (nx0 [(.bool b44), (.bool zb2)])) fun v45 v46 =>
 ENT Pg (.pointer (some za3)) fun v47 v48 =>
 HD [v47, v48] fun v49 r50 => AGG v49 fun q51 => HD q51 fun v52 r53 => TYI .i64 v52 fun n54 =>
 HD r53 fun v55 r56 => TYI .i64 v55 fun n57 =>
 NL r56 <|
 HD r50 fun v58 r59 => TYI .i64 v58 fun n60 =>
 NL r59 <|
 NEWZ Pg 184 fun B61 =>
 WR (Addr.add ⟨B61, 0, none⟩ 0) (.int .i64 n54) <|
 WR (Addr.add ⟨B61, 0, none⟩ 1) (.int .i64 n57) <|
 RDI .i64 (Addr.add ⟨B61, 0, none⟩ 1) fun n62 =>
 RDI .i64 (Addr.add ⟨B61, 0, none⟩ 0) fun n63 =>
 LKP Pg 137 (.map zm0) (.agg #[(.int .i64 n62), (.int .i64 n63)]) true fun v64 =>
 TUP v64 fun q65 => HD q65 fun v66 r67 => TYI .i64 v66 fun n68 =>
 HD r67 fun v69 r70 => TYB v69 fun b71 =>
 NL r70 <|
 BR b71
 (BR (decide ((IntKind.wrap .i64 (n60 + n68)) < 0))
 (R (.returned (.bool false)))
 (NX [(.map zm0), (.int .i64 zn1), (.bool zb2), (.pointer (some za3)), (.tuple #[])] [(.map zm0), (.int .i64 zn1), (.bool zb2), (.pointer (some za3)), (.tuple #[])] (nx3 [(.bool b44)])))
 (NX [(.map zm0), (.int .i64 zn1), (.bool zb2), (.pointer (some za3)), (.tuple #[])] [(.map zm0), (.int .i64 zn1), (.bool zb2), (.pointer (some za3)), (.tuple #[])] (nx3 [(.bool b44)]))
theorem B_clock_bounds_tight_3_eq (W : World) (R : Ending → Hp → Prop) (nx0 : List Value → Hp → Prop) (zm0 : Option Nat) (zn1 : Int) (zb2 : Bool) (za3 : Addr) (b44 : Bool) (nx3 : List Value → Hp → Prop) (j : Tm) : vc Pg W 86 rs_109 an_109 false (sub (bodyOf Tryz.f109) [1, 0, 1, 0, 0, 1, 0, 1, 1, 1, 0, 0]) 6 (KLoop [4] [0, 1, 5, 63, 86] [(.map zm0), (.int .i64 zn1), (.bool zb2), (.pointer (some za3)), (.tuple #[])] nx3 (KBlk 6 (KBlk 1 (KLoop [4, 5] [0, 1, 86] [(.map zm0), (.int .i64 zn1), (.tuple #[])] nx0 (KBlk 0 (KS Pg W 86 rs_109 an_109 false (sub (bodyOf Tryz.f109) [1, 1]) 0 (fin Pg W 86 rv_109 R))))))) (known [4] [(.bool b44)] (known [0, 1, 5, 63, 86] [(.map zm0), (.int .i64 zn1), (.bool zb2), (.pointer (some za3)), (.tuple #[])] j)) = B_clock_bounds_tight_3 W R nx0 zm0 zn1 zb2 za3 b44 nx3 := by kernel_rfl
def N_clock_bounds_tight_3 (I : Bool → Hp → Prop) (μ : Bool → Hp → Nat) (b440 : Bool) (s : Hp) (vs : List Value) : Hp → Prop := fun s' => ∃ b44, vs = [(.bool b44)] ∧ I b44 s' ∧ μ b44 s' < μ b440 s
theorem L_clock_bounds_tight_3_rule (W : World) (R : Ending → Hp → Prop) (nx0 : List Value → Hp → Prop) (zm0 : Option Nat) (zn1 : Int) (zb2 : Bool) (za3 : Addr) (I : Bool → Hp → Prop) (μ : Bool → Hp → Nat) (b440 : Bool) (s : Hp) (h0 : I b440 s)
    (hr : ∀ (b44 : Bool) (s : Hp), I b44 s → B_clock_bounds_tight_3 W R nx0 zm0 zn1 zb2 za3 b44 (fun vs => N_clock_bounds_tight_3 I μ b44 s vs) s) : L_clock_bounds_tight_3 W R nx0 zm0 zn1 zb2 za3 b440 s := by
  refine ⟨fun vs s => ∃ b44, vs = [(.bool b44)] ∧ I b44 s, fun vs s => (match vs with | [.bool b44] => μ b44 s | _ => 0), ⟨⟨⟨_, rfl⟩, trivial⟩, ⟨_, rfl, h0⟩⟩, ?_⟩
  intro b44 s hI j
  obtain ⟨b44', hy, hI⟩ := hI
  have hI' : I b44 s := by cases hy; exact hI
  have hh := hr b44 s hI'
  rw [← B_clock_bounds_tight_3_eq W R nx0 zm0 zn1 zb2 za3 b44 _ j] at hh
  refine vc_mono ?_ _ _ hh
  exact KLoop_mono (fun vs s' h => by obtain ⟨b441, rfl, h1, h2⟩ := h; exact ⟨⟨⟨_, rfl⟩, trivial⟩, ⟨_, rfl, h1⟩, h2⟩)
def T_clock_bounds_tight (W : World) (m1 : Option Nat) (n2 : Int) (R : Ending → Hp → Prop) : Hp → Prop :=
 L_clock_bounds_tight_0 W R m1 n2 false true
theorem does_clock_bounds_tight (W : World) (m1 : Option Nat) (n2 : Int) (R : Ending → Hp → Prop) (s : Hp) (h : T_clock_bounds_tight W m1 n2 R s) : Does Pg W F_clock_bounds_tight #[(.map m1), (.int .i64 n2)] s R :=
  does_of_vfun Pg W an_109 Tryz.func109 rfl (by kernel_rfl) (Eq.mpr (by kernel_rfl) h)
def an_114 : Nat → Ann := fun b => match b with
 | _ => {}
def T_clock_clock_choices_c1 (W : World) (v1 : Value) (a2 : Addr) (R : Ending → Hp → Prop) : Hp → Prop :=
 ONE v1 <|
 NEW 226 [v1] fun B3 =>
 NEWZ Pg 227 fun B4 =>
 WR (Addr.add ⟨B4, 0, none⟩ 0) (.func (.func 115) #[] #[(.pointer (some a2)), (.pointer (some ⟨B3, 0, none⟩)), (.pointer (some ⟨B4, 0, none⟩))]) <|
 RDV ⟨B4, 0, none⟩ fun v5 =>
 CALLV Pg W v5 [(.agg #[(.int .i64 0), (.int .i64 0), (.int .i64 0), (.int .i64 0)]), (.int .i64 0)]
 (fun v6 => TYB v6 fun b8 =>
 R (.returned (.tuple #[])))
 (fun e7 => R (.panicked e7))
theorem does_clock_clock_choices_c1 (W : World) (v1 : Value) (a2 : Addr) (R : Ending → Hp → Prop) (s : Hp) (h : T_clock_clock_choices_c1 W v1 a2 R s) : Does Pg W F_clock_clock_choices_c1 #[v1, (.pointer (some a2))] s R :=
  does_of_vfun Pg W an_114 Tryz.func114 rfl (by kernel_rfl) (Eq.mpr (by kernel_rfl) h)
def an_115 : Nat → Ann := fun b => match b with
 | 0 => { ms := [7, 9], ks := [.b, .i .i64], us := [1, 4, 5, 8, 61], rt := false, ex := [] }
 | 2 => { ms := [7, 10], ks := [.b, .i .i64], us := [1, 4, 5, 8, 9, 61], rt := false, ex := [] }
 | _ => {}
abbrev rv_115 : List ResultVar := [.tmp 7]
abbrev rs_115 : List Nat := [61, 7]
def L_clock_clock_choices_c1_c1_0 (W : World) (R : Ending → Hp → Prop) (zn0 : Int) (za1 : Addr) (za2 : Addr) (za3 : Addr) (b35 : Bool) (n36 : Int) : Hp → Prop :=
 LOOPN [.b, .i .i64] (fun ys next s => ∀ j : Tm, vc Pg W 61 rs_115 an_115 false (sub (bodyOf Tryz.f115) [1, 1, 1, 0, 1, 0, 0]) 0 (KLoop [7, 9] [1, 4, 5, 8, 61] [(.int .i64 zn0), (.pointer (some za1)), (.pointer (some za2)), (.pointer (some za3)), (.tuple #[])] next (KBlk 0 (KS Pg W 61 rs_115 an_115 false (sub (bodyOf Tryz.f115) [1, 1, 1, 1]) 0 (fin Pg W 61 rv_115 R)))) (known [7, 9] ys (known [1, 4, 5, 8, 61] [(.int .i64 zn0), (.pointer (some za1)), (.pointer (some za2)), (.pointer (some za3)), (.tuple #[])] j)) s) [(.bool b35), (.int .i64 n36)]
def L_clock_clock_choices_c1_c1_1 (W : World) (R : Ending → Hp → Prop) (nx0 : List Value → Hp → Prop) (zn0 : Int) (za1 : Addr) (za2 : Addr) (za3 : Addr) (zn4 : Int) (b39 : Bool) (n40 : Int) : Hp → Prop :=
 LOOPN [.b, .i .i64] (fun ys next s => ∀ j : Tm, vc Pg W 61 rs_115 an_115 false (sub (bodyOf Tryz.f115) [1, 1, 1, 0, 1, 0, 0, 1, 0, 0, 1, 0, 0]) 2 (KLoop [7, 10] [1, 4, 5, 8, 9, 61] [(.int .i64 zn0), (.pointer (some za1)), (.pointer (some za2)), (.pointer (some za3)), (.int .i64 zn4), (.tuple #[])] next (KBlk 2 (KBlk 1 (KS Pg W 61 rs_115 an_115 false (sub (bodyOf Tryz.f115) [1, 1, 1, 0, 1, 0, 0, 1, 1]) 0 (KLoop [7, 9] [1, 4, 5, 8, 61] [(.int .i64 zn0), (.pointer (some za1)), (.pointer (some za2)), (.pointer (some za3)), (.tuple #[])] nx0 (KBlk 0 (KS Pg W 61 rs_115 an_115 false (sub (bodyOf Tryz.f115) [1, 1, 1, 1]) 0 (fin Pg W 61 rv_115 R)))))))) (known [7, 10] ys (known [1, 4, 5, 8, 9, 61] [(.int .i64 zn0), (.pointer (some za1)), (.pointer (some za2)), (.pointer (some za3)), (.int .i64 zn4), (.tuple #[])] j)) s) [(.bool b39), (.int .i64 n40)]
def B_clock_clock_choices_c1_c1_0 (W : World) (R : Ending → Hp → Prop) (zn0 : Int) (za1 : Addr) (za2 : Addr) (za3 : Addr) (b35 : Bool) (n36 : Int) (nx0 : List Value → Hp → Prop) : Hp → Prop :=
 RDI .i64 (Addr.add (Addr.add za3 0) 1) fun n37 =>
 BR (decide (n36 ≤ n37))
 (RDI .i64 (Addr.add (Addr.add za3 2) 0) fun n38 =>
 L_clock_clock_choices_c1_c1_1 W R nx0 zn0 za1 za2 za3 n36 b35 n38)
 (R (.returned (.bool true)))
theorem B_clock_clock_choices_c1_c1_0_eq (W : World) (R : Ending → Hp → Prop) (zn0 : Int) (za1 : Addr) (za2 : Addr) (za3 : Addr) (b35 : Bool) (n36 : Int) (nx0 : List Value → Hp → Prop) (j : Tm) : vc Pg W 61 rs_115 an_115 false (sub (bodyOf Tryz.f115) [1, 1, 1, 0, 1, 0, 0]) 0 (KLoop [7, 9] [1, 4, 5, 8, 61] [(.int .i64 zn0), (.pointer (some za1)), (.pointer (some za2)), (.pointer (some za3)), (.tuple #[])] nx0 (KBlk 0 (KS Pg W 61 rs_115 an_115 false (sub (bodyOf Tryz.f115) [1, 1, 1, 1]) 0 (fin Pg W 61 rv_115 R)))) (known [7, 9] [(.bool b35), (.int .i64 n36)] (known [1, 4, 5, 8, 61] [(.int .i64 zn0), (.pointer (some za1)), (.pointer (some za2)), (.pointer (some za3)), (.tuple #[])] j)) = B_clock_clock_choices_c1_c1_0 W R zn0 za1 za2 za3 b35 n36 nx0 := by kernel_rfl
def N_clock_clock_choices_c1_c1_0 (I : Bool → Int → Hp → Prop) (μ : Bool → Int → Hp → Nat) (b350 : Bool) (n360 : Int) (s : Hp) (vs : List Value) : Hp → Prop := fun s' => ∃ b35 n36, vs = [(.bool b35), (.int .i64 n36)] ∧ I b35 n36 s' ∧ μ b35 n36 s' < μ b350 n360 s
theorem L_clock_clock_choices_c1_c1_0_rule (W : World) (R : Ending → Hp → Prop) (zn0 : Int) (za1 : Addr) (za2 : Addr) (za3 : Addr) (I : Bool → Int → Hp → Prop) (μ : Bool → Int → Hp → Nat) (b350 : Bool) (n360 : Int) (s : Hp) (h0 : I b350 n360 s)
    (hr : ∀ (b35 : Bool) (n36 : Int) (s : Hp), I b35 n36 s → B_clock_clock_choices_c1_c1_0 W R zn0 za1 za2 za3 b35 n36 (fun vs => N_clock_clock_choices_c1_c1_0 I μ b35 n36 s vs) s) : L_clock_clock_choices_c1_c1_0 W R zn0 za1 za2 za3 b350 n360 s := by
  refine ⟨fun vs s => ∃ b35 n36, vs = [(.bool b35), (.int .i64 n36)] ∧ I b35 n36 s, fun vs s => (match vs with | [.bool b35, .int _ n36] => μ b35 n36 s | _ => 0), ⟨⟨⟨_, rfl⟩, ⟨⟨_, rfl⟩, trivial⟩⟩, ⟨_, _, rfl, h0⟩⟩, ?_⟩
  intro b35 n36 s hI j
  obtain ⟨b35', n36', hy, hI⟩ := hI
  have hI' : I b35 n36 s := by cases hy; exact hI
  have hh := hr b35 n36 s hI'
  rw [← B_clock_clock_choices_c1_c1_0_eq W R zn0 za1 za2 za3 b35 n36 _ j] at hh
  refine vc_mono ?_ _ _ hh
  exact KLoop_mono (fun vs s' h => by obtain ⟨b351, n361, rfl, h1, h2⟩ := h; exact ⟨⟨⟨_, rfl⟩, ⟨⟨_, rfl⟩, trivial⟩⟩, ⟨_, _, rfl, h1⟩, h2⟩)
def B_clock_clock_choices_c1_c1_1 (W : World) (R : Ending → Hp → Prop) (nx0 : List Value → Hp → Prop) (zn0 : Int) (za1 : Addr) (za2 : Addr) (za3 : Addr) (zn4 : Int) (b39 : Bool) (n40 : Int) (nx1 : List Value → Hp → Prop) : Hp → Prop :=
 RDI .i64 (Addr.add (Addr.add za3 2) 1) fun n41 =>
 BR (decide (n40 ≤ n41))
 (IXA za2 2 zn0 2 fun a42 =>
 WR (Addr.add a42 0) (.int .i64 zn4) <|
 WR (Addr.add a42 1) (.int .i64 n40) <|
 RDV za1 fun v43 =>
 RDI .i64 (Addr.add za2 0) fun n44 =>
 RDI .i64 (Addr.add za2 1) fun n45 =>
 RDI .i64 (Addr.add za2 2) fun n46 =>
 RDI .i64 (Addr.add za2 3) fun n47 =>
 CALLV Pg W v43 [(.agg #[(.int .i64 n44), (.int .i64 n45), (.int .i64 n46), (.int .i64 n47)]), (.int .i64 (IntKind.wrap .i64 (zn0 + 1)))]
 (fun v48 => TYB v48 fun b50 =>
 BR (!b50)
 (R (.returned (.bool false)))
 (NX [(.int .i64 zn0), (.pointer (some za1)), (.pointer (some za2)), (.pointer (some za3)), (.int .i64 zn4), (.tuple #[])] [(.int .i64 zn0), (.pointer (some za1)), (.pointer (some za2)), (.pointer (some za3)), (.int .i64 zn4), (.tuple #[])] (nx1 [(.bool b39), (.int .i64 (IntKind.wrap .i64 (n40 + 1)))])))
 (fun e49 => R (.panicked e49)))
 (NX [(.int .i64 zn0), (.pointer (some za1)), (.pointer (some za2)), (.pointer (some za3)), (.tuple #[])] [(.int .i64 zn0), (.pointer (some za1)), (.pointer (some za2)), (.pointer (some za3)), (.tuple #[])] (nx0 [(.bool b39), (.int .i64 (IntKind.wrap .i64 (zn4 + 1)))]))
theorem B_clock_clock_choices_c1_c1_1_eq (W : World) (R : Ending → Hp → Prop) (nx0 : List Value → Hp → Prop) (zn0 : Int) (za1 : Addr) (za2 : Addr) (za3 : Addr) (zn4 : Int) (b39 : Bool) (n40 : Int) (nx1 : List Value → Hp → Prop) (j : Tm) : vc Pg W 61 rs_115 an_115 false (sub (bodyOf Tryz.f115) [1, 1, 1, 0, 1, 0, 0, 1, 0, 0, 1, 0, 0]) 2 (KLoop [7, 10] [1, 4, 5, 8, 9, 61] [(.int .i64 zn0), (.pointer (some za1)), (.pointer (some za2)), (.pointer (some za3)), (.int .i64 zn4), (.tuple #[])] nx1 (KBlk 2 (KBlk 1 (KS Pg W 61 rs_115 an_115 false (sub (bodyOf Tryz.f115) [1, 1, 1, 0, 1, 0, 0, 1, 1]) 0 (KLoop [7, 9] [1, 4, 5, 8, 61] [(.int .i64 zn0), (.pointer (some za1)), (.pointer (some za2)), (.pointer (some za3)), (.tuple #[])] nx0 (KBlk 0 (KS Pg W 61 rs_115 an_115 false (sub (bodyOf Tryz.f115) [1, 1, 1, 1]) 0 (fin Pg W 61 rv_115 R)))))))) (known [7, 10] [(.bool b39), (.int .i64 n40)] (known [1, 4, 5, 8, 9, 61] [(.int .i64 zn0), (.pointer (some za1)), (.pointer (some za2)), (.pointer (some za3)), (.int .i64 zn4), (.tuple #[])] j)) = B_clock_clock_choices_c1_c1_1 W R nx0 zn0 za1 za2 za3 zn4 b39 n40 nx1 := by kernel_rfl
def N_clock_clock_choices_c1_c1_1 (I : Bool → Int → Hp → Prop) (μ : Bool → Int → Hp → Nat) (b390 : Bool) (n400 : Int) (s : Hp) (vs : List Value) : Hp → Prop := fun s' => ∃ b39 n40, vs = [(.bool b39), (.int .i64 n40)] ∧ I b39 n40 s' ∧ μ b39 n40 s' < μ b390 n400 s
theorem L_clock_clock_choices_c1_c1_1_rule (W : World) (R : Ending → Hp → Prop) (nx0 : List Value → Hp → Prop) (zn0 : Int) (za1 : Addr) (za2 : Addr) (za3 : Addr) (zn4 : Int) (I : Bool → Int → Hp → Prop) (μ : Bool → Int → Hp → Nat) (b390 : Bool) (n400 : Int) (s : Hp) (h0 : I b390 n400 s)
    (hr : ∀ (b39 : Bool) (n40 : Int) (s : Hp), I b39 n40 s → B_clock_clock_choices_c1_c1_1 W R nx0 zn0 za1 za2 za3 zn4 b39 n40 (fun vs => N_clock_clock_choices_c1_c1_1 I μ b39 n40 s vs) s) : L_clock_clock_choices_c1_c1_1 W R nx0 zn0 za1 za2 za3 zn4 b390 n400 s := by
  refine ⟨fun vs s => ∃ b39 n40, vs = [(.bool b39), (.int .i64 n40)] ∧ I b39 n40 s, fun vs s => (match vs with | [.bool b39, .int _ n40] => μ b39 n40 s | _ => 0), ⟨⟨⟨_, rfl⟩, ⟨⟨_, rfl⟩, trivial⟩⟩, ⟨_, _, rfl, h0⟩⟩, ?_⟩
  intro b39 n40 s hI j
  obtain ⟨b39', n40', hy, hI⟩ := hI
  have hI' : I b39 n40 s := by cases hy; exact hI
  have hh := hr b39 n40 s hI'
  rw [← B_clock_clock_choices_c1_c1_1_eq W R nx0 zn0 za1 za2 za3 zn4 b39 n40 _ j] at hh
  refine vc_mono ?_ _ _ hh
  exact KLoop_mono (fun vs s' h => by obtain ⟨b391, n401, rfl, h1, h2⟩ := h; exact ⟨⟨⟨_, rfl⟩, ⟨⟨_, rfl⟩, trivial⟩⟩, ⟨_, _, rfl, h1⟩, h2⟩)
def T_clock_clock_choices_c1_c1 (W : World) (n1 n2 n3 n4 n5 : Int) (a6 : Addr) (a7 : Addr) (a8 : Addr) (R : Ending → Hp → Prop) : Hp → Prop :=
 NEW 135 [(.int .i64 n1), (.int .i64 n2), (.int .i64 n3), (.int .i64 n4)] fun B9 =>
 RDP a6 fun p10 =>
 SO p10 fun a11 =>
 RDL (Addr.add (Addr.add a11 0) 0) fun x12 l13 c14 =>
 BR (n5 == (↑l13 : Int))
 (RDV a7 fun v15 =>
 RDI .i64 (Addr.add ⟨B9, 0, none⟩ 0) fun n16 =>
 RDI .i64 (Addr.add ⟨B9, 0, none⟩ 1) fun n17 =>
 RDI .i64 (Addr.add ⟨B9, 0, none⟩ 2) fun n18 =>
 RDI .i64 (Addr.add ⟨B9, 0, none⟩ 3) fun n19 =>
 CALLV Pg W v15 [(.agg #[(.int .i64 n16), (.int .i64 n17), (.int .i64 n18), (.int .i64 n19)])]
 (fun v20 => TYB v20 fun b22 =>
 R (.returned (.bool b22)))
 (fun e21 => R (.panicked e21)))
 (RDP a6 fun p23 =>
 SO p23 fun a24 =>
 RDL (Addr.add (Addr.add a24 0) 0) fun x25 l26 c27 =>
 IXS x25 l26 n5 4 fun a28 =>
 RDI .i64 (Addr.add a28 0) fun n29 =>
 RDI .i64 (Addr.add a28 1) fun n30 =>
 RDI .i64 (Addr.add a28 2) fun n31 =>
 RDI .i64 (Addr.add a28 3) fun n32 =>
 NEWZ Pg 146 fun B33 =>
 WR (Addr.add ⟨B33, 0, none⟩ 0) (.int .i64 n29) <|
 WR (Addr.add ⟨B33, 0, none⟩ 1) (.int .i64 n30) <|
 WR (Addr.add ⟨B33, 0, none⟩ 2) (.int .i64 n31) <|
 WR (Addr.add ⟨B33, 0, none⟩ 3) (.int .i64 n32) <|
 RDI .i64 (Addr.add (Addr.add ⟨B33, 0, none⟩ 0) 0) fun n34 =>
 L_clock_clock_choices_c1_c1_0 W R n5 a8 ⟨B9, 0, none⟩ ⟨B33, 0, none⟩ false n34)
theorem does_clock_clock_choices_c1_c1 (W : World) (n1 n2 n3 n4 n5 : Int) (a6 : Addr) (a7 : Addr) (a8 : Addr) (R : Ending → Hp → Prop) (s : Hp) (h : T_clock_clock_choices_c1_c1 W n1 n2 n3 n4 n5 a6 a7 a8 R s) : Does Pg W F_clock_clock_choices_c1_c1 #[(.agg #[(.int .i64 n1), (.int .i64 n2), (.int .i64 n3), (.int .i64 n4)]), (.int .i64 n5), (.pointer (some a6)), (.pointer (some a7)), (.pointer (some a8))] s R :=
  does_of_vfun Pg W an_115 Tryz.func115 rfl (by kernel_rfl) (Eq.mpr (by kernel_rfl) h)
def an_116 : Nat → Ann := fun b => match b with
 | _ => {}
def T_clock_bounds_put (W : World) (m1 : Option Nat) (n2 n3 n4 : Int) (R : Ending → Hp → Prop) : Hp → Prop :=
 NEW 184 [(.int .i64 n2), (.int .i64 n3)] fun B5 =>
 RDI .i64 (Addr.add ⟨B5, 0, none⟩ 0) fun n6 =>
 RDI .i64 (Addr.add ⟨B5, 0, none⟩ 1) fun n7 =>
 LKP Pg 137 (.map m1) (.agg #[(.int .i64 n6), (.int .i64 n7)]) true fun v8 =>
 TUP v8 fun q9 => HD q9 fun v10 r11 => TYI .i64 v10 fun n12 =>
 HD r11 fun v13 r14 => TYB v13 fun b15 =>
 NL r14 <|
 BR b15
 (BR (decide (n12 ≤ n4))
 (R (.returned (.bool false)))
 (RDI .i64 (Addr.add ⟨B5, 0, none⟩ 0) fun n16 =>
 RDI .i64 (Addr.add ⟨B5, 0, none⟩ 1) fun n17 =>
 MUP Pg 137 (.map m1) (.agg #[(.int .i64 n16), (.int .i64 n17)]) (.int .i64 n4) <|
 R (.returned (.bool true))))
 (RDI .i64 (Addr.add ⟨B5, 0, none⟩ 0) fun n18 =>
 RDI .i64 (Addr.add ⟨B5, 0, none⟩ 1) fun n19 =>
 MUP Pg 137 (.map m1) (.agg #[(.int .i64 n18), (.int .i64 n19)]) (.int .i64 n4) <|
 R (.returned (.bool true)))
theorem does_clock_bounds_put (W : World) (m1 : Option Nat) (n2 n3 n4 : Int) (R : Ending → Hp → Prop) (s : Hp) (h : T_clock_bounds_put W m1 n2 n3 n4 R s) : Does Pg W F_clock_bounds_put #[(.map m1), (.agg #[(.int .i64 n2), (.int .i64 n3)]), (.int .i64 n4)] s R :=
  does_of_vfun Pg W an_116 Tryz.func116 rfl (by kernel_rfl) (Eq.mpr (by kernel_rfl) h)
def an_138 : Nat → Ann := fun b => match b with
 | _ => {}
def T_clock_day_tell (W : World) (n1 : Int) (m2 : Option Nat) (n3 n4 n5 n6 : Int) (R : Ending → Hp → Prop) : Hp → Prop :=
 NEW 222 [(.int .i64 n1)] fun B7 =>
 NEW 135 [(.int .i64 n3), (.int .i64 n4), (.int .i64 n5), (.int .i64 n6)] fun B8 =>
 RDI .i64 (Addr.add ⟨B7, 0, none⟩ 0) fun n9 =>
 CALL Pg W F_clock_bounds_tie [(.map m2), (.int .i64 (-1)), (.int .i64 n9), (.agg #[(.int .i64 0), (.int .i64 600)])]
 (fun v10 => TUP v10 fun q12 => NL q12 <|
 R (.returned (.bool true)))
 (fun e11 => R (.panicked e11))
theorem does_clock_day_tell (W : World) (n1 : Int) (m2 : Option Nat) (n3 n4 n5 n6 : Int) (R : Ending → Hp → Prop) (s : Hp) (h : T_clock_day_tell W n1 m2 n3 n4 n5 n6 R s) : Does Pg W F_clock_day_tell #[(.agg #[(.int .i64 n1)]), (.map m2), (.agg #[(.int .i64 n3), (.int .i64 n4), (.int .i64 n5), (.int .i64 n6)])] s R :=
  does_of_vfun Pg W an_138 Tryz.func138 rfl (by kernel_rfl) (Eq.mpr (by kernel_rfl) h)
def an_139 : Nat → Ann := fun b => match b with
 | _ => {}
def T_clock_bounds_tie (W : World) (m1 : Option Nat) (n2 n3 n4 n5 : Int) (R : Ending → Hp → Prop) : Hp → Prop :=
 NEW 27 [(.int .i64 n4), (.int .i64 n5)] fun B6 =>
 RDI .i64 (Addr.add ⟨B6, 0, none⟩ 1) fun n7 =>
 CALL Pg W F_clock_bounds_put [(.map m1), (.agg #[(.int .i64 n2), (.int .i64 n3)]), (.int .i64 n7)]
 (fun v8 => TYB v8 fun b10 =>
 RDI .i64 (Addr.add ⟨B6, 0, none⟩ 0) fun n11 =>
 CALL Pg W F_clock_bounds_put [(.map m1), (.agg #[(.int .i64 n3), (.int .i64 n2)]), (.int .i64 (IntKind.wrap .i64 (0 - n11)))]
 (fun v12 => TYB v12 fun b14 =>
 R (.returned (.tuple #[])))
 (fun e13 => R (.panicked e13)))
 (fun e9 => R (.panicked e9))
theorem does_clock_bounds_tie (W : World) (m1 : Option Nat) (n2 n3 n4 n5 : Int) (R : Ending → Hp → Prop) (s : Hp) (h : T_clock_bounds_tie W m1 n2 n3 n4 n5 R s) : Does Pg W F_clock_bounds_tie #[(.map m1), (.int .i64 n2), (.int .i64 n3), (.agg #[(.int .i64 n4), (.int .i64 n5)])] s R :=
  does_of_vfun Pg W an_139 Tryz.func139 rfl (by kernel_rfl) (Eq.mpr (by kernel_rfl) h)
def an_140 : Nat → Ann := fun b => match b with
 | _ => {}
def J_clock_reading_tell_0 (W : World) (R : Ending → Hp → Prop) (p30 : Option Addr) (B9 : Nat) (m4 : Option Nat) (B10 : Nat) : Hp → Prop :=
 SO p30 fun a31 =>
 RDI .i64 (Addr.add a31 0) fun n32 =>
 SO p30 fun a33 =>
 RDI .i64 (Addr.add a33 1) fun n34 =>
 BR (decide (n32 > n34))
 (R (.returned (.bool false)))
 (RDI .i64 (Addr.add (Addr.add ⟨B9, 0, none⟩ 0) 0) fun n35 =>
 SO p30 fun a36 =>
 RDI .i64 (Addr.add a36 0) fun n37 =>
 RDI .i64 (Addr.add a36 1) fun n38 =>
 CALL Pg W F_clock_bounds_tie [(.map m4), (.int .i64 (-1)), (.int .i64 n35), (.agg #[(.int .i64 n37), (.int .i64 n38)])]
 (fun v39 => TUP v39 fun q41 => NL q41 <|
 RDI .i64 (Addr.add (Addr.add ⟨B9, 0, none⟩ 0) 0) fun n42 =>
 RDI .i64 (Addr.add ⟨B10, 0, none⟩ 0) fun n43 =>
 RDI .i64 (Addr.add ⟨B10, 0, none⟩ 1) fun n44 =>
 RDI .i64 (Addr.add ⟨B10, 0, none⟩ 2) fun n45 =>
 RDI .i64 (Addr.add ⟨B10, 0, none⟩ 3) fun n46 =>
 CALL Pg W F_clock_day_tell [(.agg #[(.int .i64 n42)]), (.map m4), (.agg #[(.int .i64 n43), (.int .i64 n44), (.int .i64 n45), (.int .i64 n46)])]
 (fun v47 => TYB v47 fun b49 =>
 R (.returned (.bool b49)))
 (fun e48 => R (.panicked e48)))
 (fun e40 => R (.panicked e40)))
def T_clock_reading_tell (W : World) (n1 n2 n3 : Int) (m4 : Option Nat) (n5 n6 n7 n8 : Int) (R : Ending → Hp → Prop) : Hp → Prop :=
 NEW 224 [(.int .i64 n1), (.int .i64 n2), (.int .i64 n3)] fun B9 =>
 NEW 135 [(.int .i64 n5), (.int .i64 n6), (.int .i64 n7), (.int .i64 n8)] fun B10 =>
 RDI .i64 (Addr.add ⟨B9, 0, none⟩ 1) fun n11 =>
 IXA ⟨B10, 0, none⟩ 2 n11 2 fun a12 =>
 RDI .i64 (Addr.add a12 0) fun n13 =>
 RDI .i64 (Addr.add a12 1) fun n14 =>
 RDI .i64 (Addr.add ⟨B9, 0, none⟩ 2) fun n15 =>
 CONJ [
 CALL Pg W F_clock_going_minutes [(.agg #[(.int .i64 n13), (.int .i64 n14)]), (.int .i64 n15)]
 (fun v16 => AGG v16 fun q18 => HD q18 fun v19 r20 => TYI .i64 v19 fun n21 =>
 HD r20 fun v22 r23 => TYI .i64 v22 fun n24 =>
 NL r23 <|
 NEWZ Pg 27 fun B25 =>
 ANDS (RDI .i64 (Addr.add ⟨B9, 0, none⟩ 2) fun n26 =>
 fun _ => ((.int .i64 n26) : Value) = (.int .i64 n15)) <|
 ANDS (RDI .i64 (Addr.add a12 0) fun n27 =>
 RDI .i64 (Addr.add a12 1) fun n28 =>
 fun _ => ((.agg #[(.int .i64 n27), (.int .i64 n28)]) : Value) = (.agg #[(.int .i64 n13), (.int .i64 n14)])) <|
 ANDS (RDI .i64 (Addr.add ⟨B9, 0, none⟩ 1) fun n29 =>
 fun _ => ((.int .i64 n29) : Value) = (.int .i64 n11)) <|
 WR (Addr.add ⟨B25, 0, none⟩ 0) (.int .i64 n21) <|
 WR (Addr.add ⟨B25, 0, none⟩ 1) (.int .i64 n24) <|
 J_clock_reading_tell_0 W R (some ⟨B25, 0, none⟩) B9 m4 B10)
 (fun e17 => R (.panicked e17)),
 NEWZ Pg 27 fun B50 =>
 ANDS (RDI .i64 (Addr.add ⟨B9, 0, none⟩ 2) fun n51 =>
 fun _ => ((.int .i64 n51) : Value) = (.int .i64 n15)) <|
 ANDS (RDI .i64 (Addr.add a12 0) fun n52 =>
 RDI .i64 (Addr.add a12 1) fun n53 =>
 fun _ => ((.agg #[(.int .i64 n52), (.int .i64 n53)]) : Value) = (.agg #[(.int .i64 n13), (.int .i64 n14)])) <|
 ANDS (RDI .i64 (Addr.add ⟨B9, 0, none⟩ 1) fun n54 =>
 fun _ => ((.int .i64 n54) : Value) = (.int .i64 n11)) <|
 CALL Pg W F_clock_going_minutes [(.agg #[(.int .i64 n13), (.int .i64 n14)]), (.int .i64 n15)]
 (fun v55 => AGG v55 fun q57 => HD q57 fun v58 r59 => TYI .i64 v58 fun n60 =>
 HD r59 fun v61 r62 => TYI .i64 v61 fun n63 =>
 NL r62 <|
 WR (Addr.add ⟨B50, 0, none⟩ 0) (.int .i64 n60) <|
 WR (Addr.add ⟨B50, 0, none⟩ 1) (.int .i64 n63) <|
 J_clock_reading_tell_0 W R (some ⟨B50, 0, none⟩) B9 m4 B10)
 (fun e56 => R (.panicked e56))]
theorem does_clock_reading_tell (W : World) (n1 n2 n3 : Int) (m4 : Option Nat) (n5 n6 n7 n8 : Int) (R : Ending → Hp → Prop) (s : Hp) (h : T_clock_reading_tell W n1 n2 n3 m4 n5 n6 n7 n8 R s) : Does Pg W F_clock_reading_tell #[(.agg #[(.int .i64 n1), (.int .i64 n2), (.int .i64 n3)]), (.map m4), (.agg #[(.int .i64 n5), (.int .i64 n6), (.int .i64 n7), (.int .i64 n8)])] s R :=
  does_of_vfun Pg W an_140 Tryz.func140 rfl (by kernel_rfl) (Eq.mpr (by kernel_rfl) h)
def an_141 : Nat → Ann := fun b => match b with
 | _ => {}
def T_clock_going_minutes (W : World) (n1 n2 n3 : Int) (R : Ending → Hp → Prop) : Hp → Prop :=
 NEW 133 [(.int .i64 n1), (.int .i64 n2)] fun B4 =>
 NEWZ Pg 27 fun B5 =>
 RDI .i64 (Addr.add ⟨B4, 0, none⟩ 0) fun n6 =>
 BR (decide ((IntKind.wrap .i64 (n3 - n6)) < 0))
 (WR (Addr.add ⟨B5, 0, none⟩ 0) (.int .i64 1) <|
 WR (Addr.add ⟨B5, 0, none⟩ 1) (.int .i64 0) <|
 RDI .i64 (Addr.add ⟨B5, 0, none⟩ 0) fun n7 =>
 RDI .i64 (Addr.add ⟨B5, 0, none⟩ 1) fun n8 =>
 R (.returned (.agg #[(.int .i64 n7), (.int .i64 n8)])))
 (CALLV Pg W (.func (.func 142) #[] #[(.pointer (some ⟨B4, 0, none⟩))]) [(.int .i64 (IntKind.wrap .i64 (n3 - n6)))]
 (fun v9 => TYI .i64 v9 fun n11 =>
 CALLV Pg W (.func (.func 142) #[] #[(.pointer (some ⟨B4, 0, none⟩))]) [(.int .i64 (IntKind.wrap .i64 ((IntKind.wrap .i64 (n3 - n6)) + 1)))]
 (fun v12 => TYI .i64 v12 fun n14 =>
 WR (Addr.add ⟨B5, 0, none⟩ 0) (.int .i64 n11) <|
 WR (Addr.add ⟨B5, 0, none⟩ 1) (.int .i64 (IntKind.wrap .i64 (n14 - 1))) <|
 RDI .i64 (Addr.add ⟨B5, 0, none⟩ 0) fun n15 =>
 RDI .i64 (Addr.add ⟨B5, 0, none⟩ 1) fun n16 =>
 R (.returned (.agg #[(.int .i64 n15), (.int .i64 n16)])))
 (fun e13 => R (.panicked e13)))
 (fun e10 => R (.panicked e10)))
theorem does_clock_going_minutes (W : World) (n1 n2 n3 : Int) (R : Ending → Hp → Prop) (s : Hp) (h : T_clock_going_minutes W n1 n2 n3 R s) : Does Pg W F_clock_going_minutes #[(.agg #[(.int .i64 n1), (.int .i64 n2)]), (.int .i64 n3)] s R :=
  does_of_vfun Pg W an_141 Tryz.func141 rfl (by kernel_rfl) (Eq.mpr (by kernel_rfl) h)
def an_142 : Nat → Ann := fun b => match b with
 | _ => {}
def T_clock_going_minutes_c1 (W : World) (n1 : Int) (a2 : Addr) (R : Ending → Hp → Prop) : Hp → Prop :=
 RDI .i64 (Addr.add a2 1) fun n3 =>
 RDI .i64 (Addr.add a2 1) fun n4 =>
 NZI n4 <|
 R (.returned (.int .i64 (IntKind.wrap .i64 (Int.tdiv (IntKind.wrap .i64 ((IntKind.wrap .i64 ((IntKind.wrap .i64 (n1 * 1000)) + n3)) - 1)) n4))))
theorem does_clock_going_minutes_c1 (W : World) (n1 : Int) (a2 : Addr) (R : Ending → Hp → Prop) (s : Hp) (h : T_clock_going_minutes_c1 W n1 a2 R s) : Does Pg W F_clock_going_minutes_c1 #[(.int .i64 n1), (.pointer (some a2))] s R :=
  does_of_vfun Pg W an_142 Tryz.func142 rfl (by kernel_rfl) (Eq.mpr (by kernel_rfl) h)
def an_143 : Nat → Ann := fun b => match b with
 | _ => {}
def T_clock_link_tell (W : World) (n1 n2 n3 n4 : Int) (m5 : Option Nat) (n6 n7 n8 n9 : Int) (R : Ending → Hp → Prop) : Hp → Prop :=
 NEW 225 [(.int .i64 n1), (.int .i64 n2), (.int .i64 n3), (.int .i64 n4)] fun B10 =>
 NEW 135 [(.int .i64 n6), (.int .i64 n7), (.int .i64 n8), (.int .i64 n9)] fun B11 =>
 RDI .i64 (Addr.add ⟨B10, 0, none⟩ 0) fun n12 =>
 RDI .i64 (Addr.add ⟨B10, 0, none⟩ 1) fun n13 =>
 RDI .i64 (Addr.add (Addr.add ⟨B10, 0, none⟩ 2) 0) fun n14 =>
 RDI .i64 (Addr.add (Addr.add ⟨B10, 0, none⟩ 2) 1) fun n15 =>
 CALL Pg W F_clock_bounds_tie [(.map m5), (.int .i64 n12), (.int .i64 n13), (.agg #[(.int .i64 n14), (.int .i64 n15)])]
 (fun v16 => TUP v16 fun q18 => NL q18 <|
 R (.returned (.bool true)))
 (fun e17 => R (.panicked e17))
theorem does_clock_link_tell (W : World) (n1 n2 n3 n4 : Int) (m5 : Option Nat) (n6 n7 n8 n9 : Int) (R : Ending → Hp → Prop) (s : Hp) (h : T_clock_link_tell W n1 n2 n3 n4 m5 n6 n7 n8 n9 R s) : Does Pg W F_clock_link_tell #[(.agg #[(.int .i64 n1), (.int .i64 n2), (.int .i64 n3), (.int .i64 n4)]), (.map m5), (.agg #[(.int .i64 n6), (.int .i64 n7), (.int .i64 n8), (.int .i64 n9)])] s R :=
  does_of_vfun Pg W an_143 Tryz.func143 rfl (by kernel_rfl) (Eq.mpr (by kernel_rfl) h)
end Go.Proofs.YtpmldejcdaoljaaGreat.G
