import Derived.Test.YtkgcbfbbcaajpaaC4
/- Which scores could prove that any one is before another one, how many points are enough for any place, and the order, are those of the document, or why they are not known: the statement RankLooks holds for every input, with no condition. -/
/- More of the functions' shallow texts, by gen.py. -/
set_option linter.unusedVariables false
set_option maxRecDepth 100000
namespace Go.Proofs.Ytkgcbfbbcaajpaa.G
open Go.V
def an_4 : Nat → Ann := fun b => match b with
  | _ => {}
abbrev rv_4 : List ResultVar := [.tmp 10]
abbrev rs_4 : List Nat := [106, 10]
def J_law10_RankLooks_0 (W : World) (R : Ending → Hp → Prop) (b137 : Bool) (x110 : Option Addr) (l111 : Nat) (c112 : Nat) (x129 : Option Addr) (l130 : Nat) (c131 : Nat) (n115 : Int) (n134 : Int) : Hp → Prop :=
  BR b137
    (CALL Pg W F_ref10_Ints [(.slice x110 l111 c112), (.slice x129 l130 c131)]
      (fun v138 => TYB v138 fun b140 =>
        BR b140
          (BR (n115 == n134)
            (CALL Pg W F_law10_awake []
              (fun v141 => TYB v141 fun b143 =>
                R (.returned (.bool b143)))
                (fun e142 => R (.panicked e142)))
            (R (.returned (.bool false))))
          (R (.returned (.bool false))))
        (fun e139 => R (.panicked e139)))
    (R (.returned (.bool false)))
def J_law10_RankLooks_1 (W : World) (R : Ending → Hp → Prop) (b136 : Bool) (n79 : Int) (n96 : Int) (x110 : Option Addr) (l111 : Nat) (c112 : Nat) (x129 : Option Addr) (l130 : Nat) (c131 : Nat) (n115 : Int) (n134 : Int) : Hp → Prop :=
  BR b136
    (J_law10_RankLooks_0 W R (n79 == n96) x110 l111 c112 x129 l130 c131 n115 n134)
    (J_law10_RankLooks_0 W R false x110 l111 c112 x129 l130 c131 n115 n134)
def J_law10_RankLooks_2 (W : World) (R : Ending → Hp → Prop) (b135 : Bool) (n76 : Int) (n93 : Int) (n79 : Int) (n96 : Int) (x110 : Option Addr) (l111 : Nat) (c112 : Nat) (x129 : Option Addr) (l130 : Nat) (c131 : Nat) (n115 : Int) (n134 : Int) : Hp → Prop :=
  BR b135
    (J_law10_RankLooks_1 W R (n76 == n93) n79 n96 x110 l111 c112 x129 l130 c131 n115 n134)
    (J_law10_RankLooks_1 W R false n79 n96 x110 l111 c112 x129 l130 c131 n115 n134)
def J_law10_RankLooks_3 (W : World) (R : Ending → Hp → Prop) (b25 : Bool) (B13 : Nat) (n9 : Int) (n10 : Int) (n11 : Int) (n12 : Int) : Hp → Prop :=
  BR b25
    (CALL Pg W F_law10_awake []
      (fun v26 => TYB v26 fun b28 =>
        R (.returned (.bool b28)))
        (fun e27 => R (.panicked e27)))
    (RDI .i64 (Addr.add ⟨B13, 0, none⟩ 0) fun n29 =>
      RDI .i64 (Addr.add ⟨B13, 0, none⟩ 1) fun n30 =>
        RDL (Addr.add ⟨B13, 0, none⟩ 2) fun x31 l32 c33 =>
          RDL (Addr.add ⟨B13, 0, none⟩ 3) fun x34 l35 c36 =>
            CALL Pg W F_rank_Could [(.agg #[(.int .i64 n29), (.int .i64 n30), (.slice x31 l32 c33), (.slice x34 l35 c36)]), (.int .i64 n9), (.int .i64 n10)]
              (fun v37 => TUP v37 fun q39 => HD q39 fun v40 r41 => TYI .i64 v40 fun n42 =>
                HD r41 fun v43 r44 => TYI .i64 v43 fun n45 =>
                  NL r44 <|
                    RDI .i64 (Addr.add ⟨B13, 0, none⟩ 0) fun n46 =>
                      RDI .i64 (Addr.add ⟨B13, 0, none⟩ 1) fun n47 =>
                        RDL (Addr.add ⟨B13, 0, none⟩ 2) fun x48 l49 c50 =>
                          RDL (Addr.add ⟨B13, 0, none⟩ 3) fun x51 l52 c53 =>
                            CALL Pg W F_ref10_Could [(.agg #[(.int .i64 n46), (.int .i64 n47), (.slice x48 l49 c50), (.slice x51 l52 c53)]), (.int .i64 n9), (.int .i64 n10)]
                              (fun v54 => TUP v54 fun q56 => HD q56 fun v57 r58 => TYI .i64 v57 fun n59 =>
                                HD r58 fun v60 r61 => TYI .i64 v60 fun n62 =>
                                  NL r61 <|
                                    RDI .i64 (Addr.add ⟨B13, 0, none⟩ 0) fun n63 =>
                                      RDI .i64 (Addr.add ⟨B13, 0, none⟩ 1) fun n64 =>
                                        RDL (Addr.add ⟨B13, 0, none⟩ 2) fun x65 l66 c67 =>
                                          RDL (Addr.add ⟨B13, 0, none⟩ 3) fun x68 l69 c70 =>
                                            CALL Pg W F_rank_Need [(.agg #[(.int .i64 n63), (.int .i64 n64), (.slice x65 l66 c67), (.slice x68 l69 c70)]), (.int .i64 n9), (.int .i64 n11), (.int .i64 n12)]
                                              (fun v71 => TUP v71 fun q73 => HD q73 fun v74 r75 => TYI .i64 v74 fun n76 =>
                                                HD r75 fun v77 r78 => TYI .i64 v77 fun n79 =>
                                                  NL r78 <|
                                                    RDI .i64 (Addr.add ⟨B13, 0, none⟩ 0) fun n80 =>
                                                      RDI .i64 (Addr.add ⟨B13, 0, none⟩ 1) fun n81 =>
                                                        RDL (Addr.add ⟨B13, 0, none⟩ 2) fun x82 l83 c84 =>
                                                          RDL (Addr.add ⟨B13, 0, none⟩ 3) fun x85 l86 c87 =>
                                                            CALL Pg W F_ref10_Need [(.agg #[(.int .i64 n80), (.int .i64 n81), (.slice x82 l83 c84), (.slice x85 l86 c87)]), (.int .i64 n9), (.int .i64 n11), (.int .i64 n12)]
                                                              (fun v88 => TUP v88 fun q90 => HD q90 fun v91 r92 => TYI .i64 v91 fun n93 =>
                                                                HD r92 fun v94 r95 => TYI .i64 v94 fun n96 =>
                                                                  NL r95 <|
                                                                    RDI .i64 (Addr.add ⟨B13, 0, none⟩ 0) fun n97 =>
                                                                      RDI .i64 (Addr.add ⟨B13, 0, none⟩ 1) fun n98 =>
                                                                        RDL (Addr.add ⟨B13, 0, none⟩ 2) fun x99 l100 c101 =>
                                                                          RDL (Addr.add ⟨B13, 0, none⟩ 3) fun x102 l103 c104 =>
                                                                            CALL Pg W F_rank_Order [(.agg #[(.int .i64 n97), (.int .i64 n98), (.slice x99 l100 c101), (.slice x102 l103 c104)])]
                                                                              (fun v105 => TUP v105 fun q107 => HD q107 fun v108 r109 => TYL v108 fun x110 l111 c112 =>
                                                                                HD r109 fun v113 r114 => TYI .i64 v113 fun n115 =>
                                                                                  NL r114 <|
                                                                                    RDI .i64 (Addr.add ⟨B13, 0, none⟩ 0) fun n116 =>
                                                                                      RDI .i64 (Addr.add ⟨B13, 0, none⟩ 1) fun n117 =>
                                                                                        RDL (Addr.add ⟨B13, 0, none⟩ 2) fun x118 l119 c120 =>
                                                                                          RDL (Addr.add ⟨B13, 0, none⟩ 3) fun x121 l122 c123 =>
                                                                                            CALL Pg W F_ref10_Order [(.agg #[(.int .i64 n116), (.int .i64 n117), (.slice x118 l119 c120), (.slice x121 l122 c123)])]
                                                                                              (fun v124 => TUP v124 fun q126 => HD q126 fun v127 r128 => TYL v127 fun x129 l130 c131 =>
                                                                                                HD r128 fun v132 r133 => TYI .i64 v132 fun n134 =>
                                                                                                  NL r133 <|
                                                                                                    BR (n42 == n59)
                                                                                                      (J_law10_RankLooks_2 W R (n45 == n62) n76 n93 n79 n96 x110 l111 c112 x129 l130 c131 n115 n134)
                                                                                                      (J_law10_RankLooks_2 W R false n76 n93 n79 n96 x110 l111 c112 x129 l130 c131 n115 n134))
                                                                                                (fun e125 => R (.panicked e125)))
                                                                                (fun e106 => R (.panicked e106)))
                                                                (fun e89 => R (.panicked e89)))
                                                (fun e72 => R (.panicked e72)))
                                (fun e55 => R (.panicked e55)))
                (fun e38 => R (.panicked e38)))
def T_law10_RankLooks (W : World) (n1 : Int) (n2 : Int) (x3 : Option Addr) (l4 : Nat) (c5 : Nat) (x6 : Option Addr) (l7 : Nat) (c8 : Nat) (n9 : Int) (n10 : Int) (n11 : Int) (n12 : Int) (R : Ending → Hp → Prop) : Hp → Prop :=
  NEW 25 [(.int .i64 n1), (.int .i64 n2), (.slice x3 l4 c5), (.slice x6 l7 c8)] fun B13 =>
    RDI .i64 (Addr.add ⟨B13, 0, none⟩ 0) fun n14 =>
      RDI .i64 (Addr.add ⟨B13, 0, none⟩ 1) fun n15 =>
        RDL (Addr.add ⟨B13, 0, none⟩ 2) fun x16 l17 c18 =>
          RDL (Addr.add ⟨B13, 0, none⟩ 3) fun x19 l20 c21 =>
            CALL Pg W F_law10_far [(.agg #[(.int .i64 n14), (.int .i64 n15), (.slice x16 l17 c18), (.slice x19 l20 c21)])]
              (fun v22 => TYB v22 fun b24 =>
                BR b24
                  (J_law10_RankLooks_3 W R true B13 n9 n10 n11 n12)
                  (RDI .i64 (Addr.add ⟨B13, 0, none⟩ 1) fun n144 =>
                    BR (decide (n144 > 4))
                      (RDI .i64 (Addr.add ⟨B13, 0, none⟩ 0) fun n145 =>
                        RDI .i64 (Addr.add ⟨B13, 0, none⟩ 1) fun n146 =>
                          RDL (Addr.add ⟨B13, 0, none⟩ 2) fun x147 l148 c149 =>
                            RDL (Addr.add ⟨B13, 0, none⟩ 3) fun x150 l151 c152 =>
                              CALL Pg W F_ref10_Table [(.agg #[(.int .i64 n145), (.int .i64 n146), (.slice x147 l148 c149), (.slice x150 l151 c152)])]
                                (fun v153 => TYB v153 fun b155 =>
                                  J_law10_RankLooks_3 W R b155 B13 n9 n10 n11 n12)
                                  (fun e154 => R (.panicked e154)))
                      (J_law10_RankLooks_3 W R false B13 n9 n10 n11 n12)))
                (fun e23 => R (.panicked e23))
theorem T_law10_RankLooks_eq (W : World) (n1 : Int) (n2 : Int) (x3 : Option Addr) (l4 : Nat) (c5 : Nat) (x6 : Option Addr) (l7 : Nat) (c8 : Nat) (n9 : Int) (n10 : Int) (n11 : Int) (n12 : Int) (R : Ending → Hp → Prop) : vfun Pg W an_4 Try.f4 [(.agg #[(.int .i64 n1), (.int .i64 n2), (.slice x3 l4 c5), (.slice x6 l7 c8)]), (.int .i64 n9), (.int .i64 n10), (.int .i64 n11), (.int .i64 n12)] R = T_law10_RankLooks W n1 n2 x3 l4 c5 x6 l7 c8 n9 n10 n11 n12 R := by kernel_rfl
theorem does_law10_RankLooks (W : World) (n1 : Int) (n2 : Int) (x3 : Option Addr) (l4 : Nat) (c5 : Nat) (x6 : Option Addr) (l7 : Nat) (c8 : Nat) (n9 : Int) (n10 : Int) (n11 : Int) (n12 : Int) (R : Ending → Hp → Prop) (s : Hp) (h : T_law10_RankLooks W n1 n2 x3 l4 c5 x6 l7 c8 n9 n10 n11 n12 R s) : Does Pg W F_law10_RankLooks #[(.agg #[(.int .i64 n1), (.int .i64 n2), (.slice x3 l4 c5), (.slice x6 l7 c8)]), (.int .i64 n9), (.int .i64 n10), (.int .i64 n11), (.int .i64 n12)] s R :=
  does_of_vfun Pg W an_4 Try.func4 rfl (by kernel_rfl) (by rw [T_law10_RankLooks_eq]; exact h)
end Go.Proofs.Ytkgcbfbbcaajpaa.G

/- The statement RankLooks. -/
set_option linter.unusedSimpArgs false
set_option linter.unusedVariables false
set_option maxRecDepth 20000
namespace Go.Proofs.Ytkgcbfbbcaajpaa.G
open Go.V
section
variable {W : World} {K : VK} {E : List PanicEntry → Hp → Prop} {s : Hp} {T : Tb}
theorem w_RankLooks {x y : Option Addr} {c c' : Nat} {a b sh pl : Int} (hx : RowAt s x (ints T.off)) (hy : ScAt s y T.sc) (h : ∀ s', Ext s s' → K (.bool true) s') :
    CALL Pg W F_law10_RankLooks [.agg #[.int .i64 T.men, .int .i64 T.sheets, .slice x T.off.length c, .slice y T.sc.length c'], .int .i64 a, .int .i64 b, .int .i64 sh, .int .i64 pl] K E s := by
  refine does_law10_RankLooks W T.men T.sheets x T.off.length c y T.sc.length c' a b sh pl _ s ?_
  unfold T_law10_RankLooks
  refine NEW_rule fun s1 e1 z1 n1 _ => ?_
  have ta := tbA_new e1 hx hy n1
  refine rdT ta fun x c y c' hx hy => ?_
  refine c_far fun s2 q e2 hq => ?_
  try simp only [TUP_mk, AGG_mk, HD_mk, NL_mk, TYI_mk, TYB_mk, TYP_mk, TYL_mk, TYS_mk, TYM_mk, SO_mk, NX_mk, endK_mk, endK_mk', add_0]
  have aw : ∀ t, Ext s1 t → CALL Pg W F_law10_awake [] (fun v => TYB v fun b => endK K E (.returned (.bool b))) (fun e => endK K E (.panicked e)) t := fun t et => c_awake' et fun t2 e => h t2 (e1.trans e)
  have fin : ∀ t, Ext s1 t → J_law10_RankLooks_3 W (endK K E) true s.size a b sh pl t := fun t et => by
    unfold J_law10_RankLooks_3
    rw [BR_t]
    exact aw t et
  refine BR_bool (fun _ => fin s2 e2) (fun hf => ?_)
  have hlo : T.off.length ≤ 100000 := by have := hq hf; omega
  have main : ∀ t, Ext s1 t → J_law10_RankLooks_3 W (endK K E) false s.size a b sh pl t := by
    intro t et
    unfold J_law10_RankLooks_3
    rw [BR_f]
    refine rdT (ta.ext et) fun x c y c' hx hy => ?_
    refine c_Could hx hy hlo fun t1 f1 => ?_
    try simp only [TUP_mk, AGG_mk, HD_mk, NL_mk, TYI_mk, TYB_mk, TYP_mk, TYL_mk, TYS_mk, TYM_mk, SO_mk, NX_mk, endK_mk, endK_mk', add_0]
    have g1 := et.trans f1
    refine rdT (ta.ext g1) fun x c y c' hx hy => ?_
    refine f_Could hx hy hlo fun t2 f2 => ?_
    try simp only [TUP_mk, AGG_mk, HD_mk, NL_mk, TYI_mk, TYB_mk, TYP_mk, TYL_mk, TYS_mk, TYM_mk, SO_mk, NX_mk, endK_mk, endK_mk', add_0]
    have g2 := g1.trans f2
    refine rdT (ta.ext g2) fun x c y c' hx hy => ?_
    refine c_Need hx hy hlo fun t3 f3 => ?_
    try simp only [TUP_mk, AGG_mk, HD_mk, NL_mk, TYI_mk, TYB_mk, TYP_mk, TYL_mk, TYS_mk, TYM_mk, SO_mk, NX_mk, endK_mk, endK_mk', add_0]
    have g3 := g2.trans f3
    refine rdT (ta.ext g3) fun x c y c' hx hy => ?_
    refine f_Need hx hy hlo fun t4 f4 => ?_
    try simp only [TUP_mk, AGG_mk, HD_mk, NL_mk, TYI_mk, TYB_mk, TYP_mk, TYL_mk, TYS_mk, TYM_mk, SO_mk, NX_mk, endK_mk, endK_mk', add_0]
    have g4 := g3.trans f4
    refine rdT (ta.ext g4) fun x c y c' hx hy => ?_
    refine c_Order hx hy hlo fun t5 z cz f5 hz _ => ?_
    try simp only [TUP_mk, AGG_mk, HD_mk, NL_mk, TYI_mk, TYB_mk, TYP_mk, TYL_mk, TYS_mk, TYM_mk, SO_mk, NX_mk, endK_mk, endK_mk', add_0]
    have g5 := g4.trans f5
    refine rdT (ta.ext g5) fun x c y c' hx hy => ?_
    refine f_Order hx hy hlo fun t6 z' cz' f6 hz' => ?_
    try simp only [TUP_mk, AGG_mk, HD_mk, NL_mk, TYI_mk, TYB_mk, TYP_mk, TYL_mk, TYS_mk, TYM_mk, SO_mk, NX_mk, endK_mk, endK_mk', add_0]
    have g6 := g5.trans f6
    simp only [beq_self_eq_true, BR_t, J_law10_RankLooks_2, J_law10_RankLooks_1, J_law10_RankLooks_0]
    have hlen : (orderR T).1.length ≤ 100000 := by
      unfold orderR
      split
      · rename_i hok
        have := order_len hok
        obtain ⟨_, n6, _, _⟩ := n_lim hok
        show (orderP T).length ≤ _
        omega
      · exact Nat.zero_le _
    refine f_IntsN (hz.ext f6) hz' (by rw [natI_len]; exact hlen) (by rw [natI_len]) (by rw [natI_len]) ?_
    try simp only [TUP_mk, AGG_mk, HD_mk, NL_mk, TYI_mk, TYB_mk, TYP_mk, TYL_mk, TYS_mk, TYM_mk, SO_mk, NX_mk, endK_mk, endK_mk', add_0]
    refine BR_tt (by simp) ?_
    exact aw t6 g6
  refine ⟨_, (ta.ext e2).sheets, ?_⟩
  refine BR_dec (fun h1 => ?_) (fun _ => main s2 e2)
  refine rdT (ta.ext e2) fun x c y c' hx hy => ?_
  refine f_Table hx hy hlo fun s3 e3 => ?_
  try simp only [TUP_mk, AGG_mk, HD_mk, NL_mk, TYI_mk, TYB_mk, TYP_mk, TYL_mk, TYS_mk, TYM_mk, SO_mk, NX_mk, endK_mk, endK_mk', add_0]
  have e13 := e2.trans e3
  cases okT T with
  | true => exact fin s3 e13
  | false => exact main s3 e13
end
end Go.Proofs.Ytkgcbfbbcaajpaa.G

/- RankLooks, from any arguments. -/
namespace Go.Proofs.Ytkgcbfbbcaajpaa.G
open Go.V
theorem v_RankLooks {W : World} {s : Hp} {v0 v1 v2 v3 v4 : Value} (k0 : RdV Pg s 25 v0) (k1 : RdV Pg s 3 v1) (k2 : RdV Pg s 3 v2) (k3 : RdV Pg s 3 v3) (k4 : RdV Pg s 3 v4) : CALL Pg W F_law10_RankLooks [v0, v1, v2, v3, v4] (fun v s' => v = .bool true ∧ Ext s s') (fun _ _ => False) s := by
  obtain ⟨x, c, y, c', T, rfl, hx, hy⟩ := table_rd k0
  obtain ⟨a, rfl⟩ := int_rd k1
  obtain ⟨b, rfl⟩ := int_rd k2
  obtain ⟨sh, rfl⟩ := int_rd k3
  obtain ⟨pl, rfl⟩ := int_rd k4
  exact w_RankLooks hx hy fun s' e => ⟨rfl, e⟩
end Go.Proofs.Ytkgcbfbbcaajpaa.G

/- The row of the statement RankLooks. -/
namespace Go.Proofs.Ytkgcbfbbcaajpaa.rankLooks
open Go.ChangeShapes Go.WideShapes Go.ChangeAt Go.RowKit Go.V
set_option linter.unusedVariables false
theorem own : ownKnob Try.prog.godebug = none := by kernel_rfl
theorem laidOut : laidOutB Try.prog = true := by kernel_rfl
set_option maxRecDepth 100000 in
theorem lifted (os : Os) (started : os.Started) (H : Type) (enc : TypeId × Value → H) :
    ReturnsInHanded {} Try.checked os 4 .any (Rows.rankLooksSpec.pre6 enc Try.prog Try.f4 Rows.rankLooksRow.domain false) (Rows.rankLooksSpec.post enc Try.prog Try.f4 false true false false) := by
  refine returnsInHanded_of_change_sized (C := Try.checked) own started (by kernel_rfl) Try.func4
    (ChangeSpec.witness6 (enc := enc) (C := Try.checked) false ⟨#[], #[(.agg #[(.int .i64 0), (.int .i64 0), (.slice none 0 0), (.slice none 0 0)]), (.int .i64 0), (.int .i64 0), (.int .i64 0), (.int .i64 0)], []⟩ 8 (by kernel_rfl) (by kernel_rfl) (by kernel_rfl) (by kernel_rfl)) ?_
  intro W base args ds gs before hval0 hW hcnd hsz0 _
  have hsz : (DataW.weightsEach Try.prog (Try.f4.params.toList ++ Rows.rankLooksSpec.plain.varTypes Try.prog) (ds ++ gs)).all (· ≤ reachBytes) = true := hsz0
  have hval : ∀ (j : Nat) t v, Try.f4.params[j]? = some t → args[j]? = some v → Value.okWide Try.prog W .any base t v := hval0
  have hW' := hW
  obtain ⟨p, q, hA0, hV, rfl, hfz, hnd⟩ := hW
  have hA : DataW.TrodAll enc Try.prog W 0 (fun _ => true) true Try.f4.params.toList args.toList ds p := hA0
  rw [Try.params4] at hA hval hsz
  obtain ⟨v0, vs0, d0, ds0, p0, q0, hargs, rfl, rfl, h0, r0⟩ := trodAll_cons hA
  obtain ⟨v1, vs1, d1, ds1, p1, q1, rfl, rfl, rfl, h1, r1⟩ := trodAll_cons r0
  obtain ⟨v2, vs2, d2, ds2, p2, q2, rfl, rfl, rfl, h2, r2⟩ := trodAll_cons r1
  obtain ⟨v3, vs3, d3, ds3, p3, q3, rfl, rfl, rfl, h3, r3⟩ := trodAll_cons r2
  obtain ⟨v4, vs4, d4, ds4, p4, q4, rfl, rfl, rfl, h4, r4⟩ := trodAll_cons r3
  obtain ⟨rfl, rfl, rfl⟩ := trodAll_nil r4
  obtain rfl : args = #[v0, v1, v2, v3, v4] := by cases args; simp_all
  obtain ⟨rfl, rfl⟩ := trodVars_none hV
  have k0 := trod_rdV (hval 0 25 v0 rfl rfl) h0
  have lt0 : ∀ x ∈ p0, x.block < W.heap.size := by obtain ⟨m, hm⟩ := h0; exact DataW.trod_lt m _ _ _ hm
  have k1 := trod_rdV (hval 1 3 v1 rfl rfl) h1
  have lt1 : ∀ x ∈ p1, x.block < W.heap.size := by obtain ⟨m, hm⟩ := h1; exact DataW.trod_lt m _ _ _ hm
  have k2 := trod_rdV (hval 2 3 v2 rfl rfl) h2
  have lt2 : ∀ x ∈ p2, x.block < W.heap.size := by obtain ⟨m, hm⟩ := h2; exact DataW.trod_lt m _ _ _ hm
  have k3 := trod_rdV (hval 3 3 v3 rfl rfl) h3
  have lt3 : ∀ x ∈ p3, x.block < W.heap.size := by obtain ⟨m, hm⟩ := h3; exact DataW.trod_lt m _ _ _ hm
  have k4 := trod_rdV (hval 4 3 v4 rfl rfl) h4
  have lt4 : ∀ x ∈ p4, x.block < W.heap.size := by obtain ⟨m, hm⟩ := h4; exact DataW.trod_lt m _ _ _ hm
  refine (calls_of_does (does_of_call (G.v_RankLooks (W := W) (s := W.heap) k0 k1 k2 k3 k4))).mono fun e W' ⟨he, bel⟩ => ?_
  subst he
  exact ⟨_, rfl, _, _, _, [], _, [], hW', trodAll_mk1 (shut_bool Try.underlying4 _), (trodAll_cons_mk (Below.trod laidOut (by kernel_rfl) (of_decide_eq_true (by kernel_rfl)) h0 bel lt0) (trodAll_cons_mk (Below.trod laidOut (by kernel_rfl) (of_decide_eq_true (by kernel_rfl)) h1 bel lt1) (trodAll_cons_mk (Below.trod laidOut (by kernel_rfl) (of_decide_eq_true (by kernel_rfl)) h2 bel lt2) (trodAll_cons_mk (Below.trod laidOut (by kernel_rfl) (of_decide_eq_true (by kernel_rfl)) h3 bel lt3) (trodAll_cons_mk (Below.trod laidOut (by kernel_rfl) (of_decide_eq_true (by kernel_rfl)) h4 bel lt4) trodAll_mk0))))), rfl, bel.frame _, fun h => by cases h⟩
theorem over : Rows.rankLooksRow.holds Try.pinned (OpenSpec.ofChange Rows.rankLooksSpec) :=
  OpenClaim.holds_of_wide 4 Try.f4 rfl rfl rfl rfl rfl rfl rfl ⟨rfl, rfl, rfl, rfl, rfl⟩ rfl rfl rfl rfl rfl (by kernel_rfl) Try.func4 (by kernel_rfl)
    (of_decide_eq_true (by kernel_rfl)) (by unfold Func.isWrapper; first | (rw [if_pos (by decide +kernel)]; kernel_rfl) | (rw [if_neg (by decide +kernel)]; exact ⟨rfl, rfl⟩))
    (fun os started H enc _ => lifted os started H enc)
theorem proved : Rows.RankLooksSaid := over
end Go.Proofs.Ytkgcbfbbcaajpaa.rankLooks
namespace Go.Proofs.Ytkgcbfbbcaajpaa
/-- The row, under a short name. -/
theorem rankLooks_holds : Rows.RankLooksSaid := rankLooks.proved
end Go.Proofs.Ytkgcbfbbcaajpaa
