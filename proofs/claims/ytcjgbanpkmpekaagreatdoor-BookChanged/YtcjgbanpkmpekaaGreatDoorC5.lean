import Derived.Test.YtcjgbanpkmpekaaGreatDoorC4
import Derived.Test.YtcjgbanpkmpekaaGreatDoorRows
import Derived.Deep.DeepHandedRow
import Derived.JoinedCond
import Derived.LaidLaws
import Derived.Shelf.Vars
import Derived.Stop.Joined
import Derived.SevenTiedAt
import Derived.Test.YtcjgbanpkmpekaaGreatDoorTie
import Derived.Test.YtcjgbanpkmpekaaGreatDoorCards
/- BookChanged: bytes of a furrow that are changed are refused -/
/- The chapter's examples. -/
set_option linter.unusedVariables false
set_option linter.unusedSimpArgs false
set_option maxRecDepth 20000
namespace Go.Proofs.YtcjgbanpkmpekaaGreatDoor.G
open Go.V
def exPg : PgS := ⟨12, [⟨0, 0, 0, 0⟩, ⟨4, 5, 0, 0⟩, ⟨0, 0, 3, 3⟩], [⟨0, 1, 7, 7⟩, ⟨0, 2, 3, 3⟩, ⟨1, 2, 7, 8⟩]⟩
def exPn : PnS := ⟨[2, 2, 1], [2, 1, 2], [(0, 2), (2, 1)]⟩
def exHr : HrS := ⟨2, 3, 1, [⟨0, 0, wd0, wd0⟩, ⟨1, 0, ⟨false, 0, true⟩, wd0⟩, ⟨2, 1, ⟨true, 1, true⟩, ⟨false, 1, false⟩⟩], [⟨false, 1, true⟩]⟩
def exFr : FrS := ⟨[(0, 1), (2, 3), (0, 0), (1, 1), (5, 6)], [(30, 30), (30, 30), (30, 30), (30, 30), (30, 30)], [(15, 16), (14, 18), (15, 15), (12, 14), (16, 17)]⟩
theorem it_1 (n : Nat) (h : n < 10) : it (n : Int) = [UInt8.ofNat (48 + n)] := by rw [it_nn (by omega), Int.toNat_natCast, Lib.decDigits_one h]
theorem it_0 : it 0 = [48] := it_1 0 (by omega)
theorem it_1' : it 1 = [49] := it_1 1 (by omega)
theorem it_2 : it 2 = [50] := it_1 2 (by omega)
theorem it_3 : it 3 = [51] := it_1 3 (by omega)
theorem it_4 : it 4 = [52] := it_1 4 (by omega)
theorem it_5 : it 5 = [53] := it_1 5 (by omega)
theorem it_7 : it 7 = [55] := it_1 7 (by omega)
theorem it_8 : it 8 = [56] := it_1 8 (by omega)
theorem it_12 : it 12 = [49, 50] := by
  have : it ((12 : Nat) : Int) = [49, 50] := by rw [it_nn (by omega), Int.toNat_natCast, Lib.decDigits_two (by omega) (by omega)]; decide
  exact this
def tPg : BL := [102, 105, 101, 108, 100, 32, 49, 50, 10, 112, 111, 115, 116, 32, 48, 46, 46, 48, 32, 48, 46, 46, 48, 10, 112, 111, 115, 116, 32, 52, 46, 46, 53, 32, 48, 46, 46, 48, 10, 112, 111, 115, 116, 32, 48, 46, 46, 48, 32, 51, 46, 46, 51, 10, 99, 104, 97, 105, 110, 32, 48, 32, 49, 32, 55, 46, 46, 55, 10, 99, 104, 97, 105, 110, 32, 48, 32, 50, 32, 51, 46, 46, 51, 10, 99, 104, 97, 105, 110, 32, 49, 32, 50, 32, 55, 46, 46, 56, 10]
def tPn : BL := [106, 117, 100, 103, 101, 115, 32, 50, 32, 50, 32, 49, 10, 112, 108, 111, 116, 115, 32, 50, 32, 49, 32, 50, 10, 107, 105, 110, 32, 48, 32, 50, 10, 107, 105, 110, 32, 50, 32, 49, 10]
def tHr : BL := [104, 101, 97, 114, 105, 110, 103, 32, 50, 32, 51, 32, 49, 10, 48, 32, 105, 115, 32, 102, 48, 10, 49, 32, 105, 115, 32, 45, 102, 48, 10, 50, 32, 111, 114, 32, 45, 119, 49, 32, 102, 49, 10, 107, 110, 111, 119, 110, 32, 45, 102, 49, 10]
def tFr : BL := [70, 5, 97, 113, 96, 104, 137, 30, 30, 30, 30, 30, 30, 30, 30, 30, 30, 15, 16, 14, 18, 15, 15, 12, 14, 16, 17, 39, 72]
theorem ok_exPg : okPg exPg = true := by decide
theorem ok_exPn : okPn exPn = true := by decide
theorem ok_exHr : okHr exHr = true := by decide
theorem ok_exFr : okFr exFr = true := by decide
theorem tx_exPg : txt (pgW exPg) = tPg := by
  simp only [pgW, exPg, postW, chainW, dots, List.map_cons, List.map_nil, it_0, it_1', it_2, it_3, it_4, it_5, it_7, it_8, it_12]
  decide
theorem tx_exPn : txt (pnW exPn) = tPn := by
  simp only [pnW, exPn, kinW, List.map_cons, List.map_nil, it_0, it_1', it_2]
  decide
theorem tx_exHr : txt (hrW exHr) = tHr := by
  simp only [hrW, exHr, clW, knownW, wdT, wd0, List.map_cons, List.map_nil, it_0, it_1', it_2, it_3]
  decide
theorem by_exFr : withC (frB exFr) = tFr := by decide
theorem rd_exPg : readT pgStep pg0 okPg pgW tPg = (exPg, 0) := by rw [← tx_exPg]; exact kind_pg.readT_txt ok_exPg
theorem rd_exPn : readT pnStep pn0 okPn pnW tPn = (exPn, 0) := by rw [← tx_exPn]; exact kind_pn.readT_txt ok_exPn
theorem rd_exHr : readT hrStep hr0 okHr hrW tHr = (exHr, 0) := by rw [← tx_exHr]; exact kind_hr.readT_txt ok_exHr
theorem rd_exFr : readF tFr = (exFr, 0) := by rw [← by_exFr]; exact readF_w ok_exFr
section
variable {W : World} {K : VK} {E : List PanicEntry → Hp → Prop} {s : Hp}
theorem c_lspan {a b : Int} (hk : ∀ s', Ext s s' → K (.agg #[.int .i64 a, .int .i64 b]) s') : CALL Pg W F_law14_span [.int .i64 a, .int .i64 b] K E s := by
  refine does_law14_span W a b _ s ?_
  unfold T_law14_span
  refine nw2 zc_74 rfl rfl fun s1 e1 z1 o0 o1 => ?_
  exact ⟨_, o0.cell, _, o1.cell, hk s1 e1⟩
theorem c_at {a b c d : Int} (hk : ∀ s', Ext s s' → K (.agg #[.int .i64 a, .int .i64 b, .int .i64 c, .int .i64 d]) s') : CALLV Pg W (.func (.func 93) #[] #[]) [.int .i64 a, .int .i64 b, .int .i64 c, .int .i64 d] K E s := by
  refine CALLV_func ?_
  refine does_law14_pegs_c1 W a b c d _ s ?_
  unfold T_law14_pegs_c1
  refine NEWZ_rule zc_77 fun s1 e1 z1 o => ?_
  refine c_lspan fun s2 e2 => ?_
  try simp only [TUP_mk, AGG_mk, HD_mk, NL_mk, TYI_mk, TYB_mk, TYP_mk, TYL_mk, TYS_mk, TYM_mk, SO_mk, NX_mk, endK_mk, endK_mk', add_0]
  refine c_lspan fun s3 e3 => ?_
  try simp only [TUP_mk, AGG_mk, HD_mk, NL_mk, TYI_mk, TYB_mk, TYP_mk, TYL_mk, TYS_mk, TYM_mk, SO_mk, NX_mk, endK_mk, endK_mk', add_0]
  have e13 := e2.trans e3
  refine wrs (a := ⟨s.size, 0, none⟩) (vs := [.int .i64 a, .int .i64 b, .int .i64 c, .int .i64 d]) (cs := [.int .i64 0, .int .i64 0, .int .i64 0, .int .i64 0]) rfl (fun i hi => e13.own (by have := o i _ (List.getElem?_eq_getElem hi); rw [add_nil, Nat.zero_add]; exact this)) (by simp [oneCell]) fun s4 k4 z4 q => ?_
  refine ⟨_, (q 0 (by simp)).cell, _, (q 1 (by simp)).cell, _, (q 2 (by simp)).cell, _, (q 3 (by simp)).cell, ?_⟩
  try simp only [TUP_mk, AGG_mk, HD_mk, NL_mk, TYI_mk, TYB_mk, TYP_mk, TYL_mk, TYS_mk, TYM_mk, SO_mk, NX_mk, endK_mk, endK_mk', add_0]
  exact hk s4 (ext_kp (e1.trans e13) (Nat.le_refl _) k4)
theorem c_exPegs (hk : ∀ s' x y c d, Ext s s' → RowAt s' x (exPg.posts.flatMap q4V) → RowAt s' y (exPg.lens.flatMap q4V) → K (.agg #[.int .i64 12, .slice x 3 c, .slice y 3 d]) s') : CALL Pg W F_law14_pegs [] K E s := by
  refine does_law14_pegs W _ s ?_
  unfold T_law14_pegs
  refine nz3 zc_25 fun s1 e1 z1 o0 o1 o2 => ?_
  refine c_at fun s2 e2 => ?_
  try simp only [TUP_mk, AGG_mk, HD_mk, NL_mk, TYI_mk, TYB_mk, TYP_mk, TYL_mk, TYS_mk, TYM_mk, SO_mk, NX_mk, endK_mk, endK_mk', add_0]
  refine c_at fun s3 e3 => ?_
  try simp only [TUP_mk, AGG_mk, HD_mk, NL_mk, TYI_mk, TYB_mk, TYP_mk, TYL_mk, TYS_mk, TYM_mk, SO_mk, NX_mk, endK_mk, endK_mk', add_0]
  refine c_at fun s4 e4 => ?_
  try simp only [TUP_mk, AGG_mk, HD_mk, NL_mk, TYI_mk, TYB_mk, TYP_mk, TYL_mk, TYS_mk, TYM_mk, SO_mk, NX_mk, endK_mk, endK_mk', add_0]
  refine NEW_rule fun s5 e5 z5 o5 _ => ?_
  refine c_lspan fun s6 e6 => ?_
  try simp only [TUP_mk, AGG_mk, HD_mk, NL_mk, TYI_mk, TYB_mk, TYP_mk, TYL_mk, TYS_mk, TYM_mk, SO_mk, NX_mk, endK_mk, endK_mk', add_0]
  refine c_lspan fun s7 e7 => ?_
  try simp only [TUP_mk, AGG_mk, HD_mk, NL_mk, TYI_mk, TYB_mk, TYP_mk, TYL_mk, TYS_mk, TYM_mk, SO_mk, NX_mk, endK_mk, endK_mk', add_0]
  refine c_lspan fun s8 e8 => ?_
  try simp only [TUP_mk, AGG_mk, HD_mk, NL_mk, TYI_mk, TYB_mk, TYP_mk, TYL_mk, TYS_mk, TYM_mk, SO_mk, NX_mk, endK_mk, endK_mk', add_0]
  refine NEW_rule fun s9 e9 z9 o9 _ => ?_
  have e59 := ((e6.trans e7).trans e8).trans e9
  have e15 := ((e2.trans e3).trans e4).trans e5
  have e19 := e15.trans e59
  have s4z : s1.size ≤ s4.size := ((e2.trans e3).trans e4).1
  have s8z : s1.size ≤ s8.size := (e15.trans ((e6.trans e7).trans e8)).1
  refine wrs3 (e19.own o0) (e19.own o1) (e19.own o2) rfl rfl rfl fun s10 k10 z10 q0 q1 q2 => ?_
  refine ⟨_, q0.cell, _, _, _, q1.cell, _, _, _, q2.cell, ?_⟩
  try simp only [TUP_mk, AGG_mk, HD_mk, NL_mk, TYI_mk, TYB_mk, TYP_mk, TYL_mk, TYS_mk, TYM_mk, SO_mk, NX_mk, endK_mk, endK_mk', add_0]
  refine hk s10 _ _ _ _ (ext_kp (e1.trans e19) (Nat.le_refl _) k10) ?_ ?_
  · exact ((row_new o5).ext e59).keep k10 (fun a ha hh => by cases ha; have h' : s4.size = s.size := hh; omega)
  · exact (row_new o9).keep k10 (fun a ha hh => by cases ha; have h' : s8.size = s.size := hh; omega)
theorem c_exPanels (hk : ∀ s' x y w c d e, Ext s s' → RowAt s' x (ints exPn.loads) → RowAt s' y (ints exPn.needs) → RowAt s' w (exPn.kin.flatMap kinV) → K (.agg #[.slice x 3 c, .slice y 3 d, .slice w 2 e]) s') : CALL Pg W F_law14_panels [] K E s := by
  refine does_law14_panels W _ s ?_
  unfold T_law14_panels
  refine nz3 zc_29 fun s1 e1 z1 o0 o1 o2 => ?_
  refine NEW_rule fun s2 e2 z2 a2 _ => ?_
  refine NEW_rule fun s3 e3 z3 a3 _ => ?_
  refine NEW_rule fun s4 e4 z4 a4 _ => ?_
  have e14 := (e2.trans e3).trans e4
  refine wrs3 (e14.own o0) (e14.own o1) (e14.own o2) rfl rfl rfl fun s10 k10 z10 q0 q1 q2 => ?_
  refine ⟨_, _, _, q0.cell, _, _, _, q1.cell, _, _, _, q2.cell, ?_⟩
  try simp only [TUP_mk, AGG_mk, HD_mk, NL_mk, TYI_mk, TYB_mk, TYP_mk, TYL_mk, TYS_mk, TYM_mk, SO_mk, NX_mk, endK_mk, endK_mk', add_0]
  refine hk s10 _ _ _ _ _ _ (ext_kp (e1.trans e14) (Nat.le_refl _) k10) ?_ ?_ ?_
  · exact ((row_new a2).ext (e3.trans e4)).keep k10 (fun a ha hh => by cases ha; have h' : s1.size = s.size := hh; omega)
  · exact ((row_new a3).ext e4).keep k10 (fun a ha hh => by cases ha; have h' : s2.size = s.size := hh; omega)
  · exact (row_new a4).keep k10 (fun a ha hh => by cases ha; have h' : s3.size = s.size := hh; omega)
theorem c_exHearing (hk : ∀ s' x y c d, Ext s s' → RowAt s' x (exHr.claims.flatMap cl8) → RowAt s' y (exHr.known.flatMap wd3) → K (.agg #[.int .i64 2, .int .i64 3, .int .i64 1, .slice x 3 c, .slice y 1 d]) s') : CALL Pg W F_law14_hearing [] K E s := by
  refine does_law14_hearing W _ s ?_
  unfold T_law14_hearing
  refine nz5 zc_34 fun s1 e1 z1 o0 o1 o2 o3 o4 => ?_
  refine NEW_rule fun s2 e2 z2 a2 _ => ?_
  refine NEW_rule fun s3 e3 z3 a3 _ => ?_
  have e13 := e2.trans e3
  refine wrs5 (e13.own o0) (e13.own o1) (e13.own o2) (e13.own o3) (e13.own o4) (by simp [oneCell]) fun s10 k10 z10 q0 q1 q2 q3 q4 => ?_
  refine ⟨_, q0.cell, _, q1.cell, _, q2.cell, _, _, _, q3.cell, _, _, _, q4.cell, ?_⟩
  try simp only [TUP_mk, AGG_mk, HD_mk, NL_mk, TYI_mk, TYB_mk, TYP_mk, TYL_mk, TYS_mk, TYM_mk, SO_mk, NX_mk, endK_mk, endK_mk', add_0]
  refine hk s10 _ _ _ _ (ext_kp (e1.trans e13) (Nat.le_refl _) k10) ?_ ?_
  · exact ((row_new a2).ext e3).keep k10 (fun a ha hh => by cases ha; have h' : s1.size = s.size := hh; omega)
  · exact (row_new a3).keep k10 (fun a ha hh => by cases ha; have h' : s2.size = s.size := hh; omega)
theorem zc_37' : zc Pg 37 = [.slice none 0 0, .slice none 0 0, .slice none 0 0] := by kernel_rfl
theorem rep_snoc (k : Nat) : (List.replicate (k + 1) ((30, 30) : Int × Int)).flatMap kinV = (List.replicate k ((30, 30) : Int × Int)).flatMap kinV ++ kinV (30, 30) := by
  rw [List.replicate_succ', List.flatMap_append]; simp
theorem c_exFurrow (hk : ∀ s' x y w c d e, Ext s s' → FrC s' x y w exFr → K (.agg #[.slice x 5 c, .slice y 5 d, .slice w 5 e]) s') : CALL Pg W F_law14_furrow [] K E s := by
  refine does_law14_furrow W _ s ?_
  unfold T_law14_furrow
  refine nz3 zc_37' fun s1 e1 z1 o0 o1 o2 => ?_
  refine c_lspan fun t1 f1 => ?_
  try simp only [TUP_mk, AGG_mk, HD_mk, NL_mk, TYI_mk, TYB_mk, TYP_mk, TYL_mk, TYS_mk, TYM_mk, SO_mk, NX_mk, endK_mk, endK_mk', add_0]
  refine c_lspan fun t2 f2 => ?_
  try simp only [TUP_mk, AGG_mk, HD_mk, NL_mk, TYI_mk, TYB_mk, TYP_mk, TYL_mk, TYS_mk, TYM_mk, SO_mk, NX_mk, endK_mk, endK_mk', add_0]
  refine c_lspan fun t3 f3 => ?_
  try simp only [TUP_mk, AGG_mk, HD_mk, NL_mk, TYI_mk, TYB_mk, TYP_mk, TYL_mk, TYS_mk, TYM_mk, SO_mk, NX_mk, endK_mk, endK_mk', add_0]
  refine c_lspan fun t4 f4 => ?_
  try simp only [TUP_mk, AGG_mk, HD_mk, NL_mk, TYI_mk, TYB_mk, TYP_mk, TYL_mk, TYS_mk, TYM_mk, SO_mk, NX_mk, endK_mk, endK_mk', add_0]
  refine c_lspan fun t5 f5 => ?_
  try simp only [TUP_mk, AGG_mk, HD_mk, NL_mk, TYI_mk, TYB_mk, TYP_mk, TYL_mk, TYS_mk, TYM_mk, SO_mk, NX_mk, endK_mk, endK_mk', add_0]
  refine NEW_rule fun s2 e2 z2 a2 _ => ?_
  refine c_lspan fun u1 g1 => ?_
  try simp only [TUP_mk, AGG_mk, HD_mk, NL_mk, TYI_mk, TYB_mk, TYP_mk, TYL_mk, TYS_mk, TYM_mk, SO_mk, NX_mk, endK_mk, endK_mk', add_0]
  refine c_lspan fun u2 g2 => ?_
  try simp only [TUP_mk, AGG_mk, HD_mk, NL_mk, TYI_mk, TYB_mk, TYP_mk, TYL_mk, TYS_mk, TYM_mk, SO_mk, NX_mk, endK_mk, endK_mk', add_0]
  refine c_lspan fun u3 g3 => ?_
  try simp only [TUP_mk, AGG_mk, HD_mk, NL_mk, TYI_mk, TYB_mk, TYP_mk, TYL_mk, TYS_mk, TYM_mk, SO_mk, NX_mk, endK_mk, endK_mk', add_0]
  refine c_lspan fun u4 g4 => ?_
  try simp only [TUP_mk, AGG_mk, HD_mk, NL_mk, TYI_mk, TYB_mk, TYP_mk, TYL_mk, TYS_mk, TYM_mk, SO_mk, NX_mk, endK_mk, endK_mk', add_0]
  refine c_lspan fun u5 g5 => ?_
  try simp only [TUP_mk, AGG_mk, HD_mk, NL_mk, TYI_mk, TYB_mk, TYP_mk, TYL_mk, TYS_mk, TYM_mk, SO_mk, NX_mk, endK_mk, endK_mk', add_0]
  refine NEW_rule fun s3 e3 z3 a3 _ => ?_
  have e12 := ((((f1.trans f2).trans f3).trans f4).trans f5).trans e2
  have e23 := ((((g1.trans g2).trans g3).trans g4).trans g5).trans e3
  have s1t : s1.size ≤ t5.size := ((((f1.trans f2).trans f3).trans f4).trans f5).1
  have s1u : s1.size ≤ u5.size := (e12.trans ((((g1.trans g2).trans g3).trans g4).trans g5)).1
  refine nw3 zc_37' rfl rfl rfl fun s4 e4 z4 b0 b1 b2 => ?_
  refine ⟨_, _, _, b0.cell, ?_⟩
  have hx := (row_new a2).ext (e23.trans e4)
  have hw := (row_new a3).ext e4
  have e14 := e12.trans (e23.trans e4)
  have hs3 : s1.size ≤ s3.size := (e12.trans e23).1
  refine L_law14_furrow_0_rule W _ _ _ _ (fun n s' => ∃ k : Nat, n = (k : Int) ∧ k ≤ 5 ∧ ∃ x c, Kp (· = s3.size) s4 s' ∧ Own s' ⟨s3.size, 0, none⟩ (.slice (some ⟨t5.size, 0, none⟩) 5 5) ∧ Own s' ⟨s3.size, 1, none⟩ (.slice x k c) ∧ Own s' ⟨s3.size, 2, none⟩ (.slice (some ⟨u5.size, 0, none⟩) 5 5) ∧ Fr s4.size s' x k c 2 ((List.replicate k ((30, 30) : Int × Int)).flatMap kinV)) (fun n s' => 5 - n.toNat) _ s4 ⟨0, rfl, by omega, none, 0, Kp.refl _, b0, b1, b2, Fr.nil _ _ _⟩ ?_
  rintro n s5 ⟨k, rfl, hk5, x, c, k5, c0, c1, c2, fr⟩
  unfold B_law14_furrow_0
  refine BR_dec (fun hlt => ?_) (fun hge => ?_)
  · have hlt' : k < 5 := by have h9 : (k : Int) < ((5 : Nat) : Int) := hlt; omega
    refine ⟨_, _, _, c1.cell, ?_⟩
    refine c_lspan fun s6 e6 => ?_
    try simp only [TUP_mk, AGG_mk, HD_mk, NL_mk, TYI_mk, TYB_mk, TYP_mk, TYL_mk, TYS_mk, TYM_mk, SO_mk, NX_mk, endK_mk, endK_mk', add_0]
    refine ANDS_i ⟨_, _, _, e6.cell c1.cell, rfl⟩ ?_
    refine NEW_rule fun s7 e7 z7 a7 _ => ?_
    have e57 := e6.trans e7
    refine ANDS_i ⟨_, _, _, e57.cell c1.cell, rfl⟩ ?_
    refine APP_fr (fr.ext e57) (Nat.le_trans k5.1 e57.1) (ws := kinV (30, 30)) (row_new a7) rfl zc_74 rfl (by omega) (by simp [kinV, oneCell]) (by omega) (fun s8 x8 c8 k8 h8 f8 => ?_)
    have hne : ¬ ∃ a, x = some a ∧ a.block = s3.size := fun ⟨a, h1, h2⟩ => by have := fr.fr a h1; omega
    have d0 := k8.own (a := ⟨s3.size, 0, none⟩) hne (e57.own c0)
    have d1 := k8.own (a := ⟨s3.size, 1, none⟩) hne (e57.own c1)
    have d2 := k8.own (a := ⟨s3.size, 2, none⟩) hne (e57.own c2)
    try simp only [TUP_mk, AGG_mk, HD_mk, NL_mk, TYI_mk, TYB_mk, TYP_mk, TYL_mk, TYS_mk, TYM_mk, SO_mk, NX_mk, endK_mk, endK_mk', add_0]
    refine wr1k (a := ⟨s3.size, 1, none⟩) d1 rfl fun s9 k9 z9 q1 kk => ?_
    have hz4 : s3.size < s4.size := by omega
    refine ⟨_, rfl, ⟨k + 1, wr_k (by omega), by omega, x8, c8, ?_, kk ⟨s3.size, 0, none⟩ _ (.inr (by show 0 ≠ 1; omega)) d0, q1, kk ⟨s3.size, 2, none⟩ _ (.inr (by show 2 ≠ 1; omega)) d2, ?_⟩, ms_k (n := 5) hlt' (by omega)⟩
    · exact (kp_trans (k5.ext e57) k8 (fun b ⟨a, h1, h2⟩ => .inr (by rw [← h2]; exact fr.fr a h1))).trans k9
    · rw [rep_snoc]
      exact f8.kp k9 (fun a ha hh => by have := f8.fr a ha; have h' : a.block = s3.size := hh; omega)
  · have hkk : k = 5 := by have h9 : ¬ (k : Int) < ((5 : Nat) : Int) := hge; omega
    subst hkk
    refine ⟨_, _, _, c0.cell, _, _, _, c1.cell, _, _, _, c2.cell, ?_⟩
    have hne : ¬ s.size = s3.size := by omega
    have w0 := k5.own (a := ⟨s.size, 0, none⟩) hne (e14.own o0)
    have w1 := k5.own (a := ⟨s.size, 1, none⟩) hne (e14.own o1)
    have w2 := k5.own (a := ⟨s.size, 2, none⟩) hne (e14.own o2)
    refine wrs3 w0 w1 w2 rfl rfl rfl fun s6 k6 z6 q0 q1 q2 => ?_
    refine ⟨_, _, _, q0.cell, _, _, _, q1.cell, _, _, _, q2.cell, ?_⟩
    try simp only [TUP_mk, AGG_mk, HD_mk, NL_mk, TYI_mk, TYB_mk, TYP_mk, TYL_mk, TYS_mk, TYM_mk, SO_mk, NX_mk, endK_mk, endK_mk', add_0]
    have E5 : Ext s s5 := ext_kp (e1.trans e14) (by omega) k5
    refine hk s6 _ _ _ _ _ _ (ext_kp E5 (Nat.le_refl _) k6) ⟨?_, ?_, ?_⟩
    · exact (hx.keep k5 (fun a ha hh => by cases ha; have h' : t5.size = s3.size := hh; have := e23.1; omega)).keep k6 (fun a ha hh => by cases ha; have h' : t5.size = s.size := hh; omega)
    · exact fr.row.keep k6 (fun a ha hh => by have := fr.fr a ha; have h' : a.block = s.size := hh; omega)
    · exact (hw.keep k5 (fun a ha hh => by cases ha; have h' : u5.size = s3.size := hh; omega)).keep k6 (fun a ha hh => by cases ha; have h' : u5.size = s.size := hh; omega)
end
end Go.Proofs.YtcjgbanpkmpekaaGreatDoor.G

/- Furrows: reading. -/
set_option linter.unusedVariables false
set_option linter.unusedSimpArgs false
set_option maxRecDepth 20000
namespace Go.Proofs.YtcjgbanpkmpekaaGreatDoor.G
open Go.V
theorem zc_37 : zc Pg 37 = [.slice none 0 0, .slice none 0 0, .slice none 0 0] := by kernel_rfl
theorem zc_50 : zc Pg 50 = [.slice none 0 0] := by kernel_rfl
theorem zc_131 : zc Pg 131 = [.nilFunc] := by kernel_rfl
section
variable {W : World} {s : Hp}
theorem vf_73 (W : World) (a b : Addr) (v : Value) (K : Hp → Prop) : vc Pg W 7 [7] (fun _ => {}) false (sub (bodyOf Tryz.f73) [1]) 0 (Kdone 7 K) (updo 7 (some 3) (.tuple #[]) (updo 7 (some 2) v (Go.V.start [.pointer (some a), .pointer (some b)] 0))) =
    RDI .i64 a fun n => BR (n != 0) (WR (b.add 0) (.slice none 0 0) <| WR (b.add 1) (.slice none 0 0) <| WR (b.add 2) (.slice none 0 0) fun s => (undef = undef) ∧ K s) (fun s => (undef = undef) ∧ K s) := by kernel_rfl
theorem told_73 {K : Hp → Prop} {a b : Addr} {rec : Option (List PanicEntry)} {v : Value} (hrec : (rec = none ∧ v = .nilIface) ∨ (rec = some [{ v := v, recovered := false }]))
    (h : CALL Pg W 74 [v, .pointer (some a)] (fun x s1 => x = .tuple #[] ∧ (RDI .i64 a fun n => BR (n != 0) (WR (b.add 0) (.slice none 0 0) <| WR (b.add 1) (.slice none 0 0) <| WR (b.add 2) (.slice none 0 0) K) K) s1) (fun _ => FF) s) : DoesD Pg W 73 [.pointer (some a), .pointer (some b)] rec s K := by
  refine told3_ok (an := fun _ => {}) (id := 0) (d := 2) (d2 := 3) (ty := 20) (ty2 := 0) (pos := "bytes.go:43") (pos2 := "bytes.go:43") (ats := #[20, 129]) (aft := #[{ on := 0, ground := Go.Ground.data }, { on := 0, ground := Go.Ground.chain }]) (c := sub (bodyOf Tryz.f73) [1]) Tryz.func73 (by kernel_rfl) (by kernel_rfl) (by kernel_rfl) (by kernel_rfl) (by kernel_rfl) (show 2 ≤ 7 by decide) (show 2 < 7 by decide) (show 0 < 7 by decide) (by decide) ext_74 hrec ?_
  refine Does.mono h fun e s' he => ?_
  cases e with
  | returned x =>
    obtain ⟨rfl, h2⟩ := he
    show tyR Pg 0 (.tuple #[]) (fun y => _) s'
    have : tyR Pg 0 (.tuple #[]) (fun y => vc Pg W 7 [7] (fun _ => {}) false (sub (bodyOf Tryz.f73) [1]) 0 (Kdone 7 K) (updo 7 (some 3) y (updo 7 (some 2) v (Go.V.start [.pointer (some a), .pointer (some b)] 0)))) s' = vc Pg W 7 [7] (fun _ => {}) false (sub (bodyOf Tryz.f73) [1]) 0 (Kdone 7 K) (updo 7 (some 3) (.tuple #[]) (updo 7 (some 2) v (Go.V.start [.pointer (some a), .pointer (some b)] 0))) s' := rfl
    refine this.mpr ?_
    rw [vf_73]
    obtain ⟨n, hn, h3⟩ := h2
    refine ⟨n, hn, ?_⟩
    refine BR_bool (fun hb => ?_) (fun hb => ?_)
    · rw [hb] at h3
      obtain ⟨g1, g2, g3, g4⟩ := h3
      exact ⟨g1, g2, g3, rfl, g4⟩
    · rw [hb] at h3
      exact ⟨rfl, h3⟩
  | panicked c => exact he
  | _ => exact he
/-- What is left of the bytes, in the variable B; they lie in the block Q. -/
structure RemS (s : Hp) (B Q : Nat) (rem : BL) : Prop where
  row : ∃ x c, Own s ⟨B, 0, none⟩ (.slice x rem.length c) ∧ rem.length ≤ c ∧ RowAt s x (u8s rem) ∧ ∀ b, x = some b → b.block = Q
  ne : Q ≠ B
  lt : Q < s.size
theorem RemS.kp {D : Nat → Prop} {s' : Hp} {B Q : Nat} {rem : BL} (h : RemS s B Q rem) (k : Kp D s s') (hB : ¬ D B) (hQ : ¬ D Q) : RemS s' B Q rem := by
  obtain ⟨⟨x, c, h1, h2, h3, h4⟩, h5, h6⟩ := h
  exact ⟨⟨x, c, k.own hB h1, h2, h3.keep k (fun b hb => by rw [h4 b hb]; exact hQ), h4⟩, h5, Nat.lt_of_lt_of_le h6 k.1⟩
theorem RemS.ext {s' : Hp} {B Q : Nat} {rem : BL} (h : RemS s B Q rem) (e : Ext s s') : RemS s' B Q rem := h.kp (e.kp (C := fun _ => False)) id id
theorem RemS.blt {B Q : Nat} {rem : BL} (h : RemS s B Q rem) : B < s.size := by obtain ⟨⟨x, c, ho, _⟩, _⟩ := h; exact ho.lt
variable {K : VK} {E : List PanicEntry → Hp → Prop}
theorem c_next {B Q : Nat} {rem : BL} (hr : RemS s B Q rem) (h0 : rem = [] → E (MF 8) s) (h1 : ∀ b r s', rem = b :: r → Kp (· = B) s s' → s'.size = s.size → RemS s' B Q r → K (.int .i64 (b.toNat : Int)) s') : CALL Pg W F_book_ReadFurrow_c2 [.pointer (some ⟨B, 0, none⟩)] K E s := by
  obtain ⟨⟨x, c, ho, hc, hrow, hq⟩, hne, hlt⟩ := hr
  refine does_book_ReadFurrow_c2 W ⟨B, 0, none⟩ _ s ?_
  unfold T_book_ReadFurrow_c2
  refine ⟨x, _, c, ho.cell, ?_⟩
  cases rem with
  | nil => exact c_need (fun h => by simp at h) (fun _ => h0 rfl)
  | cons y r =>
    refine c_need (fun _ => ?_) (fun h => by simp at h)
    try simp only [TUP_mk, AGG_mk, HD_mk, NL_mk, TYI_mk, TYB_mk, TYP_mk, TYL_mk, TYS_mk, TYM_mk, SO_mk, NX_mk, endK_mk, endK_mk', add_0]
    refine ⟨x, _, c, ho.cell, ?_⟩
    obtain ⟨b, hb, hcell⟩ := hrow 0 (by simp [u8s])
    subst hb
    refine ⟨b, rfl, ⟨by omega, by simp⟩, ?_⟩
    have hy := b_lt y
    refine ⟨(y.toNat : Int), by simpa [u8s] using hcell, ?_⟩
    refine ⟨some b, _, c, ho.cell, ⟨by omega, by simp; omega, by simp at hc ⊢; omega⟩, ?_⟩
    try simp only [TUP_mk, AGG_mk, HD_mk, NL_mk, TYI_mk, TYB_mk, TYP_mk, TYL_mk, TYS_mk, TYM_mk, SO_mk, NX_mk, endK_mk, endK_mk', add_0]
    refine wr1 ho rfl fun s' k z o => ?_
    have hbq := hq b rfl
    rw [wrap_i64 (by omega) (by omega)]
    refine h1 y r s' rfl k z ⟨⟨_, _, by simpa using o, by simp at hc ⊢; omega, ?_, ?_⟩, hne, by omega⟩
    · intro i hi
      have hi' : i < r.length := by simpa [u8s] using hi
      obtain ⟨b', h1', h2'⟩ := hrow (i + 1) (by simpa [u8s] using hi')
      cases h1'
      have hc1 : c ≠ 1 := by intro e; simp at hc; omega
      refine ⟨b.add (1 * 1), by simp [hc1], ?_⟩
      rw [addr_add]
      have := k.cell (by rw [add_blk, hbq]; exact hne) h2'
      simpa [Nat.add_comm, u8s] using this
    · intro q hq
      split at hq
      · cases hq; exact hbq
      · simp at hq; rw [← hq, add_blk]; exact hbq
/-- A span of the next two bytes. -/
theorem c_pair {B Q V : Nat} {rem : BL} (hr : RemS s B Q rem) (hV : cellAt s ⟨V, 0, none⟩ = some (.func (.func 77) #[] #[.pointer (some ⟨B, 0, none⟩)])) (hVB : V ≠ B) (h0 : rem.length < 2 → ∀ s', Kp (· = B) s s' → E (MF 8) s')
    (h1 : ∀ b c r s', rem = b :: c :: r → Kp (· = B) s s' → RemS s' B Q r → K (.agg #[.int .i64 (b.toNat : Int), .int .i64 (c.toNat : Int)]) s') : CALLV Pg W (.func (.func 78) #[] #[.pointer (some ⟨V, 0, none⟩)]) [] K E s := by
  refine CALLV_func ?_
  refine does_book_ReadFurrow_c3 W ⟨V, 0, none⟩ _ s ?_
  unfold T_book_ReadFurrow_c3
  refine nz2 zc_74 fun s1 e1 z1 o0 o1 => ?_
  have v1 := e1.cell hV
  refine ⟨_, v1, _, v1, ?_⟩
  have hblt := hr.blt
  have hqlt := hr.lt
  refine CALLV_func (c_next (hr.ext e1) (fun hn => h0 (by rw [hn]; simp) s1 e1.kp) (fun b r s2 hb k2 z2 r2 => ?_))
  try simp only [TUP_mk, AGG_mk, HD_mk, NL_mk, TYI_mk, TYB_mk, TYP_mk, TYL_mk, TYS_mk, TYM_mk, SO_mk, NX_mk, endK_mk, endK_mk', add_0]
  have v2 := k2.cell (a := ⟨V, 0, none⟩) hVB v1
  refine ANDS_i ⟨_, v2, rfl⟩ ?_
  refine CALLV_func (c_next r2 (fun hn => h0 (by rw [hb, hn]; simp) s2 (e1.kp.trans k2)) (fun c r' s3 hc k3 z3 r3 => ?_))
  try simp only [TUP_mk, AGG_mk, HD_mk, NL_mk, TYI_mk, TYB_mk, TYP_mk, TYL_mk, TYS_mk, TYM_mk, SO_mk, NX_mk, endK_mk, endK_mk', add_0]
  have k13 := k2.trans k3
  have hne : ¬ s.size = B := by omega
  refine wrs2 (k13.own hne o0) (k13.own hne o1) rfl rfl fun s4 k4 z4 q0 q1 => ?_
  refine ⟨_, q0.cell, _, q1.cell, ?_⟩
  try simp only [TUP_mk, AGG_mk, HD_mk, NL_mk, TYI_mk, TYB_mk, TYP_mk, TYL_mk, TYS_mk, TYM_mk, SO_mk, NX_mk, endK_mk, endK_mk', add_0]
  refine h1 b c r' s4 (by rw [hb, hc]) (kp_new (e1.kp.trans k13) (Nat.le_refl _) k4) (r3.kp k4 (fun h => hne h.symm) (fun h => by have h' : Q = s.size := h; omega))
theorem c_Equal {A B : BL} {x y : Option Addr} {c d : Nat} (hx : RowAt s x (u8s A)) (hy : RowAt s y (u8s B)) (hA : A.length ≤ 1000000) (h : ∀ s', Ext s s' → K (.bool (decide (A = B))) s') : CALL Pg W F_slices_Equal_byte_byte [.slice x A.length c, .slice y B.length d] K E s := by
  refine does_slices_Equal_byte_byte W x A.length c y B.length d _ s ?_
  unfold T_slices_Equal_byte_byte
  have h := h s (Ext.refl s)
  refine BR_ne (fun hn => ?_) (fun hn => ?_)
  · try simp only [TUP_mk, AGG_mk, HD_mk, NL_mk, TYI_mk, TYB_mk, TYP_mk, TYL_mk, TYS_mk, TYM_mk, SO_mk, NX_mk, endK_mk, endK_mk', add_0]
    rw [decide_eq_false (fun e => hn (by rw [e]))] at h
    exact h
  · have hl : A.length = B.length := by omega
    refine L_slices_Equal_byte_byte_0_rule W _ _ _ _ _ _ _ _ (fun n s' => ∃ k : Nat, n = (k : Int) ∧ k ≤ A.length ∧ s' = s ∧ A.take k = B.take k) (fun n s' => A.length - n.toNat) _ s ⟨0, rfl, by omega, rfl, by simp⟩ ?_
    rintro n s1 ⟨k, rfl, hk, rfl, ht⟩
    unfold B_slices_Equal_byte_byte_0
    refine BR_dec (fun hlt => ?_) (fun hge => ?_)
    · have hkA : k < A.length := by omega
      have hkB : k < B.length := by omega
      obtain ⟨a, ha, ca⟩ := hx k (by rw [u8s_len]; exact hkA)
      obtain ⟨b, hb, cb⟩ := hy k (by rw [u8s_len]; exact hkB)
      subst ha; subst hb
      simp only [u8s, List.getElem_map] at ca cb
      refine IXS_nat hkA ⟨_, ca, IXS_nat hkB ⟨_, cb, ?_⟩⟩
      refine BR_ne (fun hne => ?_) (fun heq => ?_)
      · try simp only [TUP_mk, AGG_mk, HD_mk, NL_mk, TYI_mk, TYB_mk, TYP_mk, TYL_mk, TYS_mk, TYM_mk, SO_mk, NX_mk, endK_mk, endK_mk', add_0]
        rw [decide_eq_false (fun e => hne (by subst e; rfl))] at h
        exact h
      · try simp only [TUP_mk, AGG_mk, HD_mk, NL_mk, TYI_mk, TYB_mk, TYP_mk, TYL_mk, TYS_mk, TYM_mk, SO_mk, NX_mk, endK_mk, endK_mk', add_0]
        have he : A[k] = B[k] := UInt8.toNat_inj.1 (by omega)
        refine ⟨_, rfl, ⟨k + 1, wr_k (by omega), by omega, rfl, ?_⟩, ms_k hkA (by omega)⟩
        rw [List.take_add_one, List.take_add_one, ht, List.getElem?_eq_getElem hkA, List.getElem?_eq_getElem hkB, he]
    · have hkl : k = A.length := by omega
      subst hkl
      rw [List.take_length, hl, List.take_length] at ht
      try simp only [TUP_mk, AGG_mk, HD_mk, NL_mk, TYI_mk, TYB_mk, TYP_mk, TYL_mk, TYS_mk, TYM_mk, SO_mk, NX_mk, endK_mk, endK_mk', add_0]
      rw [decide_eq_true ht] at h
      exact h
theorem COPY_rule {x : Addr} {y : Option Addr} {l m n : Nat} {vs : List Value} {K : Int → Hp → Prop} (hn : min m l = n) (hy : RowAt s y vs) (hv : vs.length = n) (h1 : ∀ v ∈ vs, oneCell v = true) (ho : ∀ i, i < n → ∃ v, Own s (x.add i) v)
    (h : ∀ s', Kp (· = x.block) s s' → s'.size = s.size → (∀ i (h : i < vs.length), Own s' (x.add i) vs[i]) → K (n : Nat) s') : COPY 1 (some x) l y m K s := by
  refine ⟨vs, by rw [hn, Nat.mul_one, ← hv]; exact hy.cells, ?_⟩
  show wrN vs x 0 (K (min m l : Nat)) s
  rw [hn]
  refine wrN_rule vs x 0 _ s (fun i hi => ?_) h1 fun s1 k1 z1 o1 u1 => ?_
  · rw [Nat.zero_add]; exact ho i (by omega)
  · refine h s1 k1 z1 (fun i hi => ?_)
    have := o1 i hi
    rwa [Nat.zero_add] at this
/-- What is read. -/
def ResF (lo : Nat) (s : Hp) (f : FrS) (v : Value) : Prop := ∃ x c y d w e, v = .agg #[.slice x f.offs.length c, .slice y f.wids.length d, .slice w f.deps.length e] ∧ Fr lo s x f.offs.length c 2 (f.offs.flatMap kinV) ∧ Fr lo s y f.wids.length d 2 (f.wids.flatMap kinV) ∧ Fr lo s w f.deps.length e 2 (f.deps.flatMap kinV) ∧ Dj x y ∧ Dj x w ∧ Dj y w
theorem ResF.nil {lo : Nat} : ResF lo s fr0 (.agg #[.slice none 0 0, .slice none 0 0, .slice none 0 0]) := ⟨none, 0, none, 0, none, 0, rfl, Fr.nil _ _ _, Fr.nil _ _ _, Fr.nil _ _ _, Dj.none_l _, Dj.none_l _, Dj.none_l _⟩
/-- The way out with an error. -/
theorem frw_fail {B4 B5 : Nat} {e : Int} {s0 : Hp} {l : BL} {y0 y1 y2 x : Value} (he : e ≠ 0) (e0 : Ext s0 s) (h4 : s0.size ≤ B4) (h5 : s0.size ≤ B5) (h45 : B4 ≠ B5) (q0 : Own s ⟨B4, 0, none⟩ y0) (q1 : Own s ⟨B4, 1, none⟩ y1) (q2 : Own s ⟨B4, 2, none⟩ y2) (o : Own s ⟨B5, 0, none⟩ x) (hr : readF l = (fr0, e))
    (hk : ∀ s' v, Ext s0 s' → ResF s0.size s' (readF l).1 v → K (.tuple #[v, .int .i64 (readF l).2]) s') :
    DEF Pg W (.tuple #[(.func (.func 73) #[] #[(.pointer (some ⟨B5, 0, none⟩)), (.pointer (some ⟨B4, 0, none⟩))]), (.tuple #[])]) (some (MF e)) (RDL (Addr.add ⟨B4, 0, none⟩ 0) fun x114 l115 c116 =>
      RDL (Addr.add ⟨B4, 0, none⟩ 1) fun x117 l118 c119 =>
       RDL (Addr.add ⟨B4, 0, none⟩ 2) fun x120 l121 c122 =>
        RDI .i64 ⟨B5, 0, none⟩ fun n123 =>
         endK K E (.returned (.tuple #[(.agg #[(.slice x114 l115 c116), (.slice x117 l118 c119), (.slice x120 l121 c122)]), (.int .i64 n123)]))) s := by
  show DoesD Pg W 73 [.pointer (some ⟨B5, 0, none⟩), .pointer (some ⟨B4, 0, none⟩)] (some (MF e)) s _
  refine told_73 (v := .iface 172 (.agg #[.int .i64 e])) (.inr rfl) (caught_some o fun s1 k1 o1 => ⟨rfl, ?_⟩)
  refine ⟨_, o1.cell, ?_⟩
  refine BR_tt (by simpa using he) ?_
  have h54 : ¬ B4 = B5 := h45
  refine wrs3 (k1.own h54 q0) (k1.own h54 q1) (k1.own h54 q2) rfl rfl rfl fun s2 k2 z2 w0 w1 w2 => ?_
  refine ⟨_, _, _, w0.cell, _, _, _, w1.cell, _, _, _, w2.cell, _, (k2.own (a := ⟨B5, 0, none⟩) (fun h => h45 h.symm) o1).cell, ?_⟩
  try simp only [TUP_mk, AGG_mk, HD_mk, NL_mk, TYI_mk, TYB_mk, TYP_mk, TYL_mk, TYS_mk, TYM_mk, SO_mk, NX_mk, endK_mk, endK_mk', add_0]
  have := hk s2 (.agg #[.slice none 0 0, .slice none 0 0, .slice none 0 0]) (ext_kp (ext_kp e0 h5 k1) h4 k2)
  rw [hr] at this
  exact this ResF.nil
end
end Go.Proofs.YtcjgbanpkmpekaaGreatDoor.G

/- Furrows: reading, the loops. -/
set_option linter.unusedVariables false
set_option linter.unusedSimpArgs false
set_option maxRecDepth 20000
namespace Go.Proofs.YtcjgbanpkmpekaaGreatDoor.G
open Go.V
/-- A furrow that is being read. -/
def StF (B : Nat) (z u : Nat) (s : Hp) (f : FrS) : Prop := ∃ x c y d w e, Lst z u s B 0 x f.offs.length c 2 (f.offs.flatMap kinV) ∧ Lst z u s B 1 y f.wids.length d 2 (f.wids.flatMap kinV) ∧ Lst z u s B 2 w f.deps.length e 2 (f.deps.flatMap kinV) ∧ Dj x y ∧ Dj x w ∧ Dj y w
/-- .. and what else there is. -/
structure FS (s0 s : Hp) (B4 B5 B13 Q V : Nat) (rem : BL) : Prop where
  rem : RemS s B13 Q rem
  o5 : Own s ⟨B5, 0, none⟩ (.int .i64 0)
  cV : cellAt s ⟨V, 0, none⟩ = some (.func (.func 77) #[] #[.pointer (some ⟨B13, 0, none⟩)])
  ext : Ext s0 s
structure FB (s0 : Hp) (z B4 B5 B13 Q V : Nat) : Prop where
  b4 : s0.size ≤ B4
  b5 : B4 < B5
  q : B5 < Q
  b13 : Q < B13
  v : B13 < V
  z : V < z
theorem StF.kp {B z u : Nat} {s s' : Hp} {f : FrS} {D : Nat → Prop} (h : StF B z u s f) (k : Kp D s s') (hB : ¬ D B) (hD : ∀ b, z ≤ b → b < u → ¬ D b) : StF B z u s' f := by
  obtain ⟨x, c, y, d, w, e, L0, L1, L2, dj⟩ := h
  exact ⟨x, c, y, d, w, e, L0.kp k hB (fun a ha => hD _ (L0.f.fr.fr a ha) (L0.f.lt a ha)), L1.kp k hB (fun a ha => hD _ (L1.f.fr.fr a ha) (L1.f.lt a ha)), L2.kp k hB (fun a ha => hD _ (L2.f.fr.fr a ha) (L2.f.lt a ha)), dj⟩
theorem StF.up {B z u u' : Nat} {s : Hp} {f : FrS} (h : StF B z u s f) (hu : u ≤ u') : StF B z u' s f := by
  obtain ⟨x, c, y, d, w, e, L0, L1, L2, dj⟩ := h
  exact ⟨x, c, y, d, w, e, L0.up hu, L1.up hu, L2.up hu, dj⟩
theorem StF.ext {B z : Nat} {s s' : Hp} {f : FrS} (h : StF B z s.size s f) (e : Ext s s') : StF B z s'.size s' f := (h.kp (e.kp (C := fun _ => False)) id (fun _ _ _ => id)).up e.1
theorem FS.kp {s0 s s' : Hp} {z B4 B5 B13 Q V : Nat} {rem : BL} {D : Nat → Prop} (h : FS s0 s B4 B5 B13 Q V rem) (fb : FB s0 z B4 B5 B13 Q V) (k : Kp D s s') (hd : ∀ b, D b → b = B4 ∨ z ≤ b) : FS s0 s' B4 B5 B13 Q V rem := by
  have g1 := fb.b4; have g2 := fb.b5; have g3 := fb.q; have g4 := fb.b13; have g5 := fb.v; have g6 := fb.z
  have no : ∀ b, B4 < b → b < z → ¬ D b := fun b h1 h2 h3 => by rcases hd b h3 with h | h <;> omega
  exact ⟨h.rem.kp k (no _ (by omega) (by omega)) (no _ (by omega) (by omega)), k.own (no B5 (by omega) (by omega)) h.o5, k.cell (a := ⟨V, 0, none⟩) (no V (by omega) (by omega)) h.cV, kp_nil h.ext (fun b hb => by rcases hd b hb with h' | h' <;> omega) k⟩
theorem FS.extend {s0 s s' : Hp} {B4 B5 B13 Q V : Nat} {rem : BL} (h : FS s0 s B4 B5 B13 Q V rem) (e : Ext s s') : FS s0 s' B4 B5 B13 Q V rem := ⟨h.rem.ext e, e.own h.o5, e.cell h.cV, h.ext.trans e⟩
/-- What reading a byte leaves. -/
theorem FS.read {s0 s s' : Hp} {z B4 B5 B13 Q V : Nat} {rem rem' : BL} (h : FS s0 s B4 B5 B13 Q V rem) (fb : FB s0 z B4 B5 B13 Q V) (k : Kp (· = B13) s s') (hr : RemS s' B13 Q rem') : FS s0 s' B4 B5 B13 Q V rem' := by
  have g1 := fb.b4; have g2 := fb.b5; have g3 := fb.q; have g4 := fb.b13; have g5 := fb.v
  exact ⟨hr, k.own (fun hh => by have h' : B5 = B13 := hh; omega) h.o5, k.cell (a := ⟨V, 0, none⟩) (fun hh => by have h' : V = B13 := hh; omega) h.cV, kp_nil h.ext (fun b hb => by have h' : b = B13 := hb; omega) k⟩
theorem StF.read {s0 s s' : Hp} {z B4 B5 B13 Q V : Nat} {f : FrS} (h : StF B4 z s.size s f) (fb : FB s0 z B4 B5 B13 Q V) (k : Kp (· = B13) s s') : StF B4 z s'.size s' f := by
  have g1 := fb.b4; have g2 := fb.b5; have g3 := fb.q; have g4 := fb.b13; have g5 := fb.v; have g6 := fb.z
  exact (h.kp k (fun hh => by have h' : B4 = B13 := hh; omega) (fun b h1 _ hh => by have h' : b = B13 := hh; omega)).up k.1
theorem prs_app : ∀ (n : Nat) {a b : BL}, a.length = 2 * n → prs (a ++ b) = prs a ++ prs b
  | 0, a, b, h => by
    have : a = [] := List.eq_nil_of_length_eq_zero (by omega)
    subst this; rfl
  | n + 1, a, b, h => by
    match a, h with
    | x :: y :: r, h =>
      simp only [List.cons_append, prs]
      rw [prs_app n (a := r) (by simp at h; omega)]
theorem prs_step {L r : BL} {b c : UInt8} {k : Nat} (h : L.drop (2 * k) = b :: c :: r) : prs (L.take (2 * (k + 1))) = prs (L.take (2 * k)) ++ [((b.toNat : Int), (c.toNat : Int))] ∧ L.drop (2 * (k + 1)) = r ∧ 2 * (k + 1) ≤ L.length := by
  have hl : L.length = 2 * k + (r.length + 2) := by
    have := congrArg List.length h
    simp at this
    omega
  have h2 : L.take (2 * (k + 1)) = L.take (2 * k) ++ [b, c] := by
    rw [show 2 * (k + 1) = 2 * k + 2 by omega, List.take_add, h]; rfl
  refine ⟨?_, ?_, by omega⟩
  · rw [h2, prs_app k (by simp; omega)]; rfl
  · rw [show 2 * (k + 1) = 2 * k + 2 by omega, ← List.drop_drop, h]; rfl
section
variable {W : World} {s s0 : Hp} {K : VK} {E : List PanicEntry → Hp → Prop} {z B4 B5 B13 Q V m : Nat} {l : BL}
theorem flt {f : FrS} (st : StF B4 z s.size s f) : ∃ y0 y1 y2, Own s ⟨B4, 0, none⟩ y0 ∧ Own s ⟨B4, 1, none⟩ y1 ∧ Own s ⟨B4, 2, none⟩ y2 := by
  obtain ⟨x, c, y, d, w, e, L0, L1, L2, _⟩ := st
  exact ⟨_, _, _, L0.own, L1.own, L2.own⟩
/-- The way out with an error, from the loops. -/
theorem fail_F {f : FrS} {rem : BL} (st : StF B4 z s.size s f) (fs : FS s0 s B4 B5 B13 Q V rem) (fb : FB s0 z B4 B5 B13 Q V) (hr : readF l = (fr0, 8))
    (hk : ∀ s' v, Ext s0 s' → ResF s0.size s' (readF l).1 v → K (.tuple #[v, .int .i64 (readF l).2]) s') :
    DEF Pg W (.tuple #[(.func (.func 73) #[] #[(.pointer (some ⟨B5, 0, none⟩)), (.pointer (some ⟨B4, 0, none⟩))]), (.tuple #[])]) (some (MF 8)) (RDL (Addr.add ⟨B4, 0, none⟩ 0) fun x114 l115 c116 =>
      RDL (Addr.add ⟨B4, 0, none⟩ 1) fun x117 l118 c119 =>
       RDL (Addr.add ⟨B4, 0, none⟩ 2) fun x120 l121 c122 =>
        RDI .i64 ⟨B5, 0, none⟩ fun n123 =>
         endK K E (.returned (.tuple #[(.agg #[(.slice x114 l115 c116), (.slice x117 l118 c119), (.slice x120 l121 c122)]), (.int .i64 n123)]))) s := by
  obtain ⟨y0, y1, y2, q0, q1, q2⟩ := flt st
  exact frw_fail (by decide) fs.ext fb.b4 (by have := fb.b4; have := fb.b5; omega) (by have := fb.b5; omega) q0 q1 q2 fs.o5 hr hk
/-- The end: it is valid, or not. -/
theorem fr_J {f : FrS} {rem : BL} {b : Bool} (st : StF B4 z s.size s f) (fs : FS s0 s B4 B5 B13 Q V rem) (fb : FB s0 z B4 B5 B13 Q V) (h1 : b = true → readF l = (f, 0)) (h2 : b = false → readF l = (fr0, 8))
    (hk : ∀ s' v, Ext s0 s' → ResF s0.size s' (readF l).1 v → K (.tuple #[v, .int .i64 (readF l).2]) s') : J_book_ReadFurrow_0 W (endK K E) b ⟨B4, 0, none⟩ ⟨B5, 0, none⟩ s := by
  unfold J_book_ReadFurrow_0
  refine c_need (fun hb => ?_) (fun hb => fail_F st fs fb (h2 hb) hk)
  try simp only [TUP_mk, AGG_mk, HD_mk, NL_mk, TYI_mk, TYB_mk, TYP_mk, TYL_mk, TYS_mk, TYM_mk, SO_mk, NX_mk, endK_mk, endK_mk', add_0]
  have hr := h1 hb
  have g1 := fb.b4; have g2 := fb.b5; have g3 := fb.q; have g4 := fb.b13; have g5 := fb.v; have g6 := fb.z
  obtain ⟨x, c, y, d, w, e, L0, L1, L2, d01, d02, d12⟩ := st
  refine ⟨_, _, _, L0.own.cell, _, _, _, L1.own.cell, _, _, _, L2.own.cell, ?_⟩
  refine wrs3 L0.own L1.own L2.own rfl rfl rfl fun s1 k1 z1 p0 p1 p2 => ?_
  have hne : ¬ B5 = B4 := by omega
  refine wr1 (a := ⟨B5, 0, none⟩) (k1.own hne fs.o5) rfl fun s2 k2 z2 o2 => ?_
  show DoesD Pg W 73 [.pointer (some ⟨B5, 0, none⟩), .pointer (some ⟨B4, 0, none⟩)] none s2 _
  refine told_73 (.inl ⟨rfl, rfl⟩) (caught_none ⟨rfl, ⟨_, o2.cell, BR_ff rfl ?_⟩⟩)
  have hne' : ¬ B4 = B5 := by omega
  refine ⟨_, _, _, (k2.own hne' p0).cell, _, _, _, (k2.own hne' p1).cell, _, _, _, (k2.own hne' p2).cell, _, o2.cell, ?_⟩
  try simp only [TUP_mk, AGG_mk, HD_mk, NL_mk, TYI_mk, TYB_mk, TYP_mk, TYL_mk, TYS_mk, TYM_mk, SO_mk, NX_mk, endK_mk, endK_mk', add_0]
  have fr : ∀ x l c vs, Fr z s x l c 2 vs → Fr s0.size s2 x l c 2 vs := fun x l c vs hf => Fr.lo ((hf.kp k1 (fun b hb hh => by have := hf.fr b hb; have h' : b.block = B4 := hh; omega)).kp k2 (fun b hb hh => by have := hf.fr b hb; have h' : b.block = B5 := hh; omega)) (by omega)
  have := hk s2 (.agg #[.slice x f.offs.length c, .slice y f.wids.length d, .slice w f.deps.length e]) (ext_kp (ext_kp fs.ext g1 k1) (by show s0.size ≤ B5; omega) k2)
  rw [hr] at this
  exact this ⟨x, c, y, d, w, e, rfl, fr _ _ _ _ L0.f.fr, fr _ _ _ _ L1.f.fr, fr _ _ _ _ L2.f.fr, d01, d02, d12⟩
theorem fr_loop2 {O Wd : List (Int × Int)} {L : BL} (hm : m ≤ 255) (hO : O.length ≤ 2000) (hW : Wd.length ≤ 2000) (st : StF B4 z s.size s ⟨O, Wd, []⟩) (fs : FS s0 s B4 B5 B13 Q V L) (fb : FB s0 z B4 B5 B13 Q V) (hzs : z ≤ s.size)
    (h1 : L.length = 2 * m → readF l = if okFr ⟨O, Wd, prs L⟩ = true then (⟨O, Wd, prs L⟩, 0) else (fr0, 8)) (h2 : L.length ≠ 2 * m → readF l = (fr0, 8))
    (hk : ∀ s' v, Ext s0 s' → ResF s0.size s' (readF l).1 v → K (.tuple #[v, .int .i64 (readF l).2]) s') : L_book_ReadFurrow_2 W (endK K E) ⟨B4, 0, none⟩ ⟨B5, 0, none⟩ ⟨B13, 0, none⟩ ⟨V, 0, none⟩ (m : Int) 0 s := by
  refine L_book_ReadFurrow_2_rule W _ _ _ _ _ _ (fun n s' => ∃ k : Nat, n = (k : Int) ∧ k ≤ m ∧ 2 * k ≤ L.length ∧ StF B4 z s'.size s' ⟨O, Wd, prs (L.take (2 * k))⟩ ∧ FS s0 s' B4 B5 B13 Q V (L.drop (2 * k)) ∧ z ≤ s'.size ∧ (prs (L.take (2 * k))).length = k) (fun n s' => m - n.toNat) _ s ⟨0, rfl, by omega, by omega, by simpa [prs] using st, by simpa using fs, hzs, by simp [prs]⟩ ?_
  rintro n s1 ⟨k, rfl, hkm, hkl, st1, fs1, hz1, hpl⟩
  unfold B_book_ReadFurrow_2
  have g1 := fb.b4; have g2 := fb.b5; have g3 := fb.q; have g4 := fb.b13; have g5 := fb.v; have g6 := fb.z
  refine BR_dec (fun hlt => ?_) (fun hge => ?_)
  · obtain ⟨y0, y1, y2, q0, q1, q2⟩ := flt st1
    obtain ⟨x, c, y, d, w, e, L0, L1, L2, d01, d02, d12⟩ := id st1
    refine ⟨_, _, _, L2.own.cell, ?_⟩
    refine c_pair fs1.rem fs1.cV (by omega) (fun hr s2 k2 => ?_) (fun b c' r s2 hr k2 r2 => ?_)
    · have hne4 : ¬ B4 = B13 := by omega
      refine frw_fail (by decide) (kp_nil fs1.ext (fun b hb => by have h' : b = B13 := hb; omega) k2) fb.b4 (by omega) (by omega) (k2.own hne4 q0) (k2.own hne4 q1) (k2.own hne4 q2) (k2.own (a := ⟨B5, 0, none⟩) (fun hh => by have h' : B5 = B13 := hh; omega) fs1.o5) (h2 ?_) hk
      intro hL
      simp only [List.length_drop] at hr
      omega
    · try simp only [TUP_mk, AGG_mk, HD_mk, NL_mk, TYI_mk, TYB_mk, TYP_mk, TYL_mk, TYS_mk, TYM_mk, SO_mk, NX_mk, endK_mk, endK_mk', add_0]
      have fs2 := fs1.read fb k2 r2
      have hB : ¬ B4 = B13 := by omega
      have N0 := L0.kp k2 hB (fun a ha hh => by have := L0.f.fr.fr a ha; have h' : a.block = B13 := hh; omega)
      have N1 := L1.kp k2 hB (fun a ha hh => by have := L1.f.fr.fr a ha; have h' : a.block = B13 := hh; omega)
      have N2 := L2.kp k2 hB (fun a ha hh => by have := L2.f.fr.fr a ha; have h' : a.block = B13 := hh; omega)
      refine ANDS_i ⟨_, _, _, N2.own.cell, rfl⟩ ?_
      refine NEW_rule fun s3 e3 z3 o3 _ => ?_
      have N0 := N0.ext e3
      have N1 := N1.ext e3
      have N2 := N2.ext e3
      have fs3 := fs2.extend e3
      refine ANDS_i ⟨_, _, _, N2.own.cell, rfl⟩ ?_
      have hs13 : s1.size ≤ s3.size := Nat.le_trans k2.1 e3.1
      refine lst_app (ws := kinV ((b.toNat : Int), (c'.toNat : Int))) N2 (by omega) hz1 hs13 (row_new' o3) rfl (kin_one _) zc_74 rfl (by omega) (by show (prs (L.take (2 * k))).length ≤ _; omega) fun s4 x' c4 k4 o4 f4 hd4 => ?_
      have kz : ∀ q, (∃ a, w = some a ∧ a.block = q) → z ≤ q := fun q ⟨a', g1, g2⟩ => by rw [← g2]; exact N2.f.fr.fr a' g1
      have hB4 : ¬ ∃ a, w = some a ∧ a.block = B4 := fun hh => by have h9 : z ≤ B4 := kz _ hh; omega
      have M0 := N0.kp k4 hB4 (fun a ha ⟨a', g1, g2⟩ => d02 a a' ha g1 g2.symm)
      have M1 := N1.kp k4 hB4 (fun a ha ⟨a', g1, g2⟩ => d12 a a' ha g1 g2.symm)
      have fs4 := fs3.kp fb k4 (fun q hq => .inr (kz q hq))
      try simp only [TUP_mk, AGG_mk, HD_mk, NL_mk, TYI_mk, TYB_mk, TYP_mk, TYL_mk, TYS_mk, TYM_mk, SO_mk, NX_mk, endK_mk, endK_mk', add_0]
      refine lst_wr (B := B4) (j := 2) o4 f4 (by omega) fun s5 k5 z5 L5 kk5 => ?_
      have fs5 := fs4.kp fb k5 (fun q hq => .inl hq)
      have hs5 : s1.size ≤ s5.size := Nat.le_trans hs13 (Nat.le_trans k4.1 k5.1)
      obtain ⟨e1, e2, e3'⟩ := prs_step hr
      try simp only [TUP_mk, AGG_mk, HD_mk, NL_mk, TYI_mk, TYB_mk, TYP_mk, TYL_mk, TYS_mk, TYM_mk, SO_mk, NX_mk, endK_mk, endK_mk', add_0]
      refine ⟨_, rfl, ⟨k + 1, wr_k (by omega), by omega, e3', ?_, by rw [e2]; exact fs5, by omega, by rw [e1]; simp [hpl]⟩, ms_k (by omega) (by omega)⟩
      rw [e1]
      refine ⟨x, c, y, d, x', c4, ?_, ?_, ?_, d01, ?_, ?_⟩
      · exact (M0.wr k5 (by omega) (fun v hv => kk5 0 v (by omega) hv)).up hs5
      · exact (M1.wr k5 (by omega) (fun v hv => kk5 1 v (by omega) hv)).up hs5
      · have hl : (prs (L.take (2 * k)) ++ [((b.toNat : Int), (c'.toNat : Int))]).length = (prs (L.take (2 * k))).length + 1 := by simp
        rw [z5]
        show Lst z s4.size s5 B4 2 x' (prs (L.take (2 * k)) ++ [((b.toNat : Int), (c'.toNat : Int))]).length c4 2 ((prs (L.take (2 * k)) ++ [((b.toNat : Int), (c'.toNat : Int))]).flatMap kinV)
        rw [hl, flat_snoc]
        exact L5
      · exact (hd4 x (fun a ha => by have := N0.f.lt a ha; omega) d02.symm).symm
      · exact (hd4 y (fun a ha => by have := N1.f.lt a ha; omega) d12.symm).symm
  · have hkk : k = m := by omega
    subst hkk
    obtain ⟨⟨xr, cr, hor, _⟩, _⟩ := fs1.rem
    refine ⟨_, _, _, hor.cell, ?_⟩
    refine BR_eq (fun hz => ?_) (fun hz => ?_)
    · have hL : L.length = 2 * k := by simp only [List.length_drop] at hz; omega
      have ht : L.take (2 * k) = L := List.take_of_length_le (by omega)
      rw [ht] at st1 hpl
      have hr := h1 hL
      obtain ⟨x, c, y, d, w, e, L0, L1, L2, dj⟩ := id st1
      refine ⟨_, _, _, L0.own.cell, _, _, _, L1.own.cell, _, _, _, L2.own.cell, ?_⟩
      refine c_isFurrow (f := ⟨O, Wd, prs L⟩) ⟨L0.f.fr.row, L1.f.fr.row, L2.f.fr.row⟩ (by show O.length ≤ _; omega) (by show Wd.length ≤ _; omega) (by show (prs L).length ≤ _; omega) fun s2 e2 => ?_
      try simp only [TUP_mk, AGG_mk, HD_mk, NL_mk, TYI_mk, TYB_mk, TYP_mk, TYL_mk, TYS_mk, TYM_mk, SO_mk, NX_mk, endK_mk, endK_mk', add_0]
      refine fr_J (st1.ext e2) (fs1.extend e2) fb (fun hb => ?_) (fun hb => ?_) hk
      · rw [hr, if_pos hb]
      · rw [hr, hb]; rfl
    · refine fr_J st1 fs1 fb (fun hb => by cases hb) (fun _ => h2 ?_) hk
      intro hL
      apply hz
      simp only [List.length_drop]; omega
end
end Go.Proofs.YtcjgbanpkmpekaaGreatDoor.G

/- Furrows: reading. -/
set_option linter.unusedVariables false
set_option linter.unusedSimpArgs false
set_option maxRecDepth 20000
namespace Go.Proofs.YtcjgbanpkmpekaaGreatDoor.G
open Go.V
section
variable {W : World} {s s0 : Hp} {K : VK} {E : List PanicEntry → Hp → Prop} {z B4 B5 B13 Q V m : Nat} {l : BL}
theorem fr_loop1 {O : List (Int × Int)} {L : BL} (hm : m ≤ 255) (hO : O.length ≤ 2000) (st : StF B4 z s.size s ⟨O, [], []⟩) (fs : FS s0 s B4 B5 B13 Q V L) (fb : FB s0 z B4 B5 B13 Q V) (hzs : z ≤ s.size)
    (h1 : L.length = 4 * m → readF l = if okFr ⟨O, prs (L.take (2 * m)), prs (L.drop (2 * m))⟩ = true then (⟨O, prs (L.take (2 * m)), prs (L.drop (2 * m))⟩, 0) else (fr0, 8)) (h2 : L.length ≠ 4 * m → readF l = (fr0, 8))
    (hk : ∀ s' v, Ext s0 s' → ResF s0.size s' (readF l).1 v → K (.tuple #[v, .int .i64 (readF l).2]) s') : L_book_ReadFurrow_1 W (endK K E) ⟨B4, 0, none⟩ ⟨B5, 0, none⟩ ⟨B13, 0, none⟩ ⟨V, 0, none⟩ (m : Int) 0 s := by
  refine L_book_ReadFurrow_1_rule W _ _ _ _ _ _ (fun n s' => ∃ k : Nat, n = (k : Int) ∧ k ≤ m ∧ 2 * k ≤ L.length ∧ StF B4 z s'.size s' ⟨O, prs (L.take (2 * k)), []⟩ ∧ FS s0 s' B4 B5 B13 Q V (L.drop (2 * k)) ∧ z ≤ s'.size ∧ (prs (L.take (2 * k))).length = k) (fun n s' => m - n.toNat) _ s ⟨0, rfl, by omega, by omega, by simpa [prs] using st, by simpa using fs, hzs, by simp [prs]⟩ ?_
  rintro n s1 ⟨k, rfl, hkm, hkl, st1, fs1, hz1, hpl⟩
  unfold B_book_ReadFurrow_1
  have g1 := fb.b4; have g2 := fb.b5; have g3 := fb.q; have g4 := fb.b13; have g5 := fb.v; have g6 := fb.z
  refine BR_dec (fun hlt => ?_) (fun hge => ?_)
  · obtain ⟨y0, y1, y2, q0, q1, q2⟩ := flt st1
    obtain ⟨x, c, y, d, w, e, L0, L1, L2, d01, d02, d12⟩ := id st1
    refine ⟨_, _, _, L1.own.cell, ?_⟩
    refine c_pair fs1.rem fs1.cV (by omega) (fun hr s2 k2 => ?_) (fun b c' r s2 hr k2 r2 => ?_)
    · have hne4 : ¬ B4 = B13 := by omega
      refine frw_fail (by decide) (kp_nil fs1.ext (fun b hb => by have h' : b = B13 := hb; omega) k2) fb.b4 (by omega) (by omega) (k2.own hne4 q0) (k2.own hne4 q1) (k2.own hne4 q2) (k2.own (a := ⟨B5, 0, none⟩) (fun hh => by have h' : B5 = B13 := hh; omega) fs1.o5) (h2 ?_) hk
      intro hL
      simp only [List.length_drop] at hr
      omega
    · try simp only [TUP_mk, AGG_mk, HD_mk, NL_mk, TYI_mk, TYB_mk, TYP_mk, TYL_mk, TYS_mk, TYM_mk, SO_mk, NX_mk, endK_mk, endK_mk', add_0]
      have fs2 := fs1.read fb k2 r2
      have hB : ¬ B4 = B13 := by omega
      have N0 := L0.kp k2 hB (fun a ha hh => by have := L0.f.fr.fr a ha; have h' : a.block = B13 := hh; omega)
      have N1 := L1.kp k2 hB (fun a ha hh => by have := L1.f.fr.fr a ha; have h' : a.block = B13 := hh; omega)
      have N2 := L2.kp k2 hB (fun a ha hh => by have := L2.f.fr.fr a ha; have h' : a.block = B13 := hh; omega)
      refine ANDS_i ⟨_, _, _, N1.own.cell, rfl⟩ ?_
      refine NEW_rule fun s3 e3 z3 o3 _ => ?_
      have N0 := N0.ext e3
      have N1 := N1.ext e3
      have N2 := N2.ext e3
      have fs3 := fs2.extend e3
      refine ANDS_i ⟨_, _, _, N1.own.cell, rfl⟩ ?_
      have hs13 : s1.size ≤ s3.size := Nat.le_trans k2.1 e3.1
      refine lst_app (ws := kinV ((b.toNat : Int), (c'.toNat : Int))) N1 (by omega) hz1 hs13 (row_new' o3) rfl (kin_one _) zc_74 rfl (by omega) (by show (prs (L.take (2 * k))).length ≤ _; omega) fun s4 x' c4 k4 o4 f4 hd4 => ?_
      have kz : ∀ q, (∃ a, y = some a ∧ a.block = q) → z ≤ q := fun q ⟨a', g1, g2⟩ => by rw [← g2]; exact N1.f.fr.fr a' g1
      have hB4 : ¬ ∃ a, y = some a ∧ a.block = B4 := fun hh => by have h9 : z ≤ B4 := kz _ hh; omega
      have M0 := N0.kp k4 hB4 (fun a ha ⟨a', g1, g2⟩ => d01 a a' ha g1 g2.symm)
      have M2 := N2.kp k4 hB4 (fun a ha ⟨a', g1, g2⟩ => d12 a' a g1 ha g2)
      have fs4 := fs3.kp fb k4 (fun q hq => .inr (kz q hq))
      try simp only [TUP_mk, AGG_mk, HD_mk, NL_mk, TYI_mk, TYB_mk, TYP_mk, TYL_mk, TYS_mk, TYM_mk, SO_mk, NX_mk, endK_mk, endK_mk', add_0]
      refine lst_wr (B := B4) (j := 1) o4 f4 (by omega) fun s5 k5 z5 L5 kk5 => ?_
      have fs5 := fs4.kp fb k5 (fun q hq => .inl hq)
      have hs5 : s1.size ≤ s5.size := Nat.le_trans hs13 (Nat.le_trans k4.1 k5.1)
      obtain ⟨e1, e2, e3'⟩ := prs_step hr
      try simp only [TUP_mk, AGG_mk, HD_mk, NL_mk, TYI_mk, TYB_mk, TYP_mk, TYL_mk, TYS_mk, TYM_mk, SO_mk, NX_mk, endK_mk, endK_mk', add_0]
      refine ⟨_, rfl, ⟨k + 1, wr_k (by omega), by omega, e3', ?_, by rw [e2]; exact fs5, by omega, by rw [e1]; simp [hpl]⟩, ms_k (by omega) (by omega)⟩
      rw [e1]
      refine ⟨x, c, x', c4, w, e, ?_, ?_, ?_, ?_, d02, ?_⟩
      · exact (M0.wr k5 (by omega) (fun v hv => kk5 0 v (by omega) hv)).up hs5
      · have hl : (prs (L.take (2 * k)) ++ [((b.toNat : Int), (c'.toNat : Int))]).length = (prs (L.take (2 * k))).length + 1 := by simp
        rw [z5]
        show Lst z s4.size s5 B4 1 x' (prs (L.take (2 * k)) ++ [((b.toNat : Int), (c'.toNat : Int))]).length c4 2 ((prs (L.take (2 * k)) ++ [((b.toNat : Int), (c'.toNat : Int))]).flatMap kinV)
        rw [hl, flat_snoc]
        exact L5
      · exact (M2.wr k5 (by omega) (fun v hv => kk5 2 v (by omega) hv)).up hs5
      · exact (hd4 x (fun a ha => by have := N0.f.lt a ha; omega) d01.symm).symm
      · exact hd4 w (fun a ha => by have := N2.f.lt a ha; omega) d12
  · have hkk : k = m := by omega
    subst hkk
    refine fr_loop2 hm hO (by omega) st1 fs1 fb hz1 (fun hL => h1 (by simp only [List.length_drop] at hL; omega)) (fun hL => h2 (fun h => hL (by simp only [List.length_drop]; omega))) hk
theorem fr_loop0 {L : BL} (hm : m ≤ 255) (st : StF B4 z s.size s ⟨[], [], []⟩) (fs : FS s0 s B4 B5 B13 Q V L) (fb : FB s0 z B4 B5 B13 Q V) (hzs : z ≤ s.size)
    (h1 : L.length = 5 * m → readF l = if okFr ⟨(L.take m).map ofB, prs ((L.drop m).take (2 * m)), prs ((L.drop m).drop (2 * m))⟩ = true then (⟨(L.take m).map ofB, prs ((L.drop m).take (2 * m)), prs ((L.drop m).drop (2 * m))⟩, 0) else (fr0, 8)) (h2 : L.length ≠ 5 * m → readF l = (fr0, 8))
    (hk : ∀ s' v, Ext s0 s' → ResF s0.size s' (readF l).1 v → K (.tuple #[v, .int .i64 (readF l).2]) s') : L_book_ReadFurrow_0 W (endK K E) ⟨B4, 0, none⟩ ⟨B5, 0, none⟩ ⟨B13, 0, none⟩ ⟨V, 0, none⟩ (m : Int) 0 s := by
  refine L_book_ReadFurrow_0_rule W _ _ _ _ _ _ (fun n s' => ∃ k : Nat, n = (k : Int) ∧ k ≤ m ∧ k ≤ L.length ∧ StF B4 z s'.size s' ⟨(L.take k).map ofB, [], []⟩ ∧ FS s0 s' B4 B5 B13 Q V (L.drop k) ∧ z ≤ s'.size) (fun n s' => m - n.toNat) _ s ⟨0, rfl, by omega, by omega, by simpa using st, by simpa using fs, hzs⟩ ?_
  rintro n s1 ⟨k, rfl, hkm, hkl, st1, fs1, hz1⟩
  unfold B_book_ReadFurrow_0
  have g1 := fb.b4; have g2 := fb.b5; have g3 := fb.q; have g4 := fb.b13; have g5 := fb.v; have g6 := fb.z
  refine BR_dec (fun hlt => ?_) (fun hge => ?_)
  · refine ⟨_, fs1.cV, ?_⟩
    refine CALLV_func (c_next fs1.rem (fun hr => ?_) (fun b r s2 hr k2 z2 r2 => ?_))
    · refine fail_F st1 fs1 fb (h2 ?_) hk
      intro hL
      have := congrArg List.length hr
      simp only [List.length_drop, List.length_nil] at this
      omega
    · try simp only [TUP_mk, AGG_mk, HD_mk, NL_mk, TYI_mk, TYB_mk, TYP_mk, TYL_mk, TYS_mk, TYM_mk, SO_mk, NX_mk, endK_mk, endK_mk', add_0]
      have st2 := st1.read fb k2
      have fs2 := fs1.read fb k2 r2
      obtain ⟨x, c, y, d, w, e, L0, L1, L2, d01, d02, d12⟩ := st2
      refine ⟨_, _, _, L0.own.cell, ?_⟩
      have hb := b_lt b
      have hv1 : IntKind.wrap .i64 (IntKind.wrap .i64 (Int.tdiv (b.toNat : Int) 8) - 12) = (ofB b).1 := by
        rw [Int.tdiv_eq_ediv_of_nonneg (by omega), wrap_i64 (n := (b.toNat : Int) / 8) (by omega) (by omega), wrap_i64 (by omega) (by omega)]; rfl
      have hv2 : IntKind.wrap .i64 (IntKind.wrap .i64 (IntKind.wrap .i64 (Int.tdiv (b.toNat : Int) 8) - 12) + Int.tmod (b.toNat : Int) 8) = (ofB b).2 := by
        rw [hv1, Int.tmod_eq_emod_of_nonneg (by omega)]
        have : (ofB b).1 = (b.toNat : Int) / 8 - 12 := rfl
        rw [this, wrap_i64 (by omega) (by omega)]; rfl
      dsimp only
      rw [hv2, hv1]
      refine NEW_rule fun s3 e3 z3 o3 _ => ?_
      have N0 := L0.ext e3
      have N1 := L1.ext e3
      have N2 := L2.ext e3
      have fs3 := fs2.extend e3
      have hz2 : z ≤ s2.size := Nat.le_trans hz1 k2.1
      refine lst_app (ws := kinV (ofB b)) N0 (by omega) hz2 e3.1 (row_new' o3) rfl (kin_one _) zc_74 rfl (by omega) (by show ((L.take k).map ofB).length ≤ _; simp; omega) fun s4 x' c4 k4 o4 f4 hd4 => ?_
      have kz : ∀ q, (∃ a, x = some a ∧ a.block = q) → z ≤ q := fun q ⟨a', g1, g2⟩ => by rw [← g2]; exact N0.f.fr.fr a' g1
      have hB4 : ¬ ∃ a, x = some a ∧ a.block = B4 := fun hh => by have h9 : z ≤ B4 := kz _ hh; omega
      have M1 := N1.kp k4 hB4 (fun a ha ⟨a', g1, g2⟩ => d01 a' a g1 ha g2)
      have M2 := N2.kp k4 hB4 (fun a ha ⟨a', g1, g2⟩ => d02 a' a g1 ha g2)
      have fs4 := fs3.kp fb k4 (fun q hq => .inr (kz q hq))
      try simp only [TUP_mk, AGG_mk, HD_mk, NL_mk, TYI_mk, TYB_mk, TYP_mk, TYL_mk, TYS_mk, TYM_mk, SO_mk, NX_mk, endK_mk, endK_mk', add_0]
      refine lst_wr (B := B4) (j := 0) o4 f4 (by omega) fun s5 k5 z5 L5 kk5 => ?_
      have fs5 := fs4.kp fb k5 (fun q hq => .inl hq)
      have hs5 : s2.size ≤ s5.size := Nat.le_trans e3.1 (Nat.le_trans k4.1 k5.1)
      have hkL : k < L.length := by
        have := congrArg List.length hr
        simp only [List.length_drop, List.length_cons] at this
        omega
      have hd := List.drop_eq_getElem_cons hkL
      rw [hr] at hd
      obtain ⟨hb1, hb2⟩ := List.cons.inj hd
      have ht : (L.take (k + 1)).map ofB = (L.take k).map ofB ++ [ofB b] := by rw [take_map hkL, ← hb1]
      try simp only [TUP_mk, AGG_mk, HD_mk, NL_mk, TYI_mk, TYB_mk, TYP_mk, TYL_mk, TYS_mk, TYM_mk, SO_mk, NX_mk, endK_mk, endK_mk', add_0]
      refine ⟨_, rfl, ⟨k + 1, wr_k (by omega), by omega, by omega, ?_, by rw [← hb2]; exact fs5, by omega⟩, ms_k (by omega) (by omega)⟩
      rw [ht]
      refine ⟨x', c4, y, d, w, e, ?_, ?_, ?_, ?_, ?_, d12⟩
      · have hl : ((L.take k).map ofB ++ [ofB b]).length = ((L.take k).map ofB).length + 1 := by simp
        rw [z5]
        show Lst z s4.size s5 B4 0 x' ((L.take k).map ofB ++ [ofB b]).length c4 2 (((L.take k).map ofB ++ [ofB b]).flatMap kinV)
        rw [hl, flat_snoc]
        exact L5
      · exact (M1.wr k5 (by omega) (fun v hv => kk5 1 v (by omega) hv)).up hs5
      · exact (M2.wr k5 (by omega) (fun v hv => kk5 2 v (by omega) hv)).up hs5
      · exact hd4 y (fun a ha => by have := N1.f.lt a ha; have := e3.1; omega) d01
      · exact hd4 w (fun a ha => by have := N2.f.lt a ha; have := e3.1; omega) d02
  · have hkk : k = m := by omega
    subst hkk
    refine fr_loop1 hm (by simp; omega) st1 fs1 fb hz1 (fun hL => h1 (by simp only [List.length_drop] at hL; omega)) (fun hL => h2 (fun h => hL (by simp only [List.length_drop]; omega))) hk
theorem readF_par {l : BL} (h1 : 2 ≤ l.length) (h2 : l.length ≤ 2000) (h3 : withC (l.take (l.length - 2)) = l) : readF l = match parF (l.take (l.length - 2)) with
  | some f => if okFr f = true then (f, 0) else (fr0, 8)
  | none => (fr0, 8) := by
  unfold readF
  rw [if_neg (by omega), if_neg (by rintro (h | h); omega; exact h h3)]
  cases parF (l.take (l.length - 2)) <;> rfl
theorem c_ReadFurrow {x : Option Addr} {c : Nat} (hrow : RowAt s x (u8s l)) (hk : ∀ s' v, Ext s s' → ResF s.size s' (readF l).1 v → K (.tuple #[v, .int .i64 (readF l).2]) s') : CALL Pg W F_book_ReadFurrow [.slice x l.length c] K E s := by
  refine does_book_ReadFurrow W x l.length c _ s ?_
  unfold T_book_ReadFurrow
  refine nz3 zc_37 fun s1 e1 z1 q0 q1 q2 => ?_
  refine nz1 zc_39 fun s2 e2 z2 o5 => ?_
  have e12 := e1.trans e2
  have fail : ∀ (e : Int) (t : Hp), e ≠ 0 → Ext s2 t → readF l = (fr0, e) → _ := fun e t he et hr => frw_fail (W := W) (E := E) (B4 := s.size) (B5 := s1.size) he (e12.trans et) (Nat.le_refl _) e1.1 (by omega) (et.own (e2.own q0)) (et.own (e2.own q1)) (et.own (e2.own q2)) (et.own o5) hr hk
  refine c_need (fun hl => ?_) (fun hl => ?_)
  rotate_left
  · rw [decide_eq_false_iff_not] at hl
    refine fail 3 s2 (by decide) (Ext.refl _) ?_
    unfold readF
    rw [if_pos (by omega)]
  rw [decide_eq_true_eq] at hl
  try simp only [TUP_mk, AGG_mk, HD_mk, NL_mk, TYI_mk, TYB_mk, TYP_mk, TYL_mk, TYS_mk, TYM_mk, SO_mk, NX_mk, endK_mk, endK_mk', add_0]
  refine c_need (fun hl2 => ?_) (fun hl2 => ?_)
  rotate_left
  · rw [decide_eq_false_iff_not] at hl2
    refine fail 11 s2 (by decide) (Ext.refl _) ?_
    unfold readF
    rw [if_neg (by omega), if_pos (.inl (by omega))]
  rw [decide_eq_true_eq] at hl2
  try simp only [TUP_mk, AGG_mk, HD_mk, NL_mk, TYI_mk, TYB_mk, TYP_mk, TYL_mk, TYS_mk, TYM_mk, SO_mk, NX_mk, endK_mk, endK_mk', add_0]
  have hn : IntKind.wrap .i64 ((l.length : Int) - 2) = ((l.length - 2 : Nat) : Int) := by rw [wrap_i64 (by omega) (by omega)]; omega
  rw [hn, Int.toNat_natCast]
  refine MKS_rule zc_5 (by omega) fun s3 e3 z3 o3 => ?_
  refine nw1 zc_50 rfl fun s4 e4 z4 o4 => ?_
  refine ⟨_, _, _, o4.cell, ?_⟩
  have hol : (l.take (l.length - 2)).length = l.length - 2 := by simp
  have e24 := e3.trans e4
  have hrow4 : RowAt s4 x (u8s (l.take (l.length - 2))) := by
    intro i hi
    have hi' : i < (u8s l).length := by simp [u8s] at hi ⊢; omega
    obtain ⟨a, ha, hc⟩ := (hrow.ext (e12.trans e24)) i hi'
    refine ⟨a, ha, ?_⟩
    rw [hc]
    simp [u8s]
  refine COPY_rule (n := l.length - 2) (by omega) hrow4 (by rw [u8s_len, hol]) (u8s_one _) (fun i hi => ⟨_, by rw [add_nil, Nat.zero_add]; exact e4.own (o3 i hi)⟩) fun s5 k5 z5 o5' => ?_
  have hs23 : s2.size < s3.size := by omega
  have c13 := k5.own (a := ⟨s3.size, 0, none⟩) (fun hh => by have h' : s3.size = s2.size := hh; omega) o4
  have e25 : Ext s2 s5 := ext_kp e24 (Nat.le_refl _) k5
  generalize hown : l.take (l.length - 2) = own at hol o5'
  have row5 : RowAt s5 (some ⟨s2.size, 0, none⟩) (u8s own) := fun i hi => ⟨_, rfl, by rw [Nat.mul_one]; exact (o5' i hi).cell⟩
  refine ⟨_, _, _, c13.cell, ?_⟩
  rw [← hol] at c13 ⊢
  refine c_checked row5 (by omega) fun s6 x6 c6 e6 f6 => ?_
  try simp only [TUP_mk, AGG_mk, HD_mk, NL_mk, TYI_mk, TYB_mk, TYP_mk, TYL_mk, TYS_mk, TYM_mk, SO_mk, NX_mk, endK_mk, endK_mk', add_0]
  refine c_Equal f6.row (hrow.ext (e12.trans (e25.trans e6))) (by rw [withC_len]; omega) fun s7 e7 => ?_
  try simp only [TUP_mk, AGG_mk, HD_mk, NL_mk, TYI_mk, TYB_mk, TYP_mk, TYL_mk, TYS_mk, TYM_mk, SO_mk, NX_mk, endK_mk, endK_mk', add_0]
  have e27 := e25.trans (e6.trans e7)
  refine c_need (fun hc => ?_) (fun hc => ?_)
  rotate_left
  · rw [decide_eq_false_iff_not] at hc
    refine fail 11 s7 (by decide) e27 ?_
    unfold readF
    rw [if_neg (by omega), if_pos (.inr (by rw [hown]; exact hc))]
  rw [decide_eq_true_eq] at hc
  try simp only [TUP_mk, AGG_mk, HD_mk, NL_mk, TYI_mk, TYB_mk, TYP_mk, TYL_mk, TYS_mk, TYM_mk, SO_mk, NX_mk, endK_mk, endK_mk', add_0]
  have hpar := readF_par (l := l) (by omega) (by omega) (by rw [hown]; exact hc)
  rw [hown] at hpar
  refine nw1 zc_131 rfl fun s8 e8 z8 o8 => ?_
  refine ⟨_, o8.cell, ?_⟩
  have e78 := e6.trans (e7.trans e8)
  have rem8 : RemS s8 s3.size s2.size own := ⟨⟨_, _, e78.own c13, Nat.le_refl _, row5.ext e78, fun b hb => by cases hb; rfl⟩, by omega, by have := e78.1; have := e25.1; have := k5.1; omega⟩
  have fb : FB s s8.size s.size s1.size s3.size s2.size s7.size := ⟨Nat.le_refl _, by omega, by omega, by omega, by have := e6.1; have := e7.1; have := k5.1; omega, by omega⟩
  have E8 := e12.trans (e27.trans e8)
  have fs8 : FS s s8 s.size s1.size s3.size s2.size s7.size own := ⟨rem8, (e27.trans e8).own o5, o8.cell, E8⟩
  have st8 : StF s.size s8.size s8.size s8 ⟨[], [], []⟩ := ⟨none, 0, none, 0, none, 0, ⟨(e27.trans e8).own (e2.own q0), FrU.nil _ _ _ _⟩, ⟨(e27.trans e8).own (e2.own q1), FrU.nil _ _ _ _⟩, ⟨(e27.trans e8).own (e2.own q2), FrU.nil _ _ _ _⟩, Dj.none_l _, Dj.none_l _, Dj.none_l _⟩
  refine CALLV_func (c_next rem8 (fun hr => ?_) (fun a r s9 hr k9 z9 r9 => ?_))
  · exact fail_F (E := E) st8 fs8 fb (by rw [hpar, hr]; rfl) hk
  try simp only [TUP_mk, AGG_mk, HD_mk, NL_mk, TYI_mk, TYB_mk, TYP_mk, TYL_mk, TYS_mk, TYM_mk, SO_mk, NX_mk, endK_mk, endK_mk', add_0]
  have st9 := st8.read fb k9
  have fs9 := fs8.read fb k9 r9
  refine c_need (fun h70 => ?_) (fun h70 => ?_)
  rotate_left
  · refine fail_F (E := E) st9 fs9 fb ?_ hk
    rw [hpar, hr]
    cases r with
    | nil => rfl
    | cons mb r =>
      unfold parF
      dsimp only
      rw [if_neg]
      rintro ⟨rfl, _⟩
      simp at h70
  try simp only [TUP_mk, AGG_mk, HD_mk, NL_mk, TYI_mk, TYB_mk, TYP_mk, TYL_mk, TYS_mk, TYM_mk, SO_mk, NX_mk, endK_mk, endK_mk', add_0]
  have ha : a = 70 := by
    have : (a.toNat : Int) = 70 := by simpa using h70
    exact UInt8.toNat_inj.1 (by show a.toNat = 70; omega)
  subst ha
  refine ⟨_, fs9.cV, ?_⟩
  refine CALLV_func (c_next r9 (fun hr' => ?_) (fun mb r' s10 hr' k10 z10 r10 => ?_))
  · exact fail_F (E := E) st9 fs9 fb (by rw [hpar, hr, hr']; rfl) hk
  try simp only [TUP_mk, AGG_mk, HD_mk, NL_mk, TYI_mk, TYB_mk, TYP_mk, TYL_mk, TYS_mk, TYM_mk, SO_mk, NX_mk, endK_mk, endK_mk', add_0]
  have st10 := st9.read fb k10
  have fs10 := fs9.read fb k10 r10
  subst hr'
  have hmb := b_lt mb
  have hparF : parF own = if r'.length = 5 * mb.toNat then some ⟨(r'.take mb.toNat).map ofB, prs ((r'.drop mb.toNat).take (2 * mb.toNat)), prs (r'.drop (3 * mb.toNat))⟩ else none := by
    rw [hr]
    unfold parF
    dsimp only
    by_cases h5 : r'.length = 5 * mb.toNat
    · rw [if_pos ⟨rfl, h5⟩, if_pos h5]
    · rw [if_neg (fun h => h5 h.2), if_neg h5]
  refine fr_loop0 (by omega) st10 fs10 fb (by omega) (fun hL => ?_) (fun hL => ?_) hk
  · rw [hpar, hparF, if_pos hL]
    dsimp only
    rw [List.drop_drop, show mb.toNat + 2 * mb.toNat = 3 * mb.toNat by omega]
  · rw [hpar, hparF, if_neg hL]
end
end Go.Proofs.YtcjgbanpkmpekaaGreatDoor.G

/- More of the functions' shallow texts, by gen.py. -/
set_option linter.unusedVariables false
set_option maxRecDepth 100000
namespace Go.Proofs.YtcjgbanpkmpekaaGreatDoor.G
open Go.V
def an_13 : Nat → Ann := fun b => match b with
 | _ => {}
abbrev rv_13 : List ResultVar := [.tmp 0]
abbrev rs_13 : List Nat := [120, 0]
def J_law14_alive_0 (W : World) (R : Ending → Hp → Prop) (b458 : Bool) (B218 : Nat) (n217 : Int) : Hp → Prop :=
 BR b458
 (RDL (Addr.add ⟨B218, 0, none⟩ 0) fun x459 l460 c461 =>
 RDL (Addr.add ⟨B218, 0, none⟩ 1) fun x462 l463 c464 =>
 RDL (Addr.add ⟨B218, 0, none⟩ 2) fun x465 l466 c467 =>
 CALL Pg W F_law14_furrow []
 (fun v468 => AGG v468 fun q470 => HD q470 fun v471 r472 => TYL v471 fun x473 l474 c475 =>
 HD r472 fun v476 r477 => TYL v476 fun x478 l479 c480 =>
 HD r477 fun v481 r482 => TYL v481 fun x483 l484 c485 =>
 NL r482 <|
 ANDS (RDL (Addr.add ⟨B218, 0, none⟩ 0) fun x495 l496 c497 =>
 RDL (Addr.add ⟨B218, 0, none⟩ 1) fun x498 l499 c500 =>
 RDL (Addr.add ⟨B218, 0, none⟩ 2) fun x501 l502 c503 =>
 fun _ => ((.agg #[(.slice x495 l496 c497), (.slice x498 l499 c500), (.slice x501 l502 c503)]) : Value) = (.agg #[(.slice x459 l460 c461), (.slice x462 l463 c464), (.slice x465 l466 c467)])) <|
 CALL Pg W F_ref14_SameFurrow [(.agg #[(.slice x459 l460 c461), (.slice x462 l463 c464), (.slice x465 l466 c467)]), (.agg #[(.slice x473 l474 c475), (.slice x478 l479 c480), (.slice x483 l484 c485)])]
 (fun v504 => TYB v504 fun b506 =>
 BR b506
 (R (.returned (.bool (n217 == 0))))
 (R (.returned (.bool false))))
 (fun e505 => R (.panicked e505)))
 (fun e469 => R (.panicked e469)))
 (R (.returned (.bool false)))
def J_law14_alive_1 (W : World) (R : Ending → Hp → Prop) (b430 : Bool) (n188 : Int) (B218 : Nat) (n217 : Int) : Hp → Prop :=
 BR b430
 (J_law14_alive_0 W R (n188 == 0) B218 n217)
 (J_law14_alive_0 W R false B218 n217)
def J_law14_alive_2 (W : World) (R : Ending → Hp → Prop) (b350 : Bool) (B189 : Nat) (n188 : Int) (B218 : Nat) (n217 : Int) : Hp → Prop :=
 BR b350
 (RDI .i64 (Addr.add ⟨B189, 0, none⟩ 0) fun n351 =>
 RDI .i64 (Addr.add ⟨B189, 0, none⟩ 1) fun n352 =>
 RDI .i64 (Addr.add ⟨B189, 0, none⟩ 2) fun n353 =>
 RDL (Addr.add ⟨B189, 0, none⟩ 3) fun x354 l355 c356 =>
 RDL (Addr.add ⟨B189, 0, none⟩ 4) fun x357 l358 c359 =>
 CALL Pg W F_law14_hearing []
 (fun v360 => AGG v360 fun q362 => HD q362 fun v363 r364 => TYI .i64 v363 fun n365 =>
 HD r364 fun v366 r367 => TYI .i64 v366 fun n368 =>
 HD r367 fun v369 r370 => TYI .i64 v369 fun n371 =>
 HD r370 fun v372 r373 => TYL v372 fun x374 l375 c376 =>
 HD r373 fun v377 r378 => TYL v377 fun x379 l380 c381 =>
 NL r378 <|
 ANDS (RDI .i64 (Addr.add ⟨B189, 0, none⟩ 0) fun n391 =>
 RDI .i64 (Addr.add ⟨B189, 0, none⟩ 1) fun n392 =>
 RDI .i64 (Addr.add ⟨B189, 0, none⟩ 2) fun n393 =>
 RDL (Addr.add ⟨B189, 0, none⟩ 3) fun x394 l395 c396 =>
 RDL (Addr.add ⟨B189, 0, none⟩ 4) fun x397 l398 c399 =>
 fun _ => ((.agg #[(.int .i64 n391), (.int .i64 n392), (.int .i64 n393), (.slice x394 l395 c396), (.slice x397 l398 c399)]) : Value) = (.agg #[(.int .i64 n351), (.int .i64 n352), (.int .i64 n353), (.slice x354 l355 c356), (.slice x357 l358 c359)])) <|
 CALL Pg W F_ref14_SameHearing [(.agg #[(.int .i64 n351), (.int .i64 n352), (.int .i64 n353), (.slice x354 l355 c356), (.slice x357 l358 c359)]), (.agg #[(.int .i64 n365), (.int .i64 n368), (.int .i64 n371), (.slice x374 l375 c376), (.slice x379 l380 c381)])]
 (fun v400 => TYB v400 fun b402 =>
 J_law14_alive_1 W R b402 n188 B218 n217)
 (fun e401 => R (.panicked e401)))
 (fun e361 => R (.panicked e361)))
 (J_law14_alive_1 W R false n188 B218 n217)
def J_law14_alive_3 (W : World) (R : Ending → Hp → Prop) (b332 : Bool) (n159 : Int) (B189 : Nat) (n188 : Int) (B218 : Nat) (n217 : Int) : Hp → Prop :=
 BR b332
 (J_law14_alive_2 W R (n159 == 0) B189 n188 B218 n217)
 (J_law14_alive_2 W R false B189 n188 B218 n217)
def J_law14_alive_4 (W : World) (R : Ending → Hp → Prop) (b266 : Bool) (B160 : Nat) (n159 : Int) (B189 : Nat) (n188 : Int) (B218 : Nat) (n217 : Int) : Hp → Prop :=
 BR b266
 (RDL (Addr.add ⟨B160, 0, none⟩ 0) fun x267 l268 c269 =>
 RDL (Addr.add ⟨B160, 0, none⟩ 1) fun x270 l271 c272 =>
 RDL (Addr.add ⟨B160, 0, none⟩ 2) fun x273 l274 c275 =>
 CALL Pg W F_law14_panels []
 (fun v276 => AGG v276 fun q278 => HD q278 fun v279 r280 => TYL v279 fun x281 l282 c283 =>
 HD r280 fun v284 r285 => TYL v284 fun x286 l287 c288 =>
 HD r285 fun v289 r290 => TYL v289 fun x291 l292 c293 =>
 NL r290 <|
 ANDS (RDL (Addr.add ⟨B160, 0, none⟩ 0) fun x303 l304 c305 =>
 RDL (Addr.add ⟨B160, 0, none⟩ 1) fun x306 l307 c308 =>
 RDL (Addr.add ⟨B160, 0, none⟩ 2) fun x309 l310 c311 =>
 fun _ => ((.agg #[(.slice x303 l304 c305), (.slice x306 l307 c308), (.slice x309 l310 c311)]) : Value) = (.agg #[(.slice x267 l268 c269), (.slice x270 l271 c272), (.slice x273 l274 c275)])) <|
 CALL Pg W F_ref14_SamePanels [(.agg #[(.slice x267 l268 c269), (.slice x270 l271 c272), (.slice x273 l274 c275)]), (.agg #[(.slice x281 l282 c283), (.slice x286 l287 c288), (.slice x291 l292 c293)])]
 (fun v312 => TYB v312 fun b314 =>
 J_law14_alive_3 W R b314 n159 B189 n188 B218 n217)
 (fun e313 => R (.panicked e313)))
 (fun e277 => R (.panicked e277)))
 (J_law14_alive_3 W R false n159 B189 n188 B218 n217)
def J_law14_alive_5 (W : World) (R : Ending → Hp → Prop) (b225 : Bool) (B135 : Nat) (n134 : Int) (B160 : Nat) (n159 : Int) (B189 : Nat) (n188 : Int) (B218 : Nat) (n217 : Int) : Hp → Prop :=
 BR b225
 (R (.returned (.bool false)))
 (RDI .i64 (Addr.add ⟨B135, 0, none⟩ 0) fun n226 =>
 RDL (Addr.add ⟨B135, 0, none⟩ 1) fun x227 l228 c229 =>
 RDL (Addr.add ⟨B135, 0, none⟩ 2) fun x230 l231 c232 =>
 CALL Pg W F_law14_pegs []
 (fun v233 => AGG v233 fun q235 => HD q235 fun v236 r237 => TYI .i64 v236 fun n238 =>
 HD r237 fun v239 r240 => TYL v239 fun x241 l242 c243 =>
 HD r240 fun v244 r245 => TYL v244 fun x246 l247 c248 =>
 NL r245 <|
 ANDS (RDI .i64 (Addr.add ⟨B135, 0, none⟩ 0) fun n249 =>
 RDL (Addr.add ⟨B135, 0, none⟩ 1) fun x250 l251 c252 =>
 RDL (Addr.add ⟨B135, 0, none⟩ 2) fun x253 l254 c255 =>
 fun _ => ((.agg #[(.int .i64 n249), (.slice x250 l251 c252), (.slice x253 l254 c255)]) : Value) = (.agg #[(.int .i64 n226), (.slice x227 l228 c229), (.slice x230 l231 c232)])) <|
 CALL Pg W F_ref14_SamePegs [(.agg #[(.int .i64 n226), (.slice x227 l228 c229), (.slice x230 l231 c232)]), (.agg #[(.int .i64 n238), (.slice x241 l242 c243), (.slice x246 l247 c248)])]
 (fun v256 => TYB v256 fun b258 =>
 BR b258
 (J_law14_alive_4 W R (n134 == 0) B160 n159 B189 n188 B218 n217)
 (J_law14_alive_4 W R false B160 n159 B189 n188 B218 n217))
 (fun e257 => R (.panicked e257)))
 (fun e234 => R (.panicked e234)))
def J_law14_alive_6 (W : World) (R : Ending → Hp → Prop) (b224 : Bool) (B135 : Nat) (n134 : Int) (B160 : Nat) (n159 : Int) (B189 : Nat) (n188 : Int) (B218 : Nat) (n217 : Int) (n112 : Int) : Hp → Prop :=
 BR b224
 (J_law14_alive_5 W R true B135 n134 B160 n159 B189 n188 B218 n217)
 (J_law14_alive_5 W R (n112 != 0) B135 n134 B160 n159 B189 n188 B218 n217)
def J_law14_alive_7 (W : World) (R : Ending → Hp → Prop) (b223 : Bool) (B135 : Nat) (n134 : Int) (B160 : Nat) (n159 : Int) (B189 : Nat) (n188 : Int) (B218 : Nat) (n217 : Int) (n112 : Int) (x107 : Option Addr) (l108 : Nat) : Hp → Prop :=
 BR b223
 (J_law14_alive_6 W R true B135 n134 B160 n159 B189 n188 B218 n217 n112)
 (B2S x107 l108 fun t507 =>
 J_law14_alive_6 W R (!seqB t507 ⟨#[70, 5, 97, 113, 96, 104, 137, 30, 30, 30, 30, 30, 30, 30, 30, 30, 30, 15, 16, 14, 18, 15, 15, 12, 14, 16, 17, 39, 72]⟩) B135 n134 B160 n159 B189 n188 B218 n217 n112)
def J_law14_alive_8 (W : World) (R : Ending → Hp → Prop) (b222 : Bool) (B135 : Nat) (n134 : Int) (B160 : Nat) (n159 : Int) (B189 : Nat) (n188 : Int) (B218 : Nat) (n217 : Int) (n112 : Int) (x107 : Option Addr) (l108 : Nat) (n83 : Int) : Hp → Prop :=
 BR b222
 (J_law14_alive_7 W R true B135 n134 B160 n159 B189 n188 B218 n217 n112 x107 l108)
 (J_law14_alive_7 W R (n83 != 0) B135 n134 B160 n159 B189 n188 B218 n217 n112 x107 l108)
def J_law14_alive_9 (W : World) (R : Ending → Hp → Prop) (b221 : Bool) (B135 : Nat) (n134 : Int) (B160 : Nat) (n159 : Int) (B189 : Nat) (n188 : Int) (B218 : Nat) (n217 : Int) (n112 : Int) (x107 : Option Addr) (l108 : Nat) (n83 : Int) (t80 : ByteArray) : Hp → Prop :=
 BR b221
 (J_law14_alive_8 W R true B135 n134 B160 n159 B189 n188 B218 n217 n112 x107 l108 n83)
 (J_law14_alive_8 W R (!seqB t80 ⟨#[104, 101, 97, 114, 105, 110, 103, 32, 50, 32, 51, 32, 49, 10, 48, 32, 105, 115, 32, 102, 48, 10, 49, 32, 105, 115, 32, 45, 102, 48, 10, 50, 32, 111, 114, 32, 45, 119, 49, 32, 102, 49, 10, 107, 110, 111, 119, 110, 32, 45, 102, 49, 10]⟩) B135 n134 B160 n159 B189 n188 B218 n217 n112 x107 l108 n83)
def J_law14_alive_10 (W : World) (R : Ending → Hp → Prop) (b220 : Bool) (B135 : Nat) (n134 : Int) (B160 : Nat) (n159 : Int) (B189 : Nat) (n188 : Int) (B218 : Nat) (n217 : Int) (n112 : Int) (x107 : Option Addr) (l108 : Nat) (n83 : Int) (t80 : ByteArray) (n52 : Int) : Hp → Prop :=
 BR b220
 (J_law14_alive_9 W R true B135 n134 B160 n159 B189 n188 B218 n217 n112 x107 l108 n83 t80)
 (J_law14_alive_9 W R (n52 != 0) B135 n134 B160 n159 B189 n188 B218 n217 n112 x107 l108 n83 t80)
def J_law14_alive_11 (W : World) (R : Ending → Hp → Prop) (b219 : Bool) (B135 : Nat) (n134 : Int) (B160 : Nat) (n159 : Int) (B189 : Nat) (n188 : Int) (B218 : Nat) (n217 : Int) (n112 : Int) (x107 : Option Addr) (l108 : Nat) (n83 : Int) (t80 : ByteArray) (n52 : Int) (t49 : ByteArray) : Hp → Prop :=
 BR b219
 (J_law14_alive_10 W R true B135 n134 B160 n159 B189 n188 B218 n217 n112 x107 l108 n83 t80 n52)
 (J_law14_alive_10 W R (!seqB t49 ⟨#[106, 117, 100, 103, 101, 115, 32, 50, 32, 50, 32, 49, 10, 112, 108, 111, 116, 115, 32, 50, 32, 49, 32, 50, 10, 107, 105, 110, 32, 48, 32, 50, 10, 107, 105, 110, 32, 50, 32, 49, 10]⟩) B135 n134 B160 n159 B189 n188 B218 n217 n112 x107 l108 n83 t80 n52)
def T_law14_alive (W : World) (R : Ending → Hp → Prop) : Hp → Prop :=
 CALL Pg W F_law14_pegs []
 (fun v1 => AGG v1 fun q3 => HD q3 fun v4 r5 => TYI .i64 v4 fun n6 =>
 HD r5 fun v7 r8 => TYL v7 fun x9 l10 c11 =>
 HD r8 fun v12 r13 => TYL v12 fun x14 l15 c16 =>
 NL r13 <|
 CALL Pg W F_book_WritePegs [(.agg #[(.int .i64 n6), (.slice x9 l10 c11), (.slice x14 l15 c16)])]
 (fun v17 => TUP v17 fun q19 => HD q19 fun v20 r21 => TYS v20 fun t22 =>
 HD r21 fun v23 r24 => TYI .i64 v23 fun n25 =>
 NL r24 <|
 CALL Pg W F_law14_panels []
 (fun v26 => AGG v26 fun q28 => HD q28 fun v29 r30 => TYL v29 fun x31 l32 c33 =>
 HD r30 fun v34 r35 => TYL v34 fun x36 l37 c38 =>
 HD r35 fun v39 r40 => TYL v39 fun x41 l42 c43 =>
 NL r40 <|
 CALL Pg W F_book_WritePanels [(.agg #[(.slice x31 l32 c33), (.slice x36 l37 c38), (.slice x41 l42 c43)])]
 (fun v44 => TUP v44 fun q46 => HD q46 fun v47 r48 => TYS v47 fun t49 =>
 HD r48 fun v50 r51 => TYI .i64 v50 fun n52 =>
 NL r51 <|
 CALL Pg W F_law14_hearing []
 (fun v53 => AGG v53 fun q55 => HD q55 fun v56 r57 => TYI .i64 v56 fun n58 =>
 HD r57 fun v59 r60 => TYI .i64 v59 fun n61 =>
 HD r60 fun v62 r63 => TYI .i64 v62 fun n64 =>
 HD r63 fun v65 r66 => TYL v65 fun x67 l68 c69 =>
 HD r66 fun v70 r71 => TYL v70 fun x72 l73 c74 =>
 NL r71 <|
 CALL Pg W F_book_WriteHearing [(.agg #[(.int .i64 n58), (.int .i64 n61), (.int .i64 n64), (.slice x67 l68 c69), (.slice x72 l73 c74)])]
 (fun v75 => TUP v75 fun q77 => HD q77 fun v78 r79 => TYS v78 fun t80 =>
 HD r79 fun v81 r82 => TYI .i64 v81 fun n83 =>
 NL r82 <|
 CALL Pg W F_law14_furrow []
 (fun v84 => AGG v84 fun q86 => HD q86 fun v87 r88 => TYL v87 fun x89 l90 c91 =>
 HD r88 fun v92 r93 => TYL v92 fun x94 l95 c96 =>
 HD r93 fun v97 r98 => TYL v97 fun x99 l100 c101 =>
 NL r98 <|
 CALL Pg W F_book_WriteFurrow [(.agg #[(.slice x89 l90 c91), (.slice x94 l95 c96), (.slice x99 l100 c101)])]
 (fun v102 => TUP v102 fun q104 => HD q104 fun v105 r106 => TYL v105 fun x107 l108 c109 =>
 HD r106 fun v110 r111 => TYI .i64 v110 fun n112 =>
 NL r111 <|
 CALL Pg W F_book_ReadPegs [(.string ⟨#[102, 105, 101, 108, 100, 32, 49, 50, 10, 112, 111, 115, 116, 32, 48, 46, 46, 48, 32, 48, 46, 46, 48, 10, 112, 111, 115, 116, 32, 52, 46, 46, 53, 32, 48, 46, 46, 48, 10, 112, 111, 115, 116, 32, 48, 46, 46, 48, 32, 51, 46, 46, 51, 10, 99, 104, 97, 105, 110, 32, 48, 32, 49, 32, 55, 46, 46, 55, 10, 99, 104, 97, 105, 110, 32, 48, 32, 50, 32, 51, 46, 46, 51, 10, 99, 104, 97, 105, 110, 32, 49, 32, 50, 32, 55, 46, 46, 56, 10]⟩)]
 (fun v113 => TUP v113 fun q115 => HD q115 fun v116 r117 => AGG v116 fun q118 => HD q118 fun v119 r120 => TYI .i64 v119 fun n121 =>
 HD r120 fun v122 r123 => TYL v122 fun x124 l125 c126 =>
 HD r123 fun v127 r128 => TYL v127 fun x129 l130 c131 =>
 NL r128 <|
 HD r117 fun v132 r133 => TYI .i64 v132 fun n134 =>
 NL r133 <|
 NEWZ Pg 25 fun B135 =>
 WR (Addr.add ⟨B135, 0, none⟩ 0) (.int .i64 n121) <|
 WR (Addr.add ⟨B135, 0, none⟩ 1) (.slice x124 l125 c126) <|
 WR (Addr.add ⟨B135, 0, none⟩ 2) (.slice x129 l130 c131) <|
 CALL Pg W F_book_ReadPanels [(.string ⟨#[106, 117, 100, 103, 101, 115, 32, 50, 32, 50, 32, 49, 10, 112, 108, 111, 116, 115, 32, 50, 32, 49, 32, 50, 10, 107, 105, 110, 32, 48, 32, 50, 10, 107, 105, 110, 32, 50, 32, 49, 10]⟩)]
 (fun v136 => TUP v136 fun q138 => HD q138 fun v139 r140 => AGG v139 fun q141 => HD q141 fun v142 r143 => TYL v142 fun x144 l145 c146 =>
 HD r143 fun v147 r148 => TYL v147 fun x149 l150 c151 =>
 HD r148 fun v152 r153 => TYL v152 fun x154 l155 c156 =>
 NL r153 <|
 HD r140 fun v157 r158 => TYI .i64 v157 fun n159 =>
 NL r158 <|
 NEWZ Pg 29 fun B160 =>
 WR (Addr.add ⟨B160, 0, none⟩ 0) (.slice x144 l145 c146) <|
 WR (Addr.add ⟨B160, 0, none⟩ 1) (.slice x149 l150 c151) <|
 WR (Addr.add ⟨B160, 0, none⟩ 2) (.slice x154 l155 c156) <|
 CALL Pg W F_book_ReadHearing [(.string ⟨#[104, 101, 97, 114, 105, 110, 103, 32, 50, 32, 51, 32, 49, 10, 48, 32, 105, 115, 32, 102, 48, 10, 49, 32, 105, 115, 32, 45, 102, 48, 10, 50, 32, 111, 114, 32, 45, 119, 49, 32, 102, 49, 10, 107, 110, 111, 119, 110, 32, 45, 102, 49, 10]⟩)]
 (fun v161 => TUP v161 fun q163 => HD q163 fun v164 r165 => AGG v164 fun q166 => HD q166 fun v167 r168 => TYI .i64 v167 fun n169 =>
 HD r168 fun v170 r171 => TYI .i64 v170 fun n172 =>
 HD r171 fun v173 r174 => TYI .i64 v173 fun n175 =>
 HD r174 fun v176 r177 => TYL v176 fun x178 l179 c180 =>
 HD r177 fun v181 r182 => TYL v181 fun x183 l184 c185 =>
 NL r182 <|
 HD r165 fun v186 r187 => TYI .i64 v186 fun n188 =>
 NL r187 <|
 NEWZ Pg 34 fun B189 =>
 WR (Addr.add ⟨B189, 0, none⟩ 0) (.int .i64 n169) <|
 WR (Addr.add ⟨B189, 0, none⟩ 1) (.int .i64 n172) <|
 WR (Addr.add ⟨B189, 0, none⟩ 2) (.int .i64 n175) <|
 WR (Addr.add ⟨B189, 0, none⟩ 3) (.slice x178 l179 c180) <|
 WR (Addr.add ⟨B189, 0, none⟩ 4) (.slice x183 l184 c185) <|
 NEW 5 [(.int .u8 70), (.int .u8 5), (.int .u8 97), (.int .u8 113), (.int .u8 96), (.int .u8 104), (.int .u8 137), (.int .u8 30), (.int .u8 30), (.int .u8 30), (.int .u8 30), (.int .u8 30), (.int .u8 30), (.int .u8 30), (.int .u8 30), (.int .u8 30), (.int .u8 30), (.int .u8 15), (.int .u8 16), (.int .u8 14), (.int .u8 18), (.int .u8 15), (.int .u8 15), (.int .u8 12), (.int .u8 14), (.int .u8 16), (.int .u8 17), (.int .u8 39), (.int .u8 72)] fun B190 =>
 SLV Pg (convert 50 50 (.slice (some ⟨B190, 0, none⟩) 29 29)) fun x191 l192 c193 =>
 CALL Pg W F_book_ReadFurrow [(.slice x191 l192 c193)]
 (fun v194 => TUP v194 fun q196 => HD q196 fun v197 r198 => AGG v197 fun q199 => HD q199 fun v200 r201 => TYL v200 fun x202 l203 c204 =>
 HD r201 fun v205 r206 => TYL v205 fun x207 l208 c209 =>
 HD r206 fun v210 r211 => TYL v210 fun x212 l213 c214 =>
 NL r211 <|
 HD r198 fun v215 r216 => TYI .i64 v215 fun n217 =>
 NL r216 <|
 NEWZ Pg 37 fun B218 =>
 WR (Addr.add ⟨B218, 0, none⟩ 0) (.slice x202 l203 c204) <|
 WR (Addr.add ⟨B218, 0, none⟩ 1) (.slice x207 l208 c209) <|
 WR (Addr.add ⟨B218, 0, none⟩ 2) (.slice x212 l213 c214) <|
 BR (!seqB t22 ⟨#[102, 105, 101, 108, 100, 32, 49, 50, 10, 112, 111, 115, 116, 32, 48, 46, 46, 48, 32, 48, 46, 46, 48, 10, 112, 111, 115, 116, 32, 52, 46, 46, 53, 32, 48, 46, 46, 48, 10, 112, 111, 115, 116, 32, 48, 46, 46, 48, 32, 51, 46, 46, 51, 10, 99, 104, 97, 105, 110, 32, 48, 32, 49, 32, 55, 46, 46, 55, 10, 99, 104, 97, 105, 110, 32, 48, 32, 50, 32, 51, 46, 46, 51, 10, 99, 104, 97, 105, 110, 32, 49, 32, 50, 32, 55, 46, 46, 56, 10]⟩)
 (J_law14_alive_11 W R true B135 n134 B160 n159 B189 n188 B218 n217 n112 x107 l108 n83 t80 n52 t49)
 (J_law14_alive_11 W R (n25 != 0) B135 n134 B160 n159 B189 n188 B218 n217 n112 x107 l108 n83 t80 n52 t49))
 (fun e195 => R (.panicked e195)))
 (fun e162 => R (.panicked e162)))
 (fun e137 => R (.panicked e137)))
 (fun e114 => R (.panicked e114)))
 (fun e103 => R (.panicked e103)))
 (fun e85 => R (.panicked e85)))
 (fun e76 => R (.panicked e76)))
 (fun e54 => R (.panicked e54)))
 (fun e45 => R (.panicked e45)))
 (fun e27 => R (.panicked e27)))
 (fun e18 => R (.panicked e18)))
 (fun e2 => R (.panicked e2))
theorem does_law14_alive (W : World) (R : Ending → Hp → Prop) (s : Hp) (h : T_law14_alive W R s) : Does Pg W F_law14_alive #[] s R :=
  does_of_vfun Pg W an_13 Tryz.func13 rfl (by kernel_rfl) (Eq.mpr (by kernel_rfl) h)
end Go.Proofs.YtcjgbanpkmpekaaGreatDoor.G

/- Results that the document fixes. -/
set_option linter.unusedVariables false
set_option linter.unusedSimpArgs false
set_option maxRecDepth 20000
namespace Go.Proofs.YtcjgbanpkmpekaaGreatDoor.G
open Go.V
section
variable {W : World} {K : VK} {E : List PanicEntry → Hp → Prop} {s : Hp}
theorem und_50 : Pg.underlying 50 = some (.slice 5) := by kernel_rfl
theorem und_5 : Pg.underlying 5 = some (.int .u8) := by kernel_rfl
theorem cell_frz {s : Hp} {a b : Addr} {n : Nat} : cellAt (frz s a n) b = cellAt s b := by
  by_cases h : n = 0 ∨ b.block ≠ a.block
  · rw [cell_of_block]
    rw [frz_get, if_pos h]
  · have e : (frz s a n)[b.block]? = s[b.block]?.map (frzO a n) := by rw [frz_get, if_neg h]
    unfold cellAt
    rw [e]
    cases hb : s[b.block]? with
    | none => rfl
    | some o => cases o <;> rfl
theorem frz_kp {s : Hp} {a : Addr} {n : Nat} : Kp (· = a.block) s (frz s a n) := ⟨by rw [frz_size]; exact Nat.le_refl _, fun b _ hb => by rw [frz_get, if_pos (.inr hb)]⟩
/-- Bytes of a text, as a slice: the block is marked. -/
theorem cnv_50 {x : Addr} {l c n : Nat} {ty : TypeId} {K : Option Addr → Nat → Nat → Hp → Prop} (hs : shapeAt s x.block = some (ty, n)) (h : ∀ s', Kp (· = x.block) s s' → (∀ b, cellAt s' b = cellAt s b) → K (some x) l c s') : SLV Pg (convert 50 50 (.slice (some x) l c)) K s := by
  unfold SLV convert
  rw [sp_bind, sp_und und_50, sp_bind, sp_und und_50]
  simp only [sp_bind]
  rw [sp_und und_5]
  simp only [beq_self_eq_true, sp_bind]
  show sp Pg (markStringish x) _ _ s
  unfold markStringish
  rw [sp_bind]
  show sp Pg (match shapeAt s x.block with | some (_, n) => freeze { block := x.block, off := n } 1 | _ => pure ()) _ _ s
  rw [hs]
  exact ⟨_, _, _, rfl, h _ frz_kp fun b => cell_frz⟩
theorem nw5 {P : Program} {t : TypeId} {z : List Value} {v0 v1 v2 v3 v4 : Value} {K : Nat → Hp → Prop} (hz : zc P t = z) (hl : z.length = 5) (hv : ∀ v ∈ [v0, v1, v2, v3, v4], oneCell v = true)
    (h : ∀ s', Ext s s' → s'.size = s.size + 1 → (∀ i (h : i < 5), Own s' ⟨s.size, i, none⟩ ([v0, v1, v2, v3, v4][i]'h)) → K s.size s') :
    NEWZ P t (fun B => WR (Addr.add ⟨B, 0, none⟩ 0) v0 (WR (Addr.add ⟨B, 0, none⟩ 1) v1 (WR (Addr.add ⟨B, 0, none⟩ 2) v2 (WR (Addr.add ⟨B, 0, none⟩ 3) v3 (WR (Addr.add ⟨B, 0, none⟩ 4) v4 (K B)))))) s :=
  nwN (vs := [v0, v1, v2, v3, v4]) hz (by rw [hl]; rfl) hv fun s' e z o => h s' e z o
theorem seq_ne (a : BL) : (!seqB (bs a) (bs a)) = false := by rw [seq_bs']; simp
theorem wr_ex {ok : Bool} {t : BL} (h : ok = true) : wrT ok t = .tuple #[.string (bs t), .int .i64 0] := by subst h; rfl
theorem pa_ex {α : Type} {step : α → List BL → Option α} {z : α} {ok : α → Bool} {W : α → List (List BL)} {doc : List (List BL) → Option α} (k : KindT step z ok W doc) {p q : α} (h : ok p = true) (hq : parseT step z (txt (W p)) = some q) : p = q := by
  rw [parse_txt (k.good p h) (k.ne p), k.run p h] at hq
  exact Option.some.inj hq
theorem pa_no {α : Type} {step : α → List BL → Option α} {z : α} {ok : α → Bool} {W : α → List (List BL)} {doc : List (List BL) → Option α} (k : KindT step z ok W doc) {p : α} (h : ok p = true) : parseT step z (txt (W p)) ≠ none := by
  rw [parse_txt (k.good p h) (k.ne p), k.run p h]
  simp
theorem sm_exPg : (∀ p, parseT pgStep pg0 tPg = some p → sml (pgN p)) ∧ (parseT pgStep pg0 tPg = none → Big) := by
  rw [← tx_exPg]
  refine ⟨fun p h => ?_, fun h => absurd h (pa_no kind_pg ok_exPg)⟩
  have e := pa_ex kind_pg ok_exPg h
  subst e
  exact .inr (by decide)
theorem sm_exPn : (∀ p, parseT pnStep pn0 tPn = some p → sml (pnN p)) ∧ (parseT pnStep pn0 tPn = none → Big) := by
  rw [← tx_exPn]
  refine ⟨fun p h => ?_, fun h => absurd h (pa_no kind_pn ok_exPn)⟩
  have e := pa_ex kind_pn ok_exPn h
  subst e
  exact .inr (by decide)
theorem sm_exHr : (∀ p, parseT hrStep hr0 tHr = some p → sml (hrN p)) ∧ (parseT hrStep hr0 tHr = none → Big) := by
  rw [← tx_exHr]
  refine ⟨fun p h => ?_, fun h => absurd h (pa_no kind_hr ok_exHr)⟩
  have e := pa_ex kind_hr ok_exHr h
  subst e
  exact .inr (by decide)
theorem c_alive (he : Env s) (hk : ∀ s', Ext s s' → K (.bool true) s') : CALL Pg W F_law14_alive [] K E s := by
  refine does_law14_alive W _ s ?_
  unfold T_law14_alive
  refine c_exPegs fun s1 x1 y1 c1 d1 e1 hx1 hy1 => ?_
  try simp only [TUP_mk, AGG_mk, HD_mk, NL_mk, TYI_mk, TYB_mk, TYP_mk, TYL_mk, TYS_mk, TYM_mk, SO_mk, NX_mk, endK_mk, endK_mk', add_0]
  refine c_WritePegs (p := exPg) (he.ext e1) hx1 hy1 (gdPg.g (k := 2000) ⟨by unfold rp exPg; decide, by unfold rp4 rp exPg; decide, by unfold rp4 rp exPg; decide, by decide, by decide⟩ (by decide) (.inr (by decide))) fun s2 e2 => ?_
  rw [wr_ex ok_exPg, tx_exPg]
  try simp only [TUP_mk, AGG_mk, HD_mk, NL_mk, TYI_mk, TYB_mk, TYP_mk, TYL_mk, TYS_mk, TYM_mk, SO_mk, NX_mk, endK_mk, endK_mk', add_0]
  refine c_exPanels fun s3 x3 y3 w3 c3 d3 f3 e3 hx3 hy3 hw3 => ?_
  try simp only [TUP_mk, AGG_mk, HD_mk, NL_mk, TYI_mk, TYB_mk, TYP_mk, TYL_mk, TYS_mk, TYM_mk, SO_mk, NX_mk, endK_mk, endK_mk', add_0]
  have e03 := (e1.trans e2).trans e3
  refine c_WritePanels (p := exPn) (he.ext e03) hx3 hy3 hw3 (gdPn.g (k := 2000) ⟨by unfold rp exPn; decide, by unfold rp exPn; decide, by unfold rp exPn; decide, by decide, by decide, by decide⟩ (by decide) (.inr (by decide))) fun s4 e4 => ?_
  rw [wr_ex ok_exPn, tx_exPn]
  try simp only [TUP_mk, AGG_mk, HD_mk, NL_mk, TYI_mk, TYB_mk, TYP_mk, TYL_mk, TYS_mk, TYM_mk, SO_mk, NX_mk, endK_mk, endK_mk', add_0]
  refine c_exHearing fun s5 x5 y5 c5 d5 e5 hx5 hy5 => ?_
  try simp only [TUP_mk, AGG_mk, HD_mk, NL_mk, TYI_mk, TYB_mk, TYP_mk, TYL_mk, TYS_mk, TYM_mk, SO_mk, NX_mk, endK_mk, endK_mk', add_0]
  have e05 := e03.trans (e4.trans e5)
  refine c_WriteHearing (p := exHr) (he.ext e05) hx5 hy5 (gdHr.g (k := 2000) ⟨by unfold rp exHr; decide, by unfold rp exHr; decide, by unfold rp exHr; decide, by unfold rp exHr; decide, by unfold rp exHr; decide, by decide, by decide⟩ (by decide) (.inr (by decide))) fun s6 e6 => ?_
  rw [wr_ex ok_exHr, tx_exHr]
  try simp only [TUP_mk, AGG_mk, HD_mk, NL_mk, TYI_mk, TYB_mk, TYP_mk, TYL_mk, TYS_mk, TYM_mk, SO_mk, NX_mk, endK_mk, endK_mk', add_0]
  refine c_exFurrow fun s7 x7 y7 w7 c7 d7 f7 e7 hf7 => ?_
  try simp only [TUP_mk, AGG_mk, HD_mk, NL_mk, TYI_mk, TYB_mk, TYP_mk, TYL_mk, TYS_mk, TYM_mk, SO_mk, NX_mk, endK_mk, endK_mk', add_0]
  have e07 := e05.trans (e6.trans e7)
  refine c_WriteFurrow (f := exFr) hf7 (by decide) (by decide) (by decide) fun s8 v8 e8 hw8 => ?_
  unfold WrF at hw8
  rw [if_pos ok_exFr, by_exFr] at hw8
  obtain ⟨x8, c8, rfl, f8⟩ := hw8
  try simp only [TUP_mk, AGG_mk, HD_mk, NL_mk, TYI_mk, TYB_mk, TYP_mk, TYL_mk, TYS_mk, TYM_mk, SO_mk, NX_mk, endK_mk, endK_mk', add_0]
  have e08 := e07.trans e8
  refine c_ReadPegs (t := tPg) sm_exPg (he.ext e08) fun s9 v9 e9 r9 => ?_
  rw [rd_exPg] at r9 ⊢
  obtain ⟨x9, c9, y9, d9, rfl, f9, g9, _⟩ := r9
  try simp only [TUP_mk, AGG_mk, HD_mk, NL_mk, TYI_mk, TYB_mk, TYP_mk, TYL_mk, TYS_mk, TYM_mk, SO_mk, NX_mk, endK_mk, endK_mk', add_0]
  refine nw3 zc_25 rfl rfl rfl fun t1 h1 z1 p0 p1 p2 => ?_
  have e0t1 := (e08.trans e9).trans h1
  refine c_ReadPanels (t := tPn) sm_exPn (he.ext e0t1) fun s10 v10 e10 r10 => ?_
  rw [rd_exPn] at r10 ⊢
  obtain ⟨x10, c10, y10, d10, w10, b10, rfl, f10, g10, h10, _⟩ := r10
  try simp only [TUP_mk, AGG_mk, HD_mk, NL_mk, TYI_mk, TYB_mk, TYP_mk, TYL_mk, TYS_mk, TYM_mk, SO_mk, NX_mk, endK_mk, endK_mk', add_0]
  refine nw3 zc_29 rfl rfl rfl fun t2 h2 z2 q0 q1 q2 => ?_
  have e0t2 := e0t1.trans (e10.trans h2)
  refine c_ReadHearing (t := tHr) sm_exHr (he.ext e0t2) fun s11 v11 e11 r11 => ?_
  rw [rd_exHr] at r11 ⊢
  obtain ⟨x11, c11, y11, d11, rfl, f11, g11, _⟩ := r11
  try simp only [TUP_mk, AGG_mk, HD_mk, NL_mk, TYI_mk, TYB_mk, TYP_mk, TYL_mk, TYS_mk, TYM_mk, SO_mk, NX_mk, endK_mk, endK_mk', add_0]
  refine nw5 zc_34 rfl (by simp [oneCell]) fun t3 h3 z3 r => ?_
  refine NEW_rule fun t4' h4' z4' b4 sh4 => ?_
  have rowB' : RowAt t4' (some ⟨t3.size, 0, none⟩) (u8s tFr) := row_new b4
  refine cnv_50 (x := ⟨t3.size, 0, none⟩) sh4 fun t4 k4 hc4 => ?_
  have h4 : Ext t3 t4 := ext_kp h4' (Nat.le_refl _) k4
  have rowB : RowAt t4 (some ⟨t3.size, 0, none⟩) (u8s tFr) := fun i hi => by
    obtain ⟨a, ha, hb⟩ := rowB' i hi
    exact ⟨a, ha, by rw [hc4]; exact hb⟩
  try simp only [TUP_mk, AGG_mk, HD_mk, NL_mk, TYI_mk, TYB_mk, TYP_mk, TYL_mk, TYS_mk, TYM_mk, SO_mk, NX_mk, endK_mk, endK_mk', add_0]
  refine c_ReadFurrow (l := tFr) rowB fun s12 v12 e12 r12 => ?_
  rw [rd_exFr] at r12 ⊢
  obtain ⟨x12, c12, y12, d12, w12, b12, rfl, f12, g12, h12, _⟩ := r12
  try simp only [TUP_mk, AGG_mk, HD_mk, NL_mk, TYI_mk, TYB_mk, TYP_mk, TYL_mk, TYS_mk, TYM_mk, SO_mk, NX_mk, endK_mk, endK_mk', add_0]
  refine nw3 zc_37' rfl rfl rfl fun t5 h5 z5 u0 u1 u2 => ?_
  have e34 := (e11.trans h3).trans (h4.trans (e12.trans h5))
  have e45 := h4.trans (e12.trans h5)
  have e25 := (e10.trans h2).trans e34
  have E5 := e0t2.trans e34
  -- the texts are right
  refine BR_ff (seq_ne tPg) ?_
  unfold J_law14_alive_11
  refine BR_ff rfl ?_
  unfold J_law14_alive_10
  refine BR_ff (seq_ne tPn) ?_
  unfold J_law14_alive_9
  refine BR_ff rfl ?_
  unfold J_law14_alive_8
  refine BR_ff (seq_ne tHr) ?_
  unfold J_law14_alive_7
  refine BR_ff rfl ?_
  refine B2S_bs (f8.row.ext ((e9.trans h1).trans e25)) ?_
  unfold J_law14_alive_6
  refine BR_ff (seq_ne tFr) ?_
  unfold J_law14_alive_5
  refine BR_ff rfl ?_
  refine ⟨_, (e25.own p0).cell, _, _, _, (e25.own p1).cell, _, _, _, (e25.own p2).cell, ?_⟩
  refine c_exPegs fun m1 x y c d n1 hx hy => ?_
  try simp only [TUP_mk, AGG_mk, HD_mk, NL_mk, TYI_mk, TYB_mk, TYP_mk, TYL_mk, TYS_mk, TYM_mk, SO_mk, NX_mk, endK_mk, endK_mk', add_0]
  have en1 := e25.trans n1
  refine ANDS_i ⟨_, (en1.own p0).cell, _, _, _, (en1.own p1).cell, _, _, _, (en1.own p2).cell, rfl⟩ ?_
  refine c_SamePegs (p := exPg) (q := exPg) ((f9.row.ext h1).ext en1) ((g9.row.ext h1).ext en1) hx hy (by decide) (by decide) fun m2 n2 => ?_
  try simp only [TUP_mk, AGG_mk, HD_mk, NL_mk, TYI_mk, TYB_mk, TYP_mk, TYL_mk, TYS_mk, TYM_mk, SO_mk, NX_mk, endK_mk, endK_mk', add_0]
  refine BR_tt (by simp) ?_
  have e3m := e34.trans (n1.trans n2)
  unfold J_law14_alive_4
  refine BR_tt rfl ?_
  refine ⟨_, _, _, (e3m.own q0).cell, _, _, _, (e3m.own q1).cell, _, _, _, (e3m.own q2).cell, ?_⟩
  refine c_exPanels fun m3 x y w c d e n3 hx hy hw => ?_
  try simp only [TUP_mk, AGG_mk, HD_mk, NL_mk, TYI_mk, TYB_mk, TYP_mk, TYL_mk, TYS_mk, TYM_mk, SO_mk, NX_mk, endK_mk, endK_mk', add_0]
  have e3n := e3m.trans n3
  refine ANDS_i ⟨_, _, _, (e3n.own q0).cell, _, _, _, (e3n.own q1).cell, _, _, _, (e3n.own q2).cell, rfl⟩ ?_
  refine c_SamePanels (p := exPn) (q := exPn) ((f10.row.ext h2).ext e3n) ((g10.row.ext h2).ext e3n) ((h10.row.ext h2).ext e3n) hx hy hw (by decide) (by decide) (by decide) fun m4 n4 => ?_
  try simp only [TUP_mk, AGG_mk, HD_mk, NL_mk, TYI_mk, TYB_mk, TYP_mk, TYL_mk, TYS_mk, TYM_mk, SO_mk, NX_mk, endK_mk, endK_mk', add_0]
  rw [show decide True = true from rfl]
  unfold J_law14_alive_3
  refine BR_tt rfl ?_
  have e4m := e45.trans ((n1.trans n2).trans (n3.trans n4))
  unfold J_law14_alive_2
  refine BR_tt rfl ?_
  refine ⟨_, (e4m.own (r 0 (by omega))).cell, _, (e4m.own (r 1 (by omega))).cell, _, (e4m.own (r 2 (by omega))).cell, _, _, _, (e4m.own (r 3 (by omega))).cell, _, _, _, (e4m.own (r 4 (by omega))).cell, ?_⟩
  refine c_exHearing fun m5 x y c d n5 hx hy => ?_
  try simp only [TUP_mk, AGG_mk, HD_mk, NL_mk, TYI_mk, TYB_mk, TYP_mk, TYL_mk, TYS_mk, TYM_mk, SO_mk, NX_mk, endK_mk, endK_mk', add_0]
  have e4n := e4m.trans n5
  refine ANDS_i ⟨_, (e4n.own (r 0 (by omega))).cell, _, (e4n.own (r 1 (by omega))).cell, _, (e4n.own (r 2 (by omega))).cell, _, _, _, (e4n.own (r 3 (by omega))).cell, _, _, _, (e4n.own (r 4 (by omega))).cell, rfl⟩ ?_
  refine c_SameHearing (p := exHr) (q := exHr) ((f11.row.ext h3).ext e4n) ((g11.row.ext h3).ext e4n) hx hy (by decide) (by decide) fun m6 n6 => ?_
  try simp only [TUP_mk, AGG_mk, HD_mk, NL_mk, TYI_mk, TYB_mk, TYP_mk, TYL_mk, TYS_mk, TYM_mk, SO_mk, NX_mk, endK_mk, endK_mk', add_0]
  rw [show decide True = true from rfl]
  unfold J_law14_alive_1
  refine BR_tt rfl ?_
  have e5m := ((n1.trans n2).trans (n3.trans n4)).trans (n5.trans n6)
  unfold J_law14_alive_0
  refine BR_tt rfl ?_
  refine ⟨_, _, _, (e5m.own u0).cell, _, _, _, (e5m.own u1).cell, _, _, _, (e5m.own u2).cell, ?_⟩
  refine c_exFurrow fun m7 x y w c d e n7 hf => ?_
  try simp only [TUP_mk, AGG_mk, HD_mk, NL_mk, TYI_mk, TYB_mk, TYP_mk, TYL_mk, TYS_mk, TYM_mk, SO_mk, NX_mk, endK_mk, endK_mk', add_0]
  have e5n := e5m.trans n7
  refine ANDS_i ⟨_, _, _, (e5n.own u0).cell, _, _, _, (e5n.own u1).cell, _, _, _, (e5n.own u2).cell, rfl⟩ ?_
  refine c_SameFurrow (p := exFr) (q := exFr) ⟨(f12.row.ext h5).ext e5n, (g12.row.ext h5).ext e5n, (h12.row.ext h5).ext e5n⟩ hf (by decide) (by decide) (by decide) fun m8 n8 => ?_
  try simp only [TUP_mk, AGG_mk, HD_mk, NL_mk, TYI_mk, TYB_mk, TYP_mk, TYL_mk, TYS_mk, TYM_mk, SO_mk, NX_mk, endK_mk, endK_mk', add_0]
  refine BR_tt (by simp) ?_
  try simp only [TUP_mk, AGG_mk, HD_mk, NL_mk, TYI_mk, TYB_mk, TYP_mk, TYL_mk, TYS_mk, TYM_mk, SO_mk, NX_mk, endK_mk, endK_mk', add_0]
  exact hk m8 ((E5.trans e5n).trans n8)
end
end Go.Proofs.YtcjgbanpkmpekaaGreatDoor.G

/- Furrows' bytes that are changed. -/
set_option linter.unusedVariables false
set_option linter.unusedSimpArgs false
namespace Go.Proofs.YtcjgbanpkmpekaaGreatDoor.G
def wsum : Nat → BL → Int
  | _, [] => 0
  | i, x :: r => ((i : Int) + 1) * (x.toNat : Int) + wsum (i + 1) r
theorem chkF_sum : ∀ (l : BL) (i : Nat) (n : Int), chkF i n l % 65521 = (n + wsum i l) % 65521
  | [], i, n => by simp [chkF, wsum]
  | x :: r, i, n => by
    simp only [chkF, wsum]
    rw [chkF_sum r]
    generalize ((i : Int) + 1) * (x.toNat : Int) = p
    generalize wsum (i + 1) r = q
    omega
theorem chk_sum (l : BL) : chk l = wsum 0 l % 65521 := by
  have h1 := chk_rg l
  have h2 := chkF_sum l 0 0
  unfold chk at h1 ⊢
  omega
theorem wsum_set : ∀ (l : BL) (i k : Nat) (y : UInt8) (h : k < l.length), wsum i (l.set k y) = wsum i l + ((i : Int) + k + 1) * ((y.toNat : Int) - (l[k].toNat : Int))
  | x :: r, i, 0, y, h => by
    simp only [List.set_cons_zero, wsum, List.getElem_cons_zero]
    rw [Int.mul_sub]
    simp
    omega
  | x :: r, i, k + 1, y, h => by
    simp only [List.set_cons_succ, wsum, List.getElem_cons_succ]
    rw [wsum_set r (i + 1) k y (by simpa using h)]
    have e : ((i + 1 : Nat) : Int) + k + 1 = (i : Int) + ((k + 1 : Nat) : Int) + 1 := by omega
    rw [e]
    omega
theorem ck2_inj {a b : Int} (ha : 0 ≤ a ∧ a < 65521) (hb : 0 ≤ b ∧ b < 65521) (h : ck2 a = ck2 b) : a = b := by
  unfold ck2 at h
  simp only [List.cons.injEq, and_true] at h
  have h1 := congrArg (fun x : UInt8 => (x.toNat : Int)) h.1
  have h2 := congrArg (fun x : UInt8 => (x.toNat : Int)) h.2
  rw [toB_nat (by omega) (by omega), toB_nat (by omega) (by omega)] at h1 h2
  omega
theorem readF_ref {l : BL} (h2 : 2 ≤ l.length) (hl : l.length ≤ 2000) (h : withC (l.take (l.length - 2)) ≠ l) : readF l = (fr0, 11) := by
  unfold readF
  rw [if_neg (by omega), if_pos (.inr h)]
theorem readF_wc {l : BL} (hl : l.length ≤ 1998) : (∃ f, okFr f = true ∧ readF (withC l) = (f, 0)) ∨ readF (withC l) = (fr0, 8) := by
  have h1 := withC_len l
  have h2 := withC_take l
  rcases readF_cases (withC l) with h | ⟨h, h3 | h3 | h3⟩
  · exact .inl h
  · exfalso
    unfold readF at h3
    rw [if_neg (by omega), if_neg (by rw [h2]; simp; omega)] at h3
    split at h3
    · split at h3 <;> simp at h3
    · simp at h3
  · exact .inr (Prod.ext h h3)
  · exfalso
    unfold readF at h3
    rw [if_neg (by omega), if_neg (by rw [h2]; simp; omega)] at h3
    split at h3
    · split at h3 <;> simp at h3
    · simp at h3
theorem mul_small {k d : Int} (hk : 1 ≤ k ∧ k ≤ 100) (hd : -255 ≤ d ∧ d ≤ 255) (h : (k * d) % 65521 = 0) : d = 0 := by
  have h1 : k * d ≤ 100 * 255 := by
    rcases Int.le_total 0 d with h0 | h0
    · exact Int.mul_le_mul hk.2 hd.2 h0 (by omega)
    · have := Int.mul_nonpos_of_nonneg_of_nonpos (show 0 ≤ k by omega) h0; omega
  have h2 : -(100 * 255) ≤ k * d := by
    rcases Int.le_total 0 d with h0 | h0
    · have := Int.mul_nonneg (show 0 ≤ k by omega) h0; omega
    · have h3 : k * (-d) ≤ 100 * 255 := Int.mul_le_mul hk.2 (by omega) (by omega) (by omega)
      rw [Int.mul_neg] at h3; omega
  have h3 : k * d = 0 := by omega
  rcases Int.mul_eq_zero.1 h3 with h4 | h4
  · omega
  · exact h4
theorem u8_ne {x y : UInt8} (h : x ≠ y) : (x.toNat : Int) - (y.toNat : Int) ≠ 0 := fun h' => h (UInt8.toNat_inj.1 (by omega))
theorem u8_b (x y : UInt8) : -255 ≤ (x.toNat : Int) - (y.toNat : Int) ∧ (x.toNat : Int) - (y.toNat : Int) ≤ 255 := by
  have := x.toNat_lt; have := y.toNat_lt; omega
/-- A byte that has become another one. -/
theorem changed_ref {b : BL} {k : Nat} {y : UInt8} (hb : b.length ≤ 90) (hk : k < (withC b).length) (hy : y ≠ (withC b)[k]) : readF ((withC b).set k y) = (fr0, 11) := by
  have hl := withC_len b
  have hset : ((withC b).set k y).length = b.length + 2 := by simp [hl]
  refine readF_ref (by omega) (by omega) ?_
  rw [hset, Nat.add_sub_cancel]
  intro h
  by_cases hkb : k < b.length
  · have e : (withC b).set k y = b.set k y ++ ck2 (chk b) := by unfold withC; rw [List.set_append_left _ _ hkb]
    rw [e] at h
    rw [List.take_left' (by simp)] at h
    unfold withC at h
    have h' := ck2_inj (chk_rg _) (chk_rg _) (List.append_cancel_left h)
    rw [chk_sum, chk_sum, wsum_set b 0 k y hkb] at h'
    have hg : (withC b)[k] = b[k] := List.getElem_append_left hkb
    rw [hg] at hy
    have hb' := u8_b y b[k]
    generalize hd : (y.toNat : Int) - (b[k].toNat : Int) = d at h' hb'
    have h0 := mul_small (k := ((0 : Nat) : Int) + k + 1) (by omega) hb' (by generalize (((0 : Nat) : Int) + k + 1) * d = m at h' ⊢; omega)
    exact u8_ne hy (by rw [hd]; exact h0)
  · have e : ((withC b).set k y).take b.length = b := by
      rw [List.take_set_of_le (by omega)]
      unfold withC; rw [List.take_left' rfl]
    rw [e] at h
    have := congrArg (fun l : BL => l[k]?) h
    simp only [List.getElem?_set_self hk] at this
    rw [List.getElem?_eq_getElem hk] at this
    exact hy (Option.some.inj this).symm
/-- Two that have changed their places. -/
theorem turned_ref {b : BL} {k : Nat} (hb : b.length ≤ 90) (hk : k + 1 < b.length) (hy : b[k] ≠ b[k + 1]) : readF (((withC b).set k b[k + 1]).set (k + 1) b[k]) = (fr0, 11) := by
  have hl := withC_len b
  have hset : (((withC b).set k b[k + 1]).set (k + 1) b[k]).length = b.length + 2 := by simp [hl]
  refine readF_ref (by omega) (by omega) ?_
  rw [hset, Nat.add_sub_cancel]
  intro h
  have e : ((withC b).set k b[k + 1]).set (k + 1) b[k] = (b.set k b[k + 1]).set (k + 1) b[k] ++ ck2 (chk b) := by
    unfold withC
    rw [List.set_append_left _ _ (by omega), List.set_append_left _ _ (by simpa using hk)]
  rw [e] at h
  rw [List.take_left' (by simp)] at h
  unfold withC at h
  have h' := ck2_inj (chk_rg _) (chk_rg _) (List.append_cancel_left h)
  rw [chk_sum, chk_sum, wsum_set _ 0 (k + 1) _ (by simpa using hk), wsum_set b 0 k _ (by omega)] at h'
  have hg : (b.set k b[k + 1])[k + 1]'(by simpa using hk) = b[k + 1] := by simp
  rw [hg] at h'
  have hb' := u8_b b[k] b[k + 1]
  have hd := u8_ne hy
  have e2 : (((0 : Nat) : Int) + k + 1) * ((b[k + 1].toNat : Int) - (b[k].toNat : Int)) = -((((0 : Nat) : Int) + k + 1) * ((b[k].toNat : Int) - (b[k + 1].toNat : Int))) := by rw [← Int.mul_neg]; congr 1; omega
  have e3 : (((0 : Nat) : Int) + ((k + 1 : Nat) : Int) + 1) * ((b[k].toNat : Int) - (b[k + 1].toNat : Int)) = (((0 : Nat) : Int) + k + 1) * ((b[k].toNat : Int) - (b[k + 1].toNat : Int)) + ((b[k].toNat : Int) - (b[k + 1].toNat : Int)) := by
    have : ((0 : Nat) : Int) + ((k + 1 : Nat) : Int) + 1 = (((0 : Nat) : Int) + k + 1) + 1 := by omega
    rw [this, Int.add_mul, Int.one_mul]
  rw [e2, e3] at h'
  omega
theorem frB_inj {f g : FrS} (hf : okFr f = true) (hg : okFr g = true) (h : withC (frB f) = withC (frB g)) : f = g := by
  have h1 := readF_w hf
  rw [h, readF_w hg] at h1
  cases h1
  rfl
end Go.Proofs.YtcjgbanpkmpekaaGreatDoor.G

/- More of the functions' shallow texts, by gen.py. -/
set_option linter.unusedVariables false
set_option maxRecDepth 100000
namespace Go.Proofs.YtcjgbanpkmpekaaGreatDoor.G
open Go.V
def an_8 : Nat → Ann := fun b => match b with
 | _ => {}
abbrev rv_8 : List ResultVar := [.tmp 6]
abbrev rs_8 : List Nat := [189, 6]
def J_law14_BookChanged_0 (W : World) (R : Ending → Hp → Prop) (b163 : Bool) (b161 : Bool) (n157 : Int) : Hp → Prop :=
 BR b163
 (BR (!b161)
 (CALL Pg W F_law14_alive []
 (fun v164 => TYB v164 fun b166 =>
 R (.returned (.bool b166)))
 (fun e165 => R (.panicked e165)))
 (BR (n157 == 0)
 (CALL Pg W F_law14_alive []
 (fun v167 => TYB v167 fun b169 =>
 R (.returned (.bool b169)))
 (fun e168 => R (.panicked e168)))
 (R (.returned (.bool false)))))
 (R (.returned (.bool false)))
def J_law14_BookChanged_1 (W : World) (R : Ending → Hp → Prop) (b162 : Bool) (n157 : Int) (b161 : Bool) (B158 : Nat) (B12 : Nat) : Hp → Prop :=
 BR b162
 (BR (n157 != 0)
 (J_law14_BookChanged_0 W R true b161 n157)
 (RDL (Addr.add ⟨B158, 0, none⟩ 0) fun x170 l171 c172 =>
 RDL (Addr.add ⟨B158, 0, none⟩ 1) fun x173 l174 c175 =>
 RDL (Addr.add ⟨B158, 0, none⟩ 2) fun x176 l177 c178 =>
 RDL (Addr.add ⟨B12, 0, none⟩ 0) fun x179 l180 c181 =>
 RDL (Addr.add ⟨B12, 0, none⟩ 1) fun x182 l183 c184 =>
 RDL (Addr.add ⟨B12, 0, none⟩ 2) fun x185 l186 c187 =>
 CALL Pg W F_ref14_SameFurrow [(.agg #[(.slice x170 l171 c172), (.slice x173 l174 c175), (.slice x176 l177 c178)]), (.agg #[(.slice x179 l180 c181), (.slice x182 l183 c184), (.slice x185 l186 c187)])]
 (fun v188 => TYB v188 fun b190 =>
 J_law14_BookChanged_0 W R (b190 == b161) b161 n157)
 (fun e189 => R (.panicked e189))))
 (J_law14_BookChanged_0 W R false b161 n157)
def J_law14_BookChanged_2 (W : World) (R : Ending → Hp → Prop) (b125 : Bool) (x53 : Option Addr) (c55 : Nat) (l43 : Nat) (l54 : Nat) (x42 : Option Addr) (c44 : Nat) (B12 : Nat) : Hp → Prop :=
 BR b125
 (R (.returned (.bool false)))
 (SLS x53 c55 0 (IntKind.wrap .i64 ((↑l43 : Int) - 2)) 1 fun x126 l127 c128 =>
 CALL Pg W F_ref14_Check [(.slice x126 l127 c128)]
 (fun v129 => TYI .i64 v129 fun n131 =>
 IXS x53 l54 (IntKind.wrap .i64 ((↑l43 : Int) - 2)) 1 fun a132 =>
 WR (Addr.add a132 0) (.int .u8 (IntKind.wrap .u8 (IntKind.wrap .i64 (Int.tdiv n131 256)))) <|
 IXS x53 l54 (IntKind.wrap .i64 ((↑l43 : Int) - 1)) 1 fun a133 =>
 WR (Addr.add a133 0) (.int .u8 (IntKind.wrap .u8 (Int.tmod n131 256))) <|
 CALL Pg W F_book_ReadFurrow [(.slice x53 l54 c55)]
 (fun v134 => TUP v134 fun q136 => HD q136 fun v137 r138 => AGG v137 fun q139 => HD q139 fun v140 r141 => TYL v140 fun x142 l143 c144 =>
 HD r141 fun v145 r146 => TYL v145 fun x147 l148 c149 =>
 HD r146 fun v150 r151 => TYL v150 fun x152 l153 c154 =>
 NL r151 <|
 HD r138 fun v155 r156 => TYI .i64 v155 fun n157 =>
 NL r156 <|
 NEWZ Pg 37 fun B158 =>
 WR (Addr.add ⟨B158, 0, none⟩ 0) (.slice x142 l143 c144) <|
 WR (Addr.add ⟨B158, 0, none⟩ 1) (.slice x147 l148 c149) <|
 WR (Addr.add ⟨B158, 0, none⟩ 2) (.slice x152 l153 c154) <|
 CALL Pg W F_ref14_SameBytes [(.slice x53 l54 c55), (.slice x42 l43 c44)]
 (fun v159 => TYB v159 fun b161 =>
 BR (n157 == 0)
 (J_law14_BookChanged_1 W R true n157 b161 B158 B12)
 (J_law14_BookChanged_1 W R (n157 == 8) n157 b161 B158 B12))
 (fun e160 => R (.panicked e160)))
 (fun e135 => R (.panicked e135)))
 (fun e130 => R (.panicked e130)))
def J_law14_BookChanged_3 (W : World) (R : Ending → Hp → Prop) (b124 : Bool) (x53 : Option Addr) (c55 : Nat) (l43 : Nat) (l54 : Nat) (x42 : Option Addr) (c44 : Nat) (B12 : Nat) (x57 : Option Addr) (l58 : Nat) (n10 : Int) (n117 : Int) (B118 : Nat) : Hp → Prop :=
 BR b124
 (J_law14_BookChanged_2 W R true x53 c55 l43 l54 x42 c44 B12)
 (IXS x57 l58 (Int.tmod (IntKind.wrap .i64 n10) (IntKind.wrap .i64 ((↑l43 : Int) - 3))) 1 fun a191 =>
 RDI .u8 a191 fun n192 =>
 IXS x57 l58 (IntKind.wrap .i64 ((Int.tmod (IntKind.wrap .i64 n10) (IntKind.wrap .i64 ((↑l43 : Int) - 3))) + 1)) 1 fun a193 =>
 RDI .u8 a193 fun n194 =>
 BR (n192 != n194)
 (BR (n117 != 11)
 (J_law14_BookChanged_2 W R true x53 c55 l43 l54 x42 c44 B12)
 (RDL (Addr.add ⟨B118, 0, none⟩ 0) fun x195 l196 c197 =>
 J_law14_BookChanged_2 W R (decide ((↑l196 : Int) > 0)) x53 c55 l43 l54 x42 c44 B12))
 (J_law14_BookChanged_2 W R false x53 c55 l43 l54 x42 c44 B12))
def J_law14_BookChanged_4 (W : World) (R : Ending → Hp → Prop) (b48 : Bool) (n47 : Int) (l43 : Nat) (x42 : Option Addr) (n10 : Int) (n11 : Int) (c44 : Nat) (B12 : Nat) : Hp → Prop :=
 BR b48
 (BR (n47 == 1)
 (BR ((↑l43 : Int) == 0)
 (CALL Pg W F_law14_alive []
 (fun v49 => TYB v49 fun b51 =>
 R (.returned (.bool b51)))
 (fun e50 => R (.panicked e50)))
 (R (.returned (.bool false))))
 (R (.returned (.bool false))))
 (NZI (↑l43 : Int) <|
 NZI (IntKind.wrap .i64 ((↑l43 : Int) - 3)) <|
 NEW 5 [] fun B52 =>
 APP Pg 5 1 (some ⟨B52, 0, none⟩) 0 0 x42 l43 fun x53 l54 c55 =>
 NEW 5 [] fun B56 =>
 APP Pg 5 1 (some ⟨B56, 0, none⟩) 0 0 x42 l43 fun x57 l58 c59 =>
 IXS x53 l54 (Int.tmod (IntKind.wrap .i64 n10) (↑l43 : Int)) 1 fun a60 =>
 RDI .u8 a60 fun n61 =>
 IXS x53 l54 (Int.tmod (IntKind.wrap .i64 n10) (↑l43 : Int)) 1 fun a62 =>
 WR (Addr.add a62 0) (.int .u8 (IntKind.wrap .u8 (n61 + n11))) <|
 IXS x57 l58 (IntKind.wrap .i64 ((Int.tmod (IntKind.wrap .i64 n10) (IntKind.wrap .i64 ((↑l43 : Int) - 3))) + 1)) 1 fun a63 =>
 RDI .u8 a63 fun n64 =>
 IXS x57 l58 (Int.tmod (IntKind.wrap .i64 n10) (IntKind.wrap .i64 ((↑l43 : Int) - 3))) 1 fun a65 =>
 RDI .u8 a65 fun n66 =>
 IXS x57 l58 (Int.tmod (IntKind.wrap .i64 n10) (IntKind.wrap .i64 ((↑l43 : Int) - 3))) 1 fun a67 =>
 WR (Addr.add a67 0) (.int .u8 n64) <|
 IXS x57 l58 (IntKind.wrap .i64 ((Int.tmod (IntKind.wrap .i64 n10) (IntKind.wrap .i64 ((↑l43 : Int) - 3))) + 1)) 1 fun a68 =>
 WR (Addr.add a68 0) (.int .u8 n66) <|
 CALL Pg W F_book_ReadFurrow [(.slice x53 l54 c55)]
 (fun v69 => TUP v69 fun q71 => HD q71 fun v72 r73 => AGG v72 fun q74 => HD q74 fun v75 r76 => TYL v75 fun x77 l78 c79 =>
 HD r76 fun v80 r81 => TYL v80 fun x82 l83 c84 =>
 HD r81 fun v85 r86 => TYL v85 fun x87 l88 c89 =>
 NL r86 <|
 HD r73 fun v90 r91 => TYI .i64 v90 fun n92 =>
 NL r91 <|
 NEWZ Pg 37 fun B93 =>
 WR (Addr.add ⟨B93, 0, none⟩ 0) (.slice x77 l78 c79) <|
 WR (Addr.add ⟨B93, 0, none⟩ 1) (.slice x82 l83 c84) <|
 WR (Addr.add ⟨B93, 0, none⟩ 2) (.slice x87 l88 c89) <|
 CALL Pg W F_book_ReadFurrow [(.slice x57 l58 c59)]
 (fun v94 => TUP v94 fun q96 => HD q96 fun v97 r98 => AGG v97 fun q99 => HD q99 fun v100 r101 => TYL v100 fun x102 l103 c104 =>
 HD r101 fun v105 r106 => TYL v105 fun x107 l108 c109 =>
 HD r106 fun v110 r111 => TYL v110 fun x112 l113 c114 =>
 NL r111 <|
 HD r98 fun v115 r116 => TYI .i64 v115 fun n117 =>
 NL r116 <|
 NEWZ Pg 37 fun B118 =>
 WR (Addr.add ⟨B118, 0, none⟩ 0) (.slice x102 l103 c104) <|
 WR (Addr.add ⟨B118, 0, none⟩ 1) (.slice x107 l108 c109) <|
 WR (Addr.add ⟨B118, 0, none⟩ 2) (.slice x112 l113 c114) <|
 BR (n11 != 0)
 (BR (n92 != 11)
 (J_law14_BookChanged_3 W R true x53 c55 l43 l54 x42 c44 B12 x57 l58 n10 n117 B118)
 (RDL (Addr.add ⟨B93, 0, none⟩ 0) fun x198 l199 c200 =>
 J_law14_BookChanged_3 W R (decide ((↑l199 : Int) > 0)) x53 c55 l43 l54 x42 c44 B12 x57 l58 n10 n117 B118))
 (J_law14_BookChanged_3 W R false x53 c55 l43 l54 x42 c44 B12 x57 l58 n10 n117 B118))
 (fun e95 => R (.panicked e95)))
 (fun e70 => R (.panicked e70)))
def T_law14_BookChanged (W : World) (x1 : Option Addr) (l2 : Nat) (c3 : Nat) (x4 : Option Addr) (l5 : Nat) (c6 : Nat) (x7 : Option Addr) (l8 : Nat) (c9 : Nat) (n10 : Int) (n11 : Int) (R : Ending → Hp → Prop) : Hp → Prop :=
 NEW 37 [(.slice x1 l2 c3), (.slice x4 l5 c6), (.slice x7 l8 c9)] fun B12 =>
 RDL (Addr.add ⟨B12, 0, none⟩ 0) fun x13 l14 c15 =>
 RDL (Addr.add ⟨B12, 0, none⟩ 1) fun x16 l17 c18 =>
 RDL (Addr.add ⟨B12, 0, none⟩ 2) fun x19 l20 c21 =>
 CALL Pg W F_law14_long [(.agg #[(.int .i64 0), (.slice none 0 0), (.slice none 0 0)]), (.agg #[(.slice none 0 0), (.slice none 0 0), (.slice none 0 0)]), (.agg #[(.int .i64 0), (.int .i64 0), (.int .i64 0), (.slice none 0 0), (.slice none 0 0)]), (.agg #[(.slice x13 l14 c15), (.slice x16 l17 c18), (.slice x19 l20 c21)])]
 (fun v22 => TYB v22 fun b24 =>
 BR b24
 (CALL Pg W F_law14_alive []
 (fun v25 => TYB v25 fun b27 =>
 R (.returned (.bool b27)))
 (fun e26 => R (.panicked e26)))
 (RDL (Addr.add ⟨B12, 0, none⟩ 0) fun x28 l29 c30 =>
 RDL (Addr.add ⟨B12, 0, none⟩ 1) fun x31 l32 c33 =>
 RDL (Addr.add ⟨B12, 0, none⟩ 2) fun x34 l35 c36 =>
 CALL Pg W F_book_WriteFurrow [(.agg #[(.slice x28 l29 c30), (.slice x31 l32 c33), (.slice x34 l35 c36)])]
 (fun v37 => TUP v37 fun q39 => HD q39 fun v40 r41 => TYL v40 fun x42 l43 c44 =>
 HD r41 fun v45 r46 => TYI .i64 v45 fun n47 =>
 NL r46 <|
 BR (n47 != 0)
 (J_law14_BookChanged_4 W R true n47 l43 x42 n10 n11 c44 B12)
 (J_law14_BookChanged_4 W R (decide ((↑l43 : Int) < 4)) n47 l43 x42 n10 n11 c44 B12))
 (fun e38 => R (.panicked e38))))
 (fun e23 => R (.panicked e23))
theorem does_law14_BookChanged (W : World) (x1 : Option Addr) (l2 : Nat) (c3 : Nat) (x4 : Option Addr) (l5 : Nat) (c6 : Nat) (x7 : Option Addr) (l8 : Nat) (c9 : Nat) (n10 : Int) (n11 : Int) (R : Ending → Hp → Prop) (s : Hp) (h : T_law14_BookChanged W x1 l2 c3 x4 l5 c6 x7 l8 c9 n10 n11 R s) : Does Pg W F_law14_BookChanged #[(.agg #[(.slice x1 l2 c3), (.slice x4 l5 c6), (.slice x7 l8 c9)]), (.int .u16 n10), (.int .u8 n11)] s R :=
  does_of_vfun Pg W an_8 Tryz.func8 rfl (by kernel_rfl) (Eq.mpr (by kernel_rfl) h)
end Go.Proofs.YtcjgbanpkmpekaaGreatDoor.G

/- More of the functions' shallow texts, by gen.py. -/
set_option linter.unusedVariables false
set_option maxRecDepth 100000
namespace Go.Proofs.YtcjgbanpkmpekaaGreatDoor.G
open Go.V
/-- Of two numbers. -/
def mxI (a b : Int) : Int := if b > a then b else a
def an_12 : Nat → Ann := fun b => match b with
 | _ => {}
abbrev rv_12 : List ResultVar := [.tmp 8]
abbrev rs_12 : List Nat := [41, 8]
def T_law14_long (W : World) (n1 : Int) (x2 : Option Addr) (l3 : Nat) (c4 : Nat) (x5 : Option Addr) (l6 : Nat) (c7 : Nat) (x8 : Option Addr) (l9 : Nat) (c10 : Nat) (x11 : Option Addr) (l12 : Nat) (c13 : Nat) (x14 : Option Addr) (l15 : Nat) (c16 : Nat) (n17 : Int) (n18 : Int) (n19 : Int) (x20 : Option Addr) (l21 : Nat) (c22 : Nat) (x23 : Option Addr) (l24 : Nat) (c25 : Nat) (x26 : Option Addr) (l27 : Nat) (c28 : Nat) (x29 : Option Addr) (l30 : Nat) (c31 : Nat) (x32 : Option Addr) (l33 : Nat) (c34 : Nat) (R : Ending → Hp → Prop) : Hp → Prop :=
 NEW 25 [(.int .i64 n1), (.slice x2 l3 c4), (.slice x5 l6 c7)] fun B35 =>
 NEW 29 [(.slice x8 l9 c10), (.slice x11 l12 c13), (.slice x14 l15 c16)] fun B36 =>
 NEW 34 [(.int .i64 n17), (.int .i64 n18), (.int .i64 n19), (.slice x20 l21 c22), (.slice x23 l24 c25)] fun B37 =>
 NEW 37 [(.slice x26 l27 c28), (.slice x29 l30 c31), (.slice x32 l33 c34)] fun B38 =>
 RDL (Addr.add ⟨B35, 0, none⟩ 1) fun x39 l40 c41 =>
 RDL (Addr.add ⟨B35, 0, none⟩ 2) fun x42 l43 c44 =>
 RDL (Addr.add ⟨B36, 0, none⟩ 0) fun x45 l46 c47 =>
 RDL (Addr.add ⟨B36, 0, none⟩ 1) fun x48 l49 c50 =>
 RDL (Addr.add ⟨B36, 0, none⟩ 2) fun x51 l52 c53 =>
 RDL (Addr.add ⟨B37, 0, none⟩ 3) fun x54 l55 c56 =>
 RDL (Addr.add ⟨B37, 0, none⟩ 4) fun x57 l58 c59 =>
 RDL (Addr.add ⟨B38, 0, none⟩ 0) fun x60 l61 c62 =>
 RDL (Addr.add ⟨B38, 0, none⟩ 1) fun x63 l64 c65 =>
 RDL (Addr.add ⟨B38, 0, none⟩ 2) fun x66 l67 c68 =>
 R (.returned (.bool (decide ((mxI (mxI (mxI (mxI (mxI (mxI (mxI (mxI (mxI (↑l40 : Int) (↑l43 : Int)) (↑l46 : Int)) (↑l49 : Int)) (↑l52 : Int)) (↑l55 : Int)) (↑l58 : Int)) (↑l61 : Int)) (↑l64 : Int)) (↑l67 : Int)) > 50))))
theorem does_law14_long (W : World) (n1 : Int) (x2 : Option Addr) (l3 : Nat) (c4 : Nat) (x5 : Option Addr) (l6 : Nat) (c7 : Nat) (x8 : Option Addr) (l9 : Nat) (c10 : Nat) (x11 : Option Addr) (l12 : Nat) (c13 : Nat) (x14 : Option Addr) (l15 : Nat) (c16 : Nat) (n17 : Int) (n18 : Int) (n19 : Int) (x20 : Option Addr) (l21 : Nat) (c22 : Nat) (x23 : Option Addr) (l24 : Nat) (c25 : Nat) (x26 : Option Addr) (l27 : Nat) (c28 : Nat) (x29 : Option Addr) (l30 : Nat) (c31 : Nat) (x32 : Option Addr) (l33 : Nat) (c34 : Nat) (R : Ending → Hp → Prop) (s : Hp) (h : T_law14_long W n1 x2 l3 c4 x5 l6 c7 x8 l9 c10 x11 l12 c13 x14 l15 c16 n17 n18 n19 x20 l21 c22 x23 l24 c25 x26 l27 c28 x29 l30 c31 x32 l33 c34 R s) : Does Pg W F_law14_long #[(.agg #[(.int .i64 n1), (.slice x2 l3 c4), (.slice x5 l6 c7)]), (.agg #[(.slice x8 l9 c10), (.slice x11 l12 c13), (.slice x14 l15 c16)]), (.agg #[(.int .i64 n17), (.int .i64 n18), (.int .i64 n19), (.slice x20 l21 c22), (.slice x23 l24 c25)]), (.agg #[(.slice x26 l27 c28), (.slice x29 l30 c31), (.slice x32 l33 c34)])] s R :=
  does_of_vfun Pg W an_12 Tryz.func12 rfl (by kernel_rfl) (Eq.mpr (by kernel_rfl) h)
end Go.Proofs.YtcjgbanpkmpekaaGreatDoor.G

/- BookChanged: the walk. -/
set_option linter.unusedVariables false
set_option linter.unusedSimpArgs false
set_option maxRecDepth 20000
namespace Go.Proofs.YtcjgbanpkmpekaaGreatDoor.G
open Go.V
theorem mx_b (a b : Int) : a ≤ mxI a b ∧ b ≤ mxI a b := by
  unfold mxI; split <;> omega
section
variable {W : World} {K : VK} {E : List PanicEntry → Hp → Prop} {s : Hp}
theorem c_long {n1 n17 n18 n19 : Int} {x2 x5 x8 x11 x14 x20 x23 x26 x29 x32 : Option Addr} {l3 c4 l6 c7 l9 c10 l12 c13 l15 c16 l21 c22 l24 c25 l27 c28 l30 c31 l33 c34 : Nat}
    (hk : ∀ s' b, Ext s s' → (b = false → (l3 ≤ 50 ∧ l6 ≤ 50 ∧ l9 ≤ 50 ∧ l12 ≤ 50 ∧ l15 ≤ 50) ∧ l21 ≤ 50 ∧ l24 ≤ 50 ∧ l27 ≤ 50 ∧ l30 ≤ 50 ∧ l33 ≤ 50) → K (.bool b) s') :
    CALL Pg W F_law14_long [(.agg #[(.int .i64 n1), (.slice x2 l3 c4), (.slice x5 l6 c7)]), (.agg #[(.slice x8 l9 c10), (.slice x11 l12 c13), (.slice x14 l15 c16)]), (.agg #[(.int .i64 n17), (.int .i64 n18), (.int .i64 n19), (.slice x20 l21 c22), (.slice x23 l24 c25)]), (.agg #[(.slice x26 l27 c28), (.slice x29 l30 c31), (.slice x32 l33 c34)])] K E s := by
  refine does_law14_long W n1 x2 l3 c4 x5 l6 c7 x8 l9 c10 x11 l12 c13 x14 l15 c16 n17 n18 n19 x20 l21 c22 x23 l24 c25 x26 l27 c28 x29 l30 c31 x32 l33 c34 _ s ?_
  unfold T_law14_long
  refine NEW_rule fun s1 e1 z1 o1 _ => ?_
  refine NEW_rule fun s2 e2 z2 o2 _ => ?_
  refine NEW_rule fun s3 e3 z3 o3 _ => ?_
  refine NEW_rule fun s4 e4 z4 o4 _ => ?_
  have e24 := (e2.trans e3).trans e4
  have e34 := e3.trans e4
  refine ⟨_, _, _, (e24.own (o1 1 _ rfl)).cell, _, _, _, (e24.own (o1 2 _ rfl)).cell, ?_⟩
  refine ⟨_, _, _, (e34.own (o2 0 _ rfl)).cell, _, _, _, (e34.own (o2 1 _ rfl)).cell, _, _, _, (e34.own (o2 2 _ rfl)).cell, ?_⟩
  refine ⟨_, _, _, (e4.own (o3 3 _ rfl)).cell, _, _, _, (e4.own (o3 4 _ rfl)).cell, ?_⟩
  refine ⟨_, _, _, (o4 0 _ rfl).cell, _, _, _, (o4 1 _ rfl).cell, _, _, _, (o4 2 _ rfl).cell, ?_⟩
  refine hk s4 _ ((e1.trans e2).trans e34) fun h => ?_
  rw [decide_eq_false_iff_not] at h
  have h1 := mx_b (l3 : Int) l6
  generalize mxI (l3 : Int) l6 = a1 at h h1
  have h2 := mx_b a1 l9
  generalize mxI a1 l9 = a2 at h h2
  have h3 := mx_b a2 l12
  generalize mxI a2 l12 = a3 at h h3
  have h4 := mx_b a3 l15
  generalize mxI a3 l15 = a4 at h h4
  have h5 := mx_b a4 l21
  generalize mxI a4 l21 = a5 at h h5
  have h6 := mx_b a5 l24
  generalize mxI a5 l24 = a6 at h h6
  have h7 := mx_b a6 l27
  generalize mxI a6 l27 = a7 at h h7
  have h8 := mx_b a7 l30
  generalize mxI a7 l30 = a8 at h h8
  have h9 := mx_b a8 l33
  generalize mxI a8 l33 = a9 at h h9
  omega
end
end Go.Proofs.YtcjgbanpkmpekaaGreatDoor.G

/- BookChanged: the walk. -/
set_option linter.unusedVariables false
set_option linter.unusedSimpArgs false
set_option maxRecDepth 20000
namespace Go.Proofs.YtcjgbanpkmpekaaGreatDoor.G
open Go.V
theorem u8s_set (L : BL) (i : Nat) (y : UInt8) : (u8s L).set i (.int .u8 (y.toNat : Int)) = u8s (L.set i y) := by unfold u8s; rw [List.map_set]
section
variable {W : World} {K : VK} {E : List PanicEntry → Hp → Prop} {s : Hp}
theorem wr_u8 {lo : Nat} {x : Option Addr} {l c i : Nat} {L : BL} {y : UInt8} {n : Int} {K : Hp → Prop} (hf : Fr lo s x l c 1 (u8s L)) (hi : i < l) (hn : n = (y.toNat : Int))
    (h : ∀ s', Kp (fun b => ∃ a, x = some a ∧ a.block = b) s s' → Fr lo s' x l c 1 (u8s (L.set i y)) → K s') : IXS x l (i : Int) 1 (fun a => WR (a.add 0) (.int .u8 n) K) s := by
  have hl : L.length = l := by have := hf.len; rw [u8s_len] at this; omega
  have hiv : i < (u8s L).length := by rw [u8s_len]; omega
  obtain ⟨a, rfl⟩ : ∃ a, x = some a := by obtain ⟨b, hb, _⟩ := hf.row i hiv; exact ⟨b, hb⟩
  refine IXS_nat hi ?_
  rw [addr_add, Nat.add_zero, Nat.mul_one]
  refine WR_own (hf.buf.at hiv) rfl ?_
  subst hn
  refine h _ (Kp.setC (Kp.refl s) (.inl ⟨a, rfl, (add_blk a i).symm⟩)) ⟨?_, ?_, hf.fr, hf.cap⟩
  · rw [← u8s_set]; exact hf.buf.set hiv
  · have := hf.len; rw [u8s_len] at this ⊢; simpa using this
theorem rd_u8 {lo : Nat} {x : Option Addr} {l c i : Nat} {L : BL} {K : Int → Hp → Prop} (hf : Fr lo s x l c 1 (u8s L)) (hi : i < L.length) (h : K (L[i].toNat : Int) s) : IXS x l (i : Int) 1 (fun a => RDI .u8 a K) s := by
  have hl : L.length = l := by have := hf.len; rw [u8s_len] at this; omega
  have hiv : i < (u8s L).length := by rw [u8s_len]; omega
  obtain ⟨a, ha, hc⟩ := hf.row i hiv
  subst ha
  refine IXS_nat (by omega) ?_
  have hv : (u8s L)[i] = .int .u8 (L[i].toNat : Int) := by simp [u8s]
  rw [hv] at hc
  exact ⟨_, hc, h⟩
theorem c_ReadFurrowL {l : BL} {n : Nat} (hn : l.length = n) {x : Option Addr} {c : Nat} (hrow : RowAt s x (u8s l)) (hk : ∀ s' v, Ext s s' → ResF s.size s' (readF l).1 v → K (.tuple #[v, .int .i64 (readF l).2]) s') : CALL Pg W F_book_ReadFurrow [.slice x n c] K E s := by
  subst hn; exact c_ReadFurrow hrow hk
theorem c_CheckL {l : BL} {n : Nat} (hn : l.length = n) {x : Option Addr} {c : Nat} (hrow : RowAt s x (u8s l)) (hl : l.length ≤ 10000) (hk : K (.int .i64 (chk l)) s) : CALL Pg W F_ref14_Check [.slice x n c] K E s := by
  subst hn; exact c_Check hrow hl hk
theorem c_SameBytesL {A B : BL} {n m : Nat} (hn : A.length = n) (hm : B.length = m) {x y : Option Addr} {c d : Nat} (hx : RowAt s x (u8s A)) (hy : RowAt s y (u8s B)) (h : K (.bool (decide (A = B))) s) : CALL Pg W F_ref14_SameBytes [.slice x n c, .slice y m d] K E s := by
  subst hn; subst hm; exact c_SameBytes hx hy h
end
end Go.Proofs.YtcjgbanpkmpekaaGreatDoor.G

/- BookChanged. -/
set_option linter.unusedVariables false
set_option linter.unusedSimpArgs false
set_option maxRecDepth 20000
namespace Go.Proofs.YtcjgbanpkmpekaaGreatDoor.G
open Go.V
theorem wrap8 (n : Int) : IntKind.wrap .u8 n = n % 256 := by
  unfold IntKind.wrap
  simp [IntKind.bits, IntKind.signed, IntKind.min, IntKind.max]
theorem add_u8 (b : UInt8) (k : Nat) : IntKind.wrap .u8 ((b.toNat : Int) + (k : Int)) = ((UInt8.ofNat (b.toNat + k)).toNat : Int) := by
  rw [wrap8]
  simp only [UInt8.toNat_ofNat']
  omega
theorem add_u8_ne {b : UInt8} {k : Nat} (h : k < 256) (h0 : k ≠ 0) : UInt8.ofNat (b.toNat + k) ≠ b := by
  intro e
  have := congrArg UInt8.toNat e
  simp only [UInt8.toNat_ofNat'] at this
  have := b.toNat_lt
  omega
theorem chk_u8a {n : Int} (h : 0 ≤ n ∧ n < 65521) : IntKind.wrap .u8 (IntKind.wrap .i64 (Int.tdiv n 256)) = ((toB (n / 256)).toNat : Int) := by
  have e : Int.tdiv n 256 = n / 256 := Int.tdiv_eq_ediv_of_nonneg h.1
  rw [e, wrap_i64 (by omega) (by omega), wrap_u8 (by omega) (by omega), toB_nat (by omega) (by omega)]
theorem chk_u8b {n : Int} (h : 0 ≤ n ∧ n < 65521) : IntKind.wrap .u8 (Int.tmod n 256) = ((toB (n % 256)).toNat : Int) := by
  have e : Int.tmod n 256 = n % 256 := Int.tmod_eq_emod_of_nonneg h.1
  rw [e, wrap_u8 (by omega) (by omega), toB_nat (by omega) (by omega)]
theorem set_ck {l : BL} {n : Nat} {c : Int} (hl : l.length = n + 2) : (l.set n (toB (c / 256))).set (n + 1) (toB (c % 256)) = l.take n ++ ck2 c := by
  refine List.ext_getElem? fun i => ?_
  unfold ck2
  rw [List.getElem?_set, List.getElem?_set, List.getElem?_append]
  simp only [List.length_take, List.length_set]
  by_cases h1 : i < n
  · rw [if_neg (by omega), if_neg (by omega), if_pos (by omega), List.getElem?_take_of_lt h1]
  · by_cases h2 : i = n
    · subst h2
      rw [if_neg (by omega), if_pos rfl, if_pos (by omega), if_neg (by omega)]
      rw [show i - min i l.length = 0 by omega]
      rfl
    · by_cases h3 : i = n + 1
      · subst h3
        rw [if_pos rfl, if_pos (by omega), if_neg (by omega), show n + 1 - min n l.length = 1 by omega]
        rfl
      · rw [if_neg (by omega), if_neg (by omega), if_neg (by omega), List.getElem?_eq_none (by omega), List.getElem?_eq_none (by simp; omega)]
section
variable {W : World} {K : VK} {E : List PanicEntry → Hp → Prop} {s : Hp}
theorem w_BookChanged {f : FrS} {x y w : Option Addr} {c d e m k : Nat} (he : Env s) (hm : m < 65536) (hk8 : k < 256) (hf : FrC s x y w f)
    (hk : ∀ s', Ext s s' → K (.bool true) s') : CALL Pg W F_law14_BookChanged [.agg #[.slice x f.offs.length c, .slice y f.wids.length d, .slice w f.deps.length e], .int .u16 ((m : Nat) : Int), .int .u8 ((k : Nat) : Int)] K E s := by
  refine does_law14_BookChanged W x f.offs.length c y f.wids.length d w f.deps.length e (m : Int) (k : Int) _ s ?_
  unfold T_law14_BookChanged
  refine NEW_rule fun s1 e1 z1 o _ => ?_
  have o0 := o 0 _ rfl
  have o1 := o 1 _ rfl
  have o2 := o 2 _ rfl
  refine ⟨_, _, _, o0.cell, _, _, _, o1.cell, _, _, _, o2.cell, ?_⟩
  refine c_long fun s2 b e2 hb => ?_
  have e02 := e1.trans e2
  have alive : ∀ s', Ext s s' → CALL Pg W F_law14_alive [] (fun v => TYB v fun b => endK K E (.returned (.bool b))) (fun q => endK K E (.panicked q)) s' := fun s' ex => by
    refine c_alive (he.ext ex) fun s'' e'' => ?_
    try simp only [TUP_mk, AGG_mk, HD_mk, NL_mk, TYI_mk, TYB_mk, TYP_mk, TYL_mk, TYS_mk, TYM_mk, SO_mk, NX_mk, endK_mk, endK_mk', add_0]
    exact hk s'' (ex.trans e'')
  try simp only [TUP_mk, AGG_mk, HD_mk, NL_mk, TYI_mk, TYB_mk, TYP_mk, TYL_mk, TYS_mk, TYM_mk, SO_mk, NX_mk, endK_mk, endK_mk', add_0]
  refine BR_bool (fun ht => ?_) (fun ht => ?_)
  · exact alive s2 e02
  obtain ⟨_, _, _, b1, b2, b3⟩ := hb ht
  refine ⟨_, _, _, (e2.own o0).cell, _, _, _, (e2.own o1).cell, _, _, _, (e2.own o2).cell, ?_⟩
  refine c_WriteFurrow (hf.ext e02) (by omega) (by omega) (by omega) fun s3 v e3 hw => ?_
  unfold WrF at hw
  have e03 := e02.trans e3
  by_cases hok : okFr f = true
  rotate_left
  · rw [if_neg hok] at hw
    subst hw
    try simp only [TUP_mk, AGG_mk, HD_mk, NL_mk, TYI_mk, TYB_mk, TYP_mk, TYL_mk, TYS_mk, TYM_mk, SO_mk, NX_mk, endK_mk, endK_mk', add_0]
    refine BR_tt rfl ?_
    unfold J_law14_BookChanged_4
    refine BR_tt rfl (BR_tt rfl (BR_tt rfl ?_))
    exact alive s3 e03
  rw [if_pos hok] at hw
  obtain ⟨xf, cf, rfl, ff⟩ := hw
  try simp only [TUP_mk, AGG_mk, HD_mk, NL_mk, TYI_mk, TYB_mk, TYP_mk, TYL_mk, TYS_mk, TYM_mk, SO_mk, NX_mk, endK_mk, endK_mk', add_0]
  refine BR_ff rfl ?_
  obtain ⟨B, hB⟩ : ∃ B, B = frB f := ⟨_, rfl⟩
  rw [← hB] at ff ⊢
  have hBl : B.length = 2 + 5 * f.offs.length := by rw [hB]; exact frB_len hok
  have hoff : f.offs.length ≤ 8 := (okFr_b hok).1.1
  have hFl := withC_len B
  obtain ⟨F, hF⟩ : ∃ F, F = withC B := ⟨_, rfl⟩
  rw [← hF] at ff hFl ⊢
  obtain ⟨n, hn⟩ : ∃ n, n = F.length := ⟨_, rfl⟩
  rw [← hn] at ff ⊢
  have hn4 : 4 ≤ n ∧ n ≤ 60 ∧ n = B.length + 2 := by omega
  unfold J_law14_BookChanged_4
  refine BR_ff (decide_eq_false (by omega)) ?_
  have w3 : IntKind.wrap .i64 ((n : Int) - 3) = ((n - 3 : Nat) : Int) := by rw [wrap_i64 (by omega) (by omega)]; omega
  have wm : IntKind.wrap .i64 (m : Int) = (m : Int) := wrap_i64 (by omega) (by omega)
  obtain ⟨A, hA⟩ : ∃ A, A = m % n := ⟨_, rfl⟩
  obtain ⟨T, hT⟩ : ∃ T, T = m % (n - 3) := ⟨_, rfl⟩
  have hAn : A < n := by rw [hA]; exact Nat.mod_lt _ (by omega)
  have hTn : T < n - 3 := by rw [hT]; exact Nat.mod_lt _ (by omega)
  have eA : Int.tmod (m : Int) (n : Int) = (A : Int) := by rw [hA]; rfl
  have eT : Int.tmod (m : Int) ((n - 3 : Nat) : Int) = (T : Int) := by rw [hT]; rfl
  have eT1 : IntKind.wrap .i64 ((T : Int) + 1) = ((T + 1 : Nat) : Int) := by rw [wrap_i64 (by omega) (by omega)]; omega
  refine NZI_pos (by omega) ?_
  rw [w3, wm]
  refine NZI_pos (by omega) ?_
  simp only [eA, eT, eT1]
  refine NEW_rule fun s4 e4 z4 _ _ => ?_
  refine APP_fr (lo := s3.size) (fr_empty (Nat.le_refl _)) e4.1 (ws := u8s F) (ff.row.ext e4) (by rw [u8s_len]; omega) zc_5 rfl (by omega) (u8s_one F) (by omega) (fun s5 x5 c5 k5 hx5 f5 => ?_)
  rw [Nat.zero_add] at f5 ⊢
  rw [List.nil_append] at f5
  have e45 : Ext s3 s5 := kp_nil e4 (fun b ⟨a', h1, h2⟩ => by cases h1; rw [← h2]; exact Nat.le_refl _) k5
  refine NEW_rule fun s6 e6 z6 _ _ => ?_
  have e46 := e45.trans e6
  refine APP_fr (lo := s5.size) (fr_empty (Nat.le_refl _)) e6.1 (ws := u8s F) (ff.row.ext e46) (by rw [u8s_len]; omega) zc_5 rfl (by omega) (u8s_one F) (by omega) (fun s7 x7 c7 k7 hx7 f7 => ?_)
  rw [Nat.zero_add] at f7 ⊢
  rw [List.nil_append] at f7
  have e57 : Ext s5 s7 := kp_nil e6 (fun b ⟨a', h1, h2⟩ => by cases h1; rw [← h2]; exact Nat.le_refl _) k7
  have g5 := f5.ext e57
  have lt5 : ∀ a, x5 = some a → a.block < s5.size := fun a ha => by
    obtain ⟨q, hq, hc⟩ := f5.row 0 (by rw [u8s_len]; omega)
    rw [ha] at hq; cases hq
    have := cell_lt hc
    rwa [add_blk] at this
  have ge7 : ∀ a, x7 = some a → s5.size ≤ a.block := f7.fr
  have hFA : A < F.length := by omega
  refine rd_u8 g5 hFA ?_
  refine wr_u8 (y := UInt8.ofNat (F[A].toNat + k)) g5 hAn (add_u8 _ _) fun s8 k8 f8 => ?_
  have g7 := f7.kp k8 (fun a ha ⟨a', h1, h2⟩ => by have := ge7 a ha; have := lt5 a' h1; omega)
  have hT1 : T + 1 < F.length := by omega
  have hT0 : T < F.length := by omega
  refine rd_u8 g7 hT1 ?_
  refine rd_u8 g7 hT0 ?_
  refine wr_u8 (y := F[T + 1]) g7 (by omega) rfl fun s9 k9 f9 => ?_
  refine wr_u8 (y := F[T]) f9 (by omega) rfl fun s10 k10 f10 => ?_
  have h8 := (f8.kp k9 (fun a ha ⟨a', h1, h2⟩ => by have := ge7 a' h1; have := lt5 a ha; omega)).kp k10 (fun a ha ⟨a', h1, h2⟩ => by have := ge7 a' h1; have := lt5 a ha; omega)
  -- everything that was there at s3 is as it was
  have x37 : Ext s3 s7 := e45.trans e57
  have x310 : Ext s3 s10 := by
    refine kp_nil (kp_nil (kp_nil x37 (fun b ⟨a', h1, h2⟩ => ?_) k8) (fun b ⟨a', h1, h2⟩ => ?_) k9) (fun b ⟨a', h1, h2⟩ => ?_) k10
    · rw [← h2]; exact f5.fr a' h1
    · rw [← h2]; have := ge7 a' h1; have := e45.1; omega
    · rw [← h2]; have := ge7 a' h1; have := e45.1; omega
  obtain ⟨Wr, hWr⟩ : ∃ Wr, Wr = F.set A (UInt8.ofNat (F[A].toNat + k)) := ⟨_, rfl⟩
  obtain ⟨Tu, hTu⟩ : ∃ Tu, Tu = (F.set T F[T + 1]).set (T + 1) F[T] := ⟨_, rfl⟩
  rw [← hWr] at h8
  rw [← hTu] at f10
  have lWr : Wr.length = n := by rw [hWr]; simp; omega
  have lTu : Tu.length = n := by rw [hTu]; simp; omega
  have hWref : k ≠ 0 → readF Wr = (fr0, 11) := fun h0 => by
    subst hWr; subst hF
    exact changed_ref (by omega) hFA (add_u8_ne hk8 h0)
  have hTt : Tu[T]? = some F[T + 1] ∧ Tu[T + 1]? = some F[T] := by
    subst hTu
    refine ⟨?_, ?_⟩
    · rw [List.getElem?_set_ne (by omega), List.getElem?_set_self (by omega)]
    · rw [List.getElem?_set_self (by simp; omega)]
  have hTref : F[T + 1] ≠ F[T] → readF Tu = (fr0, 11) := fun h0 => by
    have g0 : F[T] = B[T]'(by omega) := by subst hF; exact List.getElem_append_left _
    have g1 : F[T + 1] = B[T + 1]'(by omega) := by subst hF; exact List.getElem_append_left _
    have ht := turned_ref (b := B) (k := T) (by omega) (by omega) (fun hh => h0 (by rw [g0, g1, hh]))
    rw [← hF] at ht
    rw [hTu, g0, g1]
    exact ht
  have t0 : ∀ h : T < Tu.length, Tu[T] = F[T + 1] := fun h => by have := hTt.1; rw [List.getElem?_eq_getElem h] at this; exact Option.some.inj this
  have t1 : ∀ h : T + 1 < Tu.length, Tu[T + 1] = F[T] := fun h => by have := hTt.2; rw [List.getElem?_eq_getElem h] at this; exact Option.some.inj this
  have ge5 : ∀ a, x5 = some a → s3.size ≤ a.block := f5.fr
  refine c_ReadFurrowL lWr h8.row fun s11 va e11 ra => ?_
  generalize hRW : readF Wr = RW at ra hWref ⊢
  obtain ⟨xa, ca, ya, da, wa, ea, rfl, _⟩ := ra
  try simp only [TUP_mk, AGG_mk, HD_mk, NL_mk, TYI_mk, TYB_mk, TYP_mk, TYL_mk, TYS_mk, TYM_mk, SO_mk, NX_mk, endK_mk, endK_mk', add_0]
  refine nw3 zc_37' rfl rfl rfl fun s12 e12 z12 p0 p1 p2 => ?_
  have e1012 := e11.trans e12
  refine c_ReadFurrowL lTu (f10.row.ext e1012) fun s13 vb e13 rb => ?_
  generalize hRT : readF Tu = RT at rb hTref ⊢
  obtain ⟨xb, cb, yb, db, wb, eb, rfl, _⟩ := rb
  try simp only [TUP_mk, AGG_mk, HD_mk, NL_mk, TYI_mk, TYB_mk, TYP_mk, TYL_mk, TYS_mk, TYM_mk, SO_mk, NX_mk, endK_mk, endK_mk', add_0]
  refine nw3 zc_37' rfl rfl rfl fun s14 e14 z14 q0 q1 q2 => ?_
  have e1014 := e1012.trans (e13.trans e14)
  have p0' := e13.trans e14
  have x314 := x310.trans e1014
  have x0 : Ext s s14 := e03.trans x314
  have w2 : IntKind.wrap .i64 ((n : Int) - 2) = ((n - 2 : Nat) : Int) := by rw [wrap_i64 (by omega) (by omega)]; omega
  have w1 : IntKind.wrap .i64 ((n : Int) - 1) = ((n - 2 + 1 : Nat) : Int) := by rw [wrap_i64 (by omega) (by omega)]; omega
  have h14 := h8.ext e1014
  have hcap : n ≤ c5 := by have := h14.buf.le; rw [u8s_len] at this; omega
  obtain ⟨P, hP⟩ : ∃ P, P = Wr.take (n - 2) := ⟨_, rfl⟩
  have lP : P.length = n - 2 := by rw [hP, List.length_take]; omega
  -- the end
  have J2 : J_law14_BookChanged_2 W (endK K E) false x5 c5 n n xf cf s.size s14 := by
    unfold J_law14_BookChanged_2
    refine BR_ff rfl ?_
    rw [w2, w1]
    refine ⟨⟨by omega, by omega, by omega⟩, ?_⟩
    have hx : (if c5 = Int.toNat 0 then x5 else x5.map (fun q => q.add (Int.toNat 0 * 1))) = x5 := by
      rw [if_neg (by show ¬ c5 = 0; omega)]
      cases x5 <;> simp [Addr.add]
    rw [hx]
    have hl0 : Int.toNat ((n - 2 : Nat) : Int) - Int.toNat 0 = n - 2 := by rw [Int.toNat_natCast]; rfl
    rw [hl0]
    refine c_CheckL lP (fun i hi => ?_) (by omega) ?_
    · rw [u8s_len] at hi
      obtain ⟨a, ha, hc⟩ := h14.row i (by rw [u8s_len]; omega)
      refine ⟨a, ha, ?_⟩
      rw [hc]
      unfold u8s
      subst hP
      simp
    try simp only [TUP_mk, AGG_mk, HD_mk, NL_mk, TYI_mk, TYB_mk, TYP_mk, TYL_mk, TYS_mk, TYM_mk, SO_mk, NX_mk, endK_mk, endK_mk', add_0]
    have hC := chk_rg P
    rw [chk_u8a hC, chk_u8b hC]
    refine wr_u8 (y := toB (chk P / 256)) h14 (by omega) rfl fun s15 k15 f15 => ?_
    refine wr_u8 (y := toB (chk P % 256)) f15 (by omega) rfl fun s16 k16 f16 => ?_
    have hset := set_ck (l := Wr) (n := n - 2) (c := chk P) (by omega)
    rw [hset, ← hP] at f16
    have x316 : Ext s3 s16 := kp_nil (kp_nil x314 (fun b ⟨a', h1, h2⟩ => by rw [← h2]; exact ge5 a' h1) k15) (fun b ⟨a', h1, h2⟩ => by rw [← h2]; exact ge5 a' h1) k16
    have f16 : Fr s3.size s16 x5 n c5 1 (u8s (withC P)) := f16
    have lW : (withC P).length = n := by rw [withC_len]; omega
    refine c_ReadFurrowL lW f16.row fun s17 vc e17 rc => ?_
    have hcs := readF_wc (l := P) (by omega)
    generalize hRC : readF (withC P) = RC at rc hcs ⊢
    obtain ⟨xc, cc, yc, dc, wc, ec, rfl, fc0, fc1, fc2, _⟩ := rc
    try simp only [TUP_mk, AGG_mk, HD_mk, NL_mk, TYI_mk, TYB_mk, TYP_mk, TYL_mk, TYS_mk, TYM_mk, SO_mk, NX_mk, endK_mk, endK_mk', add_0]
    refine nw3 zc_37' rfl rfl rfl fun s18 e18 z18 u0 u1 u2 => ?_
    have e1618 := e17.trans e18
    have x318 := x316.trans e1618
    have x018 := e03.trans x318
    refine c_SameBytesL lW hn.symm (f16.row.ext e1618) (ff.row.ext x318) ?_
    try simp only [TUP_mk, AGG_mk, HD_mk, NL_mk, TYI_mk, TYB_mk, TYP_mk, TYL_mk, TYS_mk, TYM_mk, SO_mk, NX_mk, endK_mk, endK_mk', add_0]
    rcases hcs with ⟨f', ok', hr⟩ | hr
    · subst hr
      refine BR_tt rfl ?_
      unfold J_law14_BookChanged_1
      refine BR_tt rfl (BR_ff rfl ?_)
      have y18 := (e2.trans e3).trans x318
      refine ⟨_, _, _, u0.cell, _, _, _, u1.cell, _, _, _, u2.cell, _, _, _, (y18.own o0).cell, _, _, _, (y18.own o1).cell, _, _, _, (y18.own o2).cell, ?_⟩
      obtain ⟨⟨g1, g2, g3⟩, _⟩ := okFr_b ok'
      refine c_SameFurrow (p := f') (q := f) ⟨fc0.row.ext e18, fc1.row.ext e18, fc2.row.ext e18⟩ (hf.ext x018) (by omega) (by omega) (by omega) fun s19 e19 => ?_
      try simp only [TUP_mk, AGG_mk, HD_mk, NL_mk, TYI_mk, TYB_mk, TYP_mk, TYL_mk, TYS_mk, TYM_mk, SO_mk, NX_mk, endK_mk, endK_mk', add_0]
      have hw' := (readF_ok hRC).2
      have heq : decide (f' = f) = decide (withC P = F) := by
        refine decide_eq_decide.2 ⟨fun h => ?_, fun h => ?_⟩
        · rw [← hw', h, hF, hB]
        · exact frB_inj ok' hok (by rw [hw', h, hF, hB])
      rw [heq]
      unfold J_law14_BookChanged_0
      refine BR_tt (by simp) ?_
      refine BR_bool (fun _ => alive s19 (x018.trans e19)) (fun _ => ?_)
      refine BR_tt rfl ?_
      exact alive s19 (x018.trans e19)
    · subst hr
      refine BR_ff rfl ?_
      unfold J_law14_BookChanged_1
      refine BR_tt rfl (BR_tt rfl ?_)
      unfold J_law14_BookChanged_0
      refine BR_tt rfl ?_
      have hne : withC P ≠ F := fun h => by
        rw [h, hF, hB, readF_w hok] at hRC
        simp at hRC
      refine BR_tt (by simp [hne]) ?_
      exact alive s18 x018
  have J3 : J_law14_BookChanged_3 W (endK K E) false x5 c5 n n xf cf s.size x7 n (m : Int) RT.2 s13.size s14 := by
    unfold J_law14_BookChanged_3
    refine BR_ff rfl ?_
    rw [wm, w3, eT, eT1]
    have g10 := f10.ext e1014
    refine rd_u8 g10 (by omega) ?_
    refine rd_u8 g10 (by omega) ?_
    rw [t0, t1]
    refine BR_bool (fun h => ?_) (fun h => J2)
    have hr := hTref (fun hh => by rw [hh] at h; simp at h)
    subst hr
    refine BR_ff rfl ?_
    exact ⟨_, _, _, q0.cell, J2⟩
  refine BR_bool (fun h => ?_) (fun h => J3)
  have hr := hWref (fun hh => by subst hh; simp at h)
  subst hr
  refine BR_ff rfl ?_
  exact ⟨_, _, _, (p0'.own p0).cell, J3⟩
end
end Go.Proofs.YtcjgbanpkmpekaaGreatDoor.G

/- BookChanged, from any arguments. -/
namespace Go.Proofs.YtcjgbanpkmpekaaGreatDoor.G
open Go.V
theorem v_BookChanged {W : World} {s : Hp} {v0 v1 v2 : Value} (he : Env s) (k0 : RdV Pg s 37 v0) (k1 : RdV Pg s 71 v1) (k2 : RdV Pg s 5 v2) : CALL Pg W F_law14_BookChanged [v0, v1, v2] (fun v s' => v = .bool true ∧ Ext s s') (fun _ _ => False) s := by
  obtain ⟨f, x, y, w, c, d, e, rfl, hf⟩ := furrow_rd k0
  obtain ⟨a, rfl, ha⟩ := u16_rd k1
  obtain ⟨b, rfl, hb⟩ := u8_rd k2
  exact w_BookChanged he ha hb hf fun s' e => ⟨rfl, e⟩
end Go.Proofs.YtcjgbanpkmpekaaGreatDoor.G

/- What the rows without the table of powers of ten have in common. -/
namespace Go.Proofs.YtcjgbanpkmpekaaGreatDoor.Rx
open Go.ChangeShapes Go.WideShapes Go.ChangeAt Go.RowKit Go.V
set_option linter.unusedVariables false
theorem own : ownKnob Tryz.prog.godebug = none := by kernel_rfl
theorem laidOut : laidOutB Tryz.prog = true := by kernel_rfl
/-- A world in which the listed variables hold what the program's text lays. -/
noncomputable def laidWorld (os : Os) : World :=
  let w0 := World.holding Tryz.prog os ⟨#[], #[], []⟩
  let put (h : Array Obj) (g : Nat) (cs : Array Value) : Array Obj := h.modify g fun
    | .cells _ t frozen => .cells cs t frozen
    | o => o
  let h1 := put w0.heap 4 (Go.Pinned.utf8FirstZ.map fun (n : Nat) => Value.int .u8 n).toArray
  { w0 with heap := put h1 5 ((([128, 191, 160, 191, 128, 159, 144, 191, 128, 143] : List Int) ++ List.replicate 22 0).map fun n => Value.int .u8 n).toArray }
set_option maxRecDepth 100000 in
theorem laid_2 (os : Os) (args : Array Value) : laidMet Tryz.prog [("unicode/utf8.acceptRanges", Rows.laid_unicode_utf8_acceptRanges), ("unicode/utf8.first", Rows.laid_unicode_utf8_first)] ((laidWorld os).forCall (fun _ _ => 0) ⟨#[], args, []⟩).memory :=
  laidMet_of_run' 8 (by kernel_rfl) (by kernel_rfl)
theorem env_of {W : World} (h : W.ShapedOpen Tryz.prog) : G.Env W.heap where
  mx := cell_of_shapedOpen_int (g := 0) (t := 3) (zero := #[.int .i64 0]) h (of_decide_eq_true (by kernel_rfl)) (by kernel_rfl) rfl (by kernel_rfl) (by kernel_rfl) Tryz.underlying3
  pow := fun b => (show False from b).elim
  es := fun b => (show False from b).elim
  sz := by
    obtain ⟨cs, hh, _⟩ := h.1 7 #[.nilIface] 249 (of_decide_eq_true (by kernel_rfl)) (by kernel_rfl)
    have := (Array.getElem?_eq_some_iff.1 hh).1
    omega
  er := fun b => (show False from b).elim
theorem wants0 : ∀ t ∈ ([] : List TypeId), Tryz.prog.wantsStandIn t = false := fun t h => by cases h
theorem wants1 {t : TypeId} {l : List TypeId} (h : Tryz.prog.wantsStandIn t = false) (hl : ∀ t ∈ l, Tryz.prog.wantsStandIn t = false) : ∀ u ∈ t :: l, Tryz.prog.wantsStandIn u = false := fun u hu => by
  rcases List.mem_cons.1 hu with rfl | hu
  · exact h
  · exact hl u hu
theorem wants {a : Array TypeId} {t : TypeId} {j : Nat} (h : ∀ u ∈ a.toList, Tryz.prog.wantsStandIn u = false) (ht : a[j]? = some t) : Tryz.prog.wantsStandIn t = false := h t (by rw [← Array.getElem?_toList] at ht; exact List.mem_of_getElem? ht)
end Go.Proofs.YtcjgbanpkmpekaaGreatDoor.Rx

/- The row of the statement BookChanged, and its card. -/
namespace Go.Proofs.YtcjgbanpkmpekaaGreatDoor.bookChanged
open Go.ChangeShapes Go.WideShapes Go.ChangeAt Go.RowKit Go.V
set_option linter.unusedVariables false
theorem laid_met (os : Os) (args : Array Value) : laidMetH Tryz.prog Rows.bookChangedRow.laid ((Rx.laidWorld os).forCall (fun _ _ => 0) ⟨#[], args, []⟩).memory := Rx.laid_2 os args
set_option maxRecDepth 100000 in
theorem lifted (os : Os) (started : os.Started) (H : Type) (enc : TypeId × Value → H) (F : Stop.Interp) :
    ReturnsInHanded {} Tryz.checked os 8 .any ((OpenSpec.ofChange Rows.bookChangedSpec).preRow enc Tryz.prog Tryz.f8 Rows.bookChangedRow.domain false Rows.bookChangedRow.laid) (((OpenSpec.ofChange Rows.bookChangedSpec).at F).post enc Tryz.prog Tryz.f8 false true false false) := by
  refine returnsInHanded_of_row (C := Tryz.checked) (s := OpenSpec.ofChange Rows.bookChangedSpec) Rx.own started (by kernel_rfl) Tryz.func8
    (witness_row_at (enc := enc) (C := Tryz.checked) false (Rx.laidWorld os) #[(.agg #[(.slice none 0 0), (.slice none 0 0), (.slice none 0 0)]), (.int .u16 0), (.int .u8 0)] rfl (by kernel_rfl) (by kernel_rfl) (by kernel_rfl) (OpenSpec.preRow_of_B rfl 8 (by kernel_rfl) (by kernel_rfl) (laid_met os _))) ?_
  intro W base args ds gs before hval0 hW hcnd _ hsz0 hL hsh _
  have hval : ∀ (j : Nat) t v, Tryz.f8.params[j]? = some t → args[j]? = some v → Value.okWide Tryz.prog W .any base t v := hval0
  have hW' := hW
  obtain ⟨p, q, hA0, hV, rfl, hfz, hnd⟩ := hW
  have hA : DataW.TrodAll enc Tryz.prog W 0 (fun _ => true) true Tryz.f8.params.toList args.toList ds p := hA0
  rw [Tryz.params8] at hA hval
  obtain ⟨v0, vs0, d0, ds0, p0, q0, hargs, rfl, rfl, h0, r0⟩ := trodAll_cons hA
  obtain ⟨v1, vs1, d1, ds1, p1, q1, rfl, rfl, rfl, h1, r1⟩ := trodAll_cons r0
  obtain ⟨v2, vs2, d2, ds2, p2, q2, rfl, rfl, rfl, h2, r2⟩ := trodAll_cons r1
  obtain ⟨rfl, rfl, rfl⟩ := trodAll_nil r2
  obtain rfl : args = #[v0, v1, v2] := by cases args; simp_all
  obtain ⟨rfl, rfl⟩ := trodVars_none hV
  have k0 := trod_rdV (hval 0 37 v0 rfl rfl) h0
  have lt0 : ∀ x ∈ p0, x.block < W.heap.size := by obtain ⟨m, hm⟩ := h0; exact DataW.trod_lt m _ _ _ hm
  have k1 := trod_rdV (hval 1 71 v1 rfl rfl) h1
  have lt1 : ∀ x ∈ p1, x.block < W.heap.size := by obtain ⟨m, hm⟩ := h1; exact DataW.trod_lt m _ _ _ hm
  have k2 := trod_rdV (hval 2 5 v2 rfl rfl) h2
  have lt2 : ∀ x ∈ p2, x.block < W.heap.size := by obtain ⟨m, hm⟩ := h2; exact DataW.trod_lt m _ _ _ hm
  refine (calls_of_does (does_of_call (G.v_BookChanged (W := W) (s := W.heap) (Rx.env_of hsh) k0 k1 k2))).mono fun e W' ⟨he, bel⟩ => ?_
  subst he
  exact ⟨_, rfl, _, _, _, [], _, [], hW', trodAll_mk1 (shut_bool Tryz.underlying4 _), (trodAll_cons_mk (Below.trod Rx.laidOut (by kernel_rfl) (of_decide_eq_true (by kernel_rfl)) h0 bel lt0) (trodAll_cons_mk (Below.trod Rx.laidOut (by kernel_rfl) (of_decide_eq_true (by kernel_rfl)) h1 bel lt1) (trodAll_cons_mk (Below.trod Rx.laidOut (by kernel_rfl) (of_decide_eq_true (by kernel_rfl)) h2 bel lt2) trodAll_mk0))), rfl, bel.frame _, fun h => by cases h⟩
theorem over : Rows.bookChangedRow.holds Tryz.pinned (OpenSpec.ofChange Rows.bookChangedSpec) :=
  OpenClaim.holds_of_cond 8 Tryz.f8 rfl rfl rfl rfl rfl rfl rfl ⟨rfl, rfl, rfl, rfl, rfl⟩ rfl rfl rfl rfl rfl (by kernel_rfl) Tryz.func8 (by kernel_rfl)
    (of_decide_eq_true (by kernel_rfl)) (by unfold Func.isWrapper; first | (rw [if_pos (by decide +kernel)]; kernel_rfl) | (rw [if_neg (by decide +kernel)]; exact ⟨rfl, rfl⟩))
    (fun os started H enc _ F0 => by rw [OpenClaim.pre_eq_preRow]; exact lifted os started H enc F0)
theorem proved : Rows.BookChangedSaid := over
theorem card : Rows.BookChangedCardSaid :=
  Claim7.holds_tied_plain_at .later [] [.data, .pinned] true (true, "28193b9190124b0ae8ca521e695d35e8bef494109476732e6656f4b725b3cc2d") true
    over (fun _ h => by cases h) (by kernel_rfl) (fun _ h => by cases h) bookChanged_row_tie rfl ⟨rfl, rfl⟩ (by kernel_rfl) rfl
    (fun f fn hf hfn => by
      obtain rfl : f = 8 := Option.some.inj ((show Tryz.prog.funcNamed "furrowworks/furrowworkslaw14.BookChanged" = some 8 by kernel_rfl).symm.trans hf) |>.symm
      obtain rfl : fn = Tryz.f8 := (Option.some.inj (Tryz.func8.symm.trans hfn)).symm
      exact ⟨by kernel_rfl, fun j t ht => by
        rw [Tryz.params8] at ht
        exact Rx.wants (a := #[37, 71, 5]) (Rx.wants1 (by kernel_rfl) (Rx.wants1 (by kernel_rfl) (Rx.wants1 (by kernel_rfl) Rx.wants0))) ht⟩)
    (by kernel_rfl)
end Go.Proofs.YtcjgbanpkmpekaaGreatDoor.bookChanged
namespace Go.Proofs.YtcjgbanpkmpekaaGreatDoor
/-- The card, under a short name. -/
theorem bookChanged_holds : Rows.BookChangedCardSaid := bookChanged.card
end Go.Proofs.YtcjgbanpkmpekaaGreatDoor
