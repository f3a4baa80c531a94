import Derived.Test.YtcjgbanpkmpekaaGreatDoorC4
import Derived.Test.YtcjgbanpkmpekaaGreatDoorRows
import Derived.Deep.DeepHandedRow
import Derived.JoinedCond
import Derived.LaidLaws
import Derived.Shelf.Vars
import Derived.Stop.Joined
import Derived.SevenTiedAt
import Derived.Test.YtcjgbanpkmpekaaGreatDoorTie
import Derived.Test.YtcjgbanpkmpekaaGreatDoorCards
/- BookNames: errors and limits have the document values, and the examples hold -/
/- The exported functions of pegs, panels and hearings. -/
set_option linter.unusedVariables false
set_option linter.unusedSimpArgs false
set_option maxRecDepth 20000
namespace Go.Proofs.YtcjgbanpkmpekaaGreatDoor.G
open Go.V
theorem zc_99 : zc Pg 99 = [.nilFunc, .nilFunc] := by kernel_rfl
theorem zc_111 : zc Pg 111 = [.nilFunc, .nilFunc] := by kernel_rfl
theorem zc_119 : zc Pg 119 = [.nilFunc, .nilFunc] := by kernel_rfl
section
variable {W : World} {s : Hp} {K : VK} {E : List PanicEntry → Hp → Prop}
theorem c_pegsFile (hk : ∀ s', Ext s s' → K (.agg #[.func (.func 94) #[] #[], .func (.func 95) #[] #[]]) s') : CALL Pg W F_book_pegsFile [] K E s := by
  refine does_book_pegsFile W _ s ?_
  unfold T_book_pegsFile
  refine nw2 zc_99 rfl rfl fun s1 e1 z1 o0 o1 => ?_
  exact ⟨_, o0.cell, _, o1.cell, hk s1 e1⟩
theorem c_panelsFile (hk : ∀ s', Ext s s' → K (.agg #[.func (.func 102) #[] #[], .func (.func 103) #[] #[]]) s') : CALL Pg W F_book_panelsFile [] K E s := by
  refine does_book_panelsFile W _ s ?_
  unfold T_book_panelsFile
  refine nw2 zc_111 rfl rfl fun s1 e1 z1 o0 o1 => ?_
  exact ⟨_, o0.cell, _, o1.cell, hk s1 e1⟩
theorem c_hearingFile (hk : ∀ s', Ext s s' → K (.agg #[.func (.func 105) #[] #[], .func (.func 106) #[] #[]]) s') : CALL Pg W F_book_hearingFile [] K E s := by
  refine does_book_hearingFile W _ s ?_
  unfold T_book_hearingFile
  refine nw2 zc_119 rfl rfl fun s1 e1 z1 o0 o1 => ?_
  exact ⟨_, o0.cell, _, o1.cell, hk s1 e1⟩
theorem c_ReadPegs {t : BL} (hsm : (∀ p, parseT pgStep pg0 t = some p → sml (pgN p)) ∧ (parseT pgStep pg0 t = none → Big)) (he : Env s) (hk : ∀ s' v, Ext s s' → ResPg s.size s' (readT pgStep pg0 okPg pgW t).1 v → K (.tuple #[v, .int .i64 (readT pgStep pg0 okPg pgW t).2]) s') : CALL Pg W F_book_ReadPegs [.string (bs t)] K E s := by
  refine does_book_ReadPegs W (bs t) _ s ?_
  unfold T_book_ReadPegs
  refine nz3 zc_25 fun s1 e1 z1 o0 o1 o2 => ?_
  refine c_pegsFile fun s2 e2 => ?_
  try simp only [TUP_mk, AGG_mk, HD_mk, NL_mk, TYI_mk, TYB_mk, TYP_mk, TYL_mk, TYS_mk, TYM_mk, SO_mk, NX_mk, endK_mk, endK_mk', add_0]
  refine c_readPg hsm ((he.ext e1).ext e2) fun s3 v e3 hr => ?_
  obtain ⟨x, c, y, d, rfl, f1, f2, dj⟩ := hr
  try simp only [TUP_mk, AGG_mk, HD_mk, NL_mk, TYI_mk, TYB_mk, TYP_mk, TYL_mk, TYS_mk, TYM_mk, SO_mk, NX_mk, endK_mk, endK_mk', add_0]
  have e23 := e2.trans e3
  refine wrs3 (e23.own o0) (e23.own o1) (e23.own o2) rfl rfl rfl fun s4 k4 z4 q0 q1 q2 => ?_
  refine ⟨_, q0.cell, _, _, _, q1.cell, _, _, _, q2.cell, ?_⟩
  try simp only [TUP_mk, AGG_mk, HD_mk, NL_mk, TYI_mk, TYB_mk, TYP_mk, TYL_mk, TYS_mk, TYM_mk, SO_mk, NX_mk, endK_mk, endK_mk', add_0]
  have hs := e2.1
  refine hk s4 _ (ext_kp (e1.trans e23) (Nat.le_refl _) k4) ⟨x, c, y, d, rfl, Fr.lo (f1.kp k4 (fun b hb hh => ?_)) (by omega), Fr.lo (f2.kp k4 (fun b hb hh => ?_)) (by omega), dj⟩
  · have := f1.fr b hb; have h' : b.block = s.size := hh; omega
  · have := f2.fr b hb; have h' : b.block = s.size := hh; omega
theorem c_ReadPanels {t : BL} (hsm : (∀ p, parseT pnStep pn0 t = some p → sml (pnN p)) ∧ (parseT pnStep pn0 t = none → Big)) (he : Env s) (hk : ∀ s' v, Ext s s' → ResPn s.size s' (readT pnStep pn0 okPn pnW t).1 v → K (.tuple #[v, .int .i64 (readT pnStep pn0 okPn pnW t).2]) s') : CALL Pg W F_book_ReadPanels [.string (bs t)] K E s := by
  refine does_book_ReadPanels W (bs t) _ s ?_
  unfold T_book_ReadPanels
  refine nz3 zc_29 fun s1 e1 z1 o0 o1 o2 => ?_
  refine c_panelsFile fun s2 e2 => ?_
  try simp only [TUP_mk, AGG_mk, HD_mk, NL_mk, TYI_mk, TYB_mk, TYP_mk, TYL_mk, TYS_mk, TYM_mk, SO_mk, NX_mk, endK_mk, endK_mk', add_0]
  refine c_readPn hsm ((he.ext e1).ext e2) fun s3 v e3 hr => ?_
  obtain ⟨x, c, y, d, w, e, rfl, f1, f2, f3, dj⟩ := hr
  try simp only [TUP_mk, AGG_mk, HD_mk, NL_mk, TYI_mk, TYB_mk, TYP_mk, TYL_mk, TYS_mk, TYM_mk, SO_mk, NX_mk, endK_mk, endK_mk', add_0]
  have e23 := e2.trans e3
  refine wrs3 (e23.own o0) (e23.own o1) (e23.own o2) rfl rfl rfl fun s4 k4 z4 q0 q1 q2 => ?_
  refine ⟨_, _, _, q0.cell, _, _, _, q1.cell, _, _, _, q2.cell, ?_⟩
  try simp only [TUP_mk, AGG_mk, HD_mk, NL_mk, TYI_mk, TYB_mk, TYP_mk, TYL_mk, TYS_mk, TYM_mk, SO_mk, NX_mk, endK_mk, endK_mk', add_0]
  have hs := e2.1
  refine hk s4 _ (ext_kp (e1.trans e23) (Nat.le_refl _) k4) ⟨x, c, y, d, w, e, rfl, Fr.lo (f1.kp k4 (fun b hb hh => ?_)) (by omega), Fr.lo (f2.kp k4 (fun b hb hh => ?_)) (by omega), Fr.lo (f3.kp k4 (fun b hb hh => ?_)) (by omega), dj⟩
  · have := f1.fr b hb; have h' : b.block = s.size := hh; omega
  · have := f2.fr b hb; have h' : b.block = s.size := hh; omega
  · have := f3.fr b hb; have h' : b.block = s.size := hh; omega
theorem c_ReadHearing {t : BL} (hsm : (∀ p, parseT hrStep hr0 t = some p → sml (hrN p)) ∧ (parseT hrStep hr0 t = none → Big)) (he : Env s) (hk : ∀ s' v, Ext s s' → ResHr s.size s' (readT hrStep hr0 okHr hrW t).1 v → K (.tuple #[v, .int .i64 (readT hrStep hr0 okHr hrW t).2]) s') : CALL Pg W F_book_ReadHearing [.string (bs t)] K E s := by
  refine does_book_ReadHearing W (bs t) _ s ?_
  unfold T_book_ReadHearing
  refine nz5 zc_34 fun s1 e1 z1 o0 o1 o2 o3 o4 => ?_
  refine c_hearingFile fun s2 e2 => ?_
  try simp only [TUP_mk, AGG_mk, HD_mk, NL_mk, TYI_mk, TYB_mk, TYP_mk, TYL_mk, TYS_mk, TYM_mk, SO_mk, NX_mk, endK_mk, endK_mk', add_0]
  refine c_readHr hsm ((he.ext e1).ext e2) fun s3 v e3 hr => ?_
  obtain ⟨x, c, y, d, rfl, f1, f2, dj⟩ := hr
  try simp only [TUP_mk, AGG_mk, HD_mk, NL_mk, TYI_mk, TYB_mk, TYP_mk, TYL_mk, TYS_mk, TYM_mk, SO_mk, NX_mk, endK_mk, endK_mk', add_0]
  have e23 := e2.trans e3
  refine wrs5 (e23.own o0) (e23.own o1) (e23.own o2) (e23.own o3) (e23.own o4) (by simp [oneCell]) fun s4 k4 z4 q0 q1 q2 q3 q4 => ?_
  refine ⟨_, q0.cell, _, q1.cell, _, q2.cell, _, _, _, q3.cell, _, _, _, q4.cell, ?_⟩
  try simp only [TUP_mk, AGG_mk, HD_mk, NL_mk, TYI_mk, TYB_mk, TYP_mk, TYL_mk, TYS_mk, TYM_mk, SO_mk, NX_mk, endK_mk, endK_mk', add_0]
  have hs := e2.1
  refine hk s4 _ (ext_kp (e1.trans e23) (Nat.le_refl _) k4) ⟨x, c, y, d, rfl, Fr.lo (f1.kp k4 (fun b hb hh => ?_)) (by omega), Fr.lo (f2.kp k4 (fun b hb hh => ?_)) (by omega), dj⟩
  · have := f1.fr b hb; have h' : b.block = s.size := hh; omega
  · have := f2.fr b hb; have h' : b.block = s.size := hh; omega
/-- How a text is written: the text, and the error. -/
def wrT (ok : Bool) (t : BL) : Value := .tuple #[.string (bs (if ok = true then t else [])), .int .i64 (if ok = true then 0 else 1)]
theorem c_WritePegs {p : PgS} {x y : Option Addr} {c d : Nat} (he : Env s) (hx : RowAt s x (p.posts.flatMap q4V)) (hy : RowAt s y (p.lens.flatMap q4V)) (g : PgG p)
    (hk : ∀ s', Ext s s' → K (wrT (okPg p) (txt (pgW p))) s') : CALL Pg W F_book_WritePegs [.agg #[.int .i64 p.side, .slice x p.posts.length c, .slice y p.lens.length d]] K E s := by
  refine does_book_WritePegs W p.side x p.posts.length c y p.lens.length d _ s ?_
  unfold T_book_WritePegs
  refine NEW_rule fun s1 e1 z1 o _ => ?_
  refine c_pegsFile fun s2 e2 => ?_
  try simp only [TUP_mk, AGG_mk, HD_mk, NL_mk, TYI_mk, TYB_mk, TYP_mk, TYL_mk, TYS_mk, TYM_mk, SO_mk, NX_mk, endK_mk, endK_mk', add_0]
  refine ⟨_, e2.cell (o 0 _ rfl).cell, _, _, _, e2.cell (o 1 _ rfl).cell, _, _, _, e2.cell (o 2 _ rfl).cell, ?_⟩
  show Does Pg W F_book_file_api_Pegs_write #[_, _] s2 _
  refine does_book_file_api_Pegs_write W _ _ p.side x p.posts.length c y p.lens.length d _ s2 ?_
  unfold T_book_file_api_Pegs_write
  refine ne2 fun s3 e3 z3 a0 a1 => ?_
  refine NEW_rule fun s4 e4 z4 q _ => ?_
  refine ⟨_, (e4.own a0).cell, _, (q 0 _ rfl).cell, _, _, _, (q 1 _ rfl).cell, _, _, _, (q 2 _ rfl).cell, ?_⟩
  refine CALLV_func ?_
  refine does_book_pegsFile_c1 W _ _ _ _ _ _ _ _ s4 ?_
  unfold T_book_pegsFile_c1
  refine NEW_rule fun s5 e5 z5 o5 _ => ?_
  refine ⟨_, (o5 0 _ rfl).cell, _, _, _, (o5 1 _ rfl).cell, _, _, _, (o5 2 _ rfl).cell, ?_⟩
  refine NEW_rule fun s6 e6 z6 o6 _ => ?_
  try simp only [TUP_mk, AGG_mk, HD_mk, NL_mk, TYI_mk, TYB_mk, TYP_mk, TYL_mk, TYS_mk, TYM_mk, SO_mk, NX_mk, endK_mk, endK_mk', add_0]
  have e06 := (e1.trans e2).trans ((e3.trans e4).trans (e5.trans e6))
  refine inv_of (f := F_book_pegs_text) (by kernel_rfl) ?_
  refine c_pegs_text (he.ext e06) ⟨(o6 0 _ rfl).cell, ⟨_, _, (o6 1 _ rfl).cell, hx.ext e06⟩, ⟨_, _, (o6 2 _ rfl).cell, hy.ext e06⟩⟩ g fun s7 e7 => ?_
  try simp only [TUP_mk, AGG_mk, HD_mk, NL_mk, TYI_mk, TYB_mk, TYP_mk, TYL_mk, TYS_mk, TYM_mk, SO_mk, NX_mk, endK_mk, endK_mk', add_0]
  have := hk s7 (e06.trans e7)
  unfold wrT at this
  refine BR_not (fun hb => ?_) (fun hb => ?_)
  · rw [hb] at this
    try simp only [TUP_mk, AGG_mk, HD_mk, NL_mk, TYI_mk, TYB_mk, TYP_mk, TYL_mk, TYS_mk, TYM_mk, SO_mk, NX_mk, endK_mk, endK_mk', add_0]
    exact this
  · rw [hb] at this
    try simp only [TUP_mk, AGG_mk, HD_mk, NL_mk, TYI_mk, TYB_mk, TYP_mk, TYL_mk, TYS_mk, TYM_mk, SO_mk, NX_mk, endK_mk, endK_mk', add_0]
    exact this
theorem c_WritePanels {p : PnS} {x y w : Option Addr} {c d e : Nat} (he : Env s) (hx : RowAt s x (ints p.loads)) (hy : RowAt s y (ints p.needs)) (hw : RowAt s w (p.kin.flatMap kinV)) (g : PnG p)
    (hk : ∀ s', Ext s s' → K (wrT (okPn p) (txt (pnW p))) s') : CALL Pg W F_book_WritePanels [.agg #[.slice x p.loads.length c, .slice y p.needs.length d, .slice w p.kin.length e]] K E s := by
  refine does_book_WritePanels W x p.loads.length c y p.needs.length d w p.kin.length e _ s ?_
  unfold T_book_WritePanels
  refine NEW_rule fun s1 e1 z1 o _ => ?_
  have o0 := (o 0 _ rfl).cell
  have o1 := (o 1 _ rfl).cell
  have o2 := (o 2 _ rfl).cell
  refine ⟨_, _, _, o0, _, _, _, o1, _, _, _, o2, ?_⟩
  refine c_panelsFile fun s2 e2 => ?_
  try simp only [TUP_mk, AGG_mk, HD_mk, NL_mk, TYI_mk, TYB_mk, TYP_mk, TYL_mk, TYS_mk, TYM_mk, SO_mk, NX_mk, endK_mk, endK_mk', add_0]
  refine ANDS_i ⟨_, _, _, e2.cell o0, _, _, _, e2.cell o1, _, _, _, e2.cell o2, rfl⟩ ?_
  refine does_book_file_api_Panels_write W _ _ x p.loads.length c y p.needs.length d w p.kin.length e _ s2 ?_
  unfold T_book_file_api_Panels_write
  refine ne2 fun s3 e3 z3 a0 a1 => ?_
  refine NEW_rule fun s4 e4 z4 q _ => ?_
  refine ⟨_, (e4.own a0).cell, _, _, _, (q 0 _ rfl).cell, _, _, _, (q 1 _ rfl).cell, _, _, _, (q 2 _ rfl).cell, ?_⟩
  refine CALLV_func ?_
  refine does_book_panelsFile_c1 W _ _ _ _ _ _ _ _ _ _ s4 ?_
  unfold T_book_panelsFile_c1
  refine NEW_rule fun s5 e5 z5 o5 _ => ?_
  refine ⟨_, _, _, (o5 0 _ rfl).cell, _, _, _, (o5 1 _ rfl).cell, _, _, _, (o5 2 _ rfl).cell, ?_⟩
  refine NEW_rule fun s6 e6 z6 o6 _ => ?_
  try simp only [TUP_mk, AGG_mk, HD_mk, NL_mk, TYI_mk, TYB_mk, TYP_mk, TYL_mk, TYS_mk, TYM_mk, SO_mk, NX_mk, endK_mk, endK_mk', add_0]
  have e06 := (e1.trans e2).trans ((e3.trans e4).trans (e5.trans e6))
  refine inv_of (f := F_book_panels_text) (by kernel_rfl) ?_
  refine c_panels_text (he.ext e06) ⟨⟨_, _, (o6 0 _ rfl).cell, hx.ext e06⟩, ⟨_, _, (o6 1 _ rfl).cell, hy.ext e06⟩, ⟨_, _, (o6 2 _ rfl).cell, hw.ext e06⟩⟩ g fun s7 e7 => ?_
  try simp only [TUP_mk, AGG_mk, HD_mk, NL_mk, TYI_mk, TYB_mk, TYP_mk, TYL_mk, TYS_mk, TYM_mk, SO_mk, NX_mk, endK_mk, endK_mk', add_0]
  have := hk s7 (e06.trans e7)
  unfold wrT at this
  refine BR_not (fun hb => ?_) (fun hb => ?_)
  · rw [hb] at this
    try simp only [TUP_mk, AGG_mk, HD_mk, NL_mk, TYI_mk, TYB_mk, TYP_mk, TYL_mk, TYS_mk, TYM_mk, SO_mk, NX_mk, endK_mk, endK_mk', add_0]
    exact this
  · rw [hb] at this
    try simp only [TUP_mk, AGG_mk, HD_mk, NL_mk, TYI_mk, TYB_mk, TYP_mk, TYL_mk, TYS_mk, TYM_mk, SO_mk, NX_mk, endK_mk, endK_mk', add_0]
    exact this
theorem c_WriteHearing {p : HrS} {x y : Option Addr} {c d : Nat} (he : Env s) (hx : RowAt s x (p.claims.flatMap cl8)) (hy : RowAt s y (p.known.flatMap wd3)) (g : HrG p)
    (hk : ∀ s', Ext s s' → K (wrT (okHr p) (txt (hrW p))) s') : CALL Pg W F_book_WriteHearing [.agg #[.int .i64 p.facts, .int .i64 p.wits, .int .i64 p.liars, .slice x p.claims.length c, .slice y p.known.length d]] K E s := by
  refine does_book_WriteHearing W p.facts p.wits p.liars x p.claims.length c y p.known.length d _ s ?_
  unfold T_book_WriteHearing
  refine NEW_rule fun s1 e1 z1 o _ => ?_
  have o0 := (o 0 _ rfl).cell
  have o1 := (o 1 _ rfl).cell
  have o2 := (o 2 _ rfl).cell
  have o3 := (o 3 _ rfl).cell
  have o4 := (o 4 _ rfl).cell
  refine ⟨_, o0, _, o1, _, o2, _, _, _, o3, _, _, _, o4, ?_⟩
  refine c_hearingFile fun s2 e2 => ?_
  try simp only [TUP_mk, AGG_mk, HD_mk, NL_mk, TYI_mk, TYB_mk, TYP_mk, TYL_mk, TYS_mk, TYM_mk, SO_mk, NX_mk, endK_mk, endK_mk', add_0]
  refine ANDS_i ⟨_, e2.cell o0, _, e2.cell o1, _, e2.cell o2, _, _, _, e2.cell o3, _, _, _, e2.cell o4, rfl⟩ ?_
  refine does_book_file_api_Hearing_write W _ _ p.facts p.wits p.liars x p.claims.length c y p.known.length d _ s2 ?_
  unfold T_book_file_api_Hearing_write
  refine ne2 fun s3 e3 z3 a0 a1 => ?_
  refine NEW_rule fun s4 e4 z4 q _ => ?_
  refine ⟨_, (e4.own a0).cell, _, (q 0 _ rfl).cell, _, (q 1 _ rfl).cell, _, (q 2 _ rfl).cell, _, _, _, (q 3 _ rfl).cell, _, _, _, (q 4 _ rfl).cell, ?_⟩
  refine CALLV_func ?_
  refine does_book_hearingFile_c1 W _ _ _ _ _ _ _ _ _ _ s4 ?_
  unfold T_book_hearingFile_c1
  refine NEW_rule fun s5 e5 z5 o5 _ => ?_
  refine ⟨_, (o5 0 _ rfl).cell, _, (o5 1 _ rfl).cell, _, (o5 2 _ rfl).cell, _, _, _, (o5 3 _ rfl).cell, _, _, _, (o5 4 _ rfl).cell, ?_⟩
  refine NEW_rule fun s6 e6 z6 o6 _ => ?_
  try simp only [TUP_mk, AGG_mk, HD_mk, NL_mk, TYI_mk, TYB_mk, TYP_mk, TYL_mk, TYS_mk, TYM_mk, SO_mk, NX_mk, endK_mk, endK_mk', add_0]
  have e06 := (e1.trans e2).trans ((e3.trans e4).trans (e5.trans e6))
  refine inv_of (f := F_book_hearing_text) (by kernel_rfl) ?_
  refine c_hearing_text (he.ext e06) ⟨(o6 0 _ rfl).cell, (o6 1 _ rfl).cell, (o6 2 _ rfl).cell, ⟨_, _, (o6 3 _ rfl).cell, hx.ext e06⟩, ⟨_, _, (o6 4 _ rfl).cell, hy.ext e06⟩⟩ g fun s7 e7 => ?_
  try simp only [TUP_mk, AGG_mk, HD_mk, NL_mk, TYI_mk, TYB_mk, TYP_mk, TYL_mk, TYS_mk, TYM_mk, SO_mk, NX_mk, endK_mk, endK_mk', add_0]
  have := hk s7 (e06.trans e7)
  unfold wrT at this
  refine BR_not (fun hb => ?_) (fun hb => ?_)
  · rw [hb] at this
    try simp only [TUP_mk, AGG_mk, HD_mk, NL_mk, TYI_mk, TYB_mk, TYP_mk, TYL_mk, TYS_mk, TYM_mk, SO_mk, NX_mk, endK_mk, endK_mk', add_0]
    exact this
  · rw [hb] at this
    try simp only [TUP_mk, AGG_mk, HD_mk, NL_mk, TYI_mk, TYB_mk, TYP_mk, TYL_mk, TYS_mk, TYM_mk, SO_mk, NX_mk, endK_mk, endK_mk', add_0]
    rw [hb]
    exact this
end
end Go.Proofs.YtcjgbanpkmpekaaGreatDoor.G

/- More of the functions' shallow texts, by gen.py. -/
set_option linter.unusedVariables false
set_option maxRecDepth 100000
namespace Go.Proofs.YtcjgbanpkmpekaaGreatDoor.G
open Go.V
def an_41 : Nat → Ann := fun b => match b with
 | _ => {}
abbrev rv_41 : List ResultVar := [.cell 4 74]
abbrev rs_41 : List Nat := [8, 4]
def T_law14_span (W : World) (n1 : Int) (n2 : Int) (R : Ending → Hp → Prop) : Hp → Prop :=
 NEWZ Pg 74 fun B3 =>
 WR (Addr.add ⟨B3, 0, none⟩ 0) (.int .i64 n1) <|
 WR (Addr.add ⟨B3, 0, none⟩ 1) (.int .i64 n2) <|
 RDI .i64 (Addr.add ⟨B3, 0, none⟩ 0) fun n4 =>
 RDI .i64 (Addr.add ⟨B3, 0, none⟩ 1) fun n5 =>
 R (.returned (.agg #[(.int .i64 n4), (.int .i64 n5)]))
theorem T_law14_span_eq (W : World) (n1 : Int) (n2 : Int) (R : Ending → Hp → Prop) : vfun Pg W an_41 Tryz.f41 [(.int .i64 n1), (.int .i64 n2)] R = T_law14_span W n1 n2 R := by kernel_rfl
theorem does_law14_span (W : World) (n1 : Int) (n2 : Int) (R : Ending → Hp → Prop) (s : Hp) (h : T_law14_span W n1 n2 R s) : Does Pg W F_law14_span #[(.int .i64 n1), (.int .i64 n2)] s R :=
  does_of_vfun Pg W an_41 Tryz.func41 rfl (by kernel_rfl) (by rw [T_law14_span_eq]; exact h)
def an_48 : Nat → Ann := fun b => match b with
 | _ => {}
abbrev rv_48 : List ResultVar := [.cell 0 25]
abbrev rs_48 : List Nat := [17, 0]
def T_law14_pegs (W : World) (R : Ending → Hp → Prop) : Hp → Prop :=
 NEWZ Pg 25 fun B1 =>
 CALLV Pg W (.func (.func 93) #[] #[]) [(.int .i64 0), (.int .i64 0), (.int .i64 0), (.int .i64 0)]
 (fun v2 => AGG v2 fun q4 => HD q4 fun v5 r6 => TYI .i64 v5 fun n7 =>
 HD r6 fun v8 r9 => TYI .i64 v8 fun n10 =>
 HD r9 fun v11 r12 => TYI .i64 v11 fun n13 =>
 HD r12 fun v14 r15 => TYI .i64 v14 fun n16 =>
 NL r15 <|
 CALLV Pg W (.func (.func 93) #[] #[]) [(.int .i64 4), (.int .i64 5), (.int .i64 0), (.int .i64 0)]
 (fun v17 => AGG v17 fun q19 => HD q19 fun v20 r21 => TYI .i64 v20 fun n22 =>
 HD r21 fun v23 r24 => TYI .i64 v23 fun n25 =>
 HD r24 fun v26 r27 => TYI .i64 v26 fun n28 =>
 HD r27 fun v29 r30 => TYI .i64 v29 fun n31 =>
 NL r30 <|
 CALLV Pg W (.func (.func 93) #[] #[]) [(.int .i64 0), (.int .i64 0), (.int .i64 3), (.int .i64 3)]
 (fun v32 => AGG v32 fun q34 => HD q34 fun v35 r36 => TYI .i64 v35 fun n37 =>
 HD r36 fun v38 r39 => TYI .i64 v38 fun n40 =>
 HD r39 fun v41 r42 => TYI .i64 v41 fun n43 =>
 HD r42 fun v44 r45 => TYI .i64 v44 fun n46 =>
 NL r45 <|
 NEW 77 [(.int .i64 n7), (.int .i64 n10), (.int .i64 n13), (.int .i64 n16), (.int .i64 n22), (.int .i64 n25), (.int .i64 n28), (.int .i64 n31), (.int .i64 n37), (.int .i64 n40), (.int .i64 n43), (.int .i64 n46)] fun B47 =>
 CALL Pg W F_law14_span [(.int .i64 7), (.int .i64 7)]
 (fun v48 => AGG v48 fun q50 => HD q50 fun v51 r52 => TYI .i64 v51 fun n53 =>
 HD r52 fun v54 r55 => TYI .i64 v54 fun n56 =>
 NL r55 <|
 CALL Pg W F_law14_span [(.int .i64 3), (.int .i64 3)]
 (fun v57 => AGG v57 fun q59 => HD q59 fun v60 r61 => TYI .i64 v60 fun n62 =>
 HD r61 fun v63 r64 => TYI .i64 v63 fun n65 =>
 NL r64 <|
 CALL Pg W F_law14_span [(.int .i64 7), (.int .i64 8)]
 (fun v66 => AGG v66 fun q68 => HD q68 fun v69 r70 => TYI .i64 v69 fun n71 =>
 HD r70 fun v72 r73 => TYI .i64 v72 fun n74 =>
 NL r73 <|
 NEW 83 [(.int .i64 0), (.int .i64 1), (.int .i64 n53), (.int .i64 n56), (.int .i64 0), (.int .i64 2), (.int .i64 n62), (.int .i64 n65), (.int .i64 1), (.int .i64 2), (.int .i64 n71), (.int .i64 n74)] fun B75 =>
 WR (Addr.add ⟨B1, 0, none⟩ 0) (.int .i64 12) <|
 WR (Addr.add ⟨B1, 0, none⟩ 1) (.slice (some ⟨B47, 0, none⟩) 3 3) <|
 WR (Addr.add ⟨B1, 0, none⟩ 2) (.slice (some ⟨B75, 0, none⟩) 3 3) <|
 RDI .i64 (Addr.add ⟨B1, 0, none⟩ 0) fun n76 =>
 RDL (Addr.add ⟨B1, 0, none⟩ 1) fun x77 l78 c79 =>
 RDL (Addr.add ⟨B1, 0, none⟩ 2) fun x80 l81 c82 =>
 R (.returned (.agg #[(.int .i64 n76), (.slice x77 l78 c79), (.slice x80 l81 c82)])))
 (fun e67 => R (.panicked e67)))
 (fun e58 => R (.panicked e58)))
 (fun e49 => R (.panicked e49)))
 (fun e33 => R (.panicked e33)))
 (fun e18 => R (.panicked e18)))
 (fun e3 => R (.panicked e3))
theorem T_law14_pegs_eq (W : World) (R : Ending → Hp → Prop) : vfun Pg W an_48 Tryz.f48 [] R = T_law14_pegs W R := by kernel_rfl
theorem does_law14_pegs (W : World) (R : Ending → Hp → Prop) (s : Hp) (h : T_law14_pegs W R s) : Does Pg W F_law14_pegs #[] s R :=
  does_of_vfun Pg W an_48 Tryz.func48 rfl (by kernel_rfl) (by rw [T_law14_pegs_eq]; exact h)
def an_49 : Nat → Ann := fun b => match b with
 | _ => {}
abbrev rv_49 : List ResultVar := [.cell 0 29]
abbrev rs_49 : List Nat := [7, 0]
def T_law14_panels (W : World) (R : Ending → Hp → Prop) : Hp → Prop :=
 NEWZ Pg 29 fun B1 =>
 NEW 3 [(.int .i64 2), (.int .i64 2), (.int .i64 1)] fun B2 =>
 NEW 3 [(.int .i64 2), (.int .i64 1), (.int .i64 2)] fun B3 =>
 NEW 85 [(.int .i64 0), (.int .i64 2), (.int .i64 2), (.int .i64 1)] fun B4 =>
 WR (Addr.add ⟨B1, 0, none⟩ 0) (.slice (some ⟨B2, 0, none⟩) 3 3) <|
 WR (Addr.add ⟨B1, 0, none⟩ 1) (.slice (some ⟨B3, 0, none⟩) 3 3) <|
 WR (Addr.add ⟨B1, 0, none⟩ 2) (.slice (some ⟨B4, 0, none⟩) 2 2) <|
 RDL (Addr.add ⟨B1, 0, none⟩ 0) fun x5 l6 c7 =>
 RDL (Addr.add ⟨B1, 0, none⟩ 1) fun x8 l9 c10 =>
 RDL (Addr.add ⟨B1, 0, none⟩ 2) fun x11 l12 c13 =>
 R (.returned (.agg #[(.slice x5 l6 c7), (.slice x8 l9 c10), (.slice x11 l12 c13)]))
theorem T_law14_panels_eq (W : World) (R : Ending → Hp → Prop) : vfun Pg W an_49 Tryz.f49 [] R = T_law14_panels W R := by kernel_rfl
theorem does_law14_panels (W : World) (R : Ending → Hp → Prop) (s : Hp) (h : T_law14_panels W R s) : Does Pg W F_law14_panels #[] s R :=
  does_of_vfun Pg W an_49 Tryz.func49 rfl (by kernel_rfl) (by rw [T_law14_panels_eq]; exact h)
def an_50 : Nat → Ann := fun b => match b with
 | _ => {}
abbrev rv_50 : List ResultVar := [.cell 0 34]
abbrev rs_50 : List Nat := [12, 0]
def T_law14_hearing (W : World) (R : Ending → Hp → Prop) : Hp → Prop :=
 NEWZ Pg 34 fun B1 =>
 NEW 122 [(.int .i64 0), (.int .i64 0), (.bool false), (.int .i64 0), (.bool false), (.bool false), (.int .i64 0), (.bool false), (.int .i64 1), (.int .i64 0), (.bool false), (.int .i64 0), (.bool true), (.bool false), (.int .i64 0), (.bool false), (.int .i64 2), (.int .i64 1), (.bool true), (.int .i64 1), (.bool true), (.bool false), (.int .i64 1), (.bool false)] fun B2 =>
 NEW 79 [(.bool false), (.int .i64 1), (.bool true)] fun B3 =>
 WR (Addr.add ⟨B1, 0, none⟩ 0) (.int .i64 2) <|
 WR (Addr.add ⟨B1, 0, none⟩ 1) (.int .i64 3) <|
 WR (Addr.add ⟨B1, 0, none⟩ 2) (.int .i64 1) <|
 WR (Addr.add ⟨B1, 0, none⟩ 3) (.slice (some ⟨B2, 0, none⟩) 3 3) <|
 WR (Addr.add ⟨B1, 0, none⟩ 4) (.slice (some ⟨B3, 0, none⟩) 1 1) <|
 RDI .i64 (Addr.add ⟨B1, 0, none⟩ 0) fun n4 =>
 RDI .i64 (Addr.add ⟨B1, 0, none⟩ 1) fun n5 =>
 RDI .i64 (Addr.add ⟨B1, 0, none⟩ 2) fun n6 =>
 RDL (Addr.add ⟨B1, 0, none⟩ 3) fun x7 l8 c9 =>
 RDL (Addr.add ⟨B1, 0, none⟩ 4) fun x10 l11 c12 =>
 R (.returned (.agg #[(.int .i64 n4), (.int .i64 n5), (.int .i64 n6), (.slice x7 l8 c9), (.slice x10 l11 c12)]))
theorem T_law14_hearing_eq (W : World) (R : Ending → Hp → Prop) : vfun Pg W an_50 Tryz.f50 [] R = T_law14_hearing W R := by kernel_rfl
theorem does_law14_hearing (W : World) (R : Ending → Hp → Prop) (s : Hp) (h : T_law14_hearing W R s) : Does Pg W F_law14_hearing #[] s R :=
  does_of_vfun Pg W an_50 Tryz.func50 rfl (by kernel_rfl) (by rw [T_law14_hearing_eq]; exact h)
def an_51 : Nat → Ann := fun b => match b with
 | 0 => { ms := [18], ks := [.i .i64], us := [0, 1, 17, 28], rt := false, ex := [] }
 | _ => {}
abbrev rv_51 : List ResultVar := [.cell 0 37]
abbrev rs_51 : List Nat := [28, 0]
def L_law14_furrow_0 (W : World) (R : Ending → Hp → Prop) (za0 : Addr) (za1 : Addr) (zn2 : Int) (n98 : Int) : Hp → Prop :=
 LOOPN [.i .i64] (fun ys next s => ∀ j : Tm, vc Pg W 28 rs_51 an_51 false (sub (bodyOf Tryz.f51) [1, 1, 0, 1, 0, 0]) 0 (KLoop [18] [0, 1, 17, 28] [(.pointer (some za0)), (.pointer (some za1)), (.int .i64 zn2), (.tuple #[])] next (KBlk 0 (KS Pg W 28 rs_51 an_51 false (sub (bodyOf Tryz.f51) [1, 1, 1]) 0 (fin Pg W 28 rv_51 R)))) (known [18] ys (known [0, 1, 17, 28] [(.pointer (some za0)), (.pointer (some za1)), (.int .i64 zn2), (.tuple #[])] j)) s) [(.int .i64 n98)]
def B_law14_furrow_0 (W : World) (R : Ending → Hp → Prop) (za0 : Addr) (za1 : Addr) (zn2 : Int) (n98 : Int) (nx0 : List Value → Hp → Prop) : Hp → Prop :=
 BR (decide (n98 < zn2))
 (RDL (Addr.add za1 1) fun x99 l100 c101 =>
 CALL Pg W F_law14_span [(.int .i64 30), (.int .i64 30)]
 (fun v102 => AGG v102 fun q104 => HD q104 fun v105 r106 => TYI .i64 v105 fun n107 =>
 HD r106 fun v108 r109 => TYI .i64 v108 fun n110 =>
 NL r109 <|
 ANDS (RDL (Addr.add za1 1) fun x111 l112 c113 =>
 fun _ => ((.slice x111 l112 c113) : Value) = (.slice x99 l100 c101)) <|
 NEW 74 [(.int .i64 n107), (.int .i64 n110)] fun B114 =>
 ANDS (RDL (Addr.add za1 1) fun x115 l116 c117 =>
 fun _ => ((.slice x115 l116 c117) : Value) = (.slice x99 l100 c101)) <|
 APP Pg 74 2 x99 l100 c101 (some ⟨B114, 0, none⟩) 1 fun x118 l119 c120 =>
 WR (Addr.add (Addr.add za1 1) 0) (.slice x118 l119 c120) <|
 NX [(.pointer (some za0)), (.pointer (some za1)), (.int .i64 zn2), (.tuple #[])] [(.pointer (some za0)), (.pointer (some za1)), (.int .i64 zn2), (.tuple #[])] (nx0 [(.int .i64 (IntKind.wrap .i64 (n98 + 1)))]))
 (fun e103 => R (.panicked e103)))
 (RDL (Addr.add za1 0) fun x121 l122 c123 =>
 RDL (Addr.add za1 1) fun x124 l125 c126 =>
 RDL (Addr.add za1 2) fun x127 l128 c129 =>
 WR (Addr.add za0 0) (.slice x121 l122 c123) <|
 WR (Addr.add za0 1) (.slice x124 l125 c126) <|
 WR (Addr.add za0 2) (.slice x127 l128 c129) <|
 RDL (Addr.add za0 0) fun x130 l131 c132 =>
 RDL (Addr.add za0 1) fun x133 l134 c135 =>
 RDL (Addr.add za0 2) fun x136 l137 c138 =>
 R (.returned (.agg #[(.slice x130 l131 c132), (.slice x133 l134 c135), (.slice x136 l137 c138)])))
theorem B_law14_furrow_0_eq (W : World) (R : Ending → Hp → Prop) (za0 : Addr) (za1 : Addr) (zn2 : Int) (n98 : Int) (nx0 : List Value → Hp → Prop) (j : Tm) : vc Pg W 28 rs_51 an_51 false (sub (bodyOf Tryz.f51) [1, 1, 0, 1, 0, 0]) 0 (KLoop [18] [0, 1, 17, 28] [(.pointer (some za0)), (.pointer (some za1)), (.int .i64 zn2), (.tuple #[])] nx0 (KBlk 0 (KS Pg W 28 rs_51 an_51 false (sub (bodyOf Tryz.f51) [1, 1, 1]) 0 (fin Pg W 28 rv_51 R)))) (known [18] [(.int .i64 n98)] (known [0, 1, 17, 28] [(.pointer (some za0)), (.pointer (some za1)), (.int .i64 zn2), (.tuple #[])] j)) = B_law14_furrow_0 W R za0 za1 zn2 n98 nx0 := by kernel_rfl
def N_law14_furrow_0 (I : Int → Hp → Prop) (μ : Int → Hp → Nat) (n980 : Int) (s : Hp) (vs : List Value) : Hp → Prop := fun s' => ∃ n98, vs = [(.int .i64 n98)] ∧ I n98 s' ∧ μ n98 s' < μ n980 s
theorem L_law14_furrow_0_rule (W : World) (R : Ending → Hp → Prop) (za0 : Addr) (za1 : Addr) (zn2 : Int) (I : Int → Hp → Prop) (μ : Int → Hp → Nat) (n980 : Int) (s : Hp) (h0 : I n980 s)
    (hr : ∀ (n98 : Int) (s : Hp), I n98 s → B_law14_furrow_0 W R za0 za1 zn2 n98 (fun vs => N_law14_furrow_0 I μ n98 s vs) s) : L_law14_furrow_0 W R za0 za1 zn2 n980 s := by
  refine ⟨fun vs s => ∃ n98, vs = [(.int .i64 n98)] ∧ I n98 s, fun vs s => (match vs with | [.int _ n98] => μ n98 s | _ => 0), ⟨⟨⟨_, rfl⟩, trivial⟩, ⟨_, rfl, h0⟩⟩, ?_⟩
  intro n98 s hI j
  obtain ⟨n98', hy, hI⟩ := hI
  have hI' : I n98 s := by cases hy; exact hI
  have hh := hr n98 s hI'
  rw [← B_law14_furrow_0_eq W R za0 za1 zn2 n98 _ j] at hh
  refine vc_mono ?_ _ _ hh
  exact KLoop_mono (fun vs s' h => by obtain ⟨n981, rfl, h1, h2⟩ := h; exact ⟨⟨⟨_, rfl⟩, trivial⟩, ⟨_, rfl, h1⟩, h2⟩)
def T_law14_furrow (W : World) (R : Ending → Hp → Prop) : Hp → Prop :=
 NEWZ Pg 37 fun B1 =>
 CALL Pg W F_law14_span [(.int .i64 0), (.int .i64 1)]
 (fun v2 => AGG v2 fun q4 => HD q4 fun v5 r6 => TYI .i64 v5 fun n7 =>
 HD r6 fun v8 r9 => TYI .i64 v8 fun n10 =>
 NL r9 <|
 CALL Pg W F_law14_span [(.int .i64 2), (.int .i64 3)]
 (fun v11 => AGG v11 fun q13 => HD q13 fun v14 r15 => TYI .i64 v14 fun n16 =>
 HD r15 fun v17 r18 => TYI .i64 v17 fun n19 =>
 NL r18 <|
 CALL Pg W F_law14_span [(.int .i64 0), (.int .i64 0)]
 (fun v20 => AGG v20 fun q22 => HD q22 fun v23 r24 => TYI .i64 v23 fun n25 =>
 HD r24 fun v26 r27 => TYI .i64 v26 fun n28 =>
 NL r27 <|
 CALL Pg W F_law14_span [(.int .i64 1), (.int .i64 1)]
 (fun v29 => AGG v29 fun q31 => HD q31 fun v32 r33 => TYI .i64 v32 fun n34 =>
 HD r33 fun v35 r36 => TYI .i64 v35 fun n37 =>
 NL r36 <|
 CALL Pg W F_law14_span [(.int .i64 5), (.int .i64 6)]
 (fun v38 => AGG v38 fun q40 => HD q40 fun v41 r42 => TYI .i64 v41 fun n43 =>
 HD r42 fun v44 r45 => TYI .i64 v44 fun n46 =>
 NL r45 <|
 NEW 74 [(.int .i64 n7), (.int .i64 n10), (.int .i64 n16), (.int .i64 n19), (.int .i64 n25), (.int .i64 n28), (.int .i64 n34), (.int .i64 n37), (.int .i64 n43), (.int .i64 n46)] fun B47 =>
 CALL Pg W F_law14_span [(.int .i64 15), (.int .i64 16)]
 (fun v48 => AGG v48 fun q50 => HD q50 fun v51 r52 => TYI .i64 v51 fun n53 =>
 HD r52 fun v54 r55 => TYI .i64 v54 fun n56 =>
 NL r55 <|
 CALL Pg W F_law14_span [(.int .i64 14), (.int .i64 18)]
 (fun v57 => AGG v57 fun q59 => HD q59 fun v60 r61 => TYI .i64 v60 fun n62 =>
 HD r61 fun v63 r64 => TYI .i64 v63 fun n65 =>
 NL r64 <|
 CALL Pg W F_law14_span [(.int .i64 15), (.int .i64 15)]
 (fun v66 => AGG v66 fun q68 => HD q68 fun v69 r70 => TYI .i64 v69 fun n71 =>
 HD r70 fun v72 r73 => TYI .i64 v72 fun n74 =>
 NL r73 <|
 CALL Pg W F_law14_span [(.int .i64 12), (.int .i64 14)]
 (fun v75 => AGG v75 fun q77 => HD q77 fun v78 r79 => TYI .i64 v78 fun n80 =>
 HD r79 fun v81 r82 => TYI .i64 v81 fun n83 =>
 NL r82 <|
 CALL Pg W F_law14_span [(.int .i64 16), (.int .i64 17)]
 (fun v84 => AGG v84 fun q86 => HD q86 fun v87 r88 => TYI .i64 v87 fun n89 =>
 HD r88 fun v90 r91 => TYI .i64 v90 fun n92 =>
 NL r91 <|
 NEW 74 [(.int .i64 n53), (.int .i64 n56), (.int .i64 n62), (.int .i64 n65), (.int .i64 n71), (.int .i64 n74), (.int .i64 n80), (.int .i64 n83), (.int .i64 n89), (.int .i64 n92)] fun B93 =>
 NEWZ Pg 37 fun B94 =>
 WR (Addr.add ⟨B94, 0, none⟩ 0) (.slice (some ⟨B47, 0, none⟩) 5 5) <|
 WR (Addr.add ⟨B94, 0, none⟩ 1) (.slice none 0 0) <|
 WR (Addr.add ⟨B94, 0, none⟩ 2) (.slice (some ⟨B93, 0, none⟩) 5 5) <|
 RDL (Addr.add ⟨B94, 0, none⟩ 0) fun x95 l96 c97 =>
 L_law14_furrow_0 W R ⟨B1, 0, none⟩ ⟨B94, 0, none⟩ (↑l96 : Int) 0)
 (fun e85 => R (.panicked e85)))
 (fun e76 => R (.panicked e76)))
 (fun e67 => R (.panicked e67)))
 (fun e58 => R (.panicked e58)))
 (fun e49 => R (.panicked e49)))
 (fun e39 => R (.panicked e39)))
 (fun e30 => R (.panicked e30)))
 (fun e21 => R (.panicked e21)))
 (fun e12 => R (.panicked e12)))
 (fun e3 => R (.panicked e3))
theorem T_law14_furrow_eq (W : World) (R : Ending → Hp → Prop) : vfun Pg W an_51 Tryz.f51 [] R = T_law14_furrow W R := by kernel_rfl
theorem does_law14_furrow (W : World) (R : Ending → Hp → Prop) (s : Hp) (h : T_law14_furrow W R s) : Does Pg W F_law14_furrow #[] s R :=
  does_of_vfun Pg W an_51 Tryz.func51 rfl (by kernel_rfl) (by rw [T_law14_furrow_eq]; exact h)
def an_93 : Nat → Ann := fun b => match b with
 | _ => {}
abbrev rv_93 : List ResultVar := [.cell 8 77]
abbrev rs_93 : List Nat := [16, 8]
def T_law14_pegs_c1 (W : World) (n1 : Int) (n2 : Int) (n3 : Int) (n4 : Int) (R : Ending → Hp → Prop) : Hp → Prop :=
 NEWZ Pg 77 fun B5 =>
 CALL Pg W F_law14_span [(.int .i64 n1), (.int .i64 n2)]
 (fun v6 => AGG v6 fun q8 => HD q8 fun v9 r10 => TYI .i64 v9 fun n11 =>
 HD r10 fun v12 r13 => TYI .i64 v12 fun n14 =>
 NL r13 <|
 CALL Pg W F_law14_span [(.int .i64 n3), (.int .i64 n4)]
 (fun v15 => AGG v15 fun q17 => HD q17 fun v18 r19 => TYI .i64 v18 fun n20 =>
 HD r19 fun v21 r22 => TYI .i64 v21 fun n23 =>
 NL r22 <|
 WR (Addr.add ⟨B5, 0, none⟩ 0) (.int .i64 n11) <|
 WR (Addr.add ⟨B5, 0, none⟩ 1) (.int .i64 n14) <|
 WR (Addr.add ⟨B5, 0, none⟩ 2) (.int .i64 n20) <|
 WR (Addr.add ⟨B5, 0, none⟩ 3) (.int .i64 n23) <|
 RDI .i64 (Addr.add ⟨B5, 0, none⟩ 0) fun n24 =>
 RDI .i64 (Addr.add ⟨B5, 0, none⟩ 1) fun n25 =>
 RDI .i64 (Addr.add ⟨B5, 0, none⟩ 2) fun n26 =>
 RDI .i64 (Addr.add ⟨B5, 0, none⟩ 3) fun n27 =>
 R (.returned (.agg #[(.int .i64 n24), (.int .i64 n25), (.int .i64 n26), (.int .i64 n27)])))
 (fun e16 => R (.panicked e16)))
 (fun e7 => R (.panicked e7))
theorem T_law14_pegs_c1_eq (W : World) (n1 : Int) (n2 : Int) (n3 : Int) (n4 : Int) (R : Ending → Hp → Prop) : vfun Pg W an_93 Tryz.f93 [(.int .i64 n1), (.int .i64 n2), (.int .i64 n3), (.int .i64 n4)] R = T_law14_pegs_c1 W n1 n2 n3 n4 R := by kernel_rfl
theorem does_law14_pegs_c1 (W : World) (n1 : Int) (n2 : Int) (n3 : Int) (n4 : Int) (R : Ending → Hp → Prop) (s : Hp) (h : T_law14_pegs_c1 W n1 n2 n3 n4 R s) : Does Pg W F_law14_pegs_c1 #[(.int .i64 n1), (.int .i64 n2), (.int .i64 n3), (.int .i64 n4)] s R :=
  does_of_vfun Pg W an_93 Tryz.func93 rfl (by kernel_rfl) (by rw [T_law14_pegs_c1_eq]; exact h)
end Go.Proofs.YtcjgbanpkmpekaaGreatDoor.G

/- The chapter's examples. -/
set_option linter.unusedVariables false
set_option linter.unusedSimpArgs false
set_option maxRecDepth 20000
namespace Go.Proofs.YtcjgbanpkmpekaaGreatDoor.G
open Go.V
def exPg : PgS := ⟨12, [⟨0, 0, 0, 0⟩, ⟨4, 5, 0, 0⟩, ⟨0, 0, 3, 3⟩], [⟨0, 1, 7, 7⟩, ⟨0, 2, 3, 3⟩, ⟨1, 2, 7, 8⟩]⟩
def exPn : PnS := ⟨[2, 2, 1], [2, 1, 2], [(0, 2), (2, 1)]⟩
def exHr : HrS := ⟨2, 3, 1, [⟨0, 0, wd0, wd0⟩, ⟨1, 0, ⟨false, 0, true⟩, wd0⟩, ⟨2, 1, ⟨true, 1, true⟩, ⟨false, 1, false⟩⟩], [⟨false, 1, true⟩]⟩
def exFr : FrS := ⟨[(0, 1), (2, 3), (0, 0), (1, 1), (5, 6)], [(30, 30), (30, 30), (30, 30), (30, 30), (30, 30)], [(15, 16), (14, 18), (15, 15), (12, 14), (16, 17)]⟩
theorem it_1 (n : Nat) (h : n < 10) : it (n : Int) = [UInt8.ofNat (48 + n)] := by rw [it_nn (by omega), Int.toNat_natCast, Lib.decDigits_one h]
theorem it_0 : it 0 = [48] := it_1 0 (by omega)
theorem it_1' : it 1 = [49] := it_1 1 (by omega)
theorem it_2 : it 2 = [50] := it_1 2 (by omega)
theorem it_3 : it 3 = [51] := it_1 3 (by omega)
theorem it_4 : it 4 = [52] := it_1 4 (by omega)
theorem it_5 : it 5 = [53] := it_1 5 (by omega)
theorem it_7 : it 7 = [55] := it_1 7 (by omega)
theorem it_8 : it 8 = [56] := it_1 8 (by omega)
theorem it_12 : it 12 = [49, 50] := by
  have : it ((12 : Nat) : Int) = [49, 50] := by rw [it_nn (by omega), Int.toNat_natCast, Lib.decDigits_two (by omega) (by omega)]; decide
  exact this
def tPg : BL := [102, 105, 101, 108, 100, 32, 49, 50, 10, 112, 111, 115, 116, 32, 48, 46, 46, 48, 32, 48, 46, 46, 48, 10, 112, 111, 115, 116, 32, 52, 46, 46, 53, 32, 48, 46, 46, 48, 10, 112, 111, 115, 116, 32, 48, 46, 46, 48, 32, 51, 46, 46, 51, 10, 99, 104, 97, 105, 110, 32, 48, 32, 49, 32, 55, 46, 46, 55, 10, 99, 104, 97, 105, 110, 32, 48, 32, 50, 32, 51, 46, 46, 51, 10, 99, 104, 97, 105, 110, 32, 49, 32, 50, 32, 55, 46, 46, 56, 10]
def tPn : BL := [106, 117, 100, 103, 101, 115, 32, 50, 32, 50, 32, 49, 10, 112, 108, 111, 116, 115, 32, 50, 32, 49, 32, 50, 10, 107, 105, 110, 32, 48, 32, 50, 10, 107, 105, 110, 32, 50, 32, 49, 10]
def tHr : BL := [104, 101, 97, 114, 105, 110, 103, 32, 50, 32, 51, 32, 49, 10, 48, 32, 105, 115, 32, 102, 48, 10, 49, 32, 105, 115, 32, 45, 102, 48, 10, 50, 32, 111, 114, 32, 45, 119, 49, 32, 102, 49, 10, 107, 110, 111, 119, 110, 32, 45, 102, 49, 10]
def tFr : BL := [70, 5, 97, 113, 96, 104, 137, 30, 30, 30, 30, 30, 30, 30, 30, 30, 30, 15, 16, 14, 18, 15, 15, 12, 14, 16, 17, 39, 72]
theorem ok_exPg : okPg exPg = true := by decide
theorem ok_exPn : okPn exPn = true := by decide
theorem ok_exHr : okHr exHr = true := by decide
theorem ok_exFr : okFr exFr = true := by decide
theorem tx_exPg : txt (pgW exPg) = tPg := by
  simp only [pgW, exPg, postW, chainW, dots, List.map_cons, List.map_nil, it_0, it_1', it_2, it_3, it_4, it_5, it_7, it_8, it_12]
  decide
theorem tx_exPn : txt (pnW exPn) = tPn := by
  simp only [pnW, exPn, kinW, List.map_cons, List.map_nil, it_0, it_1', it_2]
  decide
theorem tx_exHr : txt (hrW exHr) = tHr := by
  simp only [hrW, exHr, clW, knownW, wdT, wd0, List.map_cons, List.map_nil, it_0, it_1', it_2, it_3]
  decide
theorem by_exFr : withC (frB exFr) = tFr := by decide
theorem rd_exPg : readT pgStep pg0 okPg pgW tPg = (exPg, 0) := by rw [← tx_exPg]; exact kind_pg.readT_txt ok_exPg
theorem rd_exPn : readT pnStep pn0 okPn pnW tPn = (exPn, 0) := by rw [← tx_exPn]; exact kind_pn.readT_txt ok_exPn
theorem rd_exHr : readT hrStep hr0 okHr hrW tHr = (exHr, 0) := by rw [← tx_exHr]; exact kind_hr.readT_txt ok_exHr
theorem rd_exFr : readF tFr = (exFr, 0) := by rw [← by_exFr]; exact readF_w ok_exFr
section
variable {W : World} {K : VK} {E : List PanicEntry → Hp → Prop} {s : Hp}
theorem c_lspan {a b : Int} (hk : ∀ s', Ext s s' → K (.agg #[.int .i64 a, .int .i64 b]) s') : CALL Pg W F_law14_span [.int .i64 a, .int .i64 b] K E s := by
  refine does_law14_span W a b _ s ?_
  unfold T_law14_span
  refine nw2 zc_74 rfl rfl fun s1 e1 z1 o0 o1 => ?_
  exact ⟨_, o0.cell, _, o1.cell, hk s1 e1⟩
theorem c_at {a b c d : Int} (hk : ∀ s', Ext s s' → K (.agg #[.int .i64 a, .int .i64 b, .int .i64 c, .int .i64 d]) s') : CALLV Pg W (.func (.func 93) #[] #[]) [.int .i64 a, .int .i64 b, .int .i64 c, .int .i64 d] K E s := by
  refine CALLV_func ?_
  refine does_law14_pegs_c1 W a b c d _ s ?_
  unfold T_law14_pegs_c1
  refine NEWZ_rule zc_77 fun s1 e1 z1 o => ?_
  refine c_lspan fun s2 e2 => ?_
  try simp only [TUP_mk, AGG_mk, HD_mk, NL_mk, TYI_mk, TYB_mk, TYP_mk, TYL_mk, TYS_mk, TYM_mk, SO_mk, NX_mk, endK_mk, endK_mk', add_0]
  refine c_lspan fun s3 e3 => ?_
  try simp only [TUP_mk, AGG_mk, HD_mk, NL_mk, TYI_mk, TYB_mk, TYP_mk, TYL_mk, TYS_mk, TYM_mk, SO_mk, NX_mk, endK_mk, endK_mk', add_0]
  have e13 := e2.trans e3
  refine wrs (a := ⟨s.size, 0, none⟩) (vs := [.int .i64 a, .int .i64 b, .int .i64 c, .int .i64 d]) (cs := [.int .i64 0, .int .i64 0, .int .i64 0, .int .i64 0]) rfl (fun i hi => e13.own (by have := o i _ (List.getElem?_eq_getElem hi); rw [add_nil, Nat.zero_add]; exact this)) (by simp [oneCell]) fun s4 k4 z4 q => ?_
  refine ⟨_, (q 0 (by simp)).cell, _, (q 1 (by simp)).cell, _, (q 2 (by simp)).cell, _, (q 3 (by simp)).cell, ?_⟩
  try simp only [TUP_mk, AGG_mk, HD_mk, NL_mk, TYI_mk, TYB_mk, TYP_mk, TYL_mk, TYS_mk, TYM_mk, SO_mk, NX_mk, endK_mk, endK_mk', add_0]
  exact hk s4 (ext_kp (e1.trans e13) (Nat.le_refl _) k4)
theorem c_exPegs (hk : ∀ s' x y c d, Ext s s' → RowAt s' x (exPg.posts.flatMap q4V) → RowAt s' y (exPg.lens.flatMap q4V) → K (.agg #[.int .i64 12, .slice x 3 c, .slice y 3 d]) s') : CALL Pg W F_law14_pegs [] K E s := by
  refine does_law14_pegs W _ s ?_
  unfold T_law14_pegs
  refine nz3 zc_25 fun s1 e1 z1 o0 o1 o2 => ?_
  refine c_at fun s2 e2 => ?_
  try simp only [TUP_mk, AGG_mk, HD_mk, NL_mk, TYI_mk, TYB_mk, TYP_mk, TYL_mk, TYS_mk, TYM_mk, SO_mk, NX_mk, endK_mk, endK_mk', add_0]
  refine c_at fun s3 e3 => ?_
  try simp only [TUP_mk, AGG_mk, HD_mk, NL_mk, TYI_mk, TYB_mk, TYP_mk, TYL_mk, TYS_mk, TYM_mk, SO_mk, NX_mk, endK_mk, endK_mk', add_0]
  refine c_at fun s4 e4 => ?_
  try simp only [TUP_mk, AGG_mk, HD_mk, NL_mk, TYI_mk, TYB_mk, TYP_mk, TYL_mk, TYS_mk, TYM_mk, SO_mk, NX_mk, endK_mk, endK_mk', add_0]
  refine NEW_rule fun s5 e5 z5 o5 _ => ?_
  refine c_lspan fun s6 e6 => ?_
  try simp only [TUP_mk, AGG_mk, HD_mk, NL_mk, TYI_mk, TYB_mk, TYP_mk, TYL_mk, TYS_mk, TYM_mk, SO_mk, NX_mk, endK_mk, endK_mk', add_0]
  refine c_lspan fun s7 e7 => ?_
  try simp only [TUP_mk, AGG_mk, HD_mk, NL_mk, TYI_mk, TYB_mk, TYP_mk, TYL_mk, TYS_mk, TYM_mk, SO_mk, NX_mk, endK_mk, endK_mk', add_0]
  refine c_lspan fun s8 e8 => ?_
  try simp only [TUP_mk, AGG_mk, HD_mk, NL_mk, TYI_mk, TYB_mk, TYP_mk, TYL_mk, TYS_mk, TYM_mk, SO_mk, NX_mk, endK_mk, endK_mk', add_0]
  refine NEW_rule fun s9 e9 z9 o9 _ => ?_
  have e59 := ((e6.trans e7).trans e8).trans e9
  have e15 := ((e2.trans e3).trans e4).trans e5
  have e19 := e15.trans e59
  have s4z : s1.size ≤ s4.size := ((e2.trans e3).trans e4).1
  have s8z : s1.size ≤ s8.size := (e15.trans ((e6.trans e7).trans e8)).1
  refine wrs3 (e19.own o0) (e19.own o1) (e19.own o2) rfl rfl rfl fun s10 k10 z10 q0 q1 q2 => ?_
  refine ⟨_, q0.cell, _, _, _, q1.cell, _, _, _, q2.cell, ?_⟩
  try simp only [TUP_mk, AGG_mk, HD_mk, NL_mk, TYI_mk, TYB_mk, TYP_mk, TYL_mk, TYS_mk, TYM_mk, SO_mk, NX_mk, endK_mk, endK_mk', add_0]
  refine hk s10 _ _ _ _ (ext_kp (e1.trans e19) (Nat.le_refl _) k10) ?_ ?_
  · exact ((row_new o5).ext e59).keep k10 (fun a ha hh => by cases ha; have h' : s4.size = s.size := hh; omega)
  · exact (row_new o9).keep k10 (fun a ha hh => by cases ha; have h' : s8.size = s.size := hh; omega)
theorem c_exPanels (hk : ∀ s' x y w c d e, Ext s s' → RowAt s' x (ints exPn.loads) → RowAt s' y (ints exPn.needs) → RowAt s' w (exPn.kin.flatMap kinV) → K (.agg #[.slice x 3 c, .slice y 3 d, .slice w 2 e]) s') : CALL Pg W F_law14_panels [] K E s := by
  refine does_law14_panels W _ s ?_
  unfold T_law14_panels
  refine nz3 zc_29 fun s1 e1 z1 o0 o1 o2 => ?_
  refine NEW_rule fun s2 e2 z2 a2 _ => ?_
  refine NEW_rule fun s3 e3 z3 a3 _ => ?_
  refine NEW_rule fun s4 e4 z4 a4 _ => ?_
  have e14 := (e2.trans e3).trans e4
  refine wrs3 (e14.own o0) (e14.own o1) (e14.own o2) rfl rfl rfl fun s10 k10 z10 q0 q1 q2 => ?_
  refine ⟨_, _, _, q0.cell, _, _, _, q1.cell, _, _, _, q2.cell, ?_⟩
  try simp only [TUP_mk, AGG_mk, HD_mk, NL_mk, TYI_mk, TYB_mk, TYP_mk, TYL_mk, TYS_mk, TYM_mk, SO_mk, NX_mk, endK_mk, endK_mk', add_0]
  refine hk s10 _ _ _ _ _ _ (ext_kp (e1.trans e14) (Nat.le_refl _) k10) ?_ ?_ ?_
  · exact ((row_new a2).ext (e3.trans e4)).keep k10 (fun a ha hh => by cases ha; have h' : s1.size = s.size := hh; omega)
  · exact ((row_new a3).ext e4).keep k10 (fun a ha hh => by cases ha; have h' : s2.size = s.size := hh; omega)
  · exact (row_new a4).keep k10 (fun a ha hh => by cases ha; have h' : s3.size = s.size := hh; omega)
theorem c_exHearing (hk : ∀ s' x y c d, Ext s s' → RowAt s' x (exHr.claims.flatMap cl8) → RowAt s' y (exHr.known.flatMap wd3) → K (.agg #[.int .i64 2, .int .i64 3, .int .i64 1, .slice x 3 c, .slice y 1 d]) s') : CALL Pg W F_law14_hearing [] K E s := by
  refine does_law14_hearing W _ s ?_
  unfold T_law14_hearing
  refine nz5 zc_34 fun s1 e1 z1 o0 o1 o2 o3 o4 => ?_
  refine NEW_rule fun s2 e2 z2 a2 _ => ?_
  refine NEW_rule fun s3 e3 z3 a3 _ => ?_
  have e13 := e2.trans e3
  refine wrs5 (e13.own o0) (e13.own o1) (e13.own o2) (e13.own o3) (e13.own o4) (by simp [oneCell]) fun s10 k10 z10 q0 q1 q2 q3 q4 => ?_
  refine ⟨_, q0.cell, _, q1.cell, _, q2.cell, _, _, _, q3.cell, _, _, _, q4.cell, ?_⟩
  try simp only [TUP_mk, AGG_mk, HD_mk, NL_mk, TYI_mk, TYB_mk, TYP_mk, TYL_mk, TYS_mk, TYM_mk, SO_mk, NX_mk, endK_mk, endK_mk', add_0]
  refine hk s10 _ _ _ _ (ext_kp (e1.trans e13) (Nat.le_refl _) k10) ?_ ?_
  · exact ((row_new a2).ext e3).keep k10 (fun a ha hh => by cases ha; have h' : s1.size = s.size := hh; omega)
  · exact (row_new a3).keep k10 (fun a ha hh => by cases ha; have h' : s2.size = s.size := hh; omega)
theorem zc_37' : zc Pg 37 = [.slice none 0 0, .slice none 0 0, .slice none 0 0] := by kernel_rfl
theorem rep_snoc (k : Nat) : (List.replicate (k + 1) ((30, 30) : Int × Int)).flatMap kinV = (List.replicate k ((30, 30) : Int × Int)).flatMap kinV ++ kinV (30, 30) := by
  rw [List.replicate_succ', List.flatMap_append]; simp
theorem c_exFurrow (hk : ∀ s' x y w c d e, Ext s s' → FrC s' x y w exFr → K (.agg #[.slice x 5 c, .slice y 5 d, .slice w 5 e]) s') : CALL Pg W F_law14_furrow [] K E s := by
  refine does_law14_furrow W _ s ?_
  unfold T_law14_furrow
  refine nz3 zc_37' fun s1 e1 z1 o0 o1 o2 => ?_
  refine c_lspan fun t1 f1 => ?_
  try simp only [TUP_mk, AGG_mk, HD_mk, NL_mk, TYI_mk, TYB_mk, TYP_mk, TYL_mk, TYS_mk, TYM_mk, SO_mk, NX_mk, endK_mk, endK_mk', add_0]
  refine c_lspan fun t2 f2 => ?_
  try simp only [TUP_mk, AGG_mk, HD_mk, NL_mk, TYI_mk, TYB_mk, TYP_mk, TYL_mk, TYS_mk, TYM_mk, SO_mk, NX_mk, endK_mk, endK_mk', add_0]
  refine c_lspan fun t3 f3 => ?_
  try simp only [TUP_mk, AGG_mk, HD_mk, NL_mk, TYI_mk, TYB_mk, TYP_mk, TYL_mk, TYS_mk, TYM_mk, SO_mk, NX_mk, endK_mk, endK_mk', add_0]
  refine c_lspan fun t4 f4 => ?_
  try simp only [TUP_mk, AGG_mk, HD_mk, NL_mk, TYI_mk, TYB_mk, TYP_mk, TYL_mk, TYS_mk, TYM_mk, SO_mk, NX_mk, endK_mk, endK_mk', add_0]
  refine c_lspan fun t5 f5 => ?_
  try simp only [TUP_mk, AGG_mk, HD_mk, NL_mk, TYI_mk, TYB_mk, TYP_mk, TYL_mk, TYS_mk, TYM_mk, SO_mk, NX_mk, endK_mk, endK_mk', add_0]
  refine NEW_rule fun s2 e2 z2 a2 _ => ?_
  refine c_lspan fun u1 g1 => ?_
  try simp only [TUP_mk, AGG_mk, HD_mk, NL_mk, TYI_mk, TYB_mk, TYP_mk, TYL_mk, TYS_mk, TYM_mk, SO_mk, NX_mk, endK_mk, endK_mk', add_0]
  refine c_lspan fun u2 g2 => ?_
  try simp only [TUP_mk, AGG_mk, HD_mk, NL_mk, TYI_mk, TYB_mk, TYP_mk, TYL_mk, TYS_mk, TYM_mk, SO_mk, NX_mk, endK_mk, endK_mk', add_0]
  refine c_lspan fun u3 g3 => ?_
  try simp only [TUP_mk, AGG_mk, HD_mk, NL_mk, TYI_mk, TYB_mk, TYP_mk, TYL_mk, TYS_mk, TYM_mk, SO_mk, NX_mk, endK_mk, endK_mk', add_0]
  refine c_lspan fun u4 g4 => ?_
  try simp only [TUP_mk, AGG_mk, HD_mk, NL_mk, TYI_mk, TYB_mk, TYP_mk, TYL_mk, TYS_mk, TYM_mk, SO_mk, NX_mk, endK_mk, endK_mk', add_0]
  refine c_lspan fun u5 g5 => ?_
  try simp only [TUP_mk, AGG_mk, HD_mk, NL_mk, TYI_mk, TYB_mk, TYP_mk, TYL_mk, TYS_mk, TYM_mk, SO_mk, NX_mk, endK_mk, endK_mk', add_0]
  refine NEW_rule fun s3 e3 z3 a3 _ => ?_
  have e12 := ((((f1.trans f2).trans f3).trans f4).trans f5).trans e2
  have e23 := ((((g1.trans g2).trans g3).trans g4).trans g5).trans e3
  have s1t : s1.size ≤ t5.size := ((((f1.trans f2).trans f3).trans f4).trans f5).1
  have s1u : s1.size ≤ u5.size := (e12.trans ((((g1.trans g2).trans g3).trans g4).trans g5)).1
  refine nw3 zc_37' rfl rfl rfl fun s4 e4 z4 b0 b1 b2 => ?_
  refine ⟨_, _, _, b0.cell, ?_⟩
  have hx := (row_new a2).ext (e23.trans e4)
  have hw := (row_new a3).ext e4
  have e14 := e12.trans (e23.trans e4)
  have hs3 : s1.size ≤ s3.size := (e12.trans e23).1
  refine L_law14_furrow_0_rule W _ _ _ _ (fun n s' => ∃ k : Nat, n = (k : Int) ∧ k ≤ 5 ∧ ∃ x c, Kp (· = s3.size) s4 s' ∧ Own s' ⟨s3.size, 0, none⟩ (.slice (some ⟨t5.size, 0, none⟩) 5 5) ∧ Own s' ⟨s3.size, 1, none⟩ (.slice x k c) ∧ Own s' ⟨s3.size, 2, none⟩ (.slice (some ⟨u5.size, 0, none⟩) 5 5) ∧ Fr s4.size s' x k c 2 ((List.replicate k ((30, 30) : Int × Int)).flatMap kinV)) (fun n s' => 5 - n.toNat) _ s4 ⟨0, rfl, by omega, none, 0, Kp.refl _, b0, b1, b2, Fr.nil _ _ _⟩ ?_
  rintro n s5 ⟨k, rfl, hk5, x, c, k5, c0, c1, c2, fr⟩
  unfold B_law14_furrow_0
  refine BR_dec (fun hlt => ?_) (fun hge => ?_)
  · have hlt' : k < 5 := by have h9 : (k : Int) < ((5 : Nat) : Int) := hlt; omega
    refine ⟨_, _, _, c1.cell, ?_⟩
    refine c_lspan fun s6 e6 => ?_
    try simp only [TUP_mk, AGG_mk, HD_mk, NL_mk, TYI_mk, TYB_mk, TYP_mk, TYL_mk, TYS_mk, TYM_mk, SO_mk, NX_mk, endK_mk, endK_mk', add_0]
    refine ANDS_i ⟨_, _, _, e6.cell c1.cell, rfl⟩ ?_
    refine NEW_rule fun s7 e7 z7 a7 _ => ?_
    have e57 := e6.trans e7
    refine ANDS_i ⟨_, _, _, e57.cell c1.cell, rfl⟩ ?_
    refine APP_fr (fr.ext e57) (Nat.le_trans k5.1 e57.1) (ws := kinV (30, 30)) (row_new a7) rfl zc_74 rfl (by omega) (by simp [kinV, oneCell]) (by omega) (fun s8 x8 c8 k8 h8 f8 => ?_)
    have hne : ¬ ∃ a, x = some a ∧ a.block = s3.size := fun ⟨a, h1, h2⟩ => by have := fr.fr a h1; omega
    have d0 := k8.own (a := ⟨s3.size, 0, none⟩) hne (e57.own c0)
    have d1 := k8.own (a := ⟨s3.size, 1, none⟩) hne (e57.own c1)
    have d2 := k8.own (a := ⟨s3.size, 2, none⟩) hne (e57.own c2)
    try simp only [TUP_mk, AGG_mk, HD_mk, NL_mk, TYI_mk, TYB_mk, TYP_mk, TYL_mk, TYS_mk, TYM_mk, SO_mk, NX_mk, endK_mk, endK_mk', add_0]
    refine wr1k (a := ⟨s3.size, 1, none⟩) d1 rfl fun s9 k9 z9 q1 kk => ?_
    have hz4 : s3.size < s4.size := by omega
    refine ⟨_, rfl, ⟨k + 1, wr_k (by omega), by omega, x8, c8, ?_, kk ⟨s3.size, 0, none⟩ _ (.inr (by show 0 ≠ 1; omega)) d0, q1, kk ⟨s3.size, 2, none⟩ _ (.inr (by show 2 ≠ 1; omega)) d2, ?_⟩, ms_k (n := 5) hlt' (by omega)⟩
    · exact (kp_trans (k5.ext e57) k8 (fun b ⟨a, h1, h2⟩ => .inr (by rw [← h2]; exact fr.fr a h1))).trans k9
    · rw [rep_snoc]
      exact f8.kp k9 (fun a ha hh => by have := f8.fr a ha; have h' : a.block = s3.size := hh; omega)
  · have hkk : k = 5 := by have h9 : ¬ (k : Int) < ((5 : Nat) : Int) := hge; omega
    subst hkk
    refine ⟨_, _, _, c0.cell, _, _, _, c1.cell, _, _, _, c2.cell, ?_⟩
    have hne : ¬ s.size = s3.size := by omega
    have w0 := k5.own (a := ⟨s.size, 0, none⟩) hne (e14.own o0)
    have w1 := k5.own (a := ⟨s.size, 1, none⟩) hne (e14.own o1)
    have w2 := k5.own (a := ⟨s.size, 2, none⟩) hne (e14.own o2)
    refine wrs3 w0 w1 w2 rfl rfl rfl fun s6 k6 z6 q0 q1 q2 => ?_
    refine ⟨_, _, _, q0.cell, _, _, _, q1.cell, _, _, _, q2.cell, ?_⟩
    try simp only [TUP_mk, AGG_mk, HD_mk, NL_mk, TYI_mk, TYB_mk, TYP_mk, TYL_mk, TYS_mk, TYM_mk, SO_mk, NX_mk, endK_mk, endK_mk', add_0]
    have E5 : Ext s s5 := ext_kp (e1.trans e14) (by omega) k5
    refine hk s6 _ _ _ _ _ _ (ext_kp E5 (Nat.le_refl _) k6) ⟨?_, ?_, ?_⟩
    · exact (hx.keep k5 (fun a ha hh => by cases ha; have h' : t5.size = s3.size := hh; have := e23.1; omega)).keep k6 (fun a ha hh => by cases ha; have h' : t5.size = s.size := hh; omega)
    · exact fr.row.keep k6 (fun a ha hh => by have := fr.fr a ha; have h' : a.block = s.size := hh; omega)
    · exact (hw.keep k5 (fun a ha hh => by cases ha; have h' : u5.size = s3.size := hh; omega)).keep k6 (fun a ha hh => by cases ha; have h' : u5.size = s.size := hh; omega)
end
end Go.Proofs.YtcjgbanpkmpekaaGreatDoor.G

/- Furrows: reading. -/
set_option linter.unusedVariables false
set_option linter.unusedSimpArgs false
set_option maxRecDepth 20000
namespace Go.Proofs.YtcjgbanpkmpekaaGreatDoor.G
open Go.V
theorem zc_37 : zc Pg 37 = [.slice none 0 0, .slice none 0 0, .slice none 0 0] := by kernel_rfl
theorem zc_50 : zc Pg 50 = [.slice none 0 0] := by kernel_rfl
theorem zc_131 : zc Pg 131 = [.nilFunc] := by kernel_rfl
section
variable {W : World} {s : Hp}
theorem vf_73 (W : World) (a b : Addr) (v : Value) (K : Hp → Prop) : vc Pg W 7 [7] (fun _ => {}) false (sub (bodyOf Tryz.f73) [1]) 0 (Kdone 7 K) (updo 7 (some 3) (.tuple #[]) (updo 7 (some 2) v (Go.V.start [.pointer (some a), .pointer (some b)] 0))) =
    RDI .i64 a fun n => BR (n != 0) (WR (b.add 0) (.slice none 0 0) <| WR (b.add 1) (.slice none 0 0) <| WR (b.add 2) (.slice none 0 0) fun s => (undef = undef) ∧ K s) (fun s => (undef = undef) ∧ K s) := by kernel_rfl
theorem told_73 {K : Hp → Prop} {a b : Addr} {rec : Option (List PanicEntry)} {v : Value} (hrec : (rec = none ∧ v = .nilIface) ∨ (rec = some [{ v := v, recovered := false }]))
    (h : CALL Pg W 74 [v, .pointer (some a)] (fun x s1 => x = .tuple #[] ∧ (RDI .i64 a fun n => BR (n != 0) (WR (b.add 0) (.slice none 0 0) <| WR (b.add 1) (.slice none 0 0) <| WR (b.add 2) (.slice none 0 0) K) K) s1) (fun _ => FF) s) : DoesD Pg W 73 [.pointer (some a), .pointer (some b)] rec s K := by
  refine told3_ok (an := fun _ => {}) (id := 0) (d := 2) (d2 := 3) (ty := 20) (ty2 := 0) (pos := "bytes.go:43") (pos2 := "bytes.go:43") (ats := #[20, 129]) (aft := #[{ on := 0, ground := Go.Ground.data }, { on := 0, ground := Go.Ground.chain }]) (c := sub (bodyOf Tryz.f73) [1]) Tryz.func73 (by kernel_rfl) (by kernel_rfl) (by kernel_rfl) (by kernel_rfl) (by kernel_rfl) (show 2 ≤ 7 by decide) (show 2 < 7 by decide) (show 0 < 7 by decide) (by decide) ext_74 hrec ?_
  refine Does.mono h fun e s' he => ?_
  cases e with
  | returned x =>
    obtain ⟨rfl, h2⟩ := he
    show tyR Pg 0 (.tuple #[]) (fun y => _) s'
    have : tyR Pg 0 (.tuple #[]) (fun y => vc Pg W 7 [7] (fun _ => {}) false (sub (bodyOf Tryz.f73) [1]) 0 (Kdone 7 K) (updo 7 (some 3) y (updo 7 (some 2) v (Go.V.start [.pointer (some a), .pointer (some b)] 0)))) s' = vc Pg W 7 [7] (fun _ => {}) false (sub (bodyOf Tryz.f73) [1]) 0 (Kdone 7 K) (updo 7 (some 3) (.tuple #[]) (updo 7 (some 2) v (Go.V.start [.pointer (some a), .pointer (some b)] 0))) s' := rfl
    refine this.mpr ?_
    rw [vf_73]
    obtain ⟨n, hn, h3⟩ := h2
    refine ⟨n, hn, ?_⟩
    refine BR_bool (fun hb => ?_) (fun hb => ?_)
    · rw [hb] at h3
      obtain ⟨g1, g2, g3, g4⟩ := h3
      exact ⟨g1, g2, g3, rfl, g4⟩
    · rw [hb] at h3
      exact ⟨rfl, h3⟩
  | panicked c => exact he
  | _ => exact he
/-- What is left of the bytes, in the variable B; they lie in the block Q. -/
structure RemS (s : Hp) (B Q : Nat) (rem : BL) : Prop where
  row : ∃ x c, Own s ⟨B, 0, none⟩ (.slice x rem.length c) ∧ rem.length ≤ c ∧ RowAt s x (u8s rem) ∧ ∀ b, x = some b → b.block = Q
  ne : Q ≠ B
  lt : Q < s.size
theorem RemS.kp {D : Nat → Prop} {s' : Hp} {B Q : Nat} {rem : BL} (h : RemS s B Q rem) (k : Kp D s s') (hB : ¬ D B) (hQ : ¬ D Q) : RemS s' B Q rem := by
  obtain ⟨⟨x, c, h1, h2, h3, h4⟩, h5, h6⟩ := h
  exact ⟨⟨x, c, k.own hB h1, h2, h3.keep k (fun b hb => by rw [h4 b hb]; exact hQ), h4⟩, h5, Nat.lt_of_lt_of_le h6 k.1⟩
theorem RemS.ext {s' : Hp} {B Q : Nat} {rem : BL} (h : RemS s B Q rem) (e : Ext s s') : RemS s' B Q rem := h.kp (e.kp (C := fun _ => False)) id id
theorem RemS.blt {B Q : Nat} {rem : BL} (h : RemS s B Q rem) : B < s.size := by obtain ⟨⟨x, c, ho, _⟩, _⟩ := h; exact ho.lt
variable {K : VK} {E : List PanicEntry → Hp → Prop}
theorem c_next {B Q : Nat} {rem : BL} (hr : RemS s B Q rem) (h0 : rem = [] → E (MF 8) s) (h1 : ∀ b r s', rem = b :: r → Kp (· = B) s s' → s'.size = s.size → RemS s' B Q r → K (.int .i64 (b.toNat : Int)) s') : CALL Pg W F_book_ReadFurrow_c2 [.pointer (some ⟨B, 0, none⟩)] K E s := by
  obtain ⟨⟨x, c, ho, hc, hrow, hq⟩, hne, hlt⟩ := hr
  refine does_book_ReadFurrow_c2 W ⟨B, 0, none⟩ _ s ?_
  unfold T_book_ReadFurrow_c2
  refine ⟨x, _, c, ho.cell, ?_⟩
  cases rem with
  | nil => exact c_need (fun h => by simp at h) (fun _ => h0 rfl)
  | cons y r =>
    refine c_need (fun _ => ?_) (fun h => by simp at h)
    try simp only [TUP_mk, AGG_mk, HD_mk, NL_mk, TYI_mk, TYB_mk, TYP_mk, TYL_mk, TYS_mk, TYM_mk, SO_mk, NX_mk, endK_mk, endK_mk', add_0]
    refine ⟨x, _, c, ho.cell, ?_⟩
    obtain ⟨b, hb, hcell⟩ := hrow 0 (by simp [u8s])
    subst hb
    refine ⟨b, rfl, ⟨by omega, by simp⟩, ?_⟩
    have hy := b_lt y
    refine ⟨(y.toNat : Int), by simpa [u8s] using hcell, ?_⟩
    refine ⟨some b, _, c, ho.cell, ⟨by omega, by simp; omega, by simp at hc ⊢; omega⟩, ?_⟩
    try simp only [TUP_mk, AGG_mk, HD_mk, NL_mk, TYI_mk, TYB_mk, TYP_mk, TYL_mk, TYS_mk, TYM_mk, SO_mk, NX_mk, endK_mk, endK_mk', add_0]
    refine wr1 ho rfl fun s' k z o => ?_
    have hbq := hq b rfl
    rw [wrap_i64 (by omega) (by omega)]
    refine h1 y r s' rfl k z ⟨⟨_, _, by simpa using o, by simp at hc ⊢; omega, ?_, ?_⟩, hne, by omega⟩
    · intro i hi
      have hi' : i < r.length := by simpa [u8s] using hi
      obtain ⟨b', h1', h2'⟩ := hrow (i + 1) (by simpa [u8s] using hi')
      cases h1'
      have hc1 : c ≠ 1 := by intro e; simp at hc; omega
      refine ⟨b.add (1 * 1), by simp [hc1], ?_⟩
      rw [addr_add]
      have := k.cell (by rw [add_blk, hbq]; exact hne) h2'
      simpa [Nat.add_comm, u8s] using this
    · intro q hq
      split at hq
      · cases hq; exact hbq
      · simp at hq; rw [← hq, add_blk]; exact hbq
/-- A span of the next two bytes. -/
theorem c_pair {B Q V : Nat} {rem : BL} (hr : RemS s B Q rem) (hV : cellAt s ⟨V, 0, none⟩ = some (.func (.func 77) #[] #[.pointer (some ⟨B, 0, none⟩)])) (hVB : V ≠ B) (h0 : rem.length < 2 → ∀ s', Kp (· = B) s s' → E (MF 8) s')
    (h1 : ∀ b c r s', rem = b :: c :: r → Kp (· = B) s s' → RemS s' B Q r → K (.agg #[.int .i64 (b.toNat : Int), .int .i64 (c.toNat : Int)]) s') : CALLV Pg W (.func (.func 78) #[] #[.pointer (some ⟨V, 0, none⟩)]) [] K E s := by
  refine CALLV_func ?_
  refine does_book_ReadFurrow_c3 W ⟨V, 0, none⟩ _ s ?_
  unfold T_book_ReadFurrow_c3
  refine nz2 zc_74 fun s1 e1 z1 o0 o1 => ?_
  have v1 := e1.cell hV
  refine ⟨_, v1, _, v1, ?_⟩
  have hblt := hr.blt
  have hqlt := hr.lt
  refine CALLV_func (c_next (hr.ext e1) (fun hn => h0 (by rw [hn]; simp) s1 e1.kp) (fun b r s2 hb k2 z2 r2 => ?_))
  try simp only [TUP_mk, AGG_mk, HD_mk, NL_mk, TYI_mk, TYB_mk, TYP_mk, TYL_mk, TYS_mk, TYM_mk, SO_mk, NX_mk, endK_mk, endK_mk', add_0]
  have v2 := k2.cell (a := ⟨V, 0, none⟩) hVB v1
  refine ANDS_i ⟨_, v2, rfl⟩ ?_
  refine CALLV_func (c_next r2 (fun hn => h0 (by rw [hb, hn]; simp) s2 (e1.kp.trans k2)) (fun c r' s3 hc k3 z3 r3 => ?_))
  try simp only [TUP_mk, AGG_mk, HD_mk, NL_mk, TYI_mk, TYB_mk, TYP_mk, TYL_mk, TYS_mk, TYM_mk, SO_mk, NX_mk, endK_mk, endK_mk', add_0]
  have k13 := k2.trans k3
  have hne : ¬ s.size = B := by omega
  refine wrs2 (k13.own hne o0) (k13.own hne o1) rfl rfl fun s4 k4 z4 q0 q1 => ?_
  refine ⟨_, q0.cell, _, q1.cell, ?_⟩
  try simp only [TUP_mk, AGG_mk, HD_mk, NL_mk, TYI_mk, TYB_mk, TYP_mk, TYL_mk, TYS_mk, TYM_mk, SO_mk, NX_mk, endK_mk, endK_mk', add_0]
  refine h1 b c r' s4 (by rw [hb, hc]) (kp_new (e1.kp.trans k13) (Nat.le_refl _) k4) (r3.kp k4 (fun h => hne h.symm) (fun h => by have h' : Q = s.size := h; omega))
theorem c_Equal {A B : BL} {x y : Option Addr} {c d : Nat} (hx : RowAt s x (u8s A)) (hy : RowAt s y (u8s B)) (hA : A.length ≤ 1000000) (h : ∀ s', Ext s s' → K (.bool (decide (A = B))) s') : CALL Pg W F_slices_Equal_byte_byte [.slice x A.length c, .slice y B.length d] K E s := by
  refine does_slices_Equal_byte_byte W x A.length c y B.length d _ s ?_
  unfold T_slices_Equal_byte_byte
  have h := h s (Ext.refl s)
  refine BR_ne (fun hn => ?_) (fun hn => ?_)
  · try simp only [TUP_mk, AGG_mk, HD_mk, NL_mk, TYI_mk, TYB_mk, TYP_mk, TYL_mk, TYS_mk, TYM_mk, SO_mk, NX_mk, endK_mk, endK_mk', add_0]
    rw [decide_eq_false (fun e => hn (by rw [e]))] at h
    exact h
  · have hl : A.length = B.length := by omega
    refine L_slices_Equal_byte_byte_0_rule W _ _ _ _ _ _ _ _ (fun n s' => ∃ k : Nat, n = (k : Int) ∧ k ≤ A.length ∧ s' = s ∧ A.take k = B.take k) (fun n s' => A.length - n.toNat) _ s ⟨0, rfl, by omega, rfl, by simp⟩ ?_
    rintro n s1 ⟨k, rfl, hk, rfl, ht⟩
    unfold B_slices_Equal_byte_byte_0
    refine BR_dec (fun hlt => ?_) (fun hge => ?_)
    · have hkA : k < A.length := by omega
      have hkB : k < B.length := by omega
      obtain ⟨a, ha, ca⟩ := hx k (by rw [u8s_len]; exact hkA)
      obtain ⟨b, hb, cb⟩ := hy k (by rw [u8s_len]; exact hkB)
      subst ha; subst hb
      simp only [u8s, List.getElem_map] at ca cb
      refine IXS_nat hkA ⟨_, ca, IXS_nat hkB ⟨_, cb, ?_⟩⟩
      refine BR_ne (fun hne => ?_) (fun heq => ?_)
      · try simp only [TUP_mk, AGG_mk, HD_mk, NL_mk, TYI_mk, TYB_mk, TYP_mk, TYL_mk, TYS_mk, TYM_mk, SO_mk, NX_mk, endK_mk, endK_mk', add_0]
        rw [decide_eq_false (fun e => hne (by subst e; rfl))] at h
        exact h
      · try simp only [TUP_mk, AGG_mk, HD_mk, NL_mk, TYI_mk, TYB_mk, TYP_mk, TYL_mk, TYS_mk, TYM_mk, SO_mk, NX_mk, endK_mk, endK_mk', add_0]
        have he : A[k] = B[k] := UInt8.toNat_inj.1 (by omega)
        refine ⟨_, rfl, ⟨k + 1, wr_k (by omega), by omega, rfl, ?_⟩, ms_k hkA (by omega)⟩
        rw [List.take_add_one, List.take_add_one, ht, List.getElem?_eq_getElem hkA, List.getElem?_eq_getElem hkB, he]
    · have hkl : k = A.length := by omega
      subst hkl
      rw [List.take_length, hl, List.take_length] at ht
      try simp only [TUP_mk, AGG_mk, HD_mk, NL_mk, TYI_mk, TYB_mk, TYP_mk, TYL_mk, TYS_mk, TYM_mk, SO_mk, NX_mk, endK_mk, endK_mk', add_0]
      rw [decide_eq_true ht] at h
      exact h
theorem COPY_rule {x : Addr} {y : Option Addr} {l m n : Nat} {vs : List Value} {K : Int → Hp → Prop} (hn : min m l = n) (hy : RowAt s y vs) (hv : vs.length = n) (h1 : ∀ v ∈ vs, oneCell v = true) (ho : ∀ i, i < n → ∃ v, Own s (x.add i) v)
    (h : ∀ s', Kp (· = x.block) s s' → s'.size = s.size → (∀ i (h : i < vs.length), Own s' (x.add i) vs[i]) → K (n : Nat) s') : COPY 1 (some x) l y m K s := by
  refine ⟨vs, by rw [hn, Nat.mul_one, ← hv]; exact hy.cells, ?_⟩
  show wrN vs x 0 (K (min m l : Nat)) s
  rw [hn]
  refine wrN_rule vs x 0 _ s (fun i hi => ?_) h1 fun s1 k1 z1 o1 u1 => ?_
  · rw [Nat.zero_add]; exact ho i (by omega)
  · refine h s1 k1 z1 (fun i hi => ?_)
    have := o1 i hi
    rwa [Nat.zero_add] at this
/-- What is read. -/
def ResF (lo : Nat) (s : Hp) (f : FrS) (v : Value) : Prop := ∃ x c y d w e, v = .agg #[.slice x f.offs.length c, .slice y f.wids.length d, .slice w f.deps.length e] ∧ Fr lo s x f.offs.length c 2 (f.offs.flatMap kinV) ∧ Fr lo s y f.wids.length d 2 (f.wids.flatMap kinV) ∧ Fr lo s w f.deps.length e 2 (f.deps.flatMap kinV) ∧ Dj x y ∧ Dj x w ∧ Dj y w
theorem ResF.nil {lo : Nat} : ResF lo s fr0 (.agg #[.slice none 0 0, .slice none 0 0, .slice none 0 0]) := ⟨none, 0, none, 0, none, 0, rfl, Fr.nil _ _ _, Fr.nil _ _ _, Fr.nil _ _ _, Dj.none_l _, Dj.none_l _, Dj.none_l _⟩
/-- The way out with an error. -/
theorem frw_fail {B4 B5 : Nat} {e : Int} {s0 : Hp} {l : BL} {y0 y1 y2 x : Value} (he : e ≠ 0) (e0 : Ext s0 s) (h4 : s0.size ≤ B4) (h5 : s0.size ≤ B5) (h45 : B4 ≠ B5) (q0 : Own s ⟨B4, 0, none⟩ y0) (q1 : Own s ⟨B4, 1, none⟩ y1) (q2 : Own s ⟨B4, 2, none⟩ y2) (o : Own s ⟨B5, 0, none⟩ x) (hr : readF l = (fr0, e))
    (hk : ∀ s' v, Ext s0 s' → ResF s0.size s' (readF l).1 v → K (.tuple #[v, .int .i64 (readF l).2]) s') :
    DEF Pg W (.tuple #[(.func (.func 73) #[] #[(.pointer (some ⟨B5, 0, none⟩)), (.pointer (some ⟨B4, 0, none⟩))]), (.tuple #[])]) (some (MF e)) (RDL (Addr.add ⟨B4, 0, none⟩ 0) fun x114 l115 c116 =>
      RDL (Addr.add ⟨B4, 0, none⟩ 1) fun x117 l118 c119 =>
       RDL (Addr.add ⟨B4, 0, none⟩ 2) fun x120 l121 c122 =>
        RDI .i64 ⟨B5, 0, none⟩ fun n123 =>
         endK K E (.returned (.tuple #[(.agg #[(.slice x114 l115 c116), (.slice x117 l118 c119), (.slice x120 l121 c122)]), (.int .i64 n123)]))) s := by
  show DoesD Pg W 73 [.pointer (some ⟨B5, 0, none⟩), .pointer (some ⟨B4, 0, none⟩)] (some (MF e)) s _
  refine told_73 (v := .iface 172 (.agg #[.int .i64 e])) (.inr rfl) (caught_some o fun s1 k1 o1 => ⟨rfl, ?_⟩)
  refine ⟨_, o1.cell, ?_⟩
  refine BR_tt (by simpa using he) ?_
  have h54 : ¬ B4 = B5 := h45
  refine wrs3 (k1.own h54 q0) (k1.own h54 q1) (k1.own h54 q2) rfl rfl rfl fun s2 k2 z2 w0 w1 w2 => ?_
  refine ⟨_, _, _, w0.cell, _, _, _, w1.cell, _, _, _, w2.cell, _, (k2.own (a := ⟨B5, 0, none⟩) (fun h => h45 h.symm) o1).cell, ?_⟩
  try simp only [TUP_mk, AGG_mk, HD_mk, NL_mk, TYI_mk, TYB_mk, TYP_mk, TYL_mk, TYS_mk, TYM_mk, SO_mk, NX_mk, endK_mk, endK_mk', add_0]
  have := hk s2 (.agg #[.slice none 0 0, .slice none 0 0, .slice none 0 0]) (ext_kp (ext_kp e0 h5 k1) h4 k2)
  rw [hr] at this
  exact this ResF.nil
end
end Go.Proofs.YtcjgbanpkmpekaaGreatDoor.G

/- Furrows: reading, the loops. -/
set_option linter.unusedVariables false
set_option linter.unusedSimpArgs false
set_option maxRecDepth 20000
namespace Go.Proofs.YtcjgbanpkmpekaaGreatDoor.G
open Go.V
/-- A furrow that is being read. -/
def StF (B : Nat) (z u : Nat) (s : Hp) (f : FrS) : Prop := ∃ x c y d w e, Lst z u s B 0 x f.offs.length c 2 (f.offs.flatMap kinV) ∧ Lst z u s B 1 y f.wids.length d 2 (f.wids.flatMap kinV) ∧ Lst z u s B 2 w f.deps.length e 2 (f.deps.flatMap kinV) ∧ Dj x y ∧ Dj x w ∧ Dj y w
/-- .. and what else there is. -/
structure FS (s0 s : Hp) (B4 B5 B13 Q V : Nat) (rem : BL) : Prop where
  rem : RemS s B13 Q rem
  o5 : Own s ⟨B5, 0, none⟩ (.int .i64 0)
  cV : cellAt s ⟨V, 0, none⟩ = some (.func (.func 77) #[] #[.pointer (some ⟨B13, 0, none⟩)])
  ext : Ext s0 s
structure FB (s0 : Hp) (z B4 B5 B13 Q V : Nat) : Prop where
  b4 : s0.size ≤ B4
  b5 : B4 < B5
  q : B5 < Q
  b13 : Q < B13
  v : B13 < V
  z : V < z
theorem StF.kp {B z u : Nat} {s s' : Hp} {f : FrS} {D : Nat → Prop} (h : StF B z u s f) (k : Kp D s s') (hB : ¬ D B) (hD : ∀ b, z ≤ b → b < u → ¬ D b) : StF B z u s' f := by
  obtain ⟨x, c, y, d, w, e, L0, L1, L2, dj⟩ := h
  exact ⟨x, c, y, d, w, e, L0.kp k hB (fun a ha => hD _ (L0.f.fr.fr a ha) (L0.f.lt a ha)), L1.kp k hB (fun a ha => hD _ (L1.f.fr.fr a ha) (L1.f.lt a ha)), L2.kp k hB (fun a ha => hD _ (L2.f.fr.fr a ha) (L2.f.lt a ha)), dj⟩
theorem StF.up {B z u u' : Nat} {s : Hp} {f : FrS} (h : StF B z u s f) (hu : u ≤ u') : StF B z u' s f := by
  obtain ⟨x, c, y, d, w, e, L0, L1, L2, dj⟩ := h
  exact ⟨x, c, y, d, w, e, L0.up hu, L1.up hu, L2.up hu, dj⟩
theorem StF.ext {B z : Nat} {s s' : Hp} {f : FrS} (h : StF B z s.size s f) (e : Ext s s') : StF B z s'.size s' f := (h.kp (e.kp (C := fun _ => False)) id (fun _ _ _ => id)).up e.1
theorem FS.kp {s0 s s' : Hp} {z B4 B5 B13 Q V : Nat} {rem : BL} {D : Nat → Prop} (h : FS s0 s B4 B5 B13 Q V rem) (fb : FB s0 z B4 B5 B13 Q V) (k : Kp D s s') (hd : ∀ b, D b → b = B4 ∨ z ≤ b) : FS s0 s' B4 B5 B13 Q V rem := by
  have g1 := fb.b4; have g2 := fb.b5; have g3 := fb.q; have g4 := fb.b13; have g5 := fb.v; have g6 := fb.z
  have no : ∀ b, B4 < b → b < z → ¬ D b := fun b h1 h2 h3 => by rcases hd b h3 with h | h <;> omega
  exact ⟨h.rem.kp k (no _ (by omega) (by omega)) (no _ (by omega) (by omega)), k.own (no B5 (by omega) (by omega)) h.o5, k.cell (a := ⟨V, 0, none⟩) (no V (by omega) (by omega)) h.cV, kp_nil h.ext (fun b hb => by rcases hd b hb with h' | h' <;> omega) k⟩
theorem FS.extend {s0 s s' : Hp} {B4 B5 B13 Q V : Nat} {rem : BL} (h : FS s0 s B4 B5 B13 Q V rem) (e : Ext s s') : FS s0 s' B4 B5 B13 Q V rem := ⟨h.rem.ext e, e.own h.o5, e.cell h.cV, h.ext.trans e⟩
/-- What reading a byte leaves. -/
theorem FS.read {s0 s s' : Hp} {z B4 B5 B13 Q V : Nat} {rem rem' : BL} (h : FS s0 s B4 B5 B13 Q V rem) (fb : FB s0 z B4 B5 B13 Q V) (k : Kp (· = B13) s s') (hr : RemS s' B13 Q rem') : FS s0 s' B4 B5 B13 Q V rem' := by
  have g1 := fb.b4; have g2 := fb.b5; have g3 := fb.q; have g4 := fb.b13; have g5 := fb.v
  exact ⟨hr, k.own (fun hh => by have h' : B5 = B13 := hh; omega) h.o5, k.cell (a := ⟨V, 0, none⟩) (fun hh => by have h' : V = B13 := hh; omega) h.cV, kp_nil h.ext (fun b hb => by have h' : b = B13 := hb; omega) k⟩
theorem StF.read {s0 s s' : Hp} {z B4 B5 B13 Q V : Nat} {f : FrS} (h : StF B4 z s.size s f) (fb : FB s0 z B4 B5 B13 Q V) (k : Kp (· = B13) s s') : StF B4 z s'.size s' f := by
  have g1 := fb.b4; have g2 := fb.b5; have g3 := fb.q; have g4 := fb.b13; have g5 := fb.v; have g6 := fb.z
  exact (h.kp k (fun hh => by have h' : B4 = B13 := hh; omega) (fun b h1 _ hh => by have h' : b = B13 := hh; omega)).up k.1
theorem prs_app : ∀ (n : Nat) {a b : BL}, a.length = 2 * n → prs (a ++ b) = prs a ++ prs b
  | 0, a, b, h => by
    have : a = [] := List.eq_nil_of_length_eq_zero (by omega)
    subst this; rfl
  | n + 1, a, b, h => by
    match a, h with
    | x :: y :: r, h =>
      simp only [List.cons_append, prs]
      rw [prs_app n (a := r) (by simp at h; omega)]
theorem prs_step {L r : BL} {b c : UInt8} {k : Nat} (h : L.drop (2 * k) = b :: c :: r) : prs (L.take (2 * (k + 1))) = prs (L.take (2 * k)) ++ [((b.toNat : Int), (c.toNat : Int))] ∧ L.drop (2 * (k + 1)) = r ∧ 2 * (k + 1) ≤ L.length := by
  have hl : L.length = 2 * k + (r.length + 2) := by
    have := congrArg List.length h
    simp at this
    omega
  have h2 : L.take (2 * (k + 1)) = L.take (2 * k) ++ [b, c] := by
    rw [show 2 * (k + 1) = 2 * k + 2 by omega, List.take_add, h]; rfl
  refine ⟨?_, ?_, by omega⟩
  · rw [h2, prs_app k (by simp; omega)]; rfl
  · rw [show 2 * (k + 1) = 2 * k + 2 by omega, ← List.drop_drop, h]; rfl
section
variable {W : World} {s s0 : Hp} {K : VK} {E : List PanicEntry → Hp → Prop} {z B4 B5 B13 Q V m : Nat} {l : BL}
theorem flt {f : FrS} (st : StF B4 z s.size s f) : ∃ y0 y1 y2, Own s ⟨B4, 0, none⟩ y0 ∧ Own s ⟨B4, 1, none⟩ y1 ∧ Own s ⟨B4, 2, none⟩ y2 := by
  obtain ⟨x, c, y, d, w, e, L0, L1, L2, _⟩ := st
  exact ⟨_, _, _, L0.own, L1.own, L2.own⟩
/-- The way out with an error, from the loops. -/
theorem fail_F {f : FrS} {rem : BL} (st : StF B4 z s.size s f) (fs : FS s0 s B4 B5 B13 Q V rem) (fb : FB s0 z B4 B5 B13 Q V) (hr : readF l = (fr0, 8))
    (hk : ∀ s' v, Ext s0 s' → ResF s0.size s' (readF l).1 v → K (.tuple #[v, .int .i64 (readF l).2]) s') :
    DEF Pg W (.tuple #[(.func (.func 73) #[] #[(.pointer (some ⟨B5, 0, none⟩)), (.pointer (some ⟨B4, 0, none⟩))]), (.tuple #[])]) (some (MF 8)) (RDL (Addr.add ⟨B4, 0, none⟩ 0) fun x114 l115 c116 =>
      RDL (Addr.add ⟨B4, 0, none⟩ 1) fun x117 l118 c119 =>
       RDL (Addr.add ⟨B4, 0, none⟩ 2) fun x120 l121 c122 =>
        RDI .i64 ⟨B5, 0, none⟩ fun n123 =>
         endK K E (.returned (.tuple #[(.agg #[(.slice x114 l115 c116), (.slice x117 l118 c119), (.slice x120 l121 c122)]), (.int .i64 n123)]))) s := by
  obtain ⟨y0, y1, y2, q0, q1, q2⟩ := flt st
  exact frw_fail (by decide) fs.ext fb.b4 (by have := fb.b4; have := fb.b5; omega) (by have := fb.b5; omega) q0 q1 q2 fs.o5 hr hk
/-- The end: it is valid, or not. -/
theorem fr_J {f : FrS} {rem : BL} {b : Bool} (st : StF B4 z s.size s f) (fs : FS s0 s B4 B5 B13 Q V rem) (fb : FB s0 z B4 B5 B13 Q V) (h1 : b = true → readF l = (f, 0)) (h2 : b = false → readF l = (fr0, 8))
    (hk : ∀ s' v, Ext s0 s' → ResF s0.size s' (readF l).1 v → K (.tuple #[v, .int .i64 (readF l).2]) s') : J_book_ReadFurrow_0 W (endK K E) b ⟨B4, 0, none⟩ ⟨B5, 0, none⟩ s := by
  unfold J_book_ReadFurrow_0
  refine c_need (fun hb => ?_) (fun hb => fail_F st fs fb (h2 hb) hk)
  try simp only [TUP_mk, AGG_mk, HD_mk, NL_mk, TYI_mk, TYB_mk, TYP_mk, TYL_mk, TYS_mk, TYM_mk, SO_mk, NX_mk, endK_mk, endK_mk', add_0]
  have hr := h1 hb
  have g1 := fb.b4; have g2 := fb.b5; have g3 := fb.q; have g4 := fb.b13; have g5 := fb.v; have g6 := fb.z
  obtain ⟨x, c, y, d, w, e, L0, L1, L2, d01, d02, d12⟩ := st
  refine ⟨_, _, _, L0.own.cell, _, _, _, L1.own.cell, _, _, _, L2.own.cell, ?_⟩
  refine wrs3 L0.own L1.own L2.own rfl rfl rfl fun s1 k1 z1 p0 p1 p2 => ?_
  have hne : ¬ B5 = B4 := by omega
  refine wr1 (a := ⟨B5, 0, none⟩) (k1.own hne fs.o5) rfl fun s2 k2 z2 o2 => ?_
  show DoesD Pg W 73 [.pointer (some ⟨B5, 0, none⟩), .pointer (some ⟨B4, 0, none⟩)] none s2 _
  refine told_73 (.inl ⟨rfl, rfl⟩) (caught_none ⟨rfl, ⟨_, o2.cell, BR_ff rfl ?_⟩⟩)
  have hne' : ¬ B4 = B5 := by omega
  refine ⟨_, _, _, (k2.own hne' p0).cell, _, _, _, (k2.own hne' p1).cell, _, _, _, (k2.own hne' p2).cell, _, o2.cell, ?_⟩
  try simp only [TUP_mk, AGG_mk, HD_mk, NL_mk, TYI_mk, TYB_mk, TYP_mk, TYL_mk, TYS_mk, TYM_mk, SO_mk, NX_mk, endK_mk, endK_mk', add_0]
  have fr : ∀ x l c vs, Fr z s x l c 2 vs → Fr s0.size s2 x l c 2 vs := fun x l c vs hf => Fr.lo ((hf.kp k1 (fun b hb hh => by have := hf.fr b hb; have h' : b.block = B4 := hh; omega)).kp k2 (fun b hb hh => by have := hf.fr b hb; have h' : b.block = B5 := hh; omega)) (by omega)
  have := hk s2 (.agg #[.slice x f.offs.length c, .slice y f.wids.length d, .slice w f.deps.length e]) (ext_kp (ext_kp fs.ext g1 k1) (by show s0.size ≤ B5; omega) k2)
  rw [hr] at this
  exact this ⟨x, c, y, d, w, e, rfl, fr _ _ _ _ L0.f.fr, fr _ _ _ _ L1.f.fr, fr _ _ _ _ L2.f.fr, d01, d02, d12⟩
theorem fr_loop2 {O Wd : List (Int × Int)} {L : BL} (hm : m ≤ 255) (hO : O.length ≤ 2000) (hW : Wd.length ≤ 2000) (st : StF B4 z s.size s ⟨O, Wd, []⟩) (fs : FS s0 s B4 B5 B13 Q V L) (fb : FB s0 z B4 B5 B13 Q V) (hzs : z ≤ s.size)
    (h1 : L.length = 2 * m → readF l = if okFr ⟨O, Wd, prs L⟩ = true then (⟨O, Wd, prs L⟩, 0) else (fr0, 8)) (h2 : L.length ≠ 2 * m → readF l = (fr0, 8))
    (hk : ∀ s' v, Ext s0 s' → ResF s0.size s' (readF l).1 v → K (.tuple #[v, .int .i64 (readF l).2]) s') : L_book_ReadFurrow_2 W (endK K E) ⟨B4, 0, none⟩ ⟨B5, 0, none⟩ ⟨B13, 0, none⟩ ⟨V, 0, none⟩ (m : Int) 0 s := by
  refine L_book_ReadFurrow_2_rule W _ _ _ _ _ _ (fun n s' => ∃ k : Nat, n = (k : Int) ∧ k ≤ m ∧ 2 * k ≤ L.length ∧ StF B4 z s'.size s' ⟨O, Wd, prs (L.take (2 * k))⟩ ∧ FS s0 s' B4 B5 B13 Q V (L.drop (2 * k)) ∧ z ≤ s'.size ∧ (prs (L.take (2 * k))).length = k) (fun n s' => m - n.toNat) _ s ⟨0, rfl, by omega, by omega, by simpa [prs] using st, by simpa using fs, hzs, by simp [prs]⟩ ?_
  rintro n s1 ⟨k, rfl, hkm, hkl, st1, fs1, hz1, hpl⟩
  unfold B_book_ReadFurrow_2
  have g1 := fb.b4; have g2 := fb.b5; have g3 := fb.q; have g4 := fb.b13; have g5 := fb.v; have g6 := fb.z
  refine BR_dec (fun hlt => ?_) (fun hge => ?_)
  · obtain ⟨y0, y1, y2, q0, q1, q2⟩ := flt st1
    obtain ⟨x, c, y, d, w, e, L0, L1, L2, d01, d02, d12⟩ := id st1
    refine ⟨_, _, _, L2.own.cell, ?_⟩
    refine c_pair fs1.rem fs1.cV (by omega) (fun hr s2 k2 => ?_) (fun b c' r s2 hr k2 r2 => ?_)
    · have hne4 : ¬ B4 = B13 := by omega
      refine frw_fail (by decide) (kp_nil fs1.ext (fun b hb => by have h' : b = B13 := hb; omega) k2) fb.b4 (by omega) (by omega) (k2.own hne4 q0) (k2.own hne4 q1) (k2.own hne4 q2) (k2.own (a := ⟨B5, 0, none⟩) (fun hh => by have h' : B5 = B13 := hh; omega) fs1.o5) (h2 ?_) hk
      intro hL
      simp only [List.length_drop] at hr
      omega
    · try simp only [TUP_mk, AGG_mk, HD_mk, NL_mk, TYI_mk, TYB_mk, TYP_mk, TYL_mk, TYS_mk, TYM_mk, SO_mk, NX_mk, endK_mk, endK_mk', add_0]
      have fs2 := fs1.read fb k2 r2
      have hB : ¬ B4 = B13 := by omega
      have N0 := L0.kp k2 hB (fun a ha hh => by have := L0.f.fr.fr a ha; have h' : a.block = B13 := hh; omega)
      have N1 := L1.kp k2 hB (fun a ha hh => by have := L1.f.fr.fr a ha; have h' : a.block = B13 := hh; omega)
      have N2 := L2.kp k2 hB (fun a ha hh => by have := L2.f.fr.fr a ha; have h' : a.block = B13 := hh; omega)
      refine ANDS_i ⟨_, _, _, N2.own.cell, rfl⟩ ?_
      refine NEW_rule fun s3 e3 z3 o3 _ => ?_
      have N0 := N0.ext e3
      have N1 := N1.ext e3
      have N2 := N2.ext e3
      have fs3 := fs2.extend e3
      refine ANDS_i ⟨_, _, _, N2.own.cell, rfl⟩ ?_
      have hs13 : s1.size ≤ s3.size := Nat.le_trans k2.1 e3.1
      refine lst_app (ws := kinV ((b.toNat : Int), (c'.toNat : Int))) N2 (by omega) hz1 hs13 (row_new' o3) rfl (kin_one _) zc_74 rfl (by omega) (by show (prs (L.take (2 * k))).length ≤ _; omega) fun s4 x' c4 k4 o4 f4 hd4 => ?_
      have kz : ∀ q, (∃ a, w = some a ∧ a.block = q) → z ≤ q := fun q ⟨a', g1, g2⟩ => by rw [← g2]; exact N2.f.fr.fr a' g1
      have hB4 : ¬ ∃ a, w = some a ∧ a.block = B4 := fun hh => by have h9 : z ≤ B4 := kz _ hh; omega
      have M0 := N0.kp k4 hB4 (fun a ha ⟨a', g1, g2⟩ => d02 a a' ha g1 g2.symm)
      have M1 := N1.kp k4 hB4 (fun a ha ⟨a', g1, g2⟩ => d12 a a' ha g1 g2.symm)
      have fs4 := fs3.kp fb k4 (fun q hq => .inr (kz q hq))
      try simp only [TUP_mk, AGG_mk, HD_mk, NL_mk, TYI_mk, TYB_mk, TYP_mk, TYL_mk, TYS_mk, TYM_mk, SO_mk, NX_mk, endK_mk, endK_mk', add_0]
      refine lst_wr (B := B4) (j := 2) o4 f4 (by omega) fun s5 k5 z5 L5 kk5 => ?_
      have fs5 := fs4.kp fb k5 (fun q hq => .inl hq)
      have hs5 : s1.size ≤ s5.size := Nat.le_trans hs13 (Nat.le_trans k4.1 k5.1)
      obtain ⟨e1, e2, e3'⟩ := prs_step hr
      try simp only [TUP_mk, AGG_mk, HD_mk, NL_mk, TYI_mk, TYB_mk, TYP_mk, TYL_mk, TYS_mk, TYM_mk, SO_mk, NX_mk, endK_mk, endK_mk', add_0]
      refine ⟨_, rfl, ⟨k + 1, wr_k (by omega), by omega, e3', ?_, by rw [e2]; exact fs5, by omega, by rw [e1]; simp [hpl]⟩, ms_k (by omega) (by omega)⟩
      rw [e1]
      refine ⟨x, c, y, d, x', c4, ?_, ?_, ?_, d01, ?_, ?_⟩
      · exact (M0.wr k5 (by omega) (fun v hv => kk5 0 v (by omega) hv)).up hs5
      · exact (M1.wr k5 (by omega) (fun v hv => kk5 1 v (by omega) hv)).up hs5
      · have hl : (prs (L.take (2 * k)) ++ [((b.toNat : Int), (c'.toNat : Int))]).length = (prs (L.take (2 * k))).length + 1 := by simp
        rw [z5]
        show Lst z s4.size s5 B4 2 x' (prs (L.take (2 * k)) ++ [((b.toNat : Int), (c'.toNat : Int))]).length c4 2 ((prs (L.take (2 * k)) ++ [((b.toNat : Int), (c'.toNat : Int))]).flatMap kinV)
        rw [hl, flat_snoc]
        exact L5
      · exact (hd4 x (fun a ha => by have := N0.f.lt a ha; omega) d02.symm).symm
      · exact (hd4 y (fun a ha => by have := N1.f.lt a ha; omega) d12.symm).symm
  · have hkk : k = m := by omega
    subst hkk
    obtain ⟨⟨xr, cr, hor, _⟩, _⟩ := fs1.rem
    refine ⟨_, _, _, hor.cell, ?_⟩
    refine BR_eq (fun hz => ?_) (fun hz => ?_)
    · have hL : L.length = 2 * k := by simp only [List.length_drop] at hz; omega
      have ht : L.take (2 * k) = L := List.take_of_length_le (by omega)
      rw [ht] at st1 hpl
      have hr := h1 hL
      obtain ⟨x, c, y, d, w, e, L0, L1, L2, dj⟩ := id st1
      refine ⟨_, _, _, L0.own.cell, _, _, _, L1.own.cell, _, _, _, L2.own.cell, ?_⟩
      refine c_isFurrow (f := ⟨O, Wd, prs L⟩) ⟨L0.f.fr.row, L1.f.fr.row, L2.f.fr.row⟩ (by show O.length ≤ _; omega) (by show Wd.length ≤ _; omega) (by show (prs L).length ≤ _; omega) fun s2 e2 => ?_
      try simp only [TUP_mk, AGG_mk, HD_mk, NL_mk, TYI_mk, TYB_mk, TYP_mk, TYL_mk, TYS_mk, TYM_mk, SO_mk, NX_mk, endK_mk, endK_mk', add_0]
      refine fr_J (st1.ext e2) (fs1.extend e2) fb (fun hb => ?_) (fun hb => ?_) hk
      · rw [hr, if_pos hb]
      · rw [hr, hb]; rfl
    · refine fr_J st1 fs1 fb (fun hb => by cases hb) (fun _ => h2 ?_) hk
      intro hL
      apply hz
      simp only [List.length_drop]; omega
end
end Go.Proofs.YtcjgbanpkmpekaaGreatDoor.G

/- Furrows: reading. -/
set_option linter.unusedVariables false
set_option linter.unusedSimpArgs false
set_option maxRecDepth 20000
namespace Go.Proofs.YtcjgbanpkmpekaaGreatDoor.G
open Go.V
section
variable {W : World} {s s0 : Hp} {K : VK} {E : List PanicEntry → Hp → Prop} {z B4 B5 B13 Q V m : Nat} {l : BL}
theorem fr_loop1 {O : List (Int × Int)} {L : BL} (hm : m ≤ 255) (hO : O.length ≤ 2000) (st : StF B4 z s.size s ⟨O, [], []⟩) (fs : FS s0 s B4 B5 B13 Q V L) (fb : FB s0 z B4 B5 B13 Q V) (hzs : z ≤ s.size)
    (h1 : L.length = 4 * m → readF l = if okFr ⟨O, prs (L.take (2 * m)), prs (L.drop (2 * m))⟩ = true then (⟨O, prs (L.take (2 * m)), prs (L.drop (2 * m))⟩, 0) else (fr0, 8)) (h2 : L.length ≠ 4 * m → readF l = (fr0, 8))
    (hk : ∀ s' v, Ext s0 s' → ResF s0.size s' (readF l).1 v → K (.tuple #[v, .int .i64 (readF l).2]) s') : L_book_ReadFurrow_1 W (endK K E) ⟨B4, 0, none⟩ ⟨B5, 0, none⟩ ⟨B13, 0, none⟩ ⟨V, 0, none⟩ (m : Int) 0 s := by
  refine L_book_ReadFurrow_1_rule W _ _ _ _ _ _ (fun n s' => ∃ k : Nat, n = (k : Int) ∧ k ≤ m ∧ 2 * k ≤ L.length ∧ StF B4 z s'.size s' ⟨O, prs (L.take (2 * k)), []⟩ ∧ FS s0 s' B4 B5 B13 Q V (L.drop (2 * k)) ∧ z ≤ s'.size ∧ (prs (L.take (2 * k))).length = k) (fun n s' => m - n.toNat) _ s ⟨0, rfl, by omega, by omega, by simpa [prs] using st, by simpa using fs, hzs, by simp [prs]⟩ ?_
  rintro n s1 ⟨k, rfl, hkm, hkl, st1, fs1, hz1, hpl⟩
  unfold B_book_ReadFurrow_1
  have g1 := fb.b4; have g2 := fb.b5; have g3 := fb.q; have g4 := fb.b13; have g5 := fb.v; have g6 := fb.z
  refine BR_dec (fun hlt => ?_) (fun hge => ?_)
  · obtain ⟨y0, y1, y2, q0, q1, q2⟩ := flt st1
    obtain ⟨x, c, y, d, w, e, L0, L1, L2, d01, d02, d12⟩ := id st1
    refine ⟨_, _, _, L1.own.cell, ?_⟩
    refine c_pair fs1.rem fs1.cV (by omega) (fun hr s2 k2 => ?_) (fun b c' r s2 hr k2 r2 => ?_)
    · have hne4 : ¬ B4 = B13 := by omega
      refine frw_fail (by decide) (kp_nil fs1.ext (fun b hb => by have h' : b = B13 := hb; omega) k2) fb.b4 (by omega) (by omega) (k2.own hne4 q0) (k2.own hne4 q1) (k2.own hne4 q2) (k2.own (a := ⟨B5, 0, none⟩) (fun hh => by have h' : B5 = B13 := hh; omega) fs1.o5) (h2 ?_) hk
      intro hL
      simp only [List.length_drop] at hr
      omega
    · try simp only [TUP_mk, AGG_mk, HD_mk, NL_mk, TYI_mk, TYB_mk, TYP_mk, TYL_mk, TYS_mk, TYM_mk, SO_mk, NX_mk, endK_mk, endK_mk', add_0]
      have fs2 := fs1.read fb k2 r2
      have hB : ¬ B4 = B13 := by omega
      have N0 := L0.kp k2 hB (fun a ha hh => by have := L0.f.fr.fr a ha; have h' : a.block = B13 := hh; omega)
      have N1 := L1.kp k2 hB (fun a ha hh => by have := L1.f.fr.fr a ha; have h' : a.block = B13 := hh; omega)
      have N2 := L2.kp k2 hB (fun a ha hh => by have := L2.f.fr.fr a ha; have h' : a.block = B13 := hh; omega)
      refine ANDS_i ⟨_, _, _, N1.own.cell, rfl⟩ ?_
      refine NEW_rule fun s3 e3 z3 o3 _ => ?_
      have N0 := N0.ext e3
      have N1 := N1.ext e3
      have N2 := N2.ext e3
      have fs3 := fs2.extend e3
      refine ANDS_i ⟨_, _, _, N1.own.cell, rfl⟩ ?_
      have hs13 : s1.size ≤ s3.size := Nat.le_trans k2.1 e3.1
      refine lst_app (ws := kinV ((b.toNat : Int), (c'.toNat : Int))) N1 (by omega) hz1 hs13 (row_new' o3) rfl (kin_one _) zc_74 rfl (by omega) (by show (prs (L.take (2 * k))).length ≤ _; omega) fun s4 x' c4 k4 o4 f4 hd4 => ?_
      have kz : ∀ q, (∃ a, y = some a ∧ a.block = q) → z ≤ q := fun q ⟨a', g1, g2⟩ => by rw [← g2]; exact N1.f.fr.fr a' g1
      have hB4 : ¬ ∃ a, y = some a ∧ a.block = B4 := fun hh => by have h9 : z ≤ B4 := kz _ hh; omega
      have M0 := N0.kp k4 hB4 (fun a ha ⟨a', g1, g2⟩ => d01 a a' ha g1 g2.symm)
      have M2 := N2.kp k4 hB4 (fun a ha ⟨a', g1, g2⟩ => d12 a' a g1 ha g2)
      have fs4 := fs3.kp fb k4 (fun q hq => .inr (kz q hq))
      try simp only [TUP_mk, AGG_mk, HD_mk, NL_mk, TYI_mk, TYB_mk, TYP_mk, TYL_mk, TYS_mk, TYM_mk, SO_mk, NX_mk, endK_mk, endK_mk', add_0]
      refine lst_wr (B := B4) (j := 1) o4 f4 (by omega) fun s5 k5 z5 L5 kk5 => ?_
      have fs5 := fs4.kp fb k5 (fun q hq => .inl hq)
      have hs5 : s1.size ≤ s5.size := Nat.le_trans hs13 (Nat.le_trans k4.1 k5.1)
      obtain ⟨e1, e2, e3'⟩ := prs_step hr
      try simp only [TUP_mk, AGG_mk, HD_mk, NL_mk, TYI_mk, TYB_mk, TYP_mk, TYL_mk, TYS_mk, TYM_mk, SO_mk, NX_mk, endK_mk, endK_mk', add_0]
      refine ⟨_, rfl, ⟨k + 1, wr_k (by omega), by omega, e3', ?_, by rw [e2]; exact fs5, by omega, by rw [e1]; simp [hpl]⟩, ms_k (by omega) (by omega)⟩
      rw [e1]
      refine ⟨x, c, x', c4, w, e, ?_, ?_, ?_, ?_, d02, ?_⟩
      · exact (M0.wr k5 (by omega) (fun v hv => kk5 0 v (by omega) hv)).up hs5
      · have hl : (prs (L.take (2 * k)) ++ [((b.toNat : Int), (c'.toNat : Int))]).length = (prs (L.take (2 * k))).length + 1 := by simp
        rw [z5]
        show Lst z s4.size s5 B4 1 x' (prs (L.take (2 * k)) ++ [((b.toNat : Int), (c'.toNat : Int))]).length c4 2 ((prs (L.take (2 * k)) ++ [((b.toNat : Int), (c'.toNat : Int))]).flatMap kinV)
        rw [hl, flat_snoc]
        exact L5
      · exact (M2.wr k5 (by omega) (fun v hv => kk5 2 v (by omega) hv)).up hs5
      · exact (hd4 x (fun a ha => by have := N0.f.lt a ha; omega) d01.symm).symm
      · exact hd4 w (fun a ha => by have := N2.f.lt a ha; omega) d12
  · have hkk : k = m := by omega
    subst hkk
    refine fr_loop2 hm hO (by omega) st1 fs1 fb hz1 (fun hL => h1 (by simp only [List.length_drop] at hL; omega)) (fun hL => h2 (fun h => hL (by simp only [List.length_drop]; omega))) hk
theorem fr_loop0 {L : BL} (hm : m ≤ 255) (st : StF B4 z s.size s ⟨[], [], []⟩) (fs : FS s0 s B4 B5 B13 Q V L) (fb : FB s0 z B4 B5 B13 Q V) (hzs : z ≤ s.size)
    (h1 : L.length = 5 * m → readF l = if okFr ⟨(L.take m).map ofB, prs ((L.drop m).take (2 * m)), prs ((L.drop m).drop (2 * m))⟩ = true then (⟨(L.take m).map ofB, prs ((L.drop m).take (2 * m)), prs ((L.drop m).drop (2 * m))⟩, 0) else (fr0, 8)) (h2 : L.length ≠ 5 * m → readF l = (fr0, 8))
    (hk : ∀ s' v, Ext s0 s' → ResF s0.size s' (readF l).1 v → K (.tuple #[v, .int .i64 (readF l).2]) s') : L_book_ReadFurrow_0 W (endK K E) ⟨B4, 0, none⟩ ⟨B5, 0, none⟩ ⟨B13, 0, none⟩ ⟨V, 0, none⟩ (m : Int) 0 s := by
  refine L_book_ReadFurrow_0_rule W _ _ _ _ _ _ (fun n s' => ∃ k : Nat, n = (k : Int) ∧ k ≤ m ∧ k ≤ L.length ∧ StF B4 z s'.size s' ⟨(L.take k).map ofB, [], []⟩ ∧ FS s0 s' B4 B5 B13 Q V (L.drop k) ∧ z ≤ s'.size) (fun n s' => m - n.toNat) _ s ⟨0, rfl, by omega, by omega, by simpa using st, by simpa using fs, hzs⟩ ?_
  rintro n s1 ⟨k, rfl, hkm, hkl, st1, fs1, hz1⟩
  unfold B_book_ReadFurrow_0
  have g1 := fb.b4; have g2 := fb.b5; have g3 := fb.q; have g4 := fb.b13; have g5 := fb.v; have g6 := fb.z
  refine BR_dec (fun hlt => ?_) (fun hge => ?_)
  · refine ⟨_, fs1.cV, ?_⟩
    refine CALLV_func (c_next fs1.rem (fun hr => ?_) (fun b r s2 hr k2 z2 r2 => ?_))
    · refine fail_F st1 fs1 fb (h2 ?_) hk
      intro hL
      have := congrArg List.length hr
      simp only [List.length_drop, List.length_nil] at this
      omega
    · try simp only [TUP_mk, AGG_mk, HD_mk, NL_mk, TYI_mk, TYB_mk, TYP_mk, TYL_mk, TYS_mk, TYM_mk, SO_mk, NX_mk, endK_mk, endK_mk', add_0]
      have st2 := st1.read fb k2
      have fs2 := fs1.read fb k2 r2
      obtain ⟨x, c, y, d, w, e, L0, L1, L2, d01, d02, d12⟩ := st2
      refine ⟨_, _, _, L0.own.cell, ?_⟩
      have hb := b_lt b
      have hv1 : IntKind.wrap .i64 (IntKind.wrap .i64 (Int.tdiv (b.toNat : Int) 8) - 12) = (ofB b).1 := by
        rw [Int.tdiv_eq_ediv_of_nonneg (by omega), wrap_i64 (n := (b.toNat : Int) / 8) (by omega) (by omega), wrap_i64 (by omega) (by omega)]; rfl
      have hv2 : IntKind.wrap .i64 (IntKind.wrap .i64 (IntKind.wrap .i64 (Int.tdiv (b.toNat : Int) 8) - 12) + Int.tmod (b.toNat : Int) 8) = (ofB b).2 := by
        rw [hv1, Int.tmod_eq_emod_of_nonneg (by omega)]
        have : (ofB b).1 = (b.toNat : Int) / 8 - 12 := rfl
        rw [this, wrap_i64 (by omega) (by omega)]; rfl
      dsimp only
      rw [hv2, hv1]
      refine NEW_rule fun s3 e3 z3 o3 _ => ?_
      have N0 := L0.ext e3
      have N1 := L1.ext e3
      have N2 := L2.ext e3
      have fs3 := fs2.extend e3
      have hz2 : z ≤ s2.size := Nat.le_trans hz1 k2.1
      refine lst_app (ws := kinV (ofB b)) N0 (by omega) hz2 e3.1 (row_new' o3) rfl (kin_one _) zc_74 rfl (by omega) (by show ((L.take k).map ofB).length ≤ _; simp; omega) fun s4 x' c4 k4 o4 f4 hd4 => ?_
      have kz : ∀ q, (∃ a, x = some a ∧ a.block = q) → z ≤ q := fun q ⟨a', g1, g2⟩ => by rw [← g2]; exact N0.f.fr.fr a' g1
      have hB4 : ¬ ∃ a, x = some a ∧ a.block = B4 := fun hh => by have h9 : z ≤ B4 := kz _ hh; omega
      have M1 := N1.kp k4 hB4 (fun a ha ⟨a', g1, g2⟩ => d01 a' a g1 ha g2)
      have M2 := N2.kp k4 hB4 (fun a ha ⟨a', g1, g2⟩ => d02 a' a g1 ha g2)
      have fs4 := fs3.kp fb k4 (fun q hq => .inr (kz q hq))
      try simp only [TUP_mk, AGG_mk, HD_mk, NL_mk, TYI_mk, TYB_mk, TYP_mk, TYL_mk, TYS_mk, TYM_mk, SO_mk, NX_mk, endK_mk, endK_mk', add_0]
      refine lst_wr (B := B4) (j := 0) o4 f4 (by omega) fun s5 k5 z5 L5 kk5 => ?_
      have fs5 := fs4.kp fb k5 (fun q hq => .inl hq)
      have hs5 : s2.size ≤ s5.size := Nat.le_trans e3.1 (Nat.le_trans k4.1 k5.1)
      have hkL : k < L.length := by
        have := congrArg List.length hr
        simp only [List.length_drop, List.length_cons] at this
        omega
      have hd := List.drop_eq_getElem_cons hkL
      rw [hr] at hd
      obtain ⟨hb1, hb2⟩ := List.cons.inj hd
      have ht : (L.take (k + 1)).map ofB = (L.take k).map ofB ++ [ofB b] := by rw [take_map hkL, ← hb1]
      try simp only [TUP_mk, AGG_mk, HD_mk, NL_mk, TYI_mk, TYB_mk, TYP_mk, TYL_mk, TYS_mk, TYM_mk, SO_mk, NX_mk, endK_mk, endK_mk', add_0]
      refine ⟨_, rfl, ⟨k + 1, wr_k (by omega), by omega, by omega, ?_, by rw [← hb2]; exact fs5, by omega⟩, ms_k (by omega) (by omega)⟩
      rw [ht]
      refine ⟨x', c4, y, d, w, e, ?_, ?_, ?_, ?_, ?_, d12⟩
      · have hl : ((L.take k).map ofB ++ [ofB b]).length = ((L.take k).map ofB).length + 1 := by simp
        rw [z5]
        show Lst z s4.size s5 B4 0 x' ((L.take k).map ofB ++ [ofB b]).length c4 2 (((L.take k).map ofB ++ [ofB b]).flatMap kinV)
        rw [hl, flat_snoc]
        exact L5
      · exact (M1.wr k5 (by omega) (fun v hv => kk5 1 v (by omega) hv)).up hs5
      · exact (M2.wr k5 (by omega) (fun v hv => kk5 2 v (by omega) hv)).up hs5
      · exact hd4 y (fun a ha => by have := N1.f.lt a ha; have := e3.1; omega) d01
      · exact hd4 w (fun a ha => by have := N2.f.lt a ha; have := e3.1; omega) d02
  · have hkk : k = m := by omega
    subst hkk
    refine fr_loop1 hm (by simp; omega) st1 fs1 fb hz1 (fun hL => h1 (by simp only [List.length_drop] at hL; omega)) (fun hL => h2 (fun h => hL (by simp only [List.length_drop]; omega))) hk
theorem readF_par {l : BL} (h1 : 2 ≤ l.length) (h2 : l.length ≤ 2000) (h3 : withC (l.take (l.length - 2)) = l) : readF l = match parF (l.take (l.length - 2)) with
  | some f => if okFr f = true then (f, 0) else (fr0, 8)
  | none => (fr0, 8) := by
  unfold readF
  rw [if_neg (by omega), if_neg (by rintro (h | h); omega; exact h h3)]
  cases parF (l.take (l.length - 2)) <;> rfl
theorem c_ReadFurrow {x : Option Addr} {c : Nat} (hrow : RowAt s x (u8s l)) (hk : ∀ s' v, Ext s s' → ResF s.size s' (readF l).1 v → K (.tuple #[v, .int .i64 (readF l).2]) s') : CALL Pg W F_book_ReadFurrow [.slice x l.length c] K E s := by
  refine does_book_ReadFurrow W x l.length c _ s ?_
  unfold T_book_ReadFurrow
  refine nz3 zc_37 fun s1 e1 z1 q0 q1 q2 => ?_
  refine nz1 zc_39 fun s2 e2 z2 o5 => ?_
  have e12 := e1.trans e2
  have fail : ∀ (e : Int) (t : Hp), e ≠ 0 → Ext s2 t → readF l = (fr0, e) → _ := fun e t he et hr => frw_fail (W := W) (E := E) (B4 := s.size) (B5 := s1.size) he (e12.trans et) (Nat.le_refl _) e1.1 (by omega) (et.own (e2.own q0)) (et.own (e2.own q1)) (et.own (e2.own q2)) (et.own o5) hr hk
  refine c_need (fun hl => ?_) (fun hl => ?_)
  rotate_left
  · rw [decide_eq_false_iff_not] at hl
    refine fail 3 s2 (by decide) (Ext.refl _) ?_
    unfold readF
    rw [if_pos (by omega)]
  rw [decide_eq_true_eq] at hl
  try simp only [TUP_mk, AGG_mk, HD_mk, NL_mk, TYI_mk, TYB_mk, TYP_mk, TYL_mk, TYS_mk, TYM_mk, SO_mk, NX_mk, endK_mk, endK_mk', add_0]
  refine c_need (fun hl2 => ?_) (fun hl2 => ?_)
  rotate_left
  · rw [decide_eq_false_iff_not] at hl2
    refine fail 11 s2 (by decide) (Ext.refl _) ?_
    unfold readF
    rw [if_neg (by omega), if_pos (.inl (by omega))]
  rw [decide_eq_true_eq] at hl2
  try simp only [TUP_mk, AGG_mk, HD_mk, NL_mk, TYI_mk, TYB_mk, TYP_mk, TYL_mk, TYS_mk, TYM_mk, SO_mk, NX_mk, endK_mk, endK_mk', add_0]
  have hn : IntKind.wrap .i64 ((l.length : Int) - 2) = ((l.length - 2 : Nat) : Int) := by rw [wrap_i64 (by omega) (by omega)]; omega
  rw [hn, Int.toNat_natCast]
  refine MKS_rule zc_5 (by omega) fun s3 e3 z3 o3 => ?_
  refine nw1 zc_50 rfl fun s4 e4 z4 o4 => ?_
  refine ⟨_, _, _, o4.cell, ?_⟩
  have hol : (l.take (l.length - 2)).length = l.length - 2 := by simp
  have e24 := e3.trans e4
  have hrow4 : RowAt s4 x (u8s (l.take (l.length - 2))) := by
    intro i hi
    have hi' : i < (u8s l).length := by simp [u8s] at hi ⊢; omega
    obtain ⟨a, ha, hc⟩ := (hrow.ext (e12.trans e24)) i hi'
    refine ⟨a, ha, ?_⟩
    rw [hc]
    simp [u8s]
  refine COPY_rule (n := l.length - 2) (by omega) hrow4 (by rw [u8s_len, hol]) (u8s_one _) (fun i hi => ⟨_, by rw [add_nil, Nat.zero_add]; exact e4.own (o3 i hi)⟩) fun s5 k5 z5 o5' => ?_
  have hs23 : s2.size < s3.size := by omega
  have c13 := k5.own (a := ⟨s3.size, 0, none⟩) (fun hh => by have h' : s3.size = s2.size := hh; omega) o4
  have e25 : Ext s2 s5 := ext_kp e24 (Nat.le_refl _) k5
  generalize hown : l.take (l.length - 2) = own at hol o5'
  have row5 : RowAt s5 (some ⟨s2.size, 0, none⟩) (u8s own) := fun i hi => ⟨_, rfl, by rw [Nat.mul_one]; exact (o5' i hi).cell⟩
  refine ⟨_, _, _, c13.cell, ?_⟩
  rw [← hol] at c13 ⊢
  refine c_checked row5 (by omega) fun s6 x6 c6 e6 f6 => ?_
  try simp only [TUP_mk, AGG_mk, HD_mk, NL_mk, TYI_mk, TYB_mk, TYP_mk, TYL_mk, TYS_mk, TYM_mk, SO_mk, NX_mk, endK_mk, endK_mk', add_0]
  refine c_Equal f6.row (hrow.ext (e12.trans (e25.trans e6))) (by rw [withC_len]; omega) fun s7 e7 => ?_
  try simp only [TUP_mk, AGG_mk, HD_mk, NL_mk, TYI_mk, TYB_mk, TYP_mk, TYL_mk, TYS_mk, TYM_mk, SO_mk, NX_mk, endK_mk, endK_mk', add_0]
  have e27 := e25.trans (e6.trans e7)
  refine c_need (fun hc => ?_) (fun hc => ?_)
  rotate_left
  · rw [decide_eq_false_iff_not] at hc
    refine fail 11 s7 (by decide) e27 ?_
    unfold readF
    rw [if_neg (by omega), if_pos (.inr (by rw [hown]; exact hc))]
  rw [decide_eq_true_eq] at hc
  try simp only [TUP_mk, AGG_mk, HD_mk, NL_mk, TYI_mk, TYB_mk, TYP_mk, TYL_mk, TYS_mk, TYM_mk, SO_mk, NX_mk, endK_mk, endK_mk', add_0]
  have hpar := readF_par (l := l) (by omega) (by omega) (by rw [hown]; exact hc)
  rw [hown] at hpar
  refine nw1 zc_131 rfl fun s8 e8 z8 o8 => ?_
  refine ⟨_, o8.cell, ?_⟩
  have e78 := e6.trans (e7.trans e8)
  have rem8 : RemS s8 s3.size s2.size own := ⟨⟨_, _, e78.own c13, Nat.le_refl _, row5.ext e78, fun b hb => by cases hb; rfl⟩, by omega, by have := e78.1; have := e25.1; have := k5.1; omega⟩
  have fb : FB s s8.size s.size s1.size s3.size s2.size s7.size := ⟨Nat.le_refl _, by omega, by omega, by omega, by have := e6.1; have := e7.1; have := k5.1; omega, by omega⟩
  have E8 := e12.trans (e27.trans e8)
  have fs8 : FS s s8 s.size s1.size s3.size s2.size s7.size own := ⟨rem8, (e27.trans e8).own o5, o8.cell, E8⟩
  have st8 : StF s.size s8.size s8.size s8 ⟨[], [], []⟩ := ⟨none, 0, none, 0, none, 0, ⟨(e27.trans e8).own (e2.own q0), FrU.nil _ _ _ _⟩, ⟨(e27.trans e8).own (e2.own q1), FrU.nil _ _ _ _⟩, ⟨(e27.trans e8).own (e2.own q2), FrU.nil _ _ _ _⟩, Dj.none_l _, Dj.none_l _, Dj.none_l _⟩
  refine CALLV_func (c_next rem8 (fun hr => ?_) (fun a r s9 hr k9 z9 r9 => ?_))
  · exact fail_F (E := E) st8 fs8 fb (by rw [hpar, hr]; rfl) hk
  try simp only [TUP_mk, AGG_mk, HD_mk, NL_mk, TYI_mk, TYB_mk, TYP_mk, TYL_mk, TYS_mk, TYM_mk, SO_mk, NX_mk, endK_mk, endK_mk', add_0]
  have st9 := st8.read fb k9
  have fs9 := fs8.read fb k9 r9
  refine c_need (fun h70 => ?_) (fun h70 => ?_)
  rotate_left
  · refine fail_F (E := E) st9 fs9 fb ?_ hk
    rw [hpar, hr]
    cases r with
    | nil => rfl
    | cons mb r =>
      unfold parF
      dsimp only
      rw [if_neg]
      rintro ⟨rfl, _⟩
      simp at h70
  try simp only [TUP_mk, AGG_mk, HD_mk, NL_mk, TYI_mk, TYB_mk, TYP_mk, TYL_mk, TYS_mk, TYM_mk, SO_mk, NX_mk, endK_mk, endK_mk', add_0]
  have ha : a = 70 := by
    have : (a.toNat : Int) = 70 := by simpa using h70
    exact UInt8.toNat_inj.1 (by show a.toNat = 70; omega)
  subst ha
  refine ⟨_, fs9.cV, ?_⟩
  refine CALLV_func (c_next r9 (fun hr' => ?_) (fun mb r' s10 hr' k10 z10 r10 => ?_))
  · exact fail_F (E := E) st9 fs9 fb (by rw [hpar, hr, hr']; rfl) hk
  try simp only [TUP_mk, AGG_mk, HD_mk, NL_mk, TYI_mk, TYB_mk, TYP_mk, TYL_mk, TYS_mk, TYM_mk, SO_mk, NX_mk, endK_mk, endK_mk', add_0]
  have st10 := st9.read fb k10
  have fs10 := fs9.read fb k10 r10
  subst hr'
  have hmb := b_lt mb
  have hparF : parF own = if r'.length = 5 * mb.toNat then some ⟨(r'.take mb.toNat).map ofB, prs ((r'.drop mb.toNat).take (2 * mb.toNat)), prs (r'.drop (3 * mb.toNat))⟩ else none := by
    rw [hr]
    unfold parF
    dsimp only
    by_cases h5 : r'.length = 5 * mb.toNat
    · rw [if_pos ⟨rfl, h5⟩, if_pos h5]
    · rw [if_neg (fun h => h5 h.2), if_neg h5]
  refine fr_loop0 (by omega) st10 fs10 fb (by omega) (fun hL => ?_) (fun hL => ?_) hk
  · rw [hpar, hparF, if_pos hL]
    dsimp only
    rw [List.drop_drop, show mb.toNat + 2 * mb.toNat = 3 * mb.toNat by omega]
  · rw [hpar, hparF, if_neg hL]
end
end Go.Proofs.YtcjgbanpkmpekaaGreatDoor.G

/- More of the functions' shallow texts, by gen.py. -/
set_option linter.unusedVariables false
set_option maxRecDepth 100000
namespace Go.Proofs.YtcjgbanpkmpekaaGreatDoor.G
open Go.V
def an_13 : Nat → Ann := fun b => match b with
 | _ => {}
abbrev rv_13 : List ResultVar := [.tmp 0]
abbrev rs_13 : List Nat := [120, 0]
def J_law14_alive_0 (W : World) (R : Ending → Hp → Prop) (b458 : Bool) (B218 : Nat) (n217 : Int) : Hp → Prop :=
 BR b458
 (RDL (Addr.add ⟨B218, 0, none⟩ 0) fun x459 l460 c461 =>
 RDL (Addr.add ⟨B218, 0, none⟩ 1) fun x462 l463 c464 =>
 RDL (Addr.add ⟨B218, 0, none⟩ 2) fun x465 l466 c467 =>
 CALL Pg W F_law14_furrow []
 (fun v468 => AGG v468 fun q470 => HD q470 fun v471 r472 => TYL v471 fun x473 l474 c475 =>
 HD r472 fun v476 r477 => TYL v476 fun x478 l479 c480 =>
 HD r477 fun v481 r482 => TYL v481 fun x483 l484 c485 =>
 NL r482 <|
 ANDS (RDL (Addr.add ⟨B218, 0, none⟩ 0) fun x495 l496 c497 =>
 RDL (Addr.add ⟨B218, 0, none⟩ 1) fun x498 l499 c500 =>
 RDL (Addr.add ⟨B218, 0, none⟩ 2) fun x501 l502 c503 =>
 fun _ => ((.agg #[(.slice x495 l496 c497), (.slice x498 l499 c500), (.slice x501 l502 c503)]) : Value) = (.agg #[(.slice x459 l460 c461), (.slice x462 l463 c464), (.slice x465 l466 c467)])) <|
 CALL Pg W F_ref14_SameFurrow [(.agg #[(.slice x459 l460 c461), (.slice x462 l463 c464), (.slice x465 l466 c467)]), (.agg #[(.slice x473 l474 c475), (.slice x478 l479 c480), (.slice x483 l484 c485)])]
 (fun v504 => TYB v504 fun b506 =>
 BR b506
 (R (.returned (.bool (n217 == 0))))
 (R (.returned (.bool false))))
 (fun e505 => R (.panicked e505)))
 (fun e469 => R (.panicked e469)))
 (R (.returned (.bool false)))
def J_law14_alive_1 (W : World) (R : Ending → Hp → Prop) (b430 : Bool) (n188 : Int) (B218 : Nat) (n217 : Int) : Hp → Prop :=
 BR b430
 (J_law14_alive_0 W R (n188 == 0) B218 n217)
 (J_law14_alive_0 W R false B218 n217)
def J_law14_alive_2 (W : World) (R : Ending → Hp → Prop) (b350 : Bool) (B189 : Nat) (n188 : Int) (B218 : Nat) (n217 : Int) : Hp → Prop :=
 BR b350
 (RDI .i64 (Addr.add ⟨B189, 0, none⟩ 0) fun n351 =>
 RDI .i64 (Addr.add ⟨B189, 0, none⟩ 1) fun n352 =>
 RDI .i64 (Addr.add ⟨B189, 0, none⟩ 2) fun n353 =>
 RDL (Addr.add ⟨B189, 0, none⟩ 3) fun x354 l355 c356 =>
 RDL (Addr.add ⟨B189, 0, none⟩ 4) fun x357 l358 c359 =>
 CALL Pg W F_law14_hearing []
 (fun v360 => AGG v360 fun q362 => HD q362 fun v363 r364 => TYI .i64 v363 fun n365 =>
 HD r364 fun v366 r367 => TYI .i64 v366 fun n368 =>
 HD r367 fun v369 r370 => TYI .i64 v369 fun n371 =>
 HD r370 fun v372 r373 => TYL v372 fun x374 l375 c376 =>
 HD r373 fun v377 r378 => TYL v377 fun x379 l380 c381 =>
 NL r378 <|
 ANDS (RDI .i64 (Addr.add ⟨B189, 0, none⟩ 0) fun n391 =>
 RDI .i64 (Addr.add ⟨B189, 0, none⟩ 1) fun n392 =>
 RDI .i64 (Addr.add ⟨B189, 0, none⟩ 2) fun n393 =>
 RDL (Addr.add ⟨B189, 0, none⟩ 3) fun x394 l395 c396 =>
 RDL (Addr.add ⟨B189, 0, none⟩ 4) fun x397 l398 c399 =>
 fun _ => ((.agg #[(.int .i64 n391), (.int .i64 n392), (.int .i64 n393), (.slice x394 l395 c396), (.slice x397 l398 c399)]) : Value) = (.agg #[(.int .i64 n351), (.int .i64 n352), (.int .i64 n353), (.slice x354 l355 c356), (.slice x357 l358 c359)])) <|
 CALL Pg W F_ref14_SameHearing [(.agg #[(.int .i64 n351), (.int .i64 n352), (.int .i64 n353), (.slice x354 l355 c356), (.slice x357 l358 c359)]), (.agg #[(.int .i64 n365), (.int .i64 n368), (.int .i64 n371), (.slice x374 l375 c376), (.slice x379 l380 c381)])]
 (fun v400 => TYB v400 fun b402 =>
 J_law14_alive_1 W R b402 n188 B218 n217)
 (fun e401 => R (.panicked e401)))
 (fun e361 => R (.panicked e361)))
 (J_law14_alive_1 W R false n188 B218 n217)
def J_law14_alive_3 (W : World) (R : Ending → Hp → Prop) (b332 : Bool) (n159 : Int) (B189 : Nat) (n188 : Int) (B218 : Nat) (n217 : Int) : Hp → Prop :=
 BR b332
 (J_law14_alive_2 W R (n159 == 0) B189 n188 B218 n217)
 (J_law14_alive_2 W R false B189 n188 B218 n217)
def J_law14_alive_4 (W : World) (R : Ending → Hp → Prop) (b266 : Bool) (B160 : Nat) (n159 : Int) (B189 : Nat) (n188 : Int) (B218 : Nat) (n217 : Int) : Hp → Prop :=
 BR b266
 (RDL (Addr.add ⟨B160, 0, none⟩ 0) fun x267 l268 c269 =>
 RDL (Addr.add ⟨B160, 0, none⟩ 1) fun x270 l271 c272 =>
 RDL (Addr.add ⟨B160, 0, none⟩ 2) fun x273 l274 c275 =>
 CALL Pg W F_law14_panels []
 (fun v276 => AGG v276 fun q278 => HD q278 fun v279 r280 => TYL v279 fun x281 l282 c283 =>
 HD r280 fun v284 r285 => TYL v284 fun x286 l287 c288 =>
 HD r285 fun v289 r290 => TYL v289 fun x291 l292 c293 =>
 NL r290 <|
 ANDS (RDL (Addr.add ⟨B160, 0, none⟩ 0) fun x303 l304 c305 =>
 RDL (Addr.add ⟨B160, 0, none⟩ 1) fun x306 l307 c308 =>
 RDL (Addr.add ⟨B160, 0, none⟩ 2) fun x309 l310 c311 =>
 fun _ => ((.agg #[(.slice x303 l304 c305), (.slice x306 l307 c308), (.slice x309 l310 c311)]) : Value) = (.agg #[(.slice x267 l268 c269), (.slice x270 l271 c272), (.slice x273 l274 c275)])) <|
 CALL Pg W F_ref14_SamePanels [(.agg #[(.slice x267 l268 c269), (.slice x270 l271 c272), (.slice x273 l274 c275)]), (.agg #[(.slice x281 l282 c283), (.slice x286 l287 c288), (.slice x291 l292 c293)])]
 (fun v312 => TYB v312 fun b314 =>
 J_law14_alive_3 W R b314 n159 B189 n188 B218 n217)
 (fun e313 => R (.panicked e313)))
 (fun e277 => R (.panicked e277)))
 (J_law14_alive_3 W R false n159 B189 n188 B218 n217)
def J_law14_alive_5 (W : World) (R : Ending → Hp → Prop) (b225 : Bool) (B135 : Nat) (n134 : Int) (B160 : Nat) (n159 : Int) (B189 : Nat) (n188 : Int) (B218 : Nat) (n217 : Int) : Hp → Prop :=
 BR b225
 (R (.returned (.bool false)))
 (RDI .i64 (Addr.add ⟨B135, 0, none⟩ 0) fun n226 =>
 RDL (Addr.add ⟨B135, 0, none⟩ 1) fun x227 l228 c229 =>
 RDL (Addr.add ⟨B135, 0, none⟩ 2) fun x230 l231 c232 =>
 CALL Pg W F_law14_pegs []
 (fun v233 => AGG v233 fun q235 => HD q235 fun v236 r237 => TYI .i64 v236 fun n238 =>
 HD r237 fun v239 r240 => TYL v239 fun x241 l242 c243 =>
 HD r240 fun v244 r245 => TYL v244 fun x246 l247 c248 =>
 NL r245 <|
 ANDS (RDI .i64 (Addr.add ⟨B135, 0, none⟩ 0) fun n249 =>
 RDL (Addr.add ⟨B135, 0, none⟩ 1) fun x250 l251 c252 =>
 RDL (Addr.add ⟨B135, 0, none⟩ 2) fun x253 l254 c255 =>
 fun _ => ((.agg #[(.int .i64 n249), (.slice x250 l251 c252), (.slice x253 l254 c255)]) : Value) = (.agg #[(.int .i64 n226), (.slice x227 l228 c229), (.slice x230 l231 c232)])) <|
 CALL Pg W F_ref14_SamePegs [(.agg #[(.int .i64 n226), (.slice x227 l228 c229), (.slice x230 l231 c232)]), (.agg #[(.int .i64 n238), (.slice x241 l242 c243), (.slice x246 l247 c248)])]
 (fun v256 => TYB v256 fun b258 =>
 BR b258
 (J_law14_alive_4 W R (n134 == 0) B160 n159 B189 n188 B218 n217)
 (J_law14_alive_4 W R false B160 n159 B189 n188 B218 n217))
 (fun e257 => R (.panicked e257)))
 (fun e234 => R (.panicked e234)))
def J_law14_alive_6 (W : World) (R : Ending → Hp → Prop) (b224 : Bool) (B135 : Nat) (n134 : Int) (B160 : Nat) (n159 : Int) (B189 : Nat) (n188 : Int) (B218 : Nat) (n217 : Int) (n112 : Int) : Hp → Prop :=
 BR b224
 (J_law14_alive_5 W R true B135 n134 B160 n159 B189 n188 B218 n217)
 (J_law14_alive_5 W R (n112 != 0) B135 n134 B160 n159 B189 n188 B218 n217)
def J_law14_alive_7 (W : World) (R : Ending → Hp → Prop) (b223 : Bool) (B135 : Nat) (n134 : Int) (B160 : Nat) (n159 : Int) (B189 : Nat) (n188 : Int) (B218 : Nat) (n217 : Int) (n112 : Int) (x107 : Option Addr) (l108 : Nat) : Hp → Prop :=
 BR b223
 (J_law14_alive_6 W R true B135 n134 B160 n159 B189 n188 B218 n217 n112)
 (B2S x107 l108 fun t507 =>
 J_law14_alive_6 W R (!seqB t507 ⟨#[70, 5, 97, 113, 96, 104, 137, 30, 30, 30, 30, 30, 30, 30, 30, 30, 30, 15, 16, 14, 18, 15, 15, 12, 14, 16, 17, 39, 72]⟩) B135 n134 B160 n159 B189 n188 B218 n217 n112)
def J_law14_alive_8 (W : World) (R : Ending → Hp → Prop) (b222 : Bool) (B135 : Nat) (n134 : Int) (B160 : Nat) (n159 : Int) (B189 : Nat) (n188 : Int) (B218 : Nat) (n217 : Int) (n112 : Int) (x107 : Option Addr) (l108 : Nat) (n83 : Int) : Hp → Prop :=
 BR b222
 (J_law14_alive_7 W R true B135 n134 B160 n159 B189 n188 B218 n217 n112 x107 l108)
 (J_law14_alive_7 W R (n83 != 0) B135 n134 B160 n159 B189 n188 B218 n217 n112 x107 l108)
def J_law14_alive_9 (W : World) (R : Ending → Hp → Prop) (b221 : Bool) (B135 : Nat) (n134 : Int) (B160 : Nat) (n159 : Int) (B189 : Nat) (n188 : Int) (B218 : Nat) (n217 : Int) (n112 : Int) (x107 : Option Addr) (l108 : Nat) (n83 : Int) (t80 : ByteArray) : Hp → Prop :=
 BR b221
 (J_law14_alive_8 W R true B135 n134 B160 n159 B189 n188 B218 n217 n112 x107 l108 n83)
 (J_law14_alive_8 W R (!seqB t80 ⟨#[104, 101, 97, 114, 105, 110, 103, 32, 50, 32, 51, 32, 49, 10, 48, 32, 105, 115, 32, 102, 48, 10, 49, 32, 105, 115, 32, 45, 102, 48, 10, 50, 32, 111, 114, 32, 45, 119, 49, 32, 102, 49, 10, 107, 110, 111, 119, 110, 32, 45, 102, 49, 10]⟩) B135 n134 B160 n159 B189 n188 B218 n217 n112 x107 l108 n83)
def J_law14_alive_10 (W : World) (R : Ending → Hp → Prop) (b220 : Bool) (B135 : Nat) (n134 : Int) (B160 : Nat) (n159 : Int) (B189 : Nat) (n188 : Int) (B218 : Nat) (n217 : Int) (n112 : Int) (x107 : Option Addr) (l108 : Nat) (n83 : Int) (t80 : ByteArray) (n52 : Int) : Hp → Prop :=
 BR b220
 (J_law14_alive_9 W R true B135 n134 B160 n159 B189 n188 B218 n217 n112 x107 l108 n83 t80)
 (J_law14_alive_9 W R (n52 != 0) B135 n134 B160 n159 B189 n188 B218 n217 n112 x107 l108 n83 t80)
def J_law14_alive_11 (W : World) (R : Ending → Hp → Prop) (b219 : Bool) (B135 : Nat) (n134 : Int) (B160 : Nat) (n159 : Int) (B189 : Nat) (n188 : Int) (B218 : Nat) (n217 : Int) (n112 : Int) (x107 : Option Addr) (l108 : Nat) (n83 : Int) (t80 : ByteArray) (n52 : Int) (t49 : ByteArray) : Hp → Prop :=
 BR b219
 (J_law14_alive_10 W R true B135 n134 B160 n159 B189 n188 B218 n217 n112 x107 l108 n83 t80 n52)
 (J_law14_alive_10 W R (!seqB t49 ⟨#[106, 117, 100, 103, 101, 115, 32, 50, 32, 50, 32, 49, 10, 112, 108, 111, 116, 115, 32, 50, 32, 49, 32, 50, 10, 107, 105, 110, 32, 48, 32, 50, 10, 107, 105, 110, 32, 50, 32, 49, 10]⟩) B135 n134 B160 n159 B189 n188 B218 n217 n112 x107 l108 n83 t80 n52)
def T_law14_alive (W : World) (R : Ending → Hp → Prop) : Hp → Prop :=
 CALL Pg W F_law14_pegs []
 (fun v1 => AGG v1 fun q3 => HD q3 fun v4 r5 => TYI .i64 v4 fun n6 =>
 HD r5 fun v7 r8 => TYL v7 fun x9 l10 c11 =>
 HD r8 fun v12 r13 => TYL v12 fun x14 l15 c16 =>
 NL r13 <|
 CALL Pg W F_book_WritePegs [(.agg #[(.int .i64 n6), (.slice x9 l10 c11), (.slice x14 l15 c16)])]
 (fun v17 => TUP v17 fun q19 => HD q19 fun v20 r21 => TYS v20 fun t22 =>
 HD r21 fun v23 r24 => TYI .i64 v23 fun n25 =>
 NL r24 <|
 CALL Pg W F_law14_panels []
 (fun v26 => AGG v26 fun q28 => HD q28 fun v29 r30 => TYL v29 fun x31 l32 c33 =>
 HD r30 fun v34 r35 => TYL v34 fun x36 l37 c38 =>
 HD r35 fun v39 r40 => TYL v39 fun x41 l42 c43 =>
 NL r40 <|
 CALL Pg W F_book_WritePanels [(.agg #[(.slice x31 l32 c33), (.slice x36 l37 c38), (.slice x41 l42 c43)])]
 (fun v44 => TUP v44 fun q46 => HD q46 fun v47 r48 => TYS v47 fun t49 =>
 HD r48 fun v50 r51 => TYI .i64 v50 fun n52 =>
 NL r51 <|
 CALL Pg W F_law14_hearing []
 (fun v53 => AGG v53 fun q55 => HD q55 fun v56 r57 => TYI .i64 v56 fun n58 =>
 HD r57 fun v59 r60 => TYI .i64 v59 fun n61 =>
 HD r60 fun v62 r63 => TYI .i64 v62 fun n64 =>
 HD r63 fun v65 r66 => TYL v65 fun x67 l68 c69 =>
 HD r66 fun v70 r71 => TYL v70 fun x72 l73 c74 =>
 NL r71 <|
 CALL Pg W F_book_WriteHearing [(.agg #[(.int .i64 n58), (.int .i64 n61), (.int .i64 n64), (.slice x67 l68 c69), (.slice x72 l73 c74)])]
 (fun v75 => TUP v75 fun q77 => HD q77 fun v78 r79 => TYS v78 fun t80 =>
 HD r79 fun v81 r82 => TYI .i64 v81 fun n83 =>
 NL r82 <|
 CALL Pg W F_law14_furrow []
 (fun v84 => AGG v84 fun q86 => HD q86 fun v87 r88 => TYL v87 fun x89 l90 c91 =>
 HD r88 fun v92 r93 => TYL v92 fun x94 l95 c96 =>
 HD r93 fun v97 r98 => TYL v97 fun x99 l100 c101 =>
 NL r98 <|
 CALL Pg W F_book_WriteFurrow [(.agg #[(.slice x89 l90 c91), (.slice x94 l95 c96), (.slice x99 l100 c101)])]
 (fun v102 => TUP v102 fun q104 => HD q104 fun v105 r106 => TYL v105 fun x107 l108 c109 =>
 HD r106 fun v110 r111 => TYI .i64 v110 fun n112 =>
 NL r111 <|
 CALL Pg W F_book_ReadPegs [(.string ⟨#[102, 105, 101, 108, 100, 32, 49, 50, 10, 112, 111, 115, 116, 32, 48, 46, 46, 48, 32, 48, 46, 46, 48, 10, 112, 111, 115, 116, 32, 52, 46, 46, 53, 32, 48, 46, 46, 48, 10, 112, 111, 115, 116, 32, 48, 46, 46, 48, 32, 51, 46, 46, 51, 10, 99, 104, 97, 105, 110, 32, 48, 32, 49, 32, 55, 46, 46, 55, 10, 99, 104, 97, 105, 110, 32, 48, 32, 50, 32, 51, 46, 46, 51, 10, 99, 104, 97, 105, 110, 32, 49, 32, 50, 32, 55, 46, 46, 56, 10]⟩)]
 (fun v113 => TUP v113 fun q115 => HD q115 fun v116 r117 => AGG v116 fun q118 => HD q118 fun v119 r120 => TYI .i64 v119 fun n121 =>
 HD r120 fun v122 r123 => TYL v122 fun x124 l125 c126 =>
 HD r123 fun v127 r128 => TYL v127 fun x129 l130 c131 =>
 NL r128 <|
 HD r117 fun v132 r133 => TYI .i64 v132 fun n134 =>
 NL r133 <|
 NEWZ Pg 25 fun B135 =>
 WR (Addr.add ⟨B135, 0, none⟩ 0) (.int .i64 n121) <|
 WR (Addr.add ⟨B135, 0, none⟩ 1) (.slice x124 l125 c126) <|
 WR (Addr.add ⟨B135, 0, none⟩ 2) (.slice x129 l130 c131) <|
 CALL Pg W F_book_ReadPanels [(.string ⟨#[106, 117, 100, 103, 101, 115, 32, 50, 32, 50, 32, 49, 10, 112, 108, 111, 116, 115, 32, 50, 32, 49, 32, 50, 10, 107, 105, 110, 32, 48, 32, 50, 10, 107, 105, 110, 32, 50, 32, 49, 10]⟩)]
 (fun v136 => TUP v136 fun q138 => HD q138 fun v139 r140 => AGG v139 fun q141 => HD q141 fun v142 r143 => TYL v142 fun x144 l145 c146 =>
 HD r143 fun v147 r148 => TYL v147 fun x149 l150 c151 =>
 HD r148 fun v152 r153 => TYL v152 fun x154 l155 c156 =>
 NL r153 <|
 HD r140 fun v157 r158 => TYI .i64 v157 fun n159 =>
 NL r158 <|
 NEWZ Pg 29 fun B160 =>
 WR (Addr.add ⟨B160, 0, none⟩ 0) (.slice x144 l145 c146) <|
 WR (Addr.add ⟨B160, 0, none⟩ 1) (.slice x149 l150 c151) <|
 WR (Addr.add ⟨B160, 0, none⟩ 2) (.slice x154 l155 c156) <|
 CALL Pg W F_book_ReadHearing [(.string ⟨#[104, 101, 97, 114, 105, 110, 103, 32, 50, 32, 51, 32, 49, 10, 48, 32, 105, 115, 32, 102, 48, 10, 49, 32, 105, 115, 32, 45, 102, 48, 10, 50, 32, 111, 114, 32, 45, 119, 49, 32, 102, 49, 10, 107, 110, 111, 119, 110, 32, 45, 102, 49, 10]⟩)]
 (fun v161 => TUP v161 fun q163 => HD q163 fun v164 r165 => AGG v164 fun q166 => HD q166 fun v167 r168 => TYI .i64 v167 fun n169 =>
 HD r168 fun v170 r171 => TYI .i64 v170 fun n172 =>
 HD r171 fun v173 r174 => TYI .i64 v173 fun n175 =>
 HD r174 fun v176 r177 => TYL v176 fun x178 l179 c180 =>
 HD r177 fun v181 r182 => TYL v181 fun x183 l184 c185 =>
 NL r182 <|
 HD r165 fun v186 r187 => TYI .i64 v186 fun n188 =>
 NL r187 <|
 NEWZ Pg 34 fun B189 =>
 WR (Addr.add ⟨B189, 0, none⟩ 0) (.int .i64 n169) <|
 WR (Addr.add ⟨B189, 0, none⟩ 1) (.int .i64 n172) <|
 WR (Addr.add ⟨B189, 0, none⟩ 2) (.int .i64 n175) <|
 WR (Addr.add ⟨B189, 0, none⟩ 3) (.slice x178 l179 c180) <|
 WR (Addr.add ⟨B189, 0, none⟩ 4) (.slice x183 l184 c185) <|
 NEW 5 [(.int .u8 70), (.int .u8 5), (.int .u8 97), (.int .u8 113), (.int .u8 96), (.int .u8 104), (.int .u8 137), (.int .u8 30), (.int .u8 30), (.int .u8 30), (.int .u8 30), (.int .u8 30), (.int .u8 30), (.int .u8 30), (.int .u8 30), (.int .u8 30), (.int .u8 30), (.int .u8 15), (.int .u8 16), (.int .u8 14), (.int .u8 18), (.int .u8 15), (.int .u8 15), (.int .u8 12), (.int .u8 14), (.int .u8 16), (.int .u8 17), (.int .u8 39), (.int .u8 72)] fun B190 =>
 SLV Pg (convert 50 50 (.slice (some ⟨B190, 0, none⟩) 29 29)) fun x191 l192 c193 =>
 CALL Pg W F_book_ReadFurrow [(.slice x191 l192 c193)]
 (fun v194 => TUP v194 fun q196 => HD q196 fun v197 r198 => AGG v197 fun q199 => HD q199 fun v200 r201 => TYL v200 fun x202 l203 c204 =>
 HD r201 fun v205 r206 => TYL v205 fun x207 l208 c209 =>
 HD r206 fun v210 r211 => TYL v210 fun x212 l213 c214 =>
 NL r211 <|
 HD r198 fun v215 r216 => TYI .i64 v215 fun n217 =>
 NL r216 <|
 NEWZ Pg 37 fun B218 =>
 WR (Addr.add ⟨B218, 0, none⟩ 0) (.slice x202 l203 c204) <|
 WR (Addr.add ⟨B218, 0, none⟩ 1) (.slice x207 l208 c209) <|
 WR (Addr.add ⟨B218, 0, none⟩ 2) (.slice x212 l213 c214) <|
 BR (!seqB t22 ⟨#[102, 105, 101, 108, 100, 32, 49, 50, 10, 112, 111, 115, 116, 32, 48, 46, 46, 48, 32, 48, 46, 46, 48, 10, 112, 111, 115, 116, 32, 52, 46, 46, 53, 32, 48, 46, 46, 48, 10, 112, 111, 115, 116, 32, 48, 46, 46, 48, 32, 51, 46, 46, 51, 10, 99, 104, 97, 105, 110, 32, 48, 32, 49, 32, 55, 46, 46, 55, 10, 99, 104, 97, 105, 110, 32, 48, 32, 50, 32, 51, 46, 46, 51, 10, 99, 104, 97, 105, 110, 32, 49, 32, 50, 32, 55, 46, 46, 56, 10]⟩)
 (J_law14_alive_11 W R true B135 n134 B160 n159 B189 n188 B218 n217 n112 x107 l108 n83 t80 n52 t49)
 (J_law14_alive_11 W R (n25 != 0) B135 n134 B160 n159 B189 n188 B218 n217 n112 x107 l108 n83 t80 n52 t49))
 (fun e195 => R (.panicked e195)))
 (fun e162 => R (.panicked e162)))
 (fun e137 => R (.panicked e137)))
 (fun e114 => R (.panicked e114)))
 (fun e103 => R (.panicked e103)))
 (fun e85 => R (.panicked e85)))
 (fun e76 => R (.panicked e76)))
 (fun e54 => R (.panicked e54)))
 (fun e45 => R (.panicked e45)))
 (fun e27 => R (.panicked e27)))
 (fun e18 => R (.panicked e18)))
 (fun e2 => R (.panicked e2))
theorem T_law14_alive_eq (W : World) (R : Ending → Hp → Prop) : vfun Pg W an_13 Tryz.f13 [] R = T_law14_alive W R := by kernel_rfl
theorem does_law14_alive (W : World) (R : Ending → Hp → Prop) (s : Hp) (h : T_law14_alive W R s) : Does Pg W F_law14_alive #[] s R :=
  does_of_vfun Pg W an_13 Tryz.func13 rfl (by kernel_rfl) (by rw [T_law14_alive_eq]; exact h)
end Go.Proofs.YtcjgbanpkmpekaaGreatDoor.G

/- Results that the document fixes. -/
set_option linter.unusedVariables false
set_option linter.unusedSimpArgs false
set_option maxRecDepth 20000
namespace Go.Proofs.YtcjgbanpkmpekaaGreatDoor.G
open Go.V
section
variable {W : World} {K : VK} {E : List PanicEntry → Hp → Prop} {s : Hp}
theorem und_50 : Pg.underlying 50 = some (.slice 5) := by kernel_rfl
theorem und_5 : Pg.underlying 5 = some (.int .u8) := by kernel_rfl
theorem cell_frz {s : Hp} {a b : Addr} {n : Nat} : cellAt (frz s a n) b = cellAt s b := by
  by_cases h : n = 0 ∨ b.block ≠ a.block
  · rw [cell_of_block]
    rw [frz_get, if_pos h]
  · have e : (frz s a n)[b.block]? = s[b.block]?.map (frzO a n) := by rw [frz_get, if_neg h]
    unfold cellAt
    rw [e]
    cases hb : s[b.block]? with
    | none => rfl
    | some o => cases o <;> rfl
theorem frz_kp {s : Hp} {a : Addr} {n : Nat} : Kp (· = a.block) s (frz s a n) := ⟨by rw [frz_size]; exact Nat.le_refl _, fun b _ hb => by rw [frz_get, if_pos (.inr hb)]⟩
/-- Bytes of a text, as a slice: the block is marked. -/
theorem cnv_50 {x : Addr} {l c n : Nat} {ty : TypeId} {K : Option Addr → Nat → Nat → Hp → Prop} (hs : shapeAt s x.block = some (ty, n)) (h : ∀ s', Kp (· = x.block) s s' → (∀ b, cellAt s' b = cellAt s b) → K (some x) l c s') : SLV Pg (convert 50 50 (.slice (some x) l c)) K s := by
  unfold SLV convert
  rw [sp_bind, sp_und und_50, sp_bind, sp_und und_50]
  simp only [sp_bind]
  rw [sp_und und_5]
  simp only [beq_self_eq_true, sp_bind]
  show sp Pg (markStringish x) _ _ s
  unfold markStringish
  rw [sp_bind]
  show sp Pg (match shapeAt s x.block with | some (_, n) => freeze { block := x.block, off := n } 1 | _ => pure ()) _ _ s
  rw [hs]
  exact ⟨_, _, _, rfl, h _ frz_kp fun b => cell_frz⟩
theorem nw5 {P : Program} {t : TypeId} {z : List Value} {v0 v1 v2 v3 v4 : Value} {K : Nat → Hp → Prop} (hz : zc P t = z) (hl : z.length = 5) (hv : ∀ v ∈ [v0, v1, v2, v3, v4], oneCell v = true)
    (h : ∀ s', Ext s s' → s'.size = s.size + 1 → (∀ i (h : i < 5), Own s' ⟨s.size, i, none⟩ ([v0, v1, v2, v3, v4][i]'h)) → K s.size s') :
    NEWZ P t (fun B => WR (Addr.add ⟨B, 0, none⟩ 0) v0 (WR (Addr.add ⟨B, 0, none⟩ 1) v1 (WR (Addr.add ⟨B, 0, none⟩ 2) v2 (WR (Addr.add ⟨B, 0, none⟩ 3) v3 (WR (Addr.add ⟨B, 0, none⟩ 4) v4 (K B)))))) s :=
  nwN (vs := [v0, v1, v2, v3, v4]) hz (by rw [hl]; rfl) hv fun s' e z o => h s' e z o
theorem seq_ne (a : BL) : (!seqB (bs a) (bs a)) = false := by rw [seq_bs']; simp
theorem wr_ex {ok : Bool} {t : BL} (h : ok = true) : wrT ok t = .tuple #[.string (bs t), .int .i64 0] := by subst h; rfl
theorem pa_ex {α : Type} {step : α → List BL → Option α} {z : α} {ok : α → Bool} {W : α → List (List BL)} {doc : List (List BL) → Option α} (k : KindT step z ok W doc) {p q : α} (h : ok p = true) (hq : parseT step z (txt (W p)) = some q) : p = q := by
  rw [parse_txt (k.good p h) (k.ne p), k.run p h] at hq
  exact Option.some.inj hq
theorem pa_no {α : Type} {step : α → List BL → Option α} {z : α} {ok : α → Bool} {W : α → List (List BL)} {doc : List (List BL) → Option α} (k : KindT step z ok W doc) {p : α} (h : ok p = true) : parseT step z (txt (W p)) ≠ none := by
  rw [parse_txt (k.good p h) (k.ne p), k.run p h]
  simp
theorem sm_exPg : (∀ p, parseT pgStep pg0 tPg = some p → sml (pgN p)) ∧ (parseT pgStep pg0 tPg = none → Big) := by
  rw [← tx_exPg]
  refine ⟨fun p h => ?_, fun h => absurd h (pa_no kind_pg ok_exPg)⟩
  have e := pa_ex kind_pg ok_exPg h
  subst e
  exact .inr (by decide)
theorem sm_exPn : (∀ p, parseT pnStep pn0 tPn = some p → sml (pnN p)) ∧ (parseT pnStep pn0 tPn = none → Big) := by
  rw [← tx_exPn]
  refine ⟨fun p h => ?_, fun h => absurd h (pa_no kind_pn ok_exPn)⟩
  have e := pa_ex kind_pn ok_exPn h
  subst e
  exact .inr (by decide)
theorem sm_exHr : (∀ p, parseT hrStep hr0 tHr = some p → sml (hrN p)) ∧ (parseT hrStep hr0 tHr = none → Big) := by
  rw [← tx_exHr]
  refine ⟨fun p h => ?_, fun h => absurd h (pa_no kind_hr ok_exHr)⟩
  have e := pa_ex kind_hr ok_exHr h
  subst e
  exact .inr (by decide)
theorem c_alive (he : Env s) (hk : ∀ s', Ext s s' → K (.bool true) s') : CALL Pg W F_law14_alive [] K E s := by
  refine does_law14_alive W _ s ?_
  unfold T_law14_alive
  refine c_exPegs fun s1 x1 y1 c1 d1 e1 hx1 hy1 => ?_
  try simp only [TUP_mk, AGG_mk, HD_mk, NL_mk, TYI_mk, TYB_mk, TYP_mk, TYL_mk, TYS_mk, TYM_mk, SO_mk, NX_mk, endK_mk, endK_mk', add_0]
  refine c_WritePegs (p := exPg) (he.ext e1) hx1 hy1 (gdPg.g (k := 2000) ⟨by unfold rp exPg; decide, by unfold rp4 rp exPg; decide, by unfold rp4 rp exPg; decide, by decide, by decide⟩ (by decide) (.inr (by decide))) fun s2 e2 => ?_
  rw [wr_ex ok_exPg, tx_exPg]
  try simp only [TUP_mk, AGG_mk, HD_mk, NL_mk, TYI_mk, TYB_mk, TYP_mk, TYL_mk, TYS_mk, TYM_mk, SO_mk, NX_mk, endK_mk, endK_mk', add_0]
  refine c_exPanels fun s3 x3 y3 w3 c3 d3 f3 e3 hx3 hy3 hw3 => ?_
  try simp only [TUP_mk, AGG_mk, HD_mk, NL_mk, TYI_mk, TYB_mk, TYP_mk, TYL_mk, TYS_mk, TYM_mk, SO_mk, NX_mk, endK_mk, endK_mk', add_0]
  have e03 := (e1.trans e2).trans e3
  refine c_WritePanels (p := exPn) (he.ext e03) hx3 hy3 hw3 (gdPn.g (k := 2000) ⟨by unfold rp exPn; decide, by unfold rp exPn; decide, by unfold rp exPn; decide, by decide, by decide, by decide⟩ (by decide) (.inr (by decide))) fun s4 e4 => ?_
  rw [wr_ex ok_exPn, tx_exPn]
  try simp only [TUP_mk, AGG_mk, HD_mk, NL_mk, TYI_mk, TYB_mk, TYP_mk, TYL_mk, TYS_mk, TYM_mk, SO_mk, NX_mk, endK_mk, endK_mk', add_0]
  refine c_exHearing fun s5 x5 y5 c5 d5 e5 hx5 hy5 => ?_
  try simp only [TUP_mk, AGG_mk, HD_mk, NL_mk, TYI_mk, TYB_mk, TYP_mk, TYL_mk, TYS_mk, TYM_mk, SO_mk, NX_mk, endK_mk, endK_mk', add_0]
  have e05 := e03.trans (e4.trans e5)
  refine c_WriteHearing (p := exHr) (he.ext e05) hx5 hy5 (gdHr.g (k := 2000) ⟨by unfold rp exHr; decide, by unfold rp exHr; decide, by unfold rp exHr; decide, by unfold rp exHr; decide, by unfold rp exHr; decide, by decide, by decide⟩ (by decide) (.inr (by decide))) fun s6 e6 => ?_
  rw [wr_ex ok_exHr, tx_exHr]
  try simp only [TUP_mk, AGG_mk, HD_mk, NL_mk, TYI_mk, TYB_mk, TYP_mk, TYL_mk, TYS_mk, TYM_mk, SO_mk, NX_mk, endK_mk, endK_mk', add_0]
  refine c_exFurrow fun s7 x7 y7 w7 c7 d7 f7 e7 hf7 => ?_
  try simp only [TUP_mk, AGG_mk, HD_mk, NL_mk, TYI_mk, TYB_mk, TYP_mk, TYL_mk, TYS_mk, TYM_mk, SO_mk, NX_mk, endK_mk, endK_mk', add_0]
  have e07 := e05.trans (e6.trans e7)
  refine c_WriteFurrow (f := exFr) hf7 (by decide) (by decide) (by decide) fun s8 v8 e8 hw8 => ?_
  unfold WrF at hw8
  rw [if_pos ok_exFr, by_exFr] at hw8
  obtain ⟨x8, c8, rfl, f8⟩ := hw8
  try simp only [TUP_mk, AGG_mk, HD_mk, NL_mk, TYI_mk, TYB_mk, TYP_mk, TYL_mk, TYS_mk, TYM_mk, SO_mk, NX_mk, endK_mk, endK_mk', add_0]
  have e08 := e07.trans e8
  refine c_ReadPegs (t := tPg) sm_exPg (he.ext e08) fun s9 v9 e9 r9 => ?_
  rw [rd_exPg] at r9 ⊢
  obtain ⟨x9, c9, y9, d9, rfl, f9, g9, _⟩ := r9
  try simp only [TUP_mk, AGG_mk, HD_mk, NL_mk, TYI_mk, TYB_mk, TYP_mk, TYL_mk, TYS_mk, TYM_mk, SO_mk, NX_mk, endK_mk, endK_mk', add_0]
  refine nw3 zc_25 rfl rfl rfl fun t1 h1 z1 p0 p1 p2 => ?_
  have e0t1 := (e08.trans e9).trans h1
  refine c_ReadPanels (t := tPn) sm_exPn (he.ext e0t1) fun s10 v10 e10 r10 => ?_
  rw [rd_exPn] at r10 ⊢
  obtain ⟨x10, c10, y10, d10, w10, b10, rfl, f10, g10, h10, _⟩ := r10
  try simp only [TUP_mk, AGG_mk, HD_mk, NL_mk, TYI_mk, TYB_mk, TYP_mk, TYL_mk, TYS_mk, TYM_mk, SO_mk, NX_mk, endK_mk, endK_mk', add_0]
  refine nw3 zc_29 rfl rfl rfl fun t2 h2 z2 q0 q1 q2 => ?_
  have e0t2 := e0t1.trans (e10.trans h2)
  refine c_ReadHearing (t := tHr) sm_exHr (he.ext e0t2) fun s11 v11 e11 r11 => ?_
  rw [rd_exHr] at r11 ⊢
  obtain ⟨x11, c11, y11, d11, rfl, f11, g11, _⟩ := r11
  try simp only [TUP_mk, AGG_mk, HD_mk, NL_mk, TYI_mk, TYB_mk, TYP_mk, TYL_mk, TYS_mk, TYM_mk, SO_mk, NX_mk, endK_mk, endK_mk', add_0]
  refine nw5 zc_34 rfl (by simp [oneCell]) fun t3 h3 z3 r => ?_
  refine NEW_rule fun t4' h4' z4' b4 sh4 => ?_
  have rowB' : RowAt t4' (some ⟨t3.size, 0, none⟩) (u8s tFr) := row_new b4
  refine cnv_50 (x := ⟨t3.size, 0, none⟩) sh4 fun t4 k4 hc4 => ?_
  have h4 : Ext t3 t4 := ext_kp h4' (Nat.le_refl _) k4
  have rowB : RowAt t4 (some ⟨t3.size, 0, none⟩) (u8s tFr) := fun i hi => by
    obtain ⟨a, ha, hb⟩ := rowB' i hi
    exact ⟨a, ha, by rw [hc4]; exact hb⟩
  try simp only [TUP_mk, AGG_mk, HD_mk, NL_mk, TYI_mk, TYB_mk, TYP_mk, TYL_mk, TYS_mk, TYM_mk, SO_mk, NX_mk, endK_mk, endK_mk', add_0]
  refine c_ReadFurrow (l := tFr) rowB fun s12 v12 e12 r12 => ?_
  rw [rd_exFr] at r12 ⊢
  obtain ⟨x12, c12, y12, d12, w12, b12, rfl, f12, g12, h12, _⟩ := r12
  try simp only [TUP_mk, AGG_mk, HD_mk, NL_mk, TYI_mk, TYB_mk, TYP_mk, TYL_mk, TYS_mk, TYM_mk, SO_mk, NX_mk, endK_mk, endK_mk', add_0]
  refine nw3 zc_37' rfl rfl rfl fun t5 h5 z5 u0 u1 u2 => ?_
  have e34 := (e11.trans h3).trans (h4.trans (e12.trans h5))
  have e45 := h4.trans (e12.trans h5)
  have e25 := (e10.trans h2).trans e34
  have E5 := e0t2.trans e34
  -- the texts are right
  refine BR_ff (seq_ne tPg) ?_
  unfold J_law14_alive_11
  refine BR_ff rfl ?_
  unfold J_law14_alive_10
  refine BR_ff (seq_ne tPn) ?_
  unfold J_law14_alive_9
  refine BR_ff rfl ?_
  unfold J_law14_alive_8
  refine BR_ff (seq_ne tHr) ?_
  unfold J_law14_alive_7
  refine BR_ff rfl ?_
  refine B2S_bs (f8.row.ext ((e9.trans h1).trans e25)) ?_
  unfold J_law14_alive_6
  refine BR_ff (seq_ne tFr) ?_
  unfold J_law14_alive_5
  refine BR_ff rfl ?_
  refine ⟨_, (e25.own p0).cell, _, _, _, (e25.own p1).cell, _, _, _, (e25.own p2).cell, ?_⟩
  refine c_exPegs fun m1 x y c d n1 hx hy => ?_
  try simp only [TUP_mk, AGG_mk, HD_mk, NL_mk, TYI_mk, TYB_mk, TYP_mk, TYL_mk, TYS_mk, TYM_mk, SO_mk, NX_mk, endK_mk, endK_mk', add_0]
  have en1 := e25.trans n1
  refine ANDS_i ⟨_, (en1.own p0).cell, _, _, _, (en1.own p1).cell, _, _, _, (en1.own p2).cell, rfl⟩ ?_
  refine c_SamePegs (p := exPg) (q := exPg) ((f9.row.ext h1).ext en1) ((g9.row.ext h1).ext en1) hx hy (by decide) (by decide) fun m2 n2 => ?_
  try simp only [TUP_mk, AGG_mk, HD_mk, NL_mk, TYI_mk, TYB_mk, TYP_mk, TYL_mk, TYS_mk, TYM_mk, SO_mk, NX_mk, endK_mk, endK_mk', add_0]
  refine BR_tt (by simp) ?_
  have e3m := e34.trans (n1.trans n2)
  unfold J_law14_alive_4
  refine BR_tt rfl ?_
  refine ⟨_, _, _, (e3m.own q0).cell, _, _, _, (e3m.own q1).cell, _, _, _, (e3m.own q2).cell, ?_⟩
  refine c_exPanels fun m3 x y w c d e n3 hx hy hw => ?_
  try simp only [TUP_mk, AGG_mk, HD_mk, NL_mk, TYI_mk, TYB_mk, TYP_mk, TYL_mk, TYS_mk, TYM_mk, SO_mk, NX_mk, endK_mk, endK_mk', add_0]
  have e3n := e3m.trans n3
  refine ANDS_i ⟨_, _, _, (e3n.own q0).cell, _, _, _, (e3n.own q1).cell, _, _, _, (e3n.own q2).cell, rfl⟩ ?_
  refine c_SamePanels (p := exPn) (q := exPn) ((f10.row.ext h2).ext e3n) ((g10.row.ext h2).ext e3n) ((h10.row.ext h2).ext e3n) hx hy hw (by decide) (by decide) (by decide) fun m4 n4 => ?_
  try simp only [TUP_mk, AGG_mk, HD_mk, NL_mk, TYI_mk, TYB_mk, TYP_mk, TYL_mk, TYS_mk, TYM_mk, SO_mk, NX_mk, endK_mk, endK_mk', add_0]
  rw [show decide True = true from rfl]
  unfold J_law14_alive_3
  refine BR_tt rfl ?_
  have e4m := e45.trans ((n1.trans n2).trans (n3.trans n4))
  unfold J_law14_alive_2
  refine BR_tt rfl ?_
  refine ⟨_, (e4m.own (r 0 (by omega))).cell, _, (e4m.own (r 1 (by omega))).cell, _, (e4m.own (r 2 (by omega))).cell, _, _, _, (e4m.own (r 3 (by omega))).cell, _, _, _, (e4m.own (r 4 (by omega))).cell, ?_⟩
  refine c_exHearing fun m5 x y c d n5 hx hy => ?_
  try simp only [TUP_mk, AGG_mk, HD_mk, NL_mk, TYI_mk, TYB_mk, TYP_mk, TYL_mk, TYS_mk, TYM_mk, SO_mk, NX_mk, endK_mk, endK_mk', add_0]
  have e4n := e4m.trans n5
  refine ANDS_i ⟨_, (e4n.own (r 0 (by omega))).cell, _, (e4n.own (r 1 (by omega))).cell, _, (e4n.own (r 2 (by omega))).cell, _, _, _, (e4n.own (r 3 (by omega))).cell, _, _, _, (e4n.own (r 4 (by omega))).cell, rfl⟩ ?_
  refine c_SameHearing (p := exHr) (q := exHr) ((f11.row.ext h3).ext e4n) ((g11.row.ext h3).ext e4n) hx hy (by decide) (by decide) fun m6 n6 => ?_
  try simp only [TUP_mk, AGG_mk, HD_mk, NL_mk, TYI_mk, TYB_mk, TYP_mk, TYL_mk, TYS_mk, TYM_mk, SO_mk, NX_mk, endK_mk, endK_mk', add_0]
  rw [show decide True = true from rfl]
  unfold J_law14_alive_1
  refine BR_tt rfl ?_
  have e5m := ((n1.trans n2).trans (n3.trans n4)).trans (n5.trans n6)
  unfold J_law14_alive_0
  refine BR_tt rfl ?_
  refine ⟨_, _, _, (e5m.own u0).cell, _, _, _, (e5m.own u1).cell, _, _, _, (e5m.own u2).cell, ?_⟩
  refine c_exFurrow fun m7 x y w c d e n7 hf => ?_
  try simp only [TUP_mk, AGG_mk, HD_mk, NL_mk, TYI_mk, TYB_mk, TYP_mk, TYL_mk, TYS_mk, TYM_mk, SO_mk, NX_mk, endK_mk, endK_mk', add_0]
  have e5n := e5m.trans n7
  refine ANDS_i ⟨_, _, _, (e5n.own u0).cell, _, _, _, (e5n.own u1).cell, _, _, _, (e5n.own u2).cell, rfl⟩ ?_
  refine c_SameFurrow (p := exFr) (q := exFr) ⟨(f12.row.ext h5).ext e5n, (g12.row.ext h5).ext e5n, (h12.row.ext h5).ext e5n⟩ hf (by decide) (by decide) (by decide) fun m8 n8 => ?_
  try simp only [TUP_mk, AGG_mk, HD_mk, NL_mk, TYI_mk, TYB_mk, TYP_mk, TYL_mk, TYS_mk, TYM_mk, SO_mk, NX_mk, endK_mk, endK_mk', add_0]
  refine BR_tt (by simp) ?_
  try simp only [TUP_mk, AGG_mk, HD_mk, NL_mk, TYI_mk, TYB_mk, TYP_mk, TYL_mk, TYS_mk, TYM_mk, SO_mk, NX_mk, endK_mk, endK_mk', add_0]
  exact hk m8 ((E5.trans e5n).trans n8)
end
end Go.Proofs.YtcjgbanpkmpekaaGreatDoor.G

/- More of the functions' shallow texts, by gen.py. -/
set_option linter.unusedVariables false
set_option maxRecDepth 100000
namespace Go.Proofs.YtcjgbanpkmpekaaGreatDoor.G
open Go.V
def an_5 : Nat → Ann := fun b => match b with
 | _ => {}
abbrev rv_5 : List ResultVar := [.tmp 0]
abbrev rs_5 : List Nat := [56, 0]
def J_law14_BookNames_0 (W : World) (R : Ending → Hp → Prop) (b92 : Bool) (n59 : Int) (n85 : Int) : Hp → Prop :=
 BR b92
 (NEW 5 [(.int .u8 70), (.int .u8 5)] fun B93 =>
 CALL Pg W F_ref14_Check [(.slice (some ⟨B93, 0, none⟩) 2 2)]
 (fun v94 => TYI .i64 v94 fun n96 =>
 BR (n96 == 80)
 (BR (n59 == 8)
 (R (.returned (.bool (n85 == 11))))
 (R (.returned (.bool false))))
 (R (.returned (.bool false))))
 (fun e95 => R (.panicked e95)))
 (R (.returned (.bool false)))
def J_law14_BookNames_1 (W : World) (R : Ending → Hp → Prop) (b91 : Bool) (n33 : Int) (n59 : Int) (n85 : Int) : Hp → Prop :=
 BR b91
 (J_law14_BookNames_0 W R (n33 == 0) n59 n85)
 (J_law14_BookNames_0 W R false n59 n85)
def J_law14_BookNames_2 (W : World) (R : Ending → Hp → Prop) (b90 : Bool) (n9 : Int) (n33 : Int) (n59 : Int) (n85 : Int) : Hp → Prop :=
 BR b90
 (J_law14_BookNames_1 W R (n9 == 0) n33 n59 n85)
 (J_law14_BookNames_1 W R false n33 n59 n85)
def T_law14_BookNames (W : World) (R : Ending → Hp → Prop) : Hp → Prop :=
 CALL Pg W F_book_WritePanels [(.agg #[(.slice none 0 0), (.slice none 0 0), (.slice none 0 0)])]
 (fun v1 => TUP v1 fun q3 => HD q3 fun v4 r5 => TYS v4 fun t6 =>
 HD r5 fun v7 r8 => TYI .i64 v7 fun n9 =>
 NL r8 <|
 CALL Pg W F_book_ReadPanels [(.string ⟨#[106, 117, 100, 103, 101, 115, 10, 112, 108, 111, 116, 115, 10]⟩)]
 (fun v10 => TUP v10 fun q12 => HD q12 fun v13 r14 => AGG v13 fun q15 => HD q15 fun v16 r17 => TYL v16 fun x18 l19 c20 =>
 HD r17 fun v21 r22 => TYL v21 fun x23 l24 c25 =>
 HD r22 fun v26 r27 => TYL v26 fun x28 l29 c30 =>
 NL r27 <|
 HD r14 fun v31 r32 => TYI .i64 v31 fun n33 =>
 NL r32 <|
 NEWZ Pg 29 fun B34 =>
 WR (Addr.add ⟨B34, 0, none⟩ 0) (.slice x18 l19 c20) <|
 WR (Addr.add ⟨B34, 0, none⟩ 1) (.slice x23 l24 c25) <|
 WR (Addr.add ⟨B34, 0, none⟩ 2) (.slice x28 l29 c30) <|
 NEW 5 [(.int .u8 70), (.int .u8 5), (.int .u8 0), (.int .u8 80)] fun B35 =>
 CALL Pg W F_book_ReadFurrow [(.slice (some ⟨B35, 0, none⟩) 4 4)]
 (fun v36 => TUP v36 fun q38 => HD q38 fun v39 r40 => AGG v39 fun q41 => HD q41 fun v42 r43 => TYL v42 fun x44 l45 c46 =>
 HD r43 fun v47 r48 => TYL v47 fun x49 l50 c51 =>
 HD r48 fun v52 r53 => TYL v52 fun x54 l55 c56 =>
 NL r53 <|
 HD r40 fun v57 r58 => TYI .i64 v57 fun n59 =>
 NL r58 <|
 NEWZ Pg 37 fun B60 =>
 WR (Addr.add ⟨B60, 0, none⟩ 0) (.slice x44 l45 c46) <|
 WR (Addr.add ⟨B60, 0, none⟩ 1) (.slice x49 l50 c51) <|
 WR (Addr.add ⟨B60, 0, none⟩ 2) (.slice x54 l55 c56) <|
 NEW 5 [(.int .u8 70), (.int .u8 5), (.int .u8 0), (.int .u8 81)] fun B61 =>
 CALL Pg W F_book_ReadFurrow [(.slice (some ⟨B61, 0, none⟩) 4 4)]
 (fun v62 => TUP v62 fun q64 => HD q64 fun v65 r66 => AGG v65 fun q67 => HD q67 fun v68 r69 => TYL v68 fun x70 l71 c72 =>
 HD r69 fun v73 r74 => TYL v73 fun x75 l76 c77 =>
 HD r74 fun v78 r79 => TYL v78 fun x80 l81 c82 =>
 NL r79 <|
 HD r66 fun v83 r84 => TYI .i64 v83 fun n85 =>
 NL r84 <|
 NEWZ Pg 37 fun B86 =>
 WR (Addr.add ⟨B86, 0, none⟩ 0) (.slice x70 l71 c72) <|
 WR (Addr.add ⟨B86, 0, none⟩ 1) (.slice x75 l76 c77) <|
 WR (Addr.add ⟨B86, 0, none⟩ 2) (.slice x80 l81 c82) <|
 CALL Pg W F_law14_alive []
 (fun v87 => TYB v87 fun b89 =>
 BR b89
 (J_law14_BookNames_2 W R (seqB t6 ⟨#[106, 117, 100, 103, 101, 115, 10, 112, 108, 111, 116, 115, 10]⟩) n9 n33 n59 n85)
 (J_law14_BookNames_2 W R false n9 n33 n59 n85))
 (fun e88 => R (.panicked e88)))
 (fun e63 => R (.panicked e63)))
 (fun e37 => R (.panicked e37)))
 (fun e11 => R (.panicked e11)))
 (fun e2 => R (.panicked e2))
theorem T_law14_BookNames_eq (W : World) (R : Ending → Hp → Prop) : vfun Pg W an_5 Tryz.f5 [] R = T_law14_BookNames W R := by kernel_rfl
theorem does_law14_BookNames (W : World) (R : Ending → Hp → Prop) (s : Hp) (h : T_law14_BookNames W R s) : Does Pg W F_law14_BookNames #[] s R :=
  does_of_vfun Pg W an_5 Tryz.func5 rfl (by kernel_rfl) (by rw [T_law14_BookNames_eq]; exact h)
end Go.Proofs.YtcjgbanpkmpekaaGreatDoor.G

/- BookNames. -/
set_option linter.unusedVariables false
set_option linter.unusedSimpArgs false
set_option maxRecDepth 20000
namespace Go.Proofs.YtcjgbanpkmpekaaGreatDoor.G
open Go.V
def tNm : BL := [106, 117, 100, 103, 101, 115, 10, 112, 108, 111, 116, 115, 10]
theorem ok_pn0 : okPn pn0 = true := by decide
theorem tx_pn0 : txt (pnW pn0) = tNm := by decide
theorem rd_pn0 : readT pnStep pn0 okPn pnW tNm = (pn0, 0) := by rw [← tx_pn0]; exact kind_pn.readT_txt ok_pn0
theorem sm_pn0 : (∀ p, parseT pnStep pn0 tNm = some p → sml (pnN p)) ∧ (parseT pnStep pn0 tNm = none → Big) := by
  rw [← tx_pn0]
  refine ⟨fun p h => ?_, fun h => absurd h (pa_no kind_pn ok_pn0)⟩
  have e := pa_ex kind_pn ok_pn0 h
  subst e
  exact .inr (by decide)
theorem rd_f1 : readF [70, 5, 0, 80] = (fr0, 8) := by decide
theorem rd_f2 : readF [70, 5, 0, 81] = (fr0, 11) := by decide
section
variable {W : World} {K : VK} {E : List PanicEntry → Hp → Prop} {s : Hp}
theorem w_BookNames (he : Env s) (hk : ∀ s', Ext s s' → K (.bool true) s') : CALL Pg W F_law14_BookNames [] K E s := by
  refine does_law14_BookNames W _ s ?_
  unfold T_law14_BookNames
  refine c_WritePanels (p := pn0) (x := none) (y := none) (w := none) he (fun i hi => by simp [ints, pn0] at hi) (fun i hi => by simp [ints, pn0] at hi) (fun i hi => by simp [pn0] at hi) (gdPn.g (k := 2000) ⟨by simp [pn0], by simp [pn0], by simp [pn0], by decide, by decide, by decide⟩ (by decide) (.inr (by decide))) fun s1 e1 => ?_
  rw [wr_ex ok_pn0, tx_pn0]
  try simp only [TUP_mk, AGG_mk, HD_mk, NL_mk, TYI_mk, TYB_mk, TYP_mk, TYL_mk, TYS_mk, TYM_mk, SO_mk, NX_mk, endK_mk, endK_mk', add_0]
  refine c_ReadPanels (t := tNm) sm_pn0 (he.ext e1) fun s2 v2 e2 r2 => ?_
  rw [rd_pn0] at r2 ⊢
  obtain ⟨x2, c2, y2, d2, w2, b2, rfl, _⟩ := r2
  try simp only [TUP_mk, AGG_mk, HD_mk, NL_mk, TYI_mk, TYB_mk, TYP_mk, TYL_mk, TYS_mk, TYM_mk, SO_mk, NX_mk, endK_mk, endK_mk', add_0]
  refine nw3 zc_29 rfl rfl rfl fun s3 e3 z3 _ _ _ => ?_
  refine NEW_rule fun s4 e4 z4 o4 _ => ?_
  refine c_ReadFurrow (l := [70, 5, 0, 80]) (row_new o4) fun s5 v5 e5 r5 => ?_
  rw [rd_f1] at r5 ⊢
  obtain ⟨x5, c5, y5, d5, w5, b5, rfl, _⟩ := r5
  try simp only [TUP_mk, AGG_mk, HD_mk, NL_mk, TYI_mk, TYB_mk, TYP_mk, TYL_mk, TYS_mk, TYM_mk, SO_mk, NX_mk, endK_mk, endK_mk', add_0]
  refine nw3 zc_37' rfl rfl rfl fun s6 e6 z6 _ _ _ => ?_
  refine NEW_rule fun s7 e7 z7 o7 _ => ?_
  refine c_ReadFurrow (l := [70, 5, 0, 81]) (row_new o7) fun s8 v8 e8 r8 => ?_
  rw [rd_f2] at r8 ⊢
  obtain ⟨x8, c8, y8, d8, w8, b8, rfl, _⟩ := r8
  try simp only [TUP_mk, AGG_mk, HD_mk, NL_mk, TYI_mk, TYB_mk, TYP_mk, TYL_mk, TYS_mk, TYM_mk, SO_mk, NX_mk, endK_mk, endK_mk', add_0]
  refine nw3 zc_37' rfl rfl rfl fun s9 e9 z9 _ _ _ => ?_
  have e09 := ((e1.trans e2).trans (e3.trans e4)).trans (((e5.trans e6).trans (e7.trans e8)).trans e9)
  refine c_alive (he.ext e09) fun sa ea => ?_
  try simp only [TUP_mk, AGG_mk, HD_mk, NL_mk, TYI_mk, TYB_mk, TYP_mk, TYL_mk, TYS_mk, TYM_mk, SO_mk, NX_mk, endK_mk, endK_mk', add_0]
  have hs : seqB (bs tNm) ⟨#[106, 117, 100, 103, 101, 115, 10, 112, 108, 111, 116, 115, 10]⟩ = true := by
    show seqB (bs tNm) (bs tNm) = true
    rw [seq_bs']; simp
  rw [hs]
  unfold J_law14_BookNames_2
  refine BR_tt rfl ?_
  unfold J_law14_BookNames_1
  refine BR_tt rfl ?_
  unfold J_law14_BookNames_0
  refine BR_tt rfl ?_
  try refine BR_tt rfl ?_
  refine NEW_rule fun sb eb zb ob _ => ?_
  refine c_Check (l := [70, 5]) (row_new ob) (by decide) ?_
  try simp only [TUP_mk, AGG_mk, HD_mk, NL_mk, TYI_mk, TYB_mk, TYP_mk, TYL_mk, TYS_mk, TYM_mk, SO_mk, NX_mk, endK_mk, endK_mk', add_0]
  refine BR_tt (by decide) ?_
  refine BR_tt rfl ?_
  try simp only [TUP_mk, AGG_mk, HD_mk, NL_mk, TYI_mk, TYB_mk, TYP_mk, TYL_mk, TYS_mk, TYM_mk, SO_mk, NX_mk, endK_mk, endK_mk', add_0]
  exact hk sb ((e09.trans ea).trans eb)
theorem v_BookNames (he : Env s) : CALL Pg W F_law14_BookNames [] (fun v s' => v = .bool true ∧ Ext s s') (fun _ _ => False) s := w_BookNames he fun s' e => ⟨rfl, e⟩
end
end Go.Proofs.YtcjgbanpkmpekaaGreatDoor.G

/- What the rows without the table of powers of ten have in common. -/
namespace Go.Proofs.YtcjgbanpkmpekaaGreatDoor.Rx
open Go.ChangeShapes Go.WideShapes Go.ChangeAt Go.RowKit Go.V
set_option linter.unusedVariables false
theorem own : ownKnob Tryz.prog.godebug = none := by kernel_rfl
theorem laidOut : laidOutB Tryz.prog = true := by kernel_rfl
/-- A world in which the listed variables hold what the program's text lays. -/
noncomputable def laidWorld (os : Os) : World :=
  let w0 := World.holding Tryz.prog os ⟨#[], #[], []⟩
  let put (h : Array Obj) (g : Nat) (cs : Array Value) : Array Obj := h.modify g fun
    | .cells _ t frozen => .cells cs t frozen
    | o => o
  let h1 := put w0.heap 4 (Go.Pinned.utf8FirstZ.map fun (n : Nat) => Value.int .u8 n).toArray
  { w0 with heap := put h1 5 ((([128, 191, 160, 191, 128, 159, 144, 191, 128, 143] : List Int) ++ List.replicate 22 0).map fun n => Value.int .u8 n).toArray }
set_option maxRecDepth 100000 in
theorem laid_2 (os : Os) (args : Array Value) : laidMet Tryz.prog [("unicode/utf8.acceptRanges", Rows.laid_unicode_utf8_acceptRanges), ("unicode/utf8.first", Rows.laid_unicode_utf8_first)] ((laidWorld os).forCall (fun _ _ => 0) ⟨#[], args, []⟩).memory :=
  laidMet_of_run' 8 (by kernel_rfl) (by kernel_rfl)
theorem env_of {W : World} (h : W.ShapedOpen Tryz.prog) : G.Env W.heap where
  mx := cell_of_shapedOpen_int (g := 0) (t := 3) (zero := #[.int .i64 0]) h (of_decide_eq_true (by kernel_rfl)) (by kernel_rfl) rfl (by kernel_rfl) (by kernel_rfl) Tryz.underlying3
  pow := fun b => (show False from b).elim
  es := fun b => (show False from b).elim
  sz := by
    obtain ⟨cs, hh, _⟩ := h.1 7 #[.nilIface] 249 (of_decide_eq_true (by kernel_rfl)) (by kernel_rfl)
    have := (Array.getElem?_eq_some_iff.1 hh).1
    omega
  er := fun b => (show False from b).elim
theorem wants0 : ∀ t ∈ ([] : List TypeId), Tryz.prog.wantsStandIn t = false := fun t h => by cases h
theorem wants1 {t : TypeId} {l : List TypeId} (h : Tryz.prog.wantsStandIn t = false) (hl : ∀ t ∈ l, Tryz.prog.wantsStandIn t = false) : ∀ u ∈ t :: l, Tryz.prog.wantsStandIn u = false := fun u hu => by
  rcases List.mem_cons.1 hu with rfl | hu
  · exact h
  · exact hl u hu
theorem wants {a : Array TypeId} {t : TypeId} {j : Nat} (h : ∀ u ∈ a.toList, Tryz.prog.wantsStandIn u = false) (ht : a[j]? = some t) : Tryz.prog.wantsStandIn t = false := h t (by rw [← Array.getElem?_toList] at ht; exact List.mem_of_getElem? ht)
end Go.Proofs.YtcjgbanpkmpekaaGreatDoor.Rx

/- The row of the statement BookNames, and its card. -/
namespace Go.Proofs.YtcjgbanpkmpekaaGreatDoor.bookNames
open Go.ChangeShapes Go.WideShapes Go.ChangeAt Go.RowKit Go.V
set_option linter.unusedVariables false
theorem laid_met (os : Os) (args : Array Value) : laidMetH Tryz.prog Rows.bookNamesRow.laid ((Rx.laidWorld os).forCall (fun _ _ => 0) ⟨#[], args, []⟩).memory := Rx.laid_2 os args
set_option maxRecDepth 100000 in
theorem lifted (os : Os) (started : os.Started) (H : Type) (enc : TypeId × Value → H) (F : Stop.Interp) :
    ReturnsInHanded {} Tryz.checked os 5 .any ((OpenSpec.ofChange Rows.bookNamesSpec).preRow enc Tryz.prog Tryz.f5 Rows.bookNamesRow.domain false Rows.bookNamesRow.laid) (((OpenSpec.ofChange Rows.bookNamesSpec).at F).post enc Tryz.prog Tryz.f5 false true false false) := by
  refine returnsInHanded_of_row (C := Tryz.checked) (s := OpenSpec.ofChange Rows.bookNamesSpec) Rx.own started (by kernel_rfl) Tryz.func5
    (witness_row_at (enc := enc) (C := Tryz.checked) false (Rx.laidWorld os) #[] rfl (by kernel_rfl) (by kernel_rfl) (by kernel_rfl) (OpenSpec.preRow_of_B rfl 8 (by kernel_rfl) (by kernel_rfl) (laid_met os _))) ?_
  intro W base args ds gs before hval0 hW hcnd _ hsz0 hL hsh _
  have hval : ∀ (j : Nat) t v, Tryz.f5.params[j]? = some t → args[j]? = some v → Value.okWide Tryz.prog W .any base t v := hval0
  have hW' := hW
  obtain ⟨p, q, hA0, hV, rfl, hfz, hnd⟩ := hW
  have hA : DataW.TrodAll enc Tryz.prog W 0 (fun _ => true) true Tryz.f5.params.toList args.toList ds p := hA0
  rw [Tryz.params5] at hA hval
  obtain ⟨rfl, rfl, rfl⟩ := trodAll_none hA
  obtain ⟨rfl, rfl⟩ := trodVars_none hV
  refine (calls_of_does (does_of_call (G.v_BookNames (W := W) (s := W.heap) (Rx.env_of hsh)))).mono fun e W' ⟨he, bel⟩ => ?_
  subst he
  exact ⟨_, rfl, _, _, _, [], _, [], hW', trodAll_mk1 (shut_bool Tryz.underlying4 _), trodAll_mk0, rfl, bel.frame _, fun h => by cases h⟩
theorem over : Rows.bookNamesRow.holds Tryz.pinned (OpenSpec.ofChange Rows.bookNamesSpec) :=
  OpenClaim.holds_of_cond 5 Tryz.f5 rfl rfl rfl rfl rfl rfl rfl ⟨rfl, rfl, rfl, rfl, rfl⟩ rfl rfl rfl rfl rfl (by kernel_rfl) Tryz.func5 (by kernel_rfl)
    (of_decide_eq_true (by kernel_rfl)) (by unfold Func.isWrapper; first | (rw [if_pos (by decide +kernel)]; kernel_rfl) | (rw [if_neg (by decide +kernel)]; exact ⟨rfl, rfl⟩))
    (fun os started H enc _ F0 => by rw [OpenClaim.pre_eq_preRow]; exact lifted os started H enc F0)
theorem proved : Rows.BookNamesSaid := over
theorem card : Rows.BookNamesCardSaid :=
  Claim7.holds_tied_plain_at .later [] [.data, .pinned] true (true, "28193b9190124b0ae8ca521e695d35e8bef494109476732e6656f4b725b3cc2d") true
    over (fun _ h => by cases h) (by kernel_rfl) (fun _ h => by cases h) bookNames_row_tie rfl ⟨rfl, rfl⟩ (by kernel_rfl) rfl
    (fun f fn hf hfn => by
      obtain rfl : f = 5 := Option.some.inj ((show Tryz.prog.funcNamed "furrowworks/furrowworkslaw14.BookNames" = some 5 by kernel_rfl).symm.trans hf) |>.symm
      obtain rfl : fn = Tryz.f5 := (Option.some.inj (Tryz.func5.symm.trans hfn)).symm
      exact ⟨by kernel_rfl, fun j t ht => by
        rw [Tryz.params5] at ht
        exact Rx.wants (a := #[]) Rx.wants0 ht⟩)
    (by kernel_rfl)
end Go.Proofs.YtcjgbanpkmpekaaGreatDoor.bookNames
namespace Go.Proofs.YtcjgbanpkmpekaaGreatDoor
/-- The card, under a short name. -/
theorem bookNames_holds : Rows.BookNamesCardSaid := bookNames.card
end Go.Proofs.YtcjgbanpkmpekaaGreatDoor
