import Derived.Test.YtcjgbanpkmpekaaGreatDoorC2
/- Lemmas: contracts over the visible heap, and that they are sound; no condition. -/
/- Book, plain: pegs, panels and hearings, their texts, what is valid, and how the program and the document read them. -/
set_option linter.unusedVariables false
set_option linter.unusedSimpArgs false
set_option maxRecDepth 20000
namespace Go.Proofs.YtcjgbanpkmpekaaGreatDoor.G
open Go
structure Wd where
  per : Bool
  num : Int
  nt : Bool
  deriving DecidableEq
structure Q4 where
  a : Int
  b : Int
  c : Int
  d : Int
  deriving DecidableEq
structure Cl where
  wit : Int
  knd : Int
  a : Wd
  b : Wd
  deriving DecidableEq
structure PgS where
  side : Int
  posts : List Q4
  lens : List Q4
  deriving DecidableEq
structure PnS where
  loads : List Int
  needs : List Int
  kin : List (Int × Int)
  deriving DecidableEq
structure HrS where
  facts : Int
  wits : Int
  liars : Int
  claims : List Cl
  known : List Wd
  deriving DecidableEq
def wd0 : Wd := ⟨false, 0, false⟩
def b_field : BL := [102, 105, 101, 108, 100]
def b_post : BL := [112, 111, 115, 116]
def b_chain : BL := [99, 104, 97, 105, 110]
def b_judges : BL := [106, 117, 100, 103, 101, 115]
def b_plots : BL := [112, 108, 111, 116, 115]
def b_kin : BL := [107, 105, 110]
def b_hearing : BL := [104, 101, 97, 114, 105, 110, 103]
def b_known : BL := [107, 110, 111, 119, 110]
def b_is : BL := [105, 115]
def b_or : BL := [111, 114]
def b_if : BL := [105, 102]
/-! ### Texts -/
def dots (a b : Int) : BL := it a ++ 46 :: 46 :: it b
def wdT (w : Wd) : BL := (if w.nt then [45] else []) ++ (if w.per then 119 else 102) :: it w.num
def kindT (k : Int) : BL := if k = 0 then b_is else if k = 1 then b_or else b_if
def postW (q : Q4) : List BL := [b_post, dots q.a q.b, dots q.c q.d]
def chainW (q : Q4) : List BL := [b_chain, it q.a, it q.b, dots q.c q.d]
def kinW (k : Int × Int) : List BL := [b_kin, it k.1, it k.2]
def clW (c : Cl) : List BL := [it c.wit, kindT c.knd, wdT c.a] ++ (if c.knd = 0 then [] else [wdT c.b])
def knownW (w : Wd) : List BL := [b_known, wdT w]
def pgW (p : PgS) : List (List BL) := [b_field, it p.side] :: (p.posts.map postW ++ p.lens.map chainW)
def pnW (p : PnS) : List (List BL) := (b_judges :: p.loads.map it) :: (b_plots :: p.needs.map it) :: p.kin.map kinW
def hrW (h : HrS) : List (List BL) := [b_hearing, it h.facts, it h.wits, it h.liars] :: (h.claims.map clW ++ h.known.map knownW)
/-! ### What is valid -/
def okPost (s : Int) (q : Q4) : Bool := decide ((0 ≤ q.a ∧ q.a ≤ q.b ∧ q.b ≤ s ∧ q.b - q.a ≤ 2) ∧ 0 ≤ q.c ∧ q.c ≤ q.d ∧ q.d ≤ s ∧ q.d - q.c ≤ 2)
def okLen (n : Nat) (q : Q4) : Bool := decide ((0 ≤ q.a ∧ q.a < n) ∧ (0 ≤ q.b ∧ q.b < n) ∧ q.a ≠ q.b ∧ 0 ≤ q.c ∧ q.c ≤ q.d ∧ q.d ≤ 30)
def okPg (p : PgS) : Bool := decide (0 ≤ p.side ∧ p.side ≤ 15 ∧ p.posts.length ≤ 4 ∧ p.lens.length ≤ 6) && (p.posts.all (okPost p.side) && p.lens.all (okLen p.posts.length))
def okKin (a b : Nat) (k : Int × Int) : Bool := decide ((0 ≤ k.1 ∧ k.1 < a) ∧ 0 ≤ k.2 ∧ k.2 < b)
def okPn (p : PnS) : Bool := decide (p.loads.length ≤ 6 ∧ p.needs.length ≤ 6 ∧ p.kin.length ≤ 10) && (p.loads.all (fun n => decide (0 ≤ n ∧ n ≤ 6)) && (p.needs.all (fun n => decide (0 ≤ n ∧ n ≤ 3)) && p.kin.all (okKin p.loads.length p.needs.length)))
def okWd (f w : Int) (x : Wd) : Bool := if x.per then decide (0 ≤ x.num ∧ x.num < w) else decide (0 ≤ x.num ∧ x.num < f)
def okClD (f w : Int) (c : Cl) : Bool := decide (0 ≤ c.wit ∧ c.wit < w) && (decide (0 ≤ c.knd ∧ c.knd ≤ 2) && (okWd f w c.a && (decide (c.knd = 0) || okWd f w c.b)))
def okHrD (h : HrS) : Bool := decide ((0 ≤ h.facts ∧ h.facts ≤ 6) ∧ (0 ≤ h.wits ∧ h.wits ≤ 6) ∧ (0 ≤ h.liars ∧ h.liars ≤ h.wits) ∧ h.claims.length ≤ 14 ∧ h.known.length ≤ 4) && (h.claims.all (okClD h.facts h.wits) && h.known.all (okWd h.facts h.wits))
def plCl (c : Cl) : Bool := !(decide (c.knd = 0) && !decide (c.b = wd0))
def plHr (h : HrS) : Bool := h.claims.all plCl
def okHr (h : HrS) : Bool := okHrD h && plHr h
/-! ### How the program reads -/
def nextN : List BL → Option (Int × List BL)
  | [] => none
  | y :: r => (figL y).map (·, r)
def nextS : List BL → Option ((Int × Int) × List BL)
  | [] => none
  | y :: r => match Lib.cut y [46, 46] with
    | (a, b, true) => match figL a, figL b with
      | some lo, some hi => some ((lo, hi), r)
      | _, _ => none
    | _ => none
def wordL (y : BL) : Option Wd :=
  let s1 := Lib.trimPrefix y [45]
  let s2 := Lib.trimPrefix s1 [119]
  if Lib.hasPrefix s1 [119] then (figL s2).map fun n => ⟨true, n, Lib.hasPrefix y [45]⟩
  else if Lib.hasPrefix s2 [102] then (figL (Lib.trimPrefix s2 [102])).map fun n => ⟨false, n, Lib.hasPrefix y [45]⟩ else none
def nextW : List BL → Option (Wd × List BL)
  | [] => none
  | y :: r => (wordL y).map (·, r)
def allN : List BL → Option (List Int)
  | [] => some []
  | y :: r => (figL y).bind fun n => (allN r).map (n :: ·)
def pgStep (p : PgS) : List BL → Option PgS
  | [] => none
  | f :: r => if f = b_field then (nextN r).map fun x => { p with side := x.1 }
    else if f = b_post then (nextS r).bind fun x => (nextS x.2).map fun y => { p with posts := p.posts ++ [⟨x.1.1, x.1.2, y.1.1, y.1.2⟩] }
    else if f = b_chain then (nextN r).bind fun x => (nextN x.2).bind fun y => (nextS y.2).map fun z => { p with lens := p.lens ++ [⟨x.1, y.1, z.1.1, z.1.2⟩] }
    else none
def pnStep (p : PnS) : List BL → Option PnS
  | [] => none
  | f :: r => if f = b_judges then (allN r).map fun l => { p with loads := l }
    else if f = b_plots then (allN r).map fun l => { p with needs := l }
    else if f = b_kin then (nextN r).bind fun x => (nextN x.2).map fun y => { p with kin := p.kin ++ [(x.1, y.1)] }
    else none
def kindL (w : BL) : Int := if b_if = w then 2 else if b_or = w then 1 else if b_is = w then 0 else -1
def claimL (f : BL) (r : List BL) : Option Cl := (figL f).bind fun n => match r with
  | [] => none
  | w :: r => (nextW r).bind fun x => if kindL w = 0 then some ⟨n, kindL w, x.1, wd0⟩ else (nextW x.2).map fun y => ⟨n, kindL w, x.1, y.1⟩
def hrStep (h : HrS) : List BL → Option HrS
  | [] => none
  | f :: r => if f = b_hearing then (nextN r).bind fun x => (nextN x.2).bind fun y => (nextN y.2).map fun z => { h with facts := x.1, wits := y.1, liars := z.1 }
    else if f = b_known then (nextW r).map fun x => { h with known := h.known ++ [x.1] }
    else (claimL f r).map fun c => { h with claims := h.claims ++ [c] }
/-- The lines of a text, read one after the other. -/
def runL {α : Type} (step : α → List BL → Option α) : α → List (List BL) → Option α
  | a, [] => some a
  | a, w :: W => (step a w).bind fun b => runL step b W
theorem runL_app {α : Type} {step : α → List BL → Option α} : ∀ (A B : List (List BL)) (a b : α), runL step a A = some b → runL step a (A ++ B) = runL step b B
  | [], B, a, b, h => by injection h with h; subst h; rfl
  | w :: A, B, a, b, h => by
    simp only [List.cons_append, runL] at h ⊢
    cases hs : step a w with
    | none => rw [hs] at h; cases h
    | some c => rw [hs] at h; exact runL_app A B c b h
def parseT {α : Type} (step : α → List BL → Option α) (z : α) (s : BL) : Option α := if Lib.hasSuffix s [10] then runL step z ((lnl s).map lparts) else none
theorem parse_txt {α : Type} {step : α → List BL → Option α} {z : α} {W : List (List BL)} (g : Good W) (h : W ≠ []) : parseT step z (txt W) = runL step z W := by
  unfold parseT
  rw [if_pos (suf_txt h), lparts_txt g]
/-- How a text is read by the program: the error, and what is read. -/
def readT {α : Type} (step : α → List BL → Option α) (z : α) (ok : α → Bool) (W : α → List (List BL)) (s : BL) : α × Int :=
  if 2000 < s.length then (z, 3) else match parseT step z s with
    | some p => if ok p = true ∧ txt (W p) = s then (p, 0) else (z, 8)
    | none => (z, 8)
/-- .. and by the document. -/
def readD {α : Type} (doc : List (List BL) → Option α) (z : α) (s : BL) : α × Int :=
  if 2000 < s.length then (z, 3) else match (docL s).bind doc with
    | some p => (p, 0)
    | none => (z, 8)
/-- What is asked of a kind of texts. -/
structure KindT {α : Type} (step : α → List BL → Option α) (z : α) (ok : α → Bool) (W : α → List (List BL)) (doc : List (List BL) → Option α) : Prop where
  good : ∀ p, ok p = true → Good (W p)
  ne : ∀ p, W p ≠ []
  run : ∀ p, ok p = true → runL step z (W p) = some p
  docW : ∀ p, ok p = true → doc (W p) = some p
  doc : ∀ L p, doc L = some p → ok p = true ∧ W p = L
  len : ∀ p, ok p = true → (txt (W p)).length ≤ 2000
section
variable {α : Type} {step : α → List BL → Option α} {z : α} {ok : α → Bool} {W : α → List (List BL)} {doc : List (List BL) → Option α}
theorem KindT.readT_txt (k : KindT step z ok W doc) {p : α} (h : ok p = true) : readT step z ok W (txt (W p)) = (p, 0) := by
  unfold readT
  have := k.len p h
  rw [if_neg (by omega), parse_txt (k.good p h) (k.ne p), k.run p h]
  simp only
  rw [if_pos ⟨h, trivial⟩]
theorem KindT.readT_ok (k : KindT step z ok W doc) {p : α} {s : BL} (h : readT step z ok W s = (p, 0)) : ok p = true ∧ txt (W p) = s := by
  unfold readT at h
  split at h
  · cases h
  · split at h
    · split at h
      · rename_i hh; cases h; exact hh
      · cases h
    · cases h
theorem readT_no {s : BL} (h : ∀ p, ok p = true → txt (W p) ≠ s) : readT step z ok W s = (z, if 2000 < s.length then 3 else 8) := by
  unfold readT
  split
  · rfl
  · split
    · rename_i p _
      rw [if_neg (fun hh => h p hh.1 hh.2)]
    · rfl
theorem KindT.read_eq (k : KindT step z ok W doc) (s : BL) : readT step z ok W s = readD doc z s := by
  unfold readD
  split
  · rename_i hl; unfold readT; rw [if_pos hl]
  · rename_i hl
    split
    · rename_i p hp
      obtain ⟨L, h1, h2⟩ := Option.bind_eq_some_iff.1 hp
      obtain ⟨h3, h4⟩ := k.doc L p h2
      have := txt_docL h1
      rw [← this, ← h4]
      exact k.readT_txt h3
    · rename_i hp
      rw [readT_no, if_neg hl]
      intro p hok e
      subst e
      rw [docL_txt (k.good p hok) (k.ne p)] at hp
      simp only [Option.bind_some] at hp
      rw [k.docW p hok] at hp
      cases hp
end
end Go.Proofs.YtcjgbanpkmpekaaGreatDoor.G

/- What is left of a line: parts, numbers, spans, words. -/
set_option linter.unusedVariables false
set_option linter.unusedSimpArgs false
set_option maxRecDepth 20000
namespace Go.Proofs.YtcjgbanpkmpekaaGreatDoor.G
open Go.V
/-- Bytes as a string. -/
def bs (l : BL) : ByteArray := ⟨l.toArray⟩
theorem bs_l (l : BL) : (bs l).data.toList = l := rfl
theorem bs_of (b : ByteArray) : bs b.data.toList = b := rfl
theorem bs_size (l : BL) : (bs l).size = l.length := by rw [Lib.size_eq, bs_l]
theorem bs_app (a b : BL) : bs a ++ bs b = bs (a ++ b) := by
  rw [← bs_of (bs a ++ bs b)]
  simp [bs]
theorem STC_bs {a b : BL} {K : ByteArray → Hp → Prop} {s : Hp} (h : a.length + b.length ≤ 9223372036854775807) (k : K (bs (a ++ b)) s) : STC (bs a) (bs b) K s := by
  refine ⟨by rw [bs_size, bs_size]; exact h, ?_⟩
  rw [bs_app]; exact k
/-- Several cells of a block of one's own are written. -/
theorem wrs {a : Addr} {vs cs : List Value} {s : Hp} {K : Hp → Prop} (hl : vs.length = cs.length) (hc : ∀ i (h : i < cs.length), Own s (a.add i) cs[i]) (hv : ∀ v ∈ vs, oneCell v = true)
    (h : ∀ s', Kp (· = a.block) s s' → s'.size = s.size → (∀ i (h : i < vs.length), Own s' (a.add i) vs[i]) → K s') : wrN vs a 0 K s :=
  wrN_rule vs a 0 K s (fun i hi => ⟨cs[i]'(by omega), by rw [Nat.zero_add]; exact hc i (by omega)⟩) hv fun s' k z o _ => h s' k z fun i hi => by have := o i hi; rw [Nat.zero_add] at this; exact this
theorem wrs2 {B : Nat} {y0 y1 v0 v1 : Value} {s : Hp} {K : Hp → Prop} (c0 : Own s ⟨B, 0, none⟩ y0) (c1 : Own s ⟨B, 1, none⟩ y1) (h0 : oneCell v0 = true) (h1 : oneCell v1 = true)
    (h : ∀ s', Kp (· = B) s s' → s'.size = s.size → Own s' ⟨B, 0, none⟩ v0 → Own s' ⟨B, 1, none⟩ v1 → K s') : WR (Addr.add ⟨B, 0, none⟩ 0) v0 (WR (Addr.add ⟨B, 0, none⟩ 1) v1 K) s :=
  wrs (a := ⟨B, 0, none⟩) (vs := [v0, v1]) (cs := [y0, y1]) rfl (fun i hi => match i, hi with | 0, _ => c0 | 1, _ => c1) (by simp [h0, h1]) fun s' k z o => h s' k z (o 0 (by simp)) (o 1 (by simp))
theorem wrs3 {B : Nat} {y0 y1 y2 v0 v1 v2 : Value} {s : Hp} {K : Hp → Prop} (c0 : Own s ⟨B, 0, none⟩ y0) (c1 : Own s ⟨B, 1, none⟩ y1) (c2 : Own s ⟨B, 2, none⟩ y2) (h0 : oneCell v0 = true) (h1 : oneCell v1 = true) (h2 : oneCell v2 = true)
    (h : ∀ s', Kp (· = B) s s' → s'.size = s.size → Own s' ⟨B, 0, none⟩ v0 → Own s' ⟨B, 1, none⟩ v1 → Own s' ⟨B, 2, none⟩ v2 → K s') : WR (Addr.add ⟨B, 0, none⟩ 0) v0 (WR (Addr.add ⟨B, 0, none⟩ 1) v1 (WR (Addr.add ⟨B, 0, none⟩ 2) v2 K)) s :=
  wrs (a := ⟨B, 0, none⟩) (vs := [v0, v1, v2]) (cs := [y0, y1, y2]) rfl (fun i hi => match i, hi with | 0, _ => c0 | 1, _ => c1 | 2, _ => c2) (by simp [h0, h1, h2]) fun s' k z o => h s' k z (o 0 (by simp)) (o 1 (by simp)) (o 2 (by simp))
/-- A heap that went on, and a write into what came since. -/
theorem kp_new {C : Nat → Prop} {s0 s s' : Hp} {B : Nat} (h : Kp C s0 s) (hB : s0.size ≤ B) (k : Kp (· = B) s s') : Kp C s0 s' := ⟨Nat.le_trans h.1 k.1, fun q hq hd => (k.2 q (Nat.lt_of_lt_of_le hq h.1) (fun hh => by have h2 : q = B := hh; omega)).trans (h.2 q hq hd)⟩
/-- The panic of what has not its form. -/
def MF (e : Int) : List PanicEntry := [{ v := .iface 172 (.agg #[.int .i64 e]), recovered := false }]
theorem Env.kp {D : Nat → Prop} {s s' : Hp} (h : Env s) (k : Kp D s s') (hd : ∀ b, D b → 8 ≤ b) : Env s' where
  mx := by obtain ⟨m, hm⟩ := h.mx; exact ⟨m, k.cell (fun hh => by have h8 : 8 ≤ 0 := hd _ hh; omega) hm⟩
  pow := fun hb => by
    obtain ⟨g, t, f, h1, h2⟩ := h.pow hb
    have hg : g = 1 := Option.some.inj (h1.symm.trans (show Pg.globalNamed "internal/strconv.uint64pow10" = some 1 by kernel_rfl))
    subst hg
    exact ⟨1, t, f, h1, (k.2 1 (Array.getElem?_eq_some_iff.1 h2).1 (fun hh => by have := hd _ hh; omega)).trans h2⟩
  es := fun hB => by obtain ⟨v, hm, hv⟩ := h.es hB; exact ⟨v, k.cell (fun hh => by have h8 : 8 ≤ 6 := hd _ hh; omega) hm, hv⟩
  sz := Nat.le_trans h.sz k.1
  er := fun hB => by obtain ⟨v, hm, hv⟩ := h.er hB; exact ⟨v, k.cell (fun hh => by have h8 : 8 ≤ 7 := hd _ hh; omega) hm, hv⟩
theorem Env.size {s : Hp} (h : Env s) : 8 ≤ s.size := by
  exact h.sz
section
variable {W : World} {K : VK} {E : List PanicEntry → Hp → Prop} {s : Hp}
theorem c_need {b : Bool} {e : Int} (ht : b = true → K (.tuple #[]) s) (hf : b = false → E (MF e) s) : CALL Pg W F_book_need [.bool b, .int .i64 e] K E s := by
  refine does_book_need W b e _ s ?_
  unfold T_book_need
  cases b with
  | true => exact ht rfl
  | false => exact hf rfl
def strs (l : List BL) : List Value := l.map fun p => .string (bs p)
/-- A line's parts that are left, at 'a'; they lie in the block 'q'. -/
structure RowS (s : Hp) (a : Addr) (q : Nat) (ps : List BL) : Prop where
  row : ∃ x c, Own s a (.slice x ps.length c) ∧ ps.length ≤ c ∧ RowAt s x (strs ps) ∧ ∀ b, x = some b → b.block = q
  ne : q ≠ a.block
  lt : q < s.size
  sz : ∀ y ∈ ps, y.length ≤ 100000
theorem c_part {a : Addr} {q : Nat} {ps : List BL} (hr : RowS s a q ps) (h0 : ps = [] → E (MF 8) s) (h1 : ∀ y r s', ps = y :: r → Kp (· = a.block) s s' → s'.size = s.size → RowS s' a q r → K (.string (bs y)) s') :
    CALL Pg W F_book_row_part [.pointer (some a)] K E s := by
  obtain ⟨⟨x, c, ho, hc, hrow, hq⟩, hne, hlt, hsz⟩ := hr
  refine does_book_row_part W _ _ s ?_
  unfold T_book_row_part
  try simp only [TUP_mk, AGG_mk, HD_mk, NL_mk, TYI_mk, TYB_mk, TYP_mk, TYL_mk, TYS_mk, TYM_mk, SO_mk, NX_mk, endK_mk, endK_mk', add_0]
  refine ⟨x, ps.length, c, ho.cell, ?_⟩
  cases ps with
  | nil => exact c_need (fun h => by simp at h) (fun _ => h0 rfl)
  | cons y r =>
    refine c_need (fun _ => ?_) (fun h => by simp at h)
    try simp only [TUP_mk, AGG_mk, HD_mk, NL_mk, TYI_mk, TYB_mk, TYP_mk, TYL_mk, TYS_mk, TYM_mk, SO_mk, NX_mk, endK_mk, endK_mk', add_0]
    refine ⟨x, _, c, ho.cell, ?_⟩
    obtain ⟨b, hb, hcell⟩ := hrow 0 (by simp [strs])
    subst hb
    refine ⟨b, rfl, ⟨by omega, by simp⟩, ?_⟩
    refine ⟨bs y, by simpa [strs] using hcell, ?_⟩
    try simp only [TUP_mk, AGG_mk, HD_mk, NL_mk, TYI_mk, TYB_mk, TYP_mk, TYL_mk, TYS_mk, TYM_mk, SO_mk, NX_mk, endK_mk, endK_mk', add_0]
    refine ⟨some b, _, c, ho.cell, ⟨by omega, by simp; omega, by simp at hc ⊢; omega⟩, ?_⟩
    try simp only [TUP_mk, AGG_mk, HD_mk, NL_mk, TYI_mk, TYB_mk, TYP_mk, TYL_mk, TYS_mk, TYM_mk, SO_mk, NX_mk, endK_mk, endK_mk', add_0]
    refine wr1 ho rfl fun s' k z o => ?_
    have hbq := hq b rfl
    refine h1 y r s' rfl k z ⟨⟨_, _, by simpa using o, by simp at hc ⊢; omega, ?_, ?_⟩, hne, by omega, fun z hz => hsz z (by simp [hz])⟩
    · intro i hi
      have hi' : i < r.length := by simpa [strs] using hi
      obtain ⟨b', h1', h2'⟩ := hrow (i + 1) (by simpa [strs] using hi')
      cases h1'
      have hc1 : c ≠ 1 := by intro e; simp at hc; omega
      refine ⟨b.add (1 * 1), by simp [hc1], ?_⟩
      rw [addr_add]
      have := k.cell (by rw [add_blk, hbq]; exact hne) h2'
      simpa [Nat.add_comm, strs] using this
    · intro q hq
      split at hq
      · cases hq; exact hbq
      · simp at hq; rw [← hq, add_blk]; exact hbq
theorem c_figure {b : BL} (hb : b.length ≤ 281474976710656) (he : Env s) (hB : figL b = none → Big) (h0 : figL b = none → ∀ s', Ext s s' → E (MF 8) s') (h1 : ∀ n s', figL b = some n → Ext s s' → K (.int .i64 n) s') : CALL Pg W F_book_figure [.string (bs b)] K E s := by
  refine does_book_figure W (bs b) _ s ?_
  unfold T_book_figure
  have hN : (∀ v, Lib.atoiAll (bs b).data.toList ≠ .ok v) → figL b = none := fun hr => by
    rw [bs_l] at hr
    unfold figL
    split
    · rename_i v hv; exact absurd hv (hr v)
    · rfl
  refine c_Atoi (by rw [bs_size]; exact hb) he (fun h => hB (hN h)) (fun v s' hr e => ?_) (fun hr n te pe s' e => ?_)
  · try simp only [TUP_mk, AGG_mk, HD_mk, NL_mk, TYI_mk, TYB_mk, TYP_mk, TYL_mk, TYS_mk, TYM_mk, SO_mk, NX_mk, endK_mk, endK_mk', add_0]
    refine c_need (fun _ => ?_) (fun h => by cases h)
    try simp only [TUP_mk, AGG_mk, HD_mk, NL_mk, TYI_mk, TYB_mk, TYP_mk, TYL_mk, TYS_mk, TYM_mk, SO_mk, NX_mk, endK_mk, endK_mk', add_0]
    exact h1 v s' (by unfold figL; rw [bs_l] at hr; rw [hr]) e
  · try simp only [TUP_mk, AGG_mk, HD_mk, NL_mk, TYI_mk, TYB_mk, TYP_mk, TYL_mk, TYS_mk, TYM_mk, SO_mk, NX_mk, endK_mk, endK_mk', add_0]
    exact c_need (fun h => by cases h) (fun _ => h0 (hN hr) s' e)
theorem RowS.kp {D : Nat → Prop} {s' : Hp} {a : Addr} {q : Nat} {ps : List BL} (h : RowS s a q ps) (k : Kp D s s') (ha : ¬ D a.block) (hd : ¬ D q) : RowS s' a q ps := by
  obtain ⟨⟨x, c, h1, h2, h3, h4⟩, h5, h6, h7⟩ := h
  refine ⟨⟨x, c, k.own ha h1, h2, h3.keep k (fun b hb => by rw [h4 b hb]; exact hd), h4⟩, h5, Nat.lt_of_lt_of_le h6 k.1, h7⟩
theorem RowS.ext {s' : Hp} {a : Addr} {q : Nat} {ps : List BL} (h : RowS s a q ps) (e : Ext s s') : RowS s' a q ps := h.kp (e.kp (C := fun _ => False)) id id
theorem RowS.alt {a : Addr} {q : Nat} {ps : List BL} (h : RowS s a q ps) : a.block < s.size := by obtain ⟨⟨x, c, ho, _⟩, _⟩ := h; exact ho.lt
variable {a : Addr} {q : Nat} {ps : List BL}
theorem Env.row {s' : Hp} (h : Env s) (ha : 8 ≤ a.block) (k : Kp (· = a.block) s s') : Env s' := h.kp k fun b hb => by subst hb; exact ha
theorem c_number (hr : RowS s a q ps) (he : Env s) (ha : 8 ≤ a.block) (hB : nextN ps = none → Big) (h0 : nextN ps = none → ∀ s', Kp (· = a.block) s s' → E (MF 8) s')
    (h1 : ∀ n r s', nextN ps = some (n, r) → Kp (· = a.block) s s' → RowS s' a q r → K (.int .i64 n) s') : CALL Pg W F_book_row_number [.pointer (some a)] K E s := by
  refine does_book_row_number W _ _ s ?_
  unfold T_book_row_number
  refine c_part hr (fun h => h0 (by rw [h]; rfl) s (Kp.refl s)) (fun y r s1 hp k1 z1 r1 => ?_)
  subst hp
  try simp only [TUP_mk, AGG_mk, HD_mk, NL_mk, TYI_mk, TYB_mk, TYP_mk, TYL_mk, TYS_mk, TYM_mk, SO_mk, NX_mk, endK_mk, endK_mk', add_0]
  refine c_figure (by have := hr.sz y (by simp); omega) (he.row ha k1) (fun hf => hB (by simp [nextN, hf])) (fun hf s2 e2 => ?_) (fun n s2 hf e2 => ?_)
  · exact h0 (by simp [nextN, hf]) s2 (k1.ext e2)
  · try simp only [TUP_mk, AGG_mk, HD_mk, NL_mk, TYI_mk, TYB_mk, TYP_mk, TYL_mk, TYS_mk, TYM_mk, SO_mk, NX_mk, endK_mk, endK_mk', add_0]
    exact h1 n r s2 (by simp [nextN, hf]) (k1.ext e2) (r1.ext e2)
theorem zc_74 : zc Pg 74 = [.int .i64 0, .int .i64 0] := by kernel_rfl
theorem zc_79 : zc Pg 79 = [.bool false, .int .i64 0, .bool false] := by kernel_rfl
theorem cut_len {l a b : BL} {t : Bool} (h : Lib.cut l [46, 46] = (a, b, t)) : a.length ≤ l.length ∧ b.length ≤ l.length := by
  unfold Lib.cut at h
  split at h <;> cases h <;> simp <;> omega
theorem c_span (hr : RowS s a q ps) (he : Env s) (ha : 8 ≤ a.block) (hB : nextS ps = none → Big) (h0 : nextS ps = none → ∀ s', Kp (· = a.block) s s' → E (MF 8) s')
    (h1 : ∀ x r s', nextS ps = some (x, r) → Kp (· = a.block) s s' → RowS s' a q r → K (.agg #[.int .i64 x.1, .int .i64 x.2]) s') : CALL Pg W F_book_row_span [.pointer (some a)] K E s := by
  refine does_book_row_span W _ _ s ?_
  unfold T_book_row_span
  refine nz2 zc_74 fun s1 e1 z1 o1 o2 => ?_
  have hlt := hr.alt
  refine c_part (hr.ext e1) (fun h => h0 (by rw [h]; rfl) _ e1.kp) (fun y r s2 hp k2 z2 r2 => ?_)
  subst hp
  have hy := hr.sz y (by simp)
  try simp only [TUP_mk, AGG_mk, HD_mk, NL_mk, TYI_mk, TYB_mk, TYP_mk, TYL_mk, TYS_mk, TYM_mk, SO_mk, NX_mk, endK_mk, endK_mk', add_0]
  refine c_Cut (by rw [bs_size]; omega) ((he.ext e1).row ha k2) fun s3 e3 => ?_
  rw [bs_l]
  have hby : (ByteArray.mk #[46, 46]).data.toList = ([46, 46] : BL) := rfl
  rw [hby]
  have hn : nextS (y :: r) = (match Lib.cut y [46, 46] with | (a, b, true) => (match figL a, figL b with | some lo, some hi => some ((lo, hi), r) | _, _ => none) | _ => none) := rfl
  have hk : Kp (· = a.block) s s3 := (e1.kp.trans k2).ext e3
  have he3 : Env s3 := he.row ha hk
  rcases hc : Lib.cut y [46, 46] with ⟨u, v, t⟩
  rw [hc] at hn
  obtain ⟨hu, hv⟩ := cut_len hc
  try simp only [TUP_mk, AGG_mk, HD_mk, NL_mk, TYI_mk, TYB_mk, TYP_mk, TYL_mk, TYS_mk, TYM_mk, SO_mk, NX_mk, endK_mk, endK_mk', add_0]
  refine c_need (fun ht => ?_) (fun ht => ?_)
  · subst ht
    try simp only [TUP_mk, AGG_mk, HD_mk, NL_mk, TYI_mk, TYB_mk, TYP_mk, TYL_mk, TYS_mk, TYM_mk, SO_mk, NX_mk, endK_mk, endK_mk', add_0]
    refine c_figure (b := u) (by omega) he3 (fun hf => hB (by rw [hn]; simp only [hf])) (fun hf s4 e4 => ?_) (fun n s4 hf e4 => ?_)
    · exact h0 (by rw [hn]; simp only [hf]) s4 (hk.ext e4)
    try simp only [TUP_mk, AGG_mk, HD_mk, NL_mk, TYI_mk, TYB_mk, TYP_mk, TYL_mk, TYS_mk, TYM_mk, SO_mk, NX_mk, endK_mk, endK_mk', add_0]
    refine c_figure (b := v) (by omega) (he3.ext e4) (fun hg => hB (by rw [hn]; simp only [hf, hg])) (fun hg s5 e5 => ?_) (fun m s5 hg e5 => ?_)
    · exact h0 (by rw [hn]; simp only [hf, hg]) s5 ((hk.ext e4).ext e5)
    try simp only [TUP_mk, AGG_mk, HD_mk, NL_mk, TYI_mk, TYB_mk, TYP_mk, TYL_mk, TYS_mk, TYM_mk, SO_mk, NX_mk, endK_mk, endK_mk', add_0]
    have hne : ¬ s.size = a.block := by omega
    have p1 := e5.own (e4.own (e3.own (k2.own hne o1)))
    have p2 := e5.own (e4.own (e3.own (k2.own hne o2)))
    have hb6 := (hk.ext e4).ext e5
    refine wrs2 p1 p2 rfl rfl fun s6 k6 z6 q1 q2 => ?_
    refine ⟨_, q1.cell, _, q2.cell, ?_⟩
    try simp only [TUP_mk, AGG_mk, HD_mk, NL_mk, TYI_mk, TYB_mk, TYP_mk, TYL_mk, TYS_mk, TYM_mk, SO_mk, NX_mk, endK_mk, endK_mk', add_0]
    refine h1 (n, m) r s6 (by rw [hn]; simp only [hf, hg]) (kp_new hb6 (Nat.le_refl _) k6) ?_
    exact (((r2.ext e3).ext e4).ext e5).kp k6 (fun h => hne h.symm) (fun h => by have := hr.lt; omega)
  · subst ht
    exact h0 (by rw [hn]) s3 hk
end
end Go.Proofs.YtcjgbanpkmpekaaGreatDoor.G

/- What is left of a line: words, all numbers. -/
set_option linter.unusedVariables false
set_option linter.unusedSimpArgs false
set_option maxRecDepth 20000
namespace Go.Proofs.YtcjgbanpkmpekaaGreatDoor.G
open Go.V
def ints (l : List Int) : List Value := l.map fun n => .int .i64 n
theorem ints_len (l : List Int) : (ints l).length = l.length := by simp [ints]
def wdV (w : Wd) : Value := .agg #[.bool w.per, .int .i64 w.num, .bool w.nt]
section
variable {W : World} {K : VK} {E : List PanicEntry → Hp → Prop} {s : Hp} {a : Addr} {q : Nat} {ps : List BL}
theorem trimP_len (l p : BL) : (Lib.trimPrefix l p).length ≤ l.length := Lib.trimPrefix_le l p
theorem zc_3 : zc Pg 3 = [.int .i64 0] := by kernel_rfl
theorem kp_trans {C D : Nat → Prop} {s0 s s' : Hp} (h : Kp C s0 s) (k : Kp D s s') (hd : ∀ b, D b → C b ∨ s0.size ≤ b) : Kp C s0 s' := ⟨Nat.le_trans h.1 k.1, fun b hb hc => (k.2 b (Nat.lt_of_lt_of_le hb h.1) (fun hh => by rcases hd b hh with h1 | h1; exact hc h1; omega)).trans (h.2 b hb hc)⟩
theorem wr1k {a : Addr} {v y : Value} {K : Hp → Prop} (ha : Own s a y) (h0 : oneCell v = true) (h : ∀ s', Kp (· = a.block) s s' → s'.size = s.size → Own s' a v → (∀ b u, (b.block ≠ a.block ∨ b.off ≠ a.off) → Own s b u → Own s' b u) → K s') : WR a v K s :=
  WR_own ha h0 (h _ (Kp.setC (Kp.refl s) (.inl rfl)) (setC_size _ _ _) (own_set ha) fun b u hb ho => own_set_ne hb ho)
theorem word_J {B : Nat} {t : BL} {p n : Bool} {m : Int} (ht : t.length ≤ 100000) (he : Env s) (o0 : Own s ⟨B, 0, none⟩ (.bool p)) (o1 : Own s ⟨B, 1, none⟩ (.int .i64 m)) (o2 : Own s ⟨B, 2, none⟩ (.bool n))
    (hB : figL t = none → Big) (h0 : figL t = none → ∀ s', Ext s s' → E (MF 8) s') (h1 : ∀ k s', figL t = some k → Kp (· = B) s s' → K (wdV ⟨p, k, n⟩) s') : J_book_row_word_0 W (endK K E) (bs t) B s := by
  unfold J_book_row_word_0
  refine c_figure (by omega) he hB (fun hf s1 e1 => h0 hf s1 e1) (fun k s1 hf e1 => ?_)
  try simp only [TUP_mk, AGG_mk, HD_mk, NL_mk, TYI_mk, TYB_mk, TYP_mk, TYL_mk, TYS_mk, TYM_mk, SO_mk, NX_mk, endK_mk, endK_mk', add_0]
  refine wr1k (a := ⟨B, 1, none⟩) (e1.own o1) rfl fun s2 k2 z2 q1 kk => ?_
  have q0 := kk ⟨B, 0, none⟩ _ (.inr (by show 0 ≠ 1; omega)) (e1.own o0)
  have q2 := kk ⟨B, 2, none⟩ _ (.inr (by show 2 ≠ 1; omega)) (e1.own o2)
  refine ⟨_, q0.cell, _, q1.cell, _, q2.cell, ?_⟩
  refine wrs3 q0 q1 q2 rfl rfl rfl fun s3 k3 z3 u0 u1 u2 => ?_
  refine ⟨_, u0.cell, _, u1.cell, _, u2.cell, ?_⟩
  try simp only [TUP_mk, AGG_mk, HD_mk, NL_mk, TYI_mk, TYB_mk, TYP_mk, TYL_mk, TYS_mk, TYM_mk, SO_mk, NX_mk, endK_mk, endK_mk', add_0]
  exact h1 k s3 hf ((e1.kp.trans k2).trans k3)
theorem c_word (hr : RowS s a q ps) (he : Env s) (ha : 8 ≤ a.block) (hB : nextW ps = none → Big) (h0 : nextW ps = none → ∀ s', Kp (· = a.block) s s' → E (MF 8) s')
    (h1 : ∀ x r s', nextW ps = some (x, r) → Kp (· = a.block) s s' → RowS s' a q r → K (wdV x) s') : CALL Pg W F_book_row_word [.pointer (some a)] K E s := by
  refine does_book_row_word W _ _ s ?_
  unfold T_book_row_word
  refine NEWZ_rule zc_79 fun s1 e1 z1 o => ?_
  have o0 := o 0 _ rfl
  have o1 := o 1 _ rfl
  have o2 := o 2 _ rfl
  have hlt := hr.alt
  have hqt := hr.lt
  refine c_part (hr.ext e1) (fun h => h0 (by rw [h]; rfl) _ e1.kp) (fun y r s2 hp k2 z2 r2 => ?_)
  subst hp
  have hy := hr.sz y (by simp)
  have hne : ¬ s.size = a.block := by omega
  have hqne : ¬ q = s.size := by omega
  have p0 := k2.own hne o0
  have p1 := k2.own hne o1
  have p2 := k2.own hne o2
  have K2 : Kp (· = a.block) s s2 := e1.kp.trans k2
  have hN : nextW (y :: r) = (wordL y).map (·, r) := rfl
  try simp only [TUP_mk, AGG_mk, HD_mk, NL_mk, TYI_mk, TYB_mk, TYP_mk, TYL_mk, TYS_mk, TYM_mk, SO_mk, NX_mk, endK_mk, endK_mk', add_0]
  refine c_CutPrefix fun s3 e3 => ?_
  rw [bs_l]
  have hby : (ByteArray.mk #[45]).data.toList = ([45] : BL) := rfl
  rw [hby]
  try simp only [TUP_mk, AGG_mk, HD_mk, NL_mk, TYI_mk, TYB_mk, TYP_mk, TYL_mk, TYS_mk, TYM_mk, SO_mk, NX_mk, endK_mk, endK_mk', add_0]
  refine wr1k (a := ⟨s.size, 2, none⟩) (e3.own p2) rfl fun s4 k4 z4 q2 kk4 => ?_
  have K4 : Kp (· = a.block) s s4 := kp_new (K2.ext e3) (Nat.le_refl _) k4
  have r4 := (r2.ext e3).kp k4 (fun h => hne h.symm) hqne
  have q0 := kk4 ⟨s.size, 0, none⟩ _ (.inr (by show 0 ≠ 2; omega)) (e3.own p0)
  have q1 := kk4 ⟨s.size, 1, none⟩ _ (.inr (by show 1 ≠ 2; omega)) (e3.own p1)
  have l1 := Lib.trimPrefix_le y [45]
  refine c_CutPrefix fun s5 e5 => ?_
  have hbw : (ByteArray.mk #[119]).data.toList = ([119] : BL) := rfl
  rw [hbw]
  try simp only [TUP_mk, AGG_mk, HD_mk, NL_mk, TYI_mk, TYB_mk, TYP_mk, TYL_mk, TYS_mk, TYM_mk, SO_mk, NX_mk, endK_mk, endK_mk', add_0]
  refine wr1k (a := ⟨s.size, 0, none⟩) (e5.own q0) rfl fun s6 k6 z6 u0 kk6 => ?_
  have K6 : Kp (· = a.block) s s6 := kp_new (K4.ext e5) (Nat.le_refl _) k6
  have r6 := (r4.ext e5).kp k6 (fun h => hne h.symm) hqne
  have u1 := kk6 ⟨s.size, 1, none⟩ _ (.inr (by show 1 ≠ 0; omega)) (e5.own q1)
  have u2 := kk6 ⟨s.size, 2, none⟩ _ (.inr (by show 2 ≠ 0; omega)) (e5.own q2)
  refine ⟨_, u0.cell, ?_⟩
  have l2 := Lib.trimPrefix_le (Lib.trimPrefix y [45]) [119]
  refine BR_not (fun hb => ?_) (fun hb => ?_)
  · refine c_CutPrefix fun s7 e7 => ?_
    have hbf : (ByteArray.mk #[102]).data.toList = ([102] : BL) := rfl
    rw [hbf]
    try simp only [TUP_mk, AGG_mk, HD_mk, NL_mk, TYI_mk, TYB_mk, TYP_mk, TYL_mk, TYS_mk, TYM_mk, SO_mk, NX_mk, endK_mk, endK_mk', add_0]
    have l3 := Lib.trimPrefix_le (Lib.trimPrefix (Lib.trimPrefix y [45]) [119]) [102]
    refine c_need (fun hf => ?_) (fun hf => ?_)
    · try simp only [TUP_mk, AGG_mk, HD_mk, NL_mk, TYI_mk, TYB_mk, TYP_mk, TYL_mk, TYS_mk, TYM_mk, SO_mk, NX_mk, endK_mk, endK_mk', add_0]
      have hw : wordL y = (figL (Lib.trimPrefix (Lib.trimPrefix (Lib.trimPrefix y [45]) [119]) [102])).map fun n => ⟨false, n, Lib.hasPrefix y [45]⟩ := by
        have hb' : Lib.hasPrefix (Lib.trimPrefix y [45]) [119] = false := hb
        have hf' : Lib.hasPrefix (Lib.trimPrefix (Lib.trimPrefix y [45]) [119]) [102] = true := hf
        unfold wordL
        simp only [hb', hf', if_true, Bool.false_eq_true, if_false]
      refine word_J (t := Lib.trimPrefix (Lib.trimPrefix (Lib.trimPrefix y [45]) [119]) [102]) (by omega) (he.row ha (K6.ext e7)) (e7.own u0) (e7.own u1) (e7.own u2) (fun hg => hB (by rw [hN, hw, hg]; rfl)) (fun hg s8 e8 => ?_) (fun k s8 hg k8 => ?_)
      · exact h0 (by rw [hN, hw, hg]; rfl) s8 ((K6.ext e7).ext e8)
      · have hb' : Lib.hasPrefix (Lib.trimPrefix y [45]) [119] = false := hb
        have h := h1 ⟨false, k, Lib.hasPrefix y [45]⟩ r s8 (by rw [hN, hw, hg]; rfl) (kp_new (K6.ext e7) (Nat.le_refl _) k8) ((r6.ext e7).kp k8 (fun h => hne h.symm) hqne)
        rw [← hb'] at h
        exact h
    · have hw : wordL y = none := by
        have hb' : Lib.hasPrefix (Lib.trimPrefix y [45]) [119] = false := hb
        have hf' : Lib.hasPrefix (Lib.trimPrefix (Lib.trimPrefix y [45]) [119]) [102] = false := hf
        unfold wordL
        simp only [hb', hf', Bool.false_eq_true, if_false]
      exact h0 (by rw [hN, hw]; rfl) s7 (K6.ext e7)
  · have hb' : Lib.hasPrefix (Lib.trimPrefix y [45]) [119] = true := hb
    have hw : wordL y = (figL (Lib.trimPrefix (Lib.trimPrefix y [45]) [119])).map fun n => ⟨true, n, Lib.hasPrefix y [45]⟩ := by
      unfold wordL
      simp only [hb', if_true]
    refine word_J (t := Lib.trimPrefix (Lib.trimPrefix y [45]) [119]) (by omega) (he.row ha K6) u0 u1 u2 (fun hg => hB (by rw [hN, hw, hg]; rfl)) (fun hg s8 e8 => ?_) (fun k s8 hg k8 => ?_)
    · exact h0 (by rw [hN, hw, hg]; rfl) s8 (K6.ext e8)
    · have h := h1 ⟨true, k, Lib.hasPrefix y [45]⟩ r s8 (by rw [hN, hw, hg]; rfl) (kp_new K6 (Nat.le_refl _) k8) (r6.kp k8 (fun h => hne h.symm) hqne)
      rw [← hb'] at h
      exact h
/-- All numbers that are left. -/
theorem c_numbers (hr : RowS s a q ps) (he : Env s) (ha : 8 ≤ a.block) (hn : ps.length ≤ 100000) (hB : allN ps = none → Big) (h0 : allN ps = none → ∀ s', Kp (· = a.block) s s' → E (MF 8) s')
    (h1 : ∀ l x c s', allN ps = some l → Kp (· = a.block) s s' → Fr s.size s' x l.length c 1 (ints l) → (∀ a, x = some a → a.block < s'.size) → K (.slice x l.length c) s') : CALL Pg W F_book_row_numbers [.pointer (some a)] K E s := by
  refine does_book_row_numbers W _ _ s ?_
  unfold T_book_row_numbers
  refine L_book_row_numbers_0_rule W (endK K E) (some a) (fun x l c s' => ∃ acc r, RowS s' a q r ∧ Fr s.size s' x l c 1 (ints acc) ∧ Kp (· = a.block) s s' ∧ allN ps = (allN r).map (acc ++ ·) ∧ l = acc.length ∧ acc.length + r.length = ps.length ∧ (acc = [] → x = none)) (fun x l c s' => ps.length - l) _ _ _ s ⟨[], ps, hr, Fr.nil _ _ _, Kp.refl s, by simp, rfl, by simp, fun _ => rfl⟩ ?_
  rintro x l c s1 ⟨acc, r, r1, f1, k1, ea, rfl, el, hnil⟩
  unfold B_book_row_numbers_0
  try simp only [TUP_mk, AGG_mk, HD_mk, NL_mk, TYI_mk, TYB_mk, TYP_mk, TYL_mk, TYS_mk, TYM_mk, SO_mk, NX_mk, endK_mk, endK_mk', add_0]
  obtain ⟨xr, cr, hor, _⟩ := r1.row
  refine ⟨_, _, _, hor.cell, ?_⟩
  refine BR_eq (fun hz => ?_) (fun hz => ?_)
  · have : r = [] := List.eq_nil_of_length_eq_zero (by omega)
    subst this
    refine h1 acc x c s1 (by rw [ea]; simp [allN]) k1 f1 fun a ha => ?_
    cases acc with
    | nil => rw [hnil rfl] at ha; cases ha
    | cons n acc =>
      obtain ⟨b, hb, hc⟩ := f1.row 0 (by simp [ints])
      rw [ha] at hb; cases hb
      have := cell_lt hc
      rwa [add_blk] at this
  · have hno : nextN r = none → allN ps = none := fun hnn => by
      rw [ea]
      cases r with
      | nil => exact absurd rfl hz
      | cons y r =>
        simp only [nextN, Option.map_eq_none_iff] at hnn
        simp [allN, hnn]
    refine c_number r1 (he.row ha k1) ha (fun hnn => hB (hno hnn)) (fun hnn s2 k2 => ?_) (fun n r' s2 hnn k2 r2 => ?_)
    · exact h0 (hno hnn) s2 (k1.trans k2)
    · have hr' : ∃ y, r = y :: r' ∧ figL y = some n := by
        cases r with
        | nil => cases hnn
        | cons y r =>
          obtain ⟨m, hm, he'⟩ := Option.map_eq_some_iff.1 hnn
          cases he'
          exact ⟨y, rfl, hm⟩
      obtain ⟨y, rfl, hfy⟩ := hr'
      have hfr : ∀ b, x = some b → ¬ b.block = a.block := fun b hb => by have := f1.fr b hb; have := hr.alt; omega
      try simp only [TUP_mk, AGG_mk, HD_mk, NL_mk, TYI_mk, TYB_mk, TYP_mk, TYL_mk, TYS_mk, TYM_mk, SO_mk, NX_mk, endK_mk, endK_mk', add_0]
      refine ne1 fun s3 e3 z3 o3 => ?_
      have f3 := (f1.kp k2 hfr).ext e3
      refine APP_fr f3 (by have := k1.1; have := k2.1; have := e3.1; omega) (ws := [.int .i64 n]) (fun i hi => ?_) rfl zc_3 rfl (by omega) (by simp [oneCell]) (by simp at el ⊢; omega) (fun s4 x' c' k4 hx' f4 => ?_)
      · simp at hi; subst hi
        exact ⟨_, rfl, o3.cell⟩
      · have hd : ∀ b, (∃ a', x = some a' ∧ a'.block = b) → s.size ≤ b := fun b ⟨a', h1', h2'⟩ => by rw [← h2']; exact f1.fr a' h1'
        refine ⟨_, _, _, rfl, ⟨acc ++ [n], r', (r2.ext e3).kp k4 (fun ⟨a', h1', h2'⟩ => hfr a' h1' h2') (fun ⟨a', h1', h2'⟩ => by have := f1.fr a' h1'; have := hr.lt; omega), ?_, kp_trans ((k1.trans k2).ext e3) k4 (fun b hb => .inr (hd b hb)), ?_, ?_, ?_, fun h => by simp at h⟩, ?_⟩
        · have : ints (acc ++ [n]) = ints acc ++ [.int .i64 n] := by simp [ints]
          rw [this]
          exact f4
        · rw [ea]
          simp [allN, hfy]
          cases allN r' <;> simp
        · simp
        · simp at el ⊢; omega
        · simp at el ⊢; omega
end
end Go.Proofs.YtcjgbanpkmpekaaGreatDoor.G

/- Book, plain: how the document reads; that both read alike. -/
set_option linter.unusedVariables false
set_option linter.unusedSimpArgs false
set_option maxRecDepth 20000
namespace Go.Proofs.YtcjgbanpkmpekaaGreatDoor.G
open Go
/-! ### The document's numbers, spans and words -/
def valF (a : Int) (l : BL) : Int := l.foldl (fun n c => 10 * n + ((c.toNat : Int) - 48)) a
def valL (l : BL) : Int := valF 0 l
def digs (l : BL) : Bool := l.all fun c => decide (48 ≤ c.toNat ∧ c.toNat ≤ 57)
def numD (l : BL) : Option Int := if (1 ≤ l.length ∧ l.length ≤ 6) ∧ digs l = true ∧ it (valL l) = l then some (valL l) else none
def spanD (l : BL) : Option (Int × Int) := match Lib.cut l [46, 46] with
  | (a, b, true) => match numD a, numD b with
    | some x, some y => some (x, y)
    | _, _ => none
  | _ => none
def wordB (nt : Bool) : BL → Option Wd
  | c :: d :: q => if c = 102 ∨ c = 119 then (numD (d :: q)).map fun n => ⟨decide (c = 119), n, nt⟩ else none
  | _ => none
def wordD (l : BL) : Option Wd := match l with
  | 45 :: r => wordB true r
  | _ => wordB false l
def numsD : List BL → Option (List Int)
  | [] => some []
  | y :: r => (numD y).bind fun n => (numsD r).map (n :: ·)
def claimD : List BL → Option Cl
  | f :: k :: a :: r => (numD f).bind fun n => (wordD a).bind fun x => if kindL k < 0 then none else if kindL k = 0 then (if r = [] then some ⟨n, 0, x, wd0⟩ else none) else match r with
    | [b] => (wordD b).map fun y => ⟨n, kindL k, x, y⟩
    | _ => none
  | _ => none
def pgDStep (p : PgS) : List BL → Option PgS
  | [f, a, b] => if f = b_post ∧ p.lens = [] then (spanD a).bind fun x => (spanD b).map fun y => { p with posts := p.posts ++ [⟨x.1, x.2, y.1, y.2⟩] } else none
  | [f, a, b, c] => if f = b_chain then (numD a).bind fun x => (numD b).bind fun y => (spanD c).map fun z => { p with lens := p.lens ++ [⟨x, y, z.1, z.2⟩] } else none
  | _ => none
def pgDoc : List (List BL) → Option PgS
  | (f :: r) :: L => if f = b_field then (match numsD r with
    | some [n] => (runL pgDStep ⟨n, [], []⟩ L).bind fun p => if okPg p = true then some p else none
    | _ => none) else none
  | _ => none
def pnDStep (p : PnS) : List BL → Option PnS
  | f :: r => match numsD r with
    | some [x, y] => if f = b_kin then some { p with kin := p.kin ++ [(x, y)] } else none
    | _ => none
  | _ => none
def pnDoc : List (List BL) → Option PnS
  | (f :: r) :: (g :: q) :: L => if f = b_judges ∧ g = b_plots then (numsD r).bind fun a => (numsD q).bind fun b => (runL pnDStep ⟨a, b, []⟩ L).bind fun p => if okPn p = true then some p else none else none
  | _ => none
def hrDStep (h : HrS) : List BL → Option HrS
  | f :: r => if f = b_known then (match r with
      | [w] => (wordD w).map fun x => { h with known := h.known ++ [x] }
      | _ => none)
    else if h.known = [] then (claimD (f :: r)).map fun c => { h with claims := h.claims ++ [c] } else none
  | _ => none
def hrDoc : List (List BL) → Option HrS
  | (f :: r) :: L => if f = b_hearing then (match numsD r with
    | some [a, b, c] => (runL hrDStep ⟨a, b, c, [], []⟩ L).bind fun p => if okHrD p = true then some p else none
    | _ => none) else none
  | _ => none
theorem val_app (a : Int) (l r : BL) : valF a (l ++ r) = valF (valF a l) r := by simp [valF]
theorem val_nn : ∀ (l : BL) (a : Int), 0 ≤ a → digs l = true → 0 ≤ valF a l
  | [], a, h, _ => h
  | c :: l, a, h, hd => by
    simp only [digs, List.all_cons, Bool.and_eq_true, decide_eq_true_eq] at hd
    exact val_nn l _ (show 0 ≤ 10 * a + ((c.toNat : Int) - 48) by omega) hd.2
theorem val_dec (u : Nat) : valL (Lib.decDigits u) = u := by
  induction u using Nat.strongRecOn with
  | _ u ih =>
    rw [Lib.decDigits]
    split
    · rename_i h
      simp only [valL, valF, List.foldl_cons, List.foldl_nil]
      rw [d_nat h]; omega
    · rename_i h
      unfold valL at ih ⊢
      rw [val_app, ih (u / 10) (by omega)]
      simp only [valF, List.foldl_cons, List.foldl_nil]
      rw [d_nat (by omega)]; omega
theorem val_it {n : Int} (h : 0 ≤ n) : valL (it n) = n := by rw [it_nn h, val_dec]; omega
theorem digs_it {n : Int} (h : 0 ≤ n) : digs (it n) = true := by
  unfold digs
  rw [List.all_eq_true]
  intro c hc
  have := it_dig h c hc
  unfold isD at this
  simpa using this
theorem numD_it {n : Int} (h0 : 0 ≤ n) (h1 : n ≤ 999999) : numD (it n) = some n := by
  unfold numD
  rw [val_it h0, if_pos]
  refine ⟨⟨?_, it_len6 h0 h1⟩, digs_it h0, rfl⟩
  exact List.length_pos_iff.2 (it_ne n)
theorem numD_some {l : BL} {n : Int} (h : numD l = some n) : l = it n ∧ 0 ≤ n := by
  unfold numD at h
  split at h
  · rename_i hh
    injection h with h
    subst h
    exact ⟨hh.2.2.symm, val_nn l 0 (by omega) hh.2.1⟩
  · cases h
theorem it_not {n : Int} (h : 0 ≤ n) {d : UInt8} (hd : d.toNat < 48 ∨ 57 < d.toNat) : d ∉ it n := fun hh => isD_ne (it_dig h d hh) hd rfl
theorem cut_it {a b : Int} (ha : 0 ≤ a) : Lib.cut (dots a b) [46, 46] = (it a, it b, true) := cut_dots (it_not ha (.inl (by decide)))
theorem spanD_dots {a b : Int} (ha : 0 ≤ a) (hb : 0 ≤ b) (ha2 : a ≤ 999999) (hb2 : b ≤ 999999) : spanD (dots a b) = some (a, b) := by
  unfold spanD
  rw [cut_it ha]
  simp only [numD_it ha ha2, numD_it hb hb2]
theorem cut_some {l a b : BL} (h : Lib.cut l [46, 46] = (a, b, true)) : l = a ++ 46 :: 46 :: b := by
  unfold Lib.cut at h
  rcases Lib.index_spec l [46, 46] with ⟨h1, _⟩ | ⟨i, h1, h2, h3, _⟩
  · rw [h1] at h; simp at h
  · rw [h1, if_pos (by omega), Int.toNat_natCast] at h
    simp only [Prod.mk.injEq, and_true] at h
    obtain ⟨rfl, rfl⟩ := h
    have hp : ∃ t, l.drop i = 46 :: 46 :: t := by
      unfold Lib.occAt at h3
      rw [List.isPrefixOf_iff_prefix] at h3
      obtain ⟨t, ht⟩ := h3
      exact ⟨t, ht.symm⟩
    obtain ⟨t, ht⟩ := hp
    have : l.drop (i + ([46, 46] : BL).length) = t := by
      rw [← List.drop_drop, ht]; rfl
    rw [this, ← ht, List.take_append_drop]
theorem spanD_some {l : BL} {x : Int × Int} (h : spanD l = some x) : l = dots x.1 x.2 ∧ 0 ≤ x.1 ∧ 0 ≤ x.2 := by
  unfold spanD at h
  split at h
  · rename_i a b hc
    split at h
    · rename_i u v hu hv
      injection h with h
      subst h
      obtain ⟨h1, h2⟩ := numD_some hu
      obtain ⟨h3, h4⟩ := numD_some hv
      refine ⟨?_, h2, h4⟩
      rw [cut_some hc, h1, h3]; rfl
    · cases h
  · cases h
theorem wordB_some {nt : Bool} {l : BL} {w : Wd} (h : wordB nt l = some w) : l = (if w.per then 119 else 102) :: it w.num ∧ w.nt = nt ∧ 0 ≤ w.num := by
  unfold wordB at h
  split at h
  · rename_i c d q
    split at h
    · rename_i hc
      obtain ⟨n, hn, rfl⟩ := Option.map_eq_some_iff.1 h
      obtain ⟨h1, h2⟩ := numD_some hn
      refine ⟨?_, rfl, h2⟩
      rw [← h1]
      rcases hc with rfl | rfl <;> rfl
    · cases h
  · cases h
theorem wordD_some {l : BL} {w : Wd} (h : wordD l = some w) : l = wdT w ∧ 0 ≤ w.num := by
  unfold wordD at h
  split at h
  · obtain ⟨h1, h2, h3⟩ := wordB_some h
    exact ⟨by unfold wdT; rw [h2, h1]; rfl, h3⟩
  · obtain ⟨h1, h2, h3⟩ := wordB_some h
    exact ⟨by unfold wdT; rw [h2]; exact h1, h3⟩
theorem wordB_wd {nt : Bool} {w : Wd} (h0 : 0 ≤ w.num) (h1 : w.num ≤ 999999) (hn : w.nt = nt) : wordB nt ((if w.per then 119 else 102) :: it w.num) = some w := by
  have e := numD_it h0 h1
  cases hi : it w.num with
  | nil => exact absurd hi (it_ne _)
  | cons d q =>
    rw [hi] at e
    unfold wordB
    simp only
    rw [e]
    obtain ⟨p, n, t⟩ := w
    simp at hn; subst hn
    cases p <;> rfl
theorem wordD_wd {w : Wd} (h0 : 0 ≤ w.num) (h1 : w.num ≤ 999999) : wordD (wdT w) = some w := by
  unfold wordD wdT
  cases hn : w.nt with
  | true => exact wordB_wd h0 h1 hn
  | false =>
    have := wordB_wd h0 h1 hn
    cases hp : w.per with
    | true => rw [hp] at this; exact this
    | false => rw [hp] at this; exact this
theorem numsD_it : ∀ {l : List Int}, (∀ n ∈ l, 0 ≤ n ∧ n ≤ 999999) → numsD (l.map it) = some l
  | [], _ => rfl
  | n :: l, h => by
    simp only [List.map_cons, numsD]
    rw [numD_it (h n (by simp)).1 (h n (by simp)).2, Option.bind_some, numsD_it (fun m hm => h m (by simp [hm]))]
    rfl
theorem numsD_some : ∀ {ws : List BL} {l : List Int}, numsD ws = some l → ws = l.map it
  | [], l, h => by injection h with h; subst h; rfl
  | y :: r, l, h => by
    simp only [numsD] at h
    obtain ⟨n, hn, h2⟩ := Option.bind_eq_some_iff.1 h
    obtain ⟨l', hl, rfl⟩ := Option.map_eq_some_iff.1 h2
    rw [List.map_cons, ← numsD_some hl, ← (numD_some hn).1]
/-! ### The program's -/
theorem figs_span {a b : Int} (ha : 0 ≤ a) (hb : 0 ≤ b) (ha2 : a ≤ 999999) (hb2 : b ≤ 999999) (r : List BL) : nextS (dots a b :: r) = some ((a, b), r) := by
  unfold nextS
  simp only
  rw [cut_it ha]
  simp only [fig_it ha (by omega), fig_it hb (by omega)]
theorem nextN_it {a : Int} (ha : 0 ≤ a) (ha2 : a ≤ 999999) (r : List BL) : nextN (it a :: r) = some (a, r) := by
  unfold nextN
  simp only
  rw [fig_it ha (by omega)]; rfl
theorem pre_it {n : Int} (h : 0 ≤ n) {c : UInt8} (hc : c.toNat < 48 ∨ 57 < c.toNat) : Lib.hasPrefix (it n) [c] = false := by
  unfold Lib.hasPrefix
  cases hi : it n with
  | nil => exact absurd hi (it_ne _)
  | cons d q =>
    have : d ≠ c := isD_ne (it_dig h d (by rw [hi]; simp)) hc
    simp [List.isPrefixOf]
    exact fun e => this e.symm
theorem wordL_wd {w : Wd} (h0 : 0 ≤ w.num) (h1 : w.num ≤ 999999) : wordL (wdT w) = some w := by
  obtain ⟨p, n, t⟩ := w
  simp only at h0 h1
  have hf := fig_it h0 (by omega)
  cases p <;> cases t <;> simp [wordL, wdT, Lib.trimPrefix, Lib.hasPrefix, List.isPrefixOf, hf]
theorem nextW_wd {w : Wd} (h0 : 0 ≤ w.num) (h1 : w.num ≤ 999999) (r : List BL) : nextW (wdT w :: r) = some (w, r) := by
  unfold nextW; simp only; rw [wordL_wd h0 h1]; rfl
theorem allN_it : ∀ {l : List Int}, (∀ n ∈ l, 0 ≤ n ∧ n ≤ 999999) → allN (l.map it) = some l
  | [], _ => rfl
  | n :: l, h => by
    simp only [List.map_cons, allN]
    rw [fig_it (h n (by simp)).1 (by have := (h n (by simp)).2; omega), Option.bind_some, allN_it (fun m hm => h m (by simp [hm]))]
    rfl
theorem runL_map {α β : Type} {step : α → List BL → Option α} (f : List β → α) (g : β → List BL) : ∀ (l acc : List β), (∀ q ∈ l, ∀ acc, step (f acc) (g q) = some (f (acc ++ [q]))) → runL step (f acc) (l.map g) = some (f (acc ++ l))
  | [], acc, _ => by simp [runL]
  | q :: l, acc, h => by
    simp only [List.map_cons, runL]
    rw [h q (by simp), Option.bind_some, runL_map f g l (acc ++ [q]) (fun x hx => h x (by simp [hx]))]
    simp
theorem runL_inv {α : Type} {step : α → List BL → Option α} {W : α → List (List BL)} {J : α → Prop} (hs : ∀ a w b, J a → step a w = some b → J b ∧ W b = W a ++ [w]) : ∀ (L : List (List BL)) (a b : α), J a → runL step a L = some b → J b ∧ W b = W a ++ L
  | [], a, b, j, h => by injection h with h; subst h; exact ⟨j, by simp⟩
  | w :: L, a, b, j, h => by
    simp only [runL] at h
    obtain ⟨c, hc, h2⟩ := Option.bind_eq_some_iff.1 h
    obtain ⟨j1, e1⟩ := hs a w c j hc
    obtain ⟨j2, e2⟩ := runL_inv hs L c b j1 h2
    exact ⟨j2, by rw [e2, e1]; simp⟩
/-! ### Words that can be told apart, and how long texts are -/
def wOk (w : BL) : Prop := (32 ∉ w ∧ 10 ∉ w) ∧ w.length ≤ 7
instance (w : BL) : Decidable (wOk w) := by unfold wOk; infer_instance
def WOk (W : List (List BL)) : Prop := ∀ ws ∈ W, (ws ≠ [] ∧ ws.length ≤ 7) ∧ ∀ w ∈ ws, wOk w
theorem WOk.good {W : List (List BL)} (h : WOk W) : Good W := fun ws hw => ⟨(h ws hw).1.1, fun w hh => ((h ws hw).2 w hh).1⟩
theorem it_ok {n : Int} (h0 : 0 ≤ n) (h1 : n ≤ 99) : wOk (it n) := ⟨⟨it_not h0 (.inl (by decide)), it_not h0 (.inl (by decide))⟩, by have := it_len2 h0 h1; omega⟩
theorem dots_ok {a b : Int} (ha : 0 ≤ a) (ha1 : a ≤ 99) (hb : 0 ≤ b) (hb1 : b ≤ 99) : wOk (dots a b) := by
  have h1 := it_len2 ha ha1
  have h2 := it_len2 hb hb1
  refine ⟨⟨?_, ?_⟩, ?_⟩
  · unfold dots
    simp only [List.mem_append, List.mem_cons, not_or]
    exact ⟨it_not ha (.inl (by decide)), by decide, by decide, it_not hb (.inl (by decide))⟩
  · unfold dots
    simp only [List.mem_append, List.mem_cons, not_or]
    exact ⟨it_not ha (.inl (by decide)), by decide, by decide, it_not hb (.inl (by decide))⟩
  · unfold dots; simp; omega
theorem wd_ok {w : Wd} (h0 : 0 ≤ w.num) (h1 : w.num ≤ 99) : wOk (wdT w) := by
  have h2 := it_len2 h0 h1
  have n1 := it_not h0 (d := 32) (.inl (by decide))
  have n2 := it_not h0 (d := 10) (.inl (by decide))
  obtain ⟨p, n, t⟩ := w
  simp only at h2 n1 n2
  unfold wOk wdT
  cases p <;> cases t <;> simp [n1, n2] <;> omega
theorem jn_len (c : UInt8) : ∀ {ws : List BL}, (∀ w ∈ ws, w.length ≤ 7) → (jn c ws).length ≤ 8 * ws.length
  | [], _ => by simp [jn]
  | [w], h => by have := h w (by simp); simp [jn]; omega
  | w :: v :: ws, h => by
    have h1 := h w (by simp)
    have h2 := jn_len c (ws := v :: ws) (fun x hx => h x (by simp only [List.mem_cons] at hx ⊢; exact .inr hx))
    simp [jn] at h2 ⊢
    omega
theorem txt_len : ∀ {W : List (List BL)}, WOk W → (txt W).length ≤ 57 * W.length
  | [], _ => by simp [txt]
  | ws :: W, h => by
    have h1 := jn_len 32 (fun w hw => ((h ws (by simp)).2 w hw).2)
    have h2 := (h ws (by simp)).1.2
    have h3 := txt_len (W := W) (fun x hx => h x (by simp [hx]))
    rw [txt_cons]
    simp [ln]
    omega
theorem WOk.app {A B : List (List BL)} (a : WOk A) (b : WOk B) : WOk (A ++ B) := fun ws h => (List.mem_append.1 h).elim (a ws) (b ws)
theorem WOk.map {β : Type} {g : β → List BL} {l : List β} (h : ∀ q ∈ l, (g q ≠ [] ∧ (g q).length ≤ 7) ∧ ∀ w ∈ g q, wOk w) : WOk (l.map g) := fun ws hw => by
  obtain ⟨q, hq, rfl⟩ := List.mem_map.1 hw
  exact h q hq
theorem WOk.cons {w : List BL} {B : List (List BL)} (a : (w ≠ [] ∧ w.length ≤ 7) ∧ ∀ x ∈ w, wOk x) (b : WOk B) : WOk (w :: B) := fun ws h => (List.mem_cons.1 h).elim (fun e => e ▸ a) (b ws)
end Go.Proofs.YtcjgbanpkmpekaaGreatDoor.G

/- Lines that are said. -/
set_option linter.unusedVariables false
set_option linter.unusedSimpArgs false
set_option maxRecDepth 20000
namespace Go.Proofs.YtcjgbanpkmpekaaGreatDoor.G
open Go.V
/-- What a line is said of. -/
inductive Prt where
  | str (w : BL)
  | num (n : Int)
  | nums (x : Option Addr) (c : Nat) (l : List Int)
  | span (a b : Int)
  | word (w : Wd)
def prtV : Prt → Value
  | .str w => .iface 9 (.string (bs w))
  | .num n => .iface 3 (.int .i64 n)
  | .nums x c l => .iface 26 (.slice x l.length c)
  | .span a b => .iface 74 (.agg #[.int .i64 a, .int .i64 b])
  | .word w => .iface 79 (wdV w)
def prtW : Prt → List BL
  | .str w => [w]
  | .num n => [it n]
  | .nums _ _ l => l.map it
  | .span a b => [dots a b]
  | .word w => [wdT w]
def PrtOk (s : Hp) : Prt → Prop
  | .str w => w.length ≤ 100
  | .num n => rg n
  | .nums x c l => RowAt s x (ints l) ∧ (∀ n ∈ l, rg n) ∧ l.length ≤ 10000
  | .span a b => rg a ∧ rg b
  | .word w => rg w.num
theorem PrtOk.ext {s s' : Hp} (e : Ext s s') : ∀ {p : Prt}, PrtOk s p → PrtOk s' p
  | .str _, h => h
  | .num _, h => h
  | .nums _ _ _, h => ⟨h.1.ext e, h.2⟩
  | .span _ _, h => h
  | .word _, h => h
theorem wd_len {w : Wd} (h : rg w.num) : (wdT w).length ≤ 22 := by
  have := it_len h.1.1 h.1.2
  unfold wdT
  cases w.nt <;> cases w.per <;> simp <;> omega
theorem dots_len {a b : Int} (ha : rg a) (hb : rg b) : (dots a b).length ≤ 42 := by
  have := it_len ha.1.1 ha.1.2
  have := it_len hb.1.1 hb.1.2
  unfold dots; simp; omega
theorem prtW_len {s : Hp} {p : Prt} (h : PrtOk s p) : (prtW p).length ≤ 10000 ∧ ∀ w ∈ prtW p, w.length ≤ 100 := by
  cases p with
  | str w => exact ⟨by simp [prtW], fun w' hw => by simp [prtW] at hw; subst hw; exact h⟩
  | num n => exact ⟨by simp [prtW], fun w' hw => by simp [prtW] at hw; subst hw; have := it_len h.1.1 h.1.2; omega⟩
  | nums x c l =>
    refine ⟨by simpa [prtW] using h.2.2, fun w' hw => ?_⟩
    obtain ⟨n, hn, rfl⟩ := List.mem_map.1 hw
    have := it_len (h.2.1 n hn).1.1 (h.2.1 n hn).1.2
    omega
  | span a b => exact ⟨by simp [prtW], fun w' hw => by simp [prtW] at hw; subst hw; have := dots_len h.1 h.2; omega⟩
  | word w => exact ⟨by simp [prtW], fun w' hw => by simp [prtW] at hw; subst hw; have := wd_len h; omega⟩
theorem jn_lenG (c : UInt8) {m : Nat} : ∀ {ws : List BL}, (∀ w ∈ ws, w.length ≤ m) → (jn c ws).length ≤ (m + 1) * ws.length
  | [], _ => by simp [jn]
  | [w], h => by have := h w (by simp); simp [jn]; omega
  | w :: v :: ws, h => by
    have h1 := h w (by simp)
    have h2 := jn_lenG c (m := m) (ws := v :: ws) (fun x hx => h x (by simp only [List.mem_cons] at hx ⊢; exact .inr hx))
    simp only [jn, List.length_append, List.length_cons] at h2 ⊢
    rw [Nat.mul_add (m + 1) (ws.length + 1) 1]
    omega
theorem zc_9 : zc Pg 9 = [.string ⟨#[]⟩] := by kernel_rfl
theorem strs_app (a : List BL) (w : BL) : strs (a ++ [w]) = strs a ++ [.string (bs w)] := by simp [strs]
section
variable {W : World} {K : VK} {E : List PanicEntry → Hp → Prop} {s s0 : Hp}
/-- A text more in a list of one's own. -/
theorem app_str {w : BL} {x : Option Addr} {c : Nat} {acc : List BL} {K : Option Addr → Nat → Nat → Hp → Prop} (f : Fr s0.size s x acc.length c 1 (strs acc)) (e : Ext s0 s) (hl : acc.length ≤ 900000)
    (h : ∀ s' x' c', Ext s0 s' → Fr s0.size s' x' (acc ++ [w]).length c' 1 (strs (acc ++ [w])) → K x' (acc ++ [w]).length c' s') : NEW 9 [.string (bs w)] (fun B => APP Pg 9 1 x acc.length c (some ⟨B, 0, none⟩) 1 K) s := by
  refine ne1 fun s1 e1 z1 o1 => ?_
  refine APP_fr (f.ext e1) (e.trans e1).1 (ws := [.string (bs w)]) (fun i hi => ?_) rfl zc_9 rfl (by omega) (by simp [oneCell]) (by omega) (fun s2 x' c' k2 hx f2 => ?_)
  · simp at hi; subst hi
    exact ⟨_, rfl, o1.cell⟩
  · have hlen : (acc ++ [w]).length = acc.length + 1 := by simp
    rw [← strs_app, ← hlen] at f2
    have := h s2 x' c' (kp_nil (e.trans e1) (fun b ⟨a', h1', h2'⟩ => by rw [← h2']; exact f.fr a' h1') k2) f2
    rw [hlen] at this
    exact this
theorem c_worded {w : Wd} (he : Env s) (hw : rg w.num) (hk : ∀ s', Ext s s' → K (.string (bs (wdT w))) s') : CALL Pg W F_book_worded [wdV w] K E s := by
  obtain ⟨p, n, t⟩ := w
  refine does_book_worded W p n t _ s ?_
  unfold T_book_worded
  refine NEW_rule fun s1 e1 z1 o _ => ?_
  have o0 := o 0 _ rfl
  have o1 := o 1 _ rfl
  have o2 := o 2 _ rfl
  refine ⟨_, o0.cell, ?_⟩
  have hl : (it n).length ≤ 20 := it_len hw.1.1 hw.1.2
  have key : ∀ (u : BL), u.length ≤ 1 → wdT ⟨p, n, t⟩ = (if t then [45] else []) ++ u ++ it n → J_book_worded_0 W (endK K E) s.size (bs u) s1 := by
    intro u hu hw'
    unfold J_book_worded_0
    refine ⟨_, o2.cell, ?_⟩
    refine BR_bool (fun ht => ?_) (fun ht => ?_)
    · refine STC_bs (a := [45]) (by simp; omega) ?_
      refine ⟨_, o1.cell, ?_⟩
      refine c_Itoa hw (he.ext e1) fun s2 e2 => ?_
      try simp only [TUP_mk, AGG_mk, HD_mk, NL_mk, TYI_mk, TYB_mk, TYP_mk, TYL_mk, TYS_mk, TYM_mk, SO_mk, NX_mk, endK_mk, endK_mk', add_0]
      refine STC_bs (b := it n) (by simp; omega) ?_
      try simp only [TUP_mk, AGG_mk, HD_mk, NL_mk, TYI_mk, TYB_mk, TYP_mk, TYL_mk, TYS_mk, TYM_mk, SO_mk, NX_mk, endK_mk, endK_mk', add_0]
      have := hk s2 (e1.trans e2)
      rw [hw', ht] at this
      simpa using this
    · refine ⟨_, o1.cell, ?_⟩
      refine c_Itoa hw (he.ext e1) fun s2 e2 => ?_
      try simp only [TUP_mk, AGG_mk, HD_mk, NL_mk, TYI_mk, TYB_mk, TYP_mk, TYL_mk, TYS_mk, TYM_mk, SO_mk, NX_mk, endK_mk, endK_mk', add_0]
      refine STC_bs (b := it n) (by omega) ?_
      try simp only [TUP_mk, AGG_mk, HD_mk, NL_mk, TYI_mk, TYB_mk, TYP_mk, TYL_mk, TYS_mk, TYM_mk, SO_mk, NX_mk, endK_mk, endK_mk', add_0]
      have := hk s2 (e1.trans e2)
      rw [hw', ht] at this
      simpa using this
  refine BR_bool (fun hp => ?_) (fun hp => ?_)
  · exact key [119] (by simp) (by subst hp; simp [wdT])
  · exact key [102] (by simp) (by subst hp; simp [wdT])
theorem acc_len {s : Hp} : ∀ {l : List Prt}, (∀ p ∈ l, PrtOk s p) → (l.flatMap prtW).length ≤ 10000 * l.length ∧ ∀ w ∈ l.flatMap prtW, w.length ≤ 100
  | [], _ => ⟨by simp, by simp⟩
  | p :: l, h => by
    obtain ⟨h1, h2⟩ := acc_len (l := l) (fun q hq => h q (by simp [hq]))
    obtain ⟨h3, h4⟩ := prtW_len (h p (by simp))
    refine ⟨by simp; simp at h1; omega, fun w hw => ?_⟩
    rcases List.mem_append.1 (by simpa using hw : w ∈ prtW p ++ l.flatMap prtW) with hw | hw
    · exact h4 w hw
    · exact h2 w hw
theorem said_nums {R : Ending → Hp → Prop} {nx0 : List Value → Hp → Prop} {zt0 : ByteArray} {zp1 : Option Addr} {zl2 zl3 zl8 : Nat} {zn4 zn5 : Int} {zp6 : Option Addr} {l : List Int} {x : Option Addr} {c : Nat} {acc : List BL} (he : Env s0) (e : Ext s0 s) (f : Fr s0.size s x acc.length c 1 (strs acc)) (hrow : RowAt s0 zp6 (ints l)) (hr : ∀ n ∈ l, rg n)
    (hl : l.length ≤ 10000) (ha : acc.length ≤ 800000) (hk : ∀ s' x' c', Ext s0 s' → Fr s0.size s' x' (acc ++ l.map it).length c' 1 (strs (acc ++ l.map it)) → nx0 [.slice x' (acc ++ l.map it).length c', .int .i64 (IntKind.wrap .i64 (zn5 + 1))] s') :
    L_book_said_1 W R nx0 zt0 zp1 zl2 zl3 zn4 zn5 zp6 l.length zl8 (l.length : Int) x acc.length c 0 s := by
  refine L_book_said_1_rule W R nx0 zt0 zp1 zl2 zl3 zn4 zn5 zp6 l.length zl8 (l.length : Int) (fun x' l' c' n' s' => ∃ k : Nat, n' = (k : Int) ∧ k ≤ l.length ∧ Ext s0 s' ∧ l' = (acc ++ (l.take k).map it).length ∧ Fr s0.size s' x' l' c' 1 (strs (acc ++ (l.take k).map it))) (fun x' l' c' n' s' => l.length - n'.toNat) _ _ _ _ s ⟨0, rfl, by omega, e, by simp, by simpa using f⟩ ?_
  rintro x' l' c' n' s1 ⟨k, rfl, hk', e1, rfl, f1⟩
  unfold B_book_said_1
  refine BR_dec (fun hlt => ?_) (fun hge => ?_)
  · have hkl : k < l.length := by omega
    obtain ⟨b, hb, hcell⟩ := hrow k (by rw [ints_len]; exact hkl)
    subst hb
    refine IXS_nat hkl ?_
    have hc1 := e1.cell hcell
    simp only [ints, List.getElem_map] at hc1
    refine ⟨_, hc1, ?_⟩
    have hrk := hr l[k] (List.getElem_mem hkl)
    refine c_Itoa hrk (he.ext e1) fun s2 e2 => ?_
    try simp only [TUP_mk, AGG_mk, HD_mk, NL_mk, TYI_mk, TYB_mk, TYP_mk, TYL_mk, TYS_mk, TYM_mk, SO_mk, NX_mk, endK_mk, endK_mk', add_0]
    refine app_str (w := it l[k]) (f1.ext e2) (e1.trans e2) (by simp; omega) fun s3 x3 c3 e3 f3 => ?_
    try simp only [TUP_mk, AGG_mk, HD_mk, NL_mk, TYI_mk, TYB_mk, TYP_mk, TYL_mk, TYS_mk, TYM_mk, SO_mk, NX_mk, endK_mk, endK_mk', add_0]
    have hw : IntKind.wrap .i64 ((k : Int) + 1) = ((k + 1 : Nat) : Int) := by rw [wrap_i64 (by omega) (by omega)]; omega
    have ht : l.take (k + 1) = l.take k ++ [l[k]] := by rw [List.take_add_one, List.getElem?_eq_getElem hkl]; rfl
    have hacc : acc ++ (l.take (k + 1)).map it = acc ++ (l.take k).map it ++ [it l[k]] := by rw [ht, List.map_append, ← List.append_assoc]; rfl
    refine ⟨_, _, _, _, rfl, ⟨k + 1, hw, by omega, ?_, by rw [hacc], by rw [hacc]; exact f3⟩, ?_⟩
    · exact e3
    · show l.length - (IntKind.wrap .i64 ((k : Int) + 1)).toNat < l.length - ((k : Nat) : Int).toNat
      rw [hw]; omega
  · have hkl : k = l.length := by omega
    subst hkl
    rw [List.take_length] at f1 ⊢
    try simp only [TUP_mk, AGG_mk, HD_mk, NL_mk, TYI_mk, TYB_mk, TYP_mk, TYL_mk, TYS_mk, TYM_mk, SO_mk, NX_mk, endK_mk, endK_mk', add_0]
    exact hk s1 x' c' e1 f1
theorem IFC_mk (t : TypeId) (v : Value) (K : TypeId → Value → Hp → Prop) : IFC (.iface t v) K = K t v := rfl
theorem TYC_mk (k : IntKind) (n : Int) (K : Int → Hp → Prop) : TYC k (.int k n) K = K n := by unfold TYC; simp
theorem IFC_i {t : TypeId} {v : Value} {K : TypeId → Value → Hp → Prop} (h : K t v s) : IFC (.iface t v) K s := h
theorem TYC_i {k : IntKind} {n : Int} {K : Int → Hp → Prop} (h : K n s) : TYC k (.int k n) K s := by rw [TYC_mk]; exact h
/-- A line of words. -/
theorem c_said {x : Option Addr} {l : List Prt} {n c : Nat} (he : Env s) (hn : n = l.length) (h10 : l.length ≤ 10) (hrow : RowAt s x (l.map prtV)) (hok : ∀ p ∈ l, PrtOk s p)
    (hk : ∀ s', Ext s s' → K (.string (bs (ln (l.flatMap prtW)))) s') : CALL Pg W F_book_said [.slice x n c] K E s := by
  subst hn
  refine does_book_said W x l.length c _ s ?_
  unfold T_book_said
  refine L_book_said_0_rule W (endK K E) ⟨#[]⟩ x l.length c (l.length : Int) (fun x' l' c' n' s' => ∃ k : Nat, n' = (k : Int) ∧ k ≤ l.length ∧ Ext s s' ∧ l' = ((l.take k).flatMap prtW).length ∧ Fr s.size s' x' l' c' 1 (strs ((l.take k).flatMap prtW))) (fun x' l' c' n' s' => l.length - n'.toNat) _ _ _ _ s ⟨0, rfl, by omega, Ext.refl s, by simp, by simpa [strs] using Fr.nil _ _ _⟩ ?_
  rintro x' l' c' n' s1 ⟨k, rfl, hk', e1, rfl, f1⟩
  unfold B_book_said_0
  have hacc := acc_len (s := s) (l := l.take k) (fun p hp => hok p (List.mem_of_mem_take hp))
  have hlt10 : (l.take k).length ≤ 10 := by rw [List.length_take]; omega
  refine BR_dec (fun hlt => ?_) (fun hge => ?_)
  · have hkl : k < l.length := by omega
    obtain ⟨b, hb, hcell⟩ := hrow k (by simpa using hkl)
    subst hb
    refine IXS_nat hkl ?_
    have hc1 := e1.cell hcell
    simp only [List.getElem_map] at hc1
    have hp := hok l[k] (List.getElem_mem hkl)
    have hw : IntKind.wrap .i64 ((k : Int) + 1) = ((k + 1 : Nat) : Int) := by rw [wrap_i64 (by omega) (by omega)]; omega
    have ht : l.take (k + 1) = l.take k ++ [l[k]] := by rw [List.take_add_one, List.getElem?_eq_getElem hkl]; rfl
    have hm : l.length - (IntKind.wrap .i64 ((k : Int) + 1)).toNat < l.length - ((k : Nat) : Int).toNat := by rw [hw]; omega
    -- a word more
    have one : ∀ (w : BL) (s2 : Hp), prtW l[k] = [w] → Ext s1 s2 → NEW 9 [.string (bs w)] (fun B => APP Pg 9 1 x' ((l.take k).flatMap prtW).length c' (some ⟨B, 0, none⟩) 1 fun x2 l2 c2 =>
        (N_book_said_0 (fun x' l' c' n' s' => ∃ k : Nat, n' = (k : Int) ∧ k ≤ l.length ∧ Ext s s' ∧ l' = ((l.take k).flatMap prtW).length ∧ Fr s.size s' x' l' c' 1 (strs ((l.take k).flatMap prtW))) (fun x' l' c' n' s' => l.length - n'.toNat) x' ((l.take k).flatMap prtW).length c' (k : Int) s1 [(.slice x2 l2 c2), (.int .i64 (IntKind.wrap .i64 ((k : Int) + 1)))])) s2 := by
      intro w s2 hw1 e2
      refine app_str (w := w) (f1.ext e2) (e1.trans e2) (by omega) fun s3 x3 c3 e3 f3 => ?_
      have ha : (l.take (k + 1)).flatMap prtW = (l.take k).flatMap prtW ++ [w] := by rw [ht, List.flatMap_append, List.flatMap_cons, hw1]; simp
      exact ⟨_, _, _, _, rfl, ⟨k + 1, hw, by omega, e3, by rw [ha], by rw [ha]; exact f3⟩, hm⟩
    have heE := he.ext e1
    refine ⟨_, hc1, ?_⟩
    cases hpk : l[k] with
    | str w =>
      rw [hpk] at hp one
      refine IFC_i (BR_tt rfl ?_)
      try simp only [TUP_mk, AGG_mk, HD_mk, NL_mk, TYI_mk, TYB_mk, TYP_mk, TYL_mk, TYS_mk, TYM_mk, SO_mk, NX_mk, endK_mk, endK_mk', add_0]
      exact one w s1 rfl (Ext.refl _)
    | num n =>
      rw [hpk] at hp one
      refine IFC_i (BR_ff rfl (IFC_i (BR_tt rfl (TYC_i ?_))))
      refine c_Itoa hp heE fun s2 e2 => ?_
      try simp only [TUP_mk, AGG_mk, HD_mk, NL_mk, TYI_mk, TYB_mk, TYP_mk, TYL_mk, TYS_mk, TYM_mk, SO_mk, NX_mk, endK_mk, endK_mk', add_0]
      exact one (it n) s2 rfl e2
    | nums y cy m =>
      rw [hpk] at hp
      refine IFC_i (BR_ff rfl (IFC_i (BR_ff rfl (IFC_i (BR_tt rfl ?_)))))
      refine said_nums he e1 f1 hp.1 hp.2.1 hp.2.2 (by omega) fun s2 x2 c2 e2 f2 => ?_
      have ha : (l.take (k + 1)).flatMap prtW = (l.take k).flatMap prtW ++ m.map it := by rw [ht, List.flatMap_append, List.flatMap_cons, hpk]; simp [prtW]
      exact ⟨_, _, _, _, rfl, ⟨k + 1, hw, by omega, e2, by rw [ha], by rw [ha]; exact f2⟩, hm⟩
    | span u v =>
      rw [hpk] at hp one
      refine IFC_i (BR_ff rfl (IFC_i (BR_ff rfl (IFC_i (BR_ff rfl (IFC_i (BR_tt rfl ?_)))))))
      try simp only [TUP_mk, AGG_mk, HD_mk, NL_mk, TYI_mk, TYB_mk, TYP_mk, TYL_mk, TYS_mk, TYM_mk, SO_mk, NX_mk, endK_mk, endK_mk', add_0]
      refine TYC_i (TYC_i ?_)
      try simp only [TUP_mk, AGG_mk, HD_mk, NL_mk, TYI_mk, TYB_mk, TYP_mk, TYL_mk, TYS_mk, TYM_mk, SO_mk, NX_mk, endK_mk, endK_mk', add_0]
      refine nw2 zc_74 rfl rfl fun s2 e2 z2 o0 o1 => ?_
      refine ⟨_, o0.cell, _, o1.cell, ?_⟩
      refine c_Itoa hp.1 (heE.ext e2) fun s3 e3 => ?_
      try simp only [TUP_mk, AGG_mk, HD_mk, NL_mk, TYI_mk, TYB_mk, TYP_mk, TYL_mk, TYS_mk, TYM_mk, SO_mk, NX_mk, endK_mk, endK_mk', add_0]
      refine ANDS_i ⟨_, e3.cell o1.cell, rfl⟩ ?_
      have l1 := it_len hp.1.1.1 hp.1.1.2
      have l2 := it_len hp.2.1.1 hp.2.1.2
      refine STC_bs (a := it u) (b := [46, 46]) (by simp; omega) ?_
      refine c_Itoa hp.2 ((heE.ext e2).ext e3) fun s4 e4 => ?_
      try simp only [TUP_mk, AGG_mk, HD_mk, NL_mk, TYI_mk, TYB_mk, TYP_mk, TYL_mk, TYS_mk, TYM_mk, SO_mk, NX_mk, endK_mk, endK_mk', add_0]
      refine STC_bs (b := it v) (by simp; omega) ?_
      have hd : it u ++ [46, 46] ++ it v = dots u v := by simp [dots]
      rw [hd]
      exact one (dots u v) s4 rfl ((e2.trans e3).trans e4)
    | word w =>
      rw [hpk] at hp one
      refine IFC_i (BR_ff rfl (IFC_i (BR_ff rfl (IFC_i (BR_ff rfl (IFC_i (BR_ff rfl (IFC_i (BR_tt rfl ?_)))))))))
      unfold wdV
      try simp only [TUP_mk, AGG_mk, HD_mk, NL_mk, TYI_mk, TYB_mk, TYP_mk, TYL_mk, TYS_mk, TYM_mk, SO_mk, NX_mk, endK_mk, endK_mk', add_0]
      refine TYC_i ?_
      try simp only [TUP_mk, AGG_mk, HD_mk, NL_mk, TYI_mk, TYB_mk, TYP_mk, TYL_mk, TYS_mk, TYM_mk, SO_mk, NX_mk, endK_mk, endK_mk', add_0]
      refine nw3 zc_79 rfl rfl rfl fun s2 e2 z2 o0 o1 o2 => ?_
      refine ⟨_, o0.cell, _, o1.cell, _, o2.cell, ?_⟩
      refine c_worded (w := w) (heE.ext e2) hp fun s3 e3 => ?_
      try simp only [TUP_mk, AGG_mk, HD_mk, NL_mk, TYI_mk, TYB_mk, TYP_mk, TYL_mk, TYS_mk, TYM_mk, SO_mk, NX_mk, endK_mk, endK_mk', add_0]
      exact one (wdT w) s3 rfl (e2.trans e3)
  · have hkl : k = l.length := by omega
    subst hkl
    rw [List.take_length] at f1 hacc ⊢
    have hb : (strs (l.flatMap prtW)).length = (l.flatMap prtW).length := by simp [strs]
    have hjl := jn_lenG 32 hacc.2
    have ej : Lib.join ((l.flatMap prtW).map bs |>.map (·.data.toList)) (ByteArray.mk #[32]).data.toList = jn 32 (l.flatMap prtW) := by
      rw [List.map_map]
      have : ((fun x : ByteArray => x.data.toList) ∘ bs) = id := by funext y; rfl
      rw [this, List.map_id]
      exact jn_join 32 _
    have hbl : ((l.flatMap prtW).map bs).length = (l.flatMap prtW).length := by simp
    have hc := c_Join (W := W) (K := fun v => TYS v fun t82 => STC t82 ⟨#[10]⟩ fun t83 => endK K E (.returned (.string t83))) (E := fun c => endK K E (.panicked c)) (x := x') (c := c') (l := (l.flatMap prtW).map bs) (b := ByteArray.mk #[32]) (s := s1)
      (by
        cases hx : x' with
        | some a => exact .inl rfl
        | none =>
          right
          apply List.eq_nil_of_length_eq_zero
          rw [hbl]
          rcases Nat.eq_zero_or_pos (l.flatMap prtW).length with h0 | h0
          · exact h0
          · obtain ⟨a, ha, _⟩ := f1.row 0 (by rw [hb]; exact h0)
            rw [hx] at ha; cases ha)
      (fun a ha j y hj => by
        have hjl : j < (l.flatMap prtW).length := by
          have := (List.getElem?_eq_some_iff.1 hj).1
          rwa [hbl] at this
        obtain ⟨a', ha', hcell⟩ := f1.row j (by rw [hb]; exact hjl)
        rw [ha] at ha'; cases ha'
        rw [Nat.mul_one] at hcell
        rw [hcell]
        rw [List.getElem?_map, List.getElem?_eq_getElem hjl] at hj
        simp only [Option.map_some, Option.some.injEq] at hj
        simp [strs, hj])
      (fun hne a ha => by
        have hpos : 0 < (l.flatMap prtW).length := by
          rcases Nat.eq_zero_or_pos (l.flatMap prtW).length with h0 | h0
          · exact absurd (List.eq_nil_of_length_eq_zero (by rw [hbl]; exact h0)) hne
          · exact h0
        obtain ⟨a', ha', hcell⟩ := f1.row 0 (by rw [hb]; exact hpos)
        rw [ha] at ha'; cases ha'
        rw [Nat.mul_one] at hcell
        exact ⟨cell_lt hcell, cell_spot hcell⟩)
      (by rw [hbl]; omega) (by rw [hbl]; have := f1.buf.le; rw [hb] at this; omega) (by rw [ej]; omega)
      (fun s2 e2 => by
        rw [ej]
        have hbs : (⟨(jn 32 (l.flatMap prtW)).toArray⟩ : ByteArray) = bs (jn 32 (l.flatMap prtW)) := rfl
        rw [hbs]
        try simp only [TUP_mk, AGG_mk, HD_mk, NL_mk, TYI_mk, TYB_mk, TYP_mk, TYL_mk, TYS_mk, TYM_mk, SO_mk, NX_mk, endK_mk, endK_mk', add_0]
        refine STC_bs (b := [10]) (by simp; omega) ?_
        exact hk s2 (e1.trans e2))
    rw [hbl] at hc
    try simp only [TUP_mk, AGG_mk, HD_mk, NL_mk, TYI_mk, TYB_mk, TYP_mk, TYL_mk, TYS_mk, TYM_mk, SO_mk, NX_mk, endK_mk, endK_mk', add_0]
    exact hc
end
end Go.Proofs.YtcjgbanpkmpekaaGreatDoor.G

/- More of the functions' shallow texts, by gen.py. -/
set_option linter.unusedVariables false
set_option maxRecDepth 100000
namespace Go.Proofs.YtcjgbanpkmpekaaGreatDoor.G
open Go.V
def an_71 : Nat → Ann := fun b => match b with
 | 0 => { ms := [3, 11], ks := [.i .i64, .i .i64], us := [0, 2, 9, 10, 36], rt := false, ex := [] }
 | 2 => { ms := [6, 27], ks := [.l, .i .i64], us := [2, 25, 26, 36], rt := false, ex := [] }
 | _ => {}
abbrev rv_71 : List ResultVar := [.tmp 2]
abbrev rs_71 : List Nat := [36, 2]
def L_slices_Concat_api_Span_api_Span_0 (W : World) (R : Ending → Hp → Prop) (zp0 : Option Addr) (zl1 : Nat) (zl2 : Nat) (zn3 : Int) (n4 : Int) (n5 : Int) : Hp → Prop :=
 LOOPN [.i .i64, .i .i64] (fun ys next s => ∀ j : Tm, vc Pg W 36 rs_71 an_71 false (sub (bodyOf Tryz.f71) [1, 1, 0, 1, 0, 0]) 0 (KLoop [3, 11] [0, 2, 9, 10, 36] [(.slice zp0 zl1 zl2), (.slice none 0 0), (.slice zp0 zl1 zl2), (.int .i64 zn3), (.tuple #[])] next (KBlk 0 (KS Pg W 36 rs_71 an_71 false (sub (bodyOf Tryz.f71) [1, 1, 1]) 0 (fin Pg W 36 rv_71 R)))) (known [3, 11] ys (known [0, 2, 9, 10, 36] [(.slice zp0 zl1 zl2), (.slice none 0 0), (.slice zp0 zl1 zl2), (.int .i64 zn3), (.tuple #[])] j)) s) [(.int .i64 n4), (.int .i64 n5)]
def L_slices_Concat_api_Span_api_Span_1 (W : World) (R : Ending → Hp → Prop) (zp0 : Option Addr) (zl1 : Nat) (zl2 : Nat) (zn3 : Int) (x15 : Option Addr) (l16 : Nat) (c17 : Nat) (n18 : Int) : Hp → Prop :=
 LOOPN [.l, .i .i64] (fun ys next s => ∀ j : Tm, vc Pg W 36 rs_71 an_71 false (sub (bodyOf Tryz.f71) [1, 1, 1, 1, 0, 1, 0, 0]) 2 (KLoop [6, 27] [2, 25, 26, 36] [(.slice none 0 0), (.slice zp0 zl1 zl2), (.int .i64 zn3), (.tuple #[])] next (KBlk 2 (KS Pg W 36 rs_71 an_71 false (sub (bodyOf Tryz.f71) [1, 1, 1, 1, 1]) 0 (fin Pg W 36 rv_71 R)))) (known [6, 27] ys (known [2, 25, 26, 36] [(.slice none 0 0), (.slice zp0 zl1 zl2), (.int .i64 zn3), (.tuple #[])] j)) s) [(.slice x15 l16 c17), (.int .i64 n18)]
def B_slices_Concat_api_Span_api_Span_0 (W : World) (R : Ending → Hp → Prop) (zp0 : Option Addr) (zl1 : Nat) (zl2 : Nat) (zn3 : Int) (n4 : Int) (n5 : Int) (nx0 : List Value → Hp → Prop) : Hp → Prop :=
 BR (decide (n5 < zn3))
 (IXS zp0 zl1 n5 1 fun a6 =>
 RDL a6 fun x7 l8 c9 =>
 BR (decide ((IntKind.wrap .i64 (n4 + (↑l8 : Int))) < 0))
 (R (.panicked [{ v := (.iface 9 (.string ⟨#[108, 101, 110, 32, 111, 117, 116, 32, 111, 102, 32, 114, 97, 110, 103, 101]⟩)), recovered := false }]))
 (NX [(.slice zp0 zl1 zl2), (.slice none 0 0), (.slice zp0 zl1 zl2), (.int .i64 zn3), (.tuple #[])] [(.slice zp0 zl1 zl2), (.slice none 0 0), (.slice zp0 zl1 zl2), (.int .i64 zn3), (.tuple #[])] (nx0 [(.int .i64 (IntKind.wrap .i64 (n4 + (↑l8 : Int)))), (.int .i64 (IntKind.wrap .i64 (n5 + 1)))])))
 (CALL Pg W F_slices_Grow_api_Span_api_Span [(.slice none 0 0), (.int .i64 n4)]
 (fun v10 => TYL v10 fun x12 l13 c14 =>
 L_slices_Concat_api_Span_api_Span_1 W R zp0 zl1 zl2 (↑zl1 : Int) x12 l13 c14 0)
 (fun e11 => R (.panicked e11)))
theorem B_slices_Concat_api_Span_api_Span_0_eq (W : World) (R : Ending → Hp → Prop) (zp0 : Option Addr) (zl1 : Nat) (zl2 : Nat) (zn3 : Int) (n4 : Int) (n5 : Int) (nx0 : List Value → Hp → Prop) (j : Tm) : vc Pg W 36 rs_71 an_71 false (sub (bodyOf Tryz.f71) [1, 1, 0, 1, 0, 0]) 0 (KLoop [3, 11] [0, 2, 9, 10, 36] [(.slice zp0 zl1 zl2), (.slice none 0 0), (.slice zp0 zl1 zl2), (.int .i64 zn3), (.tuple #[])] nx0 (KBlk 0 (KS Pg W 36 rs_71 an_71 false (sub (bodyOf Tryz.f71) [1, 1, 1]) 0 (fin Pg W 36 rv_71 R)))) (known [3, 11] [(.int .i64 n4), (.int .i64 n5)] (known [0, 2, 9, 10, 36] [(.slice zp0 zl1 zl2), (.slice none 0 0), (.slice zp0 zl1 zl2), (.int .i64 zn3), (.tuple #[])] j)) = B_slices_Concat_api_Span_api_Span_0 W R zp0 zl1 zl2 zn3 n4 n5 nx0 := by kernel_rfl
def N_slices_Concat_api_Span_api_Span_0 (I : Int → Int → Hp → Prop) (μ : Int → Int → Hp → Nat) (n40 : Int) (n50 : Int) (s : Hp) (vs : List Value) : Hp → Prop := fun s' => ∃ n4 n5, vs = [(.int .i64 n4), (.int .i64 n5)] ∧ I n4 n5 s' ∧ μ n4 n5 s' < μ n40 n50 s
theorem L_slices_Concat_api_Span_api_Span_0_rule (W : World) (R : Ending → Hp → Prop) (zp0 : Option Addr) (zl1 : Nat) (zl2 : Nat) (zn3 : Int) (I : Int → Int → Hp → Prop) (μ : Int → Int → Hp → Nat) (n40 : Int) (n50 : Int) (s : Hp) (h0 : I n40 n50 s)
    (hr : ∀ (n4 : Int) (n5 : Int) (s : Hp), I n4 n5 s → B_slices_Concat_api_Span_api_Span_0 W R zp0 zl1 zl2 zn3 n4 n5 (fun vs => N_slices_Concat_api_Span_api_Span_0 I μ n4 n5 s vs) s) : L_slices_Concat_api_Span_api_Span_0 W R zp0 zl1 zl2 zn3 n40 n50 s := by
  refine ⟨fun vs s => ∃ n4 n5, vs = [(.int .i64 n4), (.int .i64 n5)] ∧ I n4 n5 s, fun vs s => (match vs with | [.int _ n4, .int _ n5] => μ n4 n5 s | _ => 0), ⟨⟨⟨_, rfl⟩, ⟨⟨_, rfl⟩, trivial⟩⟩, ⟨_, _, rfl, h0⟩⟩, ?_⟩
  intro n4 n5 s hI j
  obtain ⟨n4', n5', hy, hI⟩ := hI
  have hI' : I n4 n5 s := by cases hy; exact hI
  have hh := hr n4 n5 s hI'
  rw [← B_slices_Concat_api_Span_api_Span_0_eq W R zp0 zl1 zl2 zn3 n4 n5 _ j] at hh
  refine vc_mono ?_ _ _ hh
  exact KLoop_mono (fun vs s' h => by obtain ⟨n41, n51, rfl, h1, h2⟩ := h; exact ⟨⟨⟨_, rfl⟩, ⟨⟨_, rfl⟩, trivial⟩⟩, ⟨_, _, rfl, h1⟩, h2⟩)
def B_slices_Concat_api_Span_api_Span_1 (W : World) (R : Ending → Hp → Prop) (zp0 : Option Addr) (zl1 : Nat) (zl2 : Nat) (zn3 : Int) (x15 : Option Addr) (l16 : Nat) (c17 : Nat) (n18 : Int) (nx1 : List Value → Hp → Prop) : Hp → Prop :=
 BR (decide (n18 < zn3))
 (IXS zp0 zl1 n18 1 fun a19 =>
 RDL a19 fun x20 l21 c22 =>
 APP Pg 74 2 x15 l16 c17 x20 l21 fun x23 l24 c25 =>
 NX [(.slice none 0 0), (.slice zp0 zl1 zl2), (.int .i64 zn3), (.tuple #[])] [(.slice none 0 0), (.slice zp0 zl1 zl2), (.int .i64 zn3), (.tuple #[])] (nx1 [(.slice x23 l24 c25), (.int .i64 (IntKind.wrap .i64 (n18 + 1)))]))
 (R (.returned (.slice x15 l16 c17)))
theorem B_slices_Concat_api_Span_api_Span_1_eq (W : World) (R : Ending → Hp → Prop) (zp0 : Option Addr) (zl1 : Nat) (zl2 : Nat) (zn3 : Int) (x15 : Option Addr) (l16 : Nat) (c17 : Nat) (n18 : Int) (nx1 : List Value → Hp → Prop) (j : Tm) : vc Pg W 36 rs_71 an_71 false (sub (bodyOf Tryz.f71) [1, 1, 1, 1, 0, 1, 0, 0]) 2 (KLoop [6, 27] [2, 25, 26, 36] [(.slice none 0 0), (.slice zp0 zl1 zl2), (.int .i64 zn3), (.tuple #[])] nx1 (KBlk 2 (KS Pg W 36 rs_71 an_71 false (sub (bodyOf Tryz.f71) [1, 1, 1, 1, 1]) 0 (fin Pg W 36 rv_71 R)))) (known [6, 27] [(.slice x15 l16 c17), (.int .i64 n18)] (known [2, 25, 26, 36] [(.slice none 0 0), (.slice zp0 zl1 zl2), (.int .i64 zn3), (.tuple #[])] j)) = B_slices_Concat_api_Span_api_Span_1 W R zp0 zl1 zl2 zn3 x15 l16 c17 n18 nx1 := by kernel_rfl
def N_slices_Concat_api_Span_api_Span_1 (I : Option Addr → Nat → Nat → Int → Hp → Prop) (μ : Option Addr → Nat → Nat → Int → Hp → Nat) (x150 : Option Addr) (l160 : Nat) (c170 : Nat) (n180 : Int) (s : Hp) (vs : List Value) : Hp → Prop := fun s' => ∃ x15 l16 c17 n18, vs = [(.slice x15 l16 c17), (.int .i64 n18)] ∧ I x15 l16 c17 n18 s' ∧ μ x15 l16 c17 n18 s' < μ x150 l160 c170 n180 s
theorem L_slices_Concat_api_Span_api_Span_1_rule (W : World) (R : Ending → Hp → Prop) (zp0 : Option Addr) (zl1 : Nat) (zl2 : Nat) (zn3 : Int) (I : Option Addr → Nat → Nat → Int → Hp → Prop) (μ : Option Addr → Nat → Nat → Int → Hp → Nat) (x150 : Option Addr) (l160 : Nat) (c170 : Nat) (n180 : Int) (s : Hp) (h0 : I x150 l160 c170 n180 s)
    (hr : ∀ (x15 : Option Addr) (l16 : Nat) (c17 : Nat) (n18 : Int) (s : Hp), I x15 l16 c17 n18 s → B_slices_Concat_api_Span_api_Span_1 W R zp0 zl1 zl2 zn3 x15 l16 c17 n18 (fun vs => N_slices_Concat_api_Span_api_Span_1 I μ x15 l16 c17 n18 s vs) s) : L_slices_Concat_api_Span_api_Span_1 W R zp0 zl1 zl2 zn3 x150 l160 c170 n180 s := by
  refine ⟨fun vs s => ∃ x15 l16 c17 n18, vs = [(.slice x15 l16 c17), (.int .i64 n18)] ∧ I x15 l16 c17 n18 s, fun vs s => (match vs with | [.slice x15 l16 c17, .int _ n18] => μ x15 l16 c17 n18 s | _ => 0), ⟨⟨⟨_, _, _, rfl⟩, ⟨⟨_, rfl⟩, trivial⟩⟩, ⟨_, _, _, _, rfl, h0⟩⟩, ?_⟩
  intro x15 l16 c17 n18 s hI j
  obtain ⟨x15', l16', c17', n18', hy, hI⟩ := hI
  have hI' : I x15 l16 c17 n18 s := by cases hy; exact hI
  have hh := hr x15 l16 c17 n18 s hI'
  rw [← B_slices_Concat_api_Span_api_Span_1_eq W R zp0 zl1 zl2 zn3 x15 l16 c17 n18 _ j] at hh
  refine vc_mono ?_ _ _ hh
  exact KLoop_mono (fun vs s' h => by obtain ⟨x151, l161, c171, n181, rfl, h1, h2⟩ := h; exact ⟨⟨⟨_, _, _, rfl⟩, ⟨⟨_, rfl⟩, trivial⟩⟩, ⟨_, _, _, _, rfl, h1⟩, h2⟩)
def T_slices_Concat_api_Span_api_Span (W : World) (x1 : Option Addr) (l2 : Nat) (c3 : Nat) (R : Ending → Hp → Prop) : Hp → Prop :=
 L_slices_Concat_api_Span_api_Span_0 W R x1 l2 c3 (↑l2 : Int) 0 0
theorem does_slices_Concat_api_Span_api_Span (W : World) (x1 : Option Addr) (l2 : Nat) (c3 : Nat) (R : Ending → Hp → Prop) (s : Hp) (h : T_slices_Concat_api_Span_api_Span W x1 l2 c3 R s) : Does Pg W F_slices_Concat_api_Span_api_Span #[(.slice x1 l2 c3)] s R :=
  does_of_vfun Pg W an_71 Tryz.func71 rfl (by kernel_rfl) (Eq.mpr (by kernel_rfl) h)
def an_76 : Nat → Ann := fun b => match b with
 | 0 => { ms := [13], ks := [.i .i64], us := [0, 1, 12, 26], rt := false, ex := [] }
 | _ => {}
abbrev rv_76 : List ResultVar := [.tmp 4]
abbrev rs_76 : List Nat := [26, 4]
def L_slices_Equal_byte_byte_0 (W : World) (R : Ending → Hp → Prop) (zp0 : Option Addr) (zl1 : Nat) (zl2 : Nat) (zp3 : Option Addr) (zl4 : Nat) (zl5 : Nat) (zn6 : Int) (n7 : Int) : Hp → Prop :=
 LOOPN [.i .i64] (fun ys next s => ∀ j : Tm, vc Pg W 26 rs_76 an_76 false (sub (bodyOf Tryz.f76) [1, 1, 0, 1, 0, 0]) 0 (KLoop [13] [0, 1, 12, 26] [(.slice zp0 zl1 zl2), (.slice zp3 zl4 zl5), (.int .i64 zn6), (.tuple #[])] next (KBlk 0 (KS Pg W 26 rs_76 an_76 false (sub (bodyOf Tryz.f76) [1, 1, 1]) 0 (fin Pg W 26 rv_76 R)))) (known [13] ys (known [0, 1, 12, 26] [(.slice zp0 zl1 zl2), (.slice zp3 zl4 zl5), (.int .i64 zn6), (.tuple #[])] j)) s) [(.int .i64 n7)]
def B_slices_Equal_byte_byte_0 (W : World) (R : Ending → Hp → Prop) (zp0 : Option Addr) (zl1 : Nat) (zl2 : Nat) (zp3 : Option Addr) (zl4 : Nat) (zl5 : Nat) (zn6 : Int) (n7 : Int) (nx0 : List Value → Hp → Prop) : Hp → Prop :=
 BR (decide (n7 < zn6))
 (IXS zp0 zl1 n7 1 fun a8 =>
 RDI .u8 a8 fun n9 =>
 IXS zp3 zl4 n7 1 fun a10 =>
 RDI .u8 a10 fun n11 =>
 BR (n9 != n11)
 (R (.returned (.bool false)))
 (NX [(.slice zp0 zl1 zl2), (.slice zp3 zl4 zl5), (.int .i64 zn6), (.tuple #[])] [(.slice zp0 zl1 zl2), (.slice zp3 zl4 zl5), (.int .i64 zn6), (.tuple #[])] (nx0 [(.int .i64 (IntKind.wrap .i64 (n7 + 1)))])))
 (R (.returned (.bool true)))
theorem B_slices_Equal_byte_byte_0_eq (W : World) (R : Ending → Hp → Prop) (zp0 : Option Addr) (zl1 : Nat) (zl2 : Nat) (zp3 : Option Addr) (zl4 : Nat) (zl5 : Nat) (zn6 : Int) (n7 : Int) (nx0 : List Value → Hp → Prop) (j : Tm) : vc Pg W 26 rs_76 an_76 false (sub (bodyOf Tryz.f76) [1, 1, 0, 1, 0, 0]) 0 (KLoop [13] [0, 1, 12, 26] [(.slice zp0 zl1 zl2), (.slice zp3 zl4 zl5), (.int .i64 zn6), (.tuple #[])] nx0 (KBlk 0 (KS Pg W 26 rs_76 an_76 false (sub (bodyOf Tryz.f76) [1, 1, 1]) 0 (fin Pg W 26 rv_76 R)))) (known [13] [(.int .i64 n7)] (known [0, 1, 12, 26] [(.slice zp0 zl1 zl2), (.slice zp3 zl4 zl5), (.int .i64 zn6), (.tuple #[])] j)) = B_slices_Equal_byte_byte_0 W R zp0 zl1 zl2 zp3 zl4 zl5 zn6 n7 nx0 := by kernel_rfl
def N_slices_Equal_byte_byte_0 (I : Int → Hp → Prop) (μ : Int → Hp → Nat) (n70 : Int) (s : Hp) (vs : List Value) : Hp → Prop := fun s' => ∃ n7, vs = [(.int .i64 n7)] ∧ I n7 s' ∧ μ n7 s' < μ n70 s
theorem L_slices_Equal_byte_byte_0_rule (W : World) (R : Ending → Hp → Prop) (zp0 : Option Addr) (zl1 : Nat) (zl2 : Nat) (zp3 : Option Addr) (zl4 : Nat) (zl5 : Nat) (zn6 : Int) (I : Int → Hp → Prop) (μ : Int → Hp → Nat) (n70 : Int) (s : Hp) (h0 : I n70 s)
    (hr : ∀ (n7 : Int) (s : Hp), I n7 s → B_slices_Equal_byte_byte_0 W R zp0 zl1 zl2 zp3 zl4 zl5 zn6 n7 (fun vs => N_slices_Equal_byte_byte_0 I μ n7 s vs) s) : L_slices_Equal_byte_byte_0 W R zp0 zl1 zl2 zp3 zl4 zl5 zn6 n70 s := by
  refine ⟨fun vs s => ∃ n7, vs = [(.int .i64 n7)] ∧ I n7 s, fun vs s => (match vs with | [.int _ n7] => μ n7 s | _ => 0), ⟨⟨⟨_, rfl⟩, trivial⟩, ⟨_, rfl, h0⟩⟩, ?_⟩
  intro n7 s hI j
  obtain ⟨n7', hy, hI⟩ := hI
  have hI' : I n7 s := by cases hy; exact hI
  have hh := hr n7 s hI'
  rw [← B_slices_Equal_byte_byte_0_eq W R zp0 zl1 zl2 zp3 zl4 zl5 zn6 n7 _ j] at hh
  refine vc_mono ?_ _ _ hh
  exact KLoop_mono (fun vs s' h => by obtain ⟨n71, rfl, h1, h2⟩ := h; exact ⟨⟨⟨_, rfl⟩, trivial⟩, ⟨_, rfl, h1⟩, h2⟩)
def T_slices_Equal_byte_byte (W : World) (x1 : Option Addr) (l2 : Nat) (c3 : Nat) (x4 : Option Addr) (l5 : Nat) (c6 : Nat) (R : Ending → Hp → Prop) : Hp → Prop :=
 BR ((↑l2 : Int) != (↑l5 : Int))
 (R (.returned (.bool false)))
 (L_slices_Equal_byte_byte_0 W R x1 l2 c3 x4 l5 c6 (↑l2 : Int) 0)
theorem does_slices_Equal_byte_byte (W : World) (x1 : Option Addr) (l2 : Nat) (c3 : Nat) (x4 : Option Addr) (l5 : Nat) (c6 : Nat) (R : Ending → Hp → Prop) (s : Hp) (h : T_slices_Equal_byte_byte W x1 l2 c3 x4 l5 c6 R s) : Does Pg W F_slices_Equal_byte_byte #[(.slice x1 l2 c3), (.slice x4 l5 c6)] s R :=
  does_of_vfun Pg W an_76 Tryz.func76 rfl (by kernel_rfl) (Eq.mpr (by kernel_rfl) h)
def an_114 : Nat → Ann := fun b => match b with
 | _ => {}
abbrev rv_114 : List ResultVar := [.tmp 4]
abbrev rs_114 : List Nat := [9, 4]
def T_slices_ContainsFunc_api_Span_api_Span (W : World) (x1 : Option Addr) (l2 : Nat) (c3 : Nat) (v4 : Value) (R : Ending → Hp → Prop) : Hp → Prop :=
 CALL Pg W F_slices_IndexFunc_api_Span_api_Span [(.slice x1 l2 c3), v4]
 (fun v5 => TYI .i64 v5 fun n7 =>
 R (.returned (.bool (decide (n7 ≥ 0)))))
 (fun e6 => R (.panicked e6))
theorem does_slices_ContainsFunc_api_Span_api_Span (W : World) (x1 : Option Addr) (l2 : Nat) (c3 : Nat) (v4 : Value) (R : Ending → Hp → Prop) (s : Hp) (h : T_slices_ContainsFunc_api_Span_api_Span W x1 l2 c3 v4 R s) : Does Pg W F_slices_ContainsFunc_api_Span_api_Span #[(.slice x1 l2 c3), v4] s R :=
  does_of_vfun Pg W an_114 Tryz.func114 rfl (by kernel_rfl) (Eq.mpr (by kernel_rfl) h)
def an_115 : Nat → Ann := fun b => match b with
 | _ => {}
abbrev rv_115 : List ResultVar := [.tmp 4]
abbrev rs_115 : List Nat := [27, 4]
def T_slices_Grow_api_Span_api_Span (W : World) (x1 : Option Addr) (l2 : Nat) (c3 : Nat) (n4 : Int) (R : Ending → Hp → Prop) : Hp → Prop :=
 BR (decide (n4 < 0))
 (R (.panicked [{ v := (.iface 9 (.string ⟨#[99, 97, 110, 110, 111, 116, 32, 98, 101, 32, 110, 101, 103, 97, 116, 105, 118, 101]⟩)), recovered := false }]))
 (BR (decide ((IntKind.wrap .i64 (n4 - (IntKind.wrap .i64 ((↑c3 : Int) - (↑l2 : Int))))) > 0))
 (SLS x1 c3 0 (↑c3 : Int) 2 fun x5 l6 c7 =>
 APPZ Pg [35, 3] (.slice x5 l6 c7) (.int .i64 (IntKind.wrap .i64 (n4 - (IntKind.wrap .i64 ((↑c3 : Int) - (↑l2 : Int)))))) fun x8 l9 c10 =>
 SLS x8 c10 0 (↑l2 : Int) 2 fun x11 l12 c13 =>
 R (.returned (.slice x11 l12 c13)))
 (R (.returned (.slice x1 l2 c3))))
theorem does_slices_Grow_api_Span_api_Span (W : World) (x1 : Option Addr) (l2 : Nat) (c3 : Nat) (n4 : Int) (R : Ending → Hp → Prop) (s : Hp) (h : T_slices_Grow_api_Span_api_Span W x1 l2 c3 n4 R s) : Does Pg W F_slices_Grow_api_Span_api_Span #[(.slice x1 l2 c3), (.int .i64 n4)] s R :=
  does_of_vfun Pg W an_115 Tryz.func115 rfl (by kernel_rfl) (Eq.mpr (by kernel_rfl) h)
def an_116 : Nat → Ann := fun b => match b with
 | _ => {}
abbrev rv_116 : List ResultVar := [.tmp 2]
abbrev rs_116 : List Nat := [8, 2]
def T_slices_Clone_byte_byte (W : World) (x1 : Option Addr) (l2 : Nat) (c3 : Nat) (R : Ending → Hp → Prop) : Hp → Prop :=
 BR (Option.isNone x1)
 (R (.returned (.slice none 0 0)))
 (NEW 5 [] fun B4 =>
 APP Pg 5 1 (some ⟨B4, 0, none⟩) 0 0 x1 l2 fun x5 l6 c7 =>
 R (.returned (.slice x5 l6 c7)))
theorem does_slices_Clone_byte_byte (W : World) (x1 : Option Addr) (l2 : Nat) (c3 : Nat) (R : Ending → Hp → Prop) (s : Hp) (h : T_slices_Clone_byte_byte W x1 l2 c3 R s) : Does Pg W F_slices_Clone_byte_byte #[(.slice x1 l2 c3)] s R :=
  does_of_vfun Pg W an_116 Tryz.func116 rfl (by kernel_rfl) (Eq.mpr (by kernel_rfl) h)
def an_123 : Nat → Ann := fun b => match b with
 | 0 => { ms := [4, 8], ks := [.i .i64, .i .i64], us := [0, 1, 7, 19], rt := false, ex := [] }
 | _ => {}
abbrev rv_123 : List ResultVar := [.tmp 4]
abbrev rs_123 : List Nat := [19, 4]
def L_slices_IndexFunc_api_Span_api_Span_0 (W : World) (R : Ending → Hp → Prop) (zp0 : Option Addr) (zl1 : Nat) (zl2 : Nat) (zv3 : Value) (zn4 : Int) (n5 : Int) (n6 : Int) : Hp → Prop :=
 LOOPN [.i .i64, .i .i64] (fun ys next s => ∀ j : Tm, vc Pg W 19 rs_123 an_123 false (sub (bodyOf Tryz.f123) [1, 0, 1, 0, 0]) 0 (KLoop [4, 8] [0, 1, 7, 19] [(.slice zp0 zl1 zl2), zv3, (.int .i64 zn4), (.tuple #[])] next (KBlk 0 (KS Pg W 19 rs_123 an_123 false (sub (bodyOf Tryz.f123) [1, 1]) 0 (fin Pg W 19 rv_123 R)))) (known [4, 8] ys (known [0, 1, 7, 19] [(.slice zp0 zl1 zl2), zv3, (.int .i64 zn4), (.tuple #[])] j)) s) [(.int .i64 n5), (.int .i64 n6)]
def B_slices_IndexFunc_api_Span_api_Span_0 (W : World) (R : Ending → Hp → Prop) (zp0 : Option Addr) (zl1 : Nat) (zl2 : Nat) (zv3 : Value) (zn4 : Int) (n5 : Int) (n6 : Int) (nx0 : List Value → Hp → Prop) : Hp → Prop :=
 BR (decide (n6 < zn4))
 (IXS zp0 zl1 n6 2 fun a7 =>
 RDI .i64 (Addr.add a7 0) fun n8 =>
 RDI .i64 (Addr.add a7 1) fun n9 =>
 CALLV Pg W zv3 [(.agg #[(.int .i64 n8), (.int .i64 n9)])]
 (fun v10 => TYB v10 fun b12 =>
 BR b12
 (R (.returned (.int .i64 n6)))
 (NX [(.slice zp0 zl1 zl2), zv3, (.int .i64 zn4), (.tuple #[])] [(.slice zp0 zl1 zl2), zv3, (.int .i64 zn4), (.tuple #[])] (nx0 [(.int .i64 n5), (.int .i64 (IntKind.wrap .i64 (n6 + 1)))])))
 (fun e11 => R (.panicked e11)))
 (R (.returned (.int .i64 (-1))))
theorem B_slices_IndexFunc_api_Span_api_Span_0_eq (W : World) (R : Ending → Hp → Prop) (zp0 : Option Addr) (zl1 : Nat) (zl2 : Nat) (zv3 : Value) (zn4 : Int) (n5 : Int) (n6 : Int) (nx0 : List Value → Hp → Prop) (j : Tm) : vc Pg W 19 rs_123 an_123 false (sub (bodyOf Tryz.f123) [1, 0, 1, 0, 0]) 0 (KLoop [4, 8] [0, 1, 7, 19] [(.slice zp0 zl1 zl2), zv3, (.int .i64 zn4), (.tuple #[])] nx0 (KBlk 0 (KS Pg W 19 rs_123 an_123 false (sub (bodyOf Tryz.f123) [1, 1]) 0 (fin Pg W 19 rv_123 R)))) (known [4, 8] [(.int .i64 n5), (.int .i64 n6)] (known [0, 1, 7, 19] [(.slice zp0 zl1 zl2), zv3, (.int .i64 zn4), (.tuple #[])] j)) = B_slices_IndexFunc_api_Span_api_Span_0 W R zp0 zl1 zl2 zv3 zn4 n5 n6 nx0 := by kernel_rfl
def N_slices_IndexFunc_api_Span_api_Span_0 (I : Int → Int → Hp → Prop) (μ : Int → Int → Hp → Nat) (n50 : Int) (n60 : Int) (s : Hp) (vs : List Value) : Hp → Prop := fun s' => ∃ n5 n6, vs = [(.int .i64 n5), (.int .i64 n6)] ∧ I n5 n6 s' ∧ μ n5 n6 s' < μ n50 n60 s
theorem L_slices_IndexFunc_api_Span_api_Span_0_rule (W : World) (R : Ending → Hp → Prop) (zp0 : Option Addr) (zl1 : Nat) (zl2 : Nat) (zv3 : Value) (zn4 : Int) (I : Int → Int → Hp → Prop) (μ : Int → Int → Hp → Nat) (n50 : Int) (n60 : Int) (s : Hp) (h0 : I n50 n60 s)
    (hr : ∀ (n5 : Int) (n6 : Int) (s : Hp), I n5 n6 s → B_slices_IndexFunc_api_Span_api_Span_0 W R zp0 zl1 zl2 zv3 zn4 n5 n6 (fun vs => N_slices_IndexFunc_api_Span_api_Span_0 I μ n5 n6 s vs) s) : L_slices_IndexFunc_api_Span_api_Span_0 W R zp0 zl1 zl2 zv3 zn4 n50 n60 s := by
  refine ⟨fun vs s => ∃ n5 n6, vs = [(.int .i64 n5), (.int .i64 n6)] ∧ I n5 n6 s, fun vs s => (match vs with | [.int _ n5, .int _ n6] => μ n5 n6 s | _ => 0), ⟨⟨⟨_, rfl⟩, ⟨⟨_, rfl⟩, trivial⟩⟩, ⟨_, _, rfl, h0⟩⟩, ?_⟩
  intro n5 n6 s hI j
  obtain ⟨n5', n6', hy, hI⟩ := hI
  have hI' : I n5 n6 s := by cases hy; exact hI
  have hh := hr n5 n6 s hI'
  rw [← B_slices_IndexFunc_api_Span_api_Span_0_eq W R zp0 zl1 zl2 zv3 zn4 n5 n6 _ j] at hh
  refine vc_mono ?_ _ _ hh
  exact KLoop_mono (fun vs s' h => by obtain ⟨n51, n61, rfl, h1, h2⟩ := h; exact ⟨⟨⟨_, rfl⟩, ⟨⟨_, rfl⟩, trivial⟩⟩, ⟨_, _, rfl, h1⟩, h2⟩)
def T_slices_IndexFunc_api_Span_api_Span (W : World) (x1 : Option Addr) (l2 : Nat) (c3 : Nat) (v4 : Value) (R : Ending → Hp → Prop) : Hp → Prop :=
 L_slices_IndexFunc_api_Span_api_Span_0 W R x1 l2 c3 v4 (↑l2 : Int) 0 0
theorem does_slices_IndexFunc_api_Span_api_Span (W : World) (x1 : Option Addr) (l2 : Nat) (c3 : Nat) (v4 : Value) (R : Ending → Hp → Prop) (s : Hp) (h : T_slices_IndexFunc_api_Span_api_Span W x1 l2 c3 v4 R s) : Does Pg W F_slices_IndexFunc_api_Span_api_Span #[(.slice x1 l2 c3), v4] s R :=
  does_of_vfun Pg W an_123 Tryz.func123 rfl (by kernel_rfl) (Eq.mpr (by kernel_rfl) h)
def an_127 : Nat → Ann := fun b => match b with
 | _ => {}
abbrev rv_127 : List ResultVar := [.tmp 2]
abbrev rs_127 : List Nat := [4, 2]
def T_strings_Lines (W : World) (t1 : ByteArray) (R : Ending → Hp → Prop) : Hp → Prop :=
 NEW 9 [(.string t1)] fun B2 =>
 R (.returned (.func (.func 133) #[] #[(.pointer (some ⟨B2, 0, none⟩))]))
theorem does_strings_Lines (W : World) (t1 : ByteArray) (R : Ending → Hp → Prop) (s : Hp) (h : T_strings_Lines W t1 R s) : Does Pg W F_strings_Lines #[(.string t1)] s R :=
  does_of_vfun Pg W an_127 Tryz.func127 rfl (by kernel_rfl) (Eq.mpr (by kernel_rfl) h)
def an_133 : Nat → Ann := fun b => match b with
 | 0 => { ms := [], ks := [], us := [0, 1, 25], rt := false, ex := [] }
 | _ => {}
abbrev rv_133 : List ResultVar := []
abbrev rs_133 : List Nat := [25]
def L_strings_Lines_c1_0 (W : World) (R : Ending → Hp → Prop) (zv0 : Value) (za1 : Addr) : Hp → Prop :=
 LOOPN [] (fun ys next s => ∀ j : Tm, vc Pg W 25 rs_133 an_133 false (sub (bodyOf Tryz.f133) [0, 0]) 0 (KLoop [] [0, 1, 25] [zv0, (.pointer (some za1)), (.tuple #[])] next (KBlk 0 (fin Pg W 25 rv_133 R))) (known [] ys (known [0, 1, 25] [zv0, (.pointer (some za1)), (.tuple #[])] j)) s) []
def B_strings_Lines_c1_0 (W : World) (R : Ending → Hp → Prop) (zv0 : Value) (za1 : Addr) (nx0 : List Value → Hp → Prop) : Hp → Prop :=
 RDS za1 fun t3 =>
 BR (decide ((↑(t3).size : Int) > 0))
 (RDS za1 fun t4 =>
 CALL Pg W F_strings_IndexByte [(.string t4), (.int .u8 10)]
 (fun v5 => TYI .i64 v5 fun n7 =>
 BR (decide (n7 ≥ 0))
 (RDS za1 fun t8 =>
 RDS za1 fun t9 =>
 CONJ [
 STSL t8 0 (IntKind.wrap .i64 (n7 + 1)) fun t13 =>
 ANDS (RDS za1 fun t14 =>
 fun _ => ((.string t14) : Value) = (.string t9)) <|
 CONJ [
 STSL t9 (IntKind.wrap .i64 (n7 + 1)) (↑(ByteArray.size t9) : Int) fun t18 =>
 ANDS (RDS za1 fun t19 =>
 fun _ => ((.string t19) : Value) = (.string t8)) <|
 ANDS (RDS za1 fun t20 =>
 fun _ => ((.string t20) : Value) = (.string t9)) <|
 WR (Addr.add za1 0) (.string t18) <|
 CALLV Pg W zv0 [(.string t13)]
 (fun v21 => TYB v21 fun b23 =>
 BR (!b23)
 (R (.returned (.tuple #[])))
 (NX [zv0, (.pointer (some za1)), (.tuple #[])] [zv0, (.pointer (some za1)), (.tuple #[])] (nx0 [])))
 (fun e22 => R (.panicked e22)),
 ANDS (RDS za1 fun t24 =>
 fun _ => ((.string t24) : Value) = (.string t9)) <|
 STSL t9 (IntKind.wrap .i64 (n7 + 1)) (↑(ByteArray.size t9) : Int) fun t28 =>
 ANDS (RDS za1 fun t29 =>
 fun _ => ((.string t29) : Value) = (.string t8)) <|
 WR (Addr.add za1 0) (.string t28) <|
 CALLV Pg W zv0 [(.string t13)]
 (fun v30 => TYB v30 fun b32 =>
 BR (!b32)
 (R (.returned (.tuple #[])))
 (NX [zv0, (.pointer (some za1)), (.tuple #[])] [zv0, (.pointer (some za1)), (.tuple #[])] (nx0 [])))
 (fun e31 => R (.panicked e31))],
 STSL t9 (IntKind.wrap .i64 (n7 + 1)) (↑(ByteArray.size t9) : Int) fun t36 =>
 ANDS (RDS za1 fun t37 =>
 fun _ => ((.string t37) : Value) = (.string t8)) <|
 STSL t8 0 (IntKind.wrap .i64 (n7 + 1)) fun t41 =>
 ANDS (RDS za1 fun t42 =>
 fun _ => ((.string t42) : Value) = (.string t9)) <|
 ANDS (RDS za1 fun t43 =>
 fun _ => ((.string t43) : Value) = (.string t9)) <|
 WR (Addr.add za1 0) (.string t36) <|
 CALLV Pg W zv0 [(.string t41)]
 (fun v44 => TYB v44 fun b46 =>
 BR (!b46)
 (R (.returned (.tuple #[])))
 (NX [zv0, (.pointer (some za1)), (.tuple #[])] [zv0, (.pointer (some za1)), (.tuple #[])] (nx0 [])))
 (fun e45 => R (.panicked e45))])
 (RDS za1 fun t47 =>
 WR (Addr.add za1 0) (.string ⟨#[]⟩) <|
 CALLV Pg W zv0 [(.string t47)]
 (fun v48 => TYB v48 fun b50 =>
 BR (!b50)
 (R (.returned (.tuple #[])))
 (NX [zv0, (.pointer (some za1)), (.tuple #[])] [zv0, (.pointer (some za1)), (.tuple #[])] (nx0 [])))
 (fun e49 => R (.panicked e49))))
 (fun e6 => R (.panicked e6)))
 (R (.returned (.tuple #[])))
theorem B_strings_Lines_c1_0_eq (W : World) (R : Ending → Hp → Prop) (zv0 : Value) (za1 : Addr) (nx0 : List Value → Hp → Prop) (j : Tm) : vc Pg W 25 rs_133 an_133 false (sub (bodyOf Tryz.f133) [0, 0]) 0 (KLoop [] [0, 1, 25] [zv0, (.pointer (some za1)), (.tuple #[])] nx0 (KBlk 0 (fin Pg W 25 rv_133 R))) (known [] [] (known [0, 1, 25] [zv0, (.pointer (some za1)), (.tuple #[])] j)) = B_strings_Lines_c1_0 W R zv0 za1 nx0 := by kernel_rfl
def N_strings_Lines_c1_0 (I : Hp → Prop) (μ : Hp → Nat) (s : Hp) (vs : List Value) : Hp → Prop := fun s' => vs = [] ∧ I s' ∧ μ s' < μ s
theorem L_strings_Lines_c1_0_rule (W : World) (R : Ending → Hp → Prop) (zv0 : Value) (za1 : Addr) (I : Hp → Prop) (μ : Hp → Nat) (s : Hp) (h0 : I s)
    (hr : ∀ (s : Hp), I s → B_strings_Lines_c1_0 W R zv0 za1 (fun vs => N_strings_Lines_c1_0 I μ s vs) s) : L_strings_Lines_c1_0 W R zv0 za1 s := by
  refine ⟨fun vs s => vs = [] ∧ I s, fun vs s => (match vs with | [] => μ s | _ => 0), ⟨trivial, ⟨rfl, h0⟩⟩, ?_⟩
  intro s hI j
  obtain ⟨hy, hI⟩ := hI
  have hI' : I s := by exact hI
  have hh := hr s hI'
  rw [← B_strings_Lines_c1_0_eq W R zv0 za1 _ j] at hh
  refine vc_mono ?_ _ _ hh
  exact KLoop_mono (fun vs s' h => by obtain ⟨rfl, h1, h2⟩ := h; exact ⟨trivial, ⟨rfl, h1⟩, h2⟩)
def T_strings_Lines_c1 (W : World) (v1 : Value) (a2 : Addr) (R : Ending → Hp → Prop) : Hp → Prop :=
 L_strings_Lines_c1_0 W R v1 a2
theorem does_strings_Lines_c1 (W : World) (v1 : Value) (a2 : Addr) (R : Ending → Hp → Prop) (s : Hp) (h : T_strings_Lines_c1 W v1 a2 R s) : Does Pg W F_strings_Lines_c1 #[v1, (.pointer (some a2))] s R :=
  does_of_vfun Pg W an_133 Tryz.func133 rfl (by kernel_rfl) (Eq.mpr (by kernel_rfl) h)
def an_192 : Nat → Ann := fun b => match b with
 | _ => {}
abbrev rv_192 : List ResultVar := [.tmp 4]
abbrev rs_192 : List Nat := [9, 4]
def T_slices_ContainsFunc_api_Post_api_Post (W : World) (x1 : Option Addr) (l2 : Nat) (c3 : Nat) (v4 : Value) (R : Ending → Hp → Prop) : Hp → Prop :=
 CALL Pg W F_slices_IndexFunc_api_Post_api_Post [(.slice x1 l2 c3), v4]
 (fun v5 => TYI .i64 v5 fun n7 =>
 R (.returned (.bool (decide (n7 ≥ 0)))))
 (fun e6 => R (.panicked e6))
theorem does_slices_ContainsFunc_api_Post_api_Post (W : World) (x1 : Option Addr) (l2 : Nat) (c3 : Nat) (v4 : Value) (R : Ending → Hp → Prop) (s : Hp) (h : T_slices_ContainsFunc_api_Post_api_Post W x1 l2 c3 v4 R s) : Does Pg W F_slices_ContainsFunc_api_Post_api_Post #[(.slice x1 l2 c3), v4] s R :=
  does_of_vfun Pg W an_192 Tryz.func192 rfl (by kernel_rfl) (Eq.mpr (by kernel_rfl) h)
def an_193 : Nat → Ann := fun b => match b with
 | _ => {}
abbrev rv_193 : List ResultVar := [.tmp 4]
abbrev rs_193 : List Nat := [9, 4]
def T_slices_ContainsFunc_api_Length_api_Length (W : World) (x1 : Option Addr) (l2 : Nat) (c3 : Nat) (v4 : Value) (R : Ending → Hp → Prop) : Hp → Prop :=
 CALL Pg W F_slices_IndexFunc_api_Length_api_Length [(.slice x1 l2 c3), v4]
 (fun v5 => TYI .i64 v5 fun n7 =>
 R (.returned (.bool (decide (n7 ≥ 0)))))
 (fun e6 => R (.panicked e6))
theorem does_slices_ContainsFunc_api_Length_api_Length (W : World) (x1 : Option Addr) (l2 : Nat) (c3 : Nat) (v4 : Value) (R : Ending → Hp → Prop) (s : Hp) (h : T_slices_ContainsFunc_api_Length_api_Length W x1 l2 c3 v4 R s) : Does Pg W F_slices_ContainsFunc_api_Length_api_Length #[(.slice x1 l2 c3), v4] s R :=
  does_of_vfun Pg W an_193 Tryz.func193 rfl (by kernel_rfl) (Eq.mpr (by kernel_rfl) h)
def an_199 : Nat → Ann := fun b => match b with
 | 0 => { ms := [4, 8], ks := [.i .i64, .i .i64], us := [0, 1, 7, 19], rt := false, ex := [] }
 | _ => {}
abbrev rv_199 : List ResultVar := [.tmp 4]
abbrev rs_199 : List Nat := [19, 4]
def L_slices_IndexFunc_api_Post_api_Post_0 (W : World) (R : Ending → Hp → Prop) (zp0 : Option Addr) (zl1 : Nat) (zl2 : Nat) (zv3 : Value) (zn4 : Int) (n5 : Int) (n6 : Int) : Hp → Prop :=
 LOOPN [.i .i64, .i .i64] (fun ys next s => ∀ j : Tm, vc Pg W 19 rs_199 an_199 false (sub (bodyOf Tryz.f199) [1, 0, 1, 0, 0]) 0 (KLoop [4, 8] [0, 1, 7, 19] [(.slice zp0 zl1 zl2), zv3, (.int .i64 zn4), (.tuple #[])] next (KBlk 0 (KS Pg W 19 rs_199 an_199 false (sub (bodyOf Tryz.f199) [1, 1]) 0 (fin Pg W 19 rv_199 R)))) (known [4, 8] ys (known [0, 1, 7, 19] [(.slice zp0 zl1 zl2), zv3, (.int .i64 zn4), (.tuple #[])] j)) s) [(.int .i64 n5), (.int .i64 n6)]
def B_slices_IndexFunc_api_Post_api_Post_0 (W : World) (R : Ending → Hp → Prop) (zp0 : Option Addr) (zl1 : Nat) (zl2 : Nat) (zv3 : Value) (zn4 : Int) (n5 : Int) (n6 : Int) (nx0 : List Value → Hp → Prop) : Hp → Prop :=
 BR (decide (n6 < zn4))
 (IXS zp0 zl1 n6 4 fun a7 =>
 RDI .i64 (Addr.add a7 0) fun n8 =>
 RDI .i64 (Addr.add a7 1) fun n9 =>
 RDI .i64 (Addr.add a7 2) fun n10 =>
 RDI .i64 (Addr.add a7 3) fun n11 =>
 CALLV Pg W zv3 [(.agg #[(.int .i64 n8), (.int .i64 n9), (.int .i64 n10), (.int .i64 n11)])]
 (fun v12 => TYB v12 fun b14 =>
 BR b14
 (R (.returned (.int .i64 n6)))
 (NX [(.slice zp0 zl1 zl2), zv3, (.int .i64 zn4), (.tuple #[])] [(.slice zp0 zl1 zl2), zv3, (.int .i64 zn4), (.tuple #[])] (nx0 [(.int .i64 n5), (.int .i64 (IntKind.wrap .i64 (n6 + 1)))])))
 (fun e13 => R (.panicked e13)))
 (R (.returned (.int .i64 (-1))))
theorem B_slices_IndexFunc_api_Post_api_Post_0_eq (W : World) (R : Ending → Hp → Prop) (zp0 : Option Addr) (zl1 : Nat) (zl2 : Nat) (zv3 : Value) (zn4 : Int) (n5 : Int) (n6 : Int) (nx0 : List Value → Hp → Prop) (j : Tm) : vc Pg W 19 rs_199 an_199 false (sub (bodyOf Tryz.f199) [1, 0, 1, 0, 0]) 0 (KLoop [4, 8] [0, 1, 7, 19] [(.slice zp0 zl1 zl2), zv3, (.int .i64 zn4), (.tuple #[])] nx0 (KBlk 0 (KS Pg W 19 rs_199 an_199 false (sub (bodyOf Tryz.f199) [1, 1]) 0 (fin Pg W 19 rv_199 R)))) (known [4, 8] [(.int .i64 n5), (.int .i64 n6)] (known [0, 1, 7, 19] [(.slice zp0 zl1 zl2), zv3, (.int .i64 zn4), (.tuple #[])] j)) = B_slices_IndexFunc_api_Post_api_Post_0 W R zp0 zl1 zl2 zv3 zn4 n5 n6 nx0 := by kernel_rfl
def N_slices_IndexFunc_api_Post_api_Post_0 (I : Int → Int → Hp → Prop) (μ : Int → Int → Hp → Nat) (n50 : Int) (n60 : Int) (s : Hp) (vs : List Value) : Hp → Prop := fun s' => ∃ n5 n6, vs = [(.int .i64 n5), (.int .i64 n6)] ∧ I n5 n6 s' ∧ μ n5 n6 s' < μ n50 n60 s
theorem L_slices_IndexFunc_api_Post_api_Post_0_rule (W : World) (R : Ending → Hp → Prop) (zp0 : Option Addr) (zl1 : Nat) (zl2 : Nat) (zv3 : Value) (zn4 : Int) (I : Int → Int → Hp → Prop) (μ : Int → Int → Hp → Nat) (n50 : Int) (n60 : Int) (s : Hp) (h0 : I n50 n60 s)
    (hr : ∀ (n5 : Int) (n6 : Int) (s : Hp), I n5 n6 s → B_slices_IndexFunc_api_Post_api_Post_0 W R zp0 zl1 zl2 zv3 zn4 n5 n6 (fun vs => N_slices_IndexFunc_api_Post_api_Post_0 I μ n5 n6 s vs) s) : L_slices_IndexFunc_api_Post_api_Post_0 W R zp0 zl1 zl2 zv3 zn4 n50 n60 s := by
  refine ⟨fun vs s => ∃ n5 n6, vs = [(.int .i64 n5), (.int .i64 n6)] ∧ I n5 n6 s, fun vs s => (match vs with | [.int _ n5, .int _ n6] => μ n5 n6 s | _ => 0), ⟨⟨⟨_, rfl⟩, ⟨⟨_, rfl⟩, trivial⟩⟩, ⟨_, _, rfl, h0⟩⟩, ?_⟩
  intro n5 n6 s hI j
  obtain ⟨n5', n6', hy, hI⟩ := hI
  have hI' : I n5 n6 s := by cases hy; exact hI
  have hh := hr n5 n6 s hI'
  rw [← B_slices_IndexFunc_api_Post_api_Post_0_eq W R zp0 zl1 zl2 zv3 zn4 n5 n6 _ j] at hh
  refine vc_mono ?_ _ _ hh
  exact KLoop_mono (fun vs s' h => by obtain ⟨n51, n61, rfl, h1, h2⟩ := h; exact ⟨⟨⟨_, rfl⟩, ⟨⟨_, rfl⟩, trivial⟩⟩, ⟨_, _, rfl, h1⟩, h2⟩)
def T_slices_IndexFunc_api_Post_api_Post (W : World) (x1 : Option Addr) (l2 : Nat) (c3 : Nat) (v4 : Value) (R : Ending → Hp → Prop) : Hp → Prop :=
 L_slices_IndexFunc_api_Post_api_Post_0 W R x1 l2 c3 v4 (↑l2 : Int) 0 0
theorem does_slices_IndexFunc_api_Post_api_Post (W : World) (x1 : Option Addr) (l2 : Nat) (c3 : Nat) (v4 : Value) (R : Ending → Hp → Prop) (s : Hp) (h : T_slices_IndexFunc_api_Post_api_Post W x1 l2 c3 v4 R s) : Does Pg W F_slices_IndexFunc_api_Post_api_Post #[(.slice x1 l2 c3), v4] s R :=
  does_of_vfun Pg W an_199 Tryz.func199 rfl (by kernel_rfl) (Eq.mpr (by kernel_rfl) h)
def an_200 : Nat → Ann := fun b => match b with
 | 0 => { ms := [4, 8], ks := [.i .i64, .i .i64], us := [0, 1, 7, 19], rt := false, ex := [] }
 | _ => {}
abbrev rv_200 : List ResultVar := [.tmp 4]
abbrev rs_200 : List Nat := [19, 4]
def L_slices_IndexFunc_api_Length_api_Length_0 (W : World) (R : Ending → Hp → Prop) (zp0 : Option Addr) (zl1 : Nat) (zl2 : Nat) (zv3 : Value) (zn4 : Int) (n5 : Int) (n6 : Int) : Hp → Prop :=
 LOOPN [.i .i64, .i .i64] (fun ys next s => ∀ j : Tm, vc Pg W 19 rs_200 an_200 false (sub (bodyOf Tryz.f200) [1, 0, 1, 0, 0]) 0 (KLoop [4, 8] [0, 1, 7, 19] [(.slice zp0 zl1 zl2), zv3, (.int .i64 zn4), (.tuple #[])] next (KBlk 0 (KS Pg W 19 rs_200 an_200 false (sub (bodyOf Tryz.f200) [1, 1]) 0 (fin Pg W 19 rv_200 R)))) (known [4, 8] ys (known [0, 1, 7, 19] [(.slice zp0 zl1 zl2), zv3, (.int .i64 zn4), (.tuple #[])] j)) s) [(.int .i64 n5), (.int .i64 n6)]
def B_slices_IndexFunc_api_Length_api_Length_0 (W : World) (R : Ending → Hp → Prop) (zp0 : Option Addr) (zl1 : Nat) (zl2 : Nat) (zv3 : Value) (zn4 : Int) (n5 : Int) (n6 : Int) (nx0 : List Value → Hp → Prop) : Hp → Prop :=
 BR (decide (n6 < zn4))
 (IXS zp0 zl1 n6 4 fun a7 =>
 RDI .i64 (Addr.add a7 0) fun n8 =>
 RDI .i64 (Addr.add a7 1) fun n9 =>
 RDI .i64 (Addr.add a7 2) fun n10 =>
 RDI .i64 (Addr.add a7 3) fun n11 =>
 CALLV Pg W zv3 [(.agg #[(.int .i64 n8), (.int .i64 n9), (.int .i64 n10), (.int .i64 n11)])]
 (fun v12 => TYB v12 fun b14 =>
 BR b14
 (R (.returned (.int .i64 n6)))
 (NX [(.slice zp0 zl1 zl2), zv3, (.int .i64 zn4), (.tuple #[])] [(.slice zp0 zl1 zl2), zv3, (.int .i64 zn4), (.tuple #[])] (nx0 [(.int .i64 n5), (.int .i64 (IntKind.wrap .i64 (n6 + 1)))])))
 (fun e13 => R (.panicked e13)))
 (R (.returned (.int .i64 (-1))))
theorem B_slices_IndexFunc_api_Length_api_Length_0_eq (W : World) (R : Ending → Hp → Prop) (zp0 : Option Addr) (zl1 : Nat) (zl2 : Nat) (zv3 : Value) (zn4 : Int) (n5 : Int) (n6 : Int) (nx0 : List Value → Hp → Prop) (j : Tm) : vc Pg W 19 rs_200 an_200 false (sub (bodyOf Tryz.f200) [1, 0, 1, 0, 0]) 0 (KLoop [4, 8] [0, 1, 7, 19] [(.slice zp0 zl1 zl2), zv3, (.int .i64 zn4), (.tuple #[])] nx0 (KBlk 0 (KS Pg W 19 rs_200 an_200 false (sub (bodyOf Tryz.f200) [1, 1]) 0 (fin Pg W 19 rv_200 R)))) (known [4, 8] [(.int .i64 n5), (.int .i64 n6)] (known [0, 1, 7, 19] [(.slice zp0 zl1 zl2), zv3, (.int .i64 zn4), (.tuple #[])] j)) = B_slices_IndexFunc_api_Length_api_Length_0 W R zp0 zl1 zl2 zv3 zn4 n5 n6 nx0 := by kernel_rfl
def N_slices_IndexFunc_api_Length_api_Length_0 (I : Int → Int → Hp → Prop) (μ : Int → Int → Hp → Nat) (n50 : Int) (n60 : Int) (s : Hp) (vs : List Value) : Hp → Prop := fun s' => ∃ n5 n6, vs = [(.int .i64 n5), (.int .i64 n6)] ∧ I n5 n6 s' ∧ μ n5 n6 s' < μ n50 n60 s
theorem L_slices_IndexFunc_api_Length_api_Length_0_rule (W : World) (R : Ending → Hp → Prop) (zp0 : Option Addr) (zl1 : Nat) (zl2 : Nat) (zv3 : Value) (zn4 : Int) (I : Int → Int → Hp → Prop) (μ : Int → Int → Hp → Nat) (n50 : Int) (n60 : Int) (s : Hp) (h0 : I n50 n60 s)
    (hr : ∀ (n5 : Int) (n6 : Int) (s : Hp), I n5 n6 s → B_slices_IndexFunc_api_Length_api_Length_0 W R zp0 zl1 zl2 zv3 zn4 n5 n6 (fun vs => N_slices_IndexFunc_api_Length_api_Length_0 I μ n5 n6 s vs) s) : L_slices_IndexFunc_api_Length_api_Length_0 W R zp0 zl1 zl2 zv3 zn4 n50 n60 s := by
  refine ⟨fun vs s => ∃ n5 n6, vs = [(.int .i64 n5), (.int .i64 n6)] ∧ I n5 n6 s, fun vs s => (match vs with | [.int _ n5, .int _ n6] => μ n5 n6 s | _ => 0), ⟨⟨⟨_, rfl⟩, ⟨⟨_, rfl⟩, trivial⟩⟩, ⟨_, _, rfl, h0⟩⟩, ?_⟩
  intro n5 n6 s hI j
  obtain ⟨n5', n6', hy, hI⟩ := hI
  have hI' : I n5 n6 s := by cases hy; exact hI
  have hh := hr n5 n6 s hI'
  rw [← B_slices_IndexFunc_api_Length_api_Length_0_eq W R zp0 zl1 zl2 zv3 zn4 n5 n6 _ j] at hh
  refine vc_mono ?_ _ _ hh
  exact KLoop_mono (fun vs s' h => by obtain ⟨n51, n61, rfl, h1, h2⟩ := h; exact ⟨⟨⟨_, rfl⟩, ⟨⟨_, rfl⟩, trivial⟩⟩, ⟨_, _, rfl, h1⟩, h2⟩)
def T_slices_IndexFunc_api_Length_api_Length (W : World) (x1 : Option Addr) (l2 : Nat) (c3 : Nat) (v4 : Value) (R : Ending → Hp → Prop) : Hp → Prop :=
 L_slices_IndexFunc_api_Length_api_Length_0 W R x1 l2 c3 v4 (↑l2 : Int) 0 0
theorem does_slices_IndexFunc_api_Length_api_Length (W : World) (x1 : Option Addr) (l2 : Nat) (c3 : Nat) (v4 : Value) (R : Ending → Hp → Prop) (s : Hp) (h : T_slices_IndexFunc_api_Length_api_Length W x1 l2 c3 v4 R s) : Does Pg W F_slices_IndexFunc_api_Length_api_Length #[(.slice x1 l2 c3), v4] s R :=
  does_of_vfun Pg W an_200 Tryz.func200 rfl (by kernel_rfl) (Eq.mpr (by kernel_rfl) h)
def an_228 : Nat → Ann := fun b => match b with
 | _ => {}
abbrev rv_228 : List ResultVar := [.tmp 4]
abbrev rs_228 : List Nat := [9, 4]
def T_slices_ContainsFunc_int_int (W : World) (x1 : Option Addr) (l2 : Nat) (c3 : Nat) (v4 : Value) (R : Ending → Hp → Prop) : Hp → Prop :=
 CALL Pg W F_slices_IndexFunc_int_int [(.slice x1 l2 c3), v4]
 (fun v5 => TYI .i64 v5 fun n7 =>
 R (.returned (.bool (decide (n7 ≥ 0)))))
 (fun e6 => R (.panicked e6))
theorem does_slices_ContainsFunc_int_int (W : World) (x1 : Option Addr) (l2 : Nat) (c3 : Nat) (v4 : Value) (R : Ending → Hp → Prop) (s : Hp) (h : T_slices_ContainsFunc_int_int W x1 l2 c3 v4 R s) : Does Pg W F_slices_ContainsFunc_int_int #[(.slice x1 l2 c3), v4] s R :=
  does_of_vfun Pg W an_228 Tryz.func228 rfl (by kernel_rfl) (Eq.mpr (by kernel_rfl) h)
def an_229 : Nat → Ann := fun b => match b with
 | _ => {}
abbrev rv_229 : List ResultVar := [.tmp 4]
abbrev rs_229 : List Nat := [9, 4]
def T_slices_ContainsFunc_api_Kin_api_Kin (W : World) (x1 : Option Addr) (l2 : Nat) (c3 : Nat) (v4 : Value) (R : Ending → Hp → Prop) : Hp → Prop :=
 CALL Pg W F_slices_IndexFunc_api_Kin_api_Kin [(.slice x1 l2 c3), v4]
 (fun v5 => TYI .i64 v5 fun n7 =>
 R (.returned (.bool (decide (n7 ≥ 0)))))
 (fun e6 => R (.panicked e6))
theorem does_slices_ContainsFunc_api_Kin_api_Kin (W : World) (x1 : Option Addr) (l2 : Nat) (c3 : Nat) (v4 : Value) (R : Ending → Hp → Prop) (s : Hp) (h : T_slices_ContainsFunc_api_Kin_api_Kin W x1 l2 c3 v4 R s) : Does Pg W F_slices_ContainsFunc_api_Kin_api_Kin #[(.slice x1 l2 c3), v4] s R :=
  does_of_vfun Pg W an_229 Tryz.func229 rfl (by kernel_rfl) (Eq.mpr (by kernel_rfl) h)
def an_230 : Nat → Ann := fun b => match b with
 | 0 => { ms := [4, 8], ks := [.i .i64, .i .i64], us := [0, 1, 7, 19], rt := false, ex := [] }
 | _ => {}
abbrev rv_230 : List ResultVar := [.tmp 4]
abbrev rs_230 : List Nat := [19, 4]
def L_slices_IndexFunc_int_int_0 (W : World) (R : Ending → Hp → Prop) (zp0 : Option Addr) (zl1 : Nat) (zl2 : Nat) (zv3 : Value) (zn4 : Int) (n5 : Int) (n6 : Int) : Hp → Prop :=
 LOOPN [.i .i64, .i .i64] (fun ys next s => ∀ j : Tm, vc Pg W 19 rs_230 an_230 false (sub (bodyOf Tryz.f230) [1, 0, 1, 0, 0]) 0 (KLoop [4, 8] [0, 1, 7, 19] [(.slice zp0 zl1 zl2), zv3, (.int .i64 zn4), (.tuple #[])] next (KBlk 0 (KS Pg W 19 rs_230 an_230 false (sub (bodyOf Tryz.f230) [1, 1]) 0 (fin Pg W 19 rv_230 R)))) (known [4, 8] ys (known [0, 1, 7, 19] [(.slice zp0 zl1 zl2), zv3, (.int .i64 zn4), (.tuple #[])] j)) s) [(.int .i64 n5), (.int .i64 n6)]
def B_slices_IndexFunc_int_int_0 (W : World) (R : Ending → Hp → Prop) (zp0 : Option Addr) (zl1 : Nat) (zl2 : Nat) (zv3 : Value) (zn4 : Int) (n5 : Int) (n6 : Int) (nx0 : List Value → Hp → Prop) : Hp → Prop :=
 BR (decide (n6 < zn4))
 (IXS zp0 zl1 n6 1 fun a7 =>
 RDI .i64 a7 fun n8 =>
 CALLV Pg W zv3 [(.int .i64 n8)]
 (fun v9 => TYB v9 fun b11 =>
 BR b11
 (R (.returned (.int .i64 n6)))
 (NX [(.slice zp0 zl1 zl2), zv3, (.int .i64 zn4), (.tuple #[])] [(.slice zp0 zl1 zl2), zv3, (.int .i64 zn4), (.tuple #[])] (nx0 [(.int .i64 n5), (.int .i64 (IntKind.wrap .i64 (n6 + 1)))])))
 (fun e10 => R (.panicked e10)))
 (R (.returned (.int .i64 (-1))))
theorem B_slices_IndexFunc_int_int_0_eq (W : World) (R : Ending → Hp → Prop) (zp0 : Option Addr) (zl1 : Nat) (zl2 : Nat) (zv3 : Value) (zn4 : Int) (n5 : Int) (n6 : Int) (nx0 : List Value → Hp → Prop) (j : Tm) : vc Pg W 19 rs_230 an_230 false (sub (bodyOf Tryz.f230) [1, 0, 1, 0, 0]) 0 (KLoop [4, 8] [0, 1, 7, 19] [(.slice zp0 zl1 zl2), zv3, (.int .i64 zn4), (.tuple #[])] nx0 (KBlk 0 (KS Pg W 19 rs_230 an_230 false (sub (bodyOf Tryz.f230) [1, 1]) 0 (fin Pg W 19 rv_230 R)))) (known [4, 8] [(.int .i64 n5), (.int .i64 n6)] (known [0, 1, 7, 19] [(.slice zp0 zl1 zl2), zv3, (.int .i64 zn4), (.tuple #[])] j)) = B_slices_IndexFunc_int_int_0 W R zp0 zl1 zl2 zv3 zn4 n5 n6 nx0 := by kernel_rfl
def N_slices_IndexFunc_int_int_0 (I : Int → Int → Hp → Prop) (μ : Int → Int → Hp → Nat) (n50 : Int) (n60 : Int) (s : Hp) (vs : List Value) : Hp → Prop := fun s' => ∃ n5 n6, vs = [(.int .i64 n5), (.int .i64 n6)] ∧ I n5 n6 s' ∧ μ n5 n6 s' < μ n50 n60 s
theorem L_slices_IndexFunc_int_int_0_rule (W : World) (R : Ending → Hp → Prop) (zp0 : Option Addr) (zl1 : Nat) (zl2 : Nat) (zv3 : Value) (zn4 : Int) (I : Int → Int → Hp → Prop) (μ : Int → Int → Hp → Nat) (n50 : Int) (n60 : Int) (s : Hp) (h0 : I n50 n60 s)
    (hr : ∀ (n5 : Int) (n6 : Int) (s : Hp), I n5 n6 s → B_slices_IndexFunc_int_int_0 W R zp0 zl1 zl2 zv3 zn4 n5 n6 (fun vs => N_slices_IndexFunc_int_int_0 I μ n5 n6 s vs) s) : L_slices_IndexFunc_int_int_0 W R zp0 zl1 zl2 zv3 zn4 n50 n60 s := by
  refine ⟨fun vs s => ∃ n5 n6, vs = [(.int .i64 n5), (.int .i64 n6)] ∧ I n5 n6 s, fun vs s => (match vs with | [.int _ n5, .int _ n6] => μ n5 n6 s | _ => 0), ⟨⟨⟨_, rfl⟩, ⟨⟨_, rfl⟩, trivial⟩⟩, ⟨_, _, rfl, h0⟩⟩, ?_⟩
  intro n5 n6 s hI j
  obtain ⟨n5', n6', hy, hI⟩ := hI
  have hI' : I n5 n6 s := by cases hy; exact hI
  have hh := hr n5 n6 s hI'
  rw [← B_slices_IndexFunc_int_int_0_eq W R zp0 zl1 zl2 zv3 zn4 n5 n6 _ j] at hh
  refine vc_mono ?_ _ _ hh
  exact KLoop_mono (fun vs s' h => by obtain ⟨n51, n61, rfl, h1, h2⟩ := h; exact ⟨⟨⟨_, rfl⟩, ⟨⟨_, rfl⟩, trivial⟩⟩, ⟨_, _, rfl, h1⟩, h2⟩)
def T_slices_IndexFunc_int_int (W : World) (x1 : Option Addr) (l2 : Nat) (c3 : Nat) (v4 : Value) (R : Ending → Hp → Prop) : Hp → Prop :=
 L_slices_IndexFunc_int_int_0 W R x1 l2 c3 v4 (↑l2 : Int) 0 0
theorem does_slices_IndexFunc_int_int (W : World) (x1 : Option Addr) (l2 : Nat) (c3 : Nat) (v4 : Value) (R : Ending → Hp → Prop) (s : Hp) (h : T_slices_IndexFunc_int_int W x1 l2 c3 v4 R s) : Does Pg W F_slices_IndexFunc_int_int #[(.slice x1 l2 c3), v4] s R :=
  does_of_vfun Pg W an_230 Tryz.func230 rfl (by kernel_rfl) (Eq.mpr (by kernel_rfl) h)
def an_231 : Nat → Ann := fun b => match b with
 | 0 => { ms := [4, 8], ks := [.i .i64, .i .i64], us := [0, 1, 7, 19], rt := false, ex := [] }
 | _ => {}
abbrev rv_231 : List ResultVar := [.tmp 4]
abbrev rs_231 : List Nat := [19, 4]
def L_slices_IndexFunc_api_Kin_api_Kin_0 (W : World) (R : Ending → Hp → Prop) (zp0 : Option Addr) (zl1 : Nat) (zl2 : Nat) (zv3 : Value) (zn4 : Int) (n5 : Int) (n6 : Int) : Hp → Prop :=
 LOOPN [.i .i64, .i .i64] (fun ys next s => ∀ j : Tm, vc Pg W 19 rs_231 an_231 false (sub (bodyOf Tryz.f231) [1, 0, 1, 0, 0]) 0 (KLoop [4, 8] [0, 1, 7, 19] [(.slice zp0 zl1 zl2), zv3, (.int .i64 zn4), (.tuple #[])] next (KBlk 0 (KS Pg W 19 rs_231 an_231 false (sub (bodyOf Tryz.f231) [1, 1]) 0 (fin Pg W 19 rv_231 R)))) (known [4, 8] ys (known [0, 1, 7, 19] [(.slice zp0 zl1 zl2), zv3, (.int .i64 zn4), (.tuple #[])] j)) s) [(.int .i64 n5), (.int .i64 n6)]
def B_slices_IndexFunc_api_Kin_api_Kin_0 (W : World) (R : Ending → Hp → Prop) (zp0 : Option Addr) (zl1 : Nat) (zl2 : Nat) (zv3 : Value) (zn4 : Int) (n5 : Int) (n6 : Int) (nx0 : List Value → Hp → Prop) : Hp → Prop :=
 BR (decide (n6 < zn4))
 (IXS zp0 zl1 n6 2 fun a7 =>
 RDI .i64 (Addr.add a7 0) fun n8 =>
 RDI .i64 (Addr.add a7 1) fun n9 =>
 CALLV Pg W zv3 [(.agg #[(.int .i64 n8), (.int .i64 n9)])]
 (fun v10 => TYB v10 fun b12 =>
 BR b12
 (R (.returned (.int .i64 n6)))
 (NX [(.slice zp0 zl1 zl2), zv3, (.int .i64 zn4), (.tuple #[])] [(.slice zp0 zl1 zl2), zv3, (.int .i64 zn4), (.tuple #[])] (nx0 [(.int .i64 n5), (.int .i64 (IntKind.wrap .i64 (n6 + 1)))])))
 (fun e11 => R (.panicked e11)))
 (R (.returned (.int .i64 (-1))))
theorem B_slices_IndexFunc_api_Kin_api_Kin_0_eq (W : World) (R : Ending → Hp → Prop) (zp0 : Option Addr) (zl1 : Nat) (zl2 : Nat) (zv3 : Value) (zn4 : Int) (n5 : Int) (n6 : Int) (nx0 : List Value → Hp → Prop) (j : Tm) : vc Pg W 19 rs_231 an_231 false (sub (bodyOf Tryz.f231) [1, 0, 1, 0, 0]) 0 (KLoop [4, 8] [0, 1, 7, 19] [(.slice zp0 zl1 zl2), zv3, (.int .i64 zn4), (.tuple #[])] nx0 (KBlk 0 (KS Pg W 19 rs_231 an_231 false (sub (bodyOf Tryz.f231) [1, 1]) 0 (fin Pg W 19 rv_231 R)))) (known [4, 8] [(.int .i64 n5), (.int .i64 n6)] (known [0, 1, 7, 19] [(.slice zp0 zl1 zl2), zv3, (.int .i64 zn4), (.tuple #[])] j)) = B_slices_IndexFunc_api_Kin_api_Kin_0 W R zp0 zl1 zl2 zv3 zn4 n5 n6 nx0 := by kernel_rfl
def N_slices_IndexFunc_api_Kin_api_Kin_0 (I : Int → Int → Hp → Prop) (μ : Int → Int → Hp → Nat) (n50 : Int) (n60 : Int) (s : Hp) (vs : List Value) : Hp → Prop := fun s' => ∃ n5 n6, vs = [(.int .i64 n5), (.int .i64 n6)] ∧ I n5 n6 s' ∧ μ n5 n6 s' < μ n50 n60 s
theorem L_slices_IndexFunc_api_Kin_api_Kin_0_rule (W : World) (R : Ending → Hp → Prop) (zp0 : Option Addr) (zl1 : Nat) (zl2 : Nat) (zv3 : Value) (zn4 : Int) (I : Int → Int → Hp → Prop) (μ : Int → Int → Hp → Nat) (n50 : Int) (n60 : Int) (s : Hp) (h0 : I n50 n60 s)
    (hr : ∀ (n5 : Int) (n6 : Int) (s : Hp), I n5 n6 s → B_slices_IndexFunc_api_Kin_api_Kin_0 W R zp0 zl1 zl2 zv3 zn4 n5 n6 (fun vs => N_slices_IndexFunc_api_Kin_api_Kin_0 I μ n5 n6 s vs) s) : L_slices_IndexFunc_api_Kin_api_Kin_0 W R zp0 zl1 zl2 zv3 zn4 n50 n60 s := by
  refine ⟨fun vs s => ∃ n5 n6, vs = [(.int .i64 n5), (.int .i64 n6)] ∧ I n5 n6 s, fun vs s => (match vs with | [.int _ n5, .int _ n6] => μ n5 n6 s | _ => 0), ⟨⟨⟨_, rfl⟩, ⟨⟨_, rfl⟩, trivial⟩⟩, ⟨_, _, rfl, h0⟩⟩, ?_⟩
  intro n5 n6 s hI j
  obtain ⟨n5', n6', hy, hI⟩ := hI
  have hI' : I n5 n6 s := by cases hy; exact hI
  have hh := hr n5 n6 s hI'
  rw [← B_slices_IndexFunc_api_Kin_api_Kin_0_eq W R zp0 zl1 zl2 zv3 zn4 n5 n6 _ j] at hh
  refine vc_mono ?_ _ _ hh
  exact KLoop_mono (fun vs s' h => by obtain ⟨n51, n61, rfl, h1, h2⟩ := h; exact ⟨⟨⟨_, rfl⟩, ⟨⟨_, rfl⟩, trivial⟩⟩, ⟨_, _, rfl, h1⟩, h2⟩)
def T_slices_IndexFunc_api_Kin_api_Kin (W : World) (x1 : Option Addr) (l2 : Nat) (c3 : Nat) (v4 : Value) (R : Ending → Hp → Prop) : Hp → Prop :=
 L_slices_IndexFunc_api_Kin_api_Kin_0 W R x1 l2 c3 v4 (↑l2 : Int) 0 0
theorem does_slices_IndexFunc_api_Kin_api_Kin (W : World) (x1 : Option Addr) (l2 : Nat) (c3 : Nat) (v4 : Value) (R : Ending → Hp → Prop) (s : Hp) (h : T_slices_IndexFunc_api_Kin_api_Kin W x1 l2 c3 v4 R s) : Does Pg W F_slices_IndexFunc_api_Kin_api_Kin #[(.slice x1 l2 c3), v4] s R :=
  does_of_vfun Pg W an_231 Tryz.func231 rfl (by kernel_rfl) (Eq.mpr (by kernel_rfl) h)
def an_243 : Nat → Ann := fun b => match b with
 | _ => {}
abbrev rv_243 : List ResultVar := [.tmp 4]
abbrev rs_243 : List Nat := [9, 4]
def T_slices_ContainsFunc_api_Claim_api_Claim (W : World) (x1 : Option Addr) (l2 : Nat) (c3 : Nat) (v4 : Value) (R : Ending → Hp → Prop) : Hp → Prop :=
 CALL Pg W F_slices_IndexFunc_api_Claim_api_Claim [(.slice x1 l2 c3), v4]
 (fun v5 => TYI .i64 v5 fun n7 =>
 R (.returned (.bool (decide (n7 ≥ 0)))))
 (fun e6 => R (.panicked e6))
theorem does_slices_ContainsFunc_api_Claim_api_Claim (W : World) (x1 : Option Addr) (l2 : Nat) (c3 : Nat) (v4 : Value) (R : Ending → Hp → Prop) (s : Hp) (h : T_slices_ContainsFunc_api_Claim_api_Claim W x1 l2 c3 v4 R s) : Does Pg W F_slices_ContainsFunc_api_Claim_api_Claim #[(.slice x1 l2 c3), v4] s R :=
  does_of_vfun Pg W an_243 Tryz.func243 rfl (by kernel_rfl) (Eq.mpr (by kernel_rfl) h)
def an_244 : Nat → Ann := fun b => match b with
 | _ => {}
abbrev rv_244 : List ResultVar := [.tmp 4]
abbrev rs_244 : List Nat := [9, 4]
def T_slices_ContainsFunc_api_Word_api_Word (W : World) (x1 : Option Addr) (l2 : Nat) (c3 : Nat) (v4 : Value) (R : Ending → Hp → Prop) : Hp → Prop :=
 CALL Pg W F_slices_IndexFunc_api_Word_api_Word [(.slice x1 l2 c3), v4]
 (fun v5 => TYI .i64 v5 fun n7 =>
 R (.returned (.bool (decide (n7 ≥ 0)))))
 (fun e6 => R (.panicked e6))
theorem does_slices_ContainsFunc_api_Word_api_Word (W : World) (x1 : Option Addr) (l2 : Nat) (c3 : Nat) (v4 : Value) (R : Ending → Hp → Prop) (s : Hp) (h : T_slices_ContainsFunc_api_Word_api_Word W x1 l2 c3 v4 R s) : Does Pg W F_slices_ContainsFunc_api_Word_api_Word #[(.slice x1 l2 c3), v4] s R :=
  does_of_vfun Pg W an_244 Tryz.func244 rfl (by kernel_rfl) (Eq.mpr (by kernel_rfl) h)
def an_246 : Nat → Ann := fun b => match b with
 | 0 => { ms := [4, 8], ks := [.i .i64, .i .i64], us := [0, 1, 7, 19], rt := false, ex := [] }
 | _ => {}
abbrev rv_246 : List ResultVar := [.tmp 4]
abbrev rs_246 : List Nat := [19, 4]
def L_slices_IndexFunc_api_Claim_api_Claim_0 (W : World) (R : Ending → Hp → Prop) (zp0 : Option Addr) (zl1 : Nat) (zl2 : Nat) (zv3 : Value) (zn4 : Int) (n5 : Int) (n6 : Int) : Hp → Prop :=
 LOOPN [.i .i64, .i .i64] (fun ys next s => ∀ j : Tm, vc Pg W 19 rs_246 an_246 false (sub (bodyOf Tryz.f246) [1, 0, 1, 0, 0]) 0 (KLoop [4, 8] [0, 1, 7, 19] [(.slice zp0 zl1 zl2), zv3, (.int .i64 zn4), (.tuple #[])] next (KBlk 0 (KS Pg W 19 rs_246 an_246 false (sub (bodyOf Tryz.f246) [1, 1]) 0 (fin Pg W 19 rv_246 R)))) (known [4, 8] ys (known [0, 1, 7, 19] [(.slice zp0 zl1 zl2), zv3, (.int .i64 zn4), (.tuple #[])] j)) s) [(.int .i64 n5), (.int .i64 n6)]
def B_slices_IndexFunc_api_Claim_api_Claim_0 (W : World) (R : Ending → Hp → Prop) (zp0 : Option Addr) (zl1 : Nat) (zl2 : Nat) (zv3 : Value) (zn4 : Int) (n5 : Int) (n6 : Int) (nx0 : List Value → Hp → Prop) : Hp → Prop :=
 BR (decide (n6 < zn4))
 (IXS zp0 zl1 n6 8 fun a7 =>
 RDI .i64 (Addr.add a7 0) fun n8 =>
 RDI .i64 (Addr.add a7 1) fun n9 =>
 RDB (Addr.add a7 2) fun b10 =>
 RDI .i64 (Addr.add a7 3) fun n11 =>
 RDB (Addr.add a7 4) fun b12 =>
 RDB (Addr.add a7 5) fun b13 =>
 RDI .i64 (Addr.add a7 6) fun n14 =>
 RDB (Addr.add a7 7) fun b15 =>
 CALLV Pg W zv3 [(.agg #[(.int .i64 n8), (.int .i64 n9), (.bool b10), (.int .i64 n11), (.bool b12), (.bool b13), (.int .i64 n14), (.bool b15)])]
 (fun v16 => TYB v16 fun b18 =>
 BR b18
 (R (.returned (.int .i64 n6)))
 (NX [(.slice zp0 zl1 zl2), zv3, (.int .i64 zn4), (.tuple #[])] [(.slice zp0 zl1 zl2), zv3, (.int .i64 zn4), (.tuple #[])] (nx0 [(.int .i64 n5), (.int .i64 (IntKind.wrap .i64 (n6 + 1)))])))
 (fun e17 => R (.panicked e17)))
 (R (.returned (.int .i64 (-1))))
theorem B_slices_IndexFunc_api_Claim_api_Claim_0_eq (W : World) (R : Ending → Hp → Prop) (zp0 : Option Addr) (zl1 : Nat) (zl2 : Nat) (zv3 : Value) (zn4 : Int) (n5 : Int) (n6 : Int) (nx0 : List Value → Hp → Prop) (j : Tm) : vc Pg W 19 rs_246 an_246 false (sub (bodyOf Tryz.f246) [1, 0, 1, 0, 0]) 0 (KLoop [4, 8] [0, 1, 7, 19] [(.slice zp0 zl1 zl2), zv3, (.int .i64 zn4), (.tuple #[])] nx0 (KBlk 0 (KS Pg W 19 rs_246 an_246 false (sub (bodyOf Tryz.f246) [1, 1]) 0 (fin Pg W 19 rv_246 R)))) (known [4, 8] [(.int .i64 n5), (.int .i64 n6)] (known [0, 1, 7, 19] [(.slice zp0 zl1 zl2), zv3, (.int .i64 zn4), (.tuple #[])] j)) = B_slices_IndexFunc_api_Claim_api_Claim_0 W R zp0 zl1 zl2 zv3 zn4 n5 n6 nx0 := by kernel_rfl
def N_slices_IndexFunc_api_Claim_api_Claim_0 (I : Int → Int → Hp → Prop) (μ : Int → Int → Hp → Nat) (n50 : Int) (n60 : Int) (s : Hp) (vs : List Value) : Hp → Prop := fun s' => ∃ n5 n6, vs = [(.int .i64 n5), (.int .i64 n6)] ∧ I n5 n6 s' ∧ μ n5 n6 s' < μ n50 n60 s
theorem L_slices_IndexFunc_api_Claim_api_Claim_0_rule (W : World) (R : Ending → Hp → Prop) (zp0 : Option Addr) (zl1 : Nat) (zl2 : Nat) (zv3 : Value) (zn4 : Int) (I : Int → Int → Hp → Prop) (μ : Int → Int → Hp → Nat) (n50 : Int) (n60 : Int) (s : Hp) (h0 : I n50 n60 s)
    (hr : ∀ (n5 : Int) (n6 : Int) (s : Hp), I n5 n6 s → B_slices_IndexFunc_api_Claim_api_Claim_0 W R zp0 zl1 zl2 zv3 zn4 n5 n6 (fun vs => N_slices_IndexFunc_api_Claim_api_Claim_0 I μ n5 n6 s vs) s) : L_slices_IndexFunc_api_Claim_api_Claim_0 W R zp0 zl1 zl2 zv3 zn4 n50 n60 s := by
  refine ⟨fun vs s => ∃ n5 n6, vs = [(.int .i64 n5), (.int .i64 n6)] ∧ I n5 n6 s, fun vs s => (match vs with | [.int _ n5, .int _ n6] => μ n5 n6 s | _ => 0), ⟨⟨⟨_, rfl⟩, ⟨⟨_, rfl⟩, trivial⟩⟩, ⟨_, _, rfl, h0⟩⟩, ?_⟩
  intro n5 n6 s hI j
  obtain ⟨n5', n6', hy, hI⟩ := hI
  have hI' : I n5 n6 s := by cases hy; exact hI
  have hh := hr n5 n6 s hI'
  rw [← B_slices_IndexFunc_api_Claim_api_Claim_0_eq W R zp0 zl1 zl2 zv3 zn4 n5 n6 _ j] at hh
  refine vc_mono ?_ _ _ hh
  exact KLoop_mono (fun vs s' h => by obtain ⟨n51, n61, rfl, h1, h2⟩ := h; exact ⟨⟨⟨_, rfl⟩, ⟨⟨_, rfl⟩, trivial⟩⟩, ⟨_, _, rfl, h1⟩, h2⟩)
def T_slices_IndexFunc_api_Claim_api_Claim (W : World) (x1 : Option Addr) (l2 : Nat) (c3 : Nat) (v4 : Value) (R : Ending → Hp → Prop) : Hp → Prop :=
 L_slices_IndexFunc_api_Claim_api_Claim_0 W R x1 l2 c3 v4 (↑l2 : Int) 0 0
theorem does_slices_IndexFunc_api_Claim_api_Claim (W : World) (x1 : Option Addr) (l2 : Nat) (c3 : Nat) (v4 : Value) (R : Ending → Hp → Prop) (s : Hp) (h : T_slices_IndexFunc_api_Claim_api_Claim W x1 l2 c3 v4 R s) : Does Pg W F_slices_IndexFunc_api_Claim_api_Claim #[(.slice x1 l2 c3), v4] s R :=
  does_of_vfun Pg W an_246 Tryz.func246 rfl (by kernel_rfl) (Eq.mpr (by kernel_rfl) h)
def an_247 : Nat → Ann := fun b => match b with
 | 0 => { ms := [4, 8], ks := [.i .i64, .i .i64], us := [0, 1, 7, 19], rt := false, ex := [] }
 | _ => {}
abbrev rv_247 : List ResultVar := [.tmp 4]
abbrev rs_247 : List Nat := [19, 4]
def L_slices_IndexFunc_api_Word_api_Word_0 (W : World) (R : Ending → Hp → Prop) (zp0 : Option Addr) (zl1 : Nat) (zl2 : Nat) (zv3 : Value) (zn4 : Int) (n5 : Int) (n6 : Int) : Hp → Prop :=
 LOOPN [.i .i64, .i .i64] (fun ys next s => ∀ j : Tm, vc Pg W 19 rs_247 an_247 false (sub (bodyOf Tryz.f247) [1, 0, 1, 0, 0]) 0 (KLoop [4, 8] [0, 1, 7, 19] [(.slice zp0 zl1 zl2), zv3, (.int .i64 zn4), (.tuple #[])] next (KBlk 0 (KS Pg W 19 rs_247 an_247 false (sub (bodyOf Tryz.f247) [1, 1]) 0 (fin Pg W 19 rv_247 R)))) (known [4, 8] ys (known [0, 1, 7, 19] [(.slice zp0 zl1 zl2), zv3, (.int .i64 zn4), (.tuple #[])] j)) s) [(.int .i64 n5), (.int .i64 n6)]
def B_slices_IndexFunc_api_Word_api_Word_0 (W : World) (R : Ending → Hp → Prop) (zp0 : Option Addr) (zl1 : Nat) (zl2 : Nat) (zv3 : Value) (zn4 : Int) (n5 : Int) (n6 : Int) (nx0 : List Value → Hp → Prop) : Hp → Prop :=
 BR (decide (n6 < zn4))
 (IXS zp0 zl1 n6 3 fun a7 =>
 RDB (Addr.add a7 0) fun b8 =>
 RDI .i64 (Addr.add a7 1) fun n9 =>
 RDB (Addr.add a7 2) fun b10 =>
 CALLV Pg W zv3 [(.agg #[(.bool b8), (.int .i64 n9), (.bool b10)])]
 (fun v11 => TYB v11 fun b13 =>
 BR b13
 (R (.returned (.int .i64 n6)))
 (NX [(.slice zp0 zl1 zl2), zv3, (.int .i64 zn4), (.tuple #[])] [(.slice zp0 zl1 zl2), zv3, (.int .i64 zn4), (.tuple #[])] (nx0 [(.int .i64 n5), (.int .i64 (IntKind.wrap .i64 (n6 + 1)))])))
 (fun e12 => R (.panicked e12)))
 (R (.returned (.int .i64 (-1))))
theorem B_slices_IndexFunc_api_Word_api_Word_0_eq (W : World) (R : Ending → Hp → Prop) (zp0 : Option Addr) (zl1 : Nat) (zl2 : Nat) (zv3 : Value) (zn4 : Int) (n5 : Int) (n6 : Int) (nx0 : List Value → Hp → Prop) (j : Tm) : vc Pg W 19 rs_247 an_247 false (sub (bodyOf Tryz.f247) [1, 0, 1, 0, 0]) 0 (KLoop [4, 8] [0, 1, 7, 19] [(.slice zp0 zl1 zl2), zv3, (.int .i64 zn4), (.tuple #[])] nx0 (KBlk 0 (KS Pg W 19 rs_247 an_247 false (sub (bodyOf Tryz.f247) [1, 1]) 0 (fin Pg W 19 rv_247 R)))) (known [4, 8] [(.int .i64 n5), (.int .i64 n6)] (known [0, 1, 7, 19] [(.slice zp0 zl1 zl2), zv3, (.int .i64 zn4), (.tuple #[])] j)) = B_slices_IndexFunc_api_Word_api_Word_0 W R zp0 zl1 zl2 zv3 zn4 n5 n6 nx0 := by kernel_rfl
def N_slices_IndexFunc_api_Word_api_Word_0 (I : Int → Int → Hp → Prop) (μ : Int → Int → Hp → Nat) (n50 : Int) (n60 : Int) (s : Hp) (vs : List Value) : Hp → Prop := fun s' => ∃ n5 n6, vs = [(.int .i64 n5), (.int .i64 n6)] ∧ I n5 n6 s' ∧ μ n5 n6 s' < μ n50 n60 s
theorem L_slices_IndexFunc_api_Word_api_Word_0_rule (W : World) (R : Ending → Hp → Prop) (zp0 : Option Addr) (zl1 : Nat) (zl2 : Nat) (zv3 : Value) (zn4 : Int) (I : Int → Int → Hp → Prop) (μ : Int → Int → Hp → Nat) (n50 : Int) (n60 : Int) (s : Hp) (h0 : I n50 n60 s)
    (hr : ∀ (n5 : Int) (n6 : Int) (s : Hp), I n5 n6 s → B_slices_IndexFunc_api_Word_api_Word_0 W R zp0 zl1 zl2 zv3 zn4 n5 n6 (fun vs => N_slices_IndexFunc_api_Word_api_Word_0 I μ n5 n6 s vs) s) : L_slices_IndexFunc_api_Word_api_Word_0 W R zp0 zl1 zl2 zv3 zn4 n50 n60 s := by
  refine ⟨fun vs s => ∃ n5 n6, vs = [(.int .i64 n5), (.int .i64 n6)] ∧ I n5 n6 s, fun vs s => (match vs with | [.int _ n5, .int _ n6] => μ n5 n6 s | _ => 0), ⟨⟨⟨_, rfl⟩, ⟨⟨_, rfl⟩, trivial⟩⟩, ⟨_, _, rfl, h0⟩⟩, ?_⟩
  intro n5 n6 s hI j
  obtain ⟨n5', n6', hy, hI⟩ := hI
  have hI' : I n5 n6 s := by cases hy; exact hI
  have hh := hr n5 n6 s hI'
  rw [← B_slices_IndexFunc_api_Word_api_Word_0_eq W R zp0 zl1 zl2 zv3 zn4 n5 n6 _ j] at hh
  refine vc_mono ?_ _ _ hh
  exact KLoop_mono (fun vs s' h => by obtain ⟨n51, n61, rfl, h1, h2⟩ := h; exact ⟨⟨⟨_, rfl⟩, ⟨⟨_, rfl⟩, trivial⟩⟩, ⟨_, _, rfl, h1⟩, h2⟩)
def T_slices_IndexFunc_api_Word_api_Word (W : World) (x1 : Option Addr) (l2 : Nat) (c3 : Nat) (v4 : Value) (R : Ending → Hp → Prop) : Hp → Prop :=
 L_slices_IndexFunc_api_Word_api_Word_0 W R x1 l2 c3 v4 (↑l2 : Int) 0 0
theorem does_slices_IndexFunc_api_Word_api_Word (W : World) (x1 : Option Addr) (l2 : Nat) (c3 : Nat) (v4 : Value) (R : Ending → Hp → Prop) (s : Hp) (h : T_slices_IndexFunc_api_Word_api_Word W x1 l2 c3 v4 R s) : Does Pg W F_slices_IndexFunc_api_Word_api_Word #[(.slice x1 l2 c3), v4] s R :=
  does_of_vfun Pg W an_247 Tryz.func247 rfl (by kernel_rfl) (Eq.mpr (by kernel_rfl) h)
end Go.Proofs.YtcjgbanpkmpekaaGreatDoor.G

/- Searches of lists of things. PRINTED BY gle.py (own). -/
set_option linter.unusedVariables false
set_option linter.unusedSimpArgs false
set_option maxRecDepth 20000
namespace Go.Proofs.YtcjgbanpkmpekaaGreatDoor.G
open Go.V
theorem flat_len {α β : Type} {f : α → List β} {M : Nat} : ∀ (l : List α), (∀ x ∈ l, (f x).length = M) → (l.flatMap f).length = l.length * M
  | [], _ => by simp
  | x :: l, h => by
    rw [List.flatMap_cons, List.length_append, h x (by simp), flat_len l (fun y hy => h y (by simp [hy])), List.length_cons, Nat.add_mul]
    omega
theorem flat_get {α β : Type} {f : α → List β} {M : Nat} : ∀ (l : List α), (∀ x ∈ l, (f x).length = M) → ∀ (i : Nat) (hi : i < l.length) (t : Nat), t < M → (l.flatMap f)[i * M + t]? = (f l[i])[t]?
  | [], _, i, hi, _, _ => by simp at hi
  | x :: l, h, 0, _, t, ht => by
    have hx := h x (by simp)
    rw [List.flatMap_cons, Nat.zero_mul, Nat.zero_add, List.getElem?_append_left (by omega)]
    rfl
  | x :: l, h, i + 1, hi, t, ht => by
    have hx := h x (by simp)
    have e : (i + 1) * M + t = M + (i * M + t) := by rw [Nat.add_mul]; omega
    rw [List.flatMap_cons, List.getElem?_append_right (by omega), hx, e, Nat.add_sub_cancel_left, flat_get l (fun y hy => h y (by simp [hy])) i (by simpa using hi) t ht]
    rfl
/-- Rows of things of several cells. -/
theorem rowF {α : Type} {f : α → List Value} {M : Nat} (hf : ∀ x, (f x).length = M) {s : Hp} {x : Option Addr} {l : List α} (h : RowAt s x (l.flatMap f)) (i : Nat) (hi : i < l.length) (hM : 0 < M) : ∃ a, x = some a ∧ ∀ t (ht : t < M), cellAt s ((a.add (i * M)).add t) = some ((f l[i])[t]'(by rw [hf]; exact ht)) := by
  have hl : (l.flatMap f).length = l.length * M := flat_len l fun x _ => hf x
  have hlt : ∀ t, t < M → i * M + t < (l.flatMap f).length := fun t ht => by
    rw [hl]
    have : (i + 1) * M ≤ l.length * M := Nat.mul_le_mul_right _ hi
    rw [Nat.add_mul] at this
    omega
  obtain ⟨a, ha, _⟩ := h (i * M) (by have := hlt 0 hM; omega)
  refine ⟨a, ha, fun t ht => ?_⟩
  obtain ⟨b, hb, hcell⟩ := h (i * M + t) (hlt t ht)
  rw [ha] at hb; cases hb
  have hg := flat_get (M := M) (f := f) l (fun x _ => hf x) i hi t ht
  rw [List.getElem?_eq_getElem (hlt t ht), List.getElem?_eq_getElem (by rw [hf]; exact ht)] at hg
  rw [Nat.mul_one] at hcell
  rw [addr_add, hcell]
  exact hg
def q4V (q : Q4) : List Value := [.int .i64 q.a, .int .i64 q.b, .int .i64 q.c, .int .i64 q.d]
def kinV (k : Int × Int) : List Value := [.int .i64 k.1, .int .i64 k.2]
def wd3 (w : Wd) : List Value := [.bool w.per, .int .i64 w.num, .bool w.nt]
def cl8 (c : Cl) : List Value := [.int .i64 c.wit, .int .i64 c.knd, .bool c.a.per, .int .i64 c.a.num, .bool c.a.nt, .bool c.b.per, .int .i64 c.b.num, .bool c.b.nt]
def in1 (n : Int) : List Value := [.int .i64 n]
theorem ints_flat (l : List Int) : ints l = l.flatMap in1 := by
  induction l with
  | nil => rfl
  | cons a l ih => rw [List.flatMap_cons, ← ih]; rfl
theorem any_take {α : Type} {f : α → Bool} {l : List α} {k : Nat} (hk : k < l.length) (h : (l.take k).any f = false) : (l.take (k + 1)).any f = f l[k] := by
  rw [List.take_add_one, List.getElem?_eq_getElem hk, List.any_append, h]
  simp
theorem any_hit {α : Type} {f : α → Bool} {l : List α} {k : Nat} (hk : k < l.length) (h : f l[k] = true) : l.any f = true := List.any_eq_true.2 ⟨_, List.getElem_mem hk, h⟩
theorem dec_nn (k : Nat) : decide ((k : Int) ≥ 0) = true := decide_eq_true (Int.natCast_nonneg k)
section
variable {W : World} {K : VK} {E : List PanicEntry → Hp → Prop} {s : Hp} {x : Option Addr} {c : Nat} {v : Value}
theorem has_post {l : List Q4} {bad : Q4 → Bool} (hl : l.length ≤ 1000000) (hrow : RowAt s x (l.flatMap q4V)) (hf : ∀ e ∈ l, ∀ (s1 : Hp) (K : VK) (E : List PanicEntry → Hp → Prop), Ext s s1 → (∀ s2, Ext s1 s2 → K (.bool (bad e)) s2) → CALLV Pg W v [.agg #[.int .i64 e.a, .int .i64 e.b, .int .i64 e.c, .int .i64 e.d]] K E s1)
    (hk : ∀ s', Ext s s' → K (.bool (l.any bad)) s') : CALL Pg W F_slices_ContainsFunc_api_Post_api_Post [.slice x l.length c, v] K E s := by
  refine does_slices_ContainsFunc_api_Post_api_Post W x l.length c v _ s ?_
  unfold T_slices_ContainsFunc_api_Post_api_Post
  refine does_slices_IndexFunc_api_Post_api_Post W x l.length c v _ s ?_
  unfold T_slices_IndexFunc_api_Post_api_Post
  refine L_slices_IndexFunc_api_Post_api_Post_0_rule W _ x l.length c v (l.length : Int) (fun n5 n6 s' => ∃ k : Nat, n6 = (k : Int) ∧ k ≤ l.length ∧ Ext s s' ∧ (l.take k).any bad = false) (fun n5 n6 s' => l.length - n6.toNat) _ _ s ⟨0, rfl, by omega, Ext.refl s, by simp⟩ ?_
  rintro n5 n6 s1 ⟨k, rfl, hk1, e1, hb⟩
  unfold B_slices_IndexFunc_api_Post_api_Post_0
  refine BR_dec (fun hlt => ?_) (fun hge => ?_)
  · have hkl : k < l.length := by omega
    obtain ⟨a, ha, hc⟩ := rowF (f := q4V) (M := 4) (fun _ => rfl) hrow k hkl (by omega)
    subst ha
    refine IXS_nat hkl ?_
    refine ⟨_, e1.cell (hc 0 (by omega)), _, e1.cell (hc 1 (by omega)), _, e1.cell (hc 2 (by omega)), _, e1.cell (hc 3 (by omega)), ?_⟩
    refine hf l[k] (List.getElem_mem hkl) s1 _ _ e1 fun s2 e2 => ?_
    try simp only [TUP_mk, AGG_mk, HD_mk, NL_mk, TYI_mk, TYB_mk, TYP_mk, TYL_mk, TYS_mk, TYM_mk, SO_mk, NX_mk, endK_mk, endK_mk', add_0]
    refine BR_bool (fun ht => ?_) (fun ht => ?_)
    · try simp only [TUP_mk, AGG_mk, HD_mk, NL_mk, TYI_mk, TYB_mk, TYP_mk, TYL_mk, TYS_mk, TYM_mk, SO_mk, NX_mk, endK_mk, endK_mk', add_0]
      have := hk s2 (e1.trans e2)
      rw [any_hit hkl ht] at this
      rw [dec_nn]
      exact this
    · try simp only [TUP_mk, AGG_mk, HD_mk, NL_mk, TYI_mk, TYB_mk, TYP_mk, TYL_mk, TYS_mk, TYM_mk, SO_mk, NX_mk, endK_mk, endK_mk', add_0]
      have hw : IntKind.wrap .i64 ((k : Int) + 1) = ((k + 1 : Nat) : Int) := by rw [wrap_i64 (by omega) (by omega)]; omega
      refine ⟨_, _, rfl, ⟨k + 1, hw, by omega, e1.trans e2, by rw [any_take hkl hb, ht]⟩, ?_⟩
      show l.length - (IntKind.wrap .i64 ((k : Int) + 1)).toNat < l.length - ((k : Nat) : Int).toNat
      rw [hw]; omega
  · have hkl : k = l.length := by omega
    subst hkl
    rw [List.take_length] at hb
    try simp only [TUP_mk, AGG_mk, HD_mk, NL_mk, TYI_mk, TYB_mk, TYP_mk, TYL_mk, TYS_mk, TYM_mk, SO_mk, NX_mk, endK_mk, endK_mk', add_0]
    have := hk s1 e1
    rw [hb] at this
    exact this
theorem has_len {l : List Q4} {bad : Q4 → Bool} (hl : l.length ≤ 1000000) (hrow : RowAt s x (l.flatMap q4V)) (hf : ∀ e ∈ l, ∀ (s1 : Hp) (K : VK) (E : List PanicEntry → Hp → Prop), Ext s s1 → (∀ s2, Ext s1 s2 → K (.bool (bad e)) s2) → CALLV Pg W v [.agg #[.int .i64 e.a, .int .i64 e.b, .int .i64 e.c, .int .i64 e.d]] K E s1)
    (hk : ∀ s', Ext s s' → K (.bool (l.any bad)) s') : CALL Pg W F_slices_ContainsFunc_api_Length_api_Length [.slice x l.length c, v] K E s := by
  refine does_slices_ContainsFunc_api_Length_api_Length W x l.length c v _ s ?_
  unfold T_slices_ContainsFunc_api_Length_api_Length
  refine does_slices_IndexFunc_api_Length_api_Length W x l.length c v _ s ?_
  unfold T_slices_IndexFunc_api_Length_api_Length
  refine L_slices_IndexFunc_api_Length_api_Length_0_rule W _ x l.length c v (l.length : Int) (fun n5 n6 s' => ∃ k : Nat, n6 = (k : Int) ∧ k ≤ l.length ∧ Ext s s' ∧ (l.take k).any bad = false) (fun n5 n6 s' => l.length - n6.toNat) _ _ s ⟨0, rfl, by omega, Ext.refl s, by simp⟩ ?_
  rintro n5 n6 s1 ⟨k, rfl, hk1, e1, hb⟩
  unfold B_slices_IndexFunc_api_Length_api_Length_0
  refine BR_dec (fun hlt => ?_) (fun hge => ?_)
  · have hkl : k < l.length := by omega
    obtain ⟨a, ha, hc⟩ := rowF (f := q4V) (M := 4) (fun _ => rfl) hrow k hkl (by omega)
    subst ha
    refine IXS_nat hkl ?_
    refine ⟨_, e1.cell (hc 0 (by omega)), _, e1.cell (hc 1 (by omega)), _, e1.cell (hc 2 (by omega)), _, e1.cell (hc 3 (by omega)), ?_⟩
    refine hf l[k] (List.getElem_mem hkl) s1 _ _ e1 fun s2 e2 => ?_
    try simp only [TUP_mk, AGG_mk, HD_mk, NL_mk, TYI_mk, TYB_mk, TYP_mk, TYL_mk, TYS_mk, TYM_mk, SO_mk, NX_mk, endK_mk, endK_mk', add_0]
    refine BR_bool (fun ht => ?_) (fun ht => ?_)
    · try simp only [TUP_mk, AGG_mk, HD_mk, NL_mk, TYI_mk, TYB_mk, TYP_mk, TYL_mk, TYS_mk, TYM_mk, SO_mk, NX_mk, endK_mk, endK_mk', add_0]
      have := hk s2 (e1.trans e2)
      rw [any_hit hkl ht] at this
      rw [dec_nn]
      exact this
    · try simp only [TUP_mk, AGG_mk, HD_mk, NL_mk, TYI_mk, TYB_mk, TYP_mk, TYL_mk, TYS_mk, TYM_mk, SO_mk, NX_mk, endK_mk, endK_mk', add_0]
      have hw : IntKind.wrap .i64 ((k : Int) + 1) = ((k + 1 : Nat) : Int) := by rw [wrap_i64 (by omega) (by omega)]; omega
      refine ⟨_, _, rfl, ⟨k + 1, hw, by omega, e1.trans e2, by rw [any_take hkl hb, ht]⟩, ?_⟩
      show l.length - (IntKind.wrap .i64 ((k : Int) + 1)).toNat < l.length - ((k : Nat) : Int).toNat
      rw [hw]; omega
  · have hkl : k = l.length := by omega
    subst hkl
    rw [List.take_length] at hb
    try simp only [TUP_mk, AGG_mk, HD_mk, NL_mk, TYI_mk, TYB_mk, TYP_mk, TYL_mk, TYS_mk, TYM_mk, SO_mk, NX_mk, endK_mk, endK_mk', add_0]
    have := hk s1 e1
    rw [hb] at this
    exact this
theorem has_int {l : List Int} {bad : Int → Bool} (hl : l.length ≤ 1000000) (hrow : RowAt s x (l.flatMap in1)) (hf : ∀ e ∈ l, ∀ (s1 : Hp) (K : VK) (E : List PanicEntry → Hp → Prop), Ext s s1 → (∀ s2, Ext s1 s2 → K (.bool (bad e)) s2) → CALLV Pg W v [.int .i64 e] K E s1)
    (hk : ∀ s', Ext s s' → K (.bool (l.any bad)) s') : CALL Pg W F_slices_ContainsFunc_int_int [.slice x l.length c, v] K E s := by
  refine does_slices_ContainsFunc_int_int W x l.length c v _ s ?_
  unfold T_slices_ContainsFunc_int_int
  refine does_slices_IndexFunc_int_int W x l.length c v _ s ?_
  unfold T_slices_IndexFunc_int_int
  refine L_slices_IndexFunc_int_int_0_rule W _ x l.length c v (l.length : Int) (fun n5 n6 s' => ∃ k : Nat, n6 = (k : Int) ∧ k ≤ l.length ∧ Ext s s' ∧ (l.take k).any bad = false) (fun n5 n6 s' => l.length - n6.toNat) _ _ s ⟨0, rfl, by omega, Ext.refl s, by simp⟩ ?_
  rintro n5 n6 s1 ⟨k, rfl, hk1, e1, hb⟩
  unfold B_slices_IndexFunc_int_int_0
  refine BR_dec (fun hlt => ?_) (fun hge => ?_)
  · have hkl : k < l.length := by omega
    obtain ⟨a, ha, hc⟩ := rowF (f := in1) (M := 1) (fun _ => rfl) hrow k hkl (by omega)
    subst ha
    refine IXS_nat hkl ?_
    refine ⟨_, e1.cell (hc 0 (by omega)), ?_⟩
    refine hf l[k] (List.getElem_mem hkl) s1 _ _ e1 fun s2 e2 => ?_
    try simp only [TUP_mk, AGG_mk, HD_mk, NL_mk, TYI_mk, TYB_mk, TYP_mk, TYL_mk, TYS_mk, TYM_mk, SO_mk, NX_mk, endK_mk, endK_mk', add_0]
    refine BR_bool (fun ht => ?_) (fun ht => ?_)
    · try simp only [TUP_mk, AGG_mk, HD_mk, NL_mk, TYI_mk, TYB_mk, TYP_mk, TYL_mk, TYS_mk, TYM_mk, SO_mk, NX_mk, endK_mk, endK_mk', add_0]
      have := hk s2 (e1.trans e2)
      rw [any_hit hkl ht] at this
      rw [dec_nn]
      exact this
    · try simp only [TUP_mk, AGG_mk, HD_mk, NL_mk, TYI_mk, TYB_mk, TYP_mk, TYL_mk, TYS_mk, TYM_mk, SO_mk, NX_mk, endK_mk, endK_mk', add_0]
      have hw : IntKind.wrap .i64 ((k : Int) + 1) = ((k + 1 : Nat) : Int) := by rw [wrap_i64 (by omega) (by omega)]; omega
      refine ⟨_, _, rfl, ⟨k + 1, hw, by omega, e1.trans e2, by rw [any_take hkl hb, ht]⟩, ?_⟩
      show l.length - (IntKind.wrap .i64 ((k : Int) + 1)).toNat < l.length - ((k : Nat) : Int).toNat
      rw [hw]; omega
  · have hkl : k = l.length := by omega
    subst hkl
    rw [List.take_length] at hb
    try simp only [TUP_mk, AGG_mk, HD_mk, NL_mk, TYI_mk, TYB_mk, TYP_mk, TYL_mk, TYS_mk, TYM_mk, SO_mk, NX_mk, endK_mk, endK_mk', add_0]
    have := hk s1 e1
    rw [hb] at this
    exact this
theorem has_kin {l : List (Int × Int)} {bad : (Int × Int) → Bool} (hl : l.length ≤ 1000000) (hrow : RowAt s x (l.flatMap kinV)) (hf : ∀ e ∈ l, ∀ (s1 : Hp) (K : VK) (E : List PanicEntry → Hp → Prop), Ext s s1 → (∀ s2, Ext s1 s2 → K (.bool (bad e)) s2) → CALLV Pg W v [.agg #[.int .i64 e.1, .int .i64 e.2]] K E s1)
    (hk : ∀ s', Ext s s' → K (.bool (l.any bad)) s') : CALL Pg W F_slices_ContainsFunc_api_Kin_api_Kin [.slice x l.length c, v] K E s := by
  refine does_slices_ContainsFunc_api_Kin_api_Kin W x l.length c v _ s ?_
  unfold T_slices_ContainsFunc_api_Kin_api_Kin
  refine does_slices_IndexFunc_api_Kin_api_Kin W x l.length c v _ s ?_
  unfold T_slices_IndexFunc_api_Kin_api_Kin
  refine L_slices_IndexFunc_api_Kin_api_Kin_0_rule W _ x l.length c v (l.length : Int) (fun n5 n6 s' => ∃ k : Nat, n6 = (k : Int) ∧ k ≤ l.length ∧ Ext s s' ∧ (l.take k).any bad = false) (fun n5 n6 s' => l.length - n6.toNat) _ _ s ⟨0, rfl, by omega, Ext.refl s, by simp⟩ ?_
  rintro n5 n6 s1 ⟨k, rfl, hk1, e1, hb⟩
  unfold B_slices_IndexFunc_api_Kin_api_Kin_0
  refine BR_dec (fun hlt => ?_) (fun hge => ?_)
  · have hkl : k < l.length := by omega
    obtain ⟨a, ha, hc⟩ := rowF (f := kinV) (M := 2) (fun _ => rfl) hrow k hkl (by omega)
    subst ha
    refine IXS_nat hkl ?_
    refine ⟨_, e1.cell (hc 0 (by omega)), _, e1.cell (hc 1 (by omega)), ?_⟩
    refine hf l[k] (List.getElem_mem hkl) s1 _ _ e1 fun s2 e2 => ?_
    try simp only [TUP_mk, AGG_mk, HD_mk, NL_mk, TYI_mk, TYB_mk, TYP_mk, TYL_mk, TYS_mk, TYM_mk, SO_mk, NX_mk, endK_mk, endK_mk', add_0]
    refine BR_bool (fun ht => ?_) (fun ht => ?_)
    · try simp only [TUP_mk, AGG_mk, HD_mk, NL_mk, TYI_mk, TYB_mk, TYP_mk, TYL_mk, TYS_mk, TYM_mk, SO_mk, NX_mk, endK_mk, endK_mk', add_0]
      have := hk s2 (e1.trans e2)
      rw [any_hit hkl ht] at this
      rw [dec_nn]
      exact this
    · try simp only [TUP_mk, AGG_mk, HD_mk, NL_mk, TYI_mk, TYB_mk, TYP_mk, TYL_mk, TYS_mk, TYM_mk, SO_mk, NX_mk, endK_mk, endK_mk', add_0]
      have hw : IntKind.wrap .i64 ((k : Int) + 1) = ((k + 1 : Nat) : Int) := by rw [wrap_i64 (by omega) (by omega)]; omega
      refine ⟨_, _, rfl, ⟨k + 1, hw, by omega, e1.trans e2, by rw [any_take hkl hb, ht]⟩, ?_⟩
      show l.length - (IntKind.wrap .i64 ((k : Int) + 1)).toNat < l.length - ((k : Nat) : Int).toNat
      rw [hw]; omega
  · have hkl : k = l.length := by omega
    subst hkl
    rw [List.take_length] at hb
    try simp only [TUP_mk, AGG_mk, HD_mk, NL_mk, TYI_mk, TYB_mk, TYP_mk, TYL_mk, TYS_mk, TYM_mk, SO_mk, NX_mk, endK_mk, endK_mk', add_0]
    have := hk s1 e1
    rw [hb] at this
    exact this
theorem has_claim {l : List Cl} {bad : Cl → Bool} (hl : l.length ≤ 1000000) (hrow : RowAt s x (l.flatMap cl8)) (hf : ∀ e ∈ l, ∀ (s1 : Hp) (K : VK) (E : List PanicEntry → Hp → Prop), Ext s s1 → (∀ s2, Ext s1 s2 → K (.bool (bad e)) s2) → CALLV Pg W v [.agg #[.int .i64 e.wit, .int .i64 e.knd, .bool e.a.per, .int .i64 e.a.num, .bool e.a.nt, .bool e.b.per, .int .i64 e.b.num, .bool e.b.nt]] K E s1)
    (hk : ∀ s', Ext s s' → K (.bool (l.any bad)) s') : CALL Pg W F_slices_ContainsFunc_api_Claim_api_Claim [.slice x l.length c, v] K E s := by
  refine does_slices_ContainsFunc_api_Claim_api_Claim W x l.length c v _ s ?_
  unfold T_slices_ContainsFunc_api_Claim_api_Claim
  refine does_slices_IndexFunc_api_Claim_api_Claim W x l.length c v _ s ?_
  unfold T_slices_IndexFunc_api_Claim_api_Claim
  refine L_slices_IndexFunc_api_Claim_api_Claim_0_rule W _ x l.length c v (l.length : Int) (fun n5 n6 s' => ∃ k : Nat, n6 = (k : Int) ∧ k ≤ l.length ∧ Ext s s' ∧ (l.take k).any bad = false) (fun n5 n6 s' => l.length - n6.toNat) _ _ s ⟨0, rfl, by omega, Ext.refl s, by simp⟩ ?_
  rintro n5 n6 s1 ⟨k, rfl, hk1, e1, hb⟩
  unfold B_slices_IndexFunc_api_Claim_api_Claim_0
  refine BR_dec (fun hlt => ?_) (fun hge => ?_)
  · have hkl : k < l.length := by omega
    obtain ⟨a, ha, hc⟩ := rowF (f := cl8) (M := 8) (fun _ => rfl) hrow k hkl (by omega)
    subst ha
    refine IXS_nat hkl ?_
    refine ⟨_, e1.cell (hc 0 (by omega)), _, e1.cell (hc 1 (by omega)), _, e1.cell (hc 2 (by omega)), _, e1.cell (hc 3 (by omega)), _, e1.cell (hc 4 (by omega)), _, e1.cell (hc 5 (by omega)), _, e1.cell (hc 6 (by omega)), _, e1.cell (hc 7 (by omega)), ?_⟩
    refine hf l[k] (List.getElem_mem hkl) s1 _ _ e1 fun s2 e2 => ?_
    try simp only [TUP_mk, AGG_mk, HD_mk, NL_mk, TYI_mk, TYB_mk, TYP_mk, TYL_mk, TYS_mk, TYM_mk, SO_mk, NX_mk, endK_mk, endK_mk', add_0]
    refine BR_bool (fun ht => ?_) (fun ht => ?_)
    · try simp only [TUP_mk, AGG_mk, HD_mk, NL_mk, TYI_mk, TYB_mk, TYP_mk, TYL_mk, TYS_mk, TYM_mk, SO_mk, NX_mk, endK_mk, endK_mk', add_0]
      have := hk s2 (e1.trans e2)
      rw [any_hit hkl ht] at this
      rw [dec_nn]
      exact this
    · try simp only [TUP_mk, AGG_mk, HD_mk, NL_mk, TYI_mk, TYB_mk, TYP_mk, TYL_mk, TYS_mk, TYM_mk, SO_mk, NX_mk, endK_mk, endK_mk', add_0]
      have hw : IntKind.wrap .i64 ((k : Int) + 1) = ((k + 1 : Nat) : Int) := by rw [wrap_i64 (by omega) (by omega)]; omega
      refine ⟨_, _, rfl, ⟨k + 1, hw, by omega, e1.trans e2, by rw [any_take hkl hb, ht]⟩, ?_⟩
      show l.length - (IntKind.wrap .i64 ((k : Int) + 1)).toNat < l.length - ((k : Nat) : Int).toNat
      rw [hw]; omega
  · have hkl : k = l.length := by omega
    subst hkl
    rw [List.take_length] at hb
    try simp only [TUP_mk, AGG_mk, HD_mk, NL_mk, TYI_mk, TYB_mk, TYP_mk, TYL_mk, TYS_mk, TYM_mk, SO_mk, NX_mk, endK_mk, endK_mk', add_0]
    have := hk s1 e1
    rw [hb] at this
    exact this
theorem has_word {l : List Wd} {bad : Wd → Bool} (hl : l.length ≤ 1000000) (hrow : RowAt s x (l.flatMap wd3)) (hf : ∀ e ∈ l, ∀ (s1 : Hp) (K : VK) (E : List PanicEntry → Hp → Prop), Ext s s1 → (∀ s2, Ext s1 s2 → K (.bool (bad e)) s2) → CALLV Pg W v [wdV e] K E s1)
    (hk : ∀ s', Ext s s' → K (.bool (l.any bad)) s') : CALL Pg W F_slices_ContainsFunc_api_Word_api_Word [.slice x l.length c, v] K E s := by
  refine does_slices_ContainsFunc_api_Word_api_Word W x l.length c v _ s ?_
  unfold T_slices_ContainsFunc_api_Word_api_Word
  refine does_slices_IndexFunc_api_Word_api_Word W x l.length c v _ s ?_
  unfold T_slices_IndexFunc_api_Word_api_Word
  refine L_slices_IndexFunc_api_Word_api_Word_0_rule W _ x l.length c v (l.length : Int) (fun n5 n6 s' => ∃ k : Nat, n6 = (k : Int) ∧ k ≤ l.length ∧ Ext s s' ∧ (l.take k).any bad = false) (fun n5 n6 s' => l.length - n6.toNat) _ _ s ⟨0, rfl, by omega, Ext.refl s, by simp⟩ ?_
  rintro n5 n6 s1 ⟨k, rfl, hk1, e1, hb⟩
  unfold B_slices_IndexFunc_api_Word_api_Word_0
  refine BR_dec (fun hlt => ?_) (fun hge => ?_)
  · have hkl : k < l.length := by omega
    obtain ⟨a, ha, hc⟩ := rowF (f := wd3) (M := 3) (fun _ => rfl) hrow k hkl (by omega)
    subst ha
    refine IXS_nat hkl ?_
    refine ⟨_, e1.cell (hc 0 (by omega)), _, e1.cell (hc 1 (by omega)), _, e1.cell (hc 2 (by omega)), ?_⟩
    refine hf l[k] (List.getElem_mem hkl) s1 _ _ e1 fun s2 e2 => ?_
    try simp only [TUP_mk, AGG_mk, HD_mk, NL_mk, TYI_mk, TYB_mk, TYP_mk, TYL_mk, TYS_mk, TYM_mk, SO_mk, NX_mk, endK_mk, endK_mk', add_0]
    refine BR_bool (fun ht => ?_) (fun ht => ?_)
    · try simp only [TUP_mk, AGG_mk, HD_mk, NL_mk, TYI_mk, TYB_mk, TYP_mk, TYL_mk, TYS_mk, TYM_mk, SO_mk, NX_mk, endK_mk, endK_mk', add_0]
      have := hk s2 (e1.trans e2)
      rw [any_hit hkl ht] at this
      rw [dec_nn]
      exact this
    · try simp only [TUP_mk, AGG_mk, HD_mk, NL_mk, TYI_mk, TYB_mk, TYP_mk, TYL_mk, TYS_mk, TYM_mk, SO_mk, NX_mk, endK_mk, endK_mk', add_0]
      have hw : IntKind.wrap .i64 ((k : Int) + 1) = ((k + 1 : Nat) : Int) := by rw [wrap_i64 (by omega) (by omega)]; omega
      refine ⟨_, _, rfl, ⟨k + 1, hw, by omega, e1.trans e2, by rw [any_take hkl hb, ht]⟩, ?_⟩
      show l.length - (IntKind.wrap .i64 ((k : Int) + 1)).toNat < l.length - ((k : Nat) : Int).toNat
      rw [hw]; omega
  · have hkl : k = l.length := by omega
    subst hkl
    rw [List.take_length] at hb
    try simp only [TUP_mk, AGG_mk, HD_mk, NL_mk, TYI_mk, TYB_mk, TYP_mk, TYL_mk, TYS_mk, TYM_mk, SO_mk, NX_mk, endK_mk, endK_mk', add_0]
    have := hk s1 e1
    rw [hb] at this
    exact this
theorem has_span {l : List (Int × Int)} {bad : (Int × Int) → Bool} (hl : l.length ≤ 1000000) (hrow : RowAt s x (l.flatMap kinV)) (hf : ∀ e ∈ l, ∀ (s1 : Hp) (K : VK) (E : List PanicEntry → Hp → Prop), Ext s s1 → (∀ s2, Ext s1 s2 → K (.bool (bad e)) s2) → CALLV Pg W v [.agg #[.int .i64 e.1, .int .i64 e.2]] K E s1)
    (hk : ∀ s', Ext s s' → K (.bool (l.any bad)) s') : CALL Pg W F_slices_ContainsFunc_api_Span_api_Span [.slice x l.length c, v] K E s := by
  refine does_slices_ContainsFunc_api_Span_api_Span W x l.length c v _ s ?_
  unfold T_slices_ContainsFunc_api_Span_api_Span
  refine does_slices_IndexFunc_api_Span_api_Span W x l.length c v _ s ?_
  unfold T_slices_IndexFunc_api_Span_api_Span
  refine L_slices_IndexFunc_api_Span_api_Span_0_rule W _ x l.length c v (l.length : Int) (fun n5 n6 s' => ∃ k : Nat, n6 = (k : Int) ∧ k ≤ l.length ∧ Ext s s' ∧ (l.take k).any bad = false) (fun n5 n6 s' => l.length - n6.toNat) _ _ s ⟨0, rfl, by omega, Ext.refl s, by simp⟩ ?_
  rintro n5 n6 s1 ⟨k, rfl, hk1, e1, hb⟩
  unfold B_slices_IndexFunc_api_Span_api_Span_0
  refine BR_dec (fun hlt => ?_) (fun hge => ?_)
  · have hkl : k < l.length := by omega
    obtain ⟨a, ha, hc⟩ := rowF (f := kinV) (M := 2) (fun _ => rfl) hrow k hkl (by omega)
    subst ha
    refine IXS_nat hkl ?_
    refine ⟨_, e1.cell (hc 0 (by omega)), _, e1.cell (hc 1 (by omega)), ?_⟩
    refine hf l[k] (List.getElem_mem hkl) s1 _ _ e1 fun s2 e2 => ?_
    try simp only [TUP_mk, AGG_mk, HD_mk, NL_mk, TYI_mk, TYB_mk, TYP_mk, TYL_mk, TYS_mk, TYM_mk, SO_mk, NX_mk, endK_mk, endK_mk', add_0]
    refine BR_bool (fun ht => ?_) (fun ht => ?_)
    · try simp only [TUP_mk, AGG_mk, HD_mk, NL_mk, TYI_mk, TYB_mk, TYP_mk, TYL_mk, TYS_mk, TYM_mk, SO_mk, NX_mk, endK_mk, endK_mk', add_0]
      have := hk s2 (e1.trans e2)
      rw [any_hit hkl ht] at this
      rw [dec_nn]
      exact this
    · try simp only [TUP_mk, AGG_mk, HD_mk, NL_mk, TYI_mk, TYB_mk, TYP_mk, TYL_mk, TYS_mk, TYM_mk, SO_mk, NX_mk, endK_mk, endK_mk', add_0]
      have hw : IntKind.wrap .i64 ((k : Int) + 1) = ((k + 1 : Nat) : Int) := by rw [wrap_i64 (by omega) (by omega)]; omega
      refine ⟨_, _, rfl, ⟨k + 1, hw, by omega, e1.trans e2, by rw [any_take hkl hb, ht]⟩, ?_⟩
      show l.length - (IntKind.wrap .i64 ((k : Int) + 1)).toNat < l.length - ((k : Nat) : Int).toNat
      rw [hw]; omega
  · have hkl : k = l.length := by omega
    subst hkl
    rw [List.take_length] at hb
    try simp only [TUP_mk, AGG_mk, HD_mk, NL_mk, TYI_mk, TYB_mk, TYP_mk, TYL_mk, TYS_mk, TYM_mk, SO_mk, NX_mk, endK_mk, endK_mk', add_0]
    have := hk s1 e1
    rw [hb] at this
    exact this
end
end Go.Proofs.YtcjgbanpkmpekaaGreatDoor.G

/- What is valid. -/
set_option linter.unusedVariables false
set_option linter.unusedSimpArgs false
set_option maxRecDepth 20000
namespace Go.Proofs.YtcjgbanpkmpekaaGreatDoor.G
open Go.V
theorem zc_167 : zc Pg 167 = [.nilFunc] := by kernel_rfl
theorem zc_211 : zc Pg 211 = [.nilFunc] := by kernel_rfl
theorem zc_287 : zc Pg 287 = [.nilFunc] := by kernel_rfl
section
variable {W : World} {K : VK} {E : List PanicEntry → Hp → Prop} {s : Hp}
theorem c_within {n lo hi : Int} (h : K (.bool (decide (lo ≤ n ∧ n ≤ hi))) s) : CALL Pg W F_book_within [.int .i64 n, .int .i64 lo, .int .i64 hi] K E s := by
  refine does_book_within W n lo hi _ s ?_
  unfold T_book_within
  refine BR_dec (fun h1 => ?_) (fun h1 => ?_)
  · try simp only [TUP_mk, AGG_mk, HD_mk, NL_mk, TYI_mk, TYB_mk, TYP_mk, TYL_mk, TYS_mk, TYM_mk, SO_mk, NX_mk, endK_mk, endK_mk', add_0]
    have e : decide (lo ≤ n ∧ n ≤ hi) = decide (n ≤ hi) := by congr 1; apply propext; exact ⟨fun h => h.2, fun h => ⟨h1, h⟩⟩
    rw [e] at h; exact h
  · try simp only [TUP_mk, AGG_mk, HD_mk, NL_mk, TYI_mk, TYB_mk, TYP_mk, TYL_mk, TYS_mk, TYM_mk, SO_mk, NX_mk, endK_mk, endK_mk', add_0]
    have e : decide (lo ≤ n ∧ n ≤ hi) = false := decide_eq_false fun h => h1 h.1
    rw [e] at h; exact h
theorem c_isSpan {a b lo hi : Int} (h : ∀ s', Ext s s' → K (.bool (decide (lo ≤ a ∧ a ≤ b ∧ b ≤ hi))) s') : CALL Pg W F_book_isSpan [.agg #[.int .i64 a, .int .i64 b], .int .i64 lo, .int .i64 hi] K E s := by
  refine does_book_isSpan W a b lo hi _ s ?_
  unfold T_book_isSpan
  refine ne2 fun s1 e1 z1 o0 o1 => ?_
  have h := h s1 e1
  refine ⟨_, o0.cell, ?_⟩
  refine BR_dec (fun h1 => ?_) (fun h1 => ?_)
  · refine ⟨_, o0.cell, _, o1.cell, ?_⟩
    refine BR_dec (fun h2 => ?_) (fun h2 => ?_)
    · refine ⟨_, o1.cell, ?_⟩
      try simp only [TUP_mk, AGG_mk, HD_mk, NL_mk, TYI_mk, TYB_mk, TYP_mk, TYL_mk, TYS_mk, TYM_mk, SO_mk, NX_mk, endK_mk, endK_mk', add_0]
      have e : decide (lo ≤ a ∧ a ≤ b ∧ b ≤ hi) = decide (b ≤ hi) := by congr 1; apply propext; exact ⟨fun h => h.2.2, fun h => ⟨h1, h2, h⟩⟩
      rw [e] at h; exact h
    · try simp only [TUP_mk, AGG_mk, HD_mk, NL_mk, TYI_mk, TYB_mk, TYP_mk, TYL_mk, TYS_mk, TYM_mk, SO_mk, NX_mk, endK_mk, endK_mk', add_0]
      have e : decide (lo ≤ a ∧ a ≤ b ∧ b ≤ hi) = false := decide_eq_false fun h => h2 h.2.1
      rw [e] at h; exact h
  · try simp only [TUP_mk, AGG_mk, HD_mk, NL_mk, TYI_mk, TYB_mk, TYP_mk, TYL_mk, TYS_mk, TYM_mk, SO_mk, NX_mk, endK_mk, endK_mk', add_0]
    have e : decide (lo ≤ a ∧ a ≤ b ∧ b ≤ hi) = false := decide_eq_false fun h => h1 h.1
    rw [e] at h; exact h
/-! ### Pegs -/
def sideOk (m a b : Int) : Bool := decide (0 ≤ a ∧ a ≤ b ∧ b ≤ m ∧ b - a ≤ 2)
theorem c_side {B : Nat} {m a b : Int} (hB : cellAt s ⟨B, 0, none⟩ = some (.int .i64 m)) (hm : m ≤ 15) (h : ∀ s', Ext s s' → K (.bool (sideOk m a b)) s') : CALLV Pg W (.func (.func 187) #[] #[.pointer (some ⟨B, 0, none⟩)]) [.agg #[.int .i64 a, .int .i64 b]] K E s := by
  refine CALLV_func ?_
  refine does_book_isPegs_c1 W a b ⟨B, 0, none⟩ _ s ?_
  unfold T_book_isPegs_c1
  refine ne2 fun s1 e1 z1 o0 o1 => ?_
  refine ⟨_, o0.cell, _, o1.cell, _, e1.cell hB, ?_⟩
  refine c_isSpan fun s2 e2 => ?_
  try simp only [TUP_mk, AGG_mk, HD_mk, NL_mk, TYI_mk, TYB_mk, TYP_mk, TYL_mk, TYS_mk, TYM_mk, SO_mk, NX_mk, endK_mk, endK_mk', add_0]
  have h := h s2 (e1.trans e2)
  unfold sideOk at h
  refine BR_dec (fun h1 => ?_) (fun h1 => ?_)
  · refine ⟨_, e2.cell o1.cell, _, e2.cell o0.cell, ?_⟩
    dsimp only
    rw [wrap_i64 (by omega) (by omega)]
    try simp only [TUP_mk, AGG_mk, HD_mk, NL_mk, TYI_mk, TYB_mk, TYP_mk, TYL_mk, TYS_mk, TYM_mk, SO_mk, NX_mk, endK_mk, endK_mk', add_0]
    have e : decide (0 ≤ a ∧ a ≤ b ∧ b ≤ m ∧ b - a ≤ 2) = decide (b - a ≤ 2) := by congr 1; apply propext; omega
    rw [e] at h; exact h
  · try simp only [TUP_mk, AGG_mk, HD_mk, NL_mk, TYI_mk, TYB_mk, TYP_mk, TYL_mk, TYS_mk, TYM_mk, SO_mk, NX_mk, endK_mk, endK_mk', add_0]
    have e : decide (0 ≤ a ∧ a ≤ b ∧ b ≤ m ∧ b - a ≤ 2) = false := decide_eq_false fun h => h1 ⟨h.1, h.2.1, h.2.2.1⟩
    rw [e] at h; exact h
theorem c_peg {B : Nat} {n : Int} {y : Option Addr} {l c : Nat} (hB : cellAt s ⟨B, 1, none⟩ = some (.slice y l c)) (hl : l ≤ 1000000) (h : ∀ s', Ext s s' → K (.bool (decide (0 ≤ n ∧ n < l))) s') : CALLV Pg W (.func (.func 188) #[] #[.pointer (some ⟨B, 0, none⟩)]) [.int .i64 n] K E s := by
  refine CALLV_func ?_
  refine does_book_isPegs_c2 W n ⟨B, 0, none⟩ _ s ?_
  unfold T_book_isPegs_c2
  refine ⟨_, _, _, hB, ?_⟩
  dsimp only
  rw [wrap_i64 (by omega) (by omega)]
  refine c_within ?_
  try simp only [TUP_mk, AGG_mk, HD_mk, NL_mk, TYI_mk, TYB_mk, TYP_mk, TYL_mk, TYS_mk, TYM_mk, SO_mk, NX_mk, endK_mk, endK_mk', add_0]
  have h := h s (Ext.refl s)
  have e : decide (0 ≤ n ∧ n ≤ (l : Int) - 1) = decide (0 ≤ n ∧ n < l) := by congr 1; apply propext; omega
  rw [e]; exact h
theorem post_ok {m : Int} {q : Q4} : okPost m q = (sideOk m q.a q.b && sideOk m q.c q.d) := by
  unfold okPost sideOk; rw [← Bool.decide_and]
theorem c_isPegs {p : PgS} {x y : Option Addr} {c d : Nat} (hx : RowAt s x (p.posts.flatMap q4V)) (hy : RowAt s y (p.lens.flatMap q4V)) (h1 : p.posts.length ≤ 1000000) (h2 : p.lens.length ≤ 1000000)
    (h : ∀ s', Ext s s' → K (.bool (okPg p)) s') : CALL Pg W F_book_isPegs [.agg #[.int .i64 p.side, .slice x p.posts.length c, .slice y p.lens.length d]] K E s := by
  refine does_book_isPegs W p.side x p.posts.length c y p.lens.length d _ s ?_
  unfold T_book_isPegs
  refine NEW_rule fun s1 e1 z1 o _ => ?_
  have o0 := o 0 _ rfl
  have o1 := o 1 _ rfl
  have o2 := o 2 _ rfl
  refine nw1 zc_167 rfl fun s2 e2 z2 a0 => ?_
  refine nw1 zc_211 rfl fun s3 e3 z3 b0 => ?_
  have e12 := e1.trans e2
  have e13 := e12.trans e3
  have g0 := e3.cell (e2.cell o0.cell)
  have g1 := e3.cell (e2.cell o1.cell)
  have g2 := e3.cell (e2.cell o2.cell)
  refine ⟨_, g0, ?_⟩
  refine c_within ?_
  try simp only [TUP_mk, AGG_mk, HD_mk, NL_mk, TYI_mk, TYB_mk, TYP_mk, TYL_mk, TYS_mk, TYM_mk, SO_mk, NX_mk, endK_mk, endK_mk', add_0]
  unfold okPg at h
  have J2f : ∀ b : Bool, b = false → (decide (0 ≤ p.side ∧ p.side ≤ 15 ∧ p.posts.length ≤ 4 ∧ p.lens.length ≤ 6) = false) → J_book_isPegs_1 W (endK K E) b s.size s1.size s2.size s3 := by
    intro b hb hd
    subst hb
    unfold J_book_isPegs_1
    refine BR_ff rfl ?_
    unfold J_book_isPegs_0
    refine BR_ff rfl ?_
    try simp only [TUP_mk, AGG_mk, HD_mk, NL_mk, TYI_mk, TYB_mk, TYP_mk, TYL_mk, TYS_mk, TYM_mk, SO_mk, NX_mk, endK_mk, endK_mk', add_0]
    have := h s3 e13
    rw [hd] at this
    exact this
  refine BR_dec (fun hs => ?_) (fun hs => ?_)
  · refine ⟨_, _, _, g1, ?_⟩
    unfold J_book_isPegs_2
    refine BR_dec (fun hp => ?_) (fun hp => ?_)
    · refine ⟨_, _, _, g2, ?_⟩
      by_cases hl : p.lens.length ≤ 6
      · have hd : decide (0 ≤ p.side ∧ p.side ≤ 15 ∧ p.posts.length ≤ 4 ∧ p.lens.length ≤ 6) = true := decide_eq_true ⟨hs.1, hs.2, by omega, hl⟩
        rw [hd] at h
        unfold J_book_isPegs_1
        refine BR_tt (decide_eq_true (by omega)) ?_
        refine ⟨_, _, _, g1, ?_⟩
        refine has_post (bad := fun q => !okPost p.side q) h1 (hx.ext e13) (fun q hq t K E et hk => ?_) (fun s4 e4 => ?_)
        · refine CALLV_func ?_
          refine does_book_isPegs_c3 W q.a q.b q.c q.d ⟨s1.size, 0, none⟩ _ t ?_
          unfold T_book_isPegs_c3
          refine ne4 fun t1 f1 w1 u0 u1 u2 u3 => ?_
          have v0 := f1.cell (et.cell (e3.cell a0.cell))
          have w0 := f1.cell (et.cell g0)
          refine ⟨_, v0, _, u0.cell, _, u1.cell, ?_⟩
          refine c_side w0 hs.2 fun t2 f2 => ?_
          try simp only [TUP_mk, AGG_mk, HD_mk, NL_mk, TYI_mk, TYB_mk, TYP_mk, TYL_mk, TYS_mk, TYM_mk, SO_mk, NX_mk, endK_mk, endK_mk', add_0]
          refine BR_not (fun hb => ?_) (fun hb => ?_)
          · try simp only [TUP_mk, AGG_mk, HD_mk, NL_mk, TYI_mk, TYB_mk, TYP_mk, TYL_mk, TYS_mk, TYM_mk, SO_mk, NX_mk, endK_mk, endK_mk', add_0]
            have := hk t2 (f1.trans f2)
            rw [post_ok, hb] at this
            exact this
          · refine ⟨_, f2.cell v0, _, f2.cell u2.cell, _, f2.cell u3.cell, ?_⟩
            refine c_side (f2.cell w0) hs.2 fun t3 f3 => ?_
            try simp only [TUP_mk, AGG_mk, HD_mk, NL_mk, TYI_mk, TYB_mk, TYP_mk, TYL_mk, TYS_mk, TYM_mk, SO_mk, NX_mk, endK_mk, endK_mk', add_0]
            have := hk t3 ((f1.trans f2).trans f3)
            rw [post_ok, hb, Bool.true_and] at this
            exact this
        · try simp only [TUP_mk, AGG_mk, HD_mk, NL_mk, TYI_mk, TYB_mk, TYP_mk, TYL_mk, TYS_mk, TYM_mk, SO_mk, NX_mk, endK_mk, endK_mk', add_0]
          have hpa : (!p.posts.any fun q => !okPost p.side q) = p.posts.all (okPost p.side) := by rw [List.not_any_eq_all_not]; simp
          rw [hpa]
          unfold J_book_isPegs_0
          refine BR_bool (fun hb => ?_) (fun hb => ?_)
          · rw [hb] at h
            refine ⟨_, _, _, e4.cell g2, ?_⟩
            refine has_len (bad := fun q => !okLen p.posts.length q) h2 (hy.ext (e13.trans e4)) (fun q hq t K E et hk => ?_) (fun s5 e5 => ?_)
            · refine CALLV_func ?_
              refine does_book_isPegs_c4 W q.a q.b q.c q.d ⟨s2.size, 0, none⟩ _ t ?_
              unfold T_book_isPegs_c4
              refine ne4 fun t1 f1 w1 u0 u1 u2 u3 => ?_
              have v0 := f1.cell (et.cell (e4.cell b0.cell))
              have w0 := f1.cell (et.cell (e4.cell g1))
              refine ⟨_, v0, _, u0.cell, ?_⟩
              refine c_peg w0 h1 fun t2 f2 => ?_
              try simp only [TUP_mk, AGG_mk, HD_mk, NL_mk, TYI_mk, TYB_mk, TYP_mk, TYL_mk, TYS_mk, TYM_mk, SO_mk, NX_mk, endK_mk, endK_mk', add_0]
              have bad : ∀ t', Ext t t' → okLen p.posts.length q = false → J_book_isPegs_c4_1 W (endK K E) true t.size t' := by
                intro t' ft hb
                unfold J_book_isPegs_c4_1
                refine BR_tt rfl ?_
                unfold J_book_isPegs_c4_0
                refine BR_tt rfl ?_
                try simp only [TUP_mk, AGG_mk, HD_mk, NL_mk, TYI_mk, TYB_mk, TYP_mk, TYL_mk, TYS_mk, TYM_mk, SO_mk, NX_mk, endK_mk, endK_mk', add_0]
                have := hk t' ft
                rw [hb] at this
                exact this
              by_cases ha : 0 ≤ q.a ∧ q.a < (p.posts.length : Int)
              · refine BR_ff (by rw [decide_eq_true ha]; rfl) ?_
                refine ⟨_, f2.cell v0, _, f2.cell u1.cell, ?_⟩
                refine c_peg (f2.cell w0) h1 fun t3 f3 => ?_
                try simp only [TUP_mk, AGG_mk, HD_mk, NL_mk, TYI_mk, TYB_mk, TYP_mk, TYL_mk, TYS_mk, TYM_mk, SO_mk, NX_mk, endK_mk, endK_mk', add_0]
                by_cases hb : 0 ≤ q.b ∧ q.b < (p.posts.length : Int)
                · rw [show (!decide (0 ≤ q.b ∧ q.b < (p.posts.length : Int))) = false by rw [decide_eq_true hb]; rfl]
                  unfold J_book_isPegs_c4_1
                  refine BR_ff rfl ?_
                  refine ⟨_, f3.cell (f2.cell u0.cell), _, f3.cell (f2.cell u1.cell), ?_⟩
                  unfold J_book_isPegs_c4_0
                  refine BR_eq (fun he => ?_) (fun he => ?_)
                  · try simp only [TUP_mk, AGG_mk, HD_mk, NL_mk, TYI_mk, TYB_mk, TYP_mk, TYL_mk, TYS_mk, TYM_mk, SO_mk, NX_mk, endK_mk, endK_mk', add_0]
                    have := hk t3 ((f1.trans f2).trans f3)
                    rw [show okLen p.posts.length q = false from decide_eq_false fun h => h.2.2.1 he] at this
                    exact this
                  · refine ⟨_, f3.cell (f2.cell u2.cell), _, f3.cell (f2.cell u3.cell), ?_⟩
                    refine c_isSpan fun t4 f4 => ?_
                    try simp only [TUP_mk, AGG_mk, HD_mk, NL_mk, TYI_mk, TYB_mk, TYP_mk, TYL_mk, TYS_mk, TYM_mk, SO_mk, NX_mk, endK_mk, endK_mk', add_0]
                    have := hk t4 (((f1.trans f2).trans f3).trans f4)
                    have e : okLen p.posts.length q = decide (0 ≤ q.c ∧ q.c ≤ q.d ∧ q.d ≤ 30) := by
                      unfold okLen; congr 1; apply propext; exact ⟨fun h => h.2.2.2, fun h => ⟨ha, hb, he, h⟩⟩
                    rw [e] at this
                    exact this
                · rw [show (!decide (0 ≤ q.b ∧ q.b < (p.posts.length : Int))) = true by rw [decide_eq_false hb]; rfl]
                  exact bad t3 ((f1.trans f2).trans f3) (decide_eq_false fun h => hb h.2.1)
              · refine BR_tt (by rw [decide_eq_false ha]; rfl) ?_
                exact bad t2 (f1.trans f2) (decide_eq_false fun h => ha h.1)
            · try simp only [TUP_mk, AGG_mk, HD_mk, NL_mk, TYI_mk, TYB_mk, TYP_mk, TYL_mk, TYS_mk, TYM_mk, SO_mk, NX_mk, endK_mk, endK_mk', add_0]
              have hpb : (!p.lens.any fun q => !okLen p.posts.length q) = p.lens.all (okLen p.posts.length) := by rw [List.not_any_eq_all_not]; simp
              rw [hpb]
              exact h s5 ((e13.trans e4).trans e5)
          · rw [hb] at h
            try simp only [TUP_mk, AGG_mk, HD_mk, NL_mk, TYI_mk, TYB_mk, TYP_mk, TYL_mk, TYS_mk, TYM_mk, SO_mk, NX_mk, endK_mk, endK_mk', add_0]
            exact h s4 (e13.trans e4)
      · refine J2f _ (decide_eq_false (by omega)) (decide_eq_false fun h => hl h.2.2.2)
    · exact J2f _ rfl (decide_eq_false fun h => hp (by have := h.2.2.1; omega))
  · unfold J_book_isPegs_2
    refine BR_ff rfl ?_
    exact J2f _ rfl (decide_eq_false fun h => hs ⟨h.1, h.2.1⟩)
end
end Go.Proofs.YtcjgbanpkmpekaaGreatDoor.G

/- What is valid: panels and hearings. -/
set_option linter.unusedVariables false
set_option linter.unusedSimpArgs false
set_option maxRecDepth 20000
namespace Go.Proofs.YtcjgbanpkmpekaaGreatDoor.G
open Go.V
section
variable {W : World} {K : VK} {E : List PanicEntry → Hp → Prop} {s : Hp}
theorem all_not {α : Type} (l : List α) (f : α → Bool) : (!l.any fun q => !f q) = l.all f := by rw [List.not_any_eq_all_not]; simp
theorem c_isPanels {p : PnS} {x y z : Option Addr} {c d e : Nat} (hx : RowAt s x (p.loads.flatMap in1)) (hy : RowAt s y (p.needs.flatMap in1)) (hz : RowAt s z (p.kin.flatMap kinV)) (h1 : p.loads.length ≤ 1000000) (h2 : p.needs.length ≤ 1000000) (h3 : p.kin.length ≤ 1000000)
    (h : ∀ s', Ext s s' → K (.bool (okPn p)) s') : CALL Pg W F_book_isPanels [.agg #[.slice x p.loads.length c, .slice y p.needs.length d, .slice z p.kin.length e]] K E s := by
  refine does_book_isPanels W x p.loads.length c y p.needs.length d z p.kin.length e _ s ?_
  unfold T_book_isPanels
  refine NEW_rule fun s1 e1 z1 o _ => ?_
  have o0 := (o 0 _ rfl).cell
  have o1 := (o 1 _ rfl).cell
  have o2 := (o 2 _ rfl).cell
  unfold okPn at h
  have no0 : ∀ (t : Hp), Ext s t → okPn p = false → J_book_isPanels_0 W (endK K E) false s.size t := by
    intro t et hb
    unfold J_book_isPanels_0
    refine BR_ff rfl ?_
    try simp only [TUP_mk, AGG_mk, HD_mk, NL_mk, TYI_mk, TYB_mk, TYP_mk, TYL_mk, TYS_mk, TYM_mk, SO_mk, NX_mk, endK_mk, endK_mk', add_0]
    have := h t et
    unfold okPn at hb
    rw [hb] at this
    exact this
  have no1 : ∀ (t : Hp), Ext s t → okPn p = false → J_book_isPanels_1 W (endK K E) false s.size t := by
    intro t et hb
    unfold J_book_isPanels_1
    exact BR_ff rfl (no0 t et hb)
  have no2 : ∀ (t : Hp), Ext s t → okPn p = false → J_book_isPanels_2 W (endK K E) false s.size t := by
    intro t et hb
    unfold J_book_isPanels_2
    exact BR_ff rfl (no1 t et hb)
  refine ⟨_, _, _, o0, ?_⟩
  unfold J_book_isPanels_3
  have nok : ¬ (p.loads.length ≤ 6 ∧ p.needs.length ≤ 6 ∧ p.kin.length ≤ 10) → okPn p = false := fun hn => by unfold okPn; rw [decide_eq_false hn]; rfl
  refine BR_dec (fun ha => ?_) (fun ha => BR_ff rfl (no2 s1 e1 (nok fun hh => ha (by omega))))
  refine ⟨_, _, _, o1, ?_⟩
  refine BR_dec (fun hb => ?_) (fun hb => no2 s1 e1 (nok fun hh => hb (by omega)))
  refine ⟨_, _, _, o2, ?_⟩
  dsimp only
  by_cases hc : p.kin.length ≤ 10
  rotate_left
  · rw [decide_eq_false (by omega : ¬ ((p.kin.length : Int) ≤ 10))]
    exact no2 s1 e1 (nok fun hh => hc hh.2.2)
  rw [decide_eq_true (by omega : ((p.kin.length : Int) ≤ 10))]
  have hok : okPn p = (p.loads.all (fun n => decide (0 ≤ n ∧ n ≤ 6)) && (p.needs.all (fun n => decide (0 ≤ n ∧ n ≤ 3)) && p.kin.all (okKin p.loads.length p.needs.length))) := by
    unfold okPn
    rw [decide_eq_true (⟨by omega, by omega, hc⟩ : p.loads.length ≤ 6 ∧ p.needs.length ≤ 6 ∧ p.kin.length ≤ 10), Bool.true_and]
  have h' : ∀ s', Ext s s' → K (.bool (okPn p)) s' := fun s' e' => by have := h s' e'; unfold okPn; exact this
  unfold J_book_isPanels_2
  refine BR_tt rfl ?_
  refine ⟨_, _, _, o0, ?_⟩
  refine has_int (bad := fun n => !decide (0 ≤ n ∧ n ≤ 6)) h1 (hx.ext e1) (fun n hn t K E et hk => ?_) (fun s2 e2 => ?_)
  · refine CALLV_func ?_
    refine does_book_isPanels_c1 W n _ t ?_
    unfold T_book_isPanels_c1
    refine c_within ?_
    try simp only [TUP_mk, AGG_mk, HD_mk, NL_mk, TYI_mk, TYB_mk, TYP_mk, TYL_mk, TYS_mk, TYM_mk, SO_mk, NX_mk, endK_mk, endK_mk', add_0]
    exact hk t (Ext.refl t)
  try simp only [TUP_mk, AGG_mk, HD_mk, NL_mk, TYI_mk, TYB_mk, TYP_mk, TYL_mk, TYS_mk, TYM_mk, SO_mk, NX_mk, endK_mk, endK_mk', add_0]
  rw [all_not]
  have e12 := e1.trans e2
  unfold J_book_isPanels_1
  refine BR_bool (fun hb1 => ?_) (fun hb1 => no0 s2 e12 (by rw [hok, hb1]; rfl))
  refine ⟨_, _, _, e2.cell o1, ?_⟩
  refine has_int (bad := fun n => !decide (0 ≤ n ∧ n ≤ 3)) h2 (hy.ext e12) (fun n hn t K E et hk => ?_) (fun s3 e3 => ?_)
  · refine CALLV_func ?_
    refine does_book_isPanels_c2 W n _ t ?_
    unfold T_book_isPanels_c2
    refine c_within ?_
    try simp only [TUP_mk, AGG_mk, HD_mk, NL_mk, TYI_mk, TYB_mk, TYP_mk, TYL_mk, TYS_mk, TYM_mk, SO_mk, NX_mk, endK_mk, endK_mk', add_0]
    exact hk t (Ext.refl t)
  try simp only [TUP_mk, AGG_mk, HD_mk, NL_mk, TYI_mk, TYB_mk, TYP_mk, TYL_mk, TYS_mk, TYM_mk, SO_mk, NX_mk, endK_mk, endK_mk', add_0]
  rw [all_not]
  have e13 := e12.trans e3
  unfold J_book_isPanels_0
  refine BR_bool (fun hb2 => ?_) (fun hb2 => ?_)
  rotate_left
  · try simp only [TUP_mk, AGG_mk, HD_mk, NL_mk, TYI_mk, TYB_mk, TYP_mk, TYL_mk, TYS_mk, TYM_mk, SO_mk, NX_mk, endK_mk, endK_mk', add_0]
    have := h' s3 e13
    rw [hok, hb1, hb2] at this
    exact this
  refine ⟨_, _, _, e3.cell (e2.cell o2), ?_⟩
  refine has_kin (bad := fun n => !okKin p.loads.length p.needs.length n) h3 (hz.ext e13) (fun n hn t K E et hk => ?_) (fun s4 e4 => ?_)
  · refine CALLV_func ?_
    refine does_book_isPanels_c3 W n.1 n.2 ⟨s.size, 0, none⟩ _ t ?_
    unfold T_book_isPanels_c3
    refine ne2 fun t1 f1 w1 u0 u1 => ?_
    have g0 := f1.cell (et.cell (e3.cell (e2.cell o0)))
    have g1 := f1.cell (et.cell (e3.cell (e2.cell o1)))
    refine ⟨_, u0.cell, _, _, _, g0, ?_⟩
    dsimp only
    rw [wrap_i64 (by omega) (by omega)]
    refine c_within ?_
    try simp only [TUP_mk, AGG_mk, HD_mk, NL_mk, TYI_mk, TYB_mk, TYP_mk, TYL_mk, TYS_mk, TYM_mk, SO_mk, NX_mk, endK_mk, endK_mk', add_0]
    have hk := hk t1 f1
    unfold okKin at hk
    refine BR_not (fun q1 => ?_) (fun q1 => ?_)
    · try simp only [TUP_mk, AGG_mk, HD_mk, NL_mk, TYI_mk, TYB_mk, TYP_mk, TYL_mk, TYS_mk, TYM_mk, SO_mk, NX_mk, endK_mk, endK_mk', add_0]
      rw [decide_eq_false_iff_not] at q1
      rw [decide_eq_false (fun hh => q1 ⟨hh.1.1, by have := hh.1.2; omega⟩)] at hk
      exact hk
    · rw [decide_eq_true_eq] at q1
      refine ⟨_, u1.cell, _, _, _, g1, ?_⟩
      dsimp only
      rw [wrap_i64 (by omega) (by omega)]
      refine c_within ?_
      try simp only [TUP_mk, AGG_mk, HD_mk, NL_mk, TYI_mk, TYB_mk, TYP_mk, TYL_mk, TYS_mk, TYM_mk, SO_mk, NX_mk, endK_mk, endK_mk', add_0]
      have e : decide ((0 ≤ n.1 ∧ n.1 < p.loads.length) ∧ 0 ≤ n.2 ∧ n.2 < p.needs.length) = decide (0 ≤ n.2 ∧ n.2 ≤ (p.needs.length : Int) - 1) := by congr 1; apply propext; omega
      rw [e] at hk
      exact hk
  try simp only [TUP_mk, AGG_mk, HD_mk, NL_mk, TYI_mk, TYB_mk, TYP_mk, TYL_mk, TYS_mk, TYM_mk, SO_mk, NX_mk, endK_mk, endK_mk', add_0]
  rw [all_not]
  have := h' s4 (e13.trans e4)
  rw [hok, hb1, hb2] at this
  exact this
/-! ### Hearings -/
/-- A word of a hearing whose numbers lie at B. -/
theorem c_badW {B : Nat} {f w : Int} {x : Wd} (h0 : cellAt s ⟨B, 0, none⟩ = some (.int .i64 f)) (h1 : cellAt s ⟨B, 1, none⟩ = some (.int .i64 w)) (hf : 0 ≤ f ∧ f ≤ 6) (hw : 0 ≤ w ∧ w ≤ 6) (h : ∀ s', Ext s s' → K (.bool (!okWd f w x)) s') :
    CALLV Pg W (.func (.func 241) #[] #[.pointer (some ⟨B, 0, none⟩)]) [wdV x] K E s := by
  refine CALLV_func ?_
  refine does_book_isHearing_c1 W x.per x.num x.nt ⟨B, 0, none⟩ _ s ?_
  unfold T_book_isHearing_c1
  refine NEW_rule fun s1 e1 z1 o _ => ?_
  have o0 := (o 0 _ rfl).cell
  have o1 := (o 1 _ rfl).cell
  refine ⟨_, o0, ?_⟩
  have h := h s1 e1
  unfold okWd at h
  refine BR_bool (fun hp => ?_) (fun hp => ?_)
  · rw [hp, if_pos rfl] at h
    refine ⟨_, o1, _, e1.cell h1, ?_⟩
    dsimp only
    rw [wrap_i64 (by omega) (by omega)]
    refine c_within ?_
    try simp only [TUP_mk, AGG_mk, HD_mk, NL_mk, TYI_mk, TYB_mk, TYP_mk, TYL_mk, TYS_mk, TYM_mk, SO_mk, NX_mk, endK_mk, endK_mk', add_0]
    have e : decide (0 ≤ x.num ∧ x.num < w) = decide (0 ≤ x.num ∧ x.num ≤ w - 1) := by congr 1; apply propext; omega
    rw [e] at h; exact h
  · rw [hp, if_neg (by simp)] at h
    refine ⟨_, o1, _, e1.cell h0, ?_⟩
    dsimp only
    rw [wrap_i64 (by omega) (by omega)]
    refine c_within ?_
    try simp only [TUP_mk, AGG_mk, HD_mk, NL_mk, TYI_mk, TYB_mk, TYP_mk, TYL_mk, TYS_mk, TYM_mk, SO_mk, NX_mk, endK_mk, endK_mk', add_0]
    have e : decide (0 ≤ x.num ∧ x.num < f) = decide (0 ≤ x.num ∧ x.num ≤ f - 1) := by congr 1; apply propext; omega
    rw [e] at h; exact h
theorem ne8 {P : Program} {t : TypeId} {v0 v1 v2 v3 v4 v5 v6 v7 : Value} {K : Nat → Hp → Prop} (h : ∀ s', Ext s s' → s'.size = s.size + 1 → (∀ i v, [v0, v1, v2, v3, v4, v5, v6, v7][i]? = some v → Own s' ⟨s.size, i, none⟩ v) → K s.size s') : NEW t [v0, v1, v2, v3, v4, v5, v6, v7] K s :=
  NEW_rule fun s1 e1 z1 n1 _ => h s1 e1 z1 n1
theorem b_eq (w : Wd) : ((w.per == false) && ((w.num == 0) && (w.nt == false))) = decide (w = wd0) := by
  obtain ⟨p, n, t⟩ := w
  by_cases hn : n = 0
  · subst hn; cases p <;> cases t <;> rfl
  · have h1 : (n == 0) = false := by simpa using hn
    have h2 : decide ((⟨p, n, t⟩ : Wd) = wd0) = false := decide_eq_false fun e => hn (congrArg Wd.num e)
    rw [h2, h1]
    cases p <;> rfl
theorem c_isHearing {p : HrS} {x y : Option Addr} {c d : Nat} (hx : RowAt s x (p.claims.flatMap cl8)) (hy : RowAt s y (p.known.flatMap wd3)) (h1 : p.claims.length ≤ 1000000) (h2 : p.known.length ≤ 1000000)
    (h : ∀ s', Ext s s' → K (.bool (okHr p)) s') : CALL Pg W F_book_isHearing [.agg #[.int .i64 p.facts, .int .i64 p.wits, .int .i64 p.liars, .slice x p.claims.length c, .slice y p.known.length d]] K E s := by
  refine does_book_isHearing W p.facts p.wits p.liars x p.claims.length c y p.known.length d _ s ?_
  unfold T_book_isHearing
  refine NEW_rule fun s1 e1 z1 o _ => ?_
  have q0 := (o 0 _ rfl).cell
  have q1 := (o 1 _ rfl).cell
  have q2 := (o 2 _ rfl).cell
  have q3 := (o 3 _ rfl).cell
  have q4 := (o 4 _ rfl).cell
  refine nw1 zc_287 rfl fun s2 e2 z2 a0 => ?_
  have o0 := e2.cell q0
  have o1 := e2.cell q1
  have o2 := e2.cell q2
  have o3 := e2.cell q3
  have o4 := e2.cell q4
  have e12 := e1.trans e2
  have no0 : ∀ (t : Hp), Ext s t → okHr p = false → J_book_isHearing_0 W (endK K E) false s.size s1.size t := by
    intro t et hb
    unfold J_book_isHearing_0
    refine BR_ff rfl ?_
    try simp only [TUP_mk, AGG_mk, HD_mk, NL_mk, TYI_mk, TYB_mk, TYP_mk, TYL_mk, TYS_mk, TYM_mk, SO_mk, NX_mk, endK_mk, endK_mk', add_0]
    have := h t et
    rw [hb] at this
    exact this
  have no1 : ∀ (t : Hp), Ext s t → okHr p = false → J_book_isHearing_1 W (endK K E) false s.size s1.size t := by
    intro t et hb
    unfold J_book_isHearing_1
    exact BR_ff rfl (no0 t et hb)
  have nok : ¬ ((0 ≤ p.facts ∧ p.facts ≤ 6) ∧ (0 ≤ p.wits ∧ p.wits ≤ 6) ∧ (0 ≤ p.liars ∧ p.liars ≤ p.wits) ∧ p.claims.length ≤ 14 ∧ p.known.length ≤ 4) → okHr p = false := fun hn => by unfold okHr okHrD; rw [decide_eq_false hn]; rfl
  have no3 : okHr p = false → J_book_isHearing_3 W (endK K E) s.size false s1.size s2 := by
    intro hb
    unfold J_book_isHearing_3
    refine ⟨_, _, _, o3, ?_⟩
    have n2 : ∀ b, J_book_isHearing_2 W (endK K E) false b s.size s1.size s2 := fun b => by
      unfold J_book_isHearing_2
      exact BR_ff rfl (no1 s2 e12 hb)
    exact BR_dec (fun _ => ⟨_, _, _, o4, n2 _⟩) (fun _ => n2 _)
  have no4 : okHr p = false → J_book_isHearing_4 W (endK K E) false s.size s1.size s2 := by
    intro hb
    unfold J_book_isHearing_4
    exact BR_ff rfl (no3 hb)
  refine ⟨_, o0, ?_⟩
  refine c_within ?_
  try simp only [TUP_mk, AGG_mk, HD_mk, NL_mk, TYI_mk, TYB_mk, TYP_mk, TYL_mk, TYS_mk, TYM_mk, SO_mk, NX_mk, endK_mk, endK_mk', add_0]
  refine BR_dec (fun ha => ?_) (fun ha => no4 (nok fun hh => ha hh.1))
  refine ⟨_, o1, ?_⟩
  refine c_within ?_
  try simp only [TUP_mk, AGG_mk, HD_mk, NL_mk, TYI_mk, TYB_mk, TYP_mk, TYL_mk, TYS_mk, TYM_mk, SO_mk, NX_mk, endK_mk, endK_mk', add_0]
  by_cases hb : 0 ≤ p.wits ∧ p.wits ≤ 6
  rotate_left
  · rw [decide_eq_false hb]; exact no4 (nok fun hh => hb hh.2.1)
  rw [decide_eq_true hb]
  unfold J_book_isHearing_4
  refine BR_tt rfl ?_
  refine ⟨_, o2, _, o1, ?_⟩
  refine c_within ?_
  try simp only [TUP_mk, AGG_mk, HD_mk, NL_mk, TYI_mk, TYB_mk, TYP_mk, TYL_mk, TYS_mk, TYM_mk, SO_mk, NX_mk, endK_mk, endK_mk', add_0]
  by_cases hc : 0 ≤ p.liars ∧ p.liars ≤ p.wits
  rotate_left
  · rw [decide_eq_false hc]; exact no3 (nok fun hh => hc hh.2.2.1)
  rw [decide_eq_true hc]
  unfold J_book_isHearing_3
  refine ⟨_, _, _, o3, ?_⟩
  unfold J_book_isHearing_2
  refine BR_dec (fun hd => ?_) (fun hd => BR_tt rfl (no1 s2 e12 (nok fun hh => hd (by have := hh.2.2.2.1; omega))))
  refine ⟨_, _, _, o4, ?_⟩
  dsimp only
  refine BR_tt rfl ?_
  by_cases hk4 : p.known.length ≤ 4
  rotate_left
  · rw [decide_eq_false (by omega : ¬ ((p.known.length : Int) ≤ 4))]
    exact no1 s2 e12 (nok fun hh => hk4 hh.2.2.2.2)
  rw [decide_eq_true (by omega : ((p.known.length : Int) ≤ 4))]
  have hok : okHr p = (p.claims.all (fun c => okClD p.facts p.wits c && plCl c) && p.known.all (okWd p.facts p.wits)) := by
    unfold okHr okHrD plHr
    rw [decide_eq_true (⟨ha, hb, hc, by omega, hk4⟩ : (0 ≤ p.facts ∧ p.facts ≤ 6) ∧ (0 ≤ p.wits ∧ p.wits ≤ 6) ∧ (0 ≤ p.liars ∧ p.liars ≤ p.wits) ∧ p.claims.length ≤ 14 ∧ p.known.length ≤ 4), Bool.true_and]
    have : p.claims.all (fun c => okClD p.facts p.wits c && plCl c) = (p.claims.all (okClD p.facts p.wits) && p.claims.all plCl) := by
      induction p.claims with
      | nil => rfl
      | cons a l ih => simp only [List.all_cons, ih]; cases okClD p.facts p.wits a <;> cases plCl a <;> simp
    rw [this]
    cases p.claims.all (okClD p.facts p.wits) <;> cases p.known.all (okWd p.facts p.wits) <;> cases p.claims.all plCl <;> rfl
  unfold J_book_isHearing_1
  refine BR_tt rfl ?_
  refine ⟨_, _, _, o3, ?_⟩
  refine has_claim (bad := fun c => !(okClD p.facts p.wits c && plCl c)) h1 (hx.ext e12) (fun n hn t K E et hk => ?_) (fun s4 e4 => ?_)
  · refine CALLV_func ?_
    refine does_book_isHearing_c2 W n.wit n.knd n.a.per n.a.num n.a.nt n.b.per n.b.num n.b.nt ⟨s.size, 0, none⟩ ⟨s1.size, 0, none⟩ _ t ?_
    unfold T_book_isHearing_c2
    refine ne8 (P := Pg) fun t1 f1 w1 u => ?_
    have u0 := (u 0 _ rfl).cell
    have u1 := (u 1 _ rfl).cell
    have u2 := (u 2 _ rfl).cell
    have u3 := (u 3 _ rfl).cell
    have u4 := (u 4 _ rfl).cell
    have u5 := (u 5 _ rfl).cell
    have u6 := (u 6 _ rfl).cell
    have u7 := (u 7 _ rfl).cell
    have g0 := f1.cell (et.cell o0)
    have g1 := f1.cell (et.cell o1)
    have gf := f1.cell (et.cell a0.cell)
    have bad : ∀ t', Ext t t' → (okClD p.facts p.wits n && plCl n) = false → J_book_isHearing_c2_1 W (endK K E) true t.size ⟨s1.size, 0, none⟩ t' := by
      intro t' ft hb
      unfold J_book_isHearing_c2_1
      refine BR_tt rfl ?_
      unfold J_book_isHearing_c2_0
      refine BR_tt rfl ?_
      try simp only [TUP_mk, AGG_mk, HD_mk, NL_mk, TYI_mk, TYB_mk, TYP_mk, TYL_mk, TYS_mk, TYM_mk, SO_mk, NX_mk, endK_mk, endK_mk', add_0]
      have := hk t' ft
      rw [hb] at this
      exact this
    refine ⟨_, u0, _, g1, ?_⟩
    dsimp only
    rw [wrap_i64 (by omega) (by omega)]
    refine c_within ?_
    try simp only [TUP_mk, AGG_mk, HD_mk, NL_mk, TYI_mk, TYB_mk, TYP_mk, TYL_mk, TYS_mk, TYM_mk, SO_mk, NX_mk, endK_mk, endK_mk', add_0]
    by_cases w1' : 0 ≤ n.wit ∧ n.wit ≤ p.wits - 1
    rotate_left
    · refine BR_tt (by rw [decide_eq_false w1']; rfl) (bad t1 f1 ?_)
      unfold okClD
      rw [decide_eq_false (fun hh => w1' ⟨hh.1, by have := hh.2; omega⟩)]
      rfl
    refine BR_ff (by rw [decide_eq_true w1']; rfl) ?_
    refine ⟨_, u1, ?_⟩
    refine c_within ?_
    try simp only [TUP_mk, AGG_mk, HD_mk, NL_mk, TYI_mk, TYB_mk, TYP_mk, TYL_mk, TYS_mk, TYM_mk, SO_mk, NX_mk, endK_mk, endK_mk', add_0]
    by_cases k1' : 0 ≤ n.knd ∧ n.knd ≤ 2
    rotate_left
    · rw [decide_eq_false k1']
      refine bad t1 f1 ?_
      unfold okClD
      rw [decide_eq_false k1']
      cases decide (0 ≤ n.wit ∧ n.wit < p.wits) <;> rfl
    rw [decide_eq_true k1']
    unfold J_book_isHearing_c2_1
    refine BR_ff rfl ?_
    have eok : (okClD p.facts p.wits n && plCl n) = (okWd p.facts p.wits n.a && ((decide (n.knd = 0) || okWd p.facts p.wits n.b) && plCl n)) := by
      unfold okClD
      rw [decide_eq_true (⟨w1'.1, by omega⟩ : 0 ≤ n.wit ∧ n.wit < p.wits), decide_eq_true k1', Bool.true_and, Bool.true_and, Bool.and_assoc]
    refine ⟨_, gf, _, u2, _, u3, _, u4, ?_⟩
    refine c_badW (x := n.a) g0 g1 ha hb fun t2 f2 => ?_
    try simp only [TUP_mk, AGG_mk, HD_mk, NL_mk, TYI_mk, TYB_mk, TYP_mk, TYL_mk, TYS_mk, TYM_mk, SO_mk, NX_mk, endK_mk, endK_mk', add_0]
    unfold J_book_isHearing_c2_0
    refine BR_not (fun hA => ?_) (fun hA => ?_)
    · try simp only [TUP_mk, AGG_mk, HD_mk, NL_mk, TYI_mk, TYB_mk, TYP_mk, TYL_mk, TYS_mk, TYM_mk, SO_mk, NX_mk, endK_mk, endK_mk', add_0]
      have := hk t2 (f1.trans f2)
      rw [eok, hA] at this
      exact this
    · rw [eok, hA, Bool.true_and] at hk
      refine ⟨_, f2.cell u1, ?_⟩
      refine BR_eq (fun hk0 => ?_) (fun hk0 => ?_)
      · refine ⟨_, f2.cell u5, _, f2.cell u6, _, f2.cell u7, ?_⟩
        try simp only [TUP_mk, AGG_mk, HD_mk, NL_mk, TYI_mk, TYB_mk, TYP_mk, TYL_mk, TYS_mk, TYM_mk, SO_mk, NX_mk, endK_mk, endK_mk', add_0]
        have := hk t2 (f1.trans f2)
        have ep : plCl n = decide (n.b = wd0) := by unfold plCl; rw [decide_eq_true hk0]; simp
        rw [decide_eq_true hk0, ep, Bool.true_or, Bool.true_and, ← b_eq] at this
        exact this
      · refine ⟨_, f2.cell gf, _, f2.cell u5, _, f2.cell u6, _, f2.cell u7, ?_⟩
        refine c_badW (x := n.b) (f2.cell g0) (f2.cell g1) ha hb fun t3 f3 => ?_
        try simp only [TUP_mk, AGG_mk, HD_mk, NL_mk, TYI_mk, TYB_mk, TYP_mk, TYL_mk, TYS_mk, TYM_mk, SO_mk, NX_mk, endK_mk, endK_mk', add_0]
        have := hk t3 ((f1.trans f2).trans f3)
        have ep : plCl n = true := by unfold plCl; rw [decide_eq_false hk0]; rfl
        rw [decide_eq_false hk0, ep, Bool.false_or, Bool.and_true] at this
        exact this
  try simp only [TUP_mk, AGG_mk, HD_mk, NL_mk, TYI_mk, TYB_mk, TYP_mk, TYL_mk, TYS_mk, TYM_mk, SO_mk, NX_mk, endK_mk, endK_mk', add_0]
  rw [all_not]
  unfold J_book_isHearing_0
  refine BR_bool (fun hb1 => ?_) (fun hb1 => ?_)
  rotate_left
  · try simp only [TUP_mk, AGG_mk, HD_mk, NL_mk, TYI_mk, TYB_mk, TYP_mk, TYL_mk, TYS_mk, TYM_mk, SO_mk, NX_mk, endK_mk, endK_mk', add_0]
    have := h s4 (e12.trans e4)
    rw [hok, hb1] at this
    exact this
  refine ⟨_, _, _, e4.cell o4, _, e4.cell a0.cell, ?_⟩
  refine has_word (bad := fun c => !okWd p.facts p.wits c) h2 (hy.ext (e12.trans e4)) (fun n hn t K E et hk => ?_) (fun s5 e5 => ?_)
  · exact c_badW (et.cell (e4.cell o0)) (et.cell (e4.cell o1)) ha hb fun t2 f2 => hk t2 f2
  try simp only [TUP_mk, AGG_mk, HD_mk, NL_mk, TYI_mk, TYB_mk, TYP_mk, TYL_mk, TYS_mk, TYM_mk, SO_mk, NX_mk, endK_mk, endK_mk', add_0]
  rw [all_not]
  have := h s5 ((e12.trans e4).trans e5)
  rw [hok, hb1, Bool.true_and] at this
  exact this
end
end Go.Proofs.YtcjgbanpkmpekaaGreatDoor.G

/- Book, plain: pegs, panels and hearings: both read alike. -/
set_option linter.unusedVariables false
set_option linter.unusedSimpArgs false
set_option maxRecDepth 20000
namespace Go.Proofs.YtcjgbanpkmpekaaGreatDoor.G
open Go
def pg0 : PgS := ⟨0, [], []⟩
def pn0 : PnS := ⟨[], [], []⟩
def hr0 : HrS := ⟨0, 0, 0, [], []⟩
/-! ### Pegs -/
theorem okPost_b {s : Int} {q : Q4} (h : okPost s q = true) (hs : s ≤ 15) : (0 ≤ q.a ∧ q.a ≤ 15) ∧ (0 ≤ q.b ∧ q.b ≤ 15) ∧ (0 ≤ q.c ∧ q.c ≤ 15) ∧ (0 ≤ q.d ∧ q.d ≤ 15) := by
  unfold okPost at h; simp only [decide_eq_true_eq] at h; omega
theorem okLen_b {n : Nat} {q : Q4} (h : okLen n q = true) (hn : n ≤ 4) : (0 ≤ q.a ∧ q.a ≤ 30) ∧ (0 ≤ q.b ∧ q.b ≤ 30) ∧ (0 ≤ q.c ∧ q.c ≤ 30) ∧ (0 ≤ q.d ∧ q.d ≤ 30) := by
  unfold okLen at h; simp only [decide_eq_true_eq] at h; omega
theorem okPg_b {p : PgS} (h : okPg p = true) : (0 ≤ p.side ∧ p.side ≤ 15 ∧ p.posts.length ≤ 4 ∧ p.lens.length ≤ 6) ∧ (∀ q ∈ p.posts, okPost p.side q = true) ∧ ∀ q ∈ p.lens, okLen p.posts.length q = true := by
  unfold okPg at h
  simp only [Bool.and_eq_true, decide_eq_true_eq, List.all_eq_true] at h
  exact h
theorem pg_wok {p : PgS} (h : okPg p = true) : WOk (pgW p) := by
  obtain ⟨⟨h1, h2, h3, h4⟩, h5, h6⟩ := okPg_b h
  unfold pgW
  refine WOk.cons ⟨by simp, fun x hx => ?_⟩ (WOk.app (WOk.map fun q hq => ⟨by simp [postW], fun x hx => ?_⟩) (WOk.map fun q hq => ⟨by simp [chainW], fun x hx => ?_⟩))
  · simp only [List.mem_cons, List.not_mem_nil, or_false] at hx
    rcases hx with rfl | rfl
    · exact (by decide : wOk b_field)
    · exact it_ok h1 (by omega)
  · have := okPost_b (h5 q hq) h2
    simp only [postW, List.mem_cons, List.not_mem_nil, or_false] at hx
    rcases hx with rfl | rfl | rfl
    · exact (by decide : wOk b_post)
    · exact dots_ok (by omega) (by omega) (by omega) (by omega)
    · exact dots_ok (by omega) (by omega) (by omega) (by omega)
  · have := okLen_b (h6 q hq) h3
    simp only [chainW, List.mem_cons, List.not_mem_nil, or_false] at hx
    rcases hx with rfl | rfl | rfl | rfl
    · exact (by decide : wOk b_chain)
    · exact it_ok (by omega) (by omega)
    · exact it_ok (by omega) (by omega)
    · exact dots_ok (by omega) (by omega) (by omega) (by omega)
theorem b_fp : ¬ b_post = b_field := by decide
theorem b_fc : ¬ b_chain = b_field := by decide
theorem b_pc : ¬ b_chain = b_post := by decide
theorem pgStep_post {q : Q4} {s : Int} (h : okPost s q = true) (hs : s ≤ 15) (p : PgS) : pgStep p (postW q) = some { p with posts := p.posts ++ [q] } := by
  have := okPost_b h hs
  unfold postW pgStep
  dsimp only
  rw [if_neg b_fp, if_pos rfl, figs_span (by omega) (by omega) (by omega) (by omega), Option.bind_some]
  dsimp only
  rw [figs_span (by omega) (by omega) (by omega) (by omega)]
  rfl
theorem pgStep_chain {q : Q4} {n : Nat} (h : okLen n q = true) (hn : n ≤ 4) (p : PgS) : pgStep p (chainW q) = some { p with lens := p.lens ++ [q] } := by
  have := okLen_b h hn
  unfold chainW pgStep
  dsimp only
  rw [if_neg b_fc, if_neg b_pc, if_pos rfl, nextN_it (by omega) (by omega), Option.bind_some]
  dsimp only
  rw [nextN_it (by omega) (by omega), Option.bind_some]
  dsimp only
  rw [figs_span (by omega) (by omega) (by omega) (by omega)]
  rfl
theorem pg_run {p : PgS} (h : okPg p = true) : runL pgStep pg0 (pgW p) = some p := by
  obtain ⟨⟨h1, h2, h3, h4⟩, h5, h6⟩ := okPg_b h
  unfold pgW
  simp only [runL]
  have e : pgStep pg0 [b_field, it p.side] = some ⟨p.side, [], []⟩ := by
    unfold pgStep
    dsimp only
    rw [if_pos rfl, nextN_it h1 (by omega)]
    rfl
  rw [e, Option.bind_some]
  have r1 := runL_map (step := pgStep) (fun l => (⟨p.side, l, []⟩ : PgS)) postW p.posts [] (fun q hq acc => pgStep_post (h5 q hq) h2 _)
  rw [runL_app _ _ _ _ r1]
  have r2 := runL_map (step := pgStep) (fun l => (⟨p.side, p.posts, l⟩ : PgS)) chainW p.lens [] (fun q hq acc => pgStep_chain (h6 q hq) h3 _)
  exact r2
theorem pg_docW {p : PgS} (h : okPg p = true) : pgDoc (pgW p) = some p := by
  obtain ⟨⟨h1, h2, h3, h4⟩, h5, h6⟩ := okPg_b h
  unfold pgW pgDoc
  dsimp only
  rw [if_pos rfl]
  have e : numsD [it p.side] = some [p.side] := numsD_it (l := [p.side]) (fun n hn => by simp only [List.mem_singleton] at hn; subst hn; omega)
  rw [e]
  dsimp only
  have r1 := runL_map (step := pgDStep) (fun l => (⟨p.side, l, []⟩ : PgS)) postW p.posts [] (fun q hq acc => by
    have := okPost_b (h5 q hq) h2
    unfold postW pgDStep
    dsimp only
    rw [if_pos ⟨rfl, rfl⟩, spanD_dots (by omega) (by omega) (by omega) (by omega), Option.bind_some, spanD_dots (by omega) (by omega) (by omega) (by omega)]
    rfl)
  rw [runL_app _ _ _ _ r1]
  have r2 := runL_map (step := pgDStep) (fun l => (⟨p.side, p.posts, l⟩ : PgS)) chainW p.lens [] (fun q hq acc => by
    have := okLen_b (h6 q hq) h3
    unfold chainW pgDStep
    dsimp only
    rw [if_pos rfl, numD_it (by omega) (by omega), Option.bind_some, numD_it (by omega) (by omega), Option.bind_some, spanD_dots (by omega) (by omega) (by omega) (by omega)]
    rfl)
  simp only [List.nil_append] at r2 ⊢
  rw [r2, Option.bind_some, if_pos h]
theorem pgDStep_W {a : PgS} {w : List BL} {b : PgS} (h : pgDStep a w = some b) : pgW b = pgW a ++ [w] := by
  unfold pgDStep at h
  split at h
  · rename_i f x y
    split at h
    · rename_i hc
      obtain ⟨u, hu, h2⟩ := Option.bind_eq_some_iff.1 h
      obtain ⟨v, hv, rfl⟩ := Option.map_eq_some_iff.1 h2
      unfold pgW
      simp only [hc.2, List.map_append, List.map_cons, List.map_nil, List.append_nil, List.cons_append]
      rw [(spanD_some hu).1, (spanD_some hv).1, hc.1]
      rfl
    · cases h
  · rename_i f x y z
    split at h
    · rename_i hc
      obtain ⟨u, hu, h2⟩ := Option.bind_eq_some_iff.1 h
      obtain ⟨v, hv, h3⟩ := Option.bind_eq_some_iff.1 h2
      obtain ⟨t, ht, rfl⟩ := Option.map_eq_some_iff.1 h3
      unfold pgW
      simp only [List.map_append, List.map_cons, List.map_nil, List.cons_append, List.append_assoc]
      rw [(numD_some hu).1, (numD_some hv).1, (spanD_some ht).1, hc]
      rfl
    · cases h
  · cases h
theorem pg_doc {L : List (List BL)} {p : PgS} (h : pgDoc L = some p) : okPg p = true ∧ pgW p = L := by
  unfold pgDoc at h
  split at h
  · rename_i f r L
    split at h
    · rename_i hf
      split at h
      · rename_i n hn
        obtain ⟨q, hq, h2⟩ := Option.bind_eq_some_iff.1 h
        split at h2
        · rename_i hok
          injection h2 with h2
          subst h2
          refine ⟨hok, ?_⟩
          have := (runL_inv (W := pgW) (J := fun _ => True) (fun a w b _ h => ⟨trivial, pgDStep_W h⟩) L _ _ trivial hq).2
          rw [this, hf]
          have e := numsD_some hn
          rw [e]
          rfl
        · cases h2
      · cases h
    · cases h
  · cases h
theorem kind_pg : KindT pgStep pg0 okPg pgW pgDoc where
  good := fun p h => (pg_wok h).good
  ne := fun p => by simp [pgW]
  run := fun p h => pg_run h
  docW := fun p h => pg_docW h
  doc := fun L p h => pg_doc h
  len := fun p h => by
    have h1 := txt_len (pg_wok h)
    obtain ⟨⟨_, _, h3, h4⟩, _⟩ := okPg_b h
    have : (pgW p).length ≤ 11 := by simp [pgW]; omega
    omega
/-! ### Panels -/
theorem okPn_b {p : PnS} (h : okPn p = true) : (p.loads.length ≤ 6 ∧ p.needs.length ≤ 6 ∧ p.kin.length ≤ 10) ∧ (∀ n ∈ p.loads, 0 ≤ n ∧ n ≤ 6) ∧ (∀ n ∈ p.needs, 0 ≤ n ∧ n ≤ 3) ∧ ∀ k ∈ p.kin, (0 ≤ k.1 ∧ k.1 < p.loads.length) ∧ 0 ≤ k.2 ∧ k.2 < p.needs.length := by
  unfold okPn at h
  simp only [Bool.and_eq_true, decide_eq_true_eq, List.all_eq_true, okKin] at h
  exact h
theorem pn_wok {p : PnS} (h : okPn p = true) : WOk (pnW p) := by
  obtain ⟨⟨h1, h2, h3⟩, h4, h5, h6⟩ := okPn_b h
  unfold pnW
  refine WOk.cons ⟨by simp; omega, fun x hx => ?_⟩ (WOk.cons ⟨by simp; omega, fun x hx => ?_⟩ (WOk.map fun q hq => ⟨by simp [kinW], fun x hx => ?_⟩))
  · rcases List.mem_cons.1 hx with rfl | hx
    · exact (by decide : wOk b_judges)
    · obtain ⟨n, hn, rfl⟩ := List.mem_map.1 hx
      have := h4 n hn
      exact it_ok (by omega) (by omega)
  · rcases List.mem_cons.1 hx with rfl | hx
    · exact (by decide : wOk b_plots)
    · obtain ⟨n, hn, rfl⟩ := List.mem_map.1 hx
      have := h5 n hn
      exact it_ok (by omega) (by omega)
  · have := h6 q hq
    simp only [kinW, List.mem_cons, List.not_mem_nil, or_false] at hx
    rcases hx with rfl | rfl | rfl
    · exact (by decide : wOk b_kin)
    · exact it_ok (by omega) (by omega)
    · exact it_ok (by omega) (by omega)
theorem b_pj : ¬ b_plots = b_judges := by decide
theorem b_kj : ¬ b_kin = b_judges := by decide
theorem b_kp : ¬ b_kin = b_plots := by decide
theorem pn_run {p : PnS} (h : okPn p = true) : runL pnStep pn0 (pnW p) = some p := by
  obtain ⟨⟨h1, h2, h3⟩, h4, h5, h6⟩ := okPn_b h
  unfold pnW
  simp only [runL]
  have e1 : pnStep pn0 (b_judges :: p.loads.map it) = some ⟨p.loads, [], []⟩ := by
    unfold pnStep
    dsimp only
    rw [if_pos rfl, allN_it (fun n hn => by have := h4 n hn; omega)]
    rfl
  have e2 : pnStep ⟨p.loads, [], []⟩ (b_plots :: p.needs.map it) = some ⟨p.loads, p.needs, []⟩ := by
    unfold pnStep
    dsimp only
    rw [if_neg b_pj, if_pos rfl, allN_it (fun n hn => by have := h5 n hn; omega)]
    rfl
  rw [e1, Option.bind_some, e2, Option.bind_some]
  exact runL_map (step := pnStep) (fun l => (⟨p.loads, p.needs, l⟩ : PnS)) kinW p.kin [] (fun q hq acc => by
    have := h6 q hq
    unfold kinW pnStep
    dsimp only
    rw [if_neg b_kj, if_neg b_kp, if_pos rfl, nextN_it (by omega) (by omega), Option.bind_some]
    dsimp only
    rw [nextN_it (by omega) (by omega)]
    rfl)
theorem pn_docW {p : PnS} (h : okPn p = true) : pnDoc (pnW p) = some p := by
  obtain ⟨⟨h1, h2, h3⟩, h4, h5, h6⟩ := okPn_b h
  unfold pnW pnDoc
  dsimp only
  rw [if_pos ⟨rfl, rfl⟩, numsD_it (fun n hn => by have := h4 n hn; omega), Option.bind_some, numsD_it (fun n hn => by have := h5 n hn; omega), Option.bind_some]
  have r := runL_map (step := pnDStep) (fun l => (⟨p.loads, p.needs, l⟩ : PnS)) kinW p.kin [] (fun q hq acc => by
    have := h6 q hq
    have e : numsD [it q.1, it q.2] = some [q.1, q.2] := numsD_it (l := [q.1, q.2]) (fun n hn => by simp only [List.mem_cons, List.not_mem_nil, or_false] at hn; rcases hn with rfl | rfl <;> omega)
    unfold kinW pnDStep
    dsimp only
    rw [e]
    dsimp only
    rw [if_pos rfl])
  rw [r, Option.bind_some]
  exact if_pos h
theorem pnDStep_W {a : PnS} {w : List BL} {b : PnS} (h : pnDStep a w = some b) : pnW b = pnW a ++ [w] := by
  unfold pnDStep at h
  split at h
  · rename_i f r
    split at h
    · rename_i x y hn
      split at h
      · rename_i hf
        injection h with h
        subst h
        unfold pnW
        simp only [List.map_append, List.map_cons, List.map_nil, List.cons_append]
        rw [numsD_some hn, hf]
        rfl
      · cases h
    · cases h
  · cases h
theorem pn_doc {L : List (List BL)} {p : PnS} (h : pnDoc L = some p) : okPn p = true ∧ pnW p = L := by
  unfold pnDoc at h
  split at h
  · rename_i f r g q L
    split at h
    · rename_i hf
      obtain ⟨a, ha, h2⟩ := Option.bind_eq_some_iff.1 h
      obtain ⟨b, hb, h3⟩ := Option.bind_eq_some_iff.1 h2
      obtain ⟨t, ht, h4⟩ := Option.bind_eq_some_iff.1 h3
      split at h4
      · rename_i hok
        injection h4 with h4
        subst h4
        refine ⟨hok, ?_⟩
        have := (runL_inv (W := pnW) (J := fun _ => True) (fun a w b _ h => ⟨trivial, pnDStep_W h⟩) L _ _ trivial ht).2
        rw [this, hf.1, hf.2, numsD_some ha, numsD_some hb]
        rfl
      · cases h4
    · cases h
  · cases h
theorem kind_pn : KindT pnStep pn0 okPn pnW pnDoc where
  good := fun p h => (pn_wok h).good
  ne := fun p => by simp [pnW]
  run := fun p h => pn_run h
  docW := fun p h => pn_docW h
  doc := fun L p h => pn_doc h
  len := fun p h => by
    have h1 := txt_len (pn_wok h)
    obtain ⟨⟨_, _, h3⟩, _⟩ := okPn_b h
    have : (pnW p).length ≤ 12 := by simp [pnW]; omega
    omega
/-! ### Hearings -/
theorem okHr_b {h : HrS} (hh : okHr h = true) : ((0 ≤ h.facts ∧ h.facts ≤ 6) ∧ (0 ≤ h.wits ∧ h.wits ≤ 6) ∧ (0 ≤ h.liars ∧ h.liars ≤ h.wits) ∧ h.claims.length ≤ 14 ∧ h.known.length ≤ 4) ∧ (∀ c ∈ h.claims, okClD h.facts h.wits c = true ∧ plCl c = true) ∧ ∀ w ∈ h.known, okWd h.facts h.wits w = true := by
  unfold okHr okHrD plHr at hh
  simp only [Bool.and_eq_true, decide_eq_true_eq, List.all_eq_true] at hh
  obtain ⟨⟨h1, h2, h3⟩, h4⟩ := hh
  exact ⟨h1, fun c hc => ⟨h2 c hc, h4 c hc⟩, h3⟩
theorem okWd_b {f w : Int} {x : Wd} (h : okWd f w x = true) (hf : f ≤ 6) (hw : w ≤ 6) : 0 ≤ x.num ∧ x.num ≤ 5 := by
  unfold okWd at h
  split at h <;> simp only [decide_eq_true_eq] at h <;> omega
theorem okCl_b {f w : Int} {c : Cl} (h : okClD f w c = true) (hf : f ≤ 6) (hw : w ≤ 6) : (0 ≤ c.wit ∧ c.wit ≤ 5) ∧ (0 ≤ c.knd ∧ c.knd ≤ 2) ∧ (0 ≤ c.a.num ∧ c.a.num ≤ 5) ∧ (c.knd = 0 ∨ (0 ≤ c.b.num ∧ c.b.num ≤ 5)) := by
  unfold okClD at h
  simp only [Bool.and_eq_true, Bool.or_eq_true, decide_eq_true_eq] at h
  obtain ⟨h1, h2, h3, h4⟩ := h
  have := okWd_b h3 hf hw
  refine ⟨by omega, by omega, by omega, ?_⟩
  rcases h4 with h4 | h4
  · exact .inl h4
  · exact .inr (okWd_b h4 hf hw)
theorem kind_ok (k : Int) : wOk (kindT k) := by
  unfold kindT
  split
  · decide
  · split <;> decide
theorem hr_wok {h : HrS} (hh : okHr h = true) : WOk (hrW h) := by
  obtain ⟨⟨h1, h2, h3, h4, h5⟩, h6, h7⟩ := okHr_b hh
  unfold hrW
  refine WOk.cons ⟨by simp, fun x hx => ?_⟩ (WOk.app (WOk.map fun q hq => ⟨?_, fun x hx => ?_⟩) (WOk.map fun q hq => ⟨by simp [knownW], fun x hx => ?_⟩))
  · simp only [List.mem_cons, List.not_mem_nil, or_false] at hx
    rcases hx with rfl | rfl | rfl | rfl
    · exact (by decide : wOk b_hearing)
    · exact it_ok (by omega) (by omega)
    · exact it_ok (by omega) (by omega)
    · exact it_ok (by omega) (by omega)
  · unfold clW; split <;> simp
  · have hc := okCl_b (h6 q hq).1 (by omega) (by omega)
    unfold clW at hx
    rcases List.mem_append.1 hx with hx | hx
    · simp only [List.mem_cons, List.not_mem_nil, or_false] at hx
      rcases hx with rfl | rfl | rfl
      · exact it_ok (by omega) (by omega)
      · exact kind_ok _
      · exact wd_ok (by omega) (by omega)
    · split at hx
      · simp at hx
      · rename_i hk
        simp only [List.mem_cons, List.not_mem_nil, or_false] at hx
        subst hx
        exact wd_ok (by omega) (by omega)
  · have hw := okWd_b (h7 q hq) (by omega) (by omega)
    simp only [knownW, List.mem_cons, List.not_mem_nil, or_false] at hx
    rcases hx with rfl | rfl
    · exact (by decide : wOk b_known)
    · exact wd_ok (by omega) (by omega)
theorem b_kh : ¬ b_known = b_hearing := by decide
theorem it_b {n : Int} (h : 0 ≤ n) {c : UInt8} {r : BL} (hc : c.toNat < 48 ∨ 57 < c.toNat) : ¬ it n = c :: r := fun e => it_not h hc (by rw [e]; simp)
theorem it_h {n : Int} (h : 0 ≤ n) : ¬ it n = b_hearing := it_b h (.inr (by decide))
theorem it_k {n : Int} (h : 0 ≤ n) : ¬ it n = b_known := it_b h (.inr (by decide))
theorem kindL_T {k : Int} (h : 0 ≤ k ∧ k ≤ 2) : kindL (kindT k) = k := by
  have : k = 0 ∨ k = 1 ∨ k = 2 := by omega
  rcases this with rfl | rfl | rfl <;> decide
theorem pl_b {c : Cl} (h : plCl c = true) (hk : c.knd = 0) : c.b = wd0 := by
  unfold plCl at h
  simpa [hk] using h
theorem claimL_W {f w : Int} {c : Cl} (h : okClD f w c = true) (hp : plCl c = true) (hf : f ≤ 6) (hw : w ≤ 6) : ∃ r, clW c = it c.wit :: r ∧ claimL (it c.wit) r = some c := by
  have hb := okCl_b h hf hw
  refine ⟨_, rfl, ?_⟩
  unfold claimL
  rw [fig_it (by omega) (by omega), Option.bind_some]
  dsimp only [List.append_eq, List.cons_append, List.nil_append]
  rw [nextW_wd (by omega) (by omega), Option.bind_some, kindL_T hb.2.1]
  obtain ⟨wi, k, a, b⟩ := c
  simp only at hb hp ⊢
  by_cases hk : k = 0
  · have := pl_b hp hk
    simp only at this
    rw [if_pos hk, this]
  · rw [if_neg hk, if_neg hk, nextW_wd (by omega) (by omega)]
    rfl
theorem claimD_W {f w : Int} {c : Cl} (h : okClD f w c = true) (hp : plCl c = true) (hf : f ≤ 6) (hw : w ≤ 6) : claimD (clW c) = some c := by
  have hb := okCl_b h hf hw
  unfold clW claimD
  simp only [List.cons_append, List.nil_append]
  rw [numD_it (by omega) (by omega), Option.bind_some, wordD_wd (by omega) (by omega), Option.bind_some, kindL_T hb.2.1]
  obtain ⟨wi, k, a, b⟩ := c
  simp only at hb hp ⊢
  rw [if_neg (by omega)]
  by_cases hk : k = 0
  · have := pl_b hp hk
    simp only at this
    rw [if_pos hk, if_pos hk, if_pos rfl, this, hk]
  · rw [if_neg hk, if_neg hk]
    dsimp only
    rw [wordD_wd (by omega) (by omega)]
    rfl
theorem hr_run {h : HrS} (hh : okHr h = true) : runL hrStep hr0 (hrW h) = some h := by
  obtain ⟨⟨h1, h2, h3, h4, h5⟩, h6, h7⟩ := okHr_b hh
  unfold hrW
  simp only [runL]
  have e : hrStep hr0 [b_hearing, it h.facts, it h.wits, it h.liars] = some ⟨h.facts, h.wits, h.liars, [], []⟩ := by
    unfold hrStep
    dsimp only
    rw [if_pos rfl, nextN_it (by omega) (by omega), Option.bind_some]
    dsimp only
    rw [nextN_it (by omega) (by omega), Option.bind_some]
    dsimp only
    rw [nextN_it (by omega) (by omega)]
    rfl
  rw [e, Option.bind_some]
  have r1 := runL_map (step := hrStep) (fun l => (⟨h.facts, h.wits, h.liars, l, []⟩ : HrS)) clW h.claims [] (fun q hq acc => by
    obtain ⟨r, e1, e2⟩ := claimL_W (h6 q hq).1 (h6 q hq).2 (by omega) (by omega)
    have hb := okCl_b (h6 q hq).1 (by omega) (by omega)
    rw [e1]
    unfold hrStep
    dsimp only
    rw [if_neg (it_h (by omega)), if_neg (it_k (by omega)), e2]
    rfl)
  rw [runL_app _ _ _ _ r1]
  exact runL_map (step := hrStep) (fun l => (⟨h.facts, h.wits, h.liars, h.claims, l⟩ : HrS)) knownW h.known [] (fun q hq acc => by
    have hb := okWd_b (h7 q hq) (by omega) (by omega)
    unfold knownW hrStep
    dsimp only
    rw [if_neg b_kh, if_pos rfl, nextW_wd (by omega) (by omega)]
    rfl)
theorem hr_docW {h : HrS} (hh : okHr h = true) : hrDoc (hrW h) = some h := by
  obtain ⟨⟨h1, h2, h3, h4, h5⟩, h6, h7⟩ := okHr_b hh
  unfold hrW hrDoc
  dsimp only
  rw [if_pos rfl]
  have e : numsD [it h.facts, it h.wits, it h.liars] = some [h.facts, h.wits, h.liars] := numsD_it (l := [h.facts, h.wits, h.liars]) (fun n hn => by simp only [List.mem_cons, List.not_mem_nil, or_false] at hn; rcases hn with rfl | rfl | rfl <;> omega)
  rw [e]
  dsimp only
  have r1 := runL_map (step := hrDStep) (fun l => (⟨h.facts, h.wits, h.liars, l, []⟩ : HrS)) clW h.claims [] (fun q hq acc => by
    obtain ⟨r, e1, _⟩ := claimL_W (h6 q hq).1 (h6 q hq).2 (by omega) (by omega)
    have e2 := claimD_W (h6 q hq).1 (h6 q hq).2 (by omega) (by omega)
    have hb := okCl_b (h6 q hq).1 (by omega) (by omega)
    rw [e1] at e2 ⊢
    unfold hrDStep
    dsimp only
    rw [if_neg (it_k (by omega)), if_pos rfl, e2]
    rfl)
  rw [runL_app _ _ _ _ r1]
  have r2 := runL_map (step := hrDStep) (fun l => (⟨h.facts, h.wits, h.liars, h.claims, l⟩ : HrS)) knownW h.known [] (fun q hq acc => by
    have hb := okWd_b (h7 q hq) (by omega) (by omega)
    unfold knownW hrDStep
    dsimp only
    rw [if_pos rfl, wordD_wd (by omega) (by omega)]
    rfl)
  simp only [List.nil_append] at r2 ⊢
  rw [r2, Option.bind_some, if_pos]
  unfold okHr at hh
  simp only [Bool.and_eq_true] at hh
  exact hh.1
theorem kindL_some {k : BL} (h : ¬ kindL k < 0) : kindT (kindL k) = k := by
  unfold kindL at h ⊢
  split
  · rename_i e; rw [← e]; decide
  · split
    · rename_i e; rw [← e]; decide
    · split
      · rename_i e; rw [← e]; decide
      · rename_i h1 h2 h3
        rw [if_neg h1, if_neg h2, if_neg h3] at h
        omega
theorem claimD_some {l : List BL} {c : Cl} (h : claimD l = some c) : clW c = l ∧ plCl c = true := by
  unfold claimD at h
  split at h
  · rename_i f k a r
    obtain ⟨n, hn, h2⟩ := Option.bind_eq_some_iff.1 h
    obtain ⟨x, hx, h3⟩ := Option.bind_eq_some_iff.1 h2
    split at h3
    · cases h3
    · rename_i hk
      have ek := kindL_some hk
      split at h3
      · rename_i hk0
        split at h3
        · rename_i hr
          injection h3 with h3
          subst h3
          subst hr
          refine ⟨?_, rfl⟩
          unfold clW
          simp only [if_true, List.append_nil]
          rw [← (numD_some hn).1, ← (wordD_some hx).1, ← hk0, ek]
        · cases h3
      · rename_i hk0
        split at h3
        · rename_i b
          obtain ⟨y, hy, rfl⟩ := Option.map_eq_some_iff.1 h3
          refine ⟨?_, by unfold plCl; simp [hk0]⟩
          unfold clW
          simp only [if_neg hk0]
          rw [← (numD_some hn).1, ← (wordD_some hx).1, ← (wordD_some hy).1, ek]
          rfl
        · cases h3
  · cases h
theorem hrDStep_W {a : HrS} {w : List BL} {b : HrS} (ha : plHr a = true) (h : hrDStep a w = some b) : plHr b = true ∧ hrW b = hrW a ++ [w] := by
  unfold hrDStep at h
  split at h
  · rename_i f r
    split at h
    · rename_i hf
      split at h
      · rename_i w
        obtain ⟨x, hx, rfl⟩ := Option.map_eq_some_iff.1 h
        refine ⟨ha, ?_⟩
        unfold hrW
        simp only [List.map_append, List.map_cons, List.map_nil, List.cons_append, List.append_assoc]
        rw [hf, (wordD_some hx).1]
        rfl
      · cases h
    · split at h
      · rename_i hk
        obtain ⟨c, hc, rfl⟩ := Option.map_eq_some_iff.1 h
        obtain ⟨h1, h2⟩ := claimD_some hc
        refine ⟨?_, ?_⟩
        · unfold plHr at ha ⊢
          simp only [List.all_append, ha, List.all_cons, h2, List.all_nil, Bool.and_self]
        · unfold hrW
          simp only [hk, List.map_append, List.map_cons, List.map_nil, List.cons_append, List.append_nil]
          rw [h1]
      · cases h
  · cases h
theorem hr_doc {L : List (List BL)} {p : HrS} (h : hrDoc L = some p) : okHr p = true ∧ hrW p = L := by
  unfold hrDoc at h
  split at h
  · rename_i f r L
    split at h
    · rename_i hf
      split at h
      · rename_i a b c hn
        obtain ⟨q, hq, h2⟩ := Option.bind_eq_some_iff.1 h
        split at h2
        · rename_i hok
          injection h2 with h2
          subst h2
          obtain ⟨j, e1⟩ := runL_inv (W := hrW) (J := fun x => plHr x = true) (fun a w b j h => hrDStep_W j h) L _ _ rfl hq
          refine ⟨by unfold okHr; rw [hok, j]; rfl, ?_⟩
          rw [e1, hf, numsD_some hn]
          rfl
        · cases h2
      · cases h
    · cases h
  · cases h
theorem kind_hr : KindT hrStep hr0 okHr hrW hrDoc where
  good := fun p h => (hr_wok h).good
  ne := fun p => by simp [hrW]
  run := fun p h => hr_run h
  docW := fun p h => hr_docW h
  doc := fun L p h => hr_doc h
  len := fun p h => by
    have h1 := txt_len (hr_wok h)
    obtain ⟨⟨_, _, _, h4, h5⟩, _⟩ := okHr_b h
    have : (hrW p).length ≤ 19 := by simp [hrW]; omega
    omega
end Go.Proofs.YtcjgbanpkmpekaaGreatDoor.G

/- Texts of pegs and panels. -/
set_option linter.unusedVariables false
set_option linter.unusedSimpArgs false
set_option maxRecDepth 20000
namespace Go.Proofs.YtcjgbanpkmpekaaGreatDoor.G
open Go.V
theorem zc_77 : zc Pg 77 = [.int .i64 0, .int .i64 0, .int .i64 0, .int .i64 0] := by kernel_rfl
theorem zc_83 : zc Pg 83 = [.int .i64 0, .int .i64 0, .int .i64 0, .int .i64 0] := by kernel_rfl
theorem zc_85 : zc Pg 85 = [.int .i64 0, .int .i64 0] := by kernel_rfl
theorem txt_lenG {m : Nat} : ∀ {W : List (List BL)}, (∀ ws ∈ W, (ln ws).length ≤ m) → (txt W).length ≤ m * W.length
  | [], _ => by simp [txt]
  | ws :: W, h => by
    have h1 := h ws (by simp)
    have h3 := txt_lenG (W := W) (m := m) (fun x hx => h x (by simp [hx]))
    rw [txt_cons, List.length_append, List.length_cons, Nat.mul_add]
    omega
theorem ln_len {ws : List BL} {k m : Nat} (hk : ws.length ≤ k) (h : ∀ w ∈ ws, w.length ≤ m) : (ln ws).length ≤ (m + 1) * k + 1 := by
  have h1 := jn_lenG 32 h
  have h2 : (m + 1) * ws.length ≤ (m + 1) * k := Nat.mul_le_mul_left _ hk
  simp [ln]; omega
theorem ln_len10 {s : Hp} {l : List Prt} (h : ∀ p ∈ l, PrtOk s p) (h10 : l.length ≤ 10) : (ln (l.flatMap prtW)).length ≤ 10100001 := by
  obtain ⟨h1, h2⟩ := acc_len h
  have := ln_len (k := 100000) (m := 100) (by omega) h2
  omega
theorem txt_snoc (A : List (List BL)) (w : List BL) : txt (A ++ [w]) = txt A ++ ln w := by rw [txt_app]; simp [txt]
theorem take_map {α β : Type} {f : α → β} {l : List α} {k : Nat} (h : k < l.length) : (l.take (k + 1)).map f = (l.take k).map f ++ [f l[k]] := by
  rw [List.take_add_one, List.getElem?_eq_getElem h, List.map_append]; rfl
theorem wr_k {k : Nat} (h : k ≤ 1000000) : IntKind.wrap .i64 ((k : Int) + 1) = ((k + 1 : Nat) : Int) := by rw [wrap_i64 (by omega) (by omega)]; omega
theorem ms_k {k n : Nat} (h : k < n) (h2 : k ≤ 1000000) : n - (IntKind.wrap .i64 ((k : Int) + 1)).toNat < n - ((k : Nat) : Int).toNat := by rw [wr_k h2]; omega
def rg4 (q : Q4) : Prop := (rg q.a ∧ rg q.b) ∧ rg q.c ∧ rg q.d
/-- Pegs, as they are looked at. -/
structure PgC (s : Hp) (B : Nat) (p : PgS) : Prop where
  c0 : cellAt s ⟨B, 0, none⟩ = some (.int .i64 p.side)
  c1 : ∃ x c, cellAt s ⟨B, 1, none⟩ = some (.slice x p.posts.length c) ∧ RowAt s x (p.posts.flatMap q4V)
  c2 : ∃ x c, cellAt s ⟨B, 2, none⟩ = some (.slice x p.lens.length c) ∧ RowAt s x (p.lens.flatMap q4V)
structure PgG (p : PgS) : Prop where
  side : rg p.side
  posts : ∀ q ∈ p.posts, rg4 q
  lens : ∀ q ∈ p.lens, rg4 q
  n1 : p.posts.length ≤ 10000
  n2 : p.lens.length ≤ 10000
theorem PgC.ext {s s' : Hp} {B : Nat} {p : PgS} (e : Ext s s') (h : PgC s B p) : PgC s' B p where
  c0 := e.cell h.c0
  c1 := by obtain ⟨x, c, h1, h2⟩ := h.c1; exact ⟨x, c, e.cell h1, h2.ext e⟩
  c2 := by obtain ⟨x, c, h1, h2⟩ := h.c2; exact ⟨x, c, e.cell h1, h2.ext e⟩
section
variable {W : World} {K : VK} {E : List PanicEntry → Hp → Prop} {s s0 : Hp}
theorem row3 {a : Addr} {v0 v1 v2 : Value} (h0 : cellAt s (a.add 0) = some v0) (h1 : cellAt s (a.add 1) = some v1) (h2 : cellAt s (a.add 2) = some v2) : RowAt s (some a) [v0, v1, v2] := fun i hi => ⟨a, rfl, by
  match i, hi with
  | 0, _ => exact h0
  | 1, _ => exact h1
  | 2, _ => exact h2⟩
/-- What a list of some parts holds. -/
theorem row_new {vs : List Value} {B : Nat} (h : ∀ i v, vs[i]? = some v → Own s ⟨B, i, none⟩ v) : RowAt s (some ⟨B, 0, none⟩) vs := fun i hi => ⟨_, rfl, by
  rw [Nat.mul_one, add_nil, Nat.zero_add]
  exact (h i _ (List.getElem?_eq_getElem hi)).cell⟩
/-- A line of some parts. -/
theorem said_new {l : List Prt} {n : Nat} (he : Env s) (hn : n = l.length) (h10 : l.length ≤ 10) (hok : ∀ p ∈ l, PrtOk s p) (hk : ∀ s', Ext s s' → K (.string (bs (ln (l.flatMap prtW)))) s') : NEW 20 (l.map prtV) (fun B => CALL Pg W F_book_said [.slice (some ⟨B, 0, none⟩) n n] K E) s := by
  subst hn
  refine NEW_rule fun s1 e1 z1 o _ => ?_
  exact c_said (he.ext e1) rfl h10 (row_new o) (fun p hp => (hok p hp).ext e1) fun s2 e2 => hk s2 (e1.trans e2)
theorem pg_loop1 {p : PgS} {B : Nat} {a : BL} {y : Option Addr} {c : Nat} {zt : ByteArray} (he : Env s0) (hp : PgC s0 B p) (g : PgG p) (e : Ext s0 s) (hl : a.length ≤ 1000000000000) (hy : RowAt s0 y (p.lens.flatMap q4V))
    (hk : ∀ s', Ext s0 s' → K (.tuple #[.string (bs (a ++ txt (p.lens.map chainW))), .bool (okPg p)]) s') : L_book_pegs_text_1 W (endK K E) (some ⟨B, 0, none⟩) zt y p.lens.length c (p.lens.length : Int) (bs a) 0 s := by
  refine L_book_pegs_text_1_rule W _ _ _ _ _ _ _ (fun t n s' => ∃ k : Nat, n = (k : Int) ∧ k ≤ p.lens.length ∧ Ext s0 s' ∧ t = bs (a ++ txt ((p.lens.take k).map chainW))) (fun t n s' => p.lens.length - n.toNat) _ _ s ⟨0, rfl, by omega, e, by simp [txt]⟩ ?_
  rintro t n s1 ⟨k, rfl, hk1, e1, rfl⟩
  unfold B_book_pegs_text_1
  have g2 := g.n2
  refine BR_dec (fun hlt => ?_) (fun hge => ?_)
  · have hkl : k < p.lens.length := by omega
    obtain ⟨b, hb, hc⟩ := rowF (f := q4V) (M := 4) (fun _ => rfl) hy k hkl (by omega)
    subst hb
    refine IXS_nat hkl ?_
    refine ⟨_, e1.cell (hc 0 (by omega)), _, e1.cell (hc 1 (by omega)), _, e1.cell (hc 2 (by omega)), _, e1.cell (hc 3 (by omega)), ?_⟩
    refine nw4 zc_83 rfl rfl rfl rfl fun s2 e2 z2 o0 o1 o2 o3 => ?_
    refine ⟨_, o0.cell, _, o1.cell, _, o2.cell, _, o3.cell, ?_⟩
    obtain ⟨⟨r1, r2⟩, r3, r4⟩ := g.lens _ (List.getElem_mem hkl)
    have hPok : ∀ q ∈ [Prt.str b_chain, .num p.lens[k].a, .num p.lens[k].b, .span p.lens[k].c p.lens[k].d], PrtOk s2 q := by
      intro q hq
      simp only [List.mem_cons, List.not_mem_nil, or_false] at hq
      rcases hq with rfl | rfl | rfl | rfl
      · show 5 ≤ 100; omega
      · exact r1
      · exact r2
      · exact ⟨r3, r4⟩
    refine said_new (l := [.str b_chain, .num p.lens[k].a, .num p.lens[k].b, .span p.lens[k].c p.lens[k].d]) (he.ext (e1.trans e2)) rfl (by simp) hPok fun s3 e3 => ?_
    try simp only [TUP_mk, AGG_mk, HD_mk, NL_mk, TYI_mk, TYB_mk, TYP_mk, TYL_mk, TYS_mk, TYM_mk, SO_mk, NX_mk, endK_mk, endK_mk', add_0]
    have hL := ln_len10 hPok (by simp)
    have hT := txt_lenG (W := (p.lens.take k).map chainW) (m := 500) (fun ws hws => by
      obtain ⟨q, hq, rfl⟩ := List.mem_map.1 hws
      obtain ⟨⟨r1, r2⟩, r3, r4⟩ := g.lens q (List.mem_of_mem_take hq)
      have := ln_len (ws := chainW q) (k := 4) (m := 100) (by simp [chainW]) (fun w hw => by
        simp only [chainW, List.mem_cons, List.not_mem_nil, or_false] at hw
        rcases hw with rfl | rfl | rfl | rfl
        · show 5 ≤ 100; omega
        · have := it_len r1.1.1 r1.1.2; omega
        · have := it_len r2.1.1 r2.1.2; omega
        · have := dots_len r3 r4; omega)
      omega)
    have hTl : ((p.lens.take k).map chainW).length ≤ 10000 := by simp; omega
    refine STC_bs (by simp only [List.length_append] at hL ⊢; omega) ?_
    try simp only [TUP_mk, AGG_mk, HD_mk, NL_mk, TYI_mk, TYB_mk, TYP_mk, TYL_mk, TYS_mk, TYM_mk, SO_mk, NX_mk, endK_mk, endK_mk', add_0]
    refine ⟨_, _, rfl, ⟨k + 1, wr_k (by omega), by omega, (e1.trans e2).trans e3, ?_⟩, ms_k hkl (by omega)⟩
    rw [take_map hkl, txt_snoc, List.append_assoc]
    rfl
  · have hkl : k = p.lens.length := by omega
    subst hkl
    rw [List.take_length]
    obtain ⟨x1, c1, h1, h2⟩ := hp.c1
    obtain ⟨x2, c2, h3, h4⟩ := hp.c2
    refine ⟨_, e1.cell hp.c0, _, _, _, e1.cell h1, _, _, _, e1.cell h3, ?_⟩
    refine c_isPegs (h2.ext e1) (h4.ext e1) (by have := g.n1; omega) (by omega) fun s2 e2 => ?_
    try simp only [TUP_mk, AGG_mk, HD_mk, NL_mk, TYI_mk, TYB_mk, TYP_mk, TYL_mk, TYS_mk, TYM_mk, SO_mk, NX_mk, endK_mk, endK_mk', add_0]
    exact hk s2 (e1.trans e2)
theorem c_pegs_text {p : PgS} {B : Nat} (he : Env s) (hp : PgC s B p) (g : PgG p) (hk : ∀ s', Ext s s' → K (.tuple #[.string (bs (txt (pgW p))), .bool (okPg p)]) s') : CALL Pg W F_book_pegs_text [.pointer (some ⟨B, 0, none⟩)] K E s := by
  refine does_book_pegs_text W _ _ s ?_
  unfold T_book_pegs_text
  try simp only [TUP_mk, AGG_mk, HD_mk, NL_mk, TYI_mk, TYB_mk, TYP_mk, TYL_mk, TYS_mk, TYM_mk, SO_mk, NX_mk, endK_mk, endK_mk', add_0]
  refine ⟨_, hp.c0, ?_⟩
  have hPok : ∀ q ∈ [Prt.str b_field, .num p.side], PrtOk s q := by
    intro q hq
    simp only [List.mem_cons, List.not_mem_nil, or_false] at hq
    rcases hq with rfl | rfl
    · show 5 ≤ 100; omega
    · exact g.side
  refine said_new (l := [.str b_field, .num p.side]) he rfl (by simp) hPok fun s1 e1 => ?_
  try simp only [TUP_mk, AGG_mk, HD_mk, NL_mk, TYI_mk, TYB_mk, TYP_mk, TYL_mk, TYS_mk, TYM_mk, SO_mk, NX_mk, endK_mk, endK_mk', add_0]
  obtain ⟨x1, c1, h1, h2⟩ := hp.c1
  obtain ⟨x2, c2, h3, h4⟩ := hp.c2
  have g1 := g.n1
  have g2 := g.n2
  refine ⟨_, _, _, e1.cell h1, ?_⟩
  have hA := ln_len10 hPok (by simp)
  have eA : [Prt.str b_field, .num p.side].flatMap prtW = [b_field, it p.side] := rfl
  rw [eA] at hA ⊢
  generalize hAd : ln [b_field, it p.side] = A at hA ⊢
  refine L_book_pegs_text_0_rule W _ _ _ _ _ _ _ (fun t n s' => ∃ k : Nat, n = (k : Int) ∧ k ≤ p.posts.length ∧ Ext s s' ∧ t = bs (A ++ txt ((p.posts.take k).map postW))) (fun t n s' => p.posts.length - n.toNat) _ _ s1 ⟨0, rfl, by omega, e1, by simp [txt]⟩ ?_
  rintro t n s2 ⟨k, rfl, hk1, e2, rfl⟩
  unfold B_book_pegs_text_0
  have hT := txt_lenG (W := (p.posts.take k).map postW) (m := 500) (fun ws hws => by
    obtain ⟨q, hq, rfl⟩ := List.mem_map.1 hws
    obtain ⟨⟨r1, r2⟩, r3, r4⟩ := g.posts q (List.mem_of_mem_take hq)
    have := ln_len (ws := postW q) (k := 4) (m := 100) (by simp [postW]) (fun w hw => by
      simp only [postW, List.mem_cons, List.not_mem_nil, or_false] at hw
      rcases hw with rfl | rfl | rfl
      · show 4 ≤ 100; omega
      · have := dots_len r1 r2; omega
      · have := dots_len r3 r4; omega)
    omega)
  have hTl : ((p.posts.take k).map postW).length ≤ 10000 := by simp; omega
  refine BR_dec (fun hlt => ?_) (fun hge => ?_)
  · have hkl : k < p.posts.length := by omega
    obtain ⟨b, hb, hc⟩ := rowF (f := q4V) (M := 4) (fun _ => rfl) h2 k hkl (by omega)
    subst hb
    refine IXS_nat hkl ?_
    refine ⟨_, e2.cell (hc 0 (by omega)), _, e2.cell (hc 1 (by omega)), _, e2.cell (hc 2 (by omega)), _, e2.cell (hc 3 (by omega)), ?_⟩
    refine nw4 zc_77 rfl rfl rfl rfl fun s3 e3 z3 o0 o1 o2 o3 => ?_
    refine ⟨_, o0.cell, _, o1.cell, _, o2.cell, _, o3.cell, ?_⟩
    obtain ⟨⟨r1, r2⟩, r3, r4⟩ := g.posts _ (List.getElem_mem hkl)
    have hPok : ∀ q ∈ [Prt.str b_post, .span p.posts[k].a p.posts[k].b, .span p.posts[k].c p.posts[k].d], PrtOk s3 q := by
      intro q hq
      simp only [List.mem_cons, List.not_mem_nil, or_false] at hq
      rcases hq with rfl | rfl | rfl
      · show 4 ≤ 100; omega
      · exact ⟨r1, r2⟩
      · exact ⟨r3, r4⟩
    refine said_new (l := [.str b_post, .span p.posts[k].a p.posts[k].b, .span p.posts[k].c p.posts[k].d]) (he.ext (e2.trans e3)) rfl (by simp) hPok fun s4 e4 => ?_
    try simp only [TUP_mk, AGG_mk, HD_mk, NL_mk, TYI_mk, TYB_mk, TYP_mk, TYL_mk, TYS_mk, TYM_mk, SO_mk, NX_mk, endK_mk, endK_mk', add_0]
    have hL := ln_len10 hPok (by simp)
    refine STC_bs (by simp only [List.length_append] at hL ⊢; omega) ?_
    try simp only [TUP_mk, AGG_mk, HD_mk, NL_mk, TYI_mk, TYB_mk, TYP_mk, TYL_mk, TYS_mk, TYM_mk, SO_mk, NX_mk, endK_mk, endK_mk', add_0]
    refine ⟨_, _, rfl, ⟨k + 1, wr_k (by omega), by omega, (e2.trans e3).trans e4, ?_⟩, ms_k hkl (by omega)⟩
    rw [take_map hkl, txt_snoc, List.append_assoc]
    rfl
  · have hkl : k = p.posts.length := by omega
    subst hkl
    rw [List.take_length] at hT ⊢
    rw [List.take_length] at hTl
    refine ⟨_, _, _, e2.cell h3, ?_⟩
    refine pg_loop1 he hp g e2 (by simp only [List.length_append]; omega) h4 fun s3 e3 => ?_
    have := hk s3 e3
    have et : txt (pgW p) = A ++ txt (p.posts.map postW) ++ txt (p.lens.map chainW) := by
      unfold pgW
      rw [txt_cons, txt_app, hAd, List.append_assoc]
    rw [et] at this
    exact this
end
end Go.Proofs.YtcjgbanpkmpekaaGreatDoor.G

/- Book, plain: furrows and their bytes. -/
set_option linter.unusedVariables false
set_option linter.unusedSimpArgs false
set_option maxRecDepth 20000
namespace Go.Proofs.YtcjgbanpkmpekaaGreatDoor.G
open Go
structure FrS where
  offs : List (Int × Int)
  wids : List (Int × Int)
  deps : List (Int × Int)
  deriving DecidableEq
def fr0 : FrS := ⟨[], [], []⟩
def okOff (o : Int × Int) : Bool := decide ((-12 ≤ o.1 ∧ o.1 ≤ o.2 ∧ o.2 ≤ 12) ∧ o.2 - o.1 ≤ 6)
def okSpn (lo hi : Int) (o : Int × Int) : Bool := decide (lo ≤ o.1 ∧ o.1 ≤ o.2 ∧ o.2 ≤ hi)
def okFr (f : FrS) : Bool := decide (f.offs.length ≤ 8 ∧ f.wids.length = f.offs.length ∧ f.deps.length = f.offs.length) && (f.offs.all okOff && (f.wids.all (okSpn 1 60) && f.deps.all (okSpn 0 40)))
def toB (n : Int) : UInt8 := UInt8.ofNat n.toNat
theorem toB_nat {n : Int} (h0 : 0 ≤ n) (h1 : n ≤ 255) : ((toB n).toNat : Int) = n := by unfold toB; simp [UInt8.toNat_ofNat']; omega
theorem toB_of (b : UInt8) : toB (b.toNat : Int) = b := by unfold toB; rw [Int.toNat_natCast]; simp
theorem b_lt (b : UInt8) : b.toNat < 256 := b.toNat_lt
def offN (o : Int × Int) : Int := 8 * (12 + o.1) + o.2 - o.1
def offB (o : Int × Int) : UInt8 := toB (offN o)
def prB (o : Int × Int) : BL := [toB o.1, toB o.2]
/-- A furrow's bytes without their check number. -/
def frB (f : FrS) : BL := 70 :: toB (f.offs.length : Int) :: (f.offs.map offB ++ (f.wids ++ f.deps).flatMap prB)
def chkF : Nat → Int → BL → Int
  | _, n, [] => n
  | i, n, x :: r => chkF (i + 1) ((n + ((i : Int) + 1) * (x.toNat : Int)) % 65521) r
def chk (l : BL) : Int := chkF 0 0 l
def ck2 (n : Int) : BL := [toB (n / 256), toB (n % 256)]
def withC (l : BL) : BL := l ++ ck2 (chk l)
def ofB (b : UInt8) : Int × Int := ((b.toNat : Int) / 8 - 12, (b.toNat : Int) / 8 - 12 + (b.toNat : Int) % 8)
def prs : BL → List (Int × Int)
  | a :: b :: r => ((a.toNat : Int), (b.toNat : Int)) :: prs r
  | _ => []
def parF : BL → Option FrS
  | a :: m :: r => if a = 70 ∧ r.length = 5 * m.toNat then some ⟨(r.take m.toNat).map ofB, prs ((r.drop m.toNat).take (2 * m.toNat)), prs (r.drop (3 * m.toNat))⟩ else none
  | _ => none
/-- How bytes are read: the furrow, and the error. -/
def readF (l : BL) : FrS × Int := if 2000 < l.length then (fr0, 3) else if l.length < 2 ∨ withC (l.take (l.length - 2)) ≠ l then (fr0, 11) else match parF (l.take (l.length - 2)) with
  | some f => if okFr f = true then (f, 0) else (fr0, 8)
  | none => (fr0, 8)
theorem chkF_app : ∀ (a b : BL) (i : Nat) (n : Int), chkF i n (a ++ b) = chkF (i + a.length) (chkF i n a) b
  | [], b, i, n => rfl
  | x :: a, b, i, n => by
    simp only [List.cons_append, chkF, List.length_cons]
    rw [chkF_app a b, show i + 1 + a.length = i + (a.length + 1) by omega]
theorem chkF_rg : ∀ (l : BL) (i : Nat) (n : Int), (0 ≤ n ∧ n < 65521) → 0 ≤ chkF i n l ∧ chkF i n l < 65521
  | [], _, _, h => h
  | x :: r, i, n, _ => chkF_rg r (i + 1) _ ⟨Int.emod_nonneg _ (by omega), Int.emod_lt_of_pos _ (by omega)⟩
theorem chk_rg (l : BL) : 0 ≤ chk l ∧ chk l < 65521 := chkF_rg l 0 0 (by omega)
theorem okFr_b {f : FrS} (h : okFr f = true) : (f.offs.length ≤ 8 ∧ f.wids.length = f.offs.length ∧ f.deps.length = f.offs.length) ∧ (∀ o ∈ f.offs, okOff o = true) ∧ (∀ o ∈ f.wids, okSpn 1 60 o = true) ∧ ∀ o ∈ f.deps, okSpn 0 40 o = true := by
  unfold okFr at h
  simp only [Bool.and_eq_true, decide_eq_true_eq, List.all_eq_true] at h
  exact h
theorem okOff_b {o : Int × Int} (h : okOff o = true) : (-12 ≤ o.1 ∧ o.1 ≤ o.2 ∧ o.2 ≤ 12) ∧ o.2 - o.1 ≤ 6 := by unfold okOff at h; simpa using h
theorem okSpn_b {lo hi : Int} {o : Int × Int} (h : okSpn lo hi o = true) : lo ≤ o.1 ∧ o.1 ≤ o.2 ∧ o.2 ≤ hi := by unfold okSpn at h; simpa using h
theorem ofB_off {o : Int × Int} (h : okOff o = true) : ofB (offB o) = o := by
  have := okOff_b h
  unfold ofB offB
  rw [toB_nat (by unfold offN; omega) (by unfold offN; omega)]
  unfold offN
  ext <;> simp only <;> omega
theorem offB_of (b : UInt8) : offB (ofB b) = b := by
  unfold offB ofB offN
  simp only
  have : 8 * (12 + ((b.toNat : Int) / 8 - 12)) + ((b.toNat : Int) / 8 - 12 + (b.toNat : Int) % 8) - ((b.toNat : Int) / 8 - 12) = (b.toNat : Int) := by omega
  rw [this, toB_of]
theorem prs_flat : ∀ {l : List (Int × Int)}, (∀ o ∈ l, (0 ≤ o.1 ∧ o.1 ≤ 255) ∧ 0 ≤ o.2 ∧ o.2 ≤ 255) → prs (l.flatMap prB) = l
  | [], _ => rfl
  | o :: l, h => by
    have h1 := h o (by simp)
    simp only [List.flatMap_cons, prB, List.cons_append, List.nil_append, prs]
    rw [prs_flat (fun x hx => h x (by simp [hx])), toB_nat h1.1.1 h1.1.2, toB_nat h1.2.1 h1.2.2]
theorem flat_prs : ∀ (n : Nat) {l : BL}, l.length = 2 * n → (prs l).flatMap prB = l ∧ (prs l).length = n
  | 0, l, h => by
    have : l = [] := List.eq_nil_of_length_eq_zero (by omega)
    subst this
    exact ⟨rfl, rfl⟩
  | n + 1, l, h => by
    match l, h with
    | a :: b :: r, h =>
      obtain ⟨h1, h2⟩ := flat_prs n (l := r) (by simp at h; omega)
      refine ⟨?_, by simp [prs, h2]⟩
      simp only [prs, List.flatMap_cons, prB]
      rw [h1, toB_of, toB_of]
      rfl
theorem flatB_len (l : List (Int × Int)) : (l.flatMap prB).length = 2 * l.length := by
  induction l with
  | nil => rfl
  | cons a l ih => simp only [List.flatMap_cons, List.length_append, ih, prB, List.length_cons, List.length_nil]; omega
theorem parF_frB {f : FrS} (h : okFr f = true) : parF (frB f) = some f := by
  obtain ⟨⟨h1, h2, h3⟩, h4, h5, h6⟩ := okFr_b h
  unfold frB parF
  dsimp only
  have hm : (toB (f.offs.length : Int)).toNat = f.offs.length := by
    have := toB_nat (n := (f.offs.length : Int)) (by omega) (by omega)
    omega
  rw [hm]
  have hl : (f.offs.map offB ++ (f.wids ++ f.deps).flatMap prB).length = 5 * f.offs.length := by
    rw [List.length_append, flatB_len]; simp; omega
  rw [if_pos ⟨rfl, hl⟩]
  have e1 : (f.offs.map offB ++ (f.wids ++ f.deps).flatMap prB).take f.offs.length = f.offs.map offB := List.take_left' (by simp)
  have e2 : (f.offs.map offB ++ (f.wids ++ f.deps).flatMap prB).drop f.offs.length = (f.wids ++ f.deps).flatMap prB := List.drop_left' (by simp)
  have e3 : (f.offs.map offB ++ (f.wids ++ f.deps).flatMap prB).drop (3 * f.offs.length) = f.deps.flatMap prB := by
    rw [List.flatMap_append, ← List.append_assoc]
    exact List.drop_left' (by rw [List.length_append, flatB_len]; simp; omega)
  rw [e1, e2, e3]
  have e4 : ((f.wids ++ f.deps).flatMap prB).take (2 * f.offs.length) = f.wids.flatMap prB := by
    rw [List.flatMap_append]
    exact List.take_left' (by rw [flatB_len]; omega)
  rw [e4, List.map_map]
  have e5 : f.offs.map (ofB ∘ offB) = f.offs := by
    conv => rhs; rw [← List.map_id f.offs]
    exact List.map_congr_left fun o ho => ofB_off (h4 o ho)
  rw [e5, prs_flat (fun o ho => by have := okSpn_b (h5 o ho); omega), prs_flat (fun o ho => by have := okSpn_b (h6 o ho); omega)]
theorem frB_parF {l : BL} {f : FrS} (h : parF l = some f) : frB f = l := by
  unfold parF at h
  split at h
  · rename_i a m r
    split at h
    · rename_i hc
      injection h with h
      subst h
      obtain ⟨rfl, hl⟩ := hc
      have g1 : ((r.take m.toNat).map ofB).length = m.toNat := by simp; omega
      obtain ⟨w1, w2⟩ := flat_prs m.toNat (l := (r.drop m.toNat).take (2 * m.toNat)) (by simp; omega)
      obtain ⟨d1, d2⟩ := flat_prs m.toNat (l := r.drop (3 * m.toNat)) (by simp; omega)
      unfold frB
      simp only
      rw [g1, List.flatMap_append, w1, d1, List.map_map]
      have e5 : (r.take m.toNat).map (offB ∘ ofB) = r.take m.toNat := by
        conv => rhs; rw [← List.map_id (r.take m.toNat)]
        exact List.map_congr_left fun o ho => offB_of o
      rw [e5]
      have e6 : (r.drop m.toNat).take (2 * m.toNat) ++ r.drop (3 * m.toNat) = r.drop m.toNat := by
        have : r.drop (3 * m.toNat) = (r.drop m.toNat).drop (2 * m.toNat) := by rw [List.drop_drop]; congr 1; omega
        rw [this, List.take_append_drop]
      rw [e6, List.take_append_drop]
      have hm : toB ((m.toNat : Nat) : Int) = m := toB_of m
      rw [hm]
    · cases h
  · cases h
theorem frB_len {f : FrS} (h : okFr f = true) : (frB f).length = 2 + 5 * f.offs.length := by
  obtain ⟨⟨h1, h2, h3⟩, _⟩ := okFr_b h
  unfold frB
  simp only [List.length_cons, List.length_append, flatB_len, List.length_map]
  omega
theorem withC_len (l : BL) : (withC l).length = l.length + 2 := by simp [withC, ck2]
theorem withC_take (l : BL) : (withC l).take ((withC l).length - 2) = l := by
  rw [withC_len, Nat.add_sub_cancel]
  unfold withC
  exact List.take_left
theorem readF_w {f : FrS} (h : okFr f = true) : readF (withC (frB f)) = (f, 0) := by
  obtain ⟨⟨h1, _⟩, _⟩ := okFr_b h
  have hl := withC_len (frB f)
  have hl2 := frB_len h
  unfold readF
  rw [if_neg (by omega), withC_take, if_neg (by rintro (hh | hh); omega; exact hh rfl), parF_frB h]
  simp only
  rw [if_pos h]
theorem readF_ok {f : FrS} {l : BL} (h : readF l = (f, 0)) : okFr f = true ∧ withC (frB f) = l := by
  unfold readF at h
  split at h
  · simp at h
  · split at h
    · simp at h
    · rename_i hc
      split at h
      · rename_i g hg
        split at h
        · rename_i hok
          simp at h
          subst h
          refine ⟨hok, ?_⟩
          rw [frB_parF hg]
          exact Classical.not_not.1 fun hh => hc (.inr hh)
        · simp at h
      · simp at h
theorem readF_cases (l : BL) : (∃ f, okFr f = true ∧ readF l = (f, 0)) ∨ ((readF l).1 = fr0 ∧ ((readF l).2 = 3 ∨ (readF l).2 = 8 ∨ (readF l).2 = 11)) := by
  unfold readF
  split
  · exact .inr ⟨rfl, .inl rfl⟩
  · split
    · exact .inr ⟨rfl, .inr (.inr rfl)⟩
    · split
      · split
        · rename_i g _ hg; exact .inl ⟨g, hg, rfl⟩
        · exact .inr ⟨rfl, .inr (.inl rfl)⟩
      · exact .inr ⟨rfl, .inr (.inl rfl)⟩
end Go.Proofs.YtcjgbanpkmpekaaGreatDoor.G

/- Furrows: valid ones, check numbers, lists that are put together. -/
set_option linter.unusedVariables false
set_option linter.unusedSimpArgs false
set_option maxRecDepth 20000
namespace Go.Proofs.YtcjgbanpkmpekaaGreatDoor.G
open Go.V
def u8s (l : BL) : List Value := l.map fun b => .int .u8 (b.toNat : Int)
theorem u8s_len (l : BL) : (u8s l).length = l.length := by simp [u8s]
theorem u8s_app (a b : BL) : u8s (a ++ b) = u8s a ++ u8s b := by simp [u8s]
theorem u8s_one (l : BL) : ∀ v ∈ u8s l, oneCell v = true := by
  intro v hv
  obtain ⟨b, _, rfl⟩ := List.mem_map.1 hv
  rfl
theorem zc_5 : zc Pg 5 = [.int .u8 0] := by kernel_rfl
theorem wrap_u8 {n : Int} (h0 : 0 ≤ n) (h1 : n ≤ 255) : IntKind.wrap .u8 n = n := wrap_id (by show (0 : Int) ≤ n; exact h0) (by show n ≤ 255; exact h1)
theorem u8_toB {n : Int} (h0 : 0 ≤ n) (h1 : n ≤ 255) : Value.int .u8 (IntKind.wrap .u8 n) = .int .u8 ((toB n).toNat : Int) := by rw [wrap_u8 h0 h1, toB_nat h0 h1]
/-- A furrow, as it is looked at. -/
structure FrC (s : Hp) (x y w : Option Addr) (f : FrS) : Prop where
  offs : RowAt s x (f.offs.flatMap kinV)
  wids : RowAt s y (f.wids.flatMap kinV)
  deps : RowAt s w (f.deps.flatMap kinV)
theorem FrC.ext {s s' : Hp} {x y w : Option Addr} {f : FrS} (e : Ext s s') (h : FrC s x y w f) : FrC s' x y w f := ⟨h.offs.ext e, h.wids.ext e, h.deps.ext e⟩
section
variable {W : World} {K : VK} {E : List PanicEntry → Hp → Prop} {s : Hp}
theorem c_isFurrow {f : FrS} {x y w : Option Addr} {c d e : Nat} (hf : FrC s x y w f) (h1 : f.offs.length ≤ 1000000) (h2 : f.wids.length ≤ 1000000) (h3 : f.deps.length ≤ 1000000)
    (h : ∀ s', Ext s s' → K (.bool (okFr f)) s') : CALL Pg W F_book_isFurrow [.agg #[.slice x f.offs.length c, .slice y f.wids.length d, .slice w f.deps.length e]] K E s := by
  refine does_book_isFurrow W x f.offs.length c y f.wids.length d w f.deps.length e _ s ?_
  unfold T_book_isFurrow
  refine NEW_rule fun s1 e1 z1 o _ => ?_
  have o0 := (o 0 _ rfl).cell
  have o1 := (o 1 _ rfl).cell
  have o2 := (o 2 _ rfl).cell
  have no0 : ∀ (t : Hp), Ext s t → okFr f = false → J_book_isFurrow_0 W (endK K E) false s.size t := by
    intro t et hb
    unfold J_book_isFurrow_0
    refine BR_ff rfl ?_
    try simp only [TUP_mk, AGG_mk, HD_mk, NL_mk, TYI_mk, TYB_mk, TYP_mk, TYL_mk, TYS_mk, TYM_mk, SO_mk, NX_mk, endK_mk, endK_mk', add_0]
    have := h t et
    rw [hb] at this
    exact this
  have no1 : ∀ (t : Hp), Ext s t → okFr f = false → J_book_isFurrow_1 W (endK K E) false s.size t := by
    intro t et hb
    unfold J_book_isFurrow_1
    exact BR_ff rfl (no0 t et hb)
  have no2 : ∀ (t : Hp), Ext s t → okFr f = false → J_book_isFurrow_2 W (endK K E) false s.size t := by
    intro t et hb
    unfold J_book_isFurrow_2
    exact BR_ff rfl (no1 t et hb)
  have nok : ¬ (f.offs.length ≤ 8 ∧ f.wids.length = f.offs.length ∧ f.deps.length = f.offs.length) → okFr f = false := fun hn => by unfold okFr; rw [decide_eq_false hn]; rfl
  refine ⟨_, _, _, o0, ?_⟩
  refine BR_dec (fun ha => ?_) (fun ha => ?_)
  rotate_left
  · unfold J_book_isFurrow_3
    exact BR_ff rfl (no2 s1 e1 (nok fun hh => ha (by omega)))
  refine ⟨_, _, _, o1, ?_⟩
  unfold J_book_isFurrow_3
  refine BR_eq (fun hb => ?_) (fun hb => no2 s1 e1 (nok fun hh => hb (by omega)))
  refine ⟨_, _, _, o2, ?_⟩
  dsimp only
  by_cases hc : f.deps.length = f.offs.length
  rotate_left
  · have hne : ((f.deps.length : Int) == (f.offs.length : Int)) = false := by rw [beq_eq_false_iff_ne]; omega
    rw [hne]
    exact no2 s1 e1 (nok fun hh => hc hh.2.2)
  have heq : ((f.deps.length : Int) == (f.offs.length : Int)) = true := beq_iff_eq.2 (by omega)
  rw [heq]
  have hok : okFr f = (f.offs.all okOff && (f.wids.all (okSpn 1 60) && f.deps.all (okSpn 0 40))) := by
    unfold okFr
    rw [decide_eq_true (⟨by omega, by omega, hc⟩ : f.offs.length ≤ 8 ∧ f.wids.length = f.offs.length ∧ f.deps.length = f.offs.length), Bool.true_and]
  unfold J_book_isFurrow_2
  refine BR_tt rfl ?_
  refine ⟨_, _, _, o0, ?_⟩
  refine has_span (bad := fun n => !okOff n) h1 (hf.offs.ext e1) (fun n hn t K E et hk => ?_) (fun s2 e2 => ?_)
  · refine CALLV_func ?_
    refine does_book_isFurrow_c1 W n.1 n.2 _ t ?_
    unfold T_book_isFurrow_c1
    refine ne2 fun t1 f1 w1 u0 u1 => ?_
    refine ⟨_, u0.cell, _, u1.cell, ?_⟩
    refine c_isSpan fun t2 f2 => ?_
    try simp only [TUP_mk, AGG_mk, HD_mk, NL_mk, TYI_mk, TYB_mk, TYP_mk, TYL_mk, TYS_mk, TYM_mk, SO_mk, NX_mk, endK_mk, endK_mk', add_0]
    have hk := hk t2 (f1.trans f2)
    unfold okOff at hk
    refine BR_not (fun hb => ?_) (fun hb => ?_)
    · try simp only [TUP_mk, AGG_mk, HD_mk, NL_mk, TYI_mk, TYB_mk, TYP_mk, TYL_mk, TYS_mk, TYM_mk, SO_mk, NX_mk, endK_mk, endK_mk', add_0]
      rw [decide_eq_false_iff_not] at hb
      rw [decide_eq_false (fun hh => hb hh.1)] at hk
      exact hk
    · rw [decide_eq_true_eq] at hb
      refine ⟨_, f2.cell u1.cell, _, f2.cell u0.cell, ?_⟩
      dsimp only
      rw [wrap_i64 (by omega) (by omega)]
      try simp only [TUP_mk, AGG_mk, HD_mk, NL_mk, TYI_mk, TYB_mk, TYP_mk, TYL_mk, TYS_mk, TYM_mk, SO_mk, NX_mk, endK_mk, endK_mk', add_0]
      have e : decide (n.2 - n.1 > 6) = !decide ((-12 ≤ n.1 ∧ n.1 ≤ n.2 ∧ n.2 ≤ 12) ∧ n.2 - n.1 ≤ 6) := by
        by_cases h6 : n.2 - n.1 ≤ 6
        · have h7 : ¬ (n.2 - n.1 > 6) := by omega
          rw [decide_eq_true (⟨hb, h6⟩ : (-12 ≤ n.1 ∧ n.1 ≤ n.2 ∧ n.2 ≤ 12) ∧ n.2 - n.1 ≤ 6), decide_eq_false h7]; rfl
        · have h7 : n.2 - n.1 > 6 := by omega
          have h8 : ¬ ((-12 ≤ n.1 ∧ n.1 ≤ n.2 ∧ n.2 ≤ 12) ∧ n.2 - n.1 ≤ 6) := fun hh => h6 hh.2
          rw [decide_eq_false h8, decide_eq_true h7]; rfl
      rw [e]
      exact hk
  try simp only [TUP_mk, AGG_mk, HD_mk, NL_mk, TYI_mk, TYB_mk, TYP_mk, TYL_mk, TYS_mk, TYM_mk, SO_mk, NX_mk, endK_mk, endK_mk', add_0]
  rw [all_not]
  have e12 := e1.trans e2
  unfold J_book_isFurrow_1
  refine BR_bool (fun hb1 => ?_) (fun hb1 => no0 s2 e12 (by rw [hok, hb1]; rfl))
  refine ⟨_, _, _, e2.cell o1, ?_⟩
  refine has_span (bad := fun n => !okSpn 1 60 n) h2 (hf.wids.ext e12) (fun n hn t K E et hk => ?_) (fun s3 e3 => ?_)
  · refine CALLV_func ?_
    refine does_book_isFurrow_c2 W n.1 n.2 _ t ?_
    unfold T_book_isFurrow_c2
    refine ne2 fun t1 f1 w1 u0 u1 => ?_
    refine ⟨_, u0.cell, _, u1.cell, ?_⟩
    refine c_isSpan fun t2 f2 => ?_
    try simp only [TUP_mk, AGG_mk, HD_mk, NL_mk, TYI_mk, TYB_mk, TYP_mk, TYL_mk, TYS_mk, TYM_mk, SO_mk, NX_mk, endK_mk, endK_mk', add_0]
    exact hk t2 (f1.trans f2)
  try simp only [TUP_mk, AGG_mk, HD_mk, NL_mk, TYI_mk, TYB_mk, TYP_mk, TYL_mk, TYS_mk, TYM_mk, SO_mk, NX_mk, endK_mk, endK_mk', add_0]
  rw [all_not]
  have e13 := e12.trans e3
  unfold J_book_isFurrow_0
  refine BR_bool (fun hb2 => ?_) (fun hb2 => ?_)
  rotate_left
  · try simp only [TUP_mk, AGG_mk, HD_mk, NL_mk, TYI_mk, TYB_mk, TYP_mk, TYL_mk, TYS_mk, TYM_mk, SO_mk, NX_mk, endK_mk, endK_mk', add_0]
    have := h s3 e13
    rw [hok, hb1, hb2] at this
    exact this
  refine ⟨_, _, _, e3.cell (e2.cell o2), ?_⟩
  refine has_span (bad := fun n => !okSpn 0 40 n) h3 (hf.deps.ext e13) (fun n hn t K E et hk => ?_) (fun s4 e4 => ?_)
  · refine CALLV_func ?_
    refine does_book_isFurrow_c3 W n.1 n.2 _ t ?_
    unfold T_book_isFurrow_c3
    refine ne2 fun t1 f1 w1 u0 u1 => ?_
    refine ⟨_, u0.cell, _, u1.cell, ?_⟩
    refine c_isSpan fun t2 f2 => ?_
    try simp only [TUP_mk, AGG_mk, HD_mk, NL_mk, TYI_mk, TYB_mk, TYP_mk, TYL_mk, TYS_mk, TYM_mk, SO_mk, NX_mk, endK_mk, endK_mk', add_0]
    exact hk t2 (f1.trans f2)
  try simp only [TUP_mk, AGG_mk, HD_mk, NL_mk, TYI_mk, TYB_mk, TYP_mk, TYL_mk, TYS_mk, TYM_mk, SO_mk, NX_mk, endK_mk, endK_mk', add_0]
  rw [all_not]
  have := h s4 (e13.trans e4)
  rw [hok, hb1, hb2] at this
  exact this
/-- A fresh list that is empty. -/
theorem fr_empty {lo B : Nat} {s : Hp} {es : Nat} (h : lo ≤ B) : Fr lo s (some ⟨B, 0, none⟩) 0 0 es [] := ⟨⟨by simp, fun i hi => by simp at hi⟩, by simp, fun a ha => by cases ha; exact h, by omega⟩
theorem c_Clone {l : BL} {x : Option Addr} {c : Nat} (hrow : RowAt s x (u8s l)) (hl : l.length ≤ 900000) (hk : ∀ s' x' c', Ext s s' → Fr s.size s' x' l.length c' 1 (u8s l) → K (.slice x' l.length c') s') : CALL Pg W F_slices_Clone_byte_byte [.slice x l.length c] K E s := by
  refine does_slices_Clone_byte_byte W x l.length c _ s ?_
  unfold T_slices_Clone_byte_byte
  cases x with
  | none =>
    refine BR_tt rfl ?_
    try simp only [TUP_mk, AGG_mk, HD_mk, NL_mk, TYI_mk, TYB_mk, TYP_mk, TYL_mk, TYS_mk, TYM_mk, SO_mk, NX_mk, endK_mk, endK_mk', add_0]
    cases l with
    | nil => exact hk s none 0 (Ext.refl s) (Fr.nil _ _ _)
    | cons a l => obtain ⟨b, hb, _⟩ := hrow 0 (by simp [u8s]); cases hb
  | some a =>
    refine BR_ff rfl ?_
    refine NEW_rule fun s1 e1 z1 _ _ => ?_
    refine APP_fr (lo := s.size) (fr_empty (Nat.le_refl _)) e1.1 (ws := u8s l) (hrow.ext e1) (by rw [u8s_len]; omega) zc_5 rfl (by omega) (u8s_one l) (by omega) (fun s2 x' c' k2 hx f2 => ?_)
    rw [Nat.zero_add] at f2 ⊢
    exact hk s2 x' c' (kp_nil e1 (fun b ⟨a', h1, h2⟩ => by cases h1; rw [← h2]; exact Nat.le_refl _) k2) f2
theorem chk_take {l : BL} {k : Nat} (hk : k < l.length) : chk (l.take (k + 1)) = (chk (l.take k) + ((k : Int) + 1) * (l[k].toNat : Int)) % 65521 := by
  rw [List.take_add_one, List.getElem?_eq_getElem hk]
  unfold chk
  rw [chkF_app]
  simp only [Option.toList_some, chkF, List.length_take, Nat.zero_add]
  rw [Nat.min_eq_left (by omega)]
theorem c_checked {l : BL} {x : Option Addr} {c : Nat} (hrow : RowAt s x (u8s l)) (hl : l.length ≤ 10000) (hk : ∀ s' x' c', Ext s s' → Fr s.size s' x' (withC l).length c' 1 (u8s (withC l)) → K (.slice x' (withC l).length c') s') : CALL Pg W F_book_checked [.slice x l.length c] K E s := by
  refine does_book_checked W x l.length c _ s ?_
  unfold T_book_checked
  refine L_book_checked_0_rule W _ _ _ _ _ (fun n m s' => ∃ k : Nat, m = (k : Int) ∧ k ≤ l.length ∧ n = chk (l.take k) ∧ s' = s) (fun n m s' => l.length - m.toNat) _ _ s ⟨0, rfl, by omega, by simp [chk, chkF], rfl⟩ ?_
  rintro n m s1 ⟨k, rfl, hk1, rfl, rfl⟩
  unfold B_book_checked_0
  have hc := chk_rg (l.take k)
  refine BR_dec (fun hlt => ?_) (fun hge => ?_)
  · have hkl : k < l.length := by omega
    obtain ⟨a, ha, hcell⟩ := hrow k (by rw [u8s_len]; exact hkl)
    subst ha
    refine IXS_nat hkl ?_
    have hb := b_lt l[k]
    simp only [u8s, List.getElem_map] at hcell
    refine ⟨_, hcell, ?_⟩
    try simp only [TUP_mk, AGG_mk, HD_mk, NL_mk, TYI_mk, TYB_mk, TYP_mk, TYL_mk, TYS_mk, TYM_mk, SO_mk, NX_mk, endK_mk, endK_mk', add_0]
    have hp : 0 ≤ ((k : Int) + 1) * (l[k].toNat : Int) := Int.mul_nonneg (by omega) (by omega)
    have hp2 : ((k : Int) + 1) * (l[k].toNat : Int) ≤ 10001 * 255 := Int.mul_le_mul (by omega) (by omega) (by omega) (by omega)
    have hw1 : IntKind.wrap .i64 ((k : Int) + 1) = (k : Int) + 1 := wrap_i64 (by omega) (by omega)
    have hw2 : IntKind.wrap .i64 (l[k].toNat : Int) = (l[k].toNat : Int) := wrap_i64 (by omega) (by omega)
    have hw3 : IntKind.wrap .i64 (((k : Int) + 1) * (l[k].toNat : Int)) = ((k : Int) + 1) * (l[k].toNat : Int) := wrap_i64 (by omega) (by omega)
    have hw4 : IntKind.wrap .i64 (chk (l.take k) + ((k : Int) + 1) * (l[k].toNat : Int)) = chk (l.take k) + ((k : Int) + 1) * (l[k].toNat : Int) := wrap_i64 (by omega) (by omega)
    refine ⟨_, _, rfl, ⟨k + 1, wr_k (by omega), by omega, ?_, rfl⟩, ?_⟩
    · rw [hw1, hw2, hw3, hw4, Int.tmod_eq_emod_of_nonneg (by omega), chk_take hkl]
    · show l.length - (IntKind.wrap .i64 ((k : Int) + 1)).toNat < l.length - ((k : Nat) : Int).toNat
      rw [hw1]; omega
  · have hkl : k = l.length := by omega
    subst hkl
    rw [List.take_length] at hc ⊢
    refine c_Clone hrow (by omega) fun s2 x2 c2 e2 f2 => ?_
    try simp only [TUP_mk, AGG_mk, HD_mk, NL_mk, TYI_mk, TYB_mk, TYP_mk, TYL_mk, TYS_mk, TYM_mk, SO_mk, NX_mk, endK_mk, endK_mk', add_0]
    have hd : Int.tdiv (chk l) 256 = chk l / 256 := Int.tdiv_eq_ediv_of_nonneg (by omega)
    have hm : Int.tmod (chk l) 256 = chk l % 256 := Int.tmod_eq_emod_of_nonneg (by omega)
    rw [hd, hm, wrap_i64 (by omega) (by omega), u8_toB (by omega) (by omega), u8_toB (by omega) (by omega)]
    refine NEW_rule fun s3 e3 z3 o3 _ => ?_
    refine APP_fr (f2.ext e3) (e2.trans e3).1 (ws := u8s (ck2 (chk l))) (row_new o3) rfl zc_5 rfl (by omega) (u8s_one _) (by omega) (fun s4 x4 c4 k4 hx4 f4 => ?_)
    rw [← u8s_app] at f4
    try simp only [TUP_mk, AGG_mk, HD_mk, NL_mk, TYI_mk, TYB_mk, TYP_mk, TYL_mk, TYS_mk, TYM_mk, SO_mk, NX_mk, endK_mk, endK_mk', add_0]
    have hwl : (withC l).length = l.length + 2 := withC_len l
    have := hk s4 x4 c4 (kp_nil (e2.trans e3) (fun b ⟨a', h1, h2⟩ => by rw [← h2]; exact f2.fr a' h1) k4) (by rw [hwl]; exact f4)
    rw [hwl] at this
    exact this
end
end Go.Proofs.YtcjgbanpkmpekaaGreatDoor.G

/- Arguments by their types. -/
set_option linter.unusedVariables false
set_option linter.unusedSimpArgs false
set_option maxRecDepth 20000
namespace Go.Proofs.YtcjgbanpkmpekaaGreatDoor.G
open Go.V
section
variable {s : Hp}
theorem rds_37 (n : Nat) (cs : List Value) : Rds Pg s (n + 1) 37 cs = (cs.length = 3 ∧ Rds Pg s n 35 ((cs.drop 0).take 1) ∧ Rds Pg s n 35 ((cs.drop 1).take 1) ∧ Rds Pg s n 35 ((cs.drop 2).take 1) ∧ True) := by kernel_rfl
theorem rds_35 (n : Nat) (cs : List Value) : Rds Pg s (n + 1) 35 cs = (∃ a l c, cs = [.slice a l c] ∧ l ≤ c ∧ c ≤ maxLen ∧ (a = none → l = 0 ∧ c = 0) ∧ ∀ i, i < l → ∃ b es, a = some b ∧ es.length = 2 ∧ (∀ j v, es[j]? = some v → cellAt s ((b.add (i * 2)).add j) = some v) ∧ Rds Pg s n 74 es) := by kernel_rfl
theorem rds_74 (n : Nat) (cs : List Value) : Rds Pg s (n + 1) 74 cs = (cs.length = 2 ∧ Rds Pg s n 3 ((cs.drop 0).take 1) ∧ Rds Pg s n 3 ((cs.drop 1).take 1) ∧ True) := by kernel_rfl
theorem rds_3 (n : Nat) (cs : List Value) : Rds Pg s (n + 1) 3 cs = (∃ m, cs = [.int .i64 m] ∧ (Lit.int .i64 m).wf = true) := by kernel_rfl
theorem rds_5 (n : Nat) (cs : List Value) : Rds Pg s (n + 1) 5 cs = (∃ m, cs = [.int .u8 m] ∧ (Lit.int .u8 m).wf = true) := by kernel_rfl
theorem rds_71 (n : Nat) (cs : List Value) : Rds Pg s (n + 1) 71 cs = (∃ m, cs = [.int .u16 m] ∧ (Lit.int .u16 m).wf = true) := by kernel_rfl
theorem ag_37 : isAg Pg 37 = true := by kernel_rfl
theorem ag_5 : isAg Pg 5 = false := by kernel_rfl
theorem ag_71 : isAg Pg 71 = false := by kernel_rfl
theorem choose_of {α : Type} {P : Nat → α → Prop} : ∀ l : Nat, (∀ i, i < l → ∃ m, P i m) → ∃ ms : List α, ms.length = l ∧ ∀ i (h : i < ms.length), P i ms[i]
  | 0, _ => ⟨[], rfl, fun i h => by simp at h⟩
  | l + 1, h => by
    obtain ⟨ms, h1, h2⟩ := choose_of l (fun i hi => h i (by omega))
    obtain ⟨m, hm⟩ := h l (by omega)
    refine ⟨ms ++ [m], by simp [h1], fun i hi => ?_⟩
    by_cases hil : i < ms.length
    · rw [List.getElem_append_left hil]; exact h2 i hil
    · simp at hi
      have : i = ms.length := by omega
      subst this
      rw [List.getElem_append_right (Nat.le_refl _)]
      simp [h1]; exact hm
/-- A slice's elements, as a row. -/
theorem row_rds {α : Type} {f : α → List Value} {M l n : Nat} {e : TypeId} {a : Option Addr} (hf : ∀ x, (f x).length = M) (hM : 0 < M) (hr : ∀ es, Rds Pg s n e es → ∃ x, es = f x)
    (h : ∀ i, i < l → ∃ b es, a = some b ∧ es.length = M ∧ (∀ j v, es[j]? = some v → cellAt s ((b.add (i * M)).add j) = some v) ∧ Rds Pg s n e es) : ∃ L : List α, L.length = l ∧ RowAt s a (L.flatMap f) := by
  have key : ∀ i, i < l → ∃ x : α, ∃ b, a = some b ∧ ∀ j v, (f x)[j]? = some v → cellAt s ((b.add (i * M)).add j) = some v := fun i hi => by
    obtain ⟨b, es, h1, h2, h3, h4⟩ := h i hi
    obtain ⟨x, rfl⟩ := hr es h4
    exact ⟨x, b, h1, h3⟩
  obtain ⟨L, hL, p⟩ := choose_of l key
  refine ⟨L, hL, fun t ht => ?_⟩
  have hl : (L.flatMap f).length = L.length * M := flat_len L fun x _ => hf x
  have hd : t / M < L.length := Nat.div_lt_of_lt_mul (by rw [Nat.mul_comm]; omega)
  have hm : t % M < M := Nat.mod_lt _ hM
  have he : t / M * M + t % M = t := by have := Nat.div_add_mod t M; rw [Nat.mul_comm] at this; exact this
  obtain ⟨b, hb, hc⟩ := p (t / M) hd
  have hg := flat_get (M := M) (f := f) L (fun x _ => hf x) (t / M) hd (t % M) hm
  rw [he, List.getElem?_eq_getElem ht] at hg
  refine ⟨b, hb, ?_⟩
  have := hc (t % M) _ hg.symm
  rw [addr_add, he] at this
  rw [Nat.mul_one]
  exact this
theorem span_rds {n : Nat} {es : List Value} (h : Rds Pg s (n + 2) 74 es) : ∃ q : Int × Int, es = kinV q := by
  rw [rds_74, rds_3, rds_3] at h
  obtain ⟨h0, ⟨a, h1, _⟩, ⟨b, h2, _⟩, _⟩ := h
  match es, h0 with
  | [p, q], _ =>
    simp at h1 h2
    subst h1; subst h2
    exact ⟨(a, b), rfl⟩
theorem furrow_rd {v : Value} (h : RdV Pg s 37 v) : ∃ (f : FrS) (x y w : Option Addr) (c d e : Nat), v = .agg #[.slice x f.offs.length c, .slice y f.wids.length d, .slice w f.deps.length e] ∧ FrC s x y w f := by
  obtain ⟨cs, rfl, h⟩ := h
  rw [ag_37, rds_37, rds_35, rds_35, rds_35] at *
  obtain ⟨h0, ⟨x, l1, c, h1, _, _, _, g1⟩, ⟨y, l2, d, h2, _, _, _, g2⟩, ⟨w, l3, e, h3, _, _, _, g3⟩, _⟩ := h
  match cs, h0 with
  | [p, q, r], _ =>
    simp at h1 h2 h3
    subst h1; subst h2; subst h3
    obtain ⟨A, rfl, a1⟩ := row_rds (f := kinV) (fun _ => rfl) (by omega) (fun es h => span_rds (n := 4) h) g1
    obtain ⟨B, rfl, a2⟩ := row_rds (f := kinV) (fun _ => rfl) (by omega) (fun es h => span_rds (n := 4) h) g2
    obtain ⟨C, rfl, a3⟩ := row_rds (f := kinV) (fun _ => rfl) (by omega) (fun es h => span_rds (n := 4) h) g3
    exact ⟨⟨A, B, C⟩, x, y, w, c, d, e, rfl, ⟨a1, a2, a3⟩⟩
theorem u8_wf {m : Int} (h : (Lit.int .u8 m).wf = true) : 0 ≤ m ∧ m ≤ 255 := by
  simp [Lit.wf, IntKind.min, IntKind.max, IntKind.bits, IntKind.signed] at h; omega
theorem u16_wf {m : Int} (h : (Lit.int .u16 m).wf = true) : 0 ≤ m ∧ m ≤ 65535 := by
  simp [Lit.wf, IntKind.min, IntKind.max, IntKind.bits, IntKind.signed] at h; omega
theorem u8_rd {v : Value} (h : RdV Pg s 5 v) : ∃ n : Nat, v = .int .u8 n ∧ n < 256 := by
  obtain ⟨cs, rfl, h⟩ := h
  rw [ag_5, rds_5] at *
  obtain ⟨m, rfl, hw⟩ := h
  obtain ⟨h1, h2⟩ := u8_wf hw
  obtain ⟨n, rfl⟩ := Int.eq_ofNat_of_zero_le h1
  exact ⟨n, rfl, by omega⟩
theorem u16_rd {v : Value} (h : RdV Pg s 71 v) : ∃ n : Nat, v = .int .u16 n ∧ n < 65536 := by
  obtain ⟨cs, rfl, h⟩ := h
  rw [ag_71, rds_71] at *
  obtain ⟨m, rfl, hw⟩ := h
  obtain ⟨h1, h2⟩ := u16_wf hw
  obtain ⟨n, rfl⟩ := Int.eq_ofNat_of_zero_le h1
  exact ⟨n, rfl, by omega⟩
end
end Go.Proofs.YtcjgbanpkmpekaaGreatDoor.G

/- Furrows: lists that are put together, writing. -/
set_option linter.unusedVariables false
set_option linter.unusedSimpArgs false
set_option maxRecDepth 20000
namespace Go.Proofs.YtcjgbanpkmpekaaGreatDoor.G
open Go.V
theorem APPZ_gen {P : Program} {t0 t1 e : TypeId} {k1 : IntKind} {i : TypeInfo} {v : Value} {x : Option Addr} {l c m : Nat} {ws : List Value} {s : Hp} {K : Option Addr → Nat → Nat → Hp → Prop} (hu : P.underlying t0 = some (.slice e)) (hu1 : P.underlying t1 = some (.int k1)) (hi : P.info? e = some i) (hv : i.zero = some v) (hz : zc P e = v.cells.toList) (hby : i.bytes ≤ 1000) (hby1 : 1 ≤ i.bytes) (hs1 : 1 ≤ i.size)
    (hm : 0 < m) (hgt : c < l + m) (hlm : l + m ≤ 1000000) (hws : cellsOpt s x (l * i.size) = some ws) (h : ∀ c', l + m ≤ c' → c' < 9223372036854775808 → K (some ⟨s.size, 0, none⟩) (l + m) c' (s.push (.cells (ws ++ repL m (zc P e) ++ repL (c' - (l + m)) (zc P e)).toArray e (0, 0)))) :
    APPZ P [t0, t1] (.slice x l c) (.int .i64 (m : Nat)) K s := by
  unfold APPZ SLV
  simp only [Builtin.append_, List.getElem?_toArray, List.getElem?_cons_zero, List.getElem?_cons_succ]
  rw [sp_bind, sp_und hu]
  simp only []
  rw [sp_bind, sp_size hi, sp_bind, sp_und hu1, sp_bind]
  simp only [sp_pure, if_true, asInt, sp_bind]
  have hw : IntKind.i64.wrap ((m : Nat) : Int) = (m : Int) := wrap_i64 (by omega) (by omega)
  simp only [asIntOf, sp_pure]
  rw [hw, if_neg (by omega)]
  have hmbN : m * i.bytes ≤ 1000000 * 1000 := Nat.mul_le_mul (by omega) hby
  have hmb : ¬ ((m : Int) * (i.bytes : Int) > 2 ^ 48) := by
    have : ((m * i.bytes : Nat) : Int) ≤ 1000000000 := by omega
    rw [Int.natCast_mul] at this
    omega
  simp only [sp_pure, sp_bind, sp_info hi]
  rw [if_neg hmb]
  simp only [sp_pure, sp_bind, Int.toNat_natCast]
  have hcap := nextcap_le (l + m) c (by omega)
  have hmul : Builtin.nextslicecap (l + m) c * i.bytes ≤ (1000 + 2 * (l + m)) * 1000 := Nat.mul_le_mul hcap hby
  rw [if_neg (by omega)]
  have hg : ¬ (((l + m : Nat) : Int) > IntKind.i64.max ∧ (True ∨ i.bytes = 0)) := by
    rintro ⟨hh, _⟩
    have e : IntKind.i64.max = 9223372036854775807 := rfl
    omega
  simp only [sp_bind, sp_info hi]
  rw [if_neg hg]
  simp only [sp_pure, sp_bind, sp_info hi]
  rw [if_neg (by omega)]
  simp only [sp_pure, sp_bind, sp_info hi]
  show sp P (choose (.appendCap (l + m) c e)) _ _ s
  simp only [choose, sp, Question.forced]
  intro q
  have hq : ∃ c', c' = (Question.appendCap (l + m) c e).cut q ∧ l + m ≤ c' ∧ c' < 9223372036854775808 := by
    refine ⟨_, rfl, ?_, ?_⟩
    · simp only [Question.cut]; omega
    · simp only [Question.cut]
      have := Nat.mod_lt q (show 0 < 2 ^ 63 - (l + m) by omega)
      omega
  obtain ⟨c', hc', hc1, hc2⟩ := hq
  rw [← hc']
  simp only [sp_bind, sp_askRoom]
  refine firstCells_sp hws ?_
  simp only [Bool.not_true, Bool.false_eq_true, if_false]
  have hms : 0 < m * i.size := Nat.mul_pos hm hs1
  rw [if_neg (by omega)]
  simp only [sp_bind, sp_zero hi hv, newRow, sp_new, sp_pure]
  have hrow : ∀ n, Builtin.zeroCells v.cells n = (repL n (zc P e)).toArray := fun n => by rw [hz]; exact rowOf v.cells n
  rw [hrow, hrow]
  have := h c' hc1 hc2
  refine ⟨_, _, _, rfl, ?_⟩
  simpa using this
theorem und_35 : Pg.underlying 35 = some (.slice 74) := by kernel_rfl
theorem und_3 : Pg.underlying 3 = some (.int .i64) := by kernel_rfl
theorem info_74 : ∃ i v, Pg.info? 74 = some i ∧ i.zero = some v ∧ zc Pg 74 = v.cells.toList ∧ i.bytes ≤ 1000 ∧ 1 ≤ i.bytes ∧ i.size = 2 := by
  have h : (Pg.info? 74).bind (fun i => i.zero.map fun v => (v.cells.toList, i.bytes, i.size)) = some (zc Pg 74, 16, 2) := by kernel_rfl
  obtain ⟨i, h1, h2⟩ := Option.bind_eq_some_iff.1 h
  obtain ⟨v, h3, h4⟩ := Option.map_eq_some_iff.1 h2
  simp only [Prod.mk.injEq] at h4
  exact ⟨i, v, h1, h3, h4.1.symm, by omega, by omega, h4.2.2⟩
section
variable {W : World} {K : VK} {E : List PanicEntry → Hp → Prop} {s : Hp}
theorem c_Grow {n : Nat} (hn : n ≤ 500000) (hk : ∀ s' x' c', Ext s s' → Fr s.size s' x' 0 c' 2 [] → K (.slice x' 0 c') s') : CALL Pg W F_slices_Grow_api_Span_api_Span [.slice none 0 0, .int .i64 (n : Int)] K E s := by
  refine does_slices_Grow_api_Span_api_Span W none 0 0 (n : Int) _ s ?_
  unfold T_slices_Grow_api_Span_api_Span
  refine BR_ff (decide_eq_false (by omega)) ?_
  have hw : IntKind.wrap .i64 ((n : Int) - IntKind.wrap .i64 (((0 : Nat) : Int) - ((0 : Nat) : Int))) = (n : Int) := by
    rw [wrap_i64 (n := ((0 : Nat) : Int) - ((0 : Nat) : Int)) (by omega) (by omega), wrap_i64 (by omega) (by omega)]; omega
  rw [hw]
  refine BR_dec (fun hp => ?_) (fun hp => ?_)
  · refine ⟨⟨by omega, by omega, by omega⟩, ?_⟩
    obtain ⟨i, v, i1, i2, i3, i4, i5, i6⟩ := info_74
    have e0 : Int.toNat ((0 : Nat) : Int) - Int.toNat 0 = 0 := rfl
    refine APPZ_gen und_35 und_3 i1 i2 i3 i4 i5 (by omega) (by omega) (by show 0 - 0 < _ + n; omega) (by show 0 - 0 + n ≤ _; omega) (ws := []) (by rw [e0, Nat.zero_mul]; rfl) fun c' h1 h2 => ?_
    rw [e0] at h1 ⊢
    refine ⟨⟨by omega, by omega, by omega⟩, ?_⟩
    try simp only [TUP_mk, AGG_mk, HD_mk, NL_mk, TYI_mk, TYB_mk, TYP_mk, TYL_mk, TYS_mk, TYM_mk, SO_mk, NX_mk, endK_mk, endK_mk', add_0]
    have hc : ¬ c' = Int.toNat 0 := by show ¬ c' = 0; omega
    rw [if_neg hc]
    refine hk _ _ _ (Ext.push (Ext.refl s)) ?_
    show Fr s.size _ (some (Addr.add ⟨s.size, 0, none⟩ 0)) 0 c' 2 []
    refine ⟨⟨by simp, fun j hj => ⟨_, rfl, ?_⟩⟩, by simp, fun a ha => by cases ha; exact Nat.le_refl _, by omega⟩
    rw [add_0, add_nil, show 0 + j = j from Nat.zero_add j]
    have hlen : ([] ++ repL n (zc Pg 74) ++ repL (c' - (0 + n)) (zc Pg 74)).length = c' * 2 := by
      rw [List.length_append, List.length_append, repL_lenN, repL_lenN, zc_74]
      simp only [List.length_nil, List.length_cons]
      omega
    exact ⟨_, own_new (List.getElem?_eq_getElem (by rw [hlen]; exact hj)), fun h => by simp at h⟩
  · try simp only [TUP_mk, AGG_mk, HD_mk, NL_mk, TYI_mk, TYB_mk, TYP_mk, TYL_mk, TYS_mk, TYM_mk, SO_mk, NX_mk, endK_mk, endK_mk', add_0]
    exact hk s none 0 (Ext.refl s) (Fr.nil _ _ _)
theorem kin_flat (l : List (Int × Int)) : (l.flatMap kinV).length = l.length * 2 := flat_len l fun _ _ => rfl
theorem kin_ones (l : List (Int × Int)) : ∀ v ∈ l.flatMap kinV, oneCell v = true := by
  intro v hv
  obtain ⟨m, _, h⟩ := List.mem_flatMap.1 hv
  simp only [kinV, List.mem_cons, List.not_mem_nil, or_false] at h
  rcases h with rfl | rfl <;> rfl
/-- Two lists, put together. -/
theorem c_Concat {A B : List (Int × Int)} {x y : Option Addr} {b : Addr} {c d : Nat} (hb : RowAt s (some b) [.slice x A.length c, .slice y B.length d]) (hx : RowAt s x (A.flatMap kinV)) (hy : RowAt s y (B.flatMap kinV)) (hA : A.length ≤ 100000) (hB : B.length ≤ 100000)
    (hk : ∀ s' x' c', Ext s s' → Fr s.size s' x' (A ++ B).length c' 2 ((A ++ B).flatMap kinV) → K (.slice x' (A ++ B).length c') s') : CALL Pg W F_slices_Concat_api_Span_api_Span [.slice (some b) 2 2] K E s := by
  refine does_slices_Concat_api_Span_api_Span W (some b) 2 2 _ s ?_
  unfold T_slices_Concat_api_Span_api_Span
  have c0 : cellAt s (b.add (0 * 1)) = some (.slice x A.length c) := by obtain ⟨a, ha, h⟩ := hb 0 (by simp); cases ha; exact h
  have c1 : cellAt s (b.add (1 * 1)) = some (.slice y B.length d) := by obtain ⟨a, ha, h⟩ := hb 1 (by simp); cases ha; exact h
  refine L_slices_Concat_api_Span_api_Span_0_rule W _ _ _ _ _ (fun n m s' => s' = s ∧ ((m = 0 ∧ n = 0) ∨ (m = 1 ∧ n = A.length) ∨ (m = 2 ∧ n = A.length + B.length))) (fun n m s' => 2 - m.toNat) _ _ s ⟨rfl, .inl ⟨rfl, rfl⟩⟩ ?_
  rintro n m s1 ⟨rfl, hm⟩
  unfold B_slices_Concat_api_Span_api_Span_0
  have w1 : IntKind.wrap .i64 (0 + 1) = 1 := rfl
  have w2 : IntKind.wrap .i64 (1 + 1) = 2 := rfl
  rcases hm with ⟨rfl, rfl⟩ | ⟨rfl, rfl⟩ | ⟨rfl, rfl⟩
  · refine BR_tt rfl ?_
    refine ⟨b, rfl, ⟨by omega, by omega⟩, ?_⟩
    refine ⟨_, _, _, c0, ?_⟩
    have hw : IntKind.wrap .i64 (0 + (A.length : Int)) = (A.length : Int) := by rw [wrap_i64 (by omega) (by omega)]; omega
    dsimp only
    rw [hw]
    refine BR_ff (decide_eq_false (by omega)) ?_
    try simp only [TUP_mk, AGG_mk, HD_mk, NL_mk, TYI_mk, TYB_mk, TYP_mk, TYL_mk, TYS_mk, TYM_mk, SO_mk, NX_mk, endK_mk, endK_mk', add_0]
    exact ⟨_, _, rfl, ⟨rfl, .inr (.inl ⟨w1, rfl⟩)⟩, (show (1 : Nat) < 2 by decide)⟩
  · refine BR_tt rfl ?_
    refine ⟨b, rfl, ⟨by omega, by omega⟩, ?_⟩
    refine ⟨_, _, _, c1, ?_⟩
    have hw : IntKind.wrap .i64 ((A.length : Int) + (B.length : Int)) = (A.length : Int) + (B.length : Int) := wrap_i64 (by omega) (by omega)
    dsimp only
    rw [hw]
    refine BR_ff (decide_eq_false (by omega)) ?_
    try simp only [TUP_mk, AGG_mk, HD_mk, NL_mk, TYI_mk, TYB_mk, TYP_mk, TYL_mk, TYS_mk, TYM_mk, SO_mk, NX_mk, endK_mk, endK_mk', add_0]
    exact ⟨_, _, rfl, ⟨rfl, .inr (.inr ⟨w2, rfl⟩)⟩, (show (0 : Nat) < 1 by decide)⟩
  · refine BR_ff rfl ?_
    have hn : (A.length : Int) + (B.length : Int) = ((A.length + B.length : Nat) : Int) := by omega
    rw [hn]
    refine c_Grow (by omega) fun s2 x2 c2 e2 f2 => ?_
    try simp only [TUP_mk, AGG_mk, HD_mk, NL_mk, TYI_mk, TYB_mk, TYP_mk, TYL_mk, TYS_mk, TYM_mk, SO_mk, NX_mk, endK_mk, endK_mk', add_0]
    refine L_slices_Concat_api_Span_api_Span_1_rule W _ _ _ _ _ (fun x' l' c' m s' => Ext s1 s' ∧ ((m = 0 ∧ l' = 0 ∧ Fr s1.size s' x' 0 c' 2 []) ∨ (m = 1 ∧ l' = A.length ∧ Fr s1.size s' x' A.length c' 2 (A.flatMap kinV)) ∨ (m = 2 ∧ l' = A.length + B.length ∧ Fr s1.size s' x' (A.length + B.length) c' 2 (A.flatMap kinV ++ B.flatMap kinV)))) (fun x' l' c' m s' => 2 - m.toNat) _ _ _ _ s2 ⟨e2, .inl ⟨rfl, rfl, f2⟩⟩ ?_
    rintro x3 l3 c3 m s3 ⟨e3, hm⟩
    unfold B_slices_Concat_api_Span_api_Span_1
    rcases hm with ⟨rfl, rfl, f3⟩ | ⟨rfl, rfl, f3⟩ | ⟨rfl, rfl, f3⟩
    · refine BR_tt rfl ?_
      refine ⟨b, rfl, ⟨by omega, by omega⟩, ?_⟩
      refine ⟨_, _, _, e3.cell c0, ?_⟩
      refine APP_fr f3 e3.1 (hx.ext e3) (kin_flat A) zc_74 rfl (by omega) (kin_ones A) (by omega) (fun s4 x4 c4 k4 h4 f4 => ?_)
      try simp only [TUP_mk, AGG_mk, HD_mk, NL_mk, TYI_mk, TYB_mk, TYP_mk, TYL_mk, TYS_mk, TYM_mk, SO_mk, NX_mk, endK_mk, endK_mk', add_0]
      refine ⟨_, _, _, _, rfl, ⟨kp_nil e3 (fun q ⟨a', h1, h2⟩ => by rw [← h2]; exact f3.fr a' h1) k4, .inr (.inl ⟨w1, by omega, ?_⟩)⟩, (show (1 : Nat) < 2 by decide)⟩
      rw [Nat.zero_add, List.nil_append] at f4
      exact f4
    · refine BR_tt rfl ?_
      refine ⟨b, rfl, ⟨by omega, by omega⟩, ?_⟩
      refine ⟨_, _, _, e3.cell c1, ?_⟩
      refine APP_fr f3 e3.1 (hy.ext e3) (kin_flat B) zc_74 rfl (by omega) (kin_ones B) (by omega) (fun s4 x4 c4 k4 h4 f4 => ?_)
      try simp only [TUP_mk, AGG_mk, HD_mk, NL_mk, TYI_mk, TYB_mk, TYP_mk, TYL_mk, TYS_mk, TYM_mk, SO_mk, NX_mk, endK_mk, endK_mk', add_0]
      exact ⟨_, _, _, _, rfl, ⟨kp_nil e3 (fun q ⟨a', h1, h2⟩ => by rw [← h2]; exact f3.fr a' h1) k4, .inr (.inr ⟨w2, rfl, f4⟩)⟩, (show (0 : Nat) < 1 by decide)⟩
    · refine BR_ff rfl ?_
      try simp only [TUP_mk, AGG_mk, HD_mk, NL_mk, TYI_mk, TYB_mk, TYP_mk, TYL_mk, TYS_mk, TYM_mk, SO_mk, NX_mk, endK_mk, endK_mk', add_0]
      have hl : (A ++ B).length = A.length + B.length := List.length_append
      have hf : (A ++ B).flatMap kinV = A.flatMap kinV ++ B.flatMap kinV := List.flatMap_append
      have := hk s3 x3 c3 e3 (by rw [hl, hf]; exact f3)
      rw [hl] at this
      exact this
theorem pr_u8 {o : Int × Int} (h0 : 0 ≤ o.1 ∧ o.1 ≤ 255) (h1 : 0 ≤ o.2 ∧ o.2 ≤ 255) : [Value.int .u8 (IntKind.wrap .u8 o.1), .int .u8 (IntKind.wrap .u8 o.2)] = u8s (prB o) := by rw [u8_toB h0.1 h0.2, u8_toB h1.1 h1.2]; rfl
theorem fr_lt {t : Hp} {x : Option Addr} {lo l c es : Nat} {vs : List Value} (h : Fr lo t x l c es vs) (hv : vs ≠ []) : ∀ a, x = some a → a.block < t.size := fun a ha => by
  obtain ⟨b, hb, hc⟩ := h.row 0 (List.length_pos_iff.2 hv)
  rw [ha] at hb; cases hb
  have := cell_lt hc
  rwa [add_blk] at this
/-- The bytes that are written, and the error. -/
def WrF (lo : Nat) (s : Hp) (f : FrS) (v : Value) : Prop := if okFr f = true then ∃ x c, v = .tuple #[.slice x (withC (frB f)).length c, .int .i64 0] ∧ Fr lo s x (withC (frB f)).length c 1 (u8s (withC (frB f))) else v = .tuple #[.slice none 0 0, .int .i64 1]
theorem c_WriteFurrow {f : FrS} {x y w : Option Addr} {c d e : Nat} (hf : FrC s x y w f) (h1 : f.offs.length ≤ 1000000) (h2 : f.wids.length ≤ 1000000) (h3 : f.deps.length ≤ 1000000)
    (hk : ∀ s' v, Ext s s' → WrF s.size s' f v → K v s') : CALL Pg W F_book_WriteFurrow [.agg #[.slice x f.offs.length c, .slice y f.wids.length d, .slice w f.deps.length e]] K E s := by
  refine does_book_WriteFurrow W x f.offs.length c y f.wids.length d w f.deps.length e _ s ?_
  unfold T_book_WriteFurrow
  refine NEW_rule fun s1 e1 z1 o _ => ?_
  have o0 := (o 0 _ rfl).cell
  have o1 := (o 1 _ rfl).cell
  have o2 := (o 2 _ rfl).cell
  refine ⟨_, _, _, o0, _, _, _, o1, _, _, _, o2, ?_⟩
  refine c_isFurrow (hf.ext e1) h1 h2 h3 fun s2 e2 => ?_
  try simp only [TUP_mk, AGG_mk, HD_mk, NL_mk, TYI_mk, TYB_mk, TYP_mk, TYL_mk, TYS_mk, TYM_mk, SO_mk, NX_mk, endK_mk, endK_mk', add_0]
  refine BR_not (fun hok => ?_) (fun hok => ?_)
  · try simp only [TUP_mk, AGG_mk, HD_mk, NL_mk, TYI_mk, TYB_mk, TYP_mk, TYL_mk, TYS_mk, TYM_mk, SO_mk, NX_mk, endK_mk, endK_mk', add_0]
    exact hk s2 _ (e1.trans e2) (by unfold WrF; rw [hok]; rfl)
  obtain ⟨⟨g1, g2, g3⟩, g4, g5, g6⟩ := okFr_b hok
  refine ⟨_, _, _, e2.cell o0, ?_⟩
  dsimp only
  have hn : (toB (f.offs.length : Int)).toNat = f.offs.length := by have := toB_nat (n := (f.offs.length : Int)) (by omega) (by omega); omega
  rw [u8_toB (by omega) (by omega)]
  refine NEW_rule fun s3 e3 z3 o3 _ => ?_
  have e13 := (e1.trans e2).trans e3
  refine ⟨_, _, _, e3.cell (e2.cell o0), ?_⟩
  have e23 := e2.trans e3
  have fr0 : Fr s1.size s3 (some ⟨s2.size, 0, none⟩) 2 2 1 (u8s [70, toB (f.offs.length : Int)]) := by
    refine ⟨⟨by simp [u8s], fun i hi => ⟨_, rfl, ?_⟩⟩, by simp [u8s], fun a ha => by cases ha; exact e2.1, by omega⟩
    rw [add_nil, Nat.zero_add]
    have hi2 : i < (u8s [70, toB (f.offs.length : Int)]).length := by simpa [u8s] using hi
    exact ⟨_, o3 i _ (List.getElem?_eq_getElem hi2), fun h => rfl⟩
  have hoffs := hf.offs.ext e1
  refine L_book_WriteFurrow_0_rule W _ _ _ _ _ _ (fun x' l' c' m s' => ∃ k : Nat, m = (k : Int) ∧ k ≤ f.offs.length ∧ Ext s1 s' ∧ l' = 2 + k ∧ Fr s1.size s' x' (2 + k) c' 1 (u8s (70 :: toB (f.offs.length : Int) :: (f.offs.take k).map offB))) (fun x' l' c' m s' => f.offs.length - m.toNat) _ _ _ _ s3 ⟨0, rfl, by omega, e23, rfl, by simpa using fr0⟩ ?_
  rintro x4 l4 c4 m s4 ⟨k, rfl, hk1, e4, rfl, f4⟩
  unfold B_book_WriteFurrow_0
  refine BR_dec (fun hlt => ?_) (fun hge => ?_)
  · have hkl : k < f.offs.length := by omega
    obtain ⟨a, ha, hc⟩ := rowF (f := kinV) (M := 2) (fun _ => rfl) (hoffs.ext e4) k hkl (by omega)
    subst ha
    refine IXS_nat hkl ?_
    refine ⟨_, hc 0 (by omega), _, hc 1 (by omega), ?_⟩
    refine nw2 zc_74 rfl rfl fun s5 e5 z5 p0 p1 => ?_
    refine ⟨_, p0.cell, _, p1.cell, _, p0.cell, ?_⟩
    have hb := okOff_b (g4 _ (List.getElem_mem hkl))
    generalize hO : f.offs[k] = O at hb
    have hv : IntKind.wrap .i64 (IntKind.wrap .i64 (IntKind.wrap .i64 (8 * IntKind.wrap .i64 (12 + O.1)) + O.2) - O.1) = offN O := by
      rw [wrap_i64 (n := 12 + O.1) (by omega) (by omega), wrap_i64 (n := 8 * (12 + O.1)) (by omega) (by omega), wrap_i64 (n := 8 * (12 + O.1) + O.2) (by omega) (by omega), wrap_i64 (by omega) (by omega)]; rfl
    show NEW 5 [(.int .u8 (IntKind.wrap .u8 (IntKind.wrap .i64 (IntKind.wrap .i64 (IntKind.wrap .i64 (8 * IntKind.wrap .i64 (12 + O.1)) + O.2) - O.1))))] _ s5
    rw [hv, u8_toB (by unfold offN; omega) (by unfold offN; omega)]
    refine NEW_rule fun s6 e6 z6 o6 _ => ?_
    have e46 := e5.trans e6
    refine APP_fr (f4.ext e46) (e4.trans e46).1 (ws := u8s [offB O]) (row_new o6) rfl zc_5 rfl (by omega) (u8s_one _) (by omega) (fun s7 x7 c7 k7 h7 f7 => ?_)
    try simp only [TUP_mk, AGG_mk, HD_mk, NL_mk, TYI_mk, TYB_mk, TYP_mk, TYL_mk, TYS_mk, TYM_mk, SO_mk, NX_mk, endK_mk, endK_mk', add_0]
    refine ⟨_, _, _, _, rfl, ⟨k + 1, wr_k (by omega), by omega, kp_nil (e4.trans e46) (fun q ⟨a', h1, h2⟩ => by rw [← h2]; exact f4.fr a' h1) k7, by omega, ?_⟩, ms_k hkl (by omega)⟩
    rw [← u8s_app] at f7
    have ht : (f.offs.take (k + 1)).map offB = (f.offs.take k).map offB ++ [offB O] := by rw [take_map hkl, hO]
    rw [ht]
    exact f7
  · have hkl : k = f.offs.length := by omega
    subst hkl
    rw [List.take_length] at f4
    refine ⟨_, _, _, e4.cell o1, _, _, _, e4.cell o2, ?_⟩
    refine NEW_rule fun s5 e5 z5 o5 _ => ?_
    have e45 := e4.trans e5
    have e05 := e1.trans e45
    refine c_Concat (A := f.wids) (B := f.deps) (row_new o5) (hf.wids.ext e05) (hf.deps.ext e05) (by omega) (by omega) fun s6 x6 c6 e6 f6 => ?_
    try simp only [TUP_mk, AGG_mk, HD_mk, NL_mk, TYI_mk, TYB_mk, TYP_mk, TYL_mk, TYS_mk, TYM_mk, SO_mk, NX_mk, endK_mk, endK_mk', add_0]
    have f46 := f4.ext (e5.trans e6)
    have e46 := e45.trans e6
    generalize hP : f.wids ++ f.deps = P at f6
    have hPl : P.length ≤ 16 := by rw [← hP, List.length_append]; omega
    have hPr : ∀ o ∈ P, (0 ≤ o.1 ∧ o.1 ≤ 255) ∧ 0 ≤ o.2 ∧ o.2 ≤ 255 := by
      intro o ho
      rw [← hP] at ho
      rcases List.mem_append.1 ho with ho | ho
      · have := okSpn_b (g5 o ho); omega
      · have := okSpn_b (g6 o ho); omega
    have hs6 : s1.size ≤ s6.size := e46.1
    refine L_book_WriteFurrow_1_rule W _ _ _ _ _ (fun x' l' c' m s' => ∃ k : Nat, m = (k : Int) ∧ k ≤ P.length ∧ Ext s1 s' ∧ RowAt s' x6 (P.flatMap kinV) ∧ (∃ ls, l' = ls ∧ ls = 2 + f.offs.length + 2 * k) ∧ Fr s1.size s' x' l' c' 1 (u8s (70 :: toB (f.offs.length : Int) :: (f.offs.map offB ++ (P.take k).flatMap prB))) ∧ (∀ a b, x' = some a → x6 = some b → a.block ≠ b.block)) (fun x' l' c' m s' => P.length - m.toNat) _ _ _ _ s6 ⟨0, rfl, by omega, e46, f6.row, ⟨_, rfl, rfl⟩, by simpa using f46, ?_⟩ ?_
    · intro a b ha hb
      have h1 := fr_lt f4 (by simp [u8s]) a ha
      have h2 := f6.fr b hb
      have := e5.1
      omega
    · rintro x7 l7 c7 m s7 ⟨k, rfl, hk2, e7, r7, ⟨ls, rfl, hls⟩, f7, hd7⟩
      unfold B_book_WriteFurrow_1
      refine BR_dec (fun hlt => ?_) (fun hge => ?_)
      · have hkl : k < P.length := by omega
        obtain ⟨a, ha, hc⟩ := rowF (f := kinV) (M := 2) (fun _ => rfl) r7 k hkl (by omega)
        subst ha
        refine IXS_nat hkl ?_
        refine ⟨_, hc 0 (by omega), _, hc 1 (by omega), ?_⟩
        refine nw2 zc_74 rfl rfl fun s8 e8 z8 p0 p1 => ?_
        refine ⟨_, p0.cell, _, p1.cell, ?_⟩
        have hpr := hPr _ (List.getElem_mem hkl)
        generalize hO : P[k] = O at hpr
        show NEW 5 [(.int .u8 (IntKind.wrap .u8 O.1)), (.int .u8 (IntKind.wrap .u8 O.2))] _ s8
        rw [pr_u8 hpr.1 hpr.2]
        refine NEW_rule fun s9 e9 z9 o9 _ => ?_
        have e79 := e8.trans e9
        refine APP_fr (f7.ext e79) (e7.trans e79).1 (ws := u8s (prB O)) (row_new o9) rfl zc_5 rfl (by omega) (u8s_one _) (by omega) (fun s10 x10 c10 k10 h10 f10 => ?_)
        try simp only [TUP_mk, AGG_mk, HD_mk, NL_mk, TYI_mk, TYB_mk, TYP_mk, TYL_mk, TYS_mk, TYM_mk, SO_mk, NX_mk, endK_mk, endK_mk', add_0]
        rw [← u8s_app] at f10
        have ht : (P.take (k + 1)).flatMap prB = (P.take k).flatMap prB ++ prB O := by
          rw [List.take_add_one, List.getElem?_eq_getElem hkl, List.flatMap_append, hO]; simp
        refine ⟨_, _, _, _, rfl, ⟨k + 1, wr_k (by omega), by omega, kp_nil (e7.trans e79) (fun q ⟨a', h1, h2⟩ => by rw [← h2]; exact f7.fr a' h1) k10, (r7.ext e79).keep k10 (fun b hb ⟨a', h1, h2⟩ => hd7 a' b h1 hb h2), ⟨_, rfl, by omega⟩, ?_, ?_⟩, ms_k hkl (by omega)⟩
        · rw [ht]
          have e : 70 :: toB (f.offs.length : Int) :: (f.offs.map offB ++ ((P.take k).flatMap prB ++ prB O)) = (70 :: toB (f.offs.length : Int) :: (f.offs.map offB ++ (P.take k).flatMap prB)) ++ prB O := by simp
          rw [e]
          exact f10
        · intro a' b ha' hb
          cases hb
          rcases h10 a' ha' with ⟨a0, h1, h2⟩ | h1
          · rw [← h2]; exact hd7 a0 a h1 rfl
          · have := cell_lt (hc 0 (by omega))
            rw [add_blk, add_blk] at this
            have := e79.1
            omega
      · have hkl : k = P.length := by omega
        subst hkl
        rw [List.take_length] at f7
        have hB : 70 :: toB (f.offs.length : Int) :: (f.offs.map offB ++ P.flatMap prB) = frB f := by rw [← hP]; rfl
        rw [hB] at f7
        have hBl := frB_len hok
        have hlen : l7 = (frB f).length := by
          rw [hBl]
          have : P.length = f.wids.length + f.deps.length := by rw [← hP, List.length_append]
          omega
        subst hlen
        refine c_checked f7.row (by omega) fun s8 x8 c8 e8 f8 => ?_
        try simp only [TUP_mk, AGG_mk, HD_mk, NL_mk, TYI_mk, TYB_mk, TYP_mk, TYL_mk, TYS_mk, TYM_mk, SO_mk, NX_mk, endK_mk, endK_mk', add_0]
        refine hk s8 _ (e1.trans (e7.trans e8)) ?_
        unfold WrF
        rw [if_pos hok]
        refine ⟨x8, c8, rfl, ?_⟩
        have h17 : s.size ≤ s7.size := (e1.trans e7).1
        exact ⟨f8.buf, f8.len, fun a ha => Nat.le_trans h17 (f8.fr a ha), f8.cap⟩
end
end Go.Proofs.YtcjgbanpkmpekaaGreatDoor.G
