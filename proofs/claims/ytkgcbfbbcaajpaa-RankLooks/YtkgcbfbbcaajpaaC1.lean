import Derived.Test.YtkgcbfbbcaajpaaC0
import Derived.RecoverIn
import Derived.Test.YtkgcbfbbcaajpaaRows
import Derived.WalkKit
import Derived.ProofKit
import Derived.OpenShut
import Derived.ShutString
import Derived.ChangeOld
import Derived.Below
import Derived.SizedLaws
import Derived.Test.YtkgcbfbbcaajpaaProg
/- Lemmas: contracts over the visible heap, and that they are sound; no condition. -/
/- The text of conditions is monotone in what lies behind. -/
set_option linter.unusedSimpArgs false
set_option linter.unusedVariables false
namespace Go.V
section
variable {P : Program} {W : World} {s : Hp}

theorem ty1_pure {k : Kd} {v : Value} {K : VK} (h : ty1 k v K s) : K v s ∧ ∀ (K' : VK) (s' : Hp), K' v s' → ty1 k v K' s' := by
  unfold ty1 at h ⊢
  cases k <;> simp only at h ⊢
  case i k => unfold TYI at h ⊢; cases v <;> first | exact h.elim | (obtain ⟨rfl, h⟩ := h; exact ⟨h, fun K' s' h' => ⟨rfl, h'⟩⟩)
  case b => unfold TYB at h ⊢; cases v <;> first | exact h.elim | exact ⟨h, fun K' s' h' => h'⟩
  case s => unfold TYS at h ⊢; cases v <;> first | exact h.elim | exact ⟨h, fun K' s' h' => h'⟩
  case p => unfold TYP at h ⊢; cases v <;> first | exact h.elim | exact ⟨h, fun K' s' h' => h'⟩
  case l => unfold TYL at h ⊢; cases v <;> first | exact h.elim | exact ⟨h, fun K' s' h' => h'⟩
  case m => unfold TYM at h ⊢; cases v <;> first | exact h.elim | exact ⟨h, fun K' s' h' => h'⟩
  case v => exact ⟨h, fun K' s' h' => h'⟩
theorem tyN_pure : ∀ (ks : List Kd) (l : List Value) (K : List Value → Hp → Prop), tyN ks l K s → K l s ∧ ∀ (K' : List Value → Hp → Prop) (s' : Hp), K' l s' → tyN ks l K' s'
  | [], l, K, h => by obtain ⟨rfl, h⟩ := NL_elim h; exact ⟨h, fun K' s' h' => h'⟩
  | k :: ks, l, K, h => by
    obtain ⟨x, r, rfl, h'⟩ := HD_elim h
    obtain ⟨h1, h2⟩ := ty1_pure h'
    obtain ⟨h3, h4⟩ := tyN_pure ks r _ h1
    exact ⟨h3, fun K' s' hk => h2 (fun v => tyN ks r fun vs => K' (v :: vs)) s' (h4 (fun vs => K' (x :: vs)) s' hk)⟩
theorem tyT_pure {t : TypeId} {v : Value} {K : VK} (h : tyT P t v K s) : K v s ∧ ∀ (K' : VK) (s' : Hp), K' v s' → tyT P t v K' s' := by
  unfold tyT at h ⊢
  cases hb : isAg P t with
  | false => simp only [hb] at h ⊢; exact ty1_pure h
  | true =>
    simp only [hb] at h ⊢
    unfold AGG at h ⊢
    cases v <;> first | exact h.elim | skip
    rename_i a
    obtain ⟨h1, h2⟩ := tyN_pure _ _ _ h
    exact ⟨by simpa using h1, fun K' s' h' => h2 _ s' (by simpa using h')⟩
theorem tyTs_pure : ∀ (ts : List TypeId) (l : List Value) (K : List Value → Hp → Prop), tyTs P ts l K s → K l s ∧ ∀ (K' : List Value → Hp → Prop) (s' : Hp), K' l s' → tyTs P ts l K' s'
  | [], l, K, h => by obtain ⟨rfl, h⟩ := NL_elim h; exact ⟨h, fun K' s' h' => h'⟩
  | t :: ts, l, K, h => by
    obtain ⟨x, r, rfl, h'⟩ := HD_elim h
    obtain ⟨h1, h2⟩ := tyT_pure h'
    obtain ⟨h3, h4⟩ := tyTs_pure ts r _ h1
    exact ⟨h3, fun K' s' hk => h2 (fun v => tyTs P ts r fun vs => K' (v :: vs)) s' (h4 (fun vs => K' (x :: vs)) s' hk)⟩
theorem tyR_pure {t : TypeId} {v : Value} {K : VK} (h : tyR P t v K s) : K v s ∧ ∀ (K' : VK) (s' : Hp), K' v s' → tyR P t v K' s' := by
  unfold tyR at h ⊢
  cases hu : P.underlying t with
  | none => simp only [hu] at h ⊢; exact tyT_pure h
  | some d =>
    simp only [hu] at h ⊢
    cases d <;> first | exact tyT_pure h | skip
    unfold TUP at h ⊢
    cases v <;> first | exact h.elim | skip
    obtain ⟨h1, h2⟩ := tyTs_pure _ _ _ h
    exact ⟨by simpa using h1, fun K' s' h' => h2 _ s' (by simpa using h')⟩

theorem CS_mono {ag : Bool} {v : Value} {n : Nat} {K K' : List Value → Hp → Prop} (hk : ∀ l s, K l s → K' l s) (h : CS ag v n K s) : CS ag v n K' s := by
  unfold CS at h ⊢
  cases ag with
  | true =>
    cases v <;> first | exact h.elim | skip
    rename_i c
    cases hb : Nat.beq c.toList.length n with
    | false => simp only [hb] at h; exact h.elim
    | true => simp only [hb] at h ⊢; exact hk _ _ h
  | false =>
    cases hb : Nat.beq n 1 with
    | false => simp only [hb] at h; exact h.elim
    | true =>
      simp only [hb] at h ⊢
      unfold ONE at h ⊢
      cases h1 : oneCell v with
      | false => simp only [h1] at h; exact h.elim
      | true => simp only [h1] at h ⊢; exact hk _ _ h
theorem wrN_mono : ∀ (vs : List Value) (a : Addr) (i : Nat) (K K' : Hp → Prop) (hk : ∀ s, K s → K' s) (s : Hp), wrN vs a i K s → wrN vs a i K' s
  | [], a, i, K, K', hk, s, h => hk s h
  | v :: vs, a, i, K, K', hk, s, h => ⟨h.1, wrN_mono vs a (i + 1) K K' hk _ h.2⟩
theorem SZ_mono {t : TypeId} {K K' : Nat → Hp → Prop} (hk : ∀ m s, K m s → K' m s) (h : SZ P t K s) : SZ P t K' s := by
  obtain ⟨m, h1, h2⟩ := SZ_pure h
  exact h2 _ _ (hk _ _ h1)
theorem ST_mono {t : TypeId} {p v : Value} {K K' : Hp → Prop} (hk : ∀ s, K s → K' s) (h : ST P t p v K s) : ST P t p v K' s := by
  unfold ST at h ⊢
  cases p <;> first | exact h.elim | skip
  obtain ⟨a, rfl, h'⟩ := SO_elim h
  exact SZ_mono (fun m s h => CS_mono (fun l s h => wrN_mono _ _ _ _ _ hk _ h) h) h'
theorem BLD_mono {place : Nat → Option (Nat × Nat × Bool)} {cs : List Value} {ps : List (Nat × Value)} {K K' : List Value → Hp → Prop} (hk : ∀ l s, K l s → K' l s) (h : BLD place cs ps K s) : BLD place cs ps K' s := by
  obtain ⟨ds, h1, h2⟩ := BLD_pure _ _ _ h
  exact h2 _ _ (hk _ _ h1)
theorem BSL_mono {t : TypeId} {len : Nat} {ps : List (Nat × Value)} {K K' : VK} (hk : ∀ v s, K v s → K' v s) (h : BSL P t len ps K s) : BSL P t len ps K' s := by
  unfold BSL at h ⊢
  cases hc : (isSl P t && hasZero P (elemT P t) && Nat.beq (zc P (elemT P t)).length (P.cellsOf (elemT P t)) && Nat.ble (len * P.cellsOf (elemT P t)) 1000) with
  | false => simp only [hc] at h; exact h.elim
  | true => simp only [hc] at h ⊢; exact BLD_mono (fun l s h => hk _ _ h) h
theorem mks_mono {t : TypeId} {l c : Value} {K K' : VK} (hk : ∀ v s, K v s → K' v s) (h : mks P t l c K s) : mks P t l c K' s := by
  unfold mks at h ⊢
  cases l <;> first | exact h.elim | skip
  cases c <;> first | exact h.elim | skip
  simp only at h ⊢
  cases hc : (isSl P t && hasZero P (elemT P t) && Nat.beq (zc P (elemT P t)).length (P.cellsOf (elemT P t)) && Nat.ble (P.bytesOf (elemT P t)) 1000) with
  | false => simp only [hc] at h; exact h.elim
  | true => simp only [hc] at h ⊢; exact ⟨h.1, hk _ _ h.2⟩
theorem SO_mono {α : Type} {o : Option α} {K K' : α → Hp → Prop} (hk : ∀ a s, K a s → K' a s) {s : Hp} (h : SO o K s) : SO o K' s := by
  cases o with
  | none => exact h.elim
  | some a => exact hk a s h
theorem slc_mono {t : TypeId} {x : Value} {lo hi : Option Value} {K K' : VK} (hk : ∀ v s, K v s → K' v s) (h : slc P t x lo hi K s) : slc P t x lo hi K' s := by
  unfold slc at h ⊢
  cases hu : P.underlying t with
  | none => simp only [hu] at h; exact h.elim
  | some d =>
    simp only [hu] at h ⊢
    cases d <;> first | exact h.elim | skip
    case slice e =>
      cases x <;> first | exact h.elim | skip
      refine SZ_mono (fun m s h => ?_) h
      cases lo with
      | none =>
        cases hi with
        | none => exact ⟨h.1, hk _ _ h.2⟩
        | some v => cases v <;> first | exact h.elim | exact ⟨h.1, hk _ _ h.2⟩
      | some u =>
        cases hi with
        | none => cases u <;> first | exact h.elim | exact ⟨h.1, hk _ _ h.2⟩
        | some v => cases u <;> cases v <;> first | exact h.elim | exact ⟨h.1, hk _ _ h.2⟩
    case array n e =>
      cases x <;> first | exact h.elim | skip
      simp only at h ⊢
      refine SO_mono (fun a s h => SZ_mono (fun m s h => ?_) h) h
      cases lo with
      | none =>
        cases hi with
        | none => exact ⟨h.1, hk _ _ h.2⟩
        | some v => cases v <;> first | exact h.elim | exact ⟨h.1, hk _ _ h.2⟩
      | some u =>
        cases hi with
        | none => cases u <;> first | exact h.elim | exact ⟨h.1, hk _ _ h.2⟩
        | some v => cases u <;> cases v <;> first | exact h.elim | exact ⟨h.1, hk _ _ h.2⟩
theorem fad_mono {t : TypeId} {x : Value} {j : Nat} {K K' : VK} (hk : ∀ v s, K v s → K' v s) (h : fad P t x j K s) : fad P t x j K' s := by
  unfold fad at h ⊢
  cases hu : P.underlying t with
  | none => simp only [hu] at h; exact h.elim
  | some d =>
    simp only [hu] at h ⊢
    cases d <;> first | exact h.elim | skip
    rename_i fs
    cases x <;> first | exact h.elim | skip
    obtain ⟨a, rfl, h'⟩ := SO_elim h
    show (match fs.toList[j]? with | some f => _ | none => FF) s
    cases hf : fs.toList[j]? with
    | none => simp only [hf] at h'; exact h'.elim
    | some f =>
      simp only [hf] at h' ⊢
      refine SZ_mono (fun m s h => ?_) h'
      cases hb : Nat.beq m 0 with
      | false => simp only [hb] at h ⊢; exact hk _ _ h
      | true =>
        simp only [hb] at h ⊢
        cases hc : (Nat.beq f.offset 0 && Nat.beq f.byteOffset 0) with
        | false => simp only [hc] at h; exact h.elim
        | true => simp only [hc] at h ⊢; exact ⟨h.1, hk _ _ h.2⟩
theorem fld_mono {t : TypeId} {x : Value} {j : Nat} {K K' : VK} (hk : ∀ v s, K v s → K' v s) (h : fld P t x j K s) : fld P t x j K' s := by
  unfold fld at h ⊢
  cases hu : P.underlying t with
  | none => simp only [hu] at h; exact h.elim
  | some d =>
    simp only [hu] at h ⊢
    cases d <;> first | exact h.elim | skip
    rename_i fs
    cases x <;> first | exact h.elim | skip
    rename_i c
    simp only at h ⊢
    cases hf : fs.toList[j]? with
    | none => simp only [hf] at h; exact h.elim
    | some f =>
      simp only [hf] at h ⊢
      cases hag : agO P f.type with
      | none => simp only [hag] at h; exact h.elim
      | some b =>
        cases b with
        | true => simp only [hag] at h ⊢; exact SZ_mono (fun m s h => hk _ _ h) h
        | false =>
          simp only [hag] at h ⊢
          cases hv : c.toList[f.offset]? with
          | none => simp only [hv] at h; exact h.elim
          | some v => simp only [hv] at h ⊢; exact hk _ _ h
theorem APP_mono {t : TypeId} {es : Nat} {x : Option Addr} {l c : Nat} {y : Option Addr} {m : Nat} {K K' : Option Addr → Nat → Nat → Hp → Prop} (hk : ∀ a l c s, K a l c s → K' a l c s) (h : APP P t es x l c y m K s) : APP P t es x l c y m K' s := by
  obtain ⟨h1, vs, h2, h3⟩ := h
  refine ⟨h1, vs, h2, ?_⟩
  split at h3
  · rename_i hc
    rw [if_pos hc]
    cases x with
    | none => exact hk _ _ _ _ h3
    | some a => exact wrN_mono _ _ _ _ _ (fun s h => hk _ _ _ _ h) _ h3
  · rename_i hc
    rw [if_neg hc]
    obtain ⟨ws, h4, h5⟩ := h3
    exact ⟨ws, h4, fun c' g1 g2 => hk _ _ _ _ (h5 c' g1 g2)⟩
theorem COPY_mono {es : Nat} {x : Option Addr} {l : Nat} {y : Option Addr} {m : Nat} {K K' : Int → Hp → Prop} (hk : ∀ n s, K n s → K' n s) (h : COPY es x l y m K s) : COPY es x l y m K' s := by
  obtain ⟨vs, h1, h2⟩ := h
  refine ⟨vs, h1, ?_⟩
  cases x with
  | none => exact hk _ _ h2
  | some a => exact wrN_mono _ _ _ _ _ (fun s h => hk _ _ h) _ h2
theorem bltin_mono {b : Builtin} {ts : List TypeId} {args : List Value} {K K' : VK} (hk : ∀ v s, K v s → K' v s) (h : bltin P b ts args K s) : bltin P b ts args K' s := by
  have hlen : ∀ {args : List Value}, bltin P .len ts args K s → bltin P .len ts args K' s := fun {args} h => by
    by_cases hm : ∀ k v, (ts[0]?).bind P.underlying ≠ some (.map k v)
    · obtain ⟨v, h1, h2⟩ := len_pure hm h
      exact h2 _ _ (hk _ _ h1)
    · obtain ⟨k, hm⟩ := Classical.not_forall.1 hm
      obtain ⟨v, hm⟩ := Classical.not_forall.1 hm
      have hm := Classical.not_not.1 hm
      unfold bltin at h ⊢
      cases args with
      | nil => exact h.elim
      | cons x r =>
        cases r with
        | cons y z => exact h.elim
        | nil =>
          simp only [hm] at h ⊢
          cases x <;> first | exact h.elim | skip
          rename_i m
          cases m with
          | none => exact hk _ _ h
          | some r =>
            obtain ⟨es, cl, h1, h2⟩ := h
            exact ⟨es, cl, h1, hk _ _ h2⟩
  by_cases hb : b = .len
  · subst hb; exact hlen h
  · unfold bltin at h ⊢
    split at h
    · exact absurd rfl hb
    · exact hk _ _ h
    · exact hk _ _ h
    · exact hk _ _ h
    · rename_i x l c y m c2
      cases h0 : (ts[0]?).bind P.underlying with
      | none => simp only [h0] at h; exact h.elim
      | some d =>
        simp only [h0] at h ⊢
        cases d <;> first | exact h.elim | skip
        rename_i e
        cases h1 : (ts[1]?).map (isSl P) with
        | none => simp only [h1] at h; exact h.elim
        | some bb =>
          simp only [h1] at h ⊢
          cases bb <;> first | exact h.elim | skip
          cases hb : (hasZero P e && Nat.beq (zc P e).length (P.cellsOf e) && Nat.ble (P.bytesOf e) 1000 && Nat.ble 1 (P.bytesOf e)) with
          | false => simp only [hb] at h; exact h.elim
          | true => simp only [hb] at h ⊢; exact APP_mono (fun a l c s h => hk _ _ h) h
    · rename_i x l c y m c2
      cases h0 : (ts[0]?).bind P.underlying with
      | none => simp only [h0] at h; exact h.elim
      | some d =>
        simp only [h0] at h ⊢
        cases d <;> first | exact h.elim | skip
        exact SZ_mono (fun m s h => COPY_mono (fun n s h => hk _ _ h) h) h
    · exact sp_mono P _ (fun v s h => ⟨h.1, hk _ _ h.2⟩) (fun v s h => h) _ h
    · exact h.elim
theorem tas_mono {ty : TypeId} {ok : Bool} {x : Value} {K K' : VK} (hk : ∀ v s, K v s → K' v s) (h : tas P ty ok x K s) : tas P ty ok x K' s := by
  unfold tas at h ⊢
  cases hu : P.underlying ty with
  | none => simp only [hu] at h; exact h.elim
  | some d =>
    simp only [hu] at h ⊢
    cases d <;> simp only at h ⊢ <;> first | exact h.elim | skip
    all_goals
      cases x <;> first | exact h.elim | skip
      rename_i t v
      simp only at h ⊢
      cases hb : Nat.beq t ty <;> simp only [hb] at h ⊢
      · cases ok with
        | false => exact h.elim
        | true =>
          cases hz : (P.info? ty).bind (·.zero) with
          | none => simp only [hz] at h; exact h.elim
          | some z => simp only [hz] at h ⊢; exact hk _ _ h
      · exact hk _ _ h
theorem PAN_mono {x : Value} {E E' : List PanicEntry → Hp → Prop} (he : ∀ c s, E c s → E' c s) (h : PAN x E s) : PAN x E' s := by
  unfold PAN at h ⊢
  cases x <;> first | exact h.elim | exact he _ _ h

theorem RNM_mono {t : TypeId} {x : Value} {K K' : Nat → Hp → Prop} (hk : ∀ b s, K b s → K' b s) (h : RNM P t x K s) : RNM P t x K' s := by
  unfold RNM at h ⊢
  cases hu : P.underlying t with
  | none => simp only [hu] at h; exact h.elim
  | some d =>
    simp only [hu] at h ⊢
    cases d <;> first | exact h.elim | skip
    cases x <;> first | exact h.elim | skip
    rename_i m
    cases m with
    | none => exact h.elim
    | some m =>
      obtain ⟨es, cl, h1, h2⟩ := h
      exact ⟨es, cl, h1, hk _ _ h2⟩
theorem ixv_mono {t : TypeId} {x i : Value} {K K' : VK} (hk : ∀ v s, K v s → K' v s) (h : ixv P t x i K s) : ixv P t x i K' s := by
  unfold ixv at h ⊢
  cases hu : P.underlying t with
  | none => simp only [hu] at h; exact h.elim
  | some d =>
    simp only [hu] at h ⊢
    cases d <;> first | exact h.elim | skip
    case array l e =>
      cases x <;> first | exact h.elim | skip
      rename_i c
      cases i <;> first | exact h.elim | skip
      rename_i k n
      simp only at h ⊢
      cases hag : agO P e with
      | none => simp only [hag] at h; exact h.elim
      | some b =>
        cases b with
        | true => simp only [hag] at h; exact h.elim
        | false =>
          simp only [hag] at h ⊢
          refine SZ_mono (fun m s h => ?_) h
          cases hd : decide (0 ≤ n ∧ n < l) with
          | false => simp only [hd] at h; exact h.elim
          | true =>
            cases hc : c.toList[n.toNat * m]? with
            | none => simp only [hd, hc] at h; exact h.elim
            | some v => simp only [hd, hc] at h ⊢; exact hk _ _ h
    case string =>
      cases x <;> first | exact h.elim | skip
      cases i <;> first | exact h.elim | skip
      exact ⟨h.1, hk _ _ h.2⟩
theorem vop_mono {o : Oper} {t : Tm} {K K' : VK} {E E' : List PanicEntry → Hp → Prop} (hk : ∀ v s, K v s → K' v s) (he : ∀ c s, E c s → E' c s) (h : vop P W o t K E s) : vop P W o t K' E' s := by
  by_cases hq : quiet o = true ∧ fieldOk P o = true
  · obtain ⟨v, h1, h2⟩ := vop_val hq.1 hq.2 h
    exact h2 _ _ (hk _ _ h1)
  · have ty : ∀ {v s}, tyR P o.type v K s → tyR P o.type v K' s := fun {v s} h => by
      obtain ⟨h1, h2⟩ := tyR_pure h
      exact h2 _ _ (hk _ _ h1)
    obtain ⟨dst, op, type, pos, after, guard⟩ := o
    unfold vop at h ⊢
    simp only at h ⊢ ty
    cases op <;> (try simp only at h ⊢) <;> first | exact h.elim | exact hk _ _ h | exact absurd ⟨rfl, rfl⟩ hq | skip
    case alloc e =>
      cases hz : hasZero P e with
      | false => simp only [hz] at h; exact h.elim
      | true => simp only [hz] at h ⊢; exact hk _ _ h
    case box e x => exact SZ_mono (fun m s h => CS_mono (fun l s h => hk _ _ h) h) h
    case buildSlice ty len ps => exact BSL_mono hk h
    case store ty p x => exact ST_mono (fun s h => hk _ _ h) h
    case makeSlice ty l c => exact mks_mono hk h
    case fieldAddr ty x j => exact fad_mono hk h
    case slice ty x lo hi mx =>
      cases mx with
      | some m => exact h.elim
      | none => exact slc_mono hk h
    case field ty x j => exact fld_mono hk h
    case typeAssert x xt ty ok => exact tas_mono hk h
    case makeMap ty r =>
      cases r with
      | some r => exact h.elim
      | none => exact hk _ _ h
    case lookup t0 x i ok => exact sp_mono P _ (fun v s h => ty h) (fun v s h => h) _ h
    case mapUpdate ty m k x => exact sp_mono P _ (fun v s h => hk _ _ h) (fun v s h => h) _ h
    case range ty x => exact RNM_mono (fun b s h => hk _ _ h) h
    case next it b =>
      cases b with
      | true => exact h.elim
      | false => exact sp_mono P _ (fun v s h => h.elim (fun h => .inl ⟨h.1, hk _ _ h.2⟩) (fun ⟨k, x, h1, h2⟩ => .inr ⟨k, x, h1, hk _ _ h2⟩)) (fun v s h => h) _ h
    case entry it => exact sp_mono P _ (fun v s ⟨k, x, h1, h2⟩ => ⟨k, x, h1, hk _ _ h2⟩) (fun v s h => h) _ h
    case index ty x i => exact ixv_mono hk h
    case panic x => exact PAN_mono he h
    case call c =>
      obtain ⟨callee, args, argTypes⟩ := c
      cases callee with
      | value x => cases x <;> first | exact CALL_mono (fun v s h => ty h) he h | exact CALLV_mono (fun v s h => ty h) he h
      | invoke x m => exact INV_mono (fun v s h => ty h) he h
      | builtin b => exact bltin_mono hk h
end

section
variable {P : Program} {W : World} {n : Nat} {rs : List Nat} {an : Nat → Ann}
theorem BR_mono {b : Bool} {x y x' y' : Hp → Prop} (hx : ∀ s, x s → x' s) (hy : ∀ s, y s → y' s) : ∀ s, BR b x y s → BR b x' y' s := by
  intro s h
  cases b with
  | true => exact hx s h
  | false => exact hy s h
theorem grd_mono {d : Option Nat} {want : Bool} {t : Tm} {run skip run' skip' : Tm → Hp → Prop} (hr : ∀ t s, run t s → run' t s) (hs : ∀ t s, skip t s → skip' t s) {s : Hp} (h : grd n d want t run skip s) : grd n d want t run' skip' s := by
  unfold grd at h ⊢
  cases d with
  | none => exact hs _ _ h
  | some d =>
    simp only at h ⊢
    cases ht : t d <;> simp only [ht] at h ⊢ <;> first | exact h.elim | exact hs _ _ h | skip
    cases want
    · exact BR_mono (fun s h => hs _ _ h) (fun s h => hr _ _ h) s h
    · exact BR_mono (fun s h => hr _ _ h) (fun s h => hs _ _ h) s h
theorem vrun_mono {rd : Bool} {o : Oper} {K K' : Kt} (hk : ∀ e t s, K e t s → K' e t s) {rest rest' : Tm → Hp → Prop} (hr : ∀ t s, rest t s → rest' t s) {t : Tm} {s : Hp} (h : vrun P W n rs rd o K rest t s) : vrun P W n rs rd o K' rest' t s := by
  by_cases hdf : ∃ c, o.op = .defer c
  · unfold vrun at h ⊢
    obtain ⟨⟨callee, args, ats⟩, hop⟩ := hdf
    simp only [hop] at h ⊢
    cases callee <;> first | exact h.elim | skip
    rename_i x
    cases x <;> first | exact h.elim | skip
    cases rd <;> first | exact h.elim | skip
    simp only at h ⊢
    cases ht : t n <;> simp only [ht] at h ⊢ <;> first | exact h.elim | skip
    rename_i l
    obtain ⟨l⟩ := l
    cases l with
    | nil => exact hr _ _ h
    | cons x y => exact h.elim
  · have hnd : ∀ c, o.op ≠ .defer c := fun c hc => hdf ⟨c, hc⟩
    have e : ∀ (K : Kt) (rest : Tm → Hp → Prop), vrun P W n rs rd o K rest t = vop P W o t (fun v => rest (updo n o.dst v t)) (fun c => K (.panic c) (prj rs t)) := by
      intro K rest
      unfold vrun
      cases hop : o.op <;> first | rfl | exact absurd hop (hnd _)
    rw [e] at h ⊢
    exact vop_mono (fun v s h => hr _ _ h) (fun c s h => hk _ _ _ h) h
theorem vops_mono {rd : Bool} {ops : List Oper} {K K' : Kt} (hk : ∀ e t s, K e t s → K' e t s) : ∀ (l : List Oper) (t : Tm) (s : Hp), vops P W n rs rd ops K l t s → vops P W n rs rd ops K' l t s
  | [], t, s, h => hk _ _ _ h
  | o :: l, t, s, h => by
    have ih := vops_mono (rd := rd) (ops := ops) hk l
    unfold vops at h ⊢
    cases hg : o.guard with
    | none => simp only [hg] at h ⊢; exact vrun_mono hk ih h
    | some jw =>
      obtain ⟨j, w⟩ := jw
      simp only [hg] at h ⊢
      exact grd_mono (fun t s h => vrun_mono hk ih h) (fun t s h => ih _ _ h) h
theorem sames_mono {ops : List Oper} {m : Nat} {t : Tm} {K K' : Hp → Prop} (hk : ∀ s, K s → K' s) : ∀ (L : List Nat) (s : Hp), sames P W n ops m t L K s → sames P W n ops m t L K' s
  | [], s, h => hk s h
  | q :: L, s, h => by
    have ih := sames_mono (ops := ops) (m := m) (t := t) hk L
    unfold sames at h ⊢
    cases ho : ops[q]? with
    | none => simp only [ho] at h ⊢; exact ih _ h
    | some o =>
      simp only [ho] at h ⊢
      cases hb : (isLoad o && !bit m q) with
      | false => simp only [hb] at h ⊢; exact ih _ h
      | true =>
        cases hd : o.dst with
        | none => simp only [hb, hd] at h ⊢; exact ih _ h
        | some d =>
          simp only [hb, hd] at h ⊢
          cases hg : o.guard with
          | none => simp only [hg] at h ⊢; exact ⟨h.1, ih _ h.2⟩
          | some jw => simp only [hg] at h ⊢; exact ⟨h.1, ih _ h.2⟩
theorem CONJ_map {α : Type} {f g : α → Hp → Prop} : ∀ (l : List α), (∀ x ∈ l, ∀ s, f x s → g x s) → ∀ s, CONJ (l.map f) s → CONJ (l.map g) s
  | [], _, s, h => h
  | [x], hl, s, h => hl x (by simp) s h
  | x :: y :: l, hl, s, h => ⟨hl x (by simp) s h.1, CONJ_map (y :: l) (fun z hz => hl z (by simp [hz])) s h.2⟩
theorem dops_mono {ops : List Oper} {ms : List Nat} {K K' : Kt} (hk : ∀ e t s, K e t s → K' e t s) : ∀ (f : Nat) (L : List Nat) (t : Tm) (s : Hp), dops P W n rs ops ms K f L t s → dops P W n rs ops ms K' f L t s
  | 0, L, t, s, h => h
  | f + 1, L, t, s, h => by
    have ih := dops_mono (ops := ops) (ms := ms) hk f
    unfold dops at h ⊢
    cases hq : findQ L ops 0 with
    | some io =>
      obtain ⟨i, o⟩ := io
      simp only [hq] at h ⊢
      cases hg : o.guard with
      | none => simp only [hg] at h ⊢; exact vop_mono (fun v s h => ih _ _ _ h) (fun c s h => h) h
      | some jw =>
        obtain ⟨j, w⟩ := jw
        simp only [hg] at h ⊢
        exact grd_mono (fun t s h => vop_mono (fun v s h => ih _ _ _ h) (fun c s h => h) h) (fun t s h => ih _ _ _ h) h
    | none =>
      simp only [hq] at h ⊢
      cases he : findE L ops 0 with
      | nil => simp only [he] at h ⊢; exact hk _ _ _ h
      | cons e es =>
        simp only [he] at h ⊢
        refine CONJ_map _ (fun io _ s h => ?_) s h
        obtain ⟨i, o⟩ := io
        simp only at h ⊢
        cases hg : o.guard with
        | none => simp only [hg] at h ⊢; exact vop_mono (fun v s h => sames_mono (fun s h => ih _ _ _ h) _ _ h) (fun c s h => hk _ _ _ h) h
        | some jw =>
          obtain ⟨j, w⟩ := jw
          simp only [hg] at h ⊢
          exact grd_mono (fun t s h => vop_mono (fun v s h => sames_mono (fun s h => ih _ _ _ h) _ _ h) (fun c s h => hk _ _ _ h) h) (fun t s h => ih _ _ _ h) h

theorem KSeq_mono {y y' : Tm → Hp → Prop} {K K' : Kt} (hy : ∀ t s, y t s → y' t s) (hk : ∀ e t s, K e t s → K' e t s) : ∀ e t s, KSeq y K e t s → KSeq y' K' e t s := by
  intro e t s h
  cases e <;> first | exact hy _ _ h | exact hk _ _ _ h
theorem KBlk_mono {id : Nat} {K K' : Kt} (hk : ∀ e t s, K e t s → K' e t s) : ∀ e t s, KBlk id K e t s → KBlk id K' e t s := by
  intro e t s h
  cases e <;> first | exact hk _ _ _ h | skip
  rename_i j
  simp only [KBlk] at h ⊢
  cases hb : Nat.beq j id <;> simp only [hb] at h ⊢ <;> exact hk _ _ _ h
theorem KLoop_K {ms us : List Nat} {zs : List Value} {nx : List Value → Hp → Prop} {K K' : Kt} (hk : ∀ e t s, K e t s → K' e t s) : ∀ e t s, KLoop ms us zs nx K e t s → KLoop ms us zs nx K' e t s := by
  intro e t s h
  cases e <;> first | exact h | exact hk _ _ _ h
theorem ALLK_mono : ∀ (ks : List Kd) (F G : List Value → Prop), (∀ vs, F vs → G vs) → ALLK ks F → ALLK ks G
  | [], F, G, h, a => h _ a
  | k :: ks, F, G, h, a => by
    cases k with
    | l => exact fun x l c => ALLK_mono ks _ _ (fun vs h' => h _ h') (a x l c)
    | _ => exact fun x => ALLK_mono ks _ _ (fun vs h' => h _ h') (a x)
theorem vc_mono : ∀ {rd : Bool} {c : Code} {b : Nat} {K K' : Kt}, (∀ e t s, K e t s → K' e t s) → ∀ t s, vc P W n rs an rd c b K t s → vc P W n rs an rd c b K' t s := by
  intro rd c
  induction c generalizing rd with
  | skip => exact fun h t s hv => h _ _ _ hv
  | label => exact fun h t s hv => h _ _ _ hv
  | ret => exact fun h t s hv => h _ _ _ hv
  | exit => exact fun h t s hv => h _ _ _ hv
  | goto => exact fun h t s hv => hv
  | refuse => exact fun h t s hv => hv
  | region id ops draws =>
    intro b K K' h t s hv
    cases draws with
    | false => exact vops_mono h _ _ _ hv
    | true =>
      unfold vc at hv ⊢
      cases hd : drOk P rs ops.toList with
      | false => simp only [hd] at hv; exact hv.elim
      | true => simp only [hd] at hv ⊢; exact dops_mono h _ _ _ _ hv
  | seq x y ihx ihy => exact fun h t s hv => ihx (KSeq_mono (fun t s h' => ihy h _ _ h') h) _ _ hv
  | cond c x y ihx ihy =>
    intro b K K' h t s hv
    unfold vc at hv ⊢
    cases hb : ev t c <;> simp only [hb] at hv ⊢ <;> first | exact hv.elim | skip
    exact BR_mono (fun s h' => ihx h _ _ h') (fun s h' => ihy h _ _ h') s hv
  | block id c ih => exact fun h t s hv => ih (KBlk_mono h) _ _ hv
  | loop c ih =>
    intro b K K' h t s hv
    unfold vc at hv ⊢
    obtain ⟨I, μ, h0, hB⟩ := hv
    refine ⟨I, μ, h0, ALLK_mono _ _ _ (fun ys hy s hI j => ?_) hB⟩
    exact ih (KLoop_K h) _ _ (hy s hI j)
  | scope c ih => exact fun h t s hv => ih h _ _ hv
  | rangeFunc f ps x y ihx ihy =>
    intro b K K' h t s hv
    unfold vc at hv ⊢
    cases rd with
    | true => exact hv
    | false =>
      obtain ⟨xs, R, I, S, g1, g2, g3, g4, g5, g6, g7, g8⟩ := hv
      refine ⟨xs, R, I, S, g1, g2, g3, g4, g5, g6, fun s hs => h _ _ _ (g7 s hs), fun c s hs => ?_⟩
      have := g8 c s hs
      simp only [AFT] at this ⊢
      cases c <;> first | exact this | skip
      case ret =>
        cases hrt : (an b).rt with
        | true => simp only [hrt] at this ⊢; exact h _ _ _ this
        | false => simp only [hrt] at this; exact this.elim
      case exit id =>
        have hex : ∀ (l : List Nat) (s : Hp), EXL l (fun id => K (.exit id) t) id s → EXL l (fun id => K' (.exit id) t) id s := by
          intro l
          induction l with
          | nil => exact fun s h => h
          | cons j l ih =>
            intro s h'
            unfold EXL at h' ⊢
            cases hb : Nat.beq id j with
            | true => simp only [hb] at h' ⊢; exact h _ _ _ h'
            | false => simp only [hb] at h' ⊢; exact ih s h'
        exact hex _ _ this
end
end Go.V

/- What the printed functions import. -/
namespace Go.V
theorem KLoop_mono {ms us : List Nat} {zs : List Value} {nx nx' : List Value → Hp → Prop} {K : Kt} (h : ∀ vs s, nx vs s → nx' vs s) : ∀ e t s, KLoop ms us zs nx K e t s → KLoop ms us zs nx' K e t s := by
  intro e t s hk
  cases e <;> first | exact hk | exact ⟨hk.1, h _ _ hk.2⟩
end Go.V

/- The visible heap: what goes on, own cells, what tactics do. -/
set_option linter.unusedSimpArgs false
set_option linter.unusedVariables false
namespace Go.V
section
variable {s s' s'' t : Hp} {a b : Addr} {v w : Value} {o : Obj}

theorem Ext.refl (s : Hp) : Ext s s := ⟨Nat.le_refl _, fun _ _ => rfl⟩
theorem Ext.trans (h : Ext s s') (k : Ext s' s'') : Ext s s'' := ⟨Nat.le_trans h.1 k.1, fun b hb => (k.2 b (Nat.lt_of_lt_of_le hb h.1)).trans (h.2 b hb)⟩
theorem Ext.push (h : Ext s s') : Ext s (s'.push o) := ⟨by simp; exact Nat.le_succ_of_le h.1, fun b hb => by
  rw [Array.getElem?_push, if_neg (by have := h.1; omega)]; exact h.2 b hb⟩
theorem Ext.setC (h : Ext s s') (hb : s.size ≤ a.block) : Ext s (setC s' a v) := ⟨by rw [setC_size]; exact h.1, fun b hlt => by
  rw [setC_get _ _ _ (by omega)]; exact h.2 b hlt⟩
theorem cell_lt (h : cellAt s a = some v) : a.block < s.size := by
  obtain ⟨c, t, f, hb⟩ := block_of_cell h
  exact (Array.getElem?_eq_some_iff.1 hb).1
theorem cell_of_block (h : s'[a.block]? = s[a.block]?) : cellAt s' a = cellAt s a := by unfold cellAt; rw [h]
theorem frozen_of_block (h : s'[a.block]? = s[a.block]?) : frozenAt s' a = frozenAt s a := by unfold frozenAt; rw [h]
theorem Ext.cell (e : Ext s s') (h : cellAt s a = some v) : cellAt s' a = some v := by rw [cell_of_block (e.2 _ (cell_lt h))]; exact h

/-- A cell that may be written. -/
def Own (s : Hp) (a : Addr) (v : Value) : Prop := cellAt s a = some v ∧ frozenAt s a = false
theorem Own.cell (h : Own s a v) : cellAt s a = some v := h.1
theorem Own.lt (h : Own s a v) : a.block < s.size := cell_lt h.1
theorem Ext.own (e : Ext s s') (h : Own s a v) : Own s' a v := ⟨e.cell h.1, by rw [frozen_of_block (e.2 _ h.lt)]; exact h.2⟩
theorem cell_push (h : cellAt s a = some v) : cellAt (s.push o) a = some v := ((Ext.refl s).push (o := o)).cell h
theorem own_push (h : Own s a v) : Own (s.push o) a v := ((Ext.refl s).push (o := o)).own h
theorem own_new {cs : List Value} {ty : TypeId} {i : Nat} (h : cs[i]? = some v) : Own (s.push (.cells cs.toArray ty (0, 0))) ⟨s.size, i, none⟩ v := by
  have hb : (s.push (.cells cs.toArray ty (0, 0)))[s.size]? = some (.cells cs.toArray ty (0, 0)) := by rw [Array.getElem?_push, if_pos rfl]
  refine ⟨?_, ?_⟩
  · unfold cellAt; simp only [hb]; simpa using h
  · unfold frozenAt; simp only [hb]; simp
theorem cell_new {cs : List Value} {ty : TypeId} {i : Nat} (h : cs[i]? = some v) : cellAt (s.push (.cells cs.toArray ty (0, 0))) ⟨s.size, i, none⟩ = some v := (own_new h).1
theorem setC_block {c : Array Value} {t : TypeId} {f : Nat × Nat} (h : s[a.block]? = some (.cells c t f)) (hs : a.spot = none) : (setC s a v)[a.block]? = some (.cells (c.setIfInBounds a.off v) t f) := by
  unfold Go.V.setC
  rw [Array.getElem?_modify, if_pos rfl, h]
  simp [hs]
theorem cell_spot (h : cellAt s a = some v) : a.spot = none := by
  obtain ⟨c, t, f, hb⟩ := block_of_cell h
  unfold cellAt at h
  simp only [hb] at h
  cases hs : a.spot with
  | none => rfl
  | some x => simp [hs] at h
theorem own_set (h : Own s a w) : Own (setC s a v) a v := by
  obtain ⟨c, t, f, hb⟩ := block_of_cell h.1
  have hs := cell_spot h.1
  have h2 := setC_block (v := v) hb hs
  have h1 := h.1
  unfold cellAt at h1
  simp only [hb, hs, Option.isSome_none, Bool.false_eq_true, if_false] at h1
  have hlt : a.off < c.size := (Array.getElem?_eq_some_iff.1 h1).1
  refine ⟨?_, ?_⟩
  · unfold cellAt
    simp only [h2, hs, Option.isSome_none, Bool.false_eq_true, if_false]
    simp [hlt]
  · have := h.2
    unfold frozenAt at this ⊢
    simp only [hb] at this
    simp only [h2]
    exact this
theorem cell_set_ne (hne : b.block ≠ a.block ∨ b.off ≠ a.off) (h : cellAt s b = some v) : cellAt (setC s a w) b = some v := by
  by_cases hb : b.block = a.block
  · have ho := hne.resolve_left (fun h => h hb)
    obtain ⟨c, t, f, hblk⟩ := block_of_cell h
    have hs := cell_spot h
    have h1 := h
    unfold cellAt at h1 ⊢
    simp only [hblk, hs, Option.isSome_none, Bool.false_eq_true, if_false] at h1
    unfold Go.V.setC
    rw [Array.getElem?_modify, if_pos hb.symm, hblk]
    simp only [Option.map_some, hs, Option.isSome_none, Bool.false_eq_true, if_false]
    cases a.spot with
    | none => simp only [Option.isSome_none, Bool.false_eq_true, if_false]; rw [Array.getElem?_setIfInBounds_ne (fun e => ho e.symm)]; exact h1
    | some x => simpa using h1
  · rw [cell_of_block (setC_get _ _ _ hb)]; exact h
theorem own_set_ne (hne : b.block ≠ a.block ∨ b.off ≠ a.off) (h : Own s b v) : Own (setC s a w) b v := by
  refine ⟨cell_set_ne hne h.1, ?_⟩
  by_cases hb : b.block = a.block
  · have hf := h.2
    obtain ⟨c, t, f, hblk⟩ := block_of_cell h.1
    unfold frozenAt at hf ⊢
    unfold Go.V.setC
    rw [Array.getElem?_modify, if_pos hb.symm, hblk]
    simp only [hblk] at hf
    simpa using hf
  · rw [frozen_of_block (setC_get _ _ _ hb)]; exact h.2

/-! ### Rules of nodes -/
theorem BR_dec {p : Prop} [Decidable p] {x y : Hp → Prop} (h1 : p → x s) (h2 : ¬ p → y s) : BR (decide p) x y s := by
  by_cases hp : p
  · rw [decide_eq_true hp]; exact h1 hp
  · rw [decide_eq_false hp]; exact h2 hp
theorem BR_bool {c : Bool} {x y : Hp → Prop} (h1 : c = true → x s) (h2 : c = false → y s) : BR c x y s := by
  cases c with
  | true => exact h1 rfl
  | false => exact h2 rfl
theorem BR_not {c : Bool} {x y : Hp → Prop} (h1 : c = false → x s) (h2 : c = true → y s) : BR (!c) x y s := by
  cases c with
  | true => exact h2 rfl
  | false => exact h1 rfl
theorem BR_eq {α : Type} [BEq α] [LawfulBEq α] {a b : α} {x y : Hp → Prop} (h1 : a = b → x s) (h2 : a ≠ b → y s) : BR (a == b) x y s :=
  BR_bool (fun h => h1 (by simpa using h)) (fun h => h2 (by simpa using h))
theorem BR_ne {α : Type} [BEq α] [LawfulBEq α] {a b : α} {x y : Hp → Prop} (h1 : a ≠ b → x s) (h2 : a = b → y s) : BR (a != b) x y s :=
  BR_bool (fun h => h1 (by simpa using h)) (fun h => h2 (by simpa using h))
theorem WR_own {x : Value} {K : Hp → Prop} (h : Own s a x) (h1 : oneCell v = true) (hk : K (setC s a v)) : WR a v K s := ⟨⟨h1, ⟨_, h.1⟩, h.2⟩, hk⟩
theorem CALL_of {P : Program} {W : World} {f : FuncId} {args : List Value} {K : VK} {E : List PanicEntry → Hp → Prop} (h : Does P W f args.toArray s (endK K E)) : CALL P W f args K E s := h
theorem CALLV_func {P : Program} {W : World} {f : FuncId} {args : List Value} {cap : Array Value} {K : VK} {E : List PanicEntry → Hp → Prop} (h : CALL P W f (args ++ cap.toList) K E s) : CALLV P W (.func (.func f) #[] cap) args K E s := by
  show Does P W f (#[] ++ args.toArray ++ cap) s _
  have e : (#[] ++ args.toArray ++ cap : Array Value) = (args ++ cap.toList).toArray := Array.ext' (by simp)
  rw [e]; exact h
end

theorem wrap_id {k : IntKind} {n : Int} (h0 : k.min ≤ n) (h1 : n ≤ k.max) : k.wrap n = n := by
  cases k <;> simp [IntKind.min, IntKind.max, IntKind.bits, IntKind.signed] at h0 h1 <;> simp [IntKind.wrap, IntKind.bits, IntKind.signed] <;> (try split) <;> omega
theorem wrap_i64 {n : Int} (h0 : -9223372036854775808 ≤ n) (h1 : n ≤ 9223372036854775807) : IntKind.i64.wrap n = n := wrap64_id h0 h1
theorem wrap_u64 {n : Int} (h0 : 0 ≤ n) (h1 : n ≤ 18446744073709551615) : IntKind.u64.wrap n = n := by
  simp [IntKind.wrap, IntKind.bits, IntKind.signed]; omega

/-! ### A function that recovers -/
section
variable {P : Program} {W : World} {s : Hp}
theorem rel_start {n : Nat} {k0 : Nat → Prop} {X : Nat → Prop} {h : Hp} {args : List Value} (hlen : args.length ≤ n) : Rel n k0 X h { tmps := args.toArray ++ Array.replicate (n - args.toArray.size) undef, defers := [] } (start args 0) := by
  refine ⟨by simp; omega, fun i hi => ?_, ?_⟩
  · rw [start_get, if_pos (Nat.zero_le _)]
    show Array.getD (args.toArray ++ _) i undef = _
    rw [Array.getD_eq_getD_getElem?]
    by_cases hlt : i < args.length
    · rw [Array.getElem?_append_left (by simpa using hlt)]
      simp [List.getD]
    · rw [Array.getElem?_append_right (by simpa using hlt)]
      have : args.getD (i - 0) undef = undef := by simp [List.getD]; rw [List.getElem?_eq_none (by omega)]; rfl
      rw [this, Array.getElem?_replicate]
      split <;> rfl
  · show start args 0 n = undef
    rw [start_get, if_pos (Nat.zero_le _)]
    simp [List.getD]
    rw [List.getElem?_eq_none (by omega)]; rfl
/-- How the text of the rest of such a function is gone on with. -/
def Kdone (n : Nat) (K : Hp → Prop) : Kt := fun e t => match e with | .normal | .ret => fun s => t n = undef ∧ K s | _ => FF
theorem Dcd_none {X : Nat → Prop} {h : Hp} : ∀ {ds : List Deferred}, Dcd (fun _ => False) X h ds undef → ds = []
  | [], _ => rfl
  | d :: ds, hd => by
    rcases hd with ⟨r, _, h2, _⟩ | ⟨f, args, _, h2, _⟩
    · exact h2.elim
    · simp [undef] at h2
theorem told_ok {f : FuncId} {fn : Func} {id : Nat} {d : Nat} {ty : TypeId} {pos : String} {c : Code} {an : Nat → Ann} {args : List Value} {K : Hp → Prop} {rec : Option (List PanicEntry)} {v : Value}
    (hf : P.funcs[f]? = some fn) (hc : callable P f = true) (hb : fn.body = some (.seq (.region id #[{ dst := some d, op := .call { callee := .builtin .recover, args := #[], argTypes := #[] }, type := ty, pos := pos, after := #[], guard := none }] false) c))
    (hok : codeOk fn.ntmps c = true) (hnr : hasR c = false) (hres : fn.results = #[]) (hlen : args.length ≤ fn.ntmps)
    (hrec : (rec = none ∧ v = .nilIface) ∨ (rec = some [{ v := v, recovered := false }]))
    (h : vc P W fn.ntmps [fn.ntmps] an false c 0 (Kdone fn.ntmps K) (updo fn.ntmps (some d) v (start args 0)) s) : DoesD P W f args rec s K := by
  refine ⟨hc, fun X hp dr vis => ?_⟩
  refine callsDIn_of_wpSIn hf hb trivial ?_
  intro c₀ cs hmode
  refine wpSIn_seq (wpSIn_region ?_)
  have hfin : ∀ u', settle u' = .returning →
      c.wpSIn Fence.wide 0 P (bodyPostS P fn c₀ cs fun e u w' => (∃ v, e = .returned v) ∧ settle u = .returning ∧ Now W X hp K w') (({ tmps := args.toArray ++ Array.replicate (fn.ntmps - args.toArray.size) undef, defers := [] } : Act).put (some d) v) ({ c₀ with mode := u' } :: cs) (wat W hp dr) := by
    intro u' hset
    refine wpSIn_of_wpIn rfl ?_
    have hs := vc_sound (W := W) (rs := [fn.ntmps]) (an := an) c hok none 0 (Kdone fn.ntmps K) (fun _ => False) _ s _ X hp dr (fun hh => by rw [hnr] at hh; cases hh) vis ((rel_start hlen).put (some d) v) h
    refine wpIn_mono hs ?_
    have hdone : ∀ (a' : Act) (X' : Nat → Prop) (h' : Hp) (d' : Nat) (s' : Hp) (t' : Tm), Vis X' h' s' → Ev X hp X' h' → Rel fn.ntmps (fun _ => False) X' h' a' t' → (t' fn.ntmps = undef ∧ K s') →
        a'.defers = [] ∧ ∃ u'', ({ c₀ with mode := u' } :: cs : List Frame) = { c₀ with mode := u'' } :: cs ∧ ∃ v, (results fn a'.tmps).run P (wat W h' d') = .ok v (wat W h' d') ∧ (∃ v', Ending.returned v = .returned v') ∧ settle u'' = .returning ∧ Now W X hp K (wat W h' d') := by
      intro a' X' h' d' s' t' v' e' rl' hk
      have hd := rl'.dfr
      rw [hk.1] at hd
      obtain ⟨vr, _, hrun⟩ := results_run (P := P) (W := W) (s := s') (fn := fn) (tmps := a'.tmps) (t := t') (R := fun _ _ => True) (by rw [hres]; intro i hi; simp [slotsOf] at hi) (by rw [hres]; trivial)
      exact ⟨Dcd_none hd, u', rfl, vr, hrun X' h' d' v', ⟨_, rfl⟩, hset, X', h', d', s', rfl, v', e', hk.2⟩
    intro e a' w' q
    cases e with
    | normal => obtain ⟨X', h', d', s', t', rfl, v', e', rl', hk⟩ := q; exact hdone a' X' h' d' s' t' v' e' rl' hk
    | ret => obtain ⟨X', h', d', s', t', rfl, v', e', rl', hk⟩ := q; exact hdone a' X' h' d' s' t' v' e' rl' hk
    | panic c => obtain ⟨X', h', d', s', t', rfl, v', e', rl', hk⟩ := q; exact hk.elim
    | exit id => obtain ⟨X', h', d', s', t', rfl, v', e', rl', hk⟩ := q; exact hk.elim
    | goto l => exact q.elim
    | outgrown => exact q.elim
  have hr : List.range (#[({ dst := some d, op := .call { callee := .builtin .recover, args := #[], argTypes := #[] }, type := ty, pos := pos, after := #[], guard := none } : Oper)]).size = [0] := rfl
  rw [hr]
  refine ⟨fun _ _ => trivial, ?_⟩
  show (match recoverD (c₀ :: cs) with
    | some (v, cs') => _
    | none => _)
  rcases hrec with ⟨rfl, rfl⟩ | rfl
  · have e1 : recoverD (c₀ :: cs) = none := by simp only [recoverD, hmode]
    rw [e1]
    have e2 : ({ c₀ with mode := .returning } : Frame) = c₀ := by
      have : c₀.mode = .returning := hmode
      rw [← this]
    have := hfin .returning rfl
    rw [e2] at this
    exact this
  · have e1 : recoverD (c₀ :: cs) = some (v, { c₀ with mode := .panicking [{ v := v, recovered := true }] } :: cs) := by simp only [recoverD, hmode]
    rw [e1]
    exact hfin _ rfl
end
end Go.V

/- Tactics over the visible heap. -/
set_option linter.unusedSimpArgs false
set_option linter.unusedVariables false
namespace Go.V
theorem ext_size {s s' : Hp} (h : Ext s s') : s.size ≤ s'.size := h.1
theorem own_cell {s : Hp} {a : Addr} {v : Value} (h : Own s a v) : cellAt s a = some v := h.1

theorem endK_ret {K : VK} {E : List PanicEntry → Hp → Prop} {v : Value} {s : Hp} (h : K v s) : endK K E (.returned v) s := h
theorem endK_pan {K : VK} {E : List PanicEntry → Hp → Prop} {c : List PanicEntry} {s : Hp} (h : E c s) : endK K E (.panicked c) s := h
end Go.V
namespace Go.V
section
variable {s : Hp}
theorem TUP_mk (l : List Value) (K : List Value → Hp → Prop) : TUP (.tuple l.toArray) K = K l := rfl
theorem AGG_mk (l : List Value) (K : List Value → Hp → Prop) : AGG (.agg l.toArray) K = K l := rfl
theorem HD_mk {α : Type} (x : α) (r : List α) (K : α → List α → Hp → Prop) : HD (x :: r) K = K x r := rfl
theorem NL_mk {α : Type} (K : Hp → Prop) : NL ([] : List α) K = K := rfl
theorem TYI_mk (k : IntKind) (n : Int) (K : Int → Hp → Prop) : TYI k (.int k n) K = K n := by funext s; simp [TYI]
theorem TYB_mk (b : Bool) (K : Bool → Hp → Prop) : TYB (.bool b) K = K b := rfl
theorem TYP_mk (b : Option Addr) (K : Option Addr → Hp → Prop) : TYP (.pointer b) K = K b := rfl
theorem TYL_mk (x : Option Addr) (l c : Nat) (K : Option Addr → Nat → Nat → Hp → Prop) : TYL (.slice x l c) K = K x l c := rfl
theorem TYS_mk (b : ByteArray) (K : ByteArray → Hp → Prop) : TYS (.string b) K = K b := rfl
theorem TYM_mk (b : Option Nat) (K : Option Nat → Hp → Prop) : TYM (.map b) K = K b := rfl
theorem SO_mk {α : Type} (b : α) (K : α → Hp → Prop) : SO (some b) K = K b := rfl
theorem NX_mk (l : List Value) (K : Hp → Prop) : NX l l K = K := by funext s; simp [NX]
theorem endK_mk (K : VK) (E : List PanicEntry → Hp → Prop) (v : Value) : endK K E (.returned v) = K v := rfl
theorem endK_mk' (K : VK) (E : List PanicEntry → Hp → Prop) (c : List PanicEntry) : endK K E (.panicked c) = E c := rfl
theorem add_0 (a : Addr) : a.add 0 = a := rfl
end
end Go.V
namespace Go.V
theorem cell_blind {s : Hp} {l : Nat} {o : Obj} {a : Addr} {v : Value} (hl : s[l]? = some o) (h : cellAt (s.setIfInBounds l junk) a = some v) : cellAt s a = some v := by
  by_cases e : a.block = l
  · have hlt : l < s.size := (Array.getElem?_eq_some_iff.1 hl).1
    unfold cellAt at h
    rw [e, set_eq hlt] at h
    cases h
  · rw [← cell_of_block (set_ne e)]; exact h
end Go.V
namespace Go.V
/-- Whatever lay is as it was, but for some blocks. -/
def Kp (C : Nat → Prop) (s s' : Hp) : Prop := s.size ≤ s'.size ∧ ∀ b, b < s.size → ¬ C b → s'[b]? = s[b]?
section
variable {C D : Nat → Prop} {s s' s'' : Hp} {a : Addr} {v : Value} {o : Obj}
theorem Kp.refl (s : Hp) : Kp C s s := ⟨Nat.le_refl _, fun _ _ _ => rfl⟩
theorem Ext.kp (e : Ext s s') : Kp C s s' := ⟨e.1, fun b hb _ => e.2 b hb⟩
theorem Kp.trans (h : Kp C s s') (k : Kp C s' s'') : Kp C s s'' := ⟨Nat.le_trans h.1 k.1, fun b hb hc => (k.2 b (Nat.lt_of_lt_of_le hb h.1) hc).trans (h.2 b hb hc)⟩
theorem Kp.ext (h : Kp C s s') (k : Ext s' s'') : Kp C s s'' := h.trans k.kp
theorem Kp.push (h : Kp C s s') : Kp C s (s'.push o) := h.ext (Ext.push (Ext.refl _))
theorem Kp.setC (h : Kp C s s') (hb : C a.block ∨ s.size ≤ a.block) : Kp C s (setC s' a v) := ⟨by rw [setC_size]; exact h.1, fun b hlt hc => by
  have hne : b ≠ a.block := fun e => by
    subst e
    rcases hb with hb | hb
    · exact hc hb
    · omega
  rw [setC_get _ _ _ hne]; exact h.2 b hlt hc⟩
theorem Kp.cell (e : Kp C s s') (hc : ¬ C a.block) (h : cellAt s a = some v) : cellAt s' a = some v := by rw [cell_of_block (e.2 _ (cell_lt h) hc)]; exact h
theorem Kp.own (e : Kp C s s') (hc : ¬ C a.block) (h : Own s a v) : Own s' a v := ⟨e.cell hc h.1, by rw [frozen_of_block (e.2 _ h.lt hc)]; exact h.2⟩
theorem Kp.mono (h : Kp C s s') (hc : ∀ b, C b → D b) : Kp D s s' := ⟨h.1, fun b hb hd => h.2 b hb (fun h => hd (hc b h))⟩
theorem Kp.fresh (h : Kp C s s') (hc : ∀ b, C b → s.size ≤ b) : Ext s s' := ⟨h.1, fun b hb => h.2 b hb (fun h => by have := hc b h; omega)⟩
end
end Go.V

/- Slices: reading, writing, appending. -/
set_option linter.unusedSimpArgs false
set_option linter.unusedVariables false
set_option maxRecDepth 20000
namespace Go.V
section
variable {s s' : Hp}
theorem add_blk (a : Addr) (n : Nat) : (a.add n).block = a.block := by unfold Addr.add; split <;> rfl
theorem add_of (a : Addr) (n : Nat) : (a.add n).off = a.off + n := by unfold Addr.add; split <;> simp_all
theorem add_nil {b o n : Nat} : (⟨b, o, none⟩ : Addr).add n = ⟨b, o + n, none⟩ := by unfold Addr.add; split <;> simp_all

theorem wrN_rule : ∀ (vs : List Value) (a : Addr) (j : Nat) (K : Hp → Prop) (s : Hp), (∀ i, i < vs.length → ∃ y, Own s (a.add (j + i)) y) → (∀ v ∈ vs, oneCell v = true) →
    (∀ s', Kp (· = a.block) s s' → s'.size = s.size → (∀ i (h : i < vs.length), Own s' (a.add (j + i)) vs[i]) → (∀ b y, (b.off < a.off + j ∨ a.off + j + vs.length ≤ b.off) → Own s b y → Own s' b y) → K s') → wrN vs a j K s
  | [], a, j, K, s, h1, h2, h => h s (Kp.refl s) rfl (fun i hi => by simp at hi) (fun b y _ ho => ho)
  | v :: vs, a, j, K, s, h1, h2, h => by
    obtain ⟨y, hy⟩ := h1 0 (by simp)
    rw [Nat.add_zero] at hy
    have hne : ∀ i, i ≠ j → (a.add i).block ≠ (a.add j).block ∨ (a.add i).off ≠ (a.add j).off := fun i hi => .inr (by rw [add_of, add_of]; omega)
    refine WR_own hy (h2 v (by simp)) ?_
    refine wrN_rule vs a (j + 1) K _ (fun i hi => ?_) (fun u hu => h2 u (by simp [hu])) ?_
    · obtain ⟨z, hz⟩ := h1 (i + 1) (by simp; omega)
      rw [show j + (i + 1) = j + 1 + i by omega] at hz
      exact ⟨z, own_set_ne (hne _ (by omega)) hz⟩
    · intro s' k z ho hk
      have k0 : Kp (· = a.block) s (setC s (a.add j) v) := Kp.setC (Kp.refl s) (.inl (add_blk a j))
      refine h s' (k0.trans k) (by rw [z, setC_size]) ?_ ?_
      · intro i hi
        cases i with
        | zero =>
          have := hk (a.add j) v (.inl (by rw [add_of]; omega)) (own_set hy)
          simpa using this
        | succ i =>
          have := ho i (by simpa using hi)
          rw [show j + (i + 1) = j + 1 + i by omega]
          simpa using this
      · intro b y' hi ho'
        simp only [List.length_cons] at hi
        exact hk b y' (by omega) (own_set_ne (.inr (by rw [add_of]; omega)) ho')

theorem cellsAt_of : ∀ (vs : List Value) (a : Addr) (j : Nat), (∀ i (h : i < vs.length), cellAt s (a.add (j + i)) = some vs[i]) → cellsAt s a j vs.length = some vs
  | [], a, j, h => rfl
  | v :: vs, a, j, h => by
    have h0 := h 0 (by simp)
    have ih := cellsAt_of vs a (j + 1) (fun i hi => by
      have := h (i + 1) (by simpa using hi)
      rw [show j + 1 + i = j + (i + 1) by omega]; simpa using this)
    simp only [List.length_cons, cellsAt]
    rw [Nat.add_zero] at h0
    rw [h0, ih]
    simp

/-- What a slice of cells holds. -/
def RowAt (s : Hp) (x : Option Addr) (vs : List Value) : Prop := ∀ i, (h : i < vs.length) → ∃ a, x = some a ∧ cellAt s (a.add (i * 1)) = some vs[i]
theorem RowAt.ext {x : Option Addr} {vs : List Value} (e : Ext s s') (h : RowAt s x vs) : RowAt s' x vs := fun i hi => by
  obtain ⟨a, h1, h2⟩ := h i hi
  exact ⟨a, h1, e.cell h2⟩
theorem RowAt.keep {D : Nat → Prop} {x : Option Addr} {vs : List Value} (h : RowAt s x vs) (k : Kp D s s') (hd : ∀ a, x = some a → ¬ D a.block) : RowAt s' x vs := fun i hi => by
  obtain ⟨a, h1, h2⟩ := h i hi
  exact ⟨a, h1, k.cell (by rw [add_blk]; exact hd a h1) h2⟩
theorem RowAt.cells {x : Option Addr} {vs : List Value} (h : RowAt s x vs) : cellsOpt s x vs.length = some vs := by
  cases x with
  | none =>
    cases vs with
    | nil => rfl
    | cons v vs => obtain ⟨a, h1, _⟩ := h 0 (by simp); cases h1
  | some a =>
    refine cellsAt_of vs a 0 (fun i hi => ?_)
    obtain ⟨b, h1, h2⟩ := h i hi
    cases h1
    rw [Nat.zero_add]
    rw [Nat.mul_one] at h2
    exact h2
/-- A slice whose whole room is one's own. -/
structure Buf (s : Hp) (x : Option Addr) (c : Nat) (vs : List Value) : Prop where
  le : vs.length ≤ c
  own : ∀ i, i < c → ∃ a, x = some a ∧ ∃ y, Own s (a.add i) y ∧ ∀ h : i < vs.length, y = vs[i]
theorem Buf.ext {x : Option Addr} {c : Nat} {vs : List Value} (e : Ext s s') (h : Buf s x c vs) : Buf s' x c vs := ⟨h.le, fun i hi => by
  obtain ⟨a, h1, y, h2, h3⟩ := h.own i hi
  exact ⟨a, h1, y, e.own h2, h3⟩⟩
theorem Buf.kp {D : Nat → Prop} {x : Option Addr} {c : Nat} {vs : List Value} (e : Kp D s s') (hd : ∀ a, x = some a → ¬ D a.block) (h : Buf s x c vs) : Buf s' x c vs := ⟨h.le, fun i hi => by
  obtain ⟨a, h1, y, h2, h3⟩ := h.own i hi
  exact ⟨a, h1, y, e.own (by rw [add_blk]; exact hd a h1) h2, h3⟩⟩
theorem Buf.row {x : Option Addr} {c : Nat} {vs : List Value} (h : Buf s x c vs) : RowAt s x vs := fun i hi => by
  obtain ⟨a, h1, y, h2, h3⟩ := h.own i (Nat.lt_of_lt_of_le hi h.le)
  refine ⟨a, h1, ?_⟩
  rw [Nat.mul_one, h2.cell, h3 hi]
theorem Buf.nil (s : Hp) : Buf s none 0 [] := ⟨Nat.le_refl _, fun i hi => by omega⟩

theorem repL_getD (z : Value) : ∀ (n i : Nat), i < n → (repL n [z])[i]? = some z
  | 0, i, h => by omega
  | n + 1, 0, h => rfl
  | n + 1, i + 1, h => by
    show (z :: repL n [z])[i + 1]? = some z
    rw [List.getElem?_cons_succ]
    exact repL_getD z n i (by omega)
theorem repL_length (z : Value) : ∀ n, (repL n [z]).length = n
  | 0 => rfl
  | n + 1 => by show (z :: repL n [z]).length = n + 1; rw [List.length_cons, repL_length]
/-- A new row. -/
theorem buf_new {cs vs : List Value} {ty : TypeId} (hl : vs.length ≤ cs.length) (hv : ∀ i (h : i < vs.length), cs[i]? = some vs[i]) : Buf (s.push (.cells cs.toArray ty (0, 0))) (some ⟨s.size, 0, none⟩) cs.length vs :=
  ⟨hl, fun i hi => ⟨_, rfl, cs[i], by rw [add_nil, Nat.zero_add]; exact own_new (by simp [hi]), fun h => by have := hv i h; rw [List.getElem?_eq_getElem hi] at this; simpa using this⟩⟩

/-- 'append(x, v...)' where x is one's own. -/
theorem APP_buf {P : Program} {t : TypeId} {x : Option Addr} {c : Nat} {vs ws : List Value} {y : Option Addr} {z : Value} {K : Option Addr → Nat → Nat → Hp → Prop} (hb : Buf s x c vs) (hy : RowAt s y ws) (hz : zc P t = [z]) (hws : ∀ v ∈ ws, oneCell v = true)
    (hlen : vs.length + ws.length ≤ 1000000) (hc : c ≤ 9223372036854775808)
    (h : ∀ s' x' c', Kp (fun b => ∃ a, x = some a ∧ a.block = b) s s' → (vs.length + ws.length ≤ c → x' = x ∧ c' = c) → (c < vs.length + ws.length → x' = some ⟨s.size, 0, none⟩ ∧ Ext s s') → c' ≤ 9223372036854775808 → Buf s' x' c' (vs ++ ws) → K x' (vs.length + ws.length) c' s') :
    APP P t 1 x vs.length c y ws.length K s := by
  refine ⟨⟨hlen, hc⟩, ws, by rw [Nat.mul_one]; exact hy.cells, ?_⟩
  split
  · rename_i hle
    cases x with
    | none =>
      have hc0 : c = 0 := by
        rcases Nat.eq_zero_or_pos c with h0 | h0
        · exact h0
        · obtain ⟨a, h1, _⟩ := hb.own 0 h0; cases h1
      have hws0 : ws = [] := List.eq_nil_of_length_eq_zero (by omega)
      subst hws0
      refine h s none c (Kp.refl s) (fun _ => ⟨rfl, rfl⟩) (fun hh => by simp at hle; simp at hh; omega) hc ?_
      rw [List.append_nil]; exact hb
    | some a =>
      simp only [Nat.mul_one]
      have key : ∀ i, i < c → ∃ y, Own s (a.add i) y ∧ ∀ h : i < vs.length, y = vs[i] := fun i hi => by
        obtain ⟨a', h1, h2⟩ := hb.own i hi
        cases h1; exact h2
      by_cases hw0 : ws = []
      · subst hw0
        refine h s (some a) c (Kp.refl s) (fun _ => ⟨rfl, rfl⟩) (fun hh => by simp at hle; simp at hh; omega) hc ?_
        rw [List.append_nil]; exact hb
      have hpos : 0 < ws.length := List.length_pos_iff.2 hw0
      have hspot : ∀ i, (a.add vs.length).add i = a.add (vs.length + i) := by
        intro i
        have h0 := cell_spot (key vs.length (by omega)).choose_spec.1.cell
        unfold Addr.add at h0 ⊢
        by_cases hv : vs.length = 0
        · simp [hv]
        · by_cases hi : i = 0
          · simp [hv, hi]
          · simp [hv, hi, Nat.add_assoc]
      refine wrN_rule ws (a.add vs.length) 0 _ s (fun i hi => ?_) hws ?_
      · rw [Nat.zero_add, hspot]
        obtain ⟨y, hy, _⟩ := key (vs.length + i) (by omega)
        exact ⟨y, hy⟩
      · intro s' k z' ho hk
        refine h s' (some a) c (k.mono (fun b hb => ⟨a, rfl, by rw [← add_blk a vs.length]; exact hb.symm⟩)) (fun _ => ⟨rfl, rfl⟩) (fun hh => by omega) hc ⟨by simp; omega, fun i hi => ⟨a, rfl, ?_⟩⟩
        by_cases h1 : i < vs.length
        · obtain ⟨y, hy1, hy2⟩ := key i hi
          refine ⟨y, ?_, fun h => by rw [hy2 h1]; simp [List.getElem_append, h1]⟩
          exact hk _ _ (.inl (by rw [add_of, add_of]; omega)) hy1
        · by_cases h2 : i < vs.length + ws.length
          · have := ho (i - vs.length) (by omega)
            rw [Nat.zero_add, hspot, show vs.length + (i - vs.length) = i by omega] at this
            refine ⟨_, this, fun h => ?_⟩
            rw [List.getElem_append_right (by omega)]
          · obtain ⟨y, hy1, _⟩ := key i hi
            have := hk (a.add i) y (.inr (by rw [add_of, add_of]; omega)) hy1
            exact ⟨y, this, fun h => by simp at h; omega⟩
  · rename_i hle
    refine ⟨vs, by rw [Nat.mul_one]; exact hb.row.cells, fun c' g1 g2 => ?_⟩
    rw [hz]
    have hlen' : (vs ++ ws ++ repL (c' - (vs.length + ws.length)) [z]).length = c' := by
      rw [List.length_append, List.length_append, repL_length]; omega
    have hbuf : Buf (s.push (.cells (vs ++ ws ++ repL (c' - (vs.length + ws.length)) [z]).toArray t (0, 0))) (some ⟨s.size, 0, none⟩) (vs ++ ws ++ repL (c' - (vs.length + ws.length)) [z]).length (vs ++ ws) :=
      buf_new (by simp) (fun i hi => by rw [List.getElem?_append_left hi]; simp [hi])
    rw [hlen'] at hbuf
    exact h _ _ c' (Ext.push (Ext.refl s)).kp (fun hh => by omega) (fun _ => ⟨rfl, Ext.push (Ext.refl s)⟩) (by omega) hbuf
end
end Go.V
namespace Go.V
section
variable {s : Hp}
theorem NEW_rule {t : TypeId} {cs : List Value} {K : Nat → Hp → Prop} (h : ∀ s', Ext s s' → s'.size = s.size + 1 → (∀ i v, cs[i]? = some v → Own s' ⟨s.size, i, none⟩ v) → shapeAt s' s.size = some (t, cs.length) → K s.size s') : NEW t cs K s :=
  h _ (Ext.push (Ext.refl _)) (by simp) (fun i v hv => own_new hv) (by unfold shapeAt; rw [Array.getElem?_push, if_pos rfl]; simp)
theorem NEWZ_rule {P : Program} {t : TypeId} {cs : List Value} {K : Nat → Hp → Prop} (hz : zc P t = cs) (h : ∀ s', Ext s s' → s'.size = s.size + 1 → (∀ i v, cs[i]? = some v → Own s' ⟨s.size, i, none⟩ v) → K s.size s') : NEWZ P t K s := by
  unfold NEWZ; rw [hz]
  exact h _ (Ext.push (Ext.refl _)) (by simp) (fun i v hv => own_new hv)
theorem CONJ_two {a b : Hp → Prop} (h1 : a s) (h2 : b s) : CONJ [a, b] s := ⟨h1, h2⟩
end
end Go.V

/- Rows of elements of several cells; a list that is appended to. -/
set_option linter.unusedSimpArgs false
set_option linter.unusedVariables false
set_option maxRecDepth 20000
namespace Go.V
section
variable {s s' : Hp}
theorem addr_add (a : Addr) (m n : Nat) : (a.add m).add n = a.add (m + n) := by
  unfold Addr.add
  by_cases hn : n = 0
  · simp [hn]
  · by_cases hm : m = 0
    · simp [hm, hn]
    · simp [hm, hn, Nat.add_assoc]
theorem NZI_pos {b : Int} {K : Hp → Prop} (hb : b ≠ 0) (h : K s) : NZI b K s := by
  unfold NZI
  split
  · exact absurd rfl hb
  · exact h
theorem repL_lenN (zs : List Value) : ∀ n, (repL n zs).length = n * zs.length
  | 0 => by simp [repL]
  | n + 1 => by show (zs ++ repL n zs).length = _; rw [List.length_append, repL_lenN zs n, Nat.add_mul]; omega

/-- 'append(x, v...)' where x is one's own: elements of 'es' cells. -/
theorem APP_bufN {P : Program} {t : TypeId} {es l m c : Nat} {x : Option Addr} {vs ws zs : List Value} {y : Option Addr} {K : Option Addr → Nat → Nat → Hp → Prop} (hb : Buf s x (c * es) vs) (hl : vs.length = l * es) (hy : RowAt s y ws) (hm : ws.length = m * es) (hz : zc P t = zs) (hzl : zs.length = es) (hes : 0 < es)
    (hws : ∀ v ∈ ws, oneCell v = true) (hlen : l + m ≤ 1000000) (hc : c ≤ 9223372036854775808)
    (h : ∀ s' x' c', Kp (fun b => ∃ a, x = some a ∧ a.block = b) s s' → (l + m ≤ c → x' = x ∧ c' = c) → (c < l + m → x' = some ⟨s.size, 0, none⟩ ∧ Ext s s') → c' ≤ 9223372036854775808 → Buf s' x' (c' * es) (vs ++ ws) → K x' (l + m) c' s') :
    APP P t es x l c y m K s := by
  have hrow := hb.row.cells
  rw [hl] at hrow
  have hyc := hy.cells
  rw [hm] at hyc
  refine ⟨⟨hlen, hc⟩, ws, hyc, ?_⟩
  split
  · rename_i hle
    cases x with
    | none =>
      have hc0 : c * es = 0 := by
        rcases Nat.eq_zero_or_pos (c * es) with h0 | h0
        · exact h0
        · obtain ⟨a, h1, _⟩ := hb.own 0 h0; cases h1
      have hc00 : c = 0 := by rcases Nat.mul_eq_zero.1 hc0 with h0 | h0 <;> omega
      have hm0 : m = 0 := by omega
      have hws0 : ws = [] := List.eq_nil_of_length_eq_zero (by rw [hm, hm0]; simp)
      subst hws0
      refine h s none c (Kp.refl s) (fun _ => ⟨rfl, rfl⟩) (fun hh => by omega) hc ?_
      rw [List.append_nil]; exact hb
    | some a =>
      have key : ∀ i, i < c * es → ∃ y, Own s (a.add i) y ∧ ∀ h : i < vs.length, y = vs[i] := fun i hi => by
        obtain ⟨a', h1, h2⟩ := hb.own i hi
        cases h1; exact h2
      by_cases hw0 : ws = []
      · subst hw0
        have hm0 : m = 0 := by
          have hm' : 0 = m * es := hm
          rcases Nat.mul_eq_zero.1 hm'.symm with h0 | h0 <;> omega
        refine h s (some a) c (Kp.refl s) (fun _ => ⟨rfl, rfl⟩) (fun hh => by omega) hc ?_
        rw [List.append_nil]; exact hb
      have hpos : 0 < ws.length := List.length_pos_iff.2 hw0
      have hfit : vs.length + ws.length ≤ c * es := by rw [hl, hm, ← Nat.add_mul]; exact Nat.mul_le_mul_right _ hle
      show wrN ws (a.add (l * es)) 0 _ s
      rw [← hl]
      refine wrN_rule ws (a.add vs.length) 0 _ s (fun i hi => ?_) hws ?_
      · rw [Nat.zero_add, addr_add]
        obtain ⟨y, hy, _⟩ := key (vs.length + i) (by omega)
        exact ⟨y, hy⟩
      · intro s' k z' ho hk
        refine h s' (some a) c (k.mono (fun b hb => ⟨a, rfl, by rw [← add_blk a vs.length]; exact hb.symm⟩)) (fun _ => ⟨rfl, rfl⟩) (fun hh => by omega) hc ⟨by simp; omega, fun i hi => ⟨a, rfl, ?_⟩⟩
        by_cases h1 : i < vs.length
        · obtain ⟨y, hy1, hy2⟩ := key i hi
          refine ⟨y, ?_, fun h => by rw [hy2 h1]; simp [List.getElem_append, h1]⟩
          exact hk _ _ (.inl (by rw [add_of, add_of]; omega)) hy1
        · by_cases h2 : i < vs.length + ws.length
          · have := ho (i - vs.length) (by omega)
            rw [Nat.zero_add, addr_add, show vs.length + (i - vs.length) = i by omega] at this
            refine ⟨_, this, fun h => ?_⟩
            rw [List.getElem_append_right (by omega)]
          · obtain ⟨y, hy1, _⟩ := key i hi
            have := hk (a.add i) y (.inr (by rw [add_of, add_of]; omega)) hy1
            exact ⟨y, this, fun h => by simp at h; omega⟩
  · rename_i hle
    refine ⟨vs, hrow, fun c' g1 g2 => ?_⟩
    rw [hz]
    have hlen' : (vs ++ ws ++ repL (c' - (l + m)) zs).length = c' * es := by
      rw [List.length_append, List.length_append, repL_lenN, hzl, hl, hm, ← Nat.add_mul, ← Nat.add_mul]
      congr 1; omega
    have hbuf : Buf (s.push (.cells (vs ++ ws ++ repL (c' - (l + m)) zs).toArray t (0, 0))) (some ⟨s.size, 0, none⟩) (vs ++ ws ++ repL (c' - (l + m)) zs).length (vs ++ ws) :=
      buf_new (by simp) (fun i hi => by rw [List.getElem?_append_left hi]; simp [hi])
    rw [hlen'] at hbuf
    exact h _ _ c' (Ext.push (Ext.refl s)).kp (fun hh => by omega) (fun _ => ⟨rfl, Ext.push (Ext.refl s)⟩) (by omega) hbuf

/-- A list that one has made: nothing of it lay before 'lo'. -/
structure Fr (lo : Nat) (s : Hp) (x : Option Addr) (l c es : Nat) (vs : List Value) : Prop where
  buf : Buf s x (c * es) vs
  len : vs.length = l * es
  fr : ∀ a, x = some a → lo ≤ a.block
  cap : c ≤ 9223372036854775808
theorem Fr.nil (lo : Nat) (s : Hp) (es : Nat) : Fr lo s none 0 0 es [] := ⟨⟨by simp, fun i hi => by simp at hi⟩, by simp, (fun a h => by cases h), by omega⟩
theorem Fr.ext {lo : Nat} {x : Option Addr} {l c es : Nat} {vs : List Value} (e : Ext s s') (h : Fr lo s x l c es vs) : Fr lo s' x l c es vs := ⟨h.buf.ext e, h.len, h.fr, h.cap⟩
theorem Fr.kp {D : Nat → Prop} {lo : Nat} {x : Option Addr} {l c es : Nat} {vs : List Value} (e : Kp D s s') (hd : ∀ a, x = some a → ¬ D a.block) (h : Fr lo s x l c es vs) : Fr lo s' x l c es vs := ⟨h.buf.kp e hd, h.len, h.fr, h.cap⟩
theorem Fr.row {lo : Nat} {x : Option Addr} {l c es : Nat} {vs : List Value} (h : Fr lo s x l c es vs) : RowAt s x vs := h.buf.row
theorem APP_fr {P : Program} {t : TypeId} {lo es l m c : Nat} {x : Option Addr} {vs ws zs : List Value} {y : Option Addr} {K : Option Addr → Nat → Nat → Hp → Prop} (hf : Fr lo s x l c es vs) (hlo : lo ≤ s.size) (hy : RowAt s y ws) (hm : ws.length = m * es) (hz : zc P t = zs) (hzl : zs.length = es) (hes : 0 < es)
    (hws : ∀ v ∈ ws, oneCell v = true) (hlen : l + m ≤ 1000000)
    (h : ∀ s' x' c', Kp (fun b => ∃ a, x = some a ∧ a.block = b) s s' → (∀ a, x' = some a → (∃ a', x = some a' ∧ a'.block = a.block) ∨ s.size ≤ a.block) → Fr lo s' x' (l + m) c' es (vs ++ ws) → K x' (l + m) c' s') :
    APP P t es x l c y m K s := by
  refine APP_bufN hf.buf hf.len hy hm hz hzl hes hws hlen hf.cap fun s' x' c' k g1 g2 g3 u => ?_
  have g : ∀ a, x' = some a → (∃ a', x = some a' ∧ a'.block = a.block) ∨ s.size ≤ a.block := by
    intro a ha
    rcases Nat.lt_or_ge c (l + m) with hc | hc
    · obtain ⟨q1, _⟩ := g2 hc
      rw [q1] at ha; cases ha
      exact .inr (Nat.le_refl _)
    · obtain ⟨q1, _⟩ := g1 hc
      rw [q1] at ha
      exact .inl ⟨a, ha, rfl⟩
  refine h s' x' c' k g ⟨u, by rw [List.length_append, hf.len, hm, Nat.add_mul], fun a ha => ?_, g3⟩
  rcases g a ha with ⟨a', h1, h2⟩ | h1
  · rw [← h2]; exact hf.fr a' h1
  · omega
/-- One cell of a row of one's own is written. -/
theorem Buf.set {x : Addr} {c i : Nat} {vs : List Value} {v : Value} (h : Buf s (some x) c vs) (hi : i < vs.length) : Buf (setC s (x.add i) v) (some x) c (vs.set i v) := by
  refine ⟨by rw [List.length_set]; exact h.le, fun j hj => ⟨x, rfl, ?_⟩⟩
  obtain ⟨a, h1, y, h2, h3⟩ := h.own j hj
  cases h1
  by_cases e : j = i
  · subst e
    exact ⟨v, own_set h2, fun hh => by simp⟩
  · refine ⟨y, own_set_ne (.inr (by rw [add_of, add_of]; omega)) h2, fun hh => ?_⟩
    rw [List.length_set] at hh
    rw [h3 hh, List.getElem_set_ne (fun e' => e e'.symm)]
theorem Buf.at {x : Addr} {c i : Nat} {vs : List Value} (h : Buf s (some x) c vs) (hi : i < vs.length) : Own s (x.add i) vs[i] := by
  obtain ⟨a, h1, y, h2, h3⟩ := h.own i (Nat.lt_of_lt_of_le hi h.le)
  cases h1
  rw [← h3 hi]; exact h2
end
end Go.V

/- From a contract over the visible heap to a given row. -/
set_option linter.unusedSimpArgs false
set_option linter.unusedVariables false
namespace Go.V
section
variable (P : Program) (s : Hp)
def RdF (R : TypeId → List Value → Prop) : List Field → List Value → Prop
  | [], _ => True
  | f :: r, cs => R f.type ((cs.drop f.offset).take (P.cellsOf f.type)) ∧ RdF R r cs
/-- What a type's cells read as, where they came in. -/
def Rds : Nat → TypeId → List Value → Prop
  | 0, _, _ => True
  | n + 1, t, cs => match P.underlying t with
    | some .bool => ∃ b, cs = [.bool b]
    | some (.int k) => ∃ m, cs = [.int k m] ∧ (Lit.int k m).wf = true
    | some .string => ∃ b, cs = [.string b] ∧ b.size ≤ maxLen
    | some (.slice e) => ∃ a l c, cs = [.slice a l c] ∧ l ≤ c ∧ c ≤ maxLen ∧ (a = none → l = 0 ∧ c = 0) ∧ ∀ i, i < l → ∃ b es, a = some b ∧ es.length = P.cellsOf e ∧ (∀ j v, es[j]? = some v → cellAt s ((b.add (i * P.cellsOf e)).add j) = some v) ∧ Rds n e es
    | some (.struct fs) => cs.length = P.cellsOf t ∧ RdF P (Rds n) fs.toList cs
    | some (.array m e) => cs.length = P.cellsOf t ∧ ∀ i, i < m → Rds n e ((cs.drop (i * P.cellsOf e)).take (P.cellsOf e))
    | _ => True
def RdV (t : TypeId) (v : Value) : Prop := ∃ cs, v = (match isAg P t with | true => .agg cs.toArray | false => cs.headD undef) ∧ Rds P s 8 t cs
end
section
variable {P : Program} {H : Type} {enc : TypeId × Value → H} {w : World} {base : Nat} {sp : Nat → Bool} {held : Bool}
theorem rdF_of {R : TypeId → List Value → Prop} : ∀ (fs : List Field) (cs : List Value), (∀ (i : Nat) (f : Field), fs[i]? = some f → R f.type ((cs.drop f.offset).take (P.cellsOf f.type))) → RdF P R fs cs
  | [], _, _ => trivial
  | f :: r, cs, h => ⟨h 0 f rfl, rdF_of r cs fun i g hg => h (i + 1) g (by simpa using hg)⟩
theorem trod_rds : ∀ (k fuel : Nat) (t : TypeId) (cs : List Value) (x : DataW H × List MemPlace), DataW.trod enc P w base sp held fuel t cs = some x → Rds P w.heap k t cs
  | 0, _, _, _, _, _ => trivial
  | k + 1, fuel, t, cs, x, h => by
    unfold Rds
    split
    · rename_i ht
      obtain ⟨b, rfl, _⟩ := DataW.trod_bool ht h
      exact ⟨b, rfl⟩
    · rename_i kd ht
      obtain ⟨n, rfl, _, hw⟩ := DataW.trod_int ht h
      exact ⟨n, rfl, hw⟩
    · rename_i ht
      obtain ⟨b, rfl, _, hw⟩ := DataW.trod_string ht h
      exact ⟨b, rfl, hw⟩
    · rename_i e ht
      rcases DataW.trod_slice ht h with ⟨rfl, _⟩ | ⟨a, len, cap, elems, rest, n, _, rfl, rfl, hb, hl, hm, hlen, hel, hsp, hns⟩
      · exact ⟨none, 0, 0, rfl, Nat.le_refl _, Nat.zero_le _, fun _ => ⟨rfl, rfl⟩, fun i hi => by omega⟩
      · refine ⟨some a, len, cap, rfl, hl, hm, (fun h => by cases h), fun i hi => ?_⟩
        have hi' : i < elems.length := by omega
        have h1 := hel i hi
        rw [List.getElem?_eq_getElem hi', Option.bind_eq_some_iff] at h1
        obtain ⟨es, h2, h3⟩ := h1
        obtain ⟨_, h4, h5⟩ := World.cells?_some h2
        refine ⟨a, es, rfl, h4, fun j v hv => ?_, trod_rds k _ _ _ _ h3⟩
        have hj : j < P.cellsOf e := by
          have := (List.getElem?_eq_some_iff.1 hv).1
          omega
        rw [← hv, ← h5 j hj]; rfl
    · rename_i fs ht
      obtain ⟨xs, n, _, rfl, h1, h2, h3⟩ := DataW.trod_struct ht h
      refine ⟨h1, rdF_of _ _ fun i f hf => ?_⟩
      have hfs : fs[i]? = some f := by simpa using hf
      have hi : i < xs.length := by
        have := (Array.getElem?_eq_some_iff.1 hfs).1
        omega
      have h4 := h3 i f hfs
      rw [List.getElem?_eq_getElem hi] at h4
      exact trod_rds k _ _ _ _ h4
    · rename_i m e ht
      cases fuel with
      | zero => simp [DataW.trod] at h
      | succ n =>
        unfold DataW.trod at h
        rw [ht] at h
        simp only at h
        split at h
        · rename_i hc
          refine ⟨hc, fun i hi => ?_⟩
          rw [Option.map_eq_some_iff] at h
          obtain ⟨xs, hx, _⟩ := h
          have hget := mapM_some_get hx i i (by simp [hi])
          have hlen : xs.length = m := by simpa using mapM_some_length hx
          rw [List.getElem?_eq_getElem (by omega)] at hget
          exact trod_rds k _ _ _ _ hget
        · cases h
    · trivial
theorem trod_rdV {t : TypeId} {v : Value} {d : DataW H} {ps : List MemPlace} {b0 : Nat} (hv : Value.okWide P w .any b0 t v) (h : DataW.Trod enc P w base sp held t v d ps) : RdV P w.heap t v := by
  obtain ⟨fuel, h⟩ := h
  refine ⟨v.cells.toList, ?_, trod_rds 8 _ _ _ _ h⟩
  unfold Value.okWide at hv
  split at hv
  · rename_i ht
    obtain ⟨cs, rfl, _⟩ := hv
    unfold isAg
    rw [ht]; simp [Value.cells]
  · rename_i ht
    obtain ⟨cs, rfl, _⟩ := hv
    unfold isAg
    rw [ht]; simp [Value.cells]
  · rename_i h1 h2
    have hag : isAg P t = false := by
      unfold isAg
      split
      · rename_i h; exact absurd h (h1 _)
      · rename_i h; exact absurd h (h2 _ _)
      · rfl
    rw [hag]
    cases v <;> first | rfl | (simp [Cell.okWide, Cell.ok] at hv; try (split at hv <;> simp_all))
end
theorem does_of_call {P : Program} {W : World} {f : FuncId} {args : List Value} {s : Hp} (h : CALL P W f args (fun v s' => v = .bool true ∧ Ext s s') (fun _ _ => False) s) : Does P W f args.toArray s fun e s' => e = .returned (.bool true) ∧ Ext s s' :=
  Does.mono h fun e s' he => by
    cases e with
    | returned v => exact ⟨by rw [he.1], he.2⟩
    | panicked c => exact he.elim
    | outgrown => exact he.elim
/-- A contract over the visible heap, that leaves what lay, as a call's. -/
theorem calls_of_does {P : Program} {f : FuncId} {args : Array Value} {W : World} (h : Does P W f args W.heap fun e s' => e = .returned (.bool true) ∧ Ext W.heap s') :
    Calls P f args W fun e w' => e = .returned (.bool true) ∧ Go.RowKit.Below W.heap.size W w' := by
  have h2 := h.2 (fun _ => False) W.heap W.drawn (Vis.refl W.heap)
  refine Calls.mono h2 ?_
  rintro e w' ⟨X', h', d', s', rfl, v, ev, he, ext⟩
  refine ⟨he, ⟨rfl, rfl, rfl, ?_, fun k hk => ?_⟩⟩
  · exact ev.size
  · show h'[k]? = W.heap[k]?
    have hx : ¬ X' k := fun hx => by
      rcases ev.new k hx with h0 | h0
      · exact h0
      · omega
    rw [← v.same k hx]
    exact ext.2 k hk
end Go.V

/- The functions' shallow texts, by gen.py, and that the text of conditions comes to them. -/
set_option linter.unusedVariables false
set_option maxRecDepth 100000
namespace Go.Proofs.Ytkgcbfbbcaajpaa.G
open Go.V
noncomputable abbrev Pg : Program := Try.prog
abbrev F_law10_RankReads : FuncId := 3
abbrev F_law10_RankLooks : FuncId := 4
abbrev F_law10_RankTrue : FuncId := 5
abbrev F_law10_RankEnds : FuncId := 6
abbrev F_law10_RankThird : FuncId := 7
abbrev F_law10_RankCould : FuncId := 8
abbrev F_law10_RankNeed : FuncId := 9
abbrev F_law10_RankMore : FuncId := 10
abbrev F_law10_RankOrder : FuncId := 11
abbrev F_law10_far : FuncId := 12
abbrev F_law10_awake : FuncId := 13
abbrev F_rank_Sum : FuncId := 14
abbrev F_ref10_Sum : FuncId := 15
abbrev F_rank_Before : FuncId := 16
abbrev F_ref10_Before : FuncId := 17
abbrev F_rank_Place : FuncId := 18
abbrev F_ref10_Place : FuncId := 19
abbrev F_rank_Winners : FuncId := 20
abbrev F_ref10_Winners : FuncId := 21
abbrev F_rank_Equal : FuncId := 22
abbrev F_ref10_Equal : FuncId := 23
abbrev F_ref10_Table : FuncId := 24
abbrev F_rank_Could : FuncId := 25
abbrev F_ref10_Could : FuncId := 26
abbrev F_rank_Need : FuncId := 27
abbrev F_ref10_Need : FuncId := 28
abbrev F_rank_Order : FuncId := 29
abbrev F_ref10_Order : FuncId := 30
abbrev F_ref10_Ints : FuncId := 31
abbrev F_law10_filled : FuncId := 32
abbrev F_law10_order : FuncId := 33
abbrev F_law10_inside : FuncId := 34
abbrev F_law10_span : FuncId := 35
abbrev F_law10_RankEnds_c1 : FuncId := 36
abbrev F_ref10_Points : FuncId := 37
abbrev F_ref10_Size : FuncId := 38
abbrev F_law10_read : FuncId := 39
abbrev F_ref10_With : FuncId := 40
abbrev F_law10_RankNeed_c1 : FuncId := 41
abbrev F_law10_RankMore_c1 : FuncId := 42
abbrev F_law10_RankOrder_c1 : FuncId := 43
abbrev F_law10_sample : FuncId := 44
abbrev F_rank_told : FuncId := 45
abbrev F_rank_open : FuncId := 46
abbrev F_rank_must : FuncId := 47
abbrev F_rank_table_isMan : FuncId := 48
abbrev F_rank_table_row : FuncId := 49
abbrev F_rank_both : FuncId := 50
abbrev F_ref10_check : FuncId := 51
abbrev F_ref10_Man : FuncId := 52
abbrev F_ref10_least : FuncId := 53
abbrev F_ref10_most : FuncId := 54
abbrev F_rank_table_surely : FuncId := 55
abbrev F_rank_table_can : FuncId := 56
abbrev F_ref10_surely : FuncId := 57
abbrev F_ref10_can : FuncId := 58
abbrev F_rank_table_place : FuncId := 59
abbrev F_ref10_place : FuncId := 60
abbrev F_ref10_power : FuncId := 61
abbrev F_rank_plain_of : FuncId := 62
abbrev F_ref10_in : FuncId := 63
abbrev F_rank_sets : FuncId := 64
abbrev F_ref10_read : FuncId := 65
abbrev F_rank_table_isSheet : FuncId := 66
abbrev F_rank_within : FuncId := 67
abbrev F_ref10_Sheet : FuncId := 68
abbrev F_rank_Order_c1 : FuncId := 69
abbrev F_ref10_Has : FuncId := 70
abbrev F_law10_sample_c1 : FuncId := 71
abbrev F_rank_open_c1 : FuncId := 72
abbrev F_slices_ContainsFunc_int_int : FuncId := 73
abbrev F_rank_total : FuncId := 74
abbrev F_rank_both_c1 : FuncId := 75
abbrev F_rank_both_c2 : FuncId := 76
abbrev F_ref10_row : FuncId := 77
abbrev F_rank_ahead_int : FuncId := 78
abbrev F_ref10_ahead : FuncId := 79
abbrev F_rank_sets_c1 : FuncId := 80
abbrev F_math_bits_OnesCount : FuncId := 81
abbrev F_slices_IndexFunc_int_int : FuncId := 82
abbrev F_slices_Compare_int_int : FuncId := 83
abbrev F_math_bits_OnesCount32 : FuncId := 84
abbrev F_math_bits_OnesCount64 : FuncId := 85
abbrev F_cmp_Compare_int : FuncId := 86
abbrev F_cmp_isNaN_int : FuncId := 87
abbrev F_rank_better_of : FuncId := 103
def an_14 : Nat → Ann := fun b => match b with
  | _ => {}
abbrev rv_14 : List ResultVar := [.cell 4 29, .cell 5 30]
abbrev rs_14 : List Nat := [32, 4, 5]
def T_rank_Sum (W : World) (n1 : Int) (n2 : Int) (x3 : Option Addr) (l4 : Nat) (c5 : Nat) (x6 : Option Addr) (l7 : Nat) (c8 : Nat) (n9 : Int) (R : Ending → Hp → Prop) : Hp → Prop :=
  NEW 25 [(.int .i64 n1), (.int .i64 n2), (.slice x3 l4 c5), (.slice x6 l7 c8)] fun B10 =>
    NEWZ Pg 29 fun B11 =>
      NEWZ Pg 30 fun B12 =>
        RDI .i64 (Addr.add ⟨B10, 0, none⟩ 0) fun n13 =>
          RDI .i64 (Addr.add ⟨B10, 0, none⟩ 1) fun n14 =>
            RDL (Addr.add ⟨B10, 0, none⟩ 2) fun x15 l16 c17 =>
              RDL (Addr.add ⟨B10, 0, none⟩ 3) fun x18 l19 c20 =>
                CALL Pg W F_rank_open [(.agg #[(.int .i64 n13), (.int .i64 n14), (.slice x15 l16 c17), (.slice x18 l19 c20)])]
                  (fun v21 => TYP v21 fun p23 =>
                    CALL Pg W F_rank_table_isMan [(.pointer p23), (.int .i64 n9)]
                      (fun v24 => TYB v24 fun b26 =>
                        CALL Pg W F_rank_must [(.bool b26), (.int .i64 2)]
                          (fun v27 => TUP v27 fun q29 => NL q29 <|
                            CALL Pg W F_rank_both []
                              (fun v30 => AGG v30 fun q32 => HD q32 fun v33 r34 => HD r34 fun v35 r36 => NL r36 <|
                                CALL Pg W F_rank_table_row [(.pointer p23), (.iface 77 (.agg #[(.pointer p23)])), (.int .i64 n9), v33]
                                  (fun v37 => AGG v37 fun q39 => HD q39 fun v40 r41 => TYI .i64 v40 fun n42 =>
                                    HD r41 fun v43 r44 => TYI .i64 v43 fun n45 =>
                                      HD r44 fun v46 r47 => TYI .i64 v46 fun n48 =>
                                        HD r47 fun v49 r50 => TYI .i64 v49 fun n51 =>
                                          HD r50 fun v52 r53 => TYI .i64 v52 fun n54 =>
                                            HD r53 fun v55 r56 => TYI .i64 v55 fun n57 =>
                                              NL r56 <|
                                                CALL Pg W F_rank_both []
                                                  (fun v58 => AGG v58 fun q60 => HD q60 fun v61 r62 => HD r62 fun v63 r64 => NL r64 <|
                                                    CALL Pg W F_rank_table_row [(.pointer p23), (.iface 77 (.agg #[(.pointer p23)])), (.int .i64 n9), v63]
                                                      (fun v65 => AGG v65 fun q67 => HD q67 fun v68 r69 => TYI .i64 v68 fun n70 =>
                                                        HD r69 fun v71 r72 => TYI .i64 v71 fun n73 =>
                                                          HD r72 fun v74 r75 => TYI .i64 v74 fun n76 =>
                                                            HD r75 fun v77 r78 => TYI .i64 v77 fun n79 =>
                                                              HD r78 fun v80 r81 => TYI .i64 v80 fun n82 =>
                                                                HD r81 fun v83 r84 => TYI .i64 v83 fun n85 =>
                                                                  NL r84 <|
                                                                    WR (Addr.add ⟨B11, 0, none⟩ 0) (.int .i64 n42) <|
                                                                      WR (Addr.add ⟨B11, 0, none⟩ 1) (.int .i64 n70) <|
                                                                        WR (Addr.add ⟨B12, 0, none⟩ 0) (.int .i64 0) <|
                                                                          DEF Pg W (.tuple #[(.func (.func 45) #[] #[]), (.tuple #[(.pointer (some ⟨B12, 0, none⟩))])]) none
                                                                            (RDI .i64 (Addr.add ⟨B11, 0, none⟩ 0) fun n86 =>
                                                                              RDI .i64 (Addr.add ⟨B11, 0, none⟩ 1) fun n87 =>
                                                                                RDI .i64 ⟨B12, 0, none⟩ fun n88 =>
                                                                                  R (.returned (.tuple #[(.agg #[(.int .i64 n86), (.int .i64 n87)]), (.int .i64 n88)]))))
                                                        (fun e66 => DEF Pg W (.tuple #[(.func (.func 45) #[] #[]), (.tuple #[(.pointer (some ⟨B12, 0, none⟩))])]) (some e66) (RDI .i64 (Addr.add ⟨B11, 0, none⟩ 0) fun n89 =>
                                                          RDI .i64 (Addr.add ⟨B11, 0, none⟩ 1) fun n90 =>
                                                            RDI .i64 ⟨B12, 0, none⟩ fun n91 =>
                                                              R (.returned (.tuple #[(.agg #[(.int .i64 n89), (.int .i64 n90)]), (.int .i64 n91)])))))
                                                    (fun e59 => DEF Pg W (.tuple #[(.func (.func 45) #[] #[]), (.tuple #[(.pointer (some ⟨B12, 0, none⟩))])]) (some e59) (RDI .i64 (Addr.add ⟨B11, 0, none⟩ 0) fun n92 =>
                                                      RDI .i64 (Addr.add ⟨B11, 0, none⟩ 1) fun n93 =>
                                                        RDI .i64 ⟨B12, 0, none⟩ fun n94 =>
                                                          R (.returned (.tuple #[(.agg #[(.int .i64 n92), (.int .i64 n93)]), (.int .i64 n94)])))))
                                    (fun e38 => DEF Pg W (.tuple #[(.func (.func 45) #[] #[]), (.tuple #[(.pointer (some ⟨B12, 0, none⟩))])]) (some e38) (RDI .i64 (Addr.add ⟨B11, 0, none⟩ 0) fun n95 =>
                                      RDI .i64 (Addr.add ⟨B11, 0, none⟩ 1) fun n96 =>
                                        RDI .i64 ⟨B12, 0, none⟩ fun n97 =>
                                          R (.returned (.tuple #[(.agg #[(.int .i64 n95), (.int .i64 n96)]), (.int .i64 n97)])))))
                                (fun e31 => DEF Pg W (.tuple #[(.func (.func 45) #[] #[]), (.tuple #[(.pointer (some ⟨B12, 0, none⟩))])]) (some e31) (RDI .i64 (Addr.add ⟨B11, 0, none⟩ 0) fun n98 =>
                                  RDI .i64 (Addr.add ⟨B11, 0, none⟩ 1) fun n99 =>
                                    RDI .i64 ⟨B12, 0, none⟩ fun n100 =>
                                      R (.returned (.tuple #[(.agg #[(.int .i64 n98), (.int .i64 n99)]), (.int .i64 n100)])))))
                            (fun e28 => DEF Pg W (.tuple #[(.func (.func 45) #[] #[]), (.tuple #[(.pointer (some ⟨B12, 0, none⟩))])]) (some e28) (RDI .i64 (Addr.add ⟨B11, 0, none⟩ 0) fun n101 =>
                              RDI .i64 (Addr.add ⟨B11, 0, none⟩ 1) fun n102 =>
                                RDI .i64 ⟨B12, 0, none⟩ fun n103 =>
                                  R (.returned (.tuple #[(.agg #[(.int .i64 n101), (.int .i64 n102)]), (.int .i64 n103)])))))
                        (fun e25 => DEF Pg W (.tuple #[(.func (.func 45) #[] #[]), (.tuple #[(.pointer (some ⟨B12, 0, none⟩))])]) (some e25) (RDI .i64 (Addr.add ⟨B11, 0, none⟩ 0) fun n104 =>
                          RDI .i64 (Addr.add ⟨B11, 0, none⟩ 1) fun n105 =>
                            RDI .i64 ⟨B12, 0, none⟩ fun n106 =>
                              R (.returned (.tuple #[(.agg #[(.int .i64 n104), (.int .i64 n105)]), (.int .i64 n106)])))))
                    (fun e22 => DEF Pg W (.tuple #[(.func (.func 45) #[] #[]), (.tuple #[(.pointer (some ⟨B12, 0, none⟩))])]) (some e22) (RDI .i64 (Addr.add ⟨B11, 0, none⟩ 0) fun n107 =>
                      RDI .i64 (Addr.add ⟨B11, 0, none⟩ 1) fun n108 =>
                        RDI .i64 ⟨B12, 0, none⟩ fun n109 =>
                          R (.returned (.tuple #[(.agg #[(.int .i64 n107), (.int .i64 n108)]), (.int .i64 n109)]))))
theorem T_rank_Sum_eq (W : World) (n1 : Int) (n2 : Int) (x3 : Option Addr) (l4 : Nat) (c5 : Nat) (x6 : Option Addr) (l7 : Nat) (c8 : Nat) (n9 : Int) (R : Ending → Hp → Prop) : vfun Pg W an_14 Try.f14 [(.agg #[(.int .i64 n1), (.int .i64 n2), (.slice x3 l4 c5), (.slice x6 l7 c8)]), (.int .i64 n9)] R = T_rank_Sum W n1 n2 x3 l4 c5 x6 l7 c8 n9 R := by kernel_rfl
theorem does_rank_Sum (W : World) (n1 : Int) (n2 : Int) (x3 : Option Addr) (l4 : Nat) (c5 : Nat) (x6 : Option Addr) (l7 : Nat) (c8 : Nat) (n9 : Int) (R : Ending → Hp → Prop) (s : Hp) (h : T_rank_Sum W n1 n2 x3 l4 c5 x6 l7 c8 n9 R s) : Does Pg W F_rank_Sum #[(.agg #[(.int .i64 n1), (.int .i64 n2), (.slice x3 l4 c5), (.slice x6 l7 c8)]), (.int .i64 n9)] s R :=
  does_of_vfun Pg W an_14 Try.func14 rfl (by kernel_rfl) (by rw [T_rank_Sum_eq]; exact h)
def an_16 : Nat → Ann := fun b => match b with
  | _ => {}
abbrev rv_16 : List ResultVar := [.tmp 6, .cell 7 30]
abbrev rs_16 : List Nat := [36, 6, 7]
def J_rank_Before_0 (W : World) (R : Ending → Hp → Prop) (b30 : Bool) (p23 : Option Addr) (n9 : Int) (n10 : Int) (B12 : Nat) : Hp → Prop :=
  CALL Pg W F_rank_must [(.bool b30), (.int .i64 2)]
    (fun v31 => TUP v31 fun q33 => NL q33 <|
      CALL Pg W F_rank_table_surely [(.pointer p23), (.iface 77 (.agg #[(.pointer p23)])), (.int .i64 n9), (.int .i64 n10)]
        (fun v34 => TYB v34 fun b36 =>
          BR b36
            (WR (Addr.add ⟨B12, 0, none⟩ 0) (.int .i64 0) <|
              DEF Pg W (.tuple #[(.func (.func 45) #[] #[]), (.tuple #[(.pointer (some ⟨B12, 0, none⟩))])]) none
                (RDI .i64 ⟨B12, 0, none⟩ fun n37 =>
                  R (.returned (.tuple #[(.int .i64 2), (.int .i64 n37)]))))
            (CALL Pg W F_rank_table_can [(.pointer p23), (.iface 77 (.agg #[(.pointer p23)])), (.int .i64 n9), (.int .i64 n10)]
              (fun v38 => TYB v38 fun b40 =>
                BR b40
                  (WR (Addr.add ⟨B12, 0, none⟩ 0) (.int .i64 0) <|
                    DEF Pg W (.tuple #[(.func (.func 45) #[] #[]), (.tuple #[(.pointer (some ⟨B12, 0, none⟩))])]) none
                      (RDI .i64 ⟨B12, 0, none⟩ fun n41 =>
                        R (.returned (.tuple #[(.int .i64 1), (.int .i64 n41)]))))
                  (WR (Addr.add ⟨B12, 0, none⟩ 0) (.int .i64 0) <|
                    DEF Pg W (.tuple #[(.func (.func 45) #[] #[]), (.tuple #[(.pointer (some ⟨B12, 0, none⟩))])]) none
                      (RDI .i64 ⟨B12, 0, none⟩ fun n42 =>
                        R (.returned (.tuple #[(.int .i64 0), (.int .i64 n42)])))))
                (fun e39 => DEF Pg W (.tuple #[(.func (.func 45) #[] #[]), (.tuple #[(.pointer (some ⟨B12, 0, none⟩))])]) (some e39) (RDI .i64 ⟨B12, 0, none⟩ fun n43 =>
                  R (.returned (.tuple #[(.int .i64 0), (.int .i64 n43)]))))))
          (fun e35 => DEF Pg W (.tuple #[(.func (.func 45) #[] #[]), (.tuple #[(.pointer (some ⟨B12, 0, none⟩))])]) (some e35) (RDI .i64 ⟨B12, 0, none⟩ fun n44 =>
            R (.returned (.tuple #[(.int .i64 0), (.int .i64 n44)])))))
      (fun e32 => DEF Pg W (.tuple #[(.func (.func 45) #[] #[]), (.tuple #[(.pointer (some ⟨B12, 0, none⟩))])]) (some e32) (RDI .i64 ⟨B12, 0, none⟩ fun n45 =>
        R (.returned (.tuple #[(.int .i64 0), (.int .i64 n45)]))))
def T_rank_Before (W : World) (n1 : Int) (n2 : Int) (x3 : Option Addr) (l4 : Nat) (c5 : Nat) (x6 : Option Addr) (l7 : Nat) (c8 : Nat) (n9 : Int) (n10 : Int) (R : Ending → Hp → Prop) : Hp → Prop :=
  NEW 25 [(.int .i64 n1), (.int .i64 n2), (.slice x3 l4 c5), (.slice x6 l7 c8)] fun B11 =>
    NEWZ Pg 30 fun B12 =>
      RDI .i64 (Addr.add ⟨B11, 0, none⟩ 0) fun n13 =>
        RDI .i64 (Addr.add ⟨B11, 0, none⟩ 1) fun n14 =>
          RDL (Addr.add ⟨B11, 0, none⟩ 2) fun x15 l16 c17 =>
            RDL (Addr.add ⟨B11, 0, none⟩ 3) fun x18 l19 c20 =>
              CALL Pg W F_rank_open [(.agg #[(.int .i64 n13), (.int .i64 n14), (.slice x15 l16 c17), (.slice x18 l19 c20)])]
                (fun v21 => TYP v21 fun p23 =>
                  CALL Pg W F_rank_table_isMan [(.pointer p23), (.int .i64 n9)]
                    (fun v24 => TYB v24 fun b26 =>
                      BR b26
                        (CALL Pg W F_rank_table_isMan [(.pointer p23), (.int .i64 n10)]
                          (fun v27 => TYB v27 fun b29 =>
                            J_rank_Before_0 W R b29 p23 n9 n10 B12)
                            (fun e28 => DEF Pg W (.tuple #[(.func (.func 45) #[] #[]), (.tuple #[(.pointer (some ⟨B12, 0, none⟩))])]) (some e28) (RDI .i64 ⟨B12, 0, none⟩ fun n46 =>
                              R (.returned (.tuple #[(.int .i64 0), (.int .i64 n46)])))))
                        (J_rank_Before_0 W R false p23 n9 n10 B12))
                      (fun e25 => DEF Pg W (.tuple #[(.func (.func 45) #[] #[]), (.tuple #[(.pointer (some ⟨B12, 0, none⟩))])]) (some e25) (RDI .i64 ⟨B12, 0, none⟩ fun n47 =>
                        R (.returned (.tuple #[(.int .i64 0), (.int .i64 n47)])))))
                  (fun e22 => DEF Pg W (.tuple #[(.func (.func 45) #[] #[]), (.tuple #[(.pointer (some ⟨B12, 0, none⟩))])]) (some e22) (RDI .i64 ⟨B12, 0, none⟩ fun n48 =>
                    R (.returned (.tuple #[(.int .i64 0), (.int .i64 n48)]))))
theorem T_rank_Before_eq (W : World) (n1 : Int) (n2 : Int) (x3 : Option Addr) (l4 : Nat) (c5 : Nat) (x6 : Option Addr) (l7 : Nat) (c8 : Nat) (n9 : Int) (n10 : Int) (R : Ending → Hp → Prop) : vfun Pg W an_16 Try.f16 [(.agg #[(.int .i64 n1), (.int .i64 n2), (.slice x3 l4 c5), (.slice x6 l7 c8)]), (.int .i64 n9), (.int .i64 n10)] R = T_rank_Before W n1 n2 x3 l4 c5 x6 l7 c8 n9 n10 R := by kernel_rfl
theorem does_rank_Before (W : World) (n1 : Int) (n2 : Int) (x3 : Option Addr) (l4 : Nat) (c5 : Nat) (x6 : Option Addr) (l7 : Nat) (c8 : Nat) (n9 : Int) (n10 : Int) (R : Ending → Hp → Prop) (s : Hp) (h : T_rank_Before W n1 n2 x3 l4 c5 x6 l7 c8 n9 n10 R s) : Does Pg W F_rank_Before #[(.agg #[(.int .i64 n1), (.int .i64 n2), (.slice x3 l4 c5), (.slice x6 l7 c8)]), (.int .i64 n9), (.int .i64 n10)] s R :=
  does_of_vfun Pg W an_16 Try.func16 rfl (by kernel_rfl) (by rw [T_rank_Before_eq]; exact h)
def an_18 : Nat → Ann := fun b => match b with
  | _ => {}
abbrev rv_18 : List ResultVar := [.cell 4 29, .cell 5 30]
abbrev rs_18 : List Nat := [19, 4, 5]
def T_rank_Place (W : World) (n1 : Int) (n2 : Int) (x3 : Option Addr) (l4 : Nat) (c5 : Nat) (x6 : Option Addr) (l7 : Nat) (c8 : Nat) (n9 : Int) (R : Ending → Hp → Prop) : Hp → Prop :=
  NEW 25 [(.int .i64 n1), (.int .i64 n2), (.slice x3 l4 c5), (.slice x6 l7 c8)] fun B10 =>
    NEWZ Pg 29 fun B11 =>
      NEWZ Pg 30 fun B12 =>
        RDI .i64 (Addr.add ⟨B10, 0, none⟩ 0) fun n13 =>
          RDI .i64 (Addr.add ⟨B10, 0, none⟩ 1) fun n14 =>
            RDL (Addr.add ⟨B10, 0, none⟩ 2) fun x15 l16 c17 =>
              RDL (Addr.add ⟨B10, 0, none⟩ 3) fun x18 l19 c20 =>
                CALL Pg W F_rank_open [(.agg #[(.int .i64 n13), (.int .i64 n14), (.slice x15 l16 c17), (.slice x18 l19 c20)])]
                  (fun v21 => TYP v21 fun p23 =>
                    CALL Pg W F_rank_table_isMan [(.pointer p23), (.int .i64 n9)]
                      (fun v24 => TYB v24 fun b26 =>
                        CALL Pg W F_rank_must [(.bool b26), (.int .i64 2)]
                          (fun v27 => TUP v27 fun q29 => NL q29 <|
                            CALL Pg W F_rank_table_place [(.pointer p23), (.iface 77 (.agg #[(.pointer p23)])), (.int .i64 n9)]
                              (fun v30 => AGG v30 fun q32 => HD q32 fun v33 r34 => TYI .i64 v33 fun n35 =>
                                HD r34 fun v36 r37 => TYI .i64 v36 fun n38 =>
                                  NL r37 <|
                                    WR (Addr.add ⟨B11, 0, none⟩ 0) (.int .i64 n35) <|
                                      WR (Addr.add ⟨B11, 0, none⟩ 1) (.int .i64 n38) <|
                                        WR (Addr.add ⟨B12, 0, none⟩ 0) (.int .i64 0) <|
                                          DEF Pg W (.tuple #[(.func (.func 45) #[] #[]), (.tuple #[(.pointer (some ⟨B12, 0, none⟩))])]) none
                                            (RDI .i64 (Addr.add ⟨B11, 0, none⟩ 0) fun n39 =>
                                              RDI .i64 (Addr.add ⟨B11, 0, none⟩ 1) fun n40 =>
                                                RDI .i64 ⟨B12, 0, none⟩ fun n41 =>
                                                  R (.returned (.tuple #[(.agg #[(.int .i64 n39), (.int .i64 n40)]), (.int .i64 n41)]))))
                                (fun e31 => DEF Pg W (.tuple #[(.func (.func 45) #[] #[]), (.tuple #[(.pointer (some ⟨B12, 0, none⟩))])]) (some e31) (RDI .i64 (Addr.add ⟨B11, 0, none⟩ 0) fun n42 =>
                                  RDI .i64 (Addr.add ⟨B11, 0, none⟩ 1) fun n43 =>
                                    RDI .i64 ⟨B12, 0, none⟩ fun n44 =>
                                      R (.returned (.tuple #[(.agg #[(.int .i64 n42), (.int .i64 n43)]), (.int .i64 n44)])))))
                            (fun e28 => DEF Pg W (.tuple #[(.func (.func 45) #[] #[]), (.tuple #[(.pointer (some ⟨B12, 0, none⟩))])]) (some e28) (RDI .i64 (Addr.add ⟨B11, 0, none⟩ 0) fun n45 =>
                              RDI .i64 (Addr.add ⟨B11, 0, none⟩ 1) fun n46 =>
                                RDI .i64 ⟨B12, 0, none⟩ fun n47 =>
                                  R (.returned (.tuple #[(.agg #[(.int .i64 n45), (.int .i64 n46)]), (.int .i64 n47)])))))
                        (fun e25 => DEF Pg W (.tuple #[(.func (.func 45) #[] #[]), (.tuple #[(.pointer (some ⟨B12, 0, none⟩))])]) (some e25) (RDI .i64 (Addr.add ⟨B11, 0, none⟩ 0) fun n48 =>
                          RDI .i64 (Addr.add ⟨B11, 0, none⟩ 1) fun n49 =>
                            RDI .i64 ⟨B12, 0, none⟩ fun n50 =>
                              R (.returned (.tuple #[(.agg #[(.int .i64 n48), (.int .i64 n49)]), (.int .i64 n50)])))))
                    (fun e22 => DEF Pg W (.tuple #[(.func (.func 45) #[] #[]), (.tuple #[(.pointer (some ⟨B12, 0, none⟩))])]) (some e22) (RDI .i64 (Addr.add ⟨B11, 0, none⟩ 0) fun n51 =>
                      RDI .i64 (Addr.add ⟨B11, 0, none⟩ 1) fun n52 =>
                        RDI .i64 ⟨B12, 0, none⟩ fun n53 =>
                          R (.returned (.tuple #[(.agg #[(.int .i64 n51), (.int .i64 n52)]), (.int .i64 n53)]))))
theorem T_rank_Place_eq (W : World) (n1 : Int) (n2 : Int) (x3 : Option Addr) (l4 : Nat) (c5 : Nat) (x6 : Option Addr) (l7 : Nat) (c8 : Nat) (n9 : Int) (R : Ending → Hp → Prop) : vfun Pg W an_18 Try.f18 [(.agg #[(.int .i64 n1), (.int .i64 n2), (.slice x3 l4 c5), (.slice x6 l7 c8)]), (.int .i64 n9)] R = T_rank_Place W n1 n2 x3 l4 c5 x6 l7 c8 n9 R := by kernel_rfl
theorem does_rank_Place (W : World) (n1 : Int) (n2 : Int) (x3 : Option Addr) (l4 : Nat) (c5 : Nat) (x6 : Option Addr) (l7 : Nat) (c8 : Nat) (n9 : Int) (R : Ending → Hp → Prop) (s : Hp) (h : T_rank_Place W n1 n2 x3 l4 c5 x6 l7 c8 n9 R s) : Does Pg W F_rank_Place #[(.agg #[(.int .i64 n1), (.int .i64 n2), (.slice x3 l4 c5), (.slice x6 l7 c8)]), (.int .i64 n9)] s R :=
  does_of_vfun Pg W an_18 Try.func18 rfl (by kernel_rfl) (by rw [T_rank_Place_eq]; exact h)
def an_20 : Nat → Ann := fun b => match b with
  | 0 => { ms := [2, 3, 15], ks := [.i .i64, .i .i64, .i .i64], us := [4, 5, 14, 41], rt := false, ex := [] }
  | _ => {}
abbrev rv_20 : List ResultVar := [.tmp 2, .tmp 3, .cell 4 30]
abbrev rs_20 : List Nat := [41, 2, 3, 4]
def L_rank_Winners_0 (W : World) (R : Ending → Hp → Prop) (za0 : Addr) (zp1 : Option Addr) (zn2 : Int) (n25 : Int) (n26 : Int) (n27 : Int) : Hp → Prop :=
  LOOPN [.i .i64, .i .i64, .i .i64] (fun ys next s => ∀ j : Tm, vc Pg W 41 rs_20 an_20 false (sub (bodyOf Try.f20) [1, 1, 1, 0, 1, 0, 0]) 0 (KLoop [2, 3, 15] [4, 5, 14, 41] [(.pointer (some za0)), (.pointer zp1), (.int .i64 zn2), (.tuple #[(.func (.func 45) #[] #[]), (.tuple #[(.pointer (some za0))])])] next (KBlk 0 (KS Pg W 41 rs_20 an_20 false (sub (bodyOf Try.f20) [1, 1, 1, 1]) 0 (fin Pg W 41 rv_20 R)))) (known [2, 3, 15] ys (known [4, 5, 14, 41] [(.pointer (some za0)), (.pointer zp1), (.int .i64 zn2), (.tuple #[(.func (.func 45) #[] #[]), (.tuple #[(.pointer (some za0))])])] j)) s) [(.int .i64 n25), (.int .i64 n26), (.int .i64 n27)]
def J_rank_Winners_0 (W : World) (R : Ending → Hp → Prop) (za0 : Addr) (zp1 : Option Addr) (zn2 : Int) (nx0 : List Value → Hp → Prop) (n41 : Int) (n42 : Int) (n27 : Int) : Hp → Prop :=
  NX [(.pointer (some za0)), (.pointer zp1), (.int .i64 zn2), (.tuple #[(.func (.func 45) #[] #[]), (.tuple #[(.pointer (some za0))])])] [(.pointer (some za0)), (.pointer zp1), (.int .i64 zn2), (.tuple #[(.func (.func 45) #[] #[]), (.tuple #[(.pointer (some za0))])])] (nx0 [(.int .i64 n41), (.int .i64 n42), (.int .i64 (IntKind.wrap .i64 (n27 + 1)))])
def J_rank_Winners_1 (W : World) (R : Ending → Hp → Prop) (B37 : Nat) (n27 : Int) (za0 : Addr) (zp1 : Option Addr) (zn2 : Int) (nx0 : List Value → Hp → Prop) (n39 : Int) (n26 : Int) : Hp → Prop :=
  RDI .i64 (Addr.add ⟨B37, 0, none⟩ 0) fun n40 =>
    BR (n40 == 1)
      (NNI n27 <|
        J_rank_Winners_0 W R za0 zp1 zn2 nx0 n39 (orv .i64 n26 (shlv .i64 1 n27)) n27)
      (J_rank_Winners_0 W R za0 zp1 zn2 nx0 n39 n26 n27)
def B_rank_Winners_0 (W : World) (R : Ending → Hp → Prop) (za0 : Addr) (zp1 : Option Addr) (zn2 : Int) (n25 : Int) (n26 : Int) (n27 : Int) (nx0 : List Value → Hp → Prop) : Hp → Prop :=
  BR (decide (n27 < zn2))
    (CALL Pg W F_rank_table_place [(.pointer zp1), (.iface 77 (.agg #[(.pointer zp1)])), (.int .i64 n27)]
      (fun v28 => AGG v28 fun q30 => HD q30 fun v31 r32 => TYI .i64 v31 fun n33 =>
        HD r32 fun v34 r35 => TYI .i64 v34 fun n36 =>
          NL r35 <|
            NEWZ Pg 29 fun B37 =>
              WR (Addr.add ⟨B37, 0, none⟩ 0) (.int .i64 n33) <|
                WR (Addr.add ⟨B37, 0, none⟩ 1) (.int .i64 n36) <|
                  RDI .i64 (Addr.add ⟨B37, 0, none⟩ 1) fun n38 =>
                    BR (n38 == 1)
                      (NNI n27 <|
                        J_rank_Winners_1 W R B37 n27 za0 zp1 zn2 nx0 (orv .i64 n25 (shlv .i64 1 n27)) n26)
                      (J_rank_Winners_1 W R B37 n27 za0 zp1 zn2 nx0 n25 n26))
        (fun e29 => DEF Pg W (.tuple #[(.func (.func 45) #[] #[]), (.tuple #[(.pointer (some za0))])]) (some e29) (RDI .i64 za0 fun n43 =>
          R (.returned (.tuple #[(.int .i64 n25), (.int .i64 n26), (.int .i64 n43)])))))
    (WR (Addr.add za0 0) (.int .i64 0) <|
      DEF Pg W (.tuple #[(.func (.func 45) #[] #[]), (.tuple #[(.pointer (some za0))])]) none
        (RDI .i64 za0 fun n44 =>
          R (.returned (.tuple #[(.int .i64 n25), (.int .i64 n26), (.int .i64 n44)]))))
theorem B_rank_Winners_0_eq (W : World) (R : Ending → Hp → Prop) (za0 : Addr) (zp1 : Option Addr) (zn2 : Int) (n25 : Int) (n26 : Int) (n27 : Int) (nx0 : List Value → Hp → Prop) (j : Tm) : vc Pg W 41 rs_20 an_20 false (sub (bodyOf Try.f20) [1, 1, 1, 0, 1, 0, 0]) 0 (KLoop [2, 3, 15] [4, 5, 14, 41] [(.pointer (some za0)), (.pointer zp1), (.int .i64 zn2), (.tuple #[(.func (.func 45) #[] #[]), (.tuple #[(.pointer (some za0))])])] nx0 (KBlk 0 (KS Pg W 41 rs_20 an_20 false (sub (bodyOf Try.f20) [1, 1, 1, 1]) 0 (fin Pg W 41 rv_20 R)))) (known [2, 3, 15] [(.int .i64 n25), (.int .i64 n26), (.int .i64 n27)] (known [4, 5, 14, 41] [(.pointer (some za0)), (.pointer zp1), (.int .i64 zn2), (.tuple #[(.func (.func 45) #[] #[]), (.tuple #[(.pointer (some za0))])])] j)) = B_rank_Winners_0 W R za0 zp1 zn2 n25 n26 n27 nx0 := by kernel_rfl
def N_rank_Winners_0 (I : Int → Int → Int → Hp → Prop) (μ : Int → Int → Int → Hp → Nat) (n250 : Int) (n260 : Int) (n270 : Int) (s : Hp) (vs : List Value) : Hp → Prop := fun s' => ∃ n25 n26 n27, vs = [(.int .i64 n25), (.int .i64 n26), (.int .i64 n27)] ∧ I n25 n26 n27 s' ∧ μ n25 n26 n27 s' < μ n250 n260 n270 s
theorem L_rank_Winners_0_rule (W : World) (R : Ending → Hp → Prop) (za0 : Addr) (zp1 : Option Addr) (zn2 : Int) (I : Int → Int → Int → Hp → Prop) (μ : Int → Int → Int → Hp → Nat) (n250 : Int) (n260 : Int) (n270 : Int) (s : Hp) (h0 : I n250 n260 n270 s)
    (hr : ∀ (n25 : Int) (n26 : Int) (n27 : Int) (s : Hp), I n25 n26 n27 s → B_rank_Winners_0 W R za0 zp1 zn2 n25 n26 n27 (fun vs => N_rank_Winners_0 I μ n25 n26 n27 s vs) s) : L_rank_Winners_0 W R za0 zp1 zn2 n250 n260 n270 s := by
  refine ⟨fun vs s => ∃ n25 n26 n27, vs = [(.int .i64 n25), (.int .i64 n26), (.int .i64 n27)] ∧ I n25 n26 n27 s, fun vs s => (match vs with | [.int _ n25, .int _ n26, .int _ n27] => μ n25 n26 n27 s | _ => 0), ⟨⟨⟨_, rfl⟩, ⟨⟨_, rfl⟩, ⟨⟨_, rfl⟩, trivial⟩⟩⟩, ⟨_, _, _, rfl, h0⟩⟩, ?_⟩
  intro n25 n26 n27 s hI j
  obtain ⟨n25', n26', n27', hy, hI⟩ := hI
  have hI' : I n25 n26 n27 s := by cases hy; exact hI
  have hh := hr n25 n26 n27 s hI'
  rw [← B_rank_Winners_0_eq W R za0 zp1 zn2 n25 n26 n27 _ j] at hh
  refine vc_mono ?_ _ _ hh
  exact KLoop_mono (fun vs s' h => by obtain ⟨n251, n261, n271, rfl, h1, h2⟩ := h; exact ⟨⟨⟨_, rfl⟩, ⟨⟨_, rfl⟩, ⟨⟨_, rfl⟩, trivial⟩⟩⟩, ⟨_, _, _, rfl, h1⟩, h2⟩)
def T_rank_Winners (W : World) (n1 : Int) (n2 : Int) (x3 : Option Addr) (l4 : Nat) (c5 : Nat) (x6 : Option Addr) (l7 : Nat) (c8 : Nat) (R : Ending → Hp → Prop) : Hp → Prop :=
  NEW 25 [(.int .i64 n1), (.int .i64 n2), (.slice x3 l4 c5), (.slice x6 l7 c8)] fun B9 =>
    NEWZ Pg 30 fun B10 =>
      RDI .i64 (Addr.add ⟨B9, 0, none⟩ 0) fun n11 =>
        RDI .i64 (Addr.add ⟨B9, 0, none⟩ 1) fun n12 =>
          RDL (Addr.add ⟨B9, 0, none⟩ 2) fun x13 l14 c15 =>
            RDL (Addr.add ⟨B9, 0, none⟩ 3) fun x16 l17 c18 =>
              CALL Pg W F_rank_open [(.agg #[(.int .i64 n11), (.int .i64 n12), (.slice x13 l14 c15), (.slice x16 l17 c18)])]
                (fun v19 => TYP v19 fun p21 =>
                  SO p21 fun a22 =>
                    RDI .i64 (Addr.add (Addr.add a22 0) 0) fun n23 =>
                      L_rank_Winners_0 W R ⟨B10, 0, none⟩ p21 n23 0 0 0)
                  (fun e20 => DEF Pg W (.tuple #[(.func (.func 45) #[] #[]), (.tuple #[(.pointer (some ⟨B10, 0, none⟩))])]) (some e20) (RDI .i64 ⟨B10, 0, none⟩ fun n24 =>
                    R (.returned (.tuple #[(.int .i64 0), (.int .i64 0), (.int .i64 n24)]))))
theorem T_rank_Winners_eq (W : World) (n1 : Int) (n2 : Int) (x3 : Option Addr) (l4 : Nat) (c5 : Nat) (x6 : Option Addr) (l7 : Nat) (c8 : Nat) (R : Ending → Hp → Prop) : vfun Pg W an_20 Try.f20 [(.agg #[(.int .i64 n1), (.int .i64 n2), (.slice x3 l4 c5), (.slice x6 l7 c8)])] R = T_rank_Winners W n1 n2 x3 l4 c5 x6 l7 c8 R := by kernel_rfl
theorem does_rank_Winners (W : World) (n1 : Int) (n2 : Int) (x3 : Option Addr) (l4 : Nat) (c5 : Nat) (x6 : Option Addr) (l7 : Nat) (c8 : Nat) (R : Ending → Hp → Prop) (s : Hp) (h : T_rank_Winners W n1 n2 x3 l4 c5 x6 l7 c8 R s) : Does Pg W F_rank_Winners #[(.agg #[(.int .i64 n1), (.int .i64 n2), (.slice x3 l4 c5), (.slice x6 l7 c8)])] s R :=
  does_of_vfun Pg W an_20 Try.func20 rfl (by kernel_rfl) (by rw [T_rank_Winners_eq]; exact h)
def an_22 : Nat → Ann := fun b => match b with
  | 0 => { ms := [6, 32], ks := [.b, .i .i64], us := [1, 2, 7, 8, 9, 31, 75], rt := false, ex := [] }
  | _ => {}
abbrev rv_22 : List ResultVar := [.tmp 6, .cell 7 30]
abbrev rs_22 : List Nat := [75, 6, 7]
def L_rank_Equal_0 (W : World) (R : Ending → Hp → Prop) (zn0 : Int) (zn1 : Int) (za2 : Addr) (zp3 : Option Addr) (zn4 : Int) (b40 : Bool) (n41 : Int) : Hp → Prop :=
  LOOPN [.b, .i .i64] (fun ys next s => ∀ j : Tm, vc Pg W 75 rs_22 an_22 false (sub (bodyOf Try.f22) [1, 1, 1, 1, 1, 0, 1, 0, 0]) 0 (KLoop [6, 32] [1, 2, 7, 8, 9, 31, 75] [(.int .i64 zn0), (.int .i64 zn1), (.pointer (some za2)), (.pointer zp3), (.func (.func 62) #[(.agg #[(.pointer zp3)])] #[]), (.int .i64 zn4), (.tuple #[(.func (.func 45) #[] #[]), (.tuple #[(.pointer (some za2))])])] next (KBlk 0 (KS Pg W 75 rs_22 an_22 false (sub (bodyOf Try.f22) [1, 1, 1, 1, 1, 1]) 0 (fin Pg W 75 rv_22 R)))) (known [6, 32] ys (known [1, 2, 7, 8, 9, 31, 75] [(.int .i64 zn0), (.int .i64 zn1), (.pointer (some za2)), (.pointer zp3), (.func (.func 62) #[(.agg #[(.pointer zp3)])] #[]), (.int .i64 zn4), (.tuple #[(.func (.func 45) #[] #[]), (.tuple #[(.pointer (some za2))])])] j)) s) [(.bool b40), (.int .i64 n41)]
def J_rank_Equal_0 (W : World) (R : Ending → Hp → Prop) (b30 : Bool) (p23 : Option Addr) (n9 : Int) (n10 : Int) (B12 : Nat) : Hp → Prop :=
  CALL Pg W F_rank_must [(.bool b30), (.int .i64 2)]
    (fun v31 => TUP v31 fun q33 => NL q33 <|
      SO p23 fun a34 =>
        RDI .i64 (Addr.add (Addr.add a34 0) 1) fun n35 =>
          L_rank_Equal_0 W R n9 n10 ⟨B12, 0, none⟩ p23 n35 false 0)
      (fun e32 => DEF Pg W (.tuple #[(.func (.func 45) #[] #[]), (.tuple #[(.pointer (some ⟨B12, 0, none⟩))])]) (some e32) (RDI .i64 ⟨B12, 0, none⟩ fun n36 =>
        R (.returned (.tuple #[(.bool false), (.int .i64 n36)]))))
def J_rank_Equal_1 (W : World) (R : Ending → Hp → Prop) (b64 : Bool) (za2 : Addr) (zn0 : Int) (zn1 : Int) (zp3 : Option Addr) (zn4 : Int) (nx0 : List Value → Hp → Prop) (b40 : Bool) (n41 : Int) : Hp → Prop :=
  BR b64
    (WR (Addr.add za2 0) (.int .i64 0) <|
      DEF Pg W (.tuple #[(.func (.func 45) #[] #[]), (.tuple #[(.pointer (some za2))])]) none
        (RDI .i64 za2 fun n65 =>
          R (.returned (.tuple #[(.bool false), (.int .i64 n65)]))))
    (NX [(.int .i64 zn0), (.int .i64 zn1), (.pointer (some za2)), (.pointer zp3), (.func (.func 62) #[(.agg #[(.pointer zp3)])] #[]), (.int .i64 zn4), (.tuple #[(.func (.func 45) #[] #[]), (.tuple #[(.pointer (some za2))])])] [(.int .i64 zn0), (.int .i64 zn1), (.pointer (some za2)), (.pointer zp3), (.func (.func 62) #[(.agg #[(.pointer zp3)])] #[]), (.int .i64 zn4), (.tuple #[(.func (.func 45) #[] #[]), (.tuple #[(.pointer (some za2))])])] (nx0 [(.bool b40), (.int .i64 (IntKind.wrap .i64 (n41 + 1)))]))
def B_rank_Equal_0 (W : World) (R : Ending → Hp → Prop) (zn0 : Int) (zn1 : Int) (za2 : Addr) (zp3 : Option Addr) (zn4 : Int) (b40 : Bool) (n41 : Int) (nx0 : List Value → Hp → Prop) : Hp → Prop :=
  BR (decide (n41 < zn4))
    (CALLV Pg W (.func (.func 62) #[(.agg #[(.pointer zp3)])] #[]) [(.agg #[(.int .i64 zn0), (.int .i64 n41)])]
      (fun v42 => AGG v42 fun q44 => HD q44 fun v45 r46 => TYI .i64 v45 fun n47 =>
        HD r46 fun v48 r49 => TYI .i64 v48 fun n50 =>
          NL r49 <|
            CALLV Pg W (.func (.func 62) #[(.agg #[(.pointer zp3)])] #[]) [(.agg #[(.int .i64 zn1), (.int .i64 n41)])]
              (fun v51 => AGG v51 fun q53 => HD q53 fun v54 r55 => TYI .i64 v54 fun n56 =>
                HD r55 fun v57 r58 => TYI .i64 v57 fun n59 =>
                  NL r58 <|
                    NEWZ Pg 29 fun B60 =>
                      NEWZ Pg 29 fun B61 =>
                        WR (Addr.add ⟨B60, 0, none⟩ 0) (.int .i64 n47) <|
                          WR (Addr.add ⟨B60, 0, none⟩ 1) (.int .i64 n50) <|
                            WR (Addr.add ⟨B61, 0, none⟩ 0) (.int .i64 n56) <|
                              WR (Addr.add ⟨B61, 0, none⟩ 1) (.int .i64 n59) <|
                                RDI .i64 (Addr.add ⟨B60, 0, none⟩ 0) fun n62 =>
                                  RDI .i64 (Addr.add ⟨B61, 0, none⟩ 1) fun n63 =>
                                    BR (decide (n62 > n63))
                                      (J_rank_Equal_1 W R true za2 zn0 zn1 zp3 zn4 nx0 b40 n41)
                                      (RDI .i64 (Addr.add ⟨B61, 0, none⟩ 0) fun n66 =>
                                        RDI .i64 (Addr.add ⟨B60, 0, none⟩ 1) fun n67 =>
                                          J_rank_Equal_1 W R (decide (n66 > n67)) za2 zn0 zn1 zp3 zn4 nx0 b40 n41))
                (fun e52 => DEF Pg W (.tuple #[(.func (.func 45) #[] #[]), (.tuple #[(.pointer (some za2))])]) (some e52) (RDI .i64 za2 fun n68 =>
                  R (.returned (.tuple #[(.bool b40), (.int .i64 n68)])))))
        (fun e43 => DEF Pg W (.tuple #[(.func (.func 45) #[] #[]), (.tuple #[(.pointer (some za2))])]) (some e43) (RDI .i64 za2 fun n69 =>
          R (.returned (.tuple #[(.bool b40), (.int .i64 n69)])))))
    (SO zp3 fun a70 =>
      RDL (Addr.add (Addr.add a70 0) 2) fun x71 l72 c73 =>
        IXS x71 l72 zn0 1 fun a74 =>
          RDI .i64 a74 fun n75 =>
            SO zp3 fun a76 =>
              RDL (Addr.add (Addr.add a76 0) 2) fun x77 l78 c79 =>
                IXS x77 l78 zn1 1 fun a80 =>
                  RDI .i64 a80 fun n81 =>
                    WR (Addr.add za2 0) (.int .i64 0) <|
                      DEF Pg W (.tuple #[(.func (.func 45) #[] #[]), (.tuple #[(.pointer (some za2))])]) none
                        (RDI .i64 za2 fun n82 =>
                          R (.returned (.tuple #[(.bool (n75 == n81)), (.int .i64 n82)]))))
theorem B_rank_Equal_0_eq (W : World) (R : Ending → Hp → Prop) (zn0 : Int) (zn1 : Int) (za2 : Addr) (zp3 : Option Addr) (zn4 : Int) (b40 : Bool) (n41 : Int) (nx0 : List Value → Hp → Prop) (j : Tm) : vc Pg W 75 rs_22 an_22 false (sub (bodyOf Try.f22) [1, 1, 1, 1, 1, 0, 1, 0, 0]) 0 (KLoop [6, 32] [1, 2, 7, 8, 9, 31, 75] [(.int .i64 zn0), (.int .i64 zn1), (.pointer (some za2)), (.pointer zp3), (.func (.func 62) #[(.agg #[(.pointer zp3)])] #[]), (.int .i64 zn4), (.tuple #[(.func (.func 45) #[] #[]), (.tuple #[(.pointer (some za2))])])] nx0 (KBlk 0 (KS Pg W 75 rs_22 an_22 false (sub (bodyOf Try.f22) [1, 1, 1, 1, 1, 1]) 0 (fin Pg W 75 rv_22 R)))) (known [6, 32] [(.bool b40), (.int .i64 n41)] (known [1, 2, 7, 8, 9, 31, 75] [(.int .i64 zn0), (.int .i64 zn1), (.pointer (some za2)), (.pointer zp3), (.func (.func 62) #[(.agg #[(.pointer zp3)])] #[]), (.int .i64 zn4), (.tuple #[(.func (.func 45) #[] #[]), (.tuple #[(.pointer (some za2))])])] j)) = B_rank_Equal_0 W R zn0 zn1 za2 zp3 zn4 b40 n41 nx0 := by kernel_rfl
def N_rank_Equal_0 (I : Bool → Int → Hp → Prop) (μ : Bool → Int → Hp → Nat) (b400 : Bool) (n410 : Int) (s : Hp) (vs : List Value) : Hp → Prop := fun s' => ∃ b40 n41, vs = [(.bool b40), (.int .i64 n41)] ∧ I b40 n41 s' ∧ μ b40 n41 s' < μ b400 n410 s
theorem L_rank_Equal_0_rule (W : World) (R : Ending → Hp → Prop) (zn0 : Int) (zn1 : Int) (za2 : Addr) (zp3 : Option Addr) (zn4 : Int) (I : Bool → Int → Hp → Prop) (μ : Bool → Int → Hp → Nat) (b400 : Bool) (n410 : Int) (s : Hp) (h0 : I b400 n410 s)
    (hr : ∀ (b40 : Bool) (n41 : Int) (s : Hp), I b40 n41 s → B_rank_Equal_0 W R zn0 zn1 za2 zp3 zn4 b40 n41 (fun vs => N_rank_Equal_0 I μ b40 n41 s vs) s) : L_rank_Equal_0 W R zn0 zn1 za2 zp3 zn4 b400 n410 s := by
  refine ⟨fun vs s => ∃ b40 n41, vs = [(.bool b40), (.int .i64 n41)] ∧ I b40 n41 s, fun vs s => (match vs with | [.bool b40, .int _ n41] => μ b40 n41 s | _ => 0), ⟨⟨⟨_, rfl⟩, ⟨⟨_, rfl⟩, trivial⟩⟩, ⟨_, _, rfl, h0⟩⟩, ?_⟩
  intro b40 n41 s hI j
  obtain ⟨b40', n41', hy, hI⟩ := hI
  have hI' : I b40 n41 s := by cases hy; exact hI
  have hh := hr b40 n41 s hI'
  rw [← B_rank_Equal_0_eq W R zn0 zn1 za2 zp3 zn4 b40 n41 _ j] at hh
  refine vc_mono ?_ _ _ hh
  exact KLoop_mono (fun vs s' h => by obtain ⟨b401, n411, rfl, h1, h2⟩ := h; exact ⟨⟨⟨_, rfl⟩, ⟨⟨_, rfl⟩, trivial⟩⟩, ⟨_, _, rfl, h1⟩, h2⟩)
def T_rank_Equal (W : World) (n1 : Int) (n2 : Int) (x3 : Option Addr) (l4 : Nat) (c5 : Nat) (x6 : Option Addr) (l7 : Nat) (c8 : Nat) (n9 : Int) (n10 : Int) (R : Ending → Hp → Prop) : Hp → Prop :=
  NEW 25 [(.int .i64 n1), (.int .i64 n2), (.slice x3 l4 c5), (.slice x6 l7 c8)] fun B11 =>
    NEWZ Pg 30 fun B12 =>
      RDI .i64 (Addr.add ⟨B11, 0, none⟩ 0) fun n13 =>
        RDI .i64 (Addr.add ⟨B11, 0, none⟩ 1) fun n14 =>
          RDL (Addr.add ⟨B11, 0, none⟩ 2) fun x15 l16 c17 =>
            RDL (Addr.add ⟨B11, 0, none⟩ 3) fun x18 l19 c20 =>
              CALL Pg W F_rank_open [(.agg #[(.int .i64 n13), (.int .i64 n14), (.slice x15 l16 c17), (.slice x18 l19 c20)])]
                (fun v21 => TYP v21 fun p23 =>
                  CALL Pg W F_rank_table_isMan [(.pointer p23), (.int .i64 n9)]
                    (fun v24 => TYB v24 fun b26 =>
                      BR b26
                        (CALL Pg W F_rank_table_isMan [(.pointer p23), (.int .i64 n10)]
                          (fun v27 => TYB v27 fun b29 =>
                            J_rank_Equal_0 W R b29 p23 n9 n10 B12)
                            (fun e28 => DEF Pg W (.tuple #[(.func (.func 45) #[] #[]), (.tuple #[(.pointer (some ⟨B12, 0, none⟩))])]) (some e28) (RDI .i64 ⟨B12, 0, none⟩ fun n37 =>
                              R (.returned (.tuple #[(.bool false), (.int .i64 n37)])))))
                        (J_rank_Equal_0 W R false p23 n9 n10 B12))
                      (fun e25 => DEF Pg W (.tuple #[(.func (.func 45) #[] #[]), (.tuple #[(.pointer (some ⟨B12, 0, none⟩))])]) (some e25) (RDI .i64 ⟨B12, 0, none⟩ fun n38 =>
                        R (.returned (.tuple #[(.bool false), (.int .i64 n38)])))))
                  (fun e22 => DEF Pg W (.tuple #[(.func (.func 45) #[] #[]), (.tuple #[(.pointer (some ⟨B12, 0, none⟩))])]) (some e22) (RDI .i64 ⟨B12, 0, none⟩ fun n39 =>
                    R (.returned (.tuple #[(.bool false), (.int .i64 n39)]))))
theorem T_rank_Equal_eq (W : World) (n1 : Int) (n2 : Int) (x3 : Option Addr) (l4 : Nat) (c5 : Nat) (x6 : Option Addr) (l7 : Nat) (c8 : Nat) (n9 : Int) (n10 : Int) (R : Ending → Hp → Prop) : vfun Pg W an_22 Try.f22 [(.agg #[(.int .i64 n1), (.int .i64 n2), (.slice x3 l4 c5), (.slice x6 l7 c8)]), (.int .i64 n9), (.int .i64 n10)] R = T_rank_Equal W n1 n2 x3 l4 c5 x6 l7 c8 n9 n10 R := by kernel_rfl
theorem does_rank_Equal (W : World) (n1 : Int) (n2 : Int) (x3 : Option Addr) (l4 : Nat) (c5 : Nat) (x6 : Option Addr) (l7 : Nat) (c8 : Nat) (n9 : Int) (n10 : Int) (R : Ending → Hp → Prop) (s : Hp) (h : T_rank_Equal W n1 n2 x3 l4 c5 x6 l7 c8 n9 n10 R s) : Does Pg W F_rank_Equal #[(.agg #[(.int .i64 n1), (.int .i64 n2), (.slice x3 l4 c5), (.slice x6 l7 c8)]), (.int .i64 n9), (.int .i64 n10)] s R :=
  does_of_vfun Pg W an_22 Try.func22 rfl (by kernel_rfl) (by rw [T_rank_Equal_eq]; exact h)
def an_25 : Nat → Ann := fun b => match b with
  | 0 => { ms := [], ks := [.i .u64], us := [], rt := true, ex := [] }
  | _ => {}
abbrev rv_25 : List ResultVar := [.cell 6 3, .cell 7 30]
abbrev rs_25 : List Nat := [50, 6, 7]
def J_rank_Could_0 (W : World) (R : Ending → Hp → Prop) (b38 : Bool) (B27 : Nat) (B12 : Nat) (B13 : Nat) (B14 : Nat) (B15 : Nat) : Hp → Prop :=
  CALL Pg W F_rank_must [(.bool b38), (.int .i64 2)]
    (fun v39 => TUP v39 fun q41 => NL q41 <|
      RDP ⟨B27, 0, none⟩ fun p42 =>
        RDP ⟨B27, 0, none⟩ fun p43 =>
          RDI .i64 ⟨B12, 0, none⟩ fun n44 =>
            RDI .i64 ⟨B13, 0, none⟩ fun n45 =>
              CALL Pg W F_rank_table_can [(.pointer p42), (.iface 77 (.agg #[(.pointer p43)])), (.int .i64 n44), (.int .i64 n45)]
                (fun v46 => TYB v46 fun b48 =>
                  CALL Pg W F_rank_must [(.bool b48), (.int .i64 4)]
                    (fun v49 => TUP v49 fun q51 => NL q51 <|
                      RDP ⟨B27, 0, none⟩ fun p52 =>
                        SO p52 fun a53 =>
                          RDI .i64 (Addr.add (Addr.add a53 0) 1) fun n54 =>
                            CALL Pg W F_rank_sets [(.int .i64 (IntKind.wrap .i64 (2 * n54)))]
                              (fun v55 => RNGN Pg W v55 1
                                (fun y57 fin58 => HD y57 fun v59 r60 => TYI .u64 v59 fun n61 =>
                                  NL r60 <|
                                    RDP ⟨B27, 0, none⟩ fun p62 =>
                                      RDP ⟨B27, 0, none⟩ fun p63 =>
                                        RDI .i64 ⟨B12, 0, none⟩ fun n64 =>
                                          RDI .i64 ⟨B13, 0, none⟩ fun n65 =>
                                            RDI .i64 ⟨B12, 0, none⟩ fun n66 =>
                                              RDI .i64 ⟨B13, 0, none⟩ fun n67 =>
                                                CALL Pg W F_rank_table_surely [(.pointer p62), (.iface 101 (.agg #[(.pointer p63), (.int .i64 n64), (.int .i64 n65), (.int .u64 n61)])), (.int .i64 n66), (.int .i64 n67)]
                                                  (fun v68 => TYB v68 fun b70 =>
                                                    BR b70
                                                      (WR (Addr.add ⟨B14, 0, none⟩ 0) (.int .i64 (IntKind.wrap .i64 n61)) <|
                                                        WR (Addr.add ⟨B15, 0, none⟩ 0) (.int .i64 0) <|
                                                          fin58 (some .ret))
                                                      (fin58 none))
                                                    (fun e69 => FF))
                                (AFT
                                  (WR (Addr.add ⟨B14, 0, none⟩ 0) (.int .i64 0) <|
                                    WR (Addr.add ⟨B15, 0, none⟩ 0) (.int .i64 4) <|
                                      DEF Pg W (.tuple #[(.func (.func 45) #[] #[]), (.tuple #[(.pointer (some ⟨B15, 0, none⟩))])]) none
                                        (RDI .i64 ⟨B14, 0, none⟩ fun n71 =>
                                          RDI .i64 ⟨B15, 0, none⟩ fun n72 =>
                                            R (.returned (.tuple #[(.int .i64 n71), (.int .i64 n72)])))) (DEF Pg W (.tuple #[(.func (.func 45) #[] #[]), (.tuple #[(.pointer (some ⟨B15, 0, none⟩))])]) none
                                  (RDI .i64 ⟨B14, 0, none⟩ fun n73 =>
                                    RDI .i64 ⟨B15, 0, none⟩ fun n74 =>
                                      R (.returned (.tuple #[(.int .i64 n73), (.int .i64 n74)])))) (EXL [] fun _ => FF)))
                                (fun e56 => DEF Pg W (.tuple #[(.func (.func 45) #[] #[]), (.tuple #[(.pointer (some ⟨B15, 0, none⟩))])]) (some e56) (RDI .i64 ⟨B14, 0, none⟩ fun n75 =>
                                  RDI .i64 ⟨B15, 0, none⟩ fun n76 =>
                                    R (.returned (.tuple #[(.int .i64 n75), (.int .i64 n76)])))))
                      (fun e50 => DEF Pg W (.tuple #[(.func (.func 45) #[] #[]), (.tuple #[(.pointer (some ⟨B15, 0, none⟩))])]) (some e50) (RDI .i64 ⟨B14, 0, none⟩ fun n77 =>
                        RDI .i64 ⟨B15, 0, none⟩ fun n78 =>
                          R (.returned (.tuple #[(.int .i64 n77), (.int .i64 n78)])))))
                  (fun e47 => DEF Pg W (.tuple #[(.func (.func 45) #[] #[]), (.tuple #[(.pointer (some ⟨B15, 0, none⟩))])]) (some e47) (RDI .i64 ⟨B14, 0, none⟩ fun n79 =>
                    RDI .i64 ⟨B15, 0, none⟩ fun n80 =>
                      R (.returned (.tuple #[(.int .i64 n79), (.int .i64 n80)])))))
      (fun e40 => DEF Pg W (.tuple #[(.func (.func 45) #[] #[]), (.tuple #[(.pointer (some ⟨B15, 0, none⟩))])]) (some e40) (RDI .i64 ⟨B14, 0, none⟩ fun n81 =>
        RDI .i64 ⟨B15, 0, none⟩ fun n82 =>
          R (.returned (.tuple #[(.int .i64 n81), (.int .i64 n82)]))))
def T_rank_Could (W : World) (n1 : Int) (n2 : Int) (x3 : Option Addr) (l4 : Nat) (c5 : Nat) (x6 : Option Addr) (l7 : Nat) (c8 : Nat) (n9 : Int) (n10 : Int) (R : Ending → Hp → Prop) : Hp → Prop :=
  NEW 25 [(.int .i64 n1), (.int .i64 n2), (.slice x3 l4 c5), (.slice x6 l7 c8)] fun B11 =>
    NEW 3 [(.int .i64 n9)] fun B12 =>
      NEW 3 [(.int .i64 n10)] fun B13 =>
        NEWZ Pg 3 fun B14 =>
          NEWZ Pg 30 fun B15 =>
            RDI .i64 (Addr.add ⟨B11, 0, none⟩ 0) fun n16 =>
              RDI .i64 (Addr.add ⟨B11, 0, none⟩ 1) fun n17 =>
                RDL (Addr.add ⟨B11, 0, none⟩ 2) fun x18 l19 c20 =>
                  RDL (Addr.add ⟨B11, 0, none⟩ 3) fun x21 l22 c23 =>
                    CALL Pg W F_rank_open [(.agg #[(.int .i64 n16), (.int .i64 n17), (.slice x18 l19 c20), (.slice x21 l22 c23)])]
                      (fun v24 => TYP v24 fun p26 =>
                        NEWZ Pg 70 fun B27 =>
                          WR (Addr.add ⟨B27, 0, none⟩ 0) (.pointer p26) <|
                            RDP ⟨B27, 0, none⟩ fun p28 =>
                              RDI .i64 ⟨B12, 0, none⟩ fun n29 =>
                                CALL Pg W F_rank_table_isMan [(.pointer p28), (.int .i64 n29)]
                                  (fun v30 => TYB v30 fun b32 =>
                                    BR b32
                                      (RDP ⟨B27, 0, none⟩ fun p33 =>
                                        RDI .i64 ⟨B13, 0, none⟩ fun n34 =>
                                          CALL Pg W F_rank_table_isMan [(.pointer p33), (.int .i64 n34)]
                                            (fun v35 => TYB v35 fun b37 =>
                                              J_rank_Could_0 W R b37 B27 B12 B13 B14 B15)
                                              (fun e36 => DEF Pg W (.tuple #[(.func (.func 45) #[] #[]), (.tuple #[(.pointer (some ⟨B15, 0, none⟩))])]) (some e36) (RDI .i64 ⟨B14, 0, none⟩ fun n83 =>
                                                RDI .i64 ⟨B15, 0, none⟩ fun n84 =>
                                                  R (.returned (.tuple #[(.int .i64 n83), (.int .i64 n84)])))))
                                      (J_rank_Could_0 W R false B27 B12 B13 B14 B15))
                                    (fun e31 => DEF Pg W (.tuple #[(.func (.func 45) #[] #[]), (.tuple #[(.pointer (some ⟨B15, 0, none⟩))])]) (some e31) (RDI .i64 ⟨B14, 0, none⟩ fun n85 =>
                                      RDI .i64 ⟨B15, 0, none⟩ fun n86 =>
                                        R (.returned (.tuple #[(.int .i64 n85), (.int .i64 n86)])))))
                        (fun e25 => DEF Pg W (.tuple #[(.func (.func 45) #[] #[]), (.tuple #[(.pointer (some ⟨B15, 0, none⟩))])]) (some e25) (RDI .i64 ⟨B14, 0, none⟩ fun n87 =>
                          RDI .i64 ⟨B15, 0, none⟩ fun n88 =>
                            R (.returned (.tuple #[(.int .i64 n87), (.int .i64 n88)]))))
theorem T_rank_Could_eq (W : World) (n1 : Int) (n2 : Int) (x3 : Option Addr) (l4 : Nat) (c5 : Nat) (x6 : Option Addr) (l7 : Nat) (c8 : Nat) (n9 : Int) (n10 : Int) (R : Ending → Hp → Prop) : vfun Pg W an_25 Try.f25 [(.agg #[(.int .i64 n1), (.int .i64 n2), (.slice x3 l4 c5), (.slice x6 l7 c8)]), (.int .i64 n9), (.int .i64 n10)] R = T_rank_Could W n1 n2 x3 l4 c5 x6 l7 c8 n9 n10 R := by kernel_rfl
theorem does_rank_Could (W : World) (n1 : Int) (n2 : Int) (x3 : Option Addr) (l4 : Nat) (c5 : Nat) (x6 : Option Addr) (l7 : Nat) (c8 : Nat) (n9 : Int) (n10 : Int) (R : Ending → Hp → Prop) (s : Hp) (h : T_rank_Could W n1 n2 x3 l4 c5 x6 l7 c8 n9 n10 R s) : Does Pg W F_rank_Could #[(.agg #[(.int .i64 n1), (.int .i64 n2), (.slice x3 l4 c5), (.slice x6 l7 c8)]), (.int .i64 n9), (.int .i64 n10)] s R :=
  does_of_vfun Pg W an_25 Try.func25 rfl (by kernel_rfl) (by rw [T_rank_Could_eq]; exact h)
def an_27 : Nat → Ann := fun b => match b with
  | 0 => { ms := [8, 13], ks := [.i .i64, .i .i64], us := [1, 3, 9, 10, 11, 12, 67], rt := false, ex := [] }
  | _ => {}
abbrev rv_27 : List ResultVar := [.tmp 8, .cell 9 30]
abbrev rs_27 : List Nat := [67, 8, 9]
def L_rank_Need_0 (W : World) (R : Ending → Hp → Prop) (zn0 : Int) (zn1 : Int) (za2 : Addr) (zp3 : Option Addr) (za4 : Addr) (za5 : Addr) (n61 : Int) (n62 : Int) : Hp → Prop :=
  LOOPN [.i .i64, .i .i64] (fun ys next s => ∀ j : Tm, vc Pg W 67 rs_27 an_27 false (sub (bodyOf Try.f27) [1, 1, 1, 1, 1, 1, 0, 1, 0, 0]) 0 (KLoop [8, 13] [1, 3, 9, 10, 11, 12, 67] [(.int .i64 zn0), (.int .i64 zn1), (.pointer (some za2)), (.pointer zp3), (.pointer (some za4)), (.pointer (some za5)), (.tuple #[(.func (.func 45) #[] #[]), (.tuple #[(.pointer (some za2))])])] next (KBlk 0 (KS Pg W 67 rs_27 an_27 false (sub (bodyOf Try.f27) [1, 1, 1, 1, 1, 1, 1]) 0 (fin Pg W 67 rv_27 R)))) (known [8, 13] ys (known [1, 3, 9, 10, 11, 12, 67] [(.int .i64 zn0), (.int .i64 zn1), (.pointer (some za2)), (.pointer zp3), (.pointer (some za4)), (.pointer (some za5)), (.tuple #[(.func (.func 45) #[] #[]), (.tuple #[(.pointer (some za2))])])] j)) s) [(.int .i64 n61), (.int .i64 n62)]
def J_rank_Need_0 (W : World) (R : Ending → Hp → Prop) (b37 : Bool) (n9 : Int) (n10 : Int) (p24 : Option Addr) (n11 : Int) (B13 : Nat) : Hp → Prop :=
  CALL Pg W F_rank_must [(.bool b37), (.int .i64 2)]
    (fun v38 => TUP v38 fun q40 => NL q40 <|
      NEWZ Pg 94 fun B41 =>
        WR (Addr.add ⟨B41, 0, none⟩ 0) (.int .i64 n9) <|
          WR (Addr.add ⟨B41, 0, none⟩ 1) (.int .i64 n10) <|
            RDI .i64 (Addr.add ⟨B41, 0, none⟩ 0) fun n42 =>
              RDI .i64 (Addr.add ⟨B41, 0, none⟩ 1) fun n43 =>
                CALL Pg W F_rank_plain_of [(.agg #[(.pointer p24)]), (.agg #[(.int .i64 n42), (.int .i64 n43)])]
                  (fun v44 => AGG v44 fun q46 => HD q46 fun v47 r48 => TYI .i64 v47 fun n49 =>
                    HD r48 fun v50 r51 => TYI .i64 v50 fun n52 =>
                      NL r51 <|
                        NEWZ Pg 29 fun B53 =>
                          WR (Addr.add ⟨B53, 0, none⟩ 0) (.int .i64 n49) <|
                            WR (Addr.add ⟨B53, 0, none⟩ 1) (.int .i64 n52) <|
                              RDI .i64 (Addr.add ⟨B53, 0, none⟩ 0) fun n54 =>
                                L_rank_Need_0 W R n9 n11 ⟨B13, 0, none⟩ p24 ⟨B41, 0, none⟩ ⟨B53, 0, none⟩ 0 n54)
                    (fun e45 => DEF Pg W (.tuple #[(.func (.func 45) #[] #[]), (.tuple #[(.pointer (some ⟨B13, 0, none⟩))])]) (some e45) (RDI .i64 ⟨B13, 0, none⟩ fun n55 =>
                      R (.returned (.tuple #[(.int .i64 0), (.int .i64 n55)])))))
      (fun e39 => DEF Pg W (.tuple #[(.func (.func 45) #[] #[]), (.tuple #[(.pointer (some ⟨B13, 0, none⟩))])]) (some e39) (RDI .i64 ⟨B13, 0, none⟩ fun n56 =>
        R (.returned (.tuple #[(.int .i64 0), (.int .i64 n56)]))))
def J_rank_Need_1 (W : World) (R : Ending → Hp → Prop) (b31 : Bool) (p24 : Option Addr) (n11 : Int) (n9 : Int) (n10 : Int) (B13 : Nat) : Hp → Prop :=
  BR b31
    (SO p24 fun a32 =>
      RDI .i64 (Addr.add (Addr.add a32 0) 0) fun n33 =>
        CALL Pg W F_rank_within [(.int .i64 n11), (.int .i64 1), (.int .i64 n33)]
          (fun v34 => TYB v34 fun b36 =>
            J_rank_Need_0 W R b36 n9 n10 p24 n11 B13)
            (fun e35 => DEF Pg W (.tuple #[(.func (.func 45) #[] #[]), (.tuple #[(.pointer (some ⟨B13, 0, none⟩))])]) (some e35) (RDI .i64 ⟨B13, 0, none⟩ fun n57 =>
              R (.returned (.tuple #[(.int .i64 0), (.int .i64 n57)])))))
    (J_rank_Need_0 W R false n9 n10 p24 n11 B13)
def B_rank_Need_0 (W : World) (R : Ending → Hp → Prop) (zn0 : Int) (zn1 : Int) (za2 : Addr) (zp3 : Option Addr) (za4 : Addr) (za5 : Addr) (n61 : Int) (n62 : Int) (nx0 : List Value → Hp → Prop) : Hp → Prop :=
  RDI .i64 (Addr.add za5 1) fun n63 =>
    BR (decide (n62 ≤ n63))
      (SO zp3 fun a64 =>
        RDM (Addr.add a64 4) fun m65 =>
          RDI .i64 (Addr.add za4 0) fun n66 =>
            RDI .i64 (Addr.add za4 1) fun n67 =>
              MUP Pg 89 (.map m65) (.agg #[(.int .i64 n66), (.int .i64 n67)]) (.agg #[(.int .i64 n62), (.int .i64 n62)]) <|
                CALL Pg W F_rank_table_place [(.pointer zp3), (.iface 77 (.agg #[(.pointer zp3)])), (.int .i64 zn0)]
                  (fun v68 => AGG v68 fun q70 => HD q70 fun v71 r72 => TYI .i64 v71 fun n73 =>
                    HD r72 fun v74 r75 => TYI .i64 v74 fun n76 =>
                      NL r75 <|
                        BR (decide (n76 ≤ zn1))
                          (WR (Addr.add za2 0) (.int .i64 0) <|
                            DEF Pg W (.tuple #[(.func (.func 45) #[] #[]), (.tuple #[(.pointer (some za2))])]) none
                              (RDI .i64 za2 fun n77 =>
                                R (.returned (.tuple #[(.int .i64 n62), (.int .i64 n77)]))))
                          (NX [(.int .i64 zn0), (.int .i64 zn1), (.pointer (some za2)), (.pointer zp3), (.pointer (some za4)), (.pointer (some za5)), (.tuple #[(.func (.func 45) #[] #[]), (.tuple #[(.pointer (some za2))])])] [(.int .i64 zn0), (.int .i64 zn1), (.pointer (some za2)), (.pointer zp3), (.pointer (some za4)), (.pointer (some za5)), (.tuple #[(.func (.func 45) #[] #[]), (.tuple #[(.pointer (some za2))])])] (nx0 [(.int .i64 n61), (.int .i64 (IntKind.wrap .i64 (n62 + 1)))])))
                    (fun e69 => DEF Pg W (.tuple #[(.func (.func 45) #[] #[]), (.tuple #[(.pointer (some za2))])]) (some e69) (RDI .i64 za2 fun n78 =>
                      R (.returned (.tuple #[(.int .i64 n61), (.int .i64 n78)])))))
      (WR (Addr.add za2 0) (.int .i64 4) <|
        DEF Pg W (.tuple #[(.func (.func 45) #[] #[]), (.tuple #[(.pointer (some za2))])]) none
          (RDI .i64 za2 fun n79 =>
            R (.returned (.tuple #[(.int .i64 0), (.int .i64 n79)]))))
theorem B_rank_Need_0_eq (W : World) (R : Ending → Hp → Prop) (zn0 : Int) (zn1 : Int) (za2 : Addr) (zp3 : Option Addr) (za4 : Addr) (za5 : Addr) (n61 : Int) (n62 : Int) (nx0 : List Value → Hp → Prop) (j : Tm) : vc Pg W 67 rs_27 an_27 false (sub (bodyOf Try.f27) [1, 1, 1, 1, 1, 1, 0, 1, 0, 0]) 0 (KLoop [8, 13] [1, 3, 9, 10, 11, 12, 67] [(.int .i64 zn0), (.int .i64 zn1), (.pointer (some za2)), (.pointer zp3), (.pointer (some za4)), (.pointer (some za5)), (.tuple #[(.func (.func 45) #[] #[]), (.tuple #[(.pointer (some za2))])])] nx0 (KBlk 0 (KS Pg W 67 rs_27 an_27 false (sub (bodyOf Try.f27) [1, 1, 1, 1, 1, 1, 1]) 0 (fin Pg W 67 rv_27 R)))) (known [8, 13] [(.int .i64 n61), (.int .i64 n62)] (known [1, 3, 9, 10, 11, 12, 67] [(.int .i64 zn0), (.int .i64 zn1), (.pointer (some za2)), (.pointer zp3), (.pointer (some za4)), (.pointer (some za5)), (.tuple #[(.func (.func 45) #[] #[]), (.tuple #[(.pointer (some za2))])])] j)) = B_rank_Need_0 W R zn0 zn1 za2 zp3 za4 za5 n61 n62 nx0 := by kernel_rfl
def N_rank_Need_0 (I : Int → Int → Hp → Prop) (μ : Int → Int → Hp → Nat) (n610 : Int) (n620 : Int) (s : Hp) (vs : List Value) : Hp → Prop := fun s' => ∃ n61 n62, vs = [(.int .i64 n61), (.int .i64 n62)] ∧ I n61 n62 s' ∧ μ n61 n62 s' < μ n610 n620 s
theorem L_rank_Need_0_rule (W : World) (R : Ending → Hp → Prop) (zn0 : Int) (zn1 : Int) (za2 : Addr) (zp3 : Option Addr) (za4 : Addr) (za5 : Addr) (I : Int → Int → Hp → Prop) (μ : Int → Int → Hp → Nat) (n610 : Int) (n620 : Int) (s : Hp) (h0 : I n610 n620 s)
    (hr : ∀ (n61 : Int) (n62 : Int) (s : Hp), I n61 n62 s → B_rank_Need_0 W R zn0 zn1 za2 zp3 za4 za5 n61 n62 (fun vs => N_rank_Need_0 I μ n61 n62 s vs) s) : L_rank_Need_0 W R zn0 zn1 za2 zp3 za4 za5 n610 n620 s := by
  refine ⟨fun vs s => ∃ n61 n62, vs = [(.int .i64 n61), (.int .i64 n62)] ∧ I n61 n62 s, fun vs s => (match vs with | [.int _ n61, .int _ n62] => μ n61 n62 s | _ => 0), ⟨⟨⟨_, rfl⟩, ⟨⟨_, rfl⟩, trivial⟩⟩, ⟨_, _, rfl, h0⟩⟩, ?_⟩
  intro n61 n62 s hI j
  obtain ⟨n61', n62', hy, hI⟩ := hI
  have hI' : I n61 n62 s := by cases hy; exact hI
  have hh := hr n61 n62 s hI'
  rw [← B_rank_Need_0_eq W R zn0 zn1 za2 zp3 za4 za5 n61 n62 _ j] at hh
  refine vc_mono ?_ _ _ hh
  exact KLoop_mono (fun vs s' h => by obtain ⟨n611, n621, rfl, h1, h2⟩ := h; exact ⟨⟨⟨_, rfl⟩, ⟨⟨_, rfl⟩, trivial⟩⟩, ⟨_, _, rfl, h1⟩, h2⟩)
def T_rank_Need (W : World) (n1 : Int) (n2 : Int) (x3 : Option Addr) (l4 : Nat) (c5 : Nat) (x6 : Option Addr) (l7 : Nat) (c8 : Nat) (n9 : Int) (n10 : Int) (n11 : Int) (R : Ending → Hp → Prop) : Hp → Prop :=
  NEW 25 [(.int .i64 n1), (.int .i64 n2), (.slice x3 l4 c5), (.slice x6 l7 c8)] fun B12 =>
    NEWZ Pg 30 fun B13 =>
      RDI .i64 (Addr.add ⟨B12, 0, none⟩ 0) fun n14 =>
        RDI .i64 (Addr.add ⟨B12, 0, none⟩ 1) fun n15 =>
          RDL (Addr.add ⟨B12, 0, none⟩ 2) fun x16 l17 c18 =>
            RDL (Addr.add ⟨B12, 0, none⟩ 3) fun x19 l20 c21 =>
              CALL Pg W F_rank_open [(.agg #[(.int .i64 n14), (.int .i64 n15), (.slice x16 l17 c18), (.slice x19 l20 c21)])]
                (fun v22 => TYP v22 fun p24 =>
                  CALL Pg W F_rank_table_isMan [(.pointer p24), (.int .i64 n9)]
                    (fun v25 => TYB v25 fun b27 =>
                      BR b27
                        (CALL Pg W F_rank_table_isSheet [(.pointer p24), (.int .i64 n10)]
                          (fun v28 => TYB v28 fun b30 =>
                            J_rank_Need_1 W R b30 p24 n11 n9 n10 B13)
                            (fun e29 => DEF Pg W (.tuple #[(.func (.func 45) #[] #[]), (.tuple #[(.pointer (some ⟨B13, 0, none⟩))])]) (some e29) (RDI .i64 ⟨B13, 0, none⟩ fun n58 =>
                              R (.returned (.tuple #[(.int .i64 0), (.int .i64 n58)])))))
                        (J_rank_Need_1 W R false p24 n11 n9 n10 B13))
                      (fun e26 => DEF Pg W (.tuple #[(.func (.func 45) #[] #[]), (.tuple #[(.pointer (some ⟨B13, 0, none⟩))])]) (some e26) (RDI .i64 ⟨B13, 0, none⟩ fun n59 =>
                        R (.returned (.tuple #[(.int .i64 0), (.int .i64 n59)])))))
                  (fun e23 => DEF Pg W (.tuple #[(.func (.func 45) #[] #[]), (.tuple #[(.pointer (some ⟨B13, 0, none⟩))])]) (some e23) (RDI .i64 ⟨B13, 0, none⟩ fun n60 =>
                    R (.returned (.tuple #[(.int .i64 0), (.int .i64 n60)]))))
theorem T_rank_Need_eq (W : World) (n1 : Int) (n2 : Int) (x3 : Option Addr) (l4 : Nat) (c5 : Nat) (x6 : Option Addr) (l7 : Nat) (c8 : Nat) (n9 : Int) (n10 : Int) (n11 : Int) (R : Ending → Hp → Prop) : vfun Pg W an_27 Try.f27 [(.agg #[(.int .i64 n1), (.int .i64 n2), (.slice x3 l4 c5), (.slice x6 l7 c8)]), (.int .i64 n9), (.int .i64 n10), (.int .i64 n11)] R = T_rank_Need W n1 n2 x3 l4 c5 x6 l7 c8 n9 n10 n11 R := by kernel_rfl
theorem does_rank_Need (W : World) (n1 : Int) (n2 : Int) (x3 : Option Addr) (l4 : Nat) (c5 : Nat) (x6 : Option Addr) (l7 : Nat) (c8 : Nat) (n9 : Int) (n10 : Int) (n11 : Int) (R : Ending → Hp → Prop) (s : Hp) (h : T_rank_Need W n1 n2 x3 l4 c5 x6 l7 c8 n9 n10 n11 R s) : Does Pg W F_rank_Need #[(.agg #[(.int .i64 n1), (.int .i64 n2), (.slice x3 l4 c5), (.slice x6 l7 c8)]), (.int .i64 n9), (.int .i64 n10), (.int .i64 n11)] s R :=
  does_of_vfun Pg W an_27 Try.func27 rfl (by kernel_rfl) (by rw [T_rank_Need_eq]; exact h)
def an_29 : Nat → Ann := fun b => match b with
  | 0 => { ms := [17], ks := [.i .i64], us := [2, 3, 4, 5, 16, 36], rt := false, ex := [] }
  | 2 => { ms := [2], ks := [.l], us := [3, 5, 7, 36], rt := false, ex := [] }
  | _ => {}
abbrev rv_29 : List ResultVar := [.tmp 2, .cell 3 30]
abbrev rs_29 : List Nat := [36, 2, 3]
def L_rank_Order_0 (W : World) (R : Ending → Hp → Prop) (za0 : Addr) (za1 : Addr) (za2 : Addr) (zn3 : Int) (n29 : Int) : Hp → Prop :=
  LOOPN [.i .i64] (fun ys next s => ∀ j : Tm, vc Pg W 36 rs_29 an_29 false (sub (bodyOf Try.f29) [1, 1, 1, 1, 0, 1, 0, 0]) 0 (KLoop [17] [2, 3, 4, 5, 16, 36] [(.slice none 0 0), (.pointer (some za0)), (.pointer (some za1)), (.pointer (some za2)), (.int .i64 zn3), (.tuple #[(.func (.func 45) #[] #[]), (.tuple #[(.pointer (some za0))])])] next (KBlk 0 (KS Pg W 36 rs_29 an_29 false (sub (bodyOf Try.f29) [1, 1, 1, 1, 1]) 0 (fin Pg W 36 rv_29 R)))) (known [17] ys (known [2, 3, 4, 5, 16, 36] [(.slice none 0 0), (.pointer (some za0)), (.pointer (some za1)), (.pointer (some za2)), (.int .i64 zn3), (.tuple #[(.func (.func 45) #[] #[]), (.tuple #[(.pointer (some za0))])])] j)) s) [(.int .i64 n29)]
def L_rank_Order_1 (W : World) (R : Ending → Hp → Prop) (za0 : Addr) (za1 : Addr) (za2 : Addr) (x31 : Option Addr) (l32 : Nat) (c33 : Nat) : Hp → Prop :=
  LOOPN [.l] (fun ys next s => ∀ j : Tm, vc Pg W 36 rs_29 an_29 false (sub (bodyOf Try.f29) [1, 1, 1, 1, 1, 1, 0, 0, 0]) 2 (KLoop [2] [3, 5, 7, 36] [(.pointer (some za0)), (.pointer (some za1)), (.func (.func 69) #[] #[(.pointer (some za2)), (.pointer (some za1))]), (.tuple #[(.func (.func 45) #[] #[]), (.tuple #[(.pointer (some za0))])])] next (KBlk 2 (KS Pg W 36 rs_29 an_29 false (sub (bodyOf Try.f29) [1, 1, 1, 1, 1, 1, 1]) 0 (fin Pg W 36 rv_29 R)))) (known [2] ys (known [3, 5, 7, 36] [(.pointer (some za0)), (.pointer (some za1)), (.func (.func 69) #[] #[(.pointer (some za2)), (.pointer (some za1))]), (.tuple #[(.func (.func 45) #[] #[]), (.tuple #[(.pointer (some za0))])])] j)) s) [(.slice x31 l32 c33)]
def B_rank_Order_0 (W : World) (R : Ending → Hp → Prop) (za0 : Addr) (za1 : Addr) (za2 : Addr) (zn3 : Int) (n29 : Int) (nx0 : List Value → Hp → Prop) : Hp → Prop :=
  BR (decide (n29 < zn3))
    (RDM za2 fun m30 =>
      MUP Pg 102 (.map m30) (.int .i64 n29) (.bool true) <|
        NX [(.slice none 0 0), (.pointer (some za0)), (.pointer (some za1)), (.pointer (some za2)), (.int .i64 zn3), (.tuple #[(.func (.func 45) #[] #[]), (.tuple #[(.pointer (some za0))])])] [(.slice none 0 0), (.pointer (some za0)), (.pointer (some za1)), (.pointer (some za2)), (.int .i64 zn3), (.tuple #[(.func (.func 45) #[] #[]), (.tuple #[(.pointer (some za0))])])] (nx0 [(.int .i64 (IntKind.wrap .i64 (n29 + 1)))]))
    (L_rank_Order_1 W R za0 za2 za1 none 0 0)
theorem B_rank_Order_0_eq (W : World) (R : Ending → Hp → Prop) (za0 : Addr) (za1 : Addr) (za2 : Addr) (zn3 : Int) (n29 : Int) (nx0 : List Value → Hp → Prop) (j : Tm) : vc Pg W 36 rs_29 an_29 false (sub (bodyOf Try.f29) [1, 1, 1, 1, 0, 1, 0, 0]) 0 (KLoop [17] [2, 3, 4, 5, 16, 36] [(.slice none 0 0), (.pointer (some za0)), (.pointer (some za1)), (.pointer (some za2)), (.int .i64 zn3), (.tuple #[(.func (.func 45) #[] #[]), (.tuple #[(.pointer (some za0))])])] nx0 (KBlk 0 (KS Pg W 36 rs_29 an_29 false (sub (bodyOf Try.f29) [1, 1, 1, 1, 1]) 0 (fin Pg W 36 rv_29 R)))) (known [17] [(.int .i64 n29)] (known [2, 3, 4, 5, 16, 36] [(.slice none 0 0), (.pointer (some za0)), (.pointer (some za1)), (.pointer (some za2)), (.int .i64 zn3), (.tuple #[(.func (.func 45) #[] #[]), (.tuple #[(.pointer (some za0))])])] j)) = B_rank_Order_0 W R za0 za1 za2 zn3 n29 nx0 := by kernel_rfl
def N_rank_Order_0 (I : Int → Hp → Prop) (μ : Int → Hp → Nat) (n290 : Int) (s : Hp) (vs : List Value) : Hp → Prop := fun s' => ∃ n29, vs = [(.int .i64 n29)] ∧ I n29 s' ∧ μ n29 s' < μ n290 s
theorem L_rank_Order_0_rule (W : World) (R : Ending → Hp → Prop) (za0 : Addr) (za1 : Addr) (za2 : Addr) (zn3 : Int) (I : Int → Hp → Prop) (μ : Int → Hp → Nat) (n290 : Int) (s : Hp) (h0 : I n290 s)
    (hr : ∀ (n29 : Int) (s : Hp), I n29 s → B_rank_Order_0 W R za0 za1 za2 zn3 n29 (fun vs => N_rank_Order_0 I μ n29 s vs) s) : L_rank_Order_0 W R za0 za1 za2 zn3 n290 s := by
  refine ⟨fun vs s => ∃ n29, vs = [(.int .i64 n29)] ∧ I n29 s, fun vs s => (match vs with | [.int _ n29] => μ n29 s | _ => 0), ⟨⟨⟨_, rfl⟩, trivial⟩, ⟨_, rfl, h0⟩⟩, ?_⟩
  intro n29 s hI j
  obtain ⟨n29', hy, hI⟩ := hI
  have hI' : I n29 s := by cases hy; exact hI
  have hh := hr n29 s hI'
  rw [← B_rank_Order_0_eq W R za0 za1 za2 zn3 n29 _ j] at hh
  refine vc_mono ?_ _ _ hh
  exact KLoop_mono (fun vs s' h => by obtain ⟨n291, rfl, h1, h2⟩ := h; exact ⟨⟨⟨_, rfl⟩, trivial⟩, ⟨_, rfl, h1⟩, h2⟩)
def B_rank_Order_1 (W : World) (R : Ending → Hp → Prop) (za0 : Addr) (za1 : Addr) (za2 : Addr) (x31 : Option Addr) (l32 : Nat) (c33 : Nat) (nx1 : List Value → Hp → Prop) : Hp → Prop :=
  RDM za1 fun m34 =>
    LNM m34 fun l35 =>
      BR (decide ((↑l35 : Int) > 0))
        (CALLV Pg W (.func (.func 69) #[] #[(.pointer (some za2)), (.pointer (some za1))]) []
          (fun v36 => TYI .i64 v36 fun n38 =>
            NEW 3 [(.int .i64 n38)] fun B39 =>
              APP Pg 3 1 x31 l32 c33 (some ⟨B39, 0, none⟩) 1 fun x40 l41 c42 =>
                RDM za1 fun m43 =>
                  DELM Pg [102, 3] (.map m43) (.int .i64 n38) <|
                    NX [(.pointer (some za0)), (.pointer (some za1)), (.func (.func 69) #[] #[(.pointer (some za2)), (.pointer (some za1))]), (.tuple #[(.func (.func 45) #[] #[]), (.tuple #[(.pointer (some za0))])])] [(.pointer (some za0)), (.pointer (some za1)), (.func (.func 69) #[] #[(.pointer (some za2)), (.pointer (some za1))]), (.tuple #[(.func (.func 45) #[] #[]), (.tuple #[(.pointer (some za0))])])] (nx1 [(.slice x40 l41 c42)]))
            (fun e37 => DEF Pg W (.tuple #[(.func (.func 45) #[] #[]), (.tuple #[(.pointer (some za0))])]) (some e37) (RDI .i64 za0 fun n44 =>
              R (.returned (.tuple #[(.slice x31 l32 c33), (.int .i64 n44)])))))
        (WR (Addr.add za0 0) (.int .i64 0) <|
          DEF Pg W (.tuple #[(.func (.func 45) #[] #[]), (.tuple #[(.pointer (some za0))])]) none
            (RDI .i64 za0 fun n45 =>
              R (.returned (.tuple #[(.slice x31 l32 c33), (.int .i64 n45)]))))
theorem B_rank_Order_1_eq (W : World) (R : Ending → Hp → Prop) (za0 : Addr) (za1 : Addr) (za2 : Addr) (x31 : Option Addr) (l32 : Nat) (c33 : Nat) (nx1 : List Value → Hp → Prop) (j : Tm) : vc Pg W 36 rs_29 an_29 false (sub (bodyOf Try.f29) [1, 1, 1, 1, 1, 1, 0, 0, 0]) 2 (KLoop [2] [3, 5, 7, 36] [(.pointer (some za0)), (.pointer (some za1)), (.func (.func 69) #[] #[(.pointer (some za2)), (.pointer (some za1))]), (.tuple #[(.func (.func 45) #[] #[]), (.tuple #[(.pointer (some za0))])])] nx1 (KBlk 2 (KS Pg W 36 rs_29 an_29 false (sub (bodyOf Try.f29) [1, 1, 1, 1, 1, 1, 1]) 0 (fin Pg W 36 rv_29 R)))) (known [2] [(.slice x31 l32 c33)] (known [3, 5, 7, 36] [(.pointer (some za0)), (.pointer (some za1)), (.func (.func 69) #[] #[(.pointer (some za2)), (.pointer (some za1))]), (.tuple #[(.func (.func 45) #[] #[]), (.tuple #[(.pointer (some za0))])])] j)) = B_rank_Order_1 W R za0 za1 za2 x31 l32 c33 nx1 := by kernel_rfl
def N_rank_Order_1 (I : Option Addr → Nat → Nat → Hp → Prop) (μ : Option Addr → Nat → Nat → Hp → Nat) (x310 : Option Addr) (l320 : Nat) (c330 : Nat) (s : Hp) (vs : List Value) : Hp → Prop := fun s' => ∃ x31 l32 c33, vs = [(.slice x31 l32 c33)] ∧ I x31 l32 c33 s' ∧ μ x31 l32 c33 s' < μ x310 l320 c330 s
theorem L_rank_Order_1_rule (W : World) (R : Ending → Hp → Prop) (za0 : Addr) (za1 : Addr) (za2 : Addr) (I : Option Addr → Nat → Nat → Hp → Prop) (μ : Option Addr → Nat → Nat → Hp → Nat) (x310 : Option Addr) (l320 : Nat) (c330 : Nat) (s : Hp) (h0 : I x310 l320 c330 s)
    (hr : ∀ (x31 : Option Addr) (l32 : Nat) (c33 : Nat) (s : Hp), I x31 l32 c33 s → B_rank_Order_1 W R za0 za1 za2 x31 l32 c33 (fun vs => N_rank_Order_1 I μ x31 l32 c33 s vs) s) : L_rank_Order_1 W R za0 za1 za2 x310 l320 c330 s := by
  refine ⟨fun vs s => ∃ x31 l32 c33, vs = [(.slice x31 l32 c33)] ∧ I x31 l32 c33 s, fun vs s => (match vs with | [.slice x31 l32 c33] => μ x31 l32 c33 s | _ => 0), ⟨⟨⟨_, _, _, rfl⟩, trivial⟩, ⟨_, _, _, rfl, h0⟩⟩, ?_⟩
  intro x31 l32 c33 s hI j
  obtain ⟨x31', l32', c33', hy, hI⟩ := hI
  have hI' : I x31 l32 c33 s := by cases hy; exact hI
  have hh := hr x31 l32 c33 s hI'
  rw [← B_rank_Order_1_eq W R za0 za1 za2 x31 l32 c33 _ j] at hh
  refine vc_mono ?_ _ _ hh
  exact KLoop_mono (fun vs s' h => by obtain ⟨x311, l321, c331, rfl, h1, h2⟩ := h; exact ⟨⟨⟨_, _, _, rfl⟩, trivial⟩, ⟨_, _, _, rfl, h1⟩, h2⟩)
def T_rank_Order (W : World) (n1 : Int) (n2 : Int) (x3 : Option Addr) (l4 : Nat) (c5 : Nat) (x6 : Option Addr) (l7 : Nat) (c8 : Nat) (R : Ending → Hp → Prop) : Hp → Prop :=
  NEW 25 [(.int .i64 n1), (.int .i64 n2), (.slice x3 l4 c5), (.slice x6 l7 c8)] fun B9 =>
    NEWZ Pg 30 fun B10 =>
      RDI .i64 (Addr.add ⟨B9, 0, none⟩ 0) fun n11 =>
        RDI .i64 (Addr.add ⟨B9, 0, none⟩ 1) fun n12 =>
          RDL (Addr.add ⟨B9, 0, none⟩ 2) fun x13 l14 c15 =>
            RDL (Addr.add ⟨B9, 0, none⟩ 3) fun x16 l17 c18 =>
              CALL Pg W F_rank_open [(.agg #[(.int .i64 n11), (.int .i64 n12), (.slice x13 l14 c15), (.slice x16 l17 c18)])]
                (fun v19 => TYP v19 fun p21 =>
                  NEWZ Pg 70 fun B22 =>
                    WR (Addr.add ⟨B22, 0, none⟩ 0) (.pointer p21) <|
                      MKM fun B23 =>
                        NEWZ Pg 102 fun B24 =>
                          WR (Addr.add ⟨B24, 0, none⟩ 0) (.map (some B23)) <|
                            RDP ⟨B22, 0, none⟩ fun p25 =>
                              SO p25 fun a26 =>
                                RDI .i64 (Addr.add (Addr.add a26 0) 0) fun n27 =>
                                  L_rank_Order_0 W R ⟨B10, 0, none⟩ ⟨B22, 0, none⟩ ⟨B24, 0, none⟩ n27 0)
                  (fun e20 => DEF Pg W (.tuple #[(.func (.func 45) #[] #[]), (.tuple #[(.pointer (some ⟨B10, 0, none⟩))])]) (some e20) (RDI .i64 ⟨B10, 0, none⟩ fun n28 =>
                    R (.returned (.tuple #[(.slice none 0 0), (.int .i64 n28)]))))
theorem T_rank_Order_eq (W : World) (n1 : Int) (n2 : Int) (x3 : Option Addr) (l4 : Nat) (c5 : Nat) (x6 : Option Addr) (l7 : Nat) (c8 : Nat) (R : Ending → Hp → Prop) : vfun Pg W an_29 Try.f29 [(.agg #[(.int .i64 n1), (.int .i64 n2), (.slice x3 l4 c5), (.slice x6 l7 c8)])] R = T_rank_Order W n1 n2 x3 l4 c5 x6 l7 c8 R := by kernel_rfl
theorem does_rank_Order (W : World) (n1 : Int) (n2 : Int) (x3 : Option Addr) (l4 : Nat) (c5 : Nat) (x6 : Option Addr) (l7 : Nat) (c8 : Nat) (R : Ending → Hp → Prop) (s : Hp) (h : T_rank_Order W n1 n2 x3 l4 c5 x6 l7 c8 R s) : Does Pg W F_rank_Order #[(.agg #[(.int .i64 n1), (.int .i64 n2), (.slice x3 l4 c5), (.slice x6 l7 c8)])] s R :=
  does_of_vfun Pg W an_29 Try.func29 rfl (by kernel_rfl) (by rw [T_rank_Order_eq]; exact h)
def an_46 : Nat → Ann := fun b => match b with
  | 0 => { ms := [47], ks := [.i .i64], us := [2, 3, 45, 46, 107], rt := false, ex := [] }
  | _ => {}
abbrev rv_46 : List ResultVar := [.tmp 2]
abbrev rs_46 : List Nat := [107, 2]
def L_rank_open_0 (W : World) (R : Ending → Hp → Prop) (za0 : Addr) (zp1 : Option Addr) (zl2 : Nat) (zl3 : Nat) (zn4 : Int) (n53 : Int) : Hp → Prop :=
  LOOPN [.i .i64] (fun ys next s => ∀ j : Tm, vc Pg W 107 rs_46 an_46 false (sub (bodyOf Try.f46) [1, 1, 1, 1, 1, 0, 1, 0, 0]) 0 (KLoop [47] [2, 3, 45, 46, 107] [(.pointer none), (.pointer (some za0)), (.slice zp1 zl2 zl3), (.int .i64 zn4), (.tuple #[])] next (KBlk 0 (KS Pg W 107 rs_46 an_46 false (sub (bodyOf Try.f46) [1, 1, 1, 1, 1, 1]) 0 (fin Pg W 107 rv_46 R)))) (known [47] ys (known [2, 3, 45, 46, 107] [(.pointer none), (.pointer (some za0)), (.slice zp1 zl2 zl3), (.int .i64 zn4), (.tuple #[])] j)) s) [(.int .i64 n53)]
def J_rank_open_0 (W : World) (R : Ending → Hp → Prop) (b40 : Bool) (B9 : Nat) (B19 : Nat) : Hp → Prop :=
  CALL Pg W F_rank_must [(.bool b40), (.int .i64 1)]
    (fun v41 => TUP v41 fun q43 => NL q43 <|
      RDL (Addr.add ⟨B9, 0, none⟩ 3) fun x44 l45 c46 =>
        CALL Pg W F_rank_must [(.bool (decide ((↑l45 : Int) ≤ 30))), (.int .i64 1)]
          (fun v47 => TUP v47 fun q49 => NL q49 <|
            RDL (Addr.add ⟨B9, 0, none⟩ 3) fun x50 l51 c52 =>
              L_rank_open_0 W R ⟨B19, 0, none⟩ x50 l51 c52 (↑l51 : Int) 0)
            (fun e48 => R (.panicked e48)))
      (fun e42 => R (.panicked e42))
def J_rank_open_1 (W : World) (R : Ending → Hp → Prop) (b33 : Bool) (B9 : Nat) (B19 : Nat) : Hp → Prop :=
  BR b33
    (RDL (Addr.add ⟨B9, 0, none⟩ 2) fun x34 l35 c36 =>
      CALL Pg W F_slices_ContainsFunc_int_int [(.slice x34 l35 c36), (.func (.func 72) #[] #[])]
        (fun v37 => TYB v37 fun b39 =>
          J_rank_open_0 W R (!b39) B9 B19)
          (fun e38 => R (.panicked e38)))
    (J_rank_open_0 W R false B9 B19)
def J_rank_open_2 (W : World) (R : Ending → Hp → Prop) (b28 : Bool) (B9 : Nat) (B19 : Nat) : Hp → Prop :=
  BR b28
    (RDL (Addr.add ⟨B9, 0, none⟩ 2) fun x29 l30 c31 =>
      RDI .i64 (Addr.add ⟨B9, 0, none⟩ 0) fun n32 =>
        J_rank_open_1 W R ((↑l30 : Int) == n32) B9 B19)
    (J_rank_open_1 W R false B9 B19)
def J_rank_open_3 (W : World) (R : Ending → Hp → Prop) (b122 : Bool) (za0 : Addr) (p76 : Option Addr) (p77 : Option Addr) (zp1 : Option Addr) (zl2 : Nat) (zl3 : Nat) (zn4 : Int) (nx0 : List Value → Hp → Prop) (n53 : Int) : Hp → Prop :=
  CALL Pg W F_rank_must [(.bool b122), (.int .i64 1)]
    (fun v123 => TUP v123 fun q125 => NL q125 <|
      RDM (Addr.add za0 4) fun m126 =>
        SO p76 fun a127 =>
          RDI .i64 (Addr.add a127 0) fun n128 =>
            RDI .i64 (Addr.add a127 1) fun n129 =>
              SO p77 fun a130 =>
                RDI .i64 (Addr.add a130 0) fun n131 =>
                  RDI .i64 (Addr.add a130 1) fun n132 =>
                    MUP Pg 89 (.map m126) (.agg #[(.int .i64 n128), (.int .i64 n129)]) (.agg #[(.int .i64 n131), (.int .i64 n132)]) <|
                      NX [(.pointer none), (.pointer (some za0)), (.slice zp1 zl2 zl3), (.int .i64 zn4), (.tuple #[])] [(.pointer none), (.pointer (some za0)), (.slice zp1 zl2 zl3), (.int .i64 zn4), (.tuple #[])] (nx0 [(.int .i64 (IntKind.wrap .i64 (n53 + 1)))]))
      (fun e124 => R (.panicked e124))
def J_rank_open_4 (W : World) (R : Ending → Hp → Prop) (b119 : Bool) (p77 : Option Addr) (za0 : Addr) (p76 : Option Addr) (zp1 : Option Addr) (zl2 : Nat) (zl3 : Nat) (zn4 : Int) (nx0 : List Value → Hp → Prop) (n53 : Int) : Hp → Prop :=
  BR b119
    (SO p77 fun a120 =>
      RDI .i64 (Addr.add a120 1) fun n121 =>
        J_rank_open_3 W R (decide (n121 ≤ 40)) za0 p76 p77 zp1 zl2 zl3 zn4 nx0 n53)
    (J_rank_open_3 W R false za0 p76 p77 zp1 zl2 zl3 zn4 nx0 n53)
def J_rank_open_5 (W : World) (R : Ending → Hp → Prop) (b114 : Bool) (p77 : Option Addr) (za0 : Addr) (p76 : Option Addr) (zp1 : Option Addr) (zl2 : Nat) (zl3 : Nat) (zn4 : Int) (nx0 : List Value → Hp → Prop) (n53 : Int) : Hp → Prop :=
  BR b114
    (SO p77 fun a115 =>
      RDI .i64 (Addr.add a115 0) fun n116 =>
        SO p77 fun a117 =>
          RDI .i64 (Addr.add a117 1) fun n118 =>
            J_rank_open_4 W R (decide (n116 ≤ n118)) p77 za0 p76 zp1 zl2 zl3 zn4 nx0 n53)
    (J_rank_open_4 W R false p77 za0 p76 zp1 zl2 zl3 zn4 nx0 n53)
def J_rank_open_6 (W : World) (R : Ending → Hp → Prop) (b111 : Bool) (p77 : Option Addr) (za0 : Addr) (p76 : Option Addr) (zp1 : Option Addr) (zl2 : Nat) (zl3 : Nat) (zn4 : Int) (nx0 : List Value → Hp → Prop) (n53 : Int) : Hp → Prop :=
  BR b111
    (SO p77 fun a112 =>
      RDI .i64 (Addr.add a112 0) fun n113 =>
        J_rank_open_5 W R (decide ((0 : Int) ≤ n113)) p77 za0 p76 zp1 zl2 zl3 zn4 nx0 n53)
    (J_rank_open_5 W R false p77 za0 p76 zp1 zl2 zl3 zn4 nx0 n53)
def J_rank_open_7 (W : World) (R : Ending → Hp → Prop) (b110 : Bool) (b101 : Bool) (p77 : Option Addr) (za0 : Addr) (p76 : Option Addr) (zp1 : Option Addr) (zl2 : Nat) (zl3 : Nat) (zn4 : Int) (nx0 : List Value → Hp → Prop) (n53 : Int) : Hp → Prop :=
  BR b110
    (J_rank_open_6 W R (!b101) p77 za0 p76 zp1 zl2 zl3 zn4 nx0 n53)
    (J_rank_open_6 W R false p77 za0 p76 zp1 zl2 zl3 zn4 nx0 n53)
def J_rank_open_8 (W : World) (R : Ending → Hp → Prop) (B59 : Nat) (za0 : Addr) (b101 : Bool) (p77 : Option Addr) (p76 : Option Addr) (zp1 : Option Addr) (zl2 : Nat) (zl3 : Nat) (zn4 : Int) (nx0 : List Value → Hp → Prop) (n53 : Int) : Hp → Prop :=
  RDI .i64 (Addr.add ⟨B59, 0, none⟩ 0) fun n102 =>
    CALL Pg W F_rank_table_isMan [(.pointer (some za0)), (.int .i64 n102)]
      (fun v103 => TYB v103 fun b105 =>
        BR b105
          (RDI .i64 (Addr.add ⟨B59, 0, none⟩ 1) fun n106 =>
            CALL Pg W F_rank_table_isSheet [(.pointer (some za0)), (.int .i64 n106)]
              (fun v107 => TYB v107 fun b109 =>
                J_rank_open_7 W R b109 b101 p77 za0 p76 zp1 zl2 zl3 zn4 nx0 n53)
                (fun e108 => R (.panicked e108)))
          (J_rank_open_7 W R false b101 p77 za0 p76 zp1 zl2 zl3 zn4 nx0 n53))
        (fun e104 => R (.panicked e104))
def J_rank_open_9 (W : World) (R : Ending → Hp → Prop) (za0 : Addr) (p76 : Option Addr) (B59 : Nat) (p77 : Option Addr) (zp1 : Option Addr) (zl2 : Nat) (zl3 : Nat) (zn4 : Int) (nx0 : List Value → Hp → Prop) (n53 : Int) : Hp → Prop :=
  RDM (Addr.add za0 4) fun m78 =>
    SO p76 fun a79 =>
      RDI .i64 (Addr.add a79 0) fun n80 =>
        RDI .i64 (Addr.add a79 1) fun n81 =>
          CONJ [
            LKP Pg 89 (.map m78) (.agg #[(.int .i64 n80), (.int .i64 n81)]) true fun v82 =>
              TUP v82 fun q83 => HD q83 fun v84 r85 => AGG v84 fun q86 => HD q86 fun v87 r88 => TYI .i64 v87 fun n89 =>
                HD r88 fun v90 r91 => TYI .i64 v90 fun n92 =>
                  NL r91 <|
                    HD r85 fun v93 r94 => TYB v93 fun b95 =>
                      NL r94 <|
                        NEWZ Pg 29 fun B96 =>
                          ANDS (SO p76 fun a97 =>
                            RDI .i64 (Addr.add a97 0) fun n98 =>
                              RDI .i64 (Addr.add a97 1) fun n99 =>
                                fun _ => ((.agg #[(.int .i64 n98), (.int .i64 n99)]) : Value) = (.agg #[(.int .i64 n80), (.int .i64 n81)])) <|
                            ANDS (RDM (Addr.add za0 4) fun m100 =>
                              fun _ => ((.map m100) : Value) = (.map m78)) <|
                              WR (Addr.add ⟨B96, 0, none⟩ 0) (.int .i64 n89) <|
                                WR (Addr.add ⟨B96, 0, none⟩ 1) (.int .i64 n92) <|
                                  J_rank_open_8 W R B59 za0 b95 p77 p76 zp1 zl2 zl3 zn4 nx0 n53,
            NEWZ Pg 29 fun B133 =>
              ANDS (SO p76 fun a134 =>
                RDI .i64 (Addr.add a134 0) fun n135 =>
                  RDI .i64 (Addr.add a134 1) fun n136 =>
                    fun _ => ((.agg #[(.int .i64 n135), (.int .i64 n136)]) : Value) = (.agg #[(.int .i64 n80), (.int .i64 n81)])) <|
                ANDS (RDM (Addr.add za0 4) fun m137 =>
                  fun _ => ((.map m137) : Value) = (.map m78)) <|
                  LKP Pg 89 (.map m78) (.agg #[(.int .i64 n80), (.int .i64 n81)]) true fun v138 =>
                    TUP v138 fun q139 => HD q139 fun v140 r141 => AGG v140 fun q142 => HD q142 fun v143 r144 => TYI .i64 v143 fun n145 =>
                      HD r144 fun v146 r147 => TYI .i64 v146 fun n148 =>
                        NL r147 <|
                          HD r141 fun v149 r150 => TYB v149 fun b151 =>
                            NL r150 <|
                              WR (Addr.add ⟨B133, 0, none⟩ 0) (.int .i64 n145) <|
                                WR (Addr.add ⟨B133, 0, none⟩ 1) (.int .i64 n148) <|
                                  J_rank_open_8 W R B59 za0 b151 p77 p76 zp1 zl2 zl3 zn4 nx0 n53]
def B_rank_open_0 (W : World) (R : Ending → Hp → Prop) (za0 : Addr) (zp1 : Option Addr) (zl2 : Nat) (zl3 : Nat) (zn4 : Int) (n53 : Int) (nx0 : List Value → Hp → Prop) : Hp → Prop :=
  BR (decide (n53 < zn4))
    (IXS zp1 zl2 n53 4 fun a54 =>
      RDI .i64 (Addr.add a54 0) fun n55 =>
        RDI .i64 (Addr.add a54 1) fun n56 =>
          RDI .i64 (Addr.add a54 2) fun n57 =>
            RDI .i64 (Addr.add a54 3) fun n58 =>
              NEWZ Pg 55 fun B59 =>
                WR (Addr.add ⟨B59, 0, none⟩ 0) (.int .i64 n55) <|
                  WR (Addr.add ⟨B59, 0, none⟩ 1) (.int .i64 n56) <|
                    WR (Addr.add ⟨B59, 0, none⟩ 2) (.int .i64 n57) <|
                      WR (Addr.add ⟨B59, 0, none⟩ 3) (.int .i64 n58) <|
                        RDI .i64 (Addr.add ⟨B59, 0, none⟩ 0) fun n60 =>
                          RDI .i64 (Addr.add ⟨B59, 0, none⟩ 1) fun n61 =>
                            RDI .i64 (Addr.add (Addr.add ⟨B59, 0, none⟩ 2) 0) fun n62 =>
                              RDI .i64 (Addr.add (Addr.add ⟨B59, 0, none⟩ 2) 1) fun n63 =>
                                CONJ [
                                  NEWZ Pg 94 fun B64 =>
                                    ANDS (RDI .i64 (Addr.add (Addr.add ⟨B59, 0, none⟩ 2) 0) fun n65 =>
                                      RDI .i64 (Addr.add (Addr.add ⟨B59, 0, none⟩ 2) 1) fun n66 =>
                                        fun _ => ((.agg #[(.int .i64 n65), (.int .i64 n66)]) : Value) = (.agg #[(.int .i64 n62), (.int .i64 n63)])) <|
                                      ANDS (RDI .i64 (Addr.add ⟨B59, 0, none⟩ 1) fun n67 =>
                                        fun _ => ((.int .i64 n67) : Value) = (.int .i64 n61)) <|
                                        ANDS (RDI .i64 (Addr.add ⟨B59, 0, none⟩ 0) fun n68 =>
                                          fun _ => ((.int .i64 n68) : Value) = (.int .i64 n60)) <|
                                          NEWZ Pg 29 fun B69 =>
                                            ANDS (RDI .i64 (Addr.add (Addr.add ⟨B59, 0, none⟩ 2) 0) fun n70 =>
                                              RDI .i64 (Addr.add (Addr.add ⟨B59, 0, none⟩ 2) 1) fun n71 =>
                                                fun _ => ((.agg #[(.int .i64 n70), (.int .i64 n71)]) : Value) = (.agg #[(.int .i64 n62), (.int .i64 n63)])) <|
                                              ANDS (RDI .i64 (Addr.add ⟨B59, 0, none⟩ 1) fun n72 =>
                                                fun _ => ((.int .i64 n72) : Value) = (.int .i64 n61)) <|
                                                ANDS (RDI .i64 (Addr.add ⟨B59, 0, none⟩ 0) fun n73 =>
                                                  fun _ => ((.int .i64 n73) : Value) = (.int .i64 n60)) <|
                                                  WR (Addr.add ⟨B64, 0, none⟩ 0) (.int .i64 n60) <|
                                                    WR (Addr.add ⟨B64, 0, none⟩ 1) (.int .i64 n61) <|
                                                      ANDS (RDI .i64 (Addr.add (Addr.add ⟨B59, 0, none⟩ 2) 0) fun n74 =>
                                                        RDI .i64 (Addr.add (Addr.add ⟨B59, 0, none⟩ 2) 1) fun n75 =>
                                                          fun _ => ((.agg #[(.int .i64 n74), (.int .i64 n75)]) : Value) = (.agg #[(.int .i64 n62), (.int .i64 n63)])) <|
                                                        WR (Addr.add ⟨B69, 0, none⟩ 0) (.int .i64 n62) <|
                                                          WR (Addr.add ⟨B69, 0, none⟩ 1) (.int .i64 n63) <|
                                                            J_rank_open_9 W R za0 (some ⟨B64, 0, none⟩) B59 (some ⟨B69, 0, none⟩) zp1 zl2 zl3 zn4 nx0 n53,
                                  NEWZ Pg 29 fun B152 =>
                                    ANDS (RDI .i64 (Addr.add (Addr.add ⟨B59, 0, none⟩ 2) 0) fun n153 =>
                                      RDI .i64 (Addr.add (Addr.add ⟨B59, 0, none⟩ 2) 1) fun n154 =>
                                        fun _ => ((.agg #[(.int .i64 n153), (.int .i64 n154)]) : Value) = (.agg #[(.int .i64 n62), (.int .i64 n63)])) <|
                                      ANDS (RDI .i64 (Addr.add ⟨B59, 0, none⟩ 1) fun n155 =>
                                        fun _ => ((.int .i64 n155) : Value) = (.int .i64 n61)) <|
                                        ANDS (RDI .i64 (Addr.add ⟨B59, 0, none⟩ 0) fun n156 =>
                                          fun _ => ((.int .i64 n156) : Value) = (.int .i64 n60)) <|
                                          NEWZ Pg 94 fun B157 =>
                                            ANDS (RDI .i64 (Addr.add (Addr.add ⟨B59, 0, none⟩ 2) 0) fun n158 =>
                                              RDI .i64 (Addr.add (Addr.add ⟨B59, 0, none⟩ 2) 1) fun n159 =>
                                                fun _ => ((.agg #[(.int .i64 n158), (.int .i64 n159)]) : Value) = (.agg #[(.int .i64 n62), (.int .i64 n63)])) <|
                                              ANDS (RDI .i64 (Addr.add ⟨B59, 0, none⟩ 1) fun n160 =>
                                                fun _ => ((.int .i64 n160) : Value) = (.int .i64 n61)) <|
                                                ANDS (RDI .i64 (Addr.add ⟨B59, 0, none⟩ 0) fun n161 =>
                                                  fun _ => ((.int .i64 n161) : Value) = (.int .i64 n60)) <|
                                                  WR (Addr.add ⟨B157, 0, none⟩ 0) (.int .i64 n60) <|
                                                    WR (Addr.add ⟨B157, 0, none⟩ 1) (.int .i64 n61) <|
                                                      ANDS (RDI .i64 (Addr.add (Addr.add ⟨B59, 0, none⟩ 2) 0) fun n162 =>
                                                        RDI .i64 (Addr.add (Addr.add ⟨B59, 0, none⟩ 2) 1) fun n163 =>
                                                          fun _ => ((.agg #[(.int .i64 n162), (.int .i64 n163)]) : Value) = (.agg #[(.int .i64 n62), (.int .i64 n63)])) <|
                                                        WR (Addr.add ⟨B152, 0, none⟩ 0) (.int .i64 n62) <|
                                                          WR (Addr.add ⟨B152, 0, none⟩ 1) (.int .i64 n63) <|
                                                            J_rank_open_9 W R za0 (some ⟨B157, 0, none⟩) B59 (some ⟨B152, 0, none⟩) zp1 zl2 zl3 zn4 nx0 n53])
    (R (.returned (.pointer (some za0))))
theorem B_rank_open_0_eq (W : World) (R : Ending → Hp → Prop) (za0 : Addr) (zp1 : Option Addr) (zl2 : Nat) (zl3 : Nat) (zn4 : Int) (n53 : Int) (nx0 : List Value → Hp → Prop) (j : Tm) : vc Pg W 107 rs_46 an_46 false (sub (bodyOf Try.f46) [1, 1, 1, 1, 1, 0, 1, 0, 0]) 0 (KLoop [47] [2, 3, 45, 46, 107] [(.pointer none), (.pointer (some za0)), (.slice zp1 zl2 zl3), (.int .i64 zn4), (.tuple #[])] nx0 (KBlk 0 (KS Pg W 107 rs_46 an_46 false (sub (bodyOf Try.f46) [1, 1, 1, 1, 1, 1]) 0 (fin Pg W 107 rv_46 R)))) (known [47] [(.int .i64 n53)] (known [2, 3, 45, 46, 107] [(.pointer none), (.pointer (some za0)), (.slice zp1 zl2 zl3), (.int .i64 zn4), (.tuple #[])] j)) = B_rank_open_0 W R za0 zp1 zl2 zl3 zn4 n53 nx0 := by kernel_rfl
def N_rank_open_0 (I : Int → Hp → Prop) (μ : Int → Hp → Nat) (n530 : Int) (s : Hp) (vs : List Value) : Hp → Prop := fun s' => ∃ n53, vs = [(.int .i64 n53)] ∧ I n53 s' ∧ μ n53 s' < μ n530 s
theorem L_rank_open_0_rule (W : World) (R : Ending → Hp → Prop) (za0 : Addr) (zp1 : Option Addr) (zl2 : Nat) (zl3 : Nat) (zn4 : Int) (I : Int → Hp → Prop) (μ : Int → Hp → Nat) (n530 : Int) (s : Hp) (h0 : I n530 s)
    (hr : ∀ (n53 : Int) (s : Hp), I n53 s → B_rank_open_0 W R za0 zp1 zl2 zl3 zn4 n53 (fun vs => N_rank_open_0 I μ n53 s vs) s) : L_rank_open_0 W R za0 zp1 zl2 zl3 zn4 n530 s := by
  refine ⟨fun vs s => ∃ n53, vs = [(.int .i64 n53)] ∧ I n53 s, fun vs s => (match vs with | [.int _ n53] => μ n53 s | _ => 0), ⟨⟨⟨_, rfl⟩, trivial⟩, ⟨_, rfl, h0⟩⟩, ?_⟩
  intro n53 s hI j
  obtain ⟨n53', hy, hI⟩ := hI
  have hI' : I n53 s := by cases hy; exact hI
  have hh := hr n53 s hI'
  rw [← B_rank_open_0_eq W R za0 zp1 zl2 zl3 zn4 n53 _ j] at hh
  refine vc_mono ?_ _ _ hh
  exact KLoop_mono (fun vs s' h => by obtain ⟨n531, rfl, h1, h2⟩ := h; exact ⟨⟨⟨_, rfl⟩, trivial⟩, ⟨_, rfl, h1⟩, h2⟩)
def T_rank_open (W : World) (n1 : Int) (n2 : Int) (x3 : Option Addr) (l4 : Nat) (c5 : Nat) (x6 : Option Addr) (l7 : Nat) (c8 : Nat) (R : Ending → Hp → Prop) : Hp → Prop :=
  NEW 25 [(.int .i64 n1), (.int .i64 n2), (.slice x3 l4 c5), (.slice x6 l7 c8)] fun B9 =>
    RDI .i64 (Addr.add ⟨B9, 0, none⟩ 0) fun n10 =>
      RDI .i64 (Addr.add ⟨B9, 0, none⟩ 1) fun n11 =>
        RDL (Addr.add ⟨B9, 0, none⟩ 2) fun x12 l13 c14 =>
          RDL (Addr.add ⟨B9, 0, none⟩ 3) fun x15 l16 c17 =>
            MKM fun B18 =>
              NEW 91 [(.int .i64 n10), (.int .i64 n11), (.slice x12 l13 c14), (.slice x15 l16 c17), (.map (some B18))] fun B19 =>
                RDI .i64 (Addr.add ⟨B9, 0, none⟩ 0) fun n20 =>
                  CALL Pg W F_rank_within [(.int .i64 n20), (.int .i64 1), (.int .i64 6)]
                    (fun v21 => TYB v21 fun b23 =>
                      BR b23
                        (RDI .i64 (Addr.add ⟨B9, 0, none⟩ 1) fun n24 =>
                          CALL Pg W F_rank_within [(.int .i64 n24), (.int .i64 1), (.int .i64 5)]
                            (fun v25 => TYB v25 fun b27 =>
                              J_rank_open_2 W R b27 B9 B19)
                              (fun e26 => R (.panicked e26)))
                        (J_rank_open_2 W R false B9 B19))
                      (fun e22 => R (.panicked e22))
theorem T_rank_open_eq (W : World) (n1 : Int) (n2 : Int) (x3 : Option Addr) (l4 : Nat) (c5 : Nat) (x6 : Option Addr) (l7 : Nat) (c8 : Nat) (R : Ending → Hp → Prop) : vfun Pg W an_46 Try.f46 [(.agg #[(.int .i64 n1), (.int .i64 n2), (.slice x3 l4 c5), (.slice x6 l7 c8)])] R = T_rank_open W n1 n2 x3 l4 c5 x6 l7 c8 R := by kernel_rfl
theorem does_rank_open (W : World) (n1 : Int) (n2 : Int) (x3 : Option Addr) (l4 : Nat) (c5 : Nat) (x6 : Option Addr) (l7 : Nat) (c8 : Nat) (R : Ending → Hp → Prop) (s : Hp) (h : T_rank_open W n1 n2 x3 l4 c5 x6 l7 c8 R s) : Does Pg W F_rank_open #[(.agg #[(.int .i64 n1), (.int .i64 n2), (.slice x3 l4 c5), (.slice x6 l7 c8)])] s R :=
  does_of_vfun Pg W an_46 Try.func46 rfl (by kernel_rfl) (by rw [T_rank_open_eq]; exact h)
def an_47 : Nat → Ann := fun b => match b with
  | _ => {}
abbrev rv_47 : List ResultVar := []
abbrev rs_47 : List Nat := [9]
def T_rank_must (W : World) (b1 : Bool) (n2 : Int) (R : Ending → Hp → Prop) : Hp → Prop :=
  BR (!b1)
    (R (.panicked [{ v := (.iface 107 (.agg #[(.int .i64 n2)])), recovered := false }]))
    (R (.returned (.tuple #[])))
theorem T_rank_must_eq (W : World) (b1 : Bool) (n2 : Int) (R : Ending → Hp → Prop) : vfun Pg W an_47 Try.f47 [(.bool b1), (.int .i64 n2)] R = T_rank_must W b1 n2 R := by kernel_rfl
theorem does_rank_must (W : World) (b1 : Bool) (n2 : Int) (R : Ending → Hp → Prop) (s : Hp) (h : T_rank_must W b1 n2 R s) : Does Pg W F_rank_must #[(.bool b1), (.int .i64 n2)] s R :=
  does_of_vfun Pg W an_47 Try.func47 rfl (by kernel_rfl) (by rw [T_rank_must_eq]; exact h)
def an_48 : Nat → Ann := fun b => match b with
  | _ => {}
abbrev rv_48 : List ResultVar := [.tmp 4]
abbrev rs_48 : List Nat := [13, 4]
def T_rank_table_isMan (W : World) (p1 : Option Addr) (n2 : Int) (R : Ending → Hp → Prop) : Hp → Prop :=
  SO p1 fun a3 =>
    RDI .i64 (Addr.add (Addr.add a3 0) 0) fun n4 =>
      CALL Pg W F_rank_within [(.int .i64 n2), (.int .i64 0), (.int .i64 (IntKind.wrap .i64 (n4 - 1)))]
        (fun v5 => TYB v5 fun b7 =>
          R (.returned (.bool b7)))
          (fun e6 => R (.panicked e6))
theorem T_rank_table_isMan_eq (W : World) (p1 : Option Addr) (n2 : Int) (R : Ending → Hp → Prop) : vfun Pg W an_48 Try.f48 [(.pointer p1), (.int .i64 n2)] R = T_rank_table_isMan W p1 n2 R := by kernel_rfl
theorem does_rank_table_isMan (W : World) (p1 : Option Addr) (n2 : Int) (R : Ending → Hp → Prop) (s : Hp) (h : T_rank_table_isMan W p1 n2 R s) : Does Pg W F_rank_table_isMan #[(.pointer p1), (.int .i64 n2)] s R :=
  does_of_vfun Pg W an_48 Try.func48 rfl (by kernel_rfl) (by rw [T_rank_table_isMan_eq]; exact h)
def an_49 : Nat → Ann := fun b => match b with
  | 0 => { ms := [16], ks := [.i .i64], us := [0, 1, 2, 3, 8, 9, 15, 43], rt := false, ex := [] }
  | _ => {}
abbrev rv_49 : List ResultVar := [.cell 8 74]
abbrev rs_49 : List Nat := [43, 8]
def L_rank_table_row_0 (W : World) (R : Ending → Hp → Prop) (zp0 : Option Addr) (zv1 : Value) (zn2 : Int) (zv3 : Value) (za4 : Addr) (za5 : Addr) (zn6 : Int) (n9 : Int) : Hp → Prop :=
  LOOPN [.i .i64] (fun ys next s => ∀ j : Tm, vc Pg W 43 rs_49 an_49 false (sub (bodyOf Try.f49) [1, 1, 0, 1, 0, 0]) 0 (KLoop [16] [0, 1, 2, 3, 8, 9, 15, 43] [(.pointer zp0), zv1, (.int .i64 zn2), zv3, (.pointer (some za4)), (.pointer (some za5)), (.int .i64 zn6), (.tuple #[])] next (KBlk 0 (KS Pg W 43 rs_49 an_49 false (sub (bodyOf Try.f49) [1, 1, 1]) 0 (fin Pg W 43 rv_49 R)))) (known [16] ys (known [0, 1, 2, 3, 8, 9, 15, 43] [(.pointer zp0), zv1, (.int .i64 zn2), zv3, (.pointer (some za4)), (.pointer (some za5)), (.int .i64 zn6), (.tuple #[])] j)) s) [(.int .i64 n9)]
def B_rank_table_row_0 (W : World) (R : Ending → Hp → Prop) (zp0 : Option Addr) (zv1 : Value) (zn2 : Int) (zv3 : Value) (za4 : Addr) (za5 : Addr) (zn6 : Int) (n9 : Int) (nx0 : List Value → Hp → Prop) : Hp → Prop :=
  BR (decide (n9 < zn6))
    (INV Pg W zv1 "furrowworks/rank.of" [(.agg #[(.int .i64 zn2), (.int .i64 n9)])]
      (fun v10 => AGG v10 fun q12 => HD q12 fun v13 r14 => TYI .i64 v13 fun n15 =>
        HD r14 fun v16 r17 => TYI .i64 v16 fun n18 =>
          NL r17 <|
            CALLV Pg W zv3 [(.agg #[(.int .i64 n15), (.int .i64 n18)])]
              (fun v19 => TYI .i64 v19 fun n21 =>
                IXA za5 6 (IntKind.wrap .i64 (1 + n9)) 1 fun a22 =>
                  WR (Addr.add a22 0) (.int .i64 n21) <|
                    NX [(.pointer zp0), zv1, (.int .i64 zn2), zv3, (.pointer (some za4)), (.pointer (some za5)), (.int .i64 zn6), (.tuple #[])] [(.pointer zp0), zv1, (.int .i64 zn2), zv3, (.pointer (some za4)), (.pointer (some za5)), (.int .i64 zn6), (.tuple #[])] (nx0 [(.int .i64 (IntKind.wrap .i64 (n9 + 1)))]))
                (fun e20 => R (.panicked e20)))
        (fun e11 => R (.panicked e11)))
    (SO zp0 fun a23 =>
      RDL (Addr.add (Addr.add a23 0) 2) fun x24 l25 c26 =>
        IXS x24 l25 zn2 1 fun a27 =>
          RDI .i64 a27 fun n28 =>
            SLS (some za5) 6 1 6 1 fun x29 l30 c31 =>
              ANDS (RDI .i64 a27 fun n32 =>
                fun _ => ((.int .i64 n32) : Value) = (.int .i64 n28)) <|
                ANDS (RDL (Addr.add (Addr.add a23 0) 2) fun x33 l34 c35 =>
                  fun _ => ((.slice x33 l34 c35) : Value) = (.slice x24 l25 c26)) <|
                  CALL Pg W F_rank_total [(.slice x29 l30 c31)]
                    (fun v36 => TYI .i64 v36 fun n38 =>
                      ANDS (RDI .i64 a27 fun n39 =>
                        fun _ => ((.int .i64 n39) : Value) = (.int .i64 n28)) <|
                        ANDS (RDL (Addr.add (Addr.add a23 0) 2) fun x40 l41 c42 =>
                          fun _ => ((.slice x40 l41 c42) : Value) = (.slice x24 l25 c26)) <|
                          IXA za5 6 0 1 fun a43 =>
                            WR (Addr.add a43 0) (.int .i64 (IntKind.wrap .i64 (n38 - n28))) <|
                              RDI .i64 (Addr.add za5 0) fun n44 =>
                                RDI .i64 (Addr.add za5 1) fun n45 =>
                                  RDI .i64 (Addr.add za5 2) fun n46 =>
                                    RDI .i64 (Addr.add za5 3) fun n47 =>
                                      RDI .i64 (Addr.add za5 4) fun n48 =>
                                        RDI .i64 (Addr.add za5 5) fun n49 =>
                                          WR (Addr.add za4 0) (.int .i64 n44) <|
                                            WR (Addr.add za4 1) (.int .i64 n45) <|
                                              WR (Addr.add za4 2) (.int .i64 n46) <|
                                                WR (Addr.add za4 3) (.int .i64 n47) <|
                                                  WR (Addr.add za4 4) (.int .i64 n48) <|
                                                    WR (Addr.add za4 5) (.int .i64 n49) <|
                                                      RDI .i64 (Addr.add za4 0) fun n50 =>
                                                        RDI .i64 (Addr.add za4 1) fun n51 =>
                                                          RDI .i64 (Addr.add za4 2) fun n52 =>
                                                            RDI .i64 (Addr.add za4 3) fun n53 =>
                                                              RDI .i64 (Addr.add za4 4) fun n54 =>
                                                                RDI .i64 (Addr.add za4 5) fun n55 =>
                                                                  R (.returned (.agg #[(.int .i64 n50), (.int .i64 n51), (.int .i64 n52), (.int .i64 n53), (.int .i64 n54), (.int .i64 n55)])))
                      (fun e37 => R (.panicked e37)))
theorem B_rank_table_row_0_eq (W : World) (R : Ending → Hp → Prop) (zp0 : Option Addr) (zv1 : Value) (zn2 : Int) (zv3 : Value) (za4 : Addr) (za5 : Addr) (zn6 : Int) (n9 : Int) (nx0 : List Value → Hp → Prop) (j : Tm) : vc Pg W 43 rs_49 an_49 false (sub (bodyOf Try.f49) [1, 1, 0, 1, 0, 0]) 0 (KLoop [16] [0, 1, 2, 3, 8, 9, 15, 43] [(.pointer zp0), zv1, (.int .i64 zn2), zv3, (.pointer (some za4)), (.pointer (some za5)), (.int .i64 zn6), (.tuple #[])] nx0 (KBlk 0 (KS Pg W 43 rs_49 an_49 false (sub (bodyOf Try.f49) [1, 1, 1]) 0 (fin Pg W 43 rv_49 R)))) (known [16] [(.int .i64 n9)] (known [0, 1, 2, 3, 8, 9, 15, 43] [(.pointer zp0), zv1, (.int .i64 zn2), zv3, (.pointer (some za4)), (.pointer (some za5)), (.int .i64 zn6), (.tuple #[])] j)) = B_rank_table_row_0 W R zp0 zv1 zn2 zv3 za4 za5 zn6 n9 nx0 := by kernel_rfl
def N_rank_table_row_0 (I : Int → Hp → Prop) (μ : Int → Hp → Nat) (n90 : Int) (s : Hp) (vs : List Value) : Hp → Prop := fun s' => ∃ n9, vs = [(.int .i64 n9)] ∧ I n9 s' ∧ μ n9 s' < μ n90 s
theorem L_rank_table_row_0_rule (W : World) (R : Ending → Hp → Prop) (zp0 : Option Addr) (zv1 : Value) (zn2 : Int) (zv3 : Value) (za4 : Addr) (za5 : Addr) (zn6 : Int) (I : Int → Hp → Prop) (μ : Int → Hp → Nat) (n90 : Int) (s : Hp) (h0 : I n90 s)
    (hr : ∀ (n9 : Int) (s : Hp), I n9 s → B_rank_table_row_0 W R zp0 zv1 zn2 zv3 za4 za5 zn6 n9 (fun vs => N_rank_table_row_0 I μ n9 s vs) s) : L_rank_table_row_0 W R zp0 zv1 zn2 zv3 za4 za5 zn6 n90 s := by
  refine ⟨fun vs s => ∃ n9, vs = [(.int .i64 n9)] ∧ I n9 s, fun vs s => (match vs with | [.int _ n9] => μ n9 s | _ => 0), ⟨⟨⟨_, rfl⟩, trivial⟩, ⟨_, rfl, h0⟩⟩, ?_⟩
  intro n9 s hI j
  obtain ⟨n9', hy, hI⟩ := hI
  have hI' : I n9 s := by cases hy; exact hI
  have hh := hr n9 s hI'
  rw [← B_rank_table_row_0_eq W R zp0 zv1 zn2 zv3 za4 za5 zn6 n9 _ j] at hh
  refine vc_mono ?_ _ _ hh
  exact KLoop_mono (fun vs s' h => by obtain ⟨n91, rfl, h1, h2⟩ := h; exact ⟨⟨⟨_, rfl⟩, trivial⟩, ⟨_, rfl, h1⟩, h2⟩)
def T_rank_table_row (W : World) (p1 : Option Addr) (v2 : Value) (n3 : Int) (v4 : Value) (R : Ending → Hp → Prop) : Hp → Prop :=
  NEWZ Pg 74 fun B5 =>
    NEWZ Pg 74 fun B6 =>
      SO p1 fun a7 =>
        RDI .i64 (Addr.add (Addr.add a7 0) 1) fun n8 =>
          L_rank_table_row_0 W R p1 v2 n3 v4 ⟨B5, 0, none⟩ ⟨B6, 0, none⟩ n8 0
theorem T_rank_table_row_eq (W : World) (p1 : Option Addr) (v2 : Value) (n3 : Int) (v4 : Value) (R : Ending → Hp → Prop) : vfun Pg W an_49 Try.f49 [(.pointer p1), v2, (.int .i64 n3), v4] R = T_rank_table_row W p1 v2 n3 v4 R := by kernel_rfl
theorem does_rank_table_row (W : World) (p1 : Option Addr) (v2 : Value) (n3 : Int) (v4 : Value) (R : Ending → Hp → Prop) (s : Hp) (h : T_rank_table_row W p1 v2 n3 v4 R s) : Does Pg W F_rank_table_row #[(.pointer p1), v2, (.int .i64 n3), v4] s R :=
  does_of_vfun Pg W an_49 Try.func49 rfl (by kernel_rfl) (by rw [T_rank_table_row_eq]; exact h)
def an_50 : Nat → Ann := fun b => match b with
  | _ => {}
abbrev rv_50 : List ResultVar := [.cell 0 80]
abbrev rs_50 : List Nat := [2, 0]
def T_rank_both (W : World) (R : Ending → Hp → Prop) : Hp → Prop :=
  NEWZ Pg 80 fun B1 =>
    WR (Addr.add ⟨B1, 0, none⟩ 0) (.func (.func 75) #[] #[]) <|
      WR (Addr.add ⟨B1, 0, none⟩ 1) (.func (.func 76) #[] #[]) <|
        RDV (Addr.add ⟨B1, 0, none⟩ 0) fun v2 =>
          RDV (Addr.add ⟨B1, 0, none⟩ 1) fun v3 =>
            R (.returned (.agg #[v2, v3]))
theorem T_rank_both_eq (W : World) (R : Ending → Hp → Prop) : vfun Pg W an_50 Try.f50 [] R = T_rank_both W R := by kernel_rfl
theorem does_rank_both (W : World) (R : Ending → Hp → Prop) (s : Hp) (h : T_rank_both W R s) : Does Pg W F_rank_both #[] s R :=
  does_of_vfun Pg W an_50 Try.func50 rfl (by kernel_rfl) (by rw [T_rank_both_eq]; exact h)
def an_55 : Nat → Ann := fun b => match b with
  | _ => {}
abbrev rv_55 : List ResultVar := [.tmp 8]
abbrev rs_55 : List Nat := [31, 8]
def T_rank_table_surely (W : World) (p1 : Option Addr) (v2 : Value) (n3 : Int) (n4 : Int) (R : Ending → Hp → Prop) : Hp → Prop :=
  CALL Pg W F_rank_both []
    (fun v5 => AGG v5 fun q7 => HD q7 fun v8 r9 => HD r9 fun v10 r11 => NL r11 <|
      CALL Pg W F_rank_table_row [(.pointer p1), v2, (.int .i64 n3), v8]
        (fun v12 => AGG v12 fun q14 => HD q14 fun v15 r16 => TYI .i64 v15 fun n17 =>
          HD r16 fun v18 r19 => TYI .i64 v18 fun n20 =>
            HD r19 fun v21 r22 => TYI .i64 v21 fun n23 =>
              HD r22 fun v24 r25 => TYI .i64 v24 fun n26 =>
                HD r25 fun v27 r28 => TYI .i64 v27 fun n29 =>
                  HD r28 fun v30 r31 => TYI .i64 v30 fun n32 =>
                    NL r31 <|
                      CALL Pg W F_rank_both []
                        (fun v33 => AGG v33 fun q35 => HD q35 fun v36 r37 => HD r37 fun v38 r39 => NL r39 <|
                          CALL Pg W F_rank_table_row [(.pointer p1), v2, (.int .i64 n4), v38]
                            (fun v40 => AGG v40 fun q42 => HD q42 fun v43 r44 => TYI .i64 v43 fun n45 =>
                              HD r44 fun v46 r47 => TYI .i64 v46 fun n48 =>
                                HD r47 fun v49 r50 => TYI .i64 v49 fun n51 =>
                                  HD r50 fun v52 r53 => TYI .i64 v52 fun n54 =>
                                    HD r53 fun v55 r56 => TYI .i64 v55 fun n57 =>
                                      HD r56 fun v58 r59 => TYI .i64 v58 fun n60 =>
                                        NL r59 <|
                                          NEWZ Pg 74 fun B61 =>
                                            NEWZ Pg 74 fun B62 =>
                                              WR (Addr.add ⟨B61, 0, none⟩ 0) (.int .i64 n17) <|
                                                WR (Addr.add ⟨B61, 0, none⟩ 1) (.int .i64 n20) <|
                                                  WR (Addr.add ⟨B61, 0, none⟩ 2) (.int .i64 n23) <|
                                                    WR (Addr.add ⟨B61, 0, none⟩ 3) (.int .i64 n26) <|
                                                      WR (Addr.add ⟨B61, 0, none⟩ 4) (.int .i64 n29) <|
                                                        WR (Addr.add ⟨B61, 0, none⟩ 5) (.int .i64 n32) <|
                                                          WR (Addr.add ⟨B62, 0, none⟩ 0) (.int .i64 n45) <|
                                                            WR (Addr.add ⟨B62, 0, none⟩ 1) (.int .i64 n48) <|
                                                              WR (Addr.add ⟨B62, 0, none⟩ 2) (.int .i64 n51) <|
                                                                WR (Addr.add ⟨B62, 0, none⟩ 3) (.int .i64 n54) <|
                                                                  WR (Addr.add ⟨B62, 0, none⟩ 4) (.int .i64 n57) <|
                                                                    WR (Addr.add ⟨B62, 0, none⟩ 5) (.int .i64 n60) <|
                                                                      CONJ [
                                                                        BR (n3 != n4)
                                                                          (SLS (some ⟨B61, 0, none⟩) 6 0 6 1 fun x63 l64 c65 =>
                                                                            SLS (some ⟨B62, 0, none⟩) 6 0 6 1 fun x66 l67 c68 =>
                                                                              CALL Pg W F_rank_ahead_int [(.slice x63 l64 c65), (.slice x66 l67 c68)]
                                                                                (fun v69 => TYB v69 fun b71 =>
                                                                                  R (.returned (.bool b71)))
                                                                                  (fun e70 => R (.panicked e70)))
                                                                          (R (.returned (.bool false))),
                                                                        BR (n3 != n4)
                                                                          (SLS (some ⟨B62, 0, none⟩) 6 0 6 1 fun x72 l73 c74 =>
                                                                            SLS (some ⟨B61, 0, none⟩) 6 0 6 1 fun x75 l76 c77 =>
                                                                              CALL Pg W F_rank_ahead_int [(.slice x75 l76 c77), (.slice x72 l73 c74)]
                                                                                (fun v78 => TYB v78 fun b80 =>
                                                                                  R (.returned (.bool b80)))
                                                                                  (fun e79 => R (.panicked e79)))
                                                                          (R (.returned (.bool false)))])
                              (fun e41 => R (.panicked e41)))
                          (fun e34 => R (.panicked e34)))
          (fun e13 => R (.panicked e13)))
      (fun e6 => R (.panicked e6))
theorem T_rank_table_surely_eq (W : World) (p1 : Option Addr) (v2 : Value) (n3 : Int) (n4 : Int) (R : Ending → Hp → Prop) : vfun Pg W an_55 Try.f55 [(.pointer p1), v2, (.int .i64 n3), (.int .i64 n4)] R = T_rank_table_surely W p1 v2 n3 n4 R := by kernel_rfl
theorem does_rank_table_surely (W : World) (p1 : Option Addr) (v2 : Value) (n3 : Int) (n4 : Int) (R : Ending → Hp → Prop) (s : Hp) (h : T_rank_table_surely W p1 v2 n3 n4 R s) : Does Pg W F_rank_table_surely #[(.pointer p1), v2, (.int .i64 n3), (.int .i64 n4)] s R :=
  does_of_vfun Pg W an_55 Try.func55 rfl (by kernel_rfl) (by rw [T_rank_table_surely_eq]; exact h)
def an_56 : Nat → Ann := fun b => match b with
  | _ => {}
abbrev rv_56 : List ResultVar := [.tmp 8]
abbrev rs_56 : List Nat := [31, 8]
def T_rank_table_can (W : World) (p1 : Option Addr) (v2 : Value) (n3 : Int) (n4 : Int) (R : Ending → Hp → Prop) : Hp → Prop :=
  CALL Pg W F_rank_both []
    (fun v5 => AGG v5 fun q7 => HD q7 fun v8 r9 => HD r9 fun v10 r11 => NL r11 <|
      CALL Pg W F_rank_table_row [(.pointer p1), v2, (.int .i64 n3), v10]
        (fun v12 => AGG v12 fun q14 => HD q14 fun v15 r16 => TYI .i64 v15 fun n17 =>
          HD r16 fun v18 r19 => TYI .i64 v18 fun n20 =>
            HD r19 fun v21 r22 => TYI .i64 v21 fun n23 =>
              HD r22 fun v24 r25 => TYI .i64 v24 fun n26 =>
                HD r25 fun v27 r28 => TYI .i64 v27 fun n29 =>
                  HD r28 fun v30 r31 => TYI .i64 v30 fun n32 =>
                    NL r31 <|
                      CALL Pg W F_rank_both []
                        (fun v33 => AGG v33 fun q35 => HD q35 fun v36 r37 => HD r37 fun v38 r39 => NL r39 <|
                          CALL Pg W F_rank_table_row [(.pointer p1), v2, (.int .i64 n4), v36]
                            (fun v40 => AGG v40 fun q42 => HD q42 fun v43 r44 => TYI .i64 v43 fun n45 =>
                              HD r44 fun v46 r47 => TYI .i64 v46 fun n48 =>
                                HD r47 fun v49 r50 => TYI .i64 v49 fun n51 =>
                                  HD r50 fun v52 r53 => TYI .i64 v52 fun n54 =>
                                    HD r53 fun v55 r56 => TYI .i64 v55 fun n57 =>
                                      HD r56 fun v58 r59 => TYI .i64 v58 fun n60 =>
                                        NL r59 <|
                                          NEWZ Pg 74 fun B61 =>
                                            NEWZ Pg 74 fun B62 =>
                                              WR (Addr.add ⟨B61, 0, none⟩ 0) (.int .i64 n17) <|
                                                WR (Addr.add ⟨B61, 0, none⟩ 1) (.int .i64 n20) <|
                                                  WR (Addr.add ⟨B61, 0, none⟩ 2) (.int .i64 n23) <|
                                                    WR (Addr.add ⟨B61, 0, none⟩ 3) (.int .i64 n26) <|
                                                      WR (Addr.add ⟨B61, 0, none⟩ 4) (.int .i64 n29) <|
                                                        WR (Addr.add ⟨B61, 0, none⟩ 5) (.int .i64 n32) <|
                                                          WR (Addr.add ⟨B62, 0, none⟩ 0) (.int .i64 n45) <|
                                                            WR (Addr.add ⟨B62, 0, none⟩ 1) (.int .i64 n48) <|
                                                              WR (Addr.add ⟨B62, 0, none⟩ 2) (.int .i64 n51) <|
                                                                WR (Addr.add ⟨B62, 0, none⟩ 3) (.int .i64 n54) <|
                                                                  WR (Addr.add ⟨B62, 0, none⟩ 4) (.int .i64 n57) <|
                                                                    WR (Addr.add ⟨B62, 0, none⟩ 5) (.int .i64 n60) <|
                                                                      CONJ [
                                                                        BR (n3 != n4)
                                                                          (SLS (some ⟨B61, 0, none⟩) 6 0 6 1 fun x63 l64 c65 =>
                                                                            SLS (some ⟨B62, 0, none⟩) 6 0 6 1 fun x66 l67 c68 =>
                                                                              CALL Pg W F_rank_ahead_int [(.slice x63 l64 c65), (.slice x66 l67 c68)]
                                                                                (fun v69 => TYB v69 fun b71 =>
                                                                                  R (.returned (.bool b71)))
                                                                                  (fun e70 => R (.panicked e70)))
                                                                          (R (.returned (.bool false))),
                                                                        BR (n3 != n4)
                                                                          (SLS (some ⟨B62, 0, none⟩) 6 0 6 1 fun x72 l73 c74 =>
                                                                            SLS (some ⟨B61, 0, none⟩) 6 0 6 1 fun x75 l76 c77 =>
                                                                              CALL Pg W F_rank_ahead_int [(.slice x75 l76 c77), (.slice x72 l73 c74)]
                                                                                (fun v78 => TYB v78 fun b80 =>
                                                                                  R (.returned (.bool b80)))
                                                                                  (fun e79 => R (.panicked e79)))
                                                                          (R (.returned (.bool false)))])
                              (fun e41 => R (.panicked e41)))
                          (fun e34 => R (.panicked e34)))
          (fun e13 => R (.panicked e13)))
      (fun e6 => R (.panicked e6))
theorem T_rank_table_can_eq (W : World) (p1 : Option Addr) (v2 : Value) (n3 : Int) (n4 : Int) (R : Ending → Hp → Prop) : vfun Pg W an_56 Try.f56 [(.pointer p1), v2, (.int .i64 n3), (.int .i64 n4)] R = T_rank_table_can W p1 v2 n3 n4 R := by kernel_rfl
theorem does_rank_table_can (W : World) (p1 : Option Addr) (v2 : Value) (n3 : Int) (n4 : Int) (R : Ending → Hp → Prop) (s : Hp) (h : T_rank_table_can W p1 v2 n3 n4 R s) : Does Pg W F_rank_table_can #[(.pointer p1), v2, (.int .i64 n3), (.int .i64 n4)] s R :=
  does_of_vfun Pg W an_56 Try.func56 rfl (by kernel_rfl) (by rw [T_rank_table_can_eq]; exact h)
def an_59 : Nat → Ann := fun b => match b with
  | 0 => { ms := [22], ks := [.i .i64], us := [0, 1, 2, 6, 7, 20, 21, 49], rt := false, ex := [] }
  | 2 => { ms := [31], ks := [.i .i64], us := [0, 1, 2, 6, 7, 9, 20, 21, 22, 30, 49], rt := false, ex := [] }
  | _ => {}
abbrev rv_59 : List ResultVar := [.cell 6 29]
abbrev rs_59 : List Nat := [49, 6]
def L_rank_table_place_0 (W : World) (R : Ending → Hp → Prop) (zp0 : Option Addr) (zv1 : Value) (zn2 : Int) (za3 : Addr) (za4 : Addr) (za5 : Addr) (n7 : Int) : Hp → Prop :=
  LOOPN [.i .i64] (fun ys next s => ∀ j : Tm, vc Pg W 49 rs_59 an_59 false (sub (bodyOf Try.f59) [1, 1, 0, 1, 0, 0]) 0 (KLoop [22] [0, 1, 2, 6, 7, 20, 21, 49] [(.pointer zp0), zv1, (.int .i64 zn2), (.pointer (some za3)), (.pointer (some za4)), (.slice (some za5) 2 2), (.int .i64 2), (.tuple #[])] next (KBlk 0 (KS Pg W 49 rs_59 an_59 false (sub (bodyOf Try.f59) [1, 1, 1]) 0 (fin Pg W 49 rv_59 R)))) (known [22] ys (known [0, 1, 2, 6, 7, 20, 21, 49] [(.pointer zp0), zv1, (.int .i64 zn2), (.pointer (some za3)), (.pointer (some za4)), (.slice (some za5) 2 2), (.int .i64 2), (.tuple #[])] j)) s) [(.int .i64 n7)]
def L_rank_table_place_1 (W : World) (R : Ending → Hp → Prop) (nx0 : List Value → Hp → Prop) (zp0 : Option Addr) (zv1 : Value) (zn2 : Int) (za3 : Addr) (za4 : Addr) (za5 : Addr) (za6 : Addr) (zn7 : Int) (zn8 : Int) (n18 : Int) : Hp → Prop :=
  LOOPN [.i .i64] (fun ys next s => ∀ j : Tm, vc Pg W 49 rs_59 an_59 false (sub (bodyOf Try.f59) [1, 1, 0, 1, 0, 0, 1, 1, 0, 0, 1, 1, 0, 0]) 2 (KLoop [31] [0, 1, 2, 6, 7, 9, 20, 21, 22, 30, 49] [(.pointer zp0), zv1, (.int .i64 zn2), (.pointer (some za3)), (.pointer (some za4)), (.pointer (some za5)), (.slice (some za6) 2 2), (.int .i64 2), (.int .i64 zn7), (.int .i64 zn8), (.tuple #[])] next (KBlk 2 (KBlk 1 (KS Pg W 49 rs_59 an_59 false (sub (bodyOf Try.f59) [1, 1, 0, 1, 0, 0, 1, 1, 1]) 0 (KLoop [22] [0, 1, 2, 6, 7, 20, 21, 49] [(.pointer zp0), zv1, (.int .i64 zn2), (.pointer (some za3)), (.pointer (some za4)), (.slice (some za6) 2 2), (.int .i64 2), (.tuple #[])] nx0 (KBlk 0 (KS Pg W 49 rs_59 an_59 false (sub (bodyOf Try.f59) [1, 1, 1]) 0 (fin Pg W 49 rv_59 R)))))))) (known [31] ys (known [0, 1, 2, 6, 7, 9, 20, 21, 22, 30, 49] [(.pointer zp0), zv1, (.int .i64 zn2), (.pointer (some za3)), (.pointer (some za4)), (.pointer (some za5)), (.slice (some za6) 2 2), (.int .i64 2), (.int .i64 zn7), (.int .i64 zn8), (.tuple #[])] j)) s) [(.int .i64 n18)]
def J_rank_table_place_0 (W : World) (R : Ending → Hp → Prop) (zp0 : Option Addr) (zv1 : Value) (zn2 : Int) (za3 : Addr) (za4 : Addr) (za5 : Addr) (za6 : Addr) (zn7 : Int) (zn8 : Int) (nx1 : List Value → Hp → Prop) (n18 : Int) : Hp → Prop :=
  NX [(.pointer zp0), zv1, (.int .i64 zn2), (.pointer (some za3)), (.pointer (some za4)), (.pointer (some za5)), (.slice (some za6) 2 2), (.int .i64 2), (.int .i64 zn7), (.int .i64 zn8), (.tuple #[])] [(.pointer zp0), zv1, (.int .i64 zn2), (.pointer (some za3)), (.pointer (some za4)), (.pointer (some za5)), (.slice (some za6) 2 2), (.int .i64 2), (.int .i64 zn7), (.int .i64 zn8), (.tuple #[])] (nx1 [(.int .i64 (IntKind.wrap .i64 (n18 + 1)))])
def B_rank_table_place_0 (W : World) (R : Ending → Hp → Prop) (zp0 : Option Addr) (zv1 : Value) (zn2 : Int) (za3 : Addr) (za4 : Addr) (za5 : Addr) (n7 : Int) (nx0 : List Value → Hp → Prop) : Hp → Prop :=
  BR (decide (n7 < 2))
    (IXS (some za5) 2 n7 2 fun a8 =>
      RDP (Addr.add a8 0) fun p9 =>
        RDV (Addr.add a8 1) fun v10 =>
          NEWZ Pg 116 fun B11 =>
            WR (Addr.add ⟨B11, 0, none⟩ 0) (.pointer p9) <|
              WR (Addr.add ⟨B11, 0, none⟩ 1) v10 <|
                SO zp0 fun a12 =>
                  RDI .i64 (Addr.add (Addr.add a12 0) 0) fun n13 =>
                    L_rank_table_place_1 W R nx0 zp0 zv1 zn2 za3 za4 ⟨B11, 0, none⟩ za5 n7 n13 0)
    (RDI .i64 (Addr.add za4 0) fun n14 =>
      RDI .i64 (Addr.add za4 1) fun n15 =>
        WR (Addr.add za3 0) (.int .i64 n14) <|
          WR (Addr.add za3 1) (.int .i64 n15) <|
            RDI .i64 (Addr.add za3 0) fun n16 =>
              RDI .i64 (Addr.add za3 1) fun n17 =>
                R (.returned (.agg #[(.int .i64 n16), (.int .i64 n17)])))
theorem B_rank_table_place_0_eq (W : World) (R : Ending → Hp → Prop) (zp0 : Option Addr) (zv1 : Value) (zn2 : Int) (za3 : Addr) (za4 : Addr) (za5 : Addr) (n7 : Int) (nx0 : List Value → Hp → Prop) (j : Tm) : vc Pg W 49 rs_59 an_59 false (sub (bodyOf Try.f59) [1, 1, 0, 1, 0, 0]) 0 (KLoop [22] [0, 1, 2, 6, 7, 20, 21, 49] [(.pointer zp0), zv1, (.int .i64 zn2), (.pointer (some za3)), (.pointer (some za4)), (.slice (some za5) 2 2), (.int .i64 2), (.tuple #[])] nx0 (KBlk 0 (KS Pg W 49 rs_59 an_59 false (sub (bodyOf Try.f59) [1, 1, 1]) 0 (fin Pg W 49 rv_59 R)))) (known [22] [(.int .i64 n7)] (known [0, 1, 2, 6, 7, 20, 21, 49] [(.pointer zp0), zv1, (.int .i64 zn2), (.pointer (some za3)), (.pointer (some za4)), (.slice (some za5) 2 2), (.int .i64 2), (.tuple #[])] j)) = B_rank_table_place_0 W R zp0 zv1 zn2 za3 za4 za5 n7 nx0 := by kernel_rfl
def N_rank_table_place_0 (I : Int → Hp → Prop) (μ : Int → Hp → Nat) (n70 : Int) (s : Hp) (vs : List Value) : Hp → Prop := fun s' => ∃ n7, vs = [(.int .i64 n7)] ∧ I n7 s' ∧ μ n7 s' < μ n70 s
theorem L_rank_table_place_0_rule (W : World) (R : Ending → Hp → Prop) (zp0 : Option Addr) (zv1 : Value) (zn2 : Int) (za3 : Addr) (za4 : Addr) (za5 : Addr) (I : Int → Hp → Prop) (μ : Int → Hp → Nat) (n70 : Int) (s : Hp) (h0 : I n70 s)
    (hr : ∀ (n7 : Int) (s : Hp), I n7 s → B_rank_table_place_0 W R zp0 zv1 zn2 za3 za4 za5 n7 (fun vs => N_rank_table_place_0 I μ n7 s vs) s) : L_rank_table_place_0 W R zp0 zv1 zn2 za3 za4 za5 n70 s := by
  refine ⟨fun vs s => ∃ n7, vs = [(.int .i64 n7)] ∧ I n7 s, fun vs s => (match vs with | [.int _ n7] => μ n7 s | _ => 0), ⟨⟨⟨_, rfl⟩, trivial⟩, ⟨_, rfl, h0⟩⟩, ?_⟩
  intro n7 s hI j
  obtain ⟨n7', hy, hI⟩ := hI
  have hI' : I n7 s := by cases hy; exact hI
  have hh := hr n7 s hI'
  rw [← B_rank_table_place_0_eq W R zp0 zv1 zn2 za3 za4 za5 n7 _ j] at hh
  refine vc_mono ?_ _ _ hh
  exact KLoop_mono (fun vs s' h => by obtain ⟨n71, rfl, h1, h2⟩ := h; exact ⟨⟨⟨_, rfl⟩, trivial⟩, ⟨_, rfl, h1⟩, h2⟩)
def B_rank_table_place_1 (W : World) (R : Ending → Hp → Prop) (nx0 : List Value → Hp → Prop) (zp0 : Option Addr) (zv1 : Value) (zn2 : Int) (za3 : Addr) (za4 : Addr) (za5 : Addr) (za6 : Addr) (zn7 : Int) (zn8 : Int) (n18 : Int) (nx1 : List Value → Hp → Prop) : Hp → Prop :=
  BR (decide (n18 < zn8))
    (RDV (Addr.add za5 1) fun v19 =>
      CALLV Pg W v19 [zv1, (.int .i64 n18), (.int .i64 zn2)]
        (fun v20 => TYB v20 fun b22 =>
          BR b22
            (RDP (Addr.add za5 0) fun p23 =>
              SO p23 fun a24 =>
                RDI .i64 a24 fun n25 =>
                  SO p23 fun a26 =>
                    WR (Addr.add a26 0) (.int .i64 (IntKind.wrap .i64 (n25 + 1))) <|
                      J_rank_table_place_0 W R zp0 zv1 zn2 za3 za4 za5 za6 zn7 zn8 nx1 n18)
            (J_rank_table_place_0 W R zp0 zv1 zn2 za3 za4 za5 za6 zn7 zn8 nx1 n18))
          (fun e21 => R (.panicked e21)))
    (NX [(.pointer zp0), zv1, (.int .i64 zn2), (.pointer (some za3)), (.pointer (some za4)), (.slice (some za6) 2 2), (.int .i64 2), (.tuple #[])] [(.pointer zp0), zv1, (.int .i64 zn2), (.pointer (some za3)), (.pointer (some za4)), (.slice (some za6) 2 2), (.int .i64 2), (.tuple #[])] (nx0 [(.int .i64 (IntKind.wrap .i64 (zn7 + 1)))]))
theorem B_rank_table_place_1_eq (W : World) (R : Ending → Hp → Prop) (nx0 : List Value → Hp → Prop) (zp0 : Option Addr) (zv1 : Value) (zn2 : Int) (za3 : Addr) (za4 : Addr) (za5 : Addr) (za6 : Addr) (zn7 : Int) (zn8 : Int) (n18 : Int) (nx1 : List Value → Hp → Prop) (j : Tm) : vc Pg W 49 rs_59 an_59 false (sub (bodyOf Try.f59) [1, 1, 0, 1, 0, 0, 1, 1, 0, 0, 1, 1, 0, 0]) 2 (KLoop [31] [0, 1, 2, 6, 7, 9, 20, 21, 22, 30, 49] [(.pointer zp0), zv1, (.int .i64 zn2), (.pointer (some za3)), (.pointer (some za4)), (.pointer (some za5)), (.slice (some za6) 2 2), (.int .i64 2), (.int .i64 zn7), (.int .i64 zn8), (.tuple #[])] nx1 (KBlk 2 (KBlk 1 (KS Pg W 49 rs_59 an_59 false (sub (bodyOf Try.f59) [1, 1, 0, 1, 0, 0, 1, 1, 1]) 0 (KLoop [22] [0, 1, 2, 6, 7, 20, 21, 49] [(.pointer zp0), zv1, (.int .i64 zn2), (.pointer (some za3)), (.pointer (some za4)), (.slice (some za6) 2 2), (.int .i64 2), (.tuple #[])] nx0 (KBlk 0 (KS Pg W 49 rs_59 an_59 false (sub (bodyOf Try.f59) [1, 1, 1]) 0 (fin Pg W 49 rv_59 R)))))))) (known [31] [(.int .i64 n18)] (known [0, 1, 2, 6, 7, 9, 20, 21, 22, 30, 49] [(.pointer zp0), zv1, (.int .i64 zn2), (.pointer (some za3)), (.pointer (some za4)), (.pointer (some za5)), (.slice (some za6) 2 2), (.int .i64 2), (.int .i64 zn7), (.int .i64 zn8), (.tuple #[])] j)) = B_rank_table_place_1 W R nx0 zp0 zv1 zn2 za3 za4 za5 za6 zn7 zn8 n18 nx1 := by kernel_rfl
def N_rank_table_place_1 (I : Int → Hp → Prop) (μ : Int → Hp → Nat) (n180 : Int) (s : Hp) (vs : List Value) : Hp → Prop := fun s' => ∃ n18, vs = [(.int .i64 n18)] ∧ I n18 s' ∧ μ n18 s' < μ n180 s
theorem L_rank_table_place_1_rule (W : World) (R : Ending → Hp → Prop) (nx0 : List Value → Hp → Prop) (zp0 : Option Addr) (zv1 : Value) (zn2 : Int) (za3 : Addr) (za4 : Addr) (za5 : Addr) (za6 : Addr) (zn7 : Int) (zn8 : Int) (I : Int → Hp → Prop) (μ : Int → Hp → Nat) (n180 : Int) (s : Hp) (h0 : I n180 s)
    (hr : ∀ (n18 : Int) (s : Hp), I n18 s → B_rank_table_place_1 W R nx0 zp0 zv1 zn2 za3 za4 za5 za6 zn7 zn8 n18 (fun vs => N_rank_table_place_1 I μ n18 s vs) s) : L_rank_table_place_1 W R nx0 zp0 zv1 zn2 za3 za4 za5 za6 zn7 zn8 n180 s := by
  refine ⟨fun vs s => ∃ n18, vs = [(.int .i64 n18)] ∧ I n18 s, fun vs s => (match vs with | [.int _ n18] => μ n18 s | _ => 0), ⟨⟨⟨_, rfl⟩, trivial⟩, ⟨_, rfl, h0⟩⟩, ?_⟩
  intro n18 s hI j
  obtain ⟨n18', hy, hI⟩ := hI
  have hI' : I n18 s := by cases hy; exact hI
  have hh := hr n18 s hI'
  rw [← B_rank_table_place_1_eq W R nx0 zp0 zv1 zn2 za3 za4 za5 za6 zn7 zn8 n18 _ j] at hh
  refine vc_mono ?_ _ _ hh
  exact KLoop_mono (fun vs s' h => by obtain ⟨n181, rfl, h1, h2⟩ := h; exact ⟨⟨⟨_, rfl⟩, trivial⟩, ⟨_, rfl, h1⟩, h2⟩)
def T_rank_table_place (W : World) (p1 : Option Addr) (v2 : Value) (n3 : Int) (R : Ending → Hp → Prop) : Hp → Prop :=
  NEWZ Pg 29 fun B4 =>
    NEWZ Pg 29 fun B5 =>
      WR (Addr.add ⟨B5, 0, none⟩ 0) (.int .i64 1) <|
        WR (Addr.add ⟨B5, 0, none⟩ 1) (.int .i64 1) <|
          NEW 116 [(.pointer (some (Addr.add ⟨B5, 0, none⟩ 0))), (.func (.func 55) #[(.pointer p1)] #[]), (.pointer (some (Addr.add ⟨B5, 0, none⟩ 1))), (.func (.func 56) #[(.pointer p1)] #[])] fun B6 =>
            L_rank_table_place_0 W R p1 v2 n3 ⟨B4, 0, none⟩ ⟨B5, 0, none⟩ ⟨B6, 0, none⟩ 0
theorem T_rank_table_place_eq (W : World) (p1 : Option Addr) (v2 : Value) (n3 : Int) (R : Ending → Hp → Prop) : vfun Pg W an_59 Try.f59 [(.pointer p1), v2, (.int .i64 n3)] R = T_rank_table_place W p1 v2 n3 R := by kernel_rfl
theorem does_rank_table_place (W : World) (p1 : Option Addr) (v2 : Value) (n3 : Int) (R : Ending → Hp → Prop) (s : Hp) (h : T_rank_table_place W p1 v2 n3 R s) : Does Pg W F_rank_table_place #[(.pointer p1), v2, (.int .i64 n3)] s R :=
  does_of_vfun Pg W an_59 Try.func59 rfl (by kernel_rfl) (by rw [T_rank_table_place_eq]; exact h)
def an_62 : Nat → Ann := fun b => match b with
  | _ => {}
abbrev rv_62 : List ResultVar := [.cell 4 29]
abbrev rs_62 : List Nat := [20, 4]
def J_rank_plain_of_0 (W : World) (R : Ending → Hp → Prop) (b32 : Bool) (p31 : Option Addr) (B6 : Nat) : Hp → Prop :=
  BR b32
    (SO p31 fun a33 =>
      RDI .i64 (Addr.add a33 0) fun n34 =>
        RDI .i64 (Addr.add a33 1) fun n35 =>
          WR (Addr.add ⟨B6, 0, none⟩ 0) (.int .i64 n34) <|
            WR (Addr.add ⟨B6, 0, none⟩ 1) (.int .i64 n35) <|
              RDI .i64 (Addr.add ⟨B6, 0, none⟩ 0) fun n36 =>
                RDI .i64 (Addr.add ⟨B6, 0, none⟩ 1) fun n37 =>
                  R (.returned (.agg #[(.int .i64 n36), (.int .i64 n37)])))
    (WR (Addr.add ⟨B6, 0, none⟩ 0) (.int .i64 0) <|
      WR (Addr.add ⟨B6, 0, none⟩ 1) (.int .i64 40) <|
        RDI .i64 (Addr.add ⟨B6, 0, none⟩ 0) fun n38 =>
          RDI .i64 (Addr.add ⟨B6, 0, none⟩ 1) fun n39 =>
            R (.returned (.agg #[(.int .i64 n38), (.int .i64 n39)])))
def T_rank_plain_of (W : World) (p1 : Option Addr) (n2 : Int) (n3 : Int) (R : Ending → Hp → Prop) : Hp → Prop :=
  NEW 77 [(.pointer p1)] fun B4 =>
    NEW 94 [(.int .i64 n2), (.int .i64 n3)] fun B5 =>
      NEWZ Pg 29 fun B6 =>
        RDP (Addr.add ⟨B4, 0, none⟩ 0) fun p7 =>
          SO p7 fun a8 =>
            RDM (Addr.add a8 4) fun m9 =>
              RDI .i64 (Addr.add ⟨B5, 0, none⟩ 0) fun n10 =>
                RDI .i64 (Addr.add ⟨B5, 0, none⟩ 1) fun n11 =>
                  CONJ [
                    LKP Pg 89 (.map m9) (.agg #[(.int .i64 n10), (.int .i64 n11)]) true fun v12 =>
                      TUP v12 fun q13 => HD q13 fun v14 r15 => AGG v14 fun q16 => HD q16 fun v17 r18 => TYI .i64 v17 fun n19 =>
                        HD r18 fun v20 r21 => TYI .i64 v20 fun n22 =>
                          NL r21 <|
                            HD r15 fun v23 r24 => TYB v23 fun b25 =>
                              NL r24 <|
                                NEWZ Pg 29 fun B26 =>
                                  ANDS (RDI .i64 (Addr.add ⟨B5, 0, none⟩ 0) fun n27 =>
                                    RDI .i64 (Addr.add ⟨B5, 0, none⟩ 1) fun n28 =>
                                      fun _ => ((.agg #[(.int .i64 n27), (.int .i64 n28)]) : Value) = (.agg #[(.int .i64 n10), (.int .i64 n11)])) <|
                                    ANDS (RDM (Addr.add a8 4) fun m29 =>
                                      fun _ => ((.map m29) : Value) = (.map m9)) <|
                                      ANDS (RDP (Addr.add ⟨B4, 0, none⟩ 0) fun p30 =>
                                        fun _ => ((.pointer p30) : Value) = (.pointer p7)) <|
                                        WR (Addr.add ⟨B26, 0, none⟩ 0) (.int .i64 n19) <|
                                          WR (Addr.add ⟨B26, 0, none⟩ 1) (.int .i64 n22) <|
                                            J_rank_plain_of_0 W R b25 (some ⟨B26, 0, none⟩) B6,
                    NEWZ Pg 29 fun B40 =>
                      ANDS (RDI .i64 (Addr.add ⟨B5, 0, none⟩ 0) fun n41 =>
                        RDI .i64 (Addr.add ⟨B5, 0, none⟩ 1) fun n42 =>
                          fun _ => ((.agg #[(.int .i64 n41), (.int .i64 n42)]) : Value) = (.agg #[(.int .i64 n10), (.int .i64 n11)])) <|
                        ANDS (RDM (Addr.add a8 4) fun m43 =>
                          fun _ => ((.map m43) : Value) = (.map m9)) <|
                          ANDS (RDP (Addr.add ⟨B4, 0, none⟩ 0) fun p44 =>
                            fun _ => ((.pointer p44) : Value) = (.pointer p7)) <|
                            LKP Pg 89 (.map m9) (.agg #[(.int .i64 n10), (.int .i64 n11)]) true fun v45 =>
                              TUP v45 fun q46 => HD q46 fun v47 r48 => AGG v47 fun q49 => HD q49 fun v50 r51 => TYI .i64 v50 fun n52 =>
                                HD r51 fun v53 r54 => TYI .i64 v53 fun n55 =>
                                  NL r54 <|
                                    HD r48 fun v56 r57 => TYB v56 fun b58 =>
                                      NL r57 <|
                                        WR (Addr.add ⟨B40, 0, none⟩ 0) (.int .i64 n52) <|
                                          WR (Addr.add ⟨B40, 0, none⟩ 1) (.int .i64 n55) <|
                                            J_rank_plain_of_0 W R b58 (some ⟨B40, 0, none⟩) B6]
theorem T_rank_plain_of_eq (W : World) (p1 : Option Addr) (n2 : Int) (n3 : Int) (R : Ending → Hp → Prop) : vfun Pg W an_62 Try.f62 [(.agg #[(.pointer p1)]), (.agg #[(.int .i64 n2), (.int .i64 n3)])] R = T_rank_plain_of W p1 n2 n3 R := by kernel_rfl
theorem does_rank_plain_of (W : World) (p1 : Option Addr) (n2 : Int) (n3 : Int) (R : Ending → Hp → Prop) (s : Hp) (h : T_rank_plain_of W p1 n2 n3 R s) : Does Pg W F_rank_plain_of #[(.agg #[(.pointer p1)]), (.agg #[(.int .i64 n2), (.int .i64 n3)])] s R :=
  does_of_vfun Pg W an_62 Try.func62 rfl (by kernel_rfl) (by rw [T_rank_plain_of_eq]; exact h)
def an_64 : Nat → Ann := fun b => match b with
  | _ => {}
abbrev rv_64 : List ResultVar := [.tmp 2]
abbrev rs_64 : List Nat := [4, 2]
def T_rank_sets (W : World) (n1 : Int) (R : Ending → Hp → Prop) : Hp → Prop :=
  NEW 3 [(.int .i64 n1)] fun B2 =>
    R (.returned (.func (.func 80) #[] #[(.pointer (some ⟨B2, 0, none⟩))]))
theorem T_rank_sets_eq (W : World) (n1 : Int) (R : Ending → Hp → Prop) : vfun Pg W an_64 Try.f64 [(.int .i64 n1)] R = T_rank_sets W n1 R := by kernel_rfl
theorem does_rank_sets (W : World) (n1 : Int) (R : Ending → Hp → Prop) (s : Hp) (h : T_rank_sets W n1 R s) : Does Pg W F_rank_sets #[(.int .i64 n1)] s R :=
  does_of_vfun Pg W an_64 Try.func64 rfl (by kernel_rfl) (by rw [T_rank_sets_eq]; exact h)
def an_66 : Nat → Ann := fun b => match b with
  | _ => {}
abbrev rv_66 : List ResultVar := [.tmp 4]
abbrev rs_66 : List Nat := [13, 4]
def T_rank_table_isSheet (W : World) (p1 : Option Addr) (n2 : Int) (R : Ending → Hp → Prop) : Hp → Prop :=
  SO p1 fun a3 =>
    RDI .i64 (Addr.add (Addr.add a3 0) 1) fun n4 =>
      CALL Pg W F_rank_within [(.int .i64 n2), (.int .i64 0), (.int .i64 (IntKind.wrap .i64 (n4 - 1)))]
        (fun v5 => TYB v5 fun b7 =>
          R (.returned (.bool b7)))
          (fun e6 => R (.panicked e6))
theorem T_rank_table_isSheet_eq (W : World) (p1 : Option Addr) (n2 : Int) (R : Ending → Hp → Prop) : vfun Pg W an_66 Try.f66 [(.pointer p1), (.int .i64 n2)] R = T_rank_table_isSheet W p1 n2 R := by kernel_rfl
theorem does_rank_table_isSheet (W : World) (p1 : Option Addr) (n2 : Int) (R : Ending → Hp → Prop) (s : Hp) (h : T_rank_table_isSheet W p1 n2 R s) : Does Pg W F_rank_table_isSheet #[(.pointer p1), (.int .i64 n2)] s R :=
  does_of_vfun Pg W an_66 Try.func66 rfl (by kernel_rfl) (by rw [T_rank_table_isSheet_eq]; exact h)
def an_67 : Nat → Ann := fun b => match b with
  | _ => {}
abbrev rv_67 : List ResultVar := [.tmp 6]
abbrev rs_67 : List Nat := [15, 6]
def T_rank_within (W : World) (n1 : Int) (n2 : Int) (n3 : Int) (R : Ending → Hp → Prop) : Hp → Prop :=
  BR (decide (n2 ≤ n1))
    (R (.returned (.bool (decide (n1 ≤ n3)))))
    (R (.returned (.bool false)))
theorem T_rank_within_eq (W : World) (n1 : Int) (n2 : Int) (n3 : Int) (R : Ending → Hp → Prop) : vfun Pg W an_67 Try.f67 [(.int .i64 n1), (.int .i64 n2), (.int .i64 n3)] R = T_rank_within W n1 n2 n3 R := by kernel_rfl
theorem does_rank_within (W : World) (n1 : Int) (n2 : Int) (n3 : Int) (R : Ending → Hp → Prop) (s : Hp) (h : T_rank_within W n1 n2 n3 R s) : Does Pg W F_rank_within #[(.int .i64 n1), (.int .i64 n2), (.int .i64 n3)] s R :=
  does_of_vfun Pg W an_67 Try.func67 rfl (by kernel_rfl) (by rw [T_rank_within_eq]; exact h)
def an_69 : Nat → Ann := fun b => match b with
  | 0 => { ms := [2, 10], ks := [.i .i64, .i .i64], us := [0, 1, 9, 32], rt := false, ex := [] }
  | 2 => { ms := [], ks := [], us := [0, 1, 2, 3, 9, 10, 18, 32], rt := false, ex := [] }
  | _ => {}
abbrev rv_69 : List ResultVar := [.tmp 2]
abbrev rs_69 : List Nat := [32, 2]
def L_rank_Order_c1_0 (W : World) (R : Ending → Hp → Prop) (za0 : Addr) (za1 : Addr) (zn2 : Int) (n6 : Int) (n7 : Int) : Hp → Prop :=
  LOOPN [.i .i64, .i .i64] (fun ys next s => ∀ j : Tm, vc Pg W 32 rs_69 an_69 false (sub (bodyOf Try.f69) [1, 0, 1, 0, 1, 0, 0]) 0 (KLoop [2, 10] [0, 1, 9, 32] [(.pointer (some za0)), (.pointer (some za1)), (.int .i64 zn2), (.tuple #[])] next (KBlk 0 (KS Pg W 32 rs_69 an_69 false (sub (bodyOf Try.f69) [1, 0, 1, 1]) 0 (fin Pg W 32 rv_69 R)))) (known [2, 10] ys (known [0, 1, 9, 32] [(.pointer (some za0)), (.pointer (some za1)), (.int .i64 zn2), (.tuple #[])] j)) s) [(.int .i64 n6), (.int .i64 n7)]
def L_rank_Order_c1_1 (W : World) (R : Ending → Hp → Prop) (nx0 : List Value → Hp → Prop) (za0 : Addr) (za1 : Addr) (zn2 : Int) (zn3 : Int) (zn4 : Int) (za5 : Addr) : Hp → Prop :=
  LOOPN [] (fun ys next s => ∀ j : Tm, vc Pg W 32 rs_69 an_69 false (sub (bodyOf Try.f69) [1, 0, 1, 0, 1, 0, 0, 1, 1, 0, 0, 1, 1, 0, 1, 0, 0]) 2 (KLoop [] [0, 1, 2, 3, 9, 10, 18, 32] [(.pointer (some za0)), (.pointer (some za1)), (.int .i64 zn2), (.int .i64 zn3), (.int .i64 zn4), (.int .i64 zn3), (.pointer (some za5)), (.tuple #[])] next (KBlk 2 (KS Pg W 32 rs_69 an_69 false (sub (bodyOf Try.f69) [1, 0, 1, 0, 1, 0, 0, 1, 1, 0, 0, 1, 1, 1]) 1 (KBlk 1 (KS Pg W 32 rs_69 an_69 false (sub (bodyOf Try.f69) [1, 0, 1, 0, 1, 0, 0, 1, 1, 1]) 0 (KLoop [2, 10] [0, 1, 9, 32] [(.pointer (some za0)), (.pointer (some za1)), (.int .i64 zn4), (.tuple #[])] nx0 (KBlk 0 (KS Pg W 32 rs_69 an_69 false (sub (bodyOf Try.f69) [1, 0, 1, 1]) 0 (fin Pg W 32 rv_69 R))))))))) (known [] ys (known [0, 1, 2, 3, 9, 10, 18, 32] [(.pointer (some za0)), (.pointer (some za1)), (.int .i64 zn2), (.int .i64 zn3), (.int .i64 zn4), (.int .i64 zn3), (.pointer (some za5)), (.tuple #[])] j)) s) []
def B_rank_Order_c1_0 (W : World) (R : Ending → Hp → Prop) (za0 : Addr) (za1 : Addr) (zn2 : Int) (n6 : Int) (n7 : Int) (nx0 : List Value → Hp → Prop) : Hp → Prop :=
  BR (decide (n7 < zn2))
    (RDM za1 fun m8 =>
      LKP Pg 102 (.map m8) (.int .i64 n7) false fun v9 =>
        TYB v9 fun b10 =>
          BR (!b10)
            (NX [(.pointer (some za0)), (.pointer (some za1)), (.int .i64 zn2), (.tuple #[])] [(.pointer (some za0)), (.pointer (some za1)), (.int .i64 zn2), (.tuple #[])] (nx0 [(.int .i64 n6), (.int .i64 (IntKind.wrap .i64 (n7 + 1)))]))
            (RDM za1 fun m11 =>
              RNM Pg 102 (.map m11) fun B12 =>
                L_rank_Order_c1_1 W R nx0 za0 za1 n6 n7 zn2 ⟨B12, 0, none⟩))
    (R (.returned (.int .i64 (-1))))
theorem B_rank_Order_c1_0_eq (W : World) (R : Ending → Hp → Prop) (za0 : Addr) (za1 : Addr) (zn2 : Int) (n6 : Int) (n7 : Int) (nx0 : List Value → Hp → Prop) (j : Tm) : vc Pg W 32 rs_69 an_69 false (sub (bodyOf Try.f69) [1, 0, 1, 0, 1, 0, 0]) 0 (KLoop [2, 10] [0, 1, 9, 32] [(.pointer (some za0)), (.pointer (some za1)), (.int .i64 zn2), (.tuple #[])] nx0 (KBlk 0 (KS Pg W 32 rs_69 an_69 false (sub (bodyOf Try.f69) [1, 0, 1, 1]) 0 (fin Pg W 32 rv_69 R)))) (known [2, 10] [(.int .i64 n6), (.int .i64 n7)] (known [0, 1, 9, 32] [(.pointer (some za0)), (.pointer (some za1)), (.int .i64 zn2), (.tuple #[])] j)) = B_rank_Order_c1_0 W R za0 za1 zn2 n6 n7 nx0 := by kernel_rfl
def N_rank_Order_c1_0 (I : Int → Int → Hp → Prop) (μ : Int → Int → Hp → Nat) (n60 : Int) (n70 : Int) (s : Hp) (vs : List Value) : Hp → Prop := fun s' => ∃ n6 n7, vs = [(.int .i64 n6), (.int .i64 n7)] ∧ I n6 n7 s' ∧ μ n6 n7 s' < μ n60 n70 s
theorem L_rank_Order_c1_0_rule (W : World) (R : Ending → Hp → Prop) (za0 : Addr) (za1 : Addr) (zn2 : Int) (I : Int → Int → Hp → Prop) (μ : Int → Int → Hp → Nat) (n60 : Int) (n70 : Int) (s : Hp) (h0 : I n60 n70 s)
    (hr : ∀ (n6 : Int) (n7 : Int) (s : Hp), I n6 n7 s → B_rank_Order_c1_0 W R za0 za1 zn2 n6 n7 (fun vs => N_rank_Order_c1_0 I μ n6 n7 s vs) s) : L_rank_Order_c1_0 W R za0 za1 zn2 n60 n70 s := by
  refine ⟨fun vs s => ∃ n6 n7, vs = [(.int .i64 n6), (.int .i64 n7)] ∧ I n6 n7 s, fun vs s => (match vs with | [.int _ n6, .int _ n7] => μ n6 n7 s | _ => 0), ⟨⟨⟨_, rfl⟩, ⟨⟨_, rfl⟩, trivial⟩⟩, ⟨_, _, rfl, h0⟩⟩, ?_⟩
  intro n6 n7 s hI j
  obtain ⟨n6', n7', hy, hI⟩ := hI
  have hI' : I n6 n7 s := by cases hy; exact hI
  have hh := hr n6 n7 s hI'
  rw [← B_rank_Order_c1_0_eq W R za0 za1 zn2 n6 n7 _ j] at hh
  refine vc_mono ?_ _ _ hh
  exact KLoop_mono (fun vs s' h => by obtain ⟨n61, n71, rfl, h1, h2⟩ := h; exact ⟨⟨⟨_, rfl⟩, ⟨⟨_, rfl⟩, trivial⟩⟩, ⟨_, _, rfl, h1⟩, h2⟩)
def B_rank_Order_c1_1 (W : World) (R : Ending → Hp → Prop) (nx0 : List Value → Hp → Prop) (za0 : Addr) (za1 : Addr) (zn2 : Int) (zn3 : Int) (zn4 : Int) (za5 : Addr) (nx1 : List Value → Hp → Prop) : Hp → Prop :=
  NXM Pg (.pointer (some za5))
    (R (.returned (.int .i64 zn3))) fun v13 v14 =>
    ENT Pg (.pointer (some za5)) fun v15 v16 =>
      RDP za0 fun p17 =>
        RDP za0 fun p18 =>
          CALL Pg W F_rank_table_surely [(.pointer p17), (.iface 77 (.agg #[(.pointer p18)])), v15, (.int .i64 zn3)]
            (fun v19 => TYB v19 fun b21 =>
              BR b21
                (NX [(.pointer (some za0)), (.pointer (some za1)), (.int .i64 zn4), (.tuple #[])] [(.pointer (some za0)), (.pointer (some za1)), (.int .i64 zn4), (.tuple #[])] (nx0 [(.int .i64 zn2), (.int .i64 (IntKind.wrap .i64 (zn3 + 1)))]))
                (NX [(.pointer (some za0)), (.pointer (some za1)), (.int .i64 zn2), (.int .i64 zn3), (.int .i64 zn4), (.int .i64 zn3), (.pointer (some za5)), (.tuple #[])] [(.pointer (some za0)), (.pointer (some za1)), (.int .i64 zn2), (.int .i64 zn3), (.int .i64 zn4), (.int .i64 zn3), (.pointer (some za5)), (.tuple #[])] (nx1 [])))
              (fun e20 => R (.panicked e20))
theorem B_rank_Order_c1_1_eq (W : World) (R : Ending → Hp → Prop) (nx0 : List Value → Hp → Prop) (za0 : Addr) (za1 : Addr) (zn2 : Int) (zn3 : Int) (zn4 : Int) (za5 : Addr) (nx1 : List Value → Hp → Prop) (j : Tm) : vc Pg W 32 rs_69 an_69 false (sub (bodyOf Try.f69) [1, 0, 1, 0, 1, 0, 0, 1, 1, 0, 0, 1, 1, 0, 1, 0, 0]) 2 (KLoop [] [0, 1, 2, 3, 9, 10, 18, 32] [(.pointer (some za0)), (.pointer (some za1)), (.int .i64 zn2), (.int .i64 zn3), (.int .i64 zn4), (.int .i64 zn3), (.pointer (some za5)), (.tuple #[])] nx1 (KBlk 2 (KS Pg W 32 rs_69 an_69 false (sub (bodyOf Try.f69) [1, 0, 1, 0, 1, 0, 0, 1, 1, 0, 0, 1, 1, 1]) 1 (KBlk 1 (KS Pg W 32 rs_69 an_69 false (sub (bodyOf Try.f69) [1, 0, 1, 0, 1, 0, 0, 1, 1, 1]) 0 (KLoop [2, 10] [0, 1, 9, 32] [(.pointer (some za0)), (.pointer (some za1)), (.int .i64 zn4), (.tuple #[])] nx0 (KBlk 0 (KS Pg W 32 rs_69 an_69 false (sub (bodyOf Try.f69) [1, 0, 1, 1]) 0 (fin Pg W 32 rv_69 R))))))))) (known [] [] (known [0, 1, 2, 3, 9, 10, 18, 32] [(.pointer (some za0)), (.pointer (some za1)), (.int .i64 zn2), (.int .i64 zn3), (.int .i64 zn4), (.int .i64 zn3), (.pointer (some za5)), (.tuple #[])] j)) = B_rank_Order_c1_1 W R nx0 za0 za1 zn2 zn3 zn4 za5 nx1 := by kernel_rfl
def N_rank_Order_c1_1 (I : Hp → Prop) (μ : Hp → Nat) (s : Hp) (vs : List Value) : Hp → Prop := fun s' => vs = [] ∧ I s' ∧ μ s' < μ s
theorem L_rank_Order_c1_1_rule (W : World) (R : Ending → Hp → Prop) (nx0 : List Value → Hp → Prop) (za0 : Addr) (za1 : Addr) (zn2 : Int) (zn3 : Int) (zn4 : Int) (za5 : Addr) (I : Hp → Prop) (μ : Hp → Nat) (s : Hp) (h0 : I s)
    (hr : ∀ (s : Hp), I s → B_rank_Order_c1_1 W R nx0 za0 za1 zn2 zn3 zn4 za5 (fun vs => N_rank_Order_c1_1 I μ s vs) s) : L_rank_Order_c1_1 W R nx0 za0 za1 zn2 zn3 zn4 za5 s := by
  refine ⟨fun vs s => vs = [] ∧ I s, fun vs s => (match vs with | [] => μ s | _ => 0), ⟨trivial, ⟨rfl, h0⟩⟩, ?_⟩
  intro s hI j
  obtain ⟨hy, hI⟩ := hI
  have hI' : I s := by exact hI
  have hh := hr s hI'
  rw [← B_rank_Order_c1_1_eq W R nx0 za0 za1 zn2 zn3 zn4 za5 _ j] at hh
  refine vc_mono ?_ _ _ hh
  exact KLoop_mono (fun vs s' h => by obtain ⟨rfl, h1, h2⟩ := h; exact ⟨trivial, ⟨rfl, h1⟩, h2⟩)
def T_rank_Order_c1 (W : World) (a1 : Addr) (a2 : Addr) (R : Ending → Hp → Prop) : Hp → Prop :=
  RDP a1 fun p3 =>
    SO p3 fun a4 =>
      RDI .i64 (Addr.add (Addr.add a4 0) 0) fun n5 =>
        L_rank_Order_c1_0 W R a1 a2 n5 0 0
theorem T_rank_Order_c1_eq (W : World) (a1 : Addr) (a2 : Addr) (R : Ending → Hp → Prop) : vfun Pg W an_69 Try.f69 [(.pointer (some a1)), (.pointer (some a2))] R = T_rank_Order_c1 W a1 a2 R := by kernel_rfl
theorem does_rank_Order_c1 (W : World) (a1 : Addr) (a2 : Addr) (R : Ending → Hp → Prop) (s : Hp) (h : T_rank_Order_c1 W a1 a2 R s) : Does Pg W F_rank_Order_c1 #[(.pointer (some a1)), (.pointer (some a2))] s R :=
  does_of_vfun Pg W an_69 Try.func69 rfl (by kernel_rfl) (by rw [T_rank_Order_c1_eq]; exact h)
def an_72 : Nat → Ann := fun b => match b with
  | _ => {}
abbrev rv_72 : List ResultVar := [.tmp 2]
abbrev rs_72 : List Nat := [6, 2]
def T_rank_open_c1 (W : World) (n1 : Int) (R : Ending → Hp → Prop) : Hp → Prop :=
  CALL Pg W F_rank_within [(.int .i64 n1), (.int .i64 0), (.int .i64 100)]
    (fun v2 => TYB v2 fun b4 =>
      R (.returned (.bool (!b4))))
      (fun e3 => R (.panicked e3))
theorem T_rank_open_c1_eq (W : World) (n1 : Int) (R : Ending → Hp → Prop) : vfun Pg W an_72 Try.f72 [(.int .i64 n1)] R = T_rank_open_c1 W n1 R := by kernel_rfl
theorem does_rank_open_c1 (W : World) (n1 : Int) (R : Ending → Hp → Prop) (s : Hp) (h : T_rank_open_c1 W n1 R s) : Does Pg W F_rank_open_c1 #[(.int .i64 n1)] s R :=
  does_of_vfun Pg W an_72 Try.func72 rfl (by kernel_rfl) (by rw [T_rank_open_c1_eq]; exact h)
def an_73 : Nat → Ann := fun b => match b with
  | _ => {}
abbrev rv_73 : List ResultVar := [.tmp 4]
abbrev rs_73 : List Nat := [9, 4]
def T_slices_ContainsFunc_int_int (W : World) (x1 : Option Addr) (l2 : Nat) (c3 : Nat) (v4 : Value) (R : Ending → Hp → Prop) : Hp → Prop :=
  CALL Pg W F_slices_IndexFunc_int_int [(.slice x1 l2 c3), v4]
    (fun v5 => TYI .i64 v5 fun n7 =>
      R (.returned (.bool (decide (n7 ≥ 0)))))
      (fun e6 => R (.panicked e6))
theorem T_slices_ContainsFunc_int_int_eq (W : World) (x1 : Option Addr) (l2 : Nat) (c3 : Nat) (v4 : Value) (R : Ending → Hp → Prop) : vfun Pg W an_73 Try.f73 [(.slice x1 l2 c3), v4] R = T_slices_ContainsFunc_int_int W x1 l2 c3 v4 R := by kernel_rfl
theorem does_slices_ContainsFunc_int_int (W : World) (x1 : Option Addr) (l2 : Nat) (c3 : Nat) (v4 : Value) (R : Ending → Hp → Prop) (s : Hp) (h : T_slices_ContainsFunc_int_int W x1 l2 c3 v4 R s) : Does Pg W F_slices_ContainsFunc_int_int #[(.slice x1 l2 c3), v4] s R :=
  does_of_vfun Pg W an_73 Try.func73 rfl (by kernel_rfl) (by rw [T_slices_ContainsFunc_int_int_eq]; exact h)
def an_74 : Nat → Ann := fun b => match b with
  | 0 => { ms := [2, 7], ks := [.i .i64, .i .i64], us := [5, 6, 16], rt := false, ex := [] }
  | _ => {}
abbrev rv_74 : List ResultVar := [.tmp 2]
abbrev rs_74 : List Nat := [16, 2]
def L_rank_total_0 (W : World) (R : Ending → Hp → Prop) (zp0 : Option Addr) (zl1 : Nat) (zl2 : Nat) (zn3 : Int) (n4 : Int) (n5 : Int) : Hp → Prop :=
  LOOPN [.i .i64, .i .i64] (fun ys next s => ∀ j : Tm, vc Pg W 16 rs_74 an_74 false (sub (bodyOf Try.f74) [1, 0, 1, 0, 0]) 0 (KLoop [2, 7] [5, 6, 16] [(.slice zp0 zl1 zl2), (.int .i64 zn3), (.tuple #[])] next (KBlk 0 (KS Pg W 16 rs_74 an_74 false (sub (bodyOf Try.f74) [1, 1]) 0 (fin Pg W 16 rv_74 R)))) (known [2, 7] ys (known [5, 6, 16] [(.slice zp0 zl1 zl2), (.int .i64 zn3), (.tuple #[])] j)) s) [(.int .i64 n4), (.int .i64 n5)]
def B_rank_total_0 (W : World) (R : Ending → Hp → Prop) (zp0 : Option Addr) (zl1 : Nat) (zl2 : Nat) (zn3 : Int) (n4 : Int) (n5 : Int) (nx0 : List Value → Hp → Prop) : Hp → Prop :=
  BR (decide (n5 < zn3))
    (IXS zp0 zl1 n5 1 fun a6 =>
      RDI .i64 a6 fun n7 =>
        NX [(.slice zp0 zl1 zl2), (.int .i64 zn3), (.tuple #[])] [(.slice zp0 zl1 zl2), (.int .i64 zn3), (.tuple #[])] (nx0 [(.int .i64 (IntKind.wrap .i64 (n4 + n7))), (.int .i64 (IntKind.wrap .i64 (n5 + 1)))]))
    (R (.returned (.int .i64 n4)))
theorem B_rank_total_0_eq (W : World) (R : Ending → Hp → Prop) (zp0 : Option Addr) (zl1 : Nat) (zl2 : Nat) (zn3 : Int) (n4 : Int) (n5 : Int) (nx0 : List Value → Hp → Prop) (j : Tm) : vc Pg W 16 rs_74 an_74 false (sub (bodyOf Try.f74) [1, 0, 1, 0, 0]) 0 (KLoop [2, 7] [5, 6, 16] [(.slice zp0 zl1 zl2), (.int .i64 zn3), (.tuple #[])] nx0 (KBlk 0 (KS Pg W 16 rs_74 an_74 false (sub (bodyOf Try.f74) [1, 1]) 0 (fin Pg W 16 rv_74 R)))) (known [2, 7] [(.int .i64 n4), (.int .i64 n5)] (known [5, 6, 16] [(.slice zp0 zl1 zl2), (.int .i64 zn3), (.tuple #[])] j)) = B_rank_total_0 W R zp0 zl1 zl2 zn3 n4 n5 nx0 := by kernel_rfl
def N_rank_total_0 (I : Int → Int → Hp → Prop) (μ : Int → Int → Hp → Nat) (n40 : Int) (n50 : Int) (s : Hp) (vs : List Value) : Hp → Prop := fun s' => ∃ n4 n5, vs = [(.int .i64 n4), (.int .i64 n5)] ∧ I n4 n5 s' ∧ μ n4 n5 s' < μ n40 n50 s
theorem L_rank_total_0_rule (W : World) (R : Ending → Hp → Prop) (zp0 : Option Addr) (zl1 : Nat) (zl2 : Nat) (zn3 : Int) (I : Int → Int → Hp → Prop) (μ : Int → Int → Hp → Nat) (n40 : Int) (n50 : Int) (s : Hp) (h0 : I n40 n50 s)
    (hr : ∀ (n4 : Int) (n5 : Int) (s : Hp), I n4 n5 s → B_rank_total_0 W R zp0 zl1 zl2 zn3 n4 n5 (fun vs => N_rank_total_0 I μ n4 n5 s vs) s) : L_rank_total_0 W R zp0 zl1 zl2 zn3 n40 n50 s := by
  refine ⟨fun vs s => ∃ n4 n5, vs = [(.int .i64 n4), (.int .i64 n5)] ∧ I n4 n5 s, fun vs s => (match vs with | [.int _ n4, .int _ n5] => μ n4 n5 s | _ => 0), ⟨⟨⟨_, rfl⟩, ⟨⟨_, rfl⟩, trivial⟩⟩, ⟨_, _, rfl, h0⟩⟩, ?_⟩
  intro n4 n5 s hI j
  obtain ⟨n4', n5', hy, hI⟩ := hI
  have hI' : I n4 n5 s := by cases hy; exact hI
  have hh := hr n4 n5 s hI'
  rw [← B_rank_total_0_eq W R zp0 zl1 zl2 zn3 n4 n5 _ j] at hh
  refine vc_mono ?_ _ _ hh
  exact KLoop_mono (fun vs s' h => by obtain ⟨n41, n51, rfl, h1, h2⟩ := h; exact ⟨⟨⟨_, rfl⟩, ⟨⟨_, rfl⟩, trivial⟩⟩, ⟨_, _, rfl, h1⟩, h2⟩)
def T_rank_total (W : World) (x1 : Option Addr) (l2 : Nat) (c3 : Nat) (R : Ending → Hp → Prop) : Hp → Prop :=
  L_rank_total_0 W R x1 l2 c3 (↑l2 : Int) 0 0
theorem T_rank_total_eq (W : World) (x1 : Option Addr) (l2 : Nat) (c3 : Nat) (R : Ending → Hp → Prop) : vfun Pg W an_74 Try.f74 [(.slice x1 l2 c3)] R = T_rank_total W x1 l2 c3 R := by kernel_rfl
theorem does_rank_total (W : World) (x1 : Option Addr) (l2 : Nat) (c3 : Nat) (R : Ending → Hp → Prop) (s : Hp) (h : T_rank_total W x1 l2 c3 R s) : Does Pg W F_rank_total #[(.slice x1 l2 c3)] s R :=
  does_of_vfun Pg W an_74 Try.func74 rfl (by kernel_rfl) (by rw [T_rank_total_eq]; exact h)
def an_75 : Nat → Ann := fun b => match b with
  | _ => {}
abbrev rv_75 : List ResultVar := [.tmp 2]
abbrev rs_75 : List Nat := [5, 2]
def T_rank_both_c1 (W : World) (n1 : Int) (n2 : Int) (R : Ending → Hp → Prop) : Hp → Prop :=
  NEW 29 [(.int .i64 n1), (.int .i64 n2)] fun B3 =>
    RDI .i64 (Addr.add ⟨B3, 0, none⟩ 0) fun n4 =>
      R (.returned (.int .i64 n4))
theorem T_rank_both_c1_eq (W : World) (n1 : Int) (n2 : Int) (R : Ending → Hp → Prop) : vfun Pg W an_75 Try.f75 [(.agg #[(.int .i64 n1), (.int .i64 n2)])] R = T_rank_both_c1 W n1 n2 R := by kernel_rfl
theorem does_rank_both_c1 (W : World) (n1 : Int) (n2 : Int) (R : Ending → Hp → Prop) (s : Hp) (h : T_rank_both_c1 W n1 n2 R s) : Does Pg W F_rank_both_c1 #[(.agg #[(.int .i64 n1), (.int .i64 n2)])] s R :=
  does_of_vfun Pg W an_75 Try.func75 rfl (by kernel_rfl) (by rw [T_rank_both_c1_eq]; exact h)
def an_76 : Nat → Ann := fun b => match b with
  | _ => {}
abbrev rv_76 : List ResultVar := [.tmp 2]
abbrev rs_76 : List Nat := [5, 2]
def T_rank_both_c2 (W : World) (n1 : Int) (n2 : Int) (R : Ending → Hp → Prop) : Hp → Prop :=
  NEW 29 [(.int .i64 n1), (.int .i64 n2)] fun B3 =>
    RDI .i64 (Addr.add ⟨B3, 0, none⟩ 1) fun n4 =>
      R (.returned (.int .i64 n4))
theorem T_rank_both_c2_eq (W : World) (n1 : Int) (n2 : Int) (R : Ending → Hp → Prop) : vfun Pg W an_76 Try.f76 [(.agg #[(.int .i64 n1), (.int .i64 n2)])] R = T_rank_both_c2 W n1 n2 R := by kernel_rfl
theorem does_rank_both_c2 (W : World) (n1 : Int) (n2 : Int) (R : Ending → Hp → Prop) (s : Hp) (h : T_rank_both_c2 W n1 n2 R s) : Does Pg W F_rank_both_c2 #[(.agg #[(.int .i64 n1), (.int .i64 n2)])] s R :=
  does_of_vfun Pg W an_76 Try.func76 rfl (by kernel_rfl) (by rw [T_rank_both_c2_eq]; exact h)
def an_78 : Nat → Ann := fun b => match b with
  | _ => {}
abbrev rv_78 : List ResultVar := [.tmp 4]
abbrev rs_78 : List Nat := [9, 4]
def T_rank_ahead_int (W : World) (x1 : Option Addr) (l2 : Nat) (c3 : Nat) (x4 : Option Addr) (l5 : Nat) (c6 : Nat) (R : Ending → Hp → Prop) : Hp → Prop :=
  CALL Pg W F_slices_Compare_int_int [(.slice x1 l2 c3), (.slice x4 l5 c6)]
    (fun v7 => TYI .i64 v7 fun n9 =>
      R (.returned (.bool (decide (n9 > 0)))))
      (fun e8 => R (.panicked e8))
theorem T_rank_ahead_int_eq (W : World) (x1 : Option Addr) (l2 : Nat) (c3 : Nat) (x4 : Option Addr) (l5 : Nat) (c6 : Nat) (R : Ending → Hp → Prop) : vfun Pg W an_78 Try.f78 [(.slice x1 l2 c3), (.slice x4 l5 c6)] R = T_rank_ahead_int W x1 l2 c3 x4 l5 c6 R := by kernel_rfl
theorem does_rank_ahead_int (W : World) (x1 : Option Addr) (l2 : Nat) (c3 : Nat) (x4 : Option Addr) (l5 : Nat) (c6 : Nat) (R : Ending → Hp → Prop) (s : Hp) (h : T_rank_ahead_int W x1 l2 c3 x4 l5 c6 R s) : Does Pg W F_rank_ahead_int #[(.slice x1 l2 c3), (.slice x4 l5 c6)] s R :=
  does_of_vfun Pg W an_78 Try.func78 rfl (by kernel_rfl) (by rw [T_rank_ahead_int_eq]; exact h)
def an_80 : Nat → Ann := fun b => match b with
  | 0 => { ms := [7], ks := [.i .i64], us := [0, 1, 6, 27], rt := false, ex := [] }
  | 2 => { ms := [12], ks := [.i .u64], us := [0, 1, 3, 6, 7, 11, 27], rt := false, ex := [] }
  | _ => {}
abbrev rv_80 : List ResultVar := []
abbrev rs_80 : List Nat := [27]
def L_rank_sets_c1_0 (W : World) (R : Ending → Hp → Prop) (zv0 : Value) (za1 : Addr) (zn2 : Int) (n4 : Int) : Hp → Prop :=
  LOOPN [.i .i64] (fun ys next s => ∀ j : Tm, vc Pg W 27 rs_80 an_80 false (sub (bodyOf Try.f80) [1, 0, 0]) 0 (KLoop [7] [0, 1, 6, 27] [zv0, (.pointer (some za1)), (.int .i64 zn2), (.tuple #[])] next (KBlk 0 (fin Pg W 27 rv_80 R))) (known [7] ys (known [0, 1, 6, 27] [zv0, (.pointer (some za1)), (.int .i64 zn2), (.tuple #[])] j)) s) [(.int .i64 n4)]
def L_rank_sets_c1_1 (W : World) (R : Ending → Hp → Prop) (nx0 : List Value → Hp → Prop) (zv0 : Value) (za1 : Addr) (zn2 : Int) (zn3 : Int) (zn4 : Int) (n6 : Int) : Hp → Prop :=
  LOOPN [.i .u64] (fun ys next s => ∀ j : Tm, vc Pg W 27 rs_80 an_80 false (sub (bodyOf Try.f80) [1, 0, 0, 1, 1, 0, 0, 1, 1, 0, 0]) 2 (KLoop [12] [0, 1, 3, 6, 7, 11, 27] [zv0, (.pointer (some za1)), (.int .i64 zn2), (.int .i64 zn3), (.int .i64 zn2), (.int .u64 zn4), (.tuple #[])] next (KBlk 2 (KBlk 1 (KS Pg W 27 rs_80 an_80 false (sub (bodyOf Try.f80) [1, 0, 0, 1, 1, 1]) 0 (KLoop [7] [0, 1, 6, 27] [zv0, (.pointer (some za1)), (.int .i64 zn3), (.tuple #[])] nx0 (KBlk 0 (fin Pg W 27 rv_80 R))))))) (known [12] ys (known [0, 1, 3, 6, 7, 11, 27] [zv0, (.pointer (some za1)), (.int .i64 zn2), (.int .i64 zn3), (.int .i64 zn2), (.int .u64 zn4), (.tuple #[])] j)) s) [(.int .u64 n6)]
def J_rank_sets_c1_0 (W : World) (R : Ending → Hp → Prop) (b13 : Bool) (zv0 : Value) (za1 : Addr) (zn2 : Int) (zn3 : Int) (zn4 : Int) (nx1 : List Value → Hp → Prop) (n6 : Int) : Hp → Prop :=
  BR b13
    (R (.returned (.tuple #[])))
    (NX [zv0, (.pointer (some za1)), (.int .i64 zn2), (.int .i64 zn3), (.int .i64 zn2), (.int .u64 zn4), (.tuple #[])] [zv0, (.pointer (some za1)), (.int .i64 zn2), (.int .i64 zn3), (.int .i64 zn2), (.int .u64 zn4), (.tuple #[])] (nx1 [(.int .u64 (IntKind.wrap .u64 (n6 + 1)))]))
def B_rank_sets_c1_0 (W : World) (R : Ending → Hp → Prop) (zv0 : Value) (za1 : Addr) (zn2 : Int) (n4 : Int) (nx0 : List Value → Hp → Prop) : Hp → Prop :=
  BR (decide (n4 < zn2))
    (RDI .i64 za1 fun n5 =>
      NNI n5 <|
        L_rank_sets_c1_1 W R nx0 zv0 za1 n4 zn2 (shlv .u64 1 n5) 0)
    (R (.returned (.tuple #[])))
theorem B_rank_sets_c1_0_eq (W : World) (R : Ending → Hp → Prop) (zv0 : Value) (za1 : Addr) (zn2 : Int) (n4 : Int) (nx0 : List Value → Hp → Prop) (j : Tm) : vc Pg W 27 rs_80 an_80 false (sub (bodyOf Try.f80) [1, 0, 0]) 0 (KLoop [7] [0, 1, 6, 27] [zv0, (.pointer (some za1)), (.int .i64 zn2), (.tuple #[])] nx0 (KBlk 0 (fin Pg W 27 rv_80 R))) (known [7] [(.int .i64 n4)] (known [0, 1, 6, 27] [zv0, (.pointer (some za1)), (.int .i64 zn2), (.tuple #[])] j)) = B_rank_sets_c1_0 W R zv0 za1 zn2 n4 nx0 := by kernel_rfl
def N_rank_sets_c1_0 (I : Int → Hp → Prop) (μ : Int → Hp → Nat) (n40 : Int) (s : Hp) (vs : List Value) : Hp → Prop := fun s' => ∃ n4, vs = [(.int .i64 n4)] ∧ I n4 s' ∧ μ n4 s' < μ n40 s
theorem L_rank_sets_c1_0_rule (W : World) (R : Ending → Hp → Prop) (zv0 : Value) (za1 : Addr) (zn2 : Int) (I : Int → Hp → Prop) (μ : Int → Hp → Nat) (n40 : Int) (s : Hp) (h0 : I n40 s)
    (hr : ∀ (n4 : Int) (s : Hp), I n4 s → B_rank_sets_c1_0 W R zv0 za1 zn2 n4 (fun vs => N_rank_sets_c1_0 I μ n4 s vs) s) : L_rank_sets_c1_0 W R zv0 za1 zn2 n40 s := by
  refine ⟨fun vs s => ∃ n4, vs = [(.int .i64 n4)] ∧ I n4 s, fun vs s => (match vs with | [.int _ n4] => μ n4 s | _ => 0), ⟨⟨⟨_, rfl⟩, trivial⟩, ⟨_, rfl, h0⟩⟩, ?_⟩
  intro n4 s hI j
  obtain ⟨n4', hy, hI⟩ := hI
  have hI' : I n4 s := by cases hy; exact hI
  have hh := hr n4 s hI'
  rw [← B_rank_sets_c1_0_eq W R zv0 za1 zn2 n4 _ j] at hh
  refine vc_mono ?_ _ _ hh
  exact KLoop_mono (fun vs s' h => by obtain ⟨n41, rfl, h1, h2⟩ := h; exact ⟨⟨⟨_, rfl⟩, trivial⟩, ⟨_, rfl, h1⟩, h2⟩)
def B_rank_sets_c1_1 (W : World) (R : Ending → Hp → Prop) (nx0 : List Value → Hp → Prop) (zv0 : Value) (za1 : Addr) (zn2 : Int) (zn3 : Int) (zn4 : Int) (n6 : Int) (nx1 : List Value → Hp → Prop) : Hp → Prop :=
  BR (decide (n6 < zn4))
    (CALL Pg W F_math_bits_OnesCount [(.int .u64 n6)]
      (fun v7 => TYI .i64 v7 fun n9 =>
        BR (n9 == zn2)
          (CALLV Pg W zv0 [(.int .u64 n6)]
            (fun v10 => TYB v10 fun b12 =>
              J_rank_sets_c1_0 W R (!b12) zv0 za1 zn2 zn3 zn4 nx1 n6)
              (fun e11 => R (.panicked e11)))
          (J_rank_sets_c1_0 W R false zv0 za1 zn2 zn3 zn4 nx1 n6))
        (fun e8 => R (.panicked e8)))
    (NX [zv0, (.pointer (some za1)), (.int .i64 zn3), (.tuple #[])] [zv0, (.pointer (some za1)), (.int .i64 zn3), (.tuple #[])] (nx0 [(.int .i64 (IntKind.wrap .i64 (zn2 + 1)))]))
theorem B_rank_sets_c1_1_eq (W : World) (R : Ending → Hp → Prop) (nx0 : List Value → Hp → Prop) (zv0 : Value) (za1 : Addr) (zn2 : Int) (zn3 : Int) (zn4 : Int) (n6 : Int) (nx1 : List Value → Hp → Prop) (j : Tm) : vc Pg W 27 rs_80 an_80 false (sub (bodyOf Try.f80) [1, 0, 0, 1, 1, 0, 0, 1, 1, 0, 0]) 2 (KLoop [12] [0, 1, 3, 6, 7, 11, 27] [zv0, (.pointer (some za1)), (.int .i64 zn2), (.int .i64 zn3), (.int .i64 zn2), (.int .u64 zn4), (.tuple #[])] nx1 (KBlk 2 (KBlk 1 (KS Pg W 27 rs_80 an_80 false (sub (bodyOf Try.f80) [1, 0, 0, 1, 1, 1]) 0 (KLoop [7] [0, 1, 6, 27] [zv0, (.pointer (some za1)), (.int .i64 zn3), (.tuple #[])] nx0 (KBlk 0 (fin Pg W 27 rv_80 R))))))) (known [12] [(.int .u64 n6)] (known [0, 1, 3, 6, 7, 11, 27] [zv0, (.pointer (some za1)), (.int .i64 zn2), (.int .i64 zn3), (.int .i64 zn2), (.int .u64 zn4), (.tuple #[])] j)) = B_rank_sets_c1_1 W R nx0 zv0 za1 zn2 zn3 zn4 n6 nx1 := by kernel_rfl
def N_rank_sets_c1_1 (I : Int → Hp → Prop) (μ : Int → Hp → Nat) (n60 : Int) (s : Hp) (vs : List Value) : Hp → Prop := fun s' => ∃ n6, vs = [(.int .u64 n6)] ∧ I n6 s' ∧ μ n6 s' < μ n60 s
theorem L_rank_sets_c1_1_rule (W : World) (R : Ending → Hp → Prop) (nx0 : List Value → Hp → Prop) (zv0 : Value) (za1 : Addr) (zn2 : Int) (zn3 : Int) (zn4 : Int) (I : Int → Hp → Prop) (μ : Int → Hp → Nat) (n60 : Int) (s : Hp) (h0 : I n60 s)
    (hr : ∀ (n6 : Int) (s : Hp), I n6 s → B_rank_sets_c1_1 W R nx0 zv0 za1 zn2 zn3 zn4 n6 (fun vs => N_rank_sets_c1_1 I μ n6 s vs) s) : L_rank_sets_c1_1 W R nx0 zv0 za1 zn2 zn3 zn4 n60 s := by
  refine ⟨fun vs s => ∃ n6, vs = [(.int .u64 n6)] ∧ I n6 s, fun vs s => (match vs with | [.int _ n6] => μ n6 s | _ => 0), ⟨⟨⟨_, rfl⟩, trivial⟩, ⟨_, rfl, h0⟩⟩, ?_⟩
  intro n6 s hI j
  obtain ⟨n6', hy, hI⟩ := hI
  have hI' : I n6 s := by cases hy; exact hI
  have hh := hr n6 s hI'
  rw [← B_rank_sets_c1_1_eq W R nx0 zv0 za1 zn2 zn3 zn4 n6 _ j] at hh
  refine vc_mono ?_ _ _ hh
  exact KLoop_mono (fun vs s' h => by obtain ⟨n61, rfl, h1, h2⟩ := h; exact ⟨⟨⟨_, rfl⟩, trivial⟩, ⟨_, rfl, h1⟩, h2⟩)
def T_rank_sets_c1 (W : World) (v1 : Value) (a2 : Addr) (R : Ending → Hp → Prop) : Hp → Prop :=
  RDI .i64 a2 fun n3 =>
    L_rank_sets_c1_0 W R v1 a2 (IntKind.wrap .i64 (n3 + 1)) 0
theorem T_rank_sets_c1_eq (W : World) (v1 : Value) (a2 : Addr) (R : Ending → Hp → Prop) : vfun Pg W an_80 Try.f80 [v1, (.pointer (some a2))] R = T_rank_sets_c1 W v1 a2 R := by kernel_rfl
theorem does_rank_sets_c1 (W : World) (v1 : Value) (a2 : Addr) (R : Ending → Hp → Prop) (s : Hp) (h : T_rank_sets_c1 W v1 a2 R s) : Does Pg W F_rank_sets_c1 #[v1, (.pointer (some a2))] s R :=
  does_of_vfun Pg W an_80 Try.func80 rfl (by kernel_rfl) (by rw [T_rank_sets_c1_eq]; exact h)
def an_81 : Nat → Ann := fun b => match b with
  | _ => {}
abbrev rv_81 : List ResultVar := [.tmp 2]
abbrev rs_81 : List Nat := [8, 2]
def T_math_bits_OnesCount (W : World) (n1 : Int) (R : Ending → Hp → Prop) : Hp → Prop :=
  CALL Pg W F_math_bits_OnesCount64 [(.int .u64 n1)]
    (fun v2 => TYI .i64 v2 fun n4 =>
      R (.returned (.int .i64 n4)))
      (fun e3 => R (.panicked e3))
theorem T_math_bits_OnesCount_eq (W : World) (n1 : Int) (R : Ending → Hp → Prop) : vfun Pg W an_81 Try.f81 [(.int .u64 n1)] R = T_math_bits_OnesCount W n1 R := by kernel_rfl
theorem does_math_bits_OnesCount (W : World) (n1 : Int) (R : Ending → Hp → Prop) (s : Hp) (h : T_math_bits_OnesCount W n1 R s) : Does Pg W F_math_bits_OnesCount #[(.int .u64 n1)] s R :=
  does_of_vfun Pg W an_81 Try.func81 rfl (by kernel_rfl) (by rw [T_math_bits_OnesCount_eq]; exact h)
def an_82 : Nat → Ann := fun b => match b with
  | 0 => { ms := [4, 8], ks := [.i .i64, .i .i64], us := [0, 1, 7, 19], rt := false, ex := [] }
  | _ => {}
abbrev rv_82 : List ResultVar := [.tmp 4]
abbrev rs_82 : List Nat := [19, 4]
def L_slices_IndexFunc_int_int_0 (W : World) (R : Ending → Hp → Prop) (zp0 : Option Addr) (zl1 : Nat) (zl2 : Nat) (zv3 : Value) (zn4 : Int) (n5 : Int) (n6 : Int) : Hp → Prop :=
  LOOPN [.i .i64, .i .i64] (fun ys next s => ∀ j : Tm, vc Pg W 19 rs_82 an_82 false (sub (bodyOf Try.f82) [1, 0, 1, 0, 0]) 0 (KLoop [4, 8] [0, 1, 7, 19] [(.slice zp0 zl1 zl2), zv3, (.int .i64 zn4), (.tuple #[])] next (KBlk 0 (KS Pg W 19 rs_82 an_82 false (sub (bodyOf Try.f82) [1, 1]) 0 (fin Pg W 19 rv_82 R)))) (known [4, 8] ys (known [0, 1, 7, 19] [(.slice zp0 zl1 zl2), zv3, (.int .i64 zn4), (.tuple #[])] j)) s) [(.int .i64 n5), (.int .i64 n6)]
def B_slices_IndexFunc_int_int_0 (W : World) (R : Ending → Hp → Prop) (zp0 : Option Addr) (zl1 : Nat) (zl2 : Nat) (zv3 : Value) (zn4 : Int) (n5 : Int) (n6 : Int) (nx0 : List Value → Hp → Prop) : Hp → Prop :=
  BR (decide (n6 < zn4))
    (IXS zp0 zl1 n6 1 fun a7 =>
      RDI .i64 a7 fun n8 =>
        CALLV Pg W zv3 [(.int .i64 n8)]
          (fun v9 => TYB v9 fun b11 =>
            BR b11
              (R (.returned (.int .i64 n6)))
              (NX [(.slice zp0 zl1 zl2), zv3, (.int .i64 zn4), (.tuple #[])] [(.slice zp0 zl1 zl2), zv3, (.int .i64 zn4), (.tuple #[])] (nx0 [(.int .i64 n5), (.int .i64 (IntKind.wrap .i64 (n6 + 1)))])))
            (fun e10 => R (.panicked e10)))
    (R (.returned (.int .i64 (-1))))
theorem B_slices_IndexFunc_int_int_0_eq (W : World) (R : Ending → Hp → Prop) (zp0 : Option Addr) (zl1 : Nat) (zl2 : Nat) (zv3 : Value) (zn4 : Int) (n5 : Int) (n6 : Int) (nx0 : List Value → Hp → Prop) (j : Tm) : vc Pg W 19 rs_82 an_82 false (sub (bodyOf Try.f82) [1, 0, 1, 0, 0]) 0 (KLoop [4, 8] [0, 1, 7, 19] [(.slice zp0 zl1 zl2), zv3, (.int .i64 zn4), (.tuple #[])] nx0 (KBlk 0 (KS Pg W 19 rs_82 an_82 false (sub (bodyOf Try.f82) [1, 1]) 0 (fin Pg W 19 rv_82 R)))) (known [4, 8] [(.int .i64 n5), (.int .i64 n6)] (known [0, 1, 7, 19] [(.slice zp0 zl1 zl2), zv3, (.int .i64 zn4), (.tuple #[])] j)) = B_slices_IndexFunc_int_int_0 W R zp0 zl1 zl2 zv3 zn4 n5 n6 nx0 := by kernel_rfl
def N_slices_IndexFunc_int_int_0 (I : Int → Int → Hp → Prop) (μ : Int → Int → Hp → Nat) (n50 : Int) (n60 : Int) (s : Hp) (vs : List Value) : Hp → Prop := fun s' => ∃ n5 n6, vs = [(.int .i64 n5), (.int .i64 n6)] ∧ I n5 n6 s' ∧ μ n5 n6 s' < μ n50 n60 s
theorem L_slices_IndexFunc_int_int_0_rule (W : World) (R : Ending → Hp → Prop) (zp0 : Option Addr) (zl1 : Nat) (zl2 : Nat) (zv3 : Value) (zn4 : Int) (I : Int → Int → Hp → Prop) (μ : Int → Int → Hp → Nat) (n50 : Int) (n60 : Int) (s : Hp) (h0 : I n50 n60 s)
    (hr : ∀ (n5 : Int) (n6 : Int) (s : Hp), I n5 n6 s → B_slices_IndexFunc_int_int_0 W R zp0 zl1 zl2 zv3 zn4 n5 n6 (fun vs => N_slices_IndexFunc_int_int_0 I μ n5 n6 s vs) s) : L_slices_IndexFunc_int_int_0 W R zp0 zl1 zl2 zv3 zn4 n50 n60 s := by
  refine ⟨fun vs s => ∃ n5 n6, vs = [(.int .i64 n5), (.int .i64 n6)] ∧ I n5 n6 s, fun vs s => (match vs with | [.int _ n5, .int _ n6] => μ n5 n6 s | _ => 0), ⟨⟨⟨_, rfl⟩, ⟨⟨_, rfl⟩, trivial⟩⟩, ⟨_, _, rfl, h0⟩⟩, ?_⟩
  intro n5 n6 s hI j
  obtain ⟨n5', n6', hy, hI⟩ := hI
  have hI' : I n5 n6 s := by cases hy; exact hI
  have hh := hr n5 n6 s hI'
  rw [← B_slices_IndexFunc_int_int_0_eq W R zp0 zl1 zl2 zv3 zn4 n5 n6 _ j] at hh
  refine vc_mono ?_ _ _ hh
  exact KLoop_mono (fun vs s' h => by obtain ⟨n51, n61, rfl, h1, h2⟩ := h; exact ⟨⟨⟨_, rfl⟩, ⟨⟨_, rfl⟩, trivial⟩⟩, ⟨_, _, rfl, h1⟩, h2⟩)
def T_slices_IndexFunc_int_int (W : World) (x1 : Option Addr) (l2 : Nat) (c3 : Nat) (v4 : Value) (R : Ending → Hp → Prop) : Hp → Prop :=
  L_slices_IndexFunc_int_int_0 W R x1 l2 c3 v4 (↑l2 : Int) 0 0
theorem T_slices_IndexFunc_int_int_eq (W : World) (x1 : Option Addr) (l2 : Nat) (c3 : Nat) (v4 : Value) (R : Ending → Hp → Prop) : vfun Pg W an_82 Try.f82 [(.slice x1 l2 c3), v4] R = T_slices_IndexFunc_int_int W x1 l2 c3 v4 R := by kernel_rfl
theorem does_slices_IndexFunc_int_int (W : World) (x1 : Option Addr) (l2 : Nat) (c3 : Nat) (v4 : Value) (R : Ending → Hp → Prop) (s : Hp) (h : T_slices_IndexFunc_int_int W x1 l2 c3 v4 R s) : Does Pg W F_slices_IndexFunc_int_int #[(.slice x1 l2 c3), v4] s R :=
  does_of_vfun Pg W an_82 Try.func82 rfl (by kernel_rfl) (by rw [T_slices_IndexFunc_int_int_eq]; exact h)
def an_83 : Nat → Ann := fun b => match b with
  | 0 => { ms := [4, 11], ks := [.i .i64, .i .i64], us := [0, 1, 9, 10, 36], rt := false, ex := [] }
  | _ => {}
abbrev rv_83 : List ResultVar := [.tmp 4]
abbrev rs_83 : List Nat := [36, 4]
def L_slices_Compare_int_int_0 (W : World) (R : Ending → Hp → Prop) (zp0 : Option Addr) (zl1 : Nat) (zl2 : Nat) (zp3 : Option Addr) (zl4 : Nat) (zl5 : Nat) (zn6 : Int) (n7 : Int) (n8 : Int) : Hp → Prop :=
  LOOPN [.i .i64, .i .i64] (fun ys next s => ∀ j : Tm, vc Pg W 36 rs_83 an_83 false (sub (bodyOf Try.f83) [1, 0, 1, 0, 0]) 0 (KLoop [4, 11] [0, 1, 9, 10, 36] [(.slice zp0 zl1 zl2), (.slice zp3 zl4 zl5), (.slice zp0 zl1 zl2), (.int .i64 zn6), (.tuple #[])] next (KBlk 0 (KS Pg W 36 rs_83 an_83 false (sub (bodyOf Try.f83) [1, 1]) 0 (fin Pg W 36 rv_83 R)))) (known [4, 11] ys (known [0, 1, 9, 10, 36] [(.slice zp0 zl1 zl2), (.slice zp3 zl4 zl5), (.slice zp0 zl1 zl2), (.int .i64 zn6), (.tuple #[])] j)) s) [(.int .i64 n7), (.int .i64 n8)]
def B_slices_Compare_int_int_0 (W : World) (R : Ending → Hp → Prop) (zp0 : Option Addr) (zl1 : Nat) (zl2 : Nat) (zp3 : Option Addr) (zl4 : Nat) (zl5 : Nat) (zn6 : Int) (n7 : Int) (n8 : Int) (nx0 : List Value → Hp → Prop) : Hp → Prop :=
  BR (decide (n8 < zn6))
    (IXS zp0 zl1 n8 1 fun a9 =>
      RDI .i64 a9 fun n10 =>
        BR (decide (n8 ≥ (↑zl4 : Int)))
          (R (.returned (.int .i64 1)))
          (IXS zp3 zl4 n8 1 fun a11 =>
            RDI .i64 a11 fun n12 =>
              CALL Pg W F_cmp_Compare_int [(.int .i64 n10), (.int .i64 n12)]
                (fun v13 => TYI .i64 v13 fun n15 =>
                  BR (n15 != 0)
                    (R (.returned (.int .i64 n15)))
                    (NX [(.slice zp0 zl1 zl2), (.slice zp3 zl4 zl5), (.slice zp0 zl1 zl2), (.int .i64 zn6), (.tuple #[])] [(.slice zp0 zl1 zl2), (.slice zp3 zl4 zl5), (.slice zp0 zl1 zl2), (.int .i64 zn6), (.tuple #[])] (nx0 [(.int .i64 n7), (.int .i64 (IntKind.wrap .i64 (n8 + 1)))])))
                  (fun e14 => R (.panicked e14))))
    (BR (decide ((↑zl1 : Int) < (↑zl4 : Int)))
      (R (.returned (.int .i64 (-1))))
      (R (.returned (.int .i64 0))))
theorem B_slices_Compare_int_int_0_eq (W : World) (R : Ending → Hp → Prop) (zp0 : Option Addr) (zl1 : Nat) (zl2 : Nat) (zp3 : Option Addr) (zl4 : Nat) (zl5 : Nat) (zn6 : Int) (n7 : Int) (n8 : Int) (nx0 : List Value → Hp → Prop) (j : Tm) : vc Pg W 36 rs_83 an_83 false (sub (bodyOf Try.f83) [1, 0, 1, 0, 0]) 0 (KLoop [4, 11] [0, 1, 9, 10, 36] [(.slice zp0 zl1 zl2), (.slice zp3 zl4 zl5), (.slice zp0 zl1 zl2), (.int .i64 zn6), (.tuple #[])] nx0 (KBlk 0 (KS Pg W 36 rs_83 an_83 false (sub (bodyOf Try.f83) [1, 1]) 0 (fin Pg W 36 rv_83 R)))) (known [4, 11] [(.int .i64 n7), (.int .i64 n8)] (known [0, 1, 9, 10, 36] [(.slice zp0 zl1 zl2), (.slice zp3 zl4 zl5), (.slice zp0 zl1 zl2), (.int .i64 zn6), (.tuple #[])] j)) = B_slices_Compare_int_int_0 W R zp0 zl1 zl2 zp3 zl4 zl5 zn6 n7 n8 nx0 := by kernel_rfl
def N_slices_Compare_int_int_0 (I : Int → Int → Hp → Prop) (μ : Int → Int → Hp → Nat) (n70 : Int) (n80 : Int) (s : Hp) (vs : List Value) : Hp → Prop := fun s' => ∃ n7 n8, vs = [(.int .i64 n7), (.int .i64 n8)] ∧ I n7 n8 s' ∧ μ n7 n8 s' < μ n70 n80 s
theorem L_slices_Compare_int_int_0_rule (W : World) (R : Ending → Hp → Prop) (zp0 : Option Addr) (zl1 : Nat) (zl2 : Nat) (zp3 : Option Addr) (zl4 : Nat) (zl5 : Nat) (zn6 : Int) (I : Int → Int → Hp → Prop) (μ : Int → Int → Hp → Nat) (n70 : Int) (n80 : Int) (s : Hp) (h0 : I n70 n80 s)
    (hr : ∀ (n7 : Int) (n8 : Int) (s : Hp), I n7 n8 s → B_slices_Compare_int_int_0 W R zp0 zl1 zl2 zp3 zl4 zl5 zn6 n7 n8 (fun vs => N_slices_Compare_int_int_0 I μ n7 n8 s vs) s) : L_slices_Compare_int_int_0 W R zp0 zl1 zl2 zp3 zl4 zl5 zn6 n70 n80 s := by
  refine ⟨fun vs s => ∃ n7 n8, vs = [(.int .i64 n7), (.int .i64 n8)] ∧ I n7 n8 s, fun vs s => (match vs with | [.int _ n7, .int _ n8] => μ n7 n8 s | _ => 0), ⟨⟨⟨_, rfl⟩, ⟨⟨_, rfl⟩, trivial⟩⟩, ⟨_, _, rfl, h0⟩⟩, ?_⟩
  intro n7 n8 s hI j
  obtain ⟨n7', n8', hy, hI⟩ := hI
  have hI' : I n7 n8 s := by cases hy; exact hI
  have hh := hr n7 n8 s hI'
  rw [← B_slices_Compare_int_int_0_eq W R zp0 zl1 zl2 zp3 zl4 zl5 zn6 n7 n8 _ j] at hh
  refine vc_mono ?_ _ _ hh
  exact KLoop_mono (fun vs s' h => by obtain ⟨n71, n81, rfl, h1, h2⟩ := h; exact ⟨⟨⟨_, rfl⟩, ⟨⟨_, rfl⟩, trivial⟩⟩, ⟨_, _, rfl, h1⟩, h2⟩)
def T_slices_Compare_int_int (W : World) (x1 : Option Addr) (l2 : Nat) (c3 : Nat) (x4 : Option Addr) (l5 : Nat) (c6 : Nat) (R : Ending → Hp → Prop) : Hp → Prop :=
  L_slices_Compare_int_int_0 W R x1 l2 c3 x4 l5 c6 (↑l2 : Int) 0 0
theorem T_slices_Compare_int_int_eq (W : World) (x1 : Option Addr) (l2 : Nat) (c3 : Nat) (x4 : Option Addr) (l5 : Nat) (c6 : Nat) (R : Ending → Hp → Prop) : vfun Pg W an_83 Try.f83 [(.slice x1 l2 c3), (.slice x4 l5 c6)] R = T_slices_Compare_int_int W x1 l2 c3 x4 l5 c6 R := by kernel_rfl
theorem does_slices_Compare_int_int (W : World) (x1 : Option Addr) (l2 : Nat) (c3 : Nat) (x4 : Option Addr) (l5 : Nat) (c6 : Nat) (R : Ending → Hp → Prop) (s : Hp) (h : T_slices_Compare_int_int W x1 l2 c3 x4 l5 c6 R s) : Does Pg W F_slices_Compare_int_int #[(.slice x1 l2 c3), (.slice x4 l5 c6)] s R :=
  does_of_vfun Pg W an_83 Try.func83 rfl (by kernel_rfl) (by rw [T_slices_Compare_int_int_eq]; exact h)
def an_85 : Nat → Ann := fun b => match b with
  | _ => {}
abbrev rv_85 : List ResultVar := [.tmp 2]
abbrev rs_85 : List Nat := [35, 2]
def T_math_bits_OnesCount64 (W : World) (n1 : Int) (R : Ending → Hp → Prop) : Hp → Prop :=
  R (.returned (.int .i64 (andv .i64 (IntKind.wrap .i64 (IntKind.wrap .u64 ((IntKind.wrap .u64 ((IntKind.wrap .u64 ((andv .u64 (IntKind.wrap .u64 ((shrv .u64 (IntKind.wrap .u64 ((andv .u64 (shrv .u64 (IntKind.wrap .u64 ((andv .u64 (shrv .u64 n1 1) 6148914691236517205) + (andv .u64 n1 6148914691236517205))) 2) 3689348814741910323) + (andv .u64 (IntKind.wrap .u64 ((andv .u64 (shrv .u64 n1 1) 6148914691236517205) + (andv .u64 n1 6148914691236517205))) 3689348814741910323))) 4) + (IntKind.wrap .u64 ((andv .u64 (shrv .u64 (IntKind.wrap .u64 ((andv .u64 (shrv .u64 n1 1) 6148914691236517205) + (andv .u64 n1 6148914691236517205))) 2) 3689348814741910323) + (andv .u64 (IntKind.wrap .u64 ((andv .u64 (shrv .u64 n1 1) 6148914691236517205) + (andv .u64 n1 6148914691236517205))) 3689348814741910323))))) 1085102592571150095) + (shrv .u64 (andv .u64 (IntKind.wrap .u64 ((shrv .u64 (IntKind.wrap .u64 ((andv .u64 (shrv .u64 (IntKind.wrap .u64 ((andv .u64 (shrv .u64 n1 1) 6148914691236517205) + (andv .u64 n1 6148914691236517205))) 2) 3689348814741910323) + (andv .u64 (IntKind.wrap .u64 ((andv .u64 (shrv .u64 n1 1) 6148914691236517205) + (andv .u64 n1 6148914691236517205))) 3689348814741910323))) 4) + (IntKind.wrap .u64 ((andv .u64 (shrv .u64 (IntKind.wrap .u64 ((andv .u64 (shrv .u64 n1 1) 6148914691236517205) + (andv .u64 n1 6148914691236517205))) 2) 3689348814741910323) + (andv .u64 (IntKind.wrap .u64 ((andv .u64 (shrv .u64 n1 1) 6148914691236517205) + (andv .u64 n1 6148914691236517205))) 3689348814741910323))))) 1085102592571150095) 8))) + (shrv .u64 (IntKind.wrap .u64 ((andv .u64 (IntKind.wrap .u64 ((shrv .u64 (IntKind.wrap .u64 ((andv .u64 (shrv .u64 (IntKind.wrap .u64 ((andv .u64 (shrv .u64 n1 1) 6148914691236517205) + (andv .u64 n1 6148914691236517205))) 2) 3689348814741910323) + (andv .u64 (IntKind.wrap .u64 ((andv .u64 (shrv .u64 n1 1) 6148914691236517205) + (andv .u64 n1 6148914691236517205))) 3689348814741910323))) 4) + (IntKind.wrap .u64 ((andv .u64 (shrv .u64 (IntKind.wrap .u64 ((andv .u64 (shrv .u64 n1 1) 6148914691236517205) + (andv .u64 n1 6148914691236517205))) 2) 3689348814741910323) + (andv .u64 (IntKind.wrap .u64 ((andv .u64 (shrv .u64 n1 1) 6148914691236517205) + (andv .u64 n1 6148914691236517205))) 3689348814741910323))))) 1085102592571150095) + (shrv .u64 (andv .u64 (IntKind.wrap .u64 ((shrv .u64 (IntKind.wrap .u64 ((andv .u64 (shrv .u64 (IntKind.wrap .u64 ((andv .u64 (shrv .u64 n1 1) 6148914691236517205) + (andv .u64 n1 6148914691236517205))) 2) 3689348814741910323) + (andv .u64 (IntKind.wrap .u64 ((andv .u64 (shrv .u64 n1 1) 6148914691236517205) + (andv .u64 n1 6148914691236517205))) 3689348814741910323))) 4) + (IntKind.wrap .u64 ((andv .u64 (shrv .u64 (IntKind.wrap .u64 ((andv .u64 (shrv .u64 n1 1) 6148914691236517205) + (andv .u64 n1 6148914691236517205))) 2) 3689348814741910323) + (andv .u64 (IntKind.wrap .u64 ((andv .u64 (shrv .u64 n1 1) 6148914691236517205) + (andv .u64 n1 6148914691236517205))) 3689348814741910323))))) 1085102592571150095) 8))) 16))) + (shrv .u64 (IntKind.wrap .u64 ((IntKind.wrap .u64 ((andv .u64 (IntKind.wrap .u64 ((shrv .u64 (IntKind.wrap .u64 ((andv .u64 (shrv .u64 (IntKind.wrap .u64 ((andv .u64 (shrv .u64 n1 1) 6148914691236517205) + (andv .u64 n1 6148914691236517205))) 2) 3689348814741910323) + (andv .u64 (IntKind.wrap .u64 ((andv .u64 (shrv .u64 n1 1) 6148914691236517205) + (andv .u64 n1 6148914691236517205))) 3689348814741910323))) 4) + (IntKind.wrap .u64 ((andv .u64 (shrv .u64 (IntKind.wrap .u64 ((andv .u64 (shrv .u64 n1 1) 6148914691236517205) + (andv .u64 n1 6148914691236517205))) 2) 3689348814741910323) + (andv .u64 (IntKind.wrap .u64 ((andv .u64 (shrv .u64 n1 1) 6148914691236517205) + (andv .u64 n1 6148914691236517205))) 3689348814741910323))))) 1085102592571150095) + (shrv .u64 (andv .u64 (IntKind.wrap .u64 ((shrv .u64 (IntKind.wrap .u64 ((andv .u64 (shrv .u64 (IntKind.wrap .u64 ((andv .u64 (shrv .u64 n1 1) 6148914691236517205) + (andv .u64 n1 6148914691236517205))) 2) 3689348814741910323) + (andv .u64 (IntKind.wrap .u64 ((andv .u64 (shrv .u64 n1 1) 6148914691236517205) + (andv .u64 n1 6148914691236517205))) 3689348814741910323))) 4) + (IntKind.wrap .u64 ((andv .u64 (shrv .u64 (IntKind.wrap .u64 ((andv .u64 (shrv .u64 n1 1) 6148914691236517205) + (andv .u64 n1 6148914691236517205))) 2) 3689348814741910323) + (andv .u64 (IntKind.wrap .u64 ((andv .u64 (shrv .u64 n1 1) 6148914691236517205) + (andv .u64 n1 6148914691236517205))) 3689348814741910323))))) 1085102592571150095) 8))) + (shrv .u64 (IntKind.wrap .u64 ((andv .u64 (IntKind.wrap .u64 ((shrv .u64 (IntKind.wrap .u64 ((andv .u64 (shrv .u64 (IntKind.wrap .u64 ((andv .u64 (shrv .u64 n1 1) 6148914691236517205) + (andv .u64 n1 6148914691236517205))) 2) 3689348814741910323) + (andv .u64 (IntKind.wrap .u64 ((andv .u64 (shrv .u64 n1 1) 6148914691236517205) + (andv .u64 n1 6148914691236517205))) 3689348814741910323))) 4) + (IntKind.wrap .u64 ((andv .u64 (shrv .u64 (IntKind.wrap .u64 ((andv .u64 (shrv .u64 n1 1) 6148914691236517205) + (andv .u64 n1 6148914691236517205))) 2) 3689348814741910323) + (andv .u64 (IntKind.wrap .u64 ((andv .u64 (shrv .u64 n1 1) 6148914691236517205) + (andv .u64 n1 6148914691236517205))) 3689348814741910323))))) 1085102592571150095) + (shrv .u64 (andv .u64 (IntKind.wrap .u64 ((shrv .u64 (IntKind.wrap .u64 ((andv .u64 (shrv .u64 (IntKind.wrap .u64 ((andv .u64 (shrv .u64 n1 1) 6148914691236517205) + (andv .u64 n1 6148914691236517205))) 2) 3689348814741910323) + (andv .u64 (IntKind.wrap .u64 ((andv .u64 (shrv .u64 n1 1) 6148914691236517205) + (andv .u64 n1 6148914691236517205))) 3689348814741910323))) 4) + (IntKind.wrap .u64 ((andv .u64 (shrv .u64 (IntKind.wrap .u64 ((andv .u64 (shrv .u64 n1 1) 6148914691236517205) + (andv .u64 n1 6148914691236517205))) 2) 3689348814741910323) + (andv .u64 (IntKind.wrap .u64 ((andv .u64 (shrv .u64 n1 1) 6148914691236517205) + (andv .u64 n1 6148914691236517205))) 3689348814741910323))))) 1085102592571150095) 8))) 16))) 32)))) 127)))
theorem T_math_bits_OnesCount64_eq (W : World) (n1 : Int) (R : Ending → Hp → Prop) : vfun Pg W an_85 Try.f85 [(.int .u64 n1)] R = T_math_bits_OnesCount64 W n1 R := by kernel_rfl
theorem does_math_bits_OnesCount64 (W : World) (n1 : Int) (R : Ending → Hp → Prop) (s : Hp) (h : T_math_bits_OnesCount64 W n1 R s) : Does Pg W F_math_bits_OnesCount64 #[(.int .u64 n1)] s R :=
  does_of_vfun Pg W an_85 Try.func85 rfl (by kernel_rfl) (by rw [T_math_bits_OnesCount64_eq]; exact h)
def an_86 : Nat → Ann := fun b => match b with
  | _ => {}
abbrev rv_86 : List ResultVar := [.tmp 4]
abbrev rs_86 : List Nat := [20, 4]
def T_cmp_Compare_int (W : World) (n1 : Int) (n2 : Int) (R : Ending → Hp → Prop) : Hp → Prop :=
  CALL Pg W F_cmp_isNaN_int [(.int .i64 n1)]
    (fun v3 => TYB v3 fun b5 =>
      CALL Pg W F_cmp_isNaN_int [(.int .i64 n2)]
        (fun v6 => TYB v6 fun b8 =>
          BR b5
            (BR b8
              (R (.returned (.int .i64 0)))
              (R (.returned (.int .i64 (-1)))))
            (BR b8
              (R (.returned (.int .i64 1)))
              (BR (decide (n1 < n2))
                (R (.returned (.int .i64 (-1))))
                (BR (decide (n1 > n2))
                  (R (.returned (.int .i64 1)))
                  (R (.returned (.int .i64 0)))))))
          (fun e7 => R (.panicked e7)))
      (fun e4 => R (.panicked e4))
theorem T_cmp_Compare_int_eq (W : World) (n1 : Int) (n2 : Int) (R : Ending → Hp → Prop) : vfun Pg W an_86 Try.f86 [(.int .i64 n1), (.int .i64 n2)] R = T_cmp_Compare_int W n1 n2 R := by kernel_rfl
theorem does_cmp_Compare_int (W : World) (n1 : Int) (n2 : Int) (R : Ending → Hp → Prop) (s : Hp) (h : T_cmp_Compare_int W n1 n2 R s) : Does Pg W F_cmp_Compare_int #[(.int .i64 n1), (.int .i64 n2)] s R :=
  does_of_vfun Pg W an_86 Try.func86 rfl (by kernel_rfl) (by rw [T_cmp_Compare_int_eq]; exact h)
def an_87 : Nat → Ann := fun b => match b with
  | _ => {}
abbrev rv_87 : List ResultVar := [.tmp 2]
abbrev rs_87 : List Nat := [6, 2]
def T_cmp_isNaN_int (W : World) (n1 : Int) (R : Ending → Hp → Prop) : Hp → Prop :=
  R (.returned (.bool (n1 != n1)))
theorem T_cmp_isNaN_int_eq (W : World) (n1 : Int) (R : Ending → Hp → Prop) : vfun Pg W an_87 Try.f87 [(.int .i64 n1)] R = T_cmp_isNaN_int W n1 R := by kernel_rfl
theorem does_cmp_isNaN_int (W : World) (n1 : Int) (R : Ending → Hp → Prop) (s : Hp) (h : T_cmp_isNaN_int W n1 R s) : Does Pg W F_cmp_isNaN_int #[(.int .i64 n1)] s R :=
  does_of_vfun Pg W an_87 Try.func87 rfl (by kernel_rfl) (by rw [T_cmp_isNaN_int_eq]; exact h)
def an_103 : Nat → Ann := fun b => match b with
  | _ => {}
abbrev rv_103 : List ResultVar := [.cell 4 29]
abbrev rs_103 : List Nat := [59, 4]
def J_rank_better_of_0 (W : World) (R : Ending → Hp → Prop) (b39 : Bool) (B22 : Nat) (B9 : Nat) : Hp → Prop :=
  BR b39
    (RDI .i64 (Addr.add ⟨B22, 0, none⟩ 0) fun n40 =>
      RDI .i64 (Addr.add ⟨B22, 0, none⟩ 0) fun n41 =>
        WR (Addr.add ⟨B9, 0, none⟩ 0) (.int .i64 n40) <|
          WR (Addr.add ⟨B9, 0, none⟩ 1) (.int .i64 n41) <|
            RDI .i64 (Addr.add ⟨B9, 0, none⟩ 0) fun n42 =>
              RDI .i64 (Addr.add ⟨B9, 0, none⟩ 1) fun n43 =>
                R (.returned (.agg #[(.int .i64 n42), (.int .i64 n43)])))
    (RDI .i64 (Addr.add ⟨B22, 0, none⟩ 0) fun n44 =>
      RDI .i64 (Addr.add ⟨B22, 0, none⟩ 1) fun n45 =>
        WR (Addr.add ⟨B9, 0, none⟩ 0) (.int .i64 n44) <|
          WR (Addr.add ⟨B9, 0, none⟩ 1) (.int .i64 n45) <|
            RDI .i64 (Addr.add ⟨B9, 0, none⟩ 0) fun n46 =>
              RDI .i64 (Addr.add ⟨B9, 0, none⟩ 1) fun n47 =>
                R (.returned (.agg #[(.int .i64 n46), (.int .i64 n47)])))
def J_rank_better_of_1 (W : World) (R : Ending → Hp → Prop) (b27 : Bool) (B22 : Nat) (B9 : Nat) (B8 : Nat) (B7 : Nat) : Hp → Prop :=
  BR b27
    (RDI .i64 (Addr.add ⟨B22, 0, none⟩ 1) fun n28 =>
      RDI .i64 (Addr.add ⟨B22, 0, none⟩ 1) fun n29 =>
        WR (Addr.add ⟨B9, 0, none⟩ 0) (.int .i64 n28) <|
          WR (Addr.add ⟨B9, 0, none⟩ 1) (.int .i64 n29) <|
            RDI .i64 (Addr.add ⟨B9, 0, none⟩ 0) fun n30 =>
              RDI .i64 (Addr.add ⟨B9, 0, none⟩ 1) fun n31 =>
                R (.returned (.agg #[(.int .i64 n30), (.int .i64 n31)])))
    (RDI .i64 (Addr.add ⟨B8, 0, none⟩ 0) fun n32 =>
      RDI .i64 (Addr.add ⟨B7, 0, none⟩ 2) fun n33 =>
        BR (n32 == n33)
          (RDI .u64 (Addr.add ⟨B7, 0, none⟩ 3) fun n34 =>
            RDP (Addr.add (Addr.add ⟨B7, 0, none⟩ 0) 0) fun p35 =>
              SO p35 fun a36 =>
                RDI .i64 (Addr.add (Addr.add a36 0) 1) fun n37 =>
                  RDI .i64 (Addr.add ⟨B8, 0, none⟩ 1) fun n38 =>
                    NNI (IntKind.wrap .i64 (n37 + n38)) <|
                      J_rank_better_of_0 W R ((andv .u64 (shrv .u64 n34 (IntKind.wrap .i64 (n37 + n38))) 1) == 1) B22 B9)
          (J_rank_better_of_0 W R false B22 B9))
def T_rank_better_of (W : World) (p1 : Option Addr) (n2 : Int) (n3 : Int) (n4 : Int) (n5 : Int) (n6 : Int) (R : Ending → Hp → Prop) : Hp → Prop :=
  NEW 101 [(.pointer p1), (.int .i64 n2), (.int .i64 n3), (.int .u64 n4)] fun B7 =>
    NEW 94 [(.int .i64 n5), (.int .i64 n6)] fun B8 =>
      NEWZ Pg 29 fun B9 =>
        RDP (Addr.add (Addr.add ⟨B7, 0, none⟩ 0) 0) fun p10 =>
          RDI .i64 (Addr.add ⟨B8, 0, none⟩ 0) fun n11 =>
            RDI .i64 (Addr.add ⟨B8, 0, none⟩ 1) fun n12 =>
              CALL Pg W F_rank_plain_of [(.agg #[(.pointer p10)]), (.agg #[(.int .i64 n11), (.int .i64 n12)])]
                (fun v13 => AGG v13 fun q15 => HD q15 fun v16 r17 => TYI .i64 v16 fun n18 =>
                  HD r17 fun v19 r20 => TYI .i64 v19 fun n21 =>
                    NL r20 <|
                      NEWZ Pg 29 fun B22 =>
                        WR (Addr.add ⟨B22, 0, none⟩ 0) (.int .i64 n18) <|
                          WR (Addr.add ⟨B22, 0, none⟩ 1) (.int .i64 n21) <|
                            RDI .i64 (Addr.add ⟨B8, 0, none⟩ 0) fun n23 =>
                              RDI .i64 (Addr.add ⟨B7, 0, none⟩ 1) fun n24 =>
                                BR (n23 == n24)
                                  (RDI .u64 (Addr.add ⟨B7, 0, none⟩ 3) fun n25 =>
                                    RDI .i64 (Addr.add ⟨B8, 0, none⟩ 1) fun n26 =>
                                      NNI n26 <|
                                        J_rank_better_of_1 W R ((andv .u64 (shrv .u64 n25 n26) 1) == 1) B22 B9 B8 B7)
                                  (J_rank_better_of_1 W R false B22 B9 B8 B7))
                  (fun e14 => R (.panicked e14))
theorem T_rank_better_of_eq (W : World) (p1 : Option Addr) (n2 : Int) (n3 : Int) (n4 : Int) (n5 : Int) (n6 : Int) (R : Ending → Hp → Prop) : vfun Pg W an_103 Try.f103 [(.agg #[(.pointer p1), (.int .i64 n2), (.int .i64 n3), (.int .u64 n4)]), (.agg #[(.int .i64 n5), (.int .i64 n6)])] R = T_rank_better_of W p1 n2 n3 n4 n5 n6 R := by kernel_rfl
theorem does_rank_better_of (W : World) (p1 : Option Addr) (n2 : Int) (n3 : Int) (n4 : Int) (n5 : Int) (n6 : Int) (R : Ending → Hp → Prop) (s : Hp) (h : T_rank_better_of W p1 n2 n3 n4 n5 n6 R s) : Does Pg W F_rank_better_of #[(.agg #[(.pointer p1), (.int .i64 n2), (.int .i64 n3), (.int .u64 n4)]), (.agg #[(.int .i64 n5), (.int .i64 n6)])] s R :=
  does_of_vfun Pg W an_103 Try.func103 rfl (by kernel_rfl) (by rw [T_rank_better_of_eq]; exact h)
end Go.Proofs.Ytkgcbfbbcaajpaa.G

/- Rank's map of scores: what is found, and what is put. -/
set_option linter.unusedSimpArgs false
set_option linter.unusedVariables false
set_option maxRecDepth 20000
namespace Go.Proofs.Ytkgcbfbbcaajpaa.G
open Go.V
theorem und_89 : Pg.underlying 89 = some (.map 94 29) := by kernel_rfl
theorem und_102 : Pg.underlying 102 = some (.map 3 4) := by kernel_rfl
theorem und_3 : Pg.underlying 3 = some (.int .i64) := by kernel_rfl
theorem zc_3 : zc Pg 3 = [.int .i64 0] := by kernel_rfl
theorem zc_29 : zc Pg 29 = [.int .i64 0, .int .i64 0] := by kernel_rfl
theorem zc_94 : zc Pg 94 = [.int .i64 0, .int .i64 0] := by kernel_rfl
theorem zc_55 : zc Pg 55 = [.int .i64 0, .int .i64 0, .int .i64 0, .int .i64 0] := by kernel_rfl
abbrev Pr := (Int × Int) × (Int × Int)
def keyV (k : Int × Int) : Value := .agg #[.int .i64 k.1, .int .i64 k.2]
theorem check_key (b : Bool) (k : Int × Int) (K : Unit → Hp → Prop) (E : Value → Hp → Prop) (s : Hp) : sp Pg (Instr.checkKey b 10000 94 (keyV k)) K E s = K () s := by kernel_rfl
theorem flat_94 : flatN Pg 24 94 = some [.i .i64, .i .i64] := by kernel_rfl
theorem ag_94 : agO Pg 94 = some true := by kernel_rfl
theorem eq_key {k k' : Int × Int} {K : Bool → Hp → Prop} {E : Value → Hp → Prop} {s : Hp} (h : K (decide (k = k')) s) : sp Pg (Op.equal 94 (keyV k) (keyV k')) K E s := by
  refine sp_of_spq Pg _ _ _ _ ?_
  have hr : eqL [.i .i64, .i .i64] [.int .i64 k.1, .int .i64 k.2] [.int .i64 k'.1, .int .i64 k'.2] = some (k.1 == k'.1 && k.2 == k'.2) := by simp [eqL, eq1]
  have hd : decide (k = k') = (k.1 == k'.1 && k.2 == k'.2) := by
    obtain ⟨a, b⟩ := k
    obtain ⟨c, d⟩ := k'
    by_cases h1 : a = c <;> by_cases h2 : b = d <;> simp [h1, h2]
  refine (flat_eq 24).1 94 _ 10000 _ _ [.int .i64 k.1, .int .i64 k.2] [.int .i64 k'.1, .int .i64 k'.2] _ _ (by omega) flat_94 (.inl ⟨ag_94, rfl⟩) (.inl ⟨ag_94, rfl⟩) (eqL_eqK _ _ _ _ hr) ?_
  rw [hd] at h; exact h
theorem und_94 : ∃ d, Pg.underlying 94 = some d := Option.isSome_iff_exists.1 (show (Pg.underlying 94).isSome = true by kernel_rfl)
/-- What a map holds. -/
structure Holds (es : Array MapEntry) (l : List Pr) : Prop where
  all : es.toList.map (fun e => (e.key, e.val)) = l.map fun x => (keyV x.1, keyV x.2)
def findA (k : Int × Int) : List Pr → Nat → Option (Nat × (Int × Int))
  | [], _ => none
  | x :: r, i => if k = x.1 then some (i, x.2) else findA k r (i + 1)
theorem find_ask {k : Int × Int} {K : Option (Nat × Value) → Hp → Prop} {E : Value → Hp → Prop} {s : Hp} : ∀ (l : List Pr) (es : List MapEntry) (i : Nat), es.map (fun e => (e.key, e.val)) = l.map (fun x => (keyV x.1, keyV x.2)) → K ((findA k l i).map fun x => (x.1, keyV x.2)) s → sp Pg (Instr.findAsking 94 (keyV k) es i) K E s
  | [], [], i, _, h => h
  | [], e :: es, i, h, _ => by simp at h
  | x :: l, [], i, h, _ => by simp at h
  | x :: l, e :: es, i, h, hk => by
    simp only [List.map_cons, List.cons.injEq, Prod.mk.injEq] at h
    obtain ⟨⟨h1, h2⟩, h3⟩ := h
    unfold Instr.findAsking
    rw [sp_bind, h1]
    refine eq_key ?_
    unfold findA at hk
    by_cases he : k = x.1
    · rw [if_pos he] at hk
      rw [decide_eq_true he]
      simp only [if_true]
      rw [h2]; exact hk
    · rw [if_neg he] at hk
      rw [decide_eq_false he]
      simp only [Bool.false_eq_true, if_false]
      exact find_ask l es (i + 1) h3 hk
theorem find_key {k : Int × Int} {K : Option (Nat × Value) → Hp → Prop} {E : Value → Hp → Prop} {s : Hp} {l : List Pr} {es : Array MapEntry} (h : Holds es l) (hk : K ((findA k l 0).map fun x => (x.1, keyV x.2)) s) : sp Pg (Instr.findKey 94 (keyV k) es.toList) K E s := by
  obtain ⟨d, hd⟩ := und_94
  unfold Instr.findKey
  rw [sp_bind, sp_und hd]
  cases he : es.toList with
  | nil =>
    have hl : l = [] := by have := h.all; rw [he] at this; simpa using this.symm
    subst hl
    exact hk
  | cons e r =>
    have hn : Instr.findNow d (keyV k) (e :: r) 0 = none := by
      unfold Instr.findNow
      have : Instr.sameNow d (keyV k) e.key = none := by cases d <;> rfl
      rw [this]
    rw [hn]
    refine find_ask l (e :: r) 0 ?_ hk
    rw [← he]; exact h.all
/-- What is found of a key; nothing is no span. -/
def look (l : List Pr) (k : Int × Int) : (Int × Int) × Bool := match findA k l 0 with | some x => (x.2, true) | none => ((0, 0), false)
theorem info_29 : ∃ i v, Pg.info? 29 = some i ∧ i.zero = some v ∧ v.cells.toList = [.int .i64 0, .int .i64 0] := by
  obtain ⟨i, v, h1, h2, h3⟩ := zero_of (P := Pg) (t := 29) (by kernel_rfl)
  exact ⟨i, v, h1, h2, by rw [← h3, zc_29]⟩
theorem LKP_score {r cl : Nat} {es : Array MapEntry} {l : List Pr} {k : Int × Int} {K : VK} {s : Hp} (hs : s[r]? = some (.map es cl)) (h : Holds es l) (hk : K (.tuple #[keyV (look l k).1, .bool (look l k).2]) s) : LKP Pg 89 (.map (some r)) (keyV k) true K s := by
  unfold LKP Instr.lookup
  rw [sp_bind, sp_und und_89]
  simp only [sp_bind]
  refine ⟨_, hs, rfl, rfl, ?_⟩
  show sp Pg (Sem.pure (Obj.map es cl)) _ _ s
  simp only [sp, sp_bind, sp_pure]
  rw [check_key]
  refine find_key h ?_
  unfold look at hk
  cases hf : findA k l 0 with
  | some x => rw [hf] at hk; exact hk
  | none =>
    rw [hf] at hk
    obtain ⟨i, v, h1, h2, h3⟩ := info_29
    simp only [Option.map_none, sp_bind]
    rw [sp_zero h1 h2]
    simp only [sp_pure, if_true]
    have hv : v = keyV (0, 0) := by
      have : sp Pg (zeroValue 29) (fun x _ => x = keyV (0, 0)) (fun _ _ => False) s = (keyV (0, 0) = keyV (0, 0)) := by kernel_rfl
      rw [sp_zero h1 h2] at this
      exact this.symm ▸ rfl
    rw [hv]; exact hk
end Go.Proofs.Ytkgcbfbbcaajpaa.G

/- Rank's map of scores: what is put. -/
set_option linter.unusedSimpArgs false
set_option linter.unusedVariables false
set_option maxRecDepth 20000
namespace Go.Proofs.Ytkgcbfbbcaajpaa.G
open Go.V
theorem findA_some {k : Int × Int} : ∀ (l : List Pr) (i j : Nat) (v : Int × Int), findA k l i = some (j, v) → ∃ n, ∃ h : n < l.length, j = i + n ∧ l[n] = (k, v)
  | [], _, _, _, h => by cases h
  | x :: r, i, j, v, h => by
    unfold findA at h
    by_cases he : k = x.1
    · rw [if_pos he] at h
      cases h
      exact ⟨0, by simp, rfl, by rw [he]; rfl⟩
    · rw [if_neg he] at h
      obtain ⟨n, hn, h1, h2⟩ := findA_some r (i + 1) j v h
      exact ⟨n + 1, by simp; omega, by omega, by simpa using h2⟩
theorem findA_none {k : Int × Int} : ∀ (l : List Pr) (i : Nat), findA k l i = none ↔ ∀ x ∈ l, x.1 ≠ k
  | [], _ => by simp [findA]
  | x :: r, i => by
    unfold findA
    by_cases he : k = x.1
    · rw [if_pos he]
      simp [he]
    · rw [if_neg he, findA_none r (i + 1)]
      simp only [List.mem_cons, forall_eq_or_imp]
      exact ⟨fun h => ⟨fun e => he e.symm, h⟩, fun h => h.2⟩
/-- A map with a score more, or another one. -/
def put (l : List Pr) (k v : Int × Int) : List Pr := match findA k l 0 with | some (i, _) => l.set i (k, v) | none => l ++ [(k, v)]
theorem same_key {k : Int × Int} : Instr.sameBits 10000 (keyV k) (keyV k) = true := by
  obtain ⟨a, b⟩ := k
  simp [keyV, Instr.sameBits]
theorem setO_get {s : Hp} {r : Nat} {o o' : Obj} (h : s[r]? = some o') : (s.setIfInBounds r o)[r]? = some o := by
  have := (Array.getElem?_eq_some_iff.1 h).1
  rw [Array.getElem?_setIfInBounds]
  simp [this]
theorem setO_kp {s : Hp} {r : Nat} {o : Obj} : Kp (· = r) s (s.setIfInBounds r o) := ⟨by simp, fun b _ hb => Array.getElem?_setIfInBounds_ne (fun e => hb e.symm)⟩
theorem MUP_score {r cl : Nat} {es : Array MapEntry} {l : List Pr} {k v : Int × Int} {K : Hp → Prop} {s : Hp} (hs : s[r]? = some (.map es cl)) (h : Holds es l)
    (hk : ∀ s' es' cl', Kp (· = r) s s' → s'.size = s.size → s'[r]? = some (.map es' cl') → Holds es' (put l k v) → K s') : MUP Pg 89 (.map (some r)) (keyV k) (keyV v) K s := by
  unfold MUP Instr.mapUpdate
  rw [sp_bind, sp_und und_89]
  simp only [sp_bind]
  refine ⟨_, hs, rfl, rfl, ?_⟩
  show sp Pg (Sem.pure (Obj.map es cl)) _ _ s
  simp only [sp, sp_bind]
  rw [check_key]
  refine find_key h ?_
  have hlen : es.size = l.length := by have := congrArg List.length h.all; simpa using this
  cases hf : findA k l 0 with
  | none =>
    simp only [Option.map_none]
    refine ⟨⟨_, hs, rfl, rfl⟩, ?_⟩
    refine hk _ _ _ setO_kp (by simp) (setO_get hs) ⟨?_⟩
    unfold put
    rw [hf]
    rw [Array.toList_push, List.map_append, List.map_append, h.all]
    rfl
  | some x =>
    obtain ⟨j, v0⟩ := x
    obtain ⟨n, hn, hj, hx⟩ := findA_some l 0 j v0 hf
    have hjn : j = n := by omega
    subst hjn
    simp only [Option.map_some, sp_bind]
    have hje : j < es.size := by omega
    have hkey : es[j].key = keyV k ∧ es[j].val = keyV v0 := by
      have h1 := h.all
      have h2 : (es.toList.map (fun e => (e.key, e.val)))[j]? = (l.map fun x => (keyV x.1, keyV x.2))[j]? := by rw [h1]
      rw [List.getElem?_map, List.getElem?_map, List.getElem?_eq_getElem hn, hx] at h2
      rw [List.getElem?_eq_getElem (by simpa using hje)] at h2
      simp at h2
      exact h2
    have hold : (Option.map (fun x => x.key) es[j]?).getD (keyV k) = keyV k := by
      rw [Array.getElem?_eq_getElem hje]
      exact hkey.1
    rw [hold]
    unfold Instr.keyThatStays
    rw [if_pos same_key]
    simp only [sp_pure]
    refine ⟨⟨_, hs, rfl, rfl⟩, ?_⟩
    refine hk _ _ _ setO_kp (by simp) (setO_get hs) ⟨?_⟩
    unfold put
    rw [hf]
    have h1 := h.all
    apply List.ext_getElem?
    intro i
    rw [List.getElem?_map, List.getElem?_map, Array.getElem?_toList, Array.getElem?_modify, List.getElem?_set]
    have h2 : (es.toList.map (fun e => (e.key, e.val)))[i]? = (l.map fun x => (keyV x.1, keyV x.2))[i]? := by rw [h1]
    rw [List.getElem?_map, List.getElem?_map, Array.getElem?_toList] at h2
    by_cases e : j = i
    · subst e
      rw [if_pos rfl, if_pos rfl, if_pos hn, Array.getElem?_eq_getElem hje]
      rfl
    · rw [if_neg e, if_neg e]
      exact h2
end Go.Proofs.Ytkgcbfbbcaajpaa.G

/- Rank: what is told; what is asked of numbers. -/
set_option linter.unusedSimpArgs false
set_option linter.unusedVariables false
set_option maxRecDepth 20000
namespace Go.Proofs.Ytkgcbfbbcaajpaa.G
open Go.V
/-- A panic that tells an error. -/
def pn (e : Int) : List PanicEntry := [{ v := .iface 107 (.agg #[.int .i64 e]), recovered := false }]
theorem zc_107 : zc Pg 107 = [.int .i64 0] := by kernel_rfl
theorem told_vc_none (W : World) (a : Addr) (K : Hp → Prop) : vc Pg W 15 [15] (fun _ => {}) false (sub (bodyOf Try.f45) [1]) 0 (Kdone 15 K) (updo 15 (some 5) .nilIface (Go.V.start [.pointer (some a)] 0)) = (fun s => undef = undef ∧ K s) := by kernel_rfl
theorem told_vc_some (W : World) (a : Addr) (e : Int) (K : Hp → Prop) : vc Pg W 15 [15] (fun _ => {}) false (sub (bodyOf Try.f45) [1]) 0 (Kdone 15 K) (updo 15 (some 5) (.iface 107 (.agg #[.int .i64 e])) (Go.V.start [.pointer (some a)] 0)) =
    NEWZ Pg 107 fun B => WR (Addr.add ⟨B, 0, none⟩ 0) (.int .i64 e) <| RDI .i64 (Addr.add ⟨B, 0, none⟩ 0) fun n => WR (Addr.add a 0) (.int .i64 n) fun s => undef = undef ∧ K s := by kernel_rfl
theorem told_ok_fn : callable Pg 45 = true := by kernel_rfl
theorem told_code : codeOk 15 (sub (bodyOf Try.f45) [1]) = true := by kernel_rfl
theorem told_nr : hasR (sub (bodyOf Try.f45) [1]) = false := by kernel_rfl

section
variable {W : World} {K : Hp → Prop} {s : Hp}
theorem told_none {a : Addr} (h : K s) : DoesD Pg W 45 [.pointer (some a)] none s K := by
  refine told_ok (id := 0) (ty := 20) (pos := "rank.go:25") (d := 5) (an := fun _ => {}) (c := sub (bodyOf Try.f45) [1]) (v := .nilIface) Try.func45 told_ok_fn (by kernel_rfl) told_code told_nr rfl (show 1 ≤ 15 by decide) (.inl ⟨rfl, rfl⟩) ?_
  show vc Pg W 15 [15] _ false _ 0 (Kdone 15 K) (updo 15 (some 5) .nilIface (Go.V.start [.pointer (some a)] 0)) s
  rw [told_vc_none]
  exact ⟨rfl, h⟩
theorem told_some {a : Addr} {e : Int} {x : Value} (ho : Own s a x) (h : ∀ s', Kp (· = a.block) s s' → Own s' a (.int .i64 e) → K s') : DoesD Pg W 45 [.pointer (some a)] (some (pn e)) s K := by
  refine told_ok (id := 0) (ty := 20) (pos := "rank.go:25") (d := 5) (an := fun _ => {}) (c := sub (bodyOf Try.f45) [1]) (v := .iface 107 (.agg #[.int .i64 e])) Try.func45 told_ok_fn (by kernel_rfl) told_code told_nr rfl (show 1 ≤ 15 by decide) (.inr rfl) ?_
  show vc Pg W 15 [15] _ false _ 0 (Kdone 15 K) (updo 15 (some 5) (.iface 107 (.agg #[.int .i64 e])) (Go.V.start [.pointer (some a)] 0)) s
  rw [told_vc_some]
  unfold NEWZ
  rw [zc_107]
  refine WR_own (own_new (i := 0) rfl) rfl ⟨_, own_cell (own_set (own_new (i := 0) rfl)), ?_⟩
  generalize hs1 : s.push (.cells [Value.int .i64 0].toArray 107 (0, 0)) = s1
  have e1 : Ext s s1 := by rw [← hs1]; exact Ext.push (Ext.refl _)
  have hlt := ho.lt
  have o2 : Own (setC s1 (Addr.add ⟨s.size, 0, none⟩ 0) (.int .i64 e)) a x := own_set_ne (.inl (by show a.block ≠ s.size; omega)) (e1.own ho)
  refine WR_own o2 rfl ⟨rfl, h _ ?_ (own_set o2)⟩
  exact Kp.setC (Kp.setC e1.kp (.inr (Nat.le_refl _))) (.inl rfl)
theorem def_none {a : Addr} (h : K s) : DEF Pg W (.tuple #[.func (.func 45) #[] #[], .tuple #[.pointer (some a)]]) none K s := told_none h
theorem def_some {a : Addr} {e : Int} {x : Value} (ho : Own s a x) (h : ∀ s', Kp (· = a.block) s s' → Own s' a (.int .i64 e) → K s') : DEF Pg W (.tuple #[.func (.func 45) #[] #[], .tuple #[.pointer (some a)]]) (some (pn e)) K s := told_some ho h
end


/-- Numbers as values. -/
def ints (ds : List Int) : List Value := ds.map fun n => .int .i64 n
theorem ints_len (ds : List Int) : (ints ds).length = ds.length := by simp [ints]
theorem ints_get {ds : List Int} {i : Nat} (h : i < (ints ds).length) : (ints ds)[i] = .int .i64 (ds[i]'(by simpa [ints] using h)) := by simp [ints]
theorem ints_one (ds : List Int) : ∀ v ∈ ints ds, oneCell v = true := by
  intro v hv
  obtain ⟨n, _, rfl⟩ := List.mem_map.1 hv
  rfl
theorem ints_app (a b : List Int) : ints (a ++ b) = ints a ++ ints b := by unfold ints; rw [List.map_append]
theorem row_new {s' : Hp} {b : Nat} {vs : List Value} (n1 : ∀ i v, vs[i]? = some v → Own s' ⟨b, i, none⟩ v) : RowAt s' (some ⟨b, 0, none⟩) vs := fun i hi => by
  refine ⟨⟨b, 0, none⟩, rfl, ?_⟩
  have := (n1 i vs[i] (List.getElem?_eq_getElem hi)).cell
  rw [add_nil, Nat.mul_one, Nat.zero_add]
  exact this
theorem row_int {s : Hp} {y : Option Addr} {ds : List Int} {k : Nat} (hy : RowAt s y (ints ds)) (hk : k < ds.length) : ∃ a, y = some a ∧ cellAt s (a.add (k * 1)) = some (.int .i64 (ds.getD k 0)) := by
  have hkv : k < (ints ds).length := by rw [ints_len]; exact hk
  obtain ⟨a, ha, g⟩ := hy k hkv
  rw [ints_get hkv] at g
  have : ds.getD k 0 = ds[k] := by simp [List.getD, hk]
  rw [this]
  exact ⟨a, ha, g⟩
section
variable {W : World} {K : VK} {E : List PanicEntry → Hp → Prop} {s : Hp}
theorem c_within {a b c : Int} (h : K (.bool (decide (b ≤ a ∧ a ≤ c))) s) : CALL Pg W F_rank_within [.int .i64 a, .int .i64 b, .int .i64 c] K E s := by
  refine does_rank_within W a b c _ s ?_
  unfold T_rank_within
  refine BR_dec (fun h1 => ?_) (fun h1 => ?_)
  · have : decide (b ≤ a ∧ a ≤ c) = decide (a ≤ c) := by simp [h1]
    rw [← this]; exact h
  · have : decide (b ≤ a ∧ a ≤ c) = false := by simp [h1]
    rw [← this]; exact h
theorem c_must {b : Bool} {e : Int} (h1 : b = true → K (.tuple #[]) s) (h2 : b = false → E (pn e) s) : CALL Pg W F_rank_must [.bool b, .int .i64 e] K E s := by
  refine does_rank_must W b e _ s ?_
  unfold T_rank_must
  exact BR_not (fun h => h2 h) (fun h => h1 h)
theorem c_isNaN {a : Int} (h : K (.bool false) s) : CALL Pg W F_cmp_isNaN_int [.int .i64 a] K E s := by
  refine does_cmp_isNaN_int W a _ s ?_
  unfold T_cmp_isNaN_int
  have : (a != a) = false := by simp
  rw [this]; exact h
def cmpI (a b : Int) : Int := if a < b then -1 else if a > b then 1 else 0
theorem c_cmp {a b : Int} (h : K (.int .i64 (cmpI a b)) s) : CALL Pg W F_cmp_Compare_int [.int .i64 a, .int .i64 b] K E s := by
  refine does_cmp_Compare_int W a b _ s ?_
  unfold T_cmp_Compare_int
  refine c_isNaN ?_
  try simp only [TUP_mk, AGG_mk, HD_mk, NL_mk, TYI_mk, TYB_mk, TYP_mk, TYL_mk, TYS_mk, TYM_mk, SO_mk, NX_mk, endK_mk, endK_mk', add_0]
  refine c_isNaN ?_
  try simp only [TUP_mk, AGG_mk, HD_mk, NL_mk, TYI_mk, TYB_mk, TYP_mk, TYL_mk, TYS_mk, TYM_mk, SO_mk, NX_mk, endK_mk, endK_mk', add_0]
  refine BR_bool (fun hh => by cases hh) (fun _ => ?_)
  refine BR_bool (fun hh => by cases hh) (fun _ => ?_)
  unfold cmpI at h
  refine BR_dec (fun h1 => ?_) (fun h1 => ?_)
  · rw [if_pos h1] at h; exact h
  · rw [if_neg h1] at h
    refine BR_dec (fun h2 => ?_) (fun h2 => ?_)
    · rw [if_pos h2] at h; exact h
    · rw [if_neg h2] at h; exact h
/-- Is one row before another one? -/
def aheadL : List Int → List Int → Bool
  | a :: r, b :: q => if a = b then aheadL r q else decide (a > b)
  | _, _ => false
theorem ahead_drop : ∀ (a b : List Int) (k : Nat), (∀ j, j < k → a.getD j 0 = b.getD j 0) → k < a.length → k < b.length → a.getD k 0 ≠ b.getD k 0 → aheadL a b = decide (a.getD k 0 > b.getD k 0)
  | [], _, _, _, h, _, _ => by simp at h
  | _ :: _, [], _, _, _, h, _ => by simp at h
  | x :: a, y :: b, 0, _, _, _, h => by
    have h' : x ≠ y := h
    unfold aheadL
    rw [if_neg h']
    rfl
  | x :: a, y :: b, k + 1, hj, h1, h2, h => by
    have h0 : x = y := hj 0 (by omega)
    unfold aheadL
    rw [if_pos h0]
    exact ahead_drop a b k (fun j hjk => hj (j + 1) (by omega)) (by simpa using h1) (by simpa using h2) h
theorem ahead_same : ∀ (a : List Int), aheadL a a = false
  | [] => rfl
  | x :: a => by unfold aheadL; rw [if_pos rfl]; exact ahead_same a
theorem c_ahead {x y : Option Addr} {c c' l l' : Nat} {a b : List Int} (ha : RowAt s x (ints a)) (hb : RowAt s y (ints b)) (hl : l = a.length) (hl' : l' = b.length) (hab : a.length = b.length) (h8 : a.length ≤ 1000) (h : K (.bool (aheadL a b)) s) : CALL Pg W F_rank_ahead_int [.slice x l c, .slice y l' c'] K E s := by
  subst hl
  subst hl'
  refine does_rank_ahead_int W x _ c y _ c' _ s ?_
  unfold T_rank_ahead_int
  refine does_slices_Compare_int_int W x _ c y _ c' _ s ?_
  unfold T_slices_Compare_int_int
  refine L_slices_Compare_int_int_0_rule W _ x a.length c y b.length c' a.length (fun _ n t => t = s ∧ ∃ k : Nat, k ≤ a.length ∧ n = k ∧ ∀ j, j < k → a.getD j 0 = b.getD j 0) (fun _ n _ => (a.length - n).toNat) 0 0 s ⟨rfl, 0, by omega, rfl, fun j hj => by omega⟩ ?_
  rintro n7 n8 t ⟨rfl, k, hk, rfl, heq⟩
  unfold B_slices_Compare_int_int_0
  refine BR_dec (fun h1 => ?_) (fun h1 => ?_)
  · have hka : k < a.length := by omega
    obtain ⟨p, hp, g⟩ := row_int ha hka
    obtain ⟨q, hq, g'⟩ := row_int hb (show k < b.length by omega)
    have tk : ((k : Int)).toNat = k := by omega
    refine ⟨p, hp, ⟨by omega, by omega⟩, _, by rw [tk]; exact g, ?_⟩
    refine BR_dec (fun h2 => by omega) (fun _ => ?_)
    refine ⟨q, hq, ⟨by omega, by omega⟩, _, by rw [tk]; exact g', ?_⟩
    refine c_cmp ?_
    try simp only [TUP_mk, AGG_mk, HD_mk, NL_mk, TYI_mk, TYB_mk, TYP_mk, TYL_mk, TYS_mk, TYM_mk, SO_mk, NX_mk, endK_mk, endK_mk', add_0]
    by_cases he : a.getD k 0 = b.getD k 0
    · have hc : cmpI (a.getD k 0) (b.getD k 0) = 0 := by unfold cmpI; rw [if_neg (by omega), if_neg (by omega)]
      rw [hc]
      refine BR_ne (fun hh => absurd rfl hh) (fun _ => ?_)
      have hw : IntKind.i64.wrap ((k : Int) + 1) = ((k + 1 : Nat) : Int) := by rw [wrap_i64 (by omega) (by omega)]; rfl
      refine ⟨_, _, rfl, ⟨rfl, k + 1, by omega, hw, fun j hj => ?_⟩, ?_⟩
      · by_cases e : j = k
        · subst e; exact he
        · exact heq j (by omega)
      · show ((a.length : Int) - IntKind.i64.wrap ((k : Int) + 1)).toNat < ((a.length : Int) - k).toNat
        rw [hw]; omega
    · have hd := ahead_drop a b k heq hka (by omega) he
      have hc : cmpI (a.getD k 0) (b.getD k 0) ≠ 0 := by
        unfold cmpI
        split
        · decide
        · split
          · decide
          · omega
      refine BR_ne (fun _ => ?_) (fun hh => absurd hh hc)
      try simp only [TUP_mk, AGG_mk, HD_mk, NL_mk, TYI_mk, TYB_mk, TYP_mk, TYL_mk, TYS_mk, TYM_mk, SO_mk, NX_mk, endK_mk, endK_mk', add_0]
      have e : decide (cmpI (a.getD k 0) (b.getD k 0) > 0) = aheadL a b := by
        rw [hd]
        unfold cmpI
        by_cases h3 : a.getD k 0 < b.getD k 0
        · rw [if_pos h3]
          have : ¬ a.getD k 0 > b.getD k 0 := by omega
          rw [decide_eq_false this]; rfl
        · rw [if_neg h3]
          have : a.getD k 0 > b.getD k 0 := by omega
          rw [if_pos this, decide_eq_true this]; rfl
      rw [e]; exact h
  · have hka : k = a.length := by omega
    have hz : aheadL a b = false := by
      have : a = b := by
        apply List.ext_getElem hab
        intro j h2 h3
        have := heq j (by omega)
        simpa [List.getD, h2, h3] using this
      rw [this]; exact ahead_same b
    refine BR_dec (fun h2 => by omega) (fun _ => ?_)
    try simp only [TUP_mk, AGG_mk, HD_mk, NL_mk, TYI_mk, TYB_mk, TYP_mk, TYL_mk, TYS_mk, TYM_mk, SO_mk, NX_mk, endK_mk, endK_mk', add_0]
    rw [hz] at h
    exact h
theorem c_total {x : Option Addr} {c l : Nat} {ds : List Int} (hx : RowAt s x (ints ds)) (hl : l = ds.length) (hb : ∀ n ∈ ds, 0 ≤ n ∧ n ≤ 1000) (h8 : ds.length ≤ 1000) (h : K (.int .i64 ds.sum) s) : CALL Pg W F_rank_total [.slice x l c] K E s := by
  subst hl
  refine does_rank_total W x _ c _ s ?_
  unfold T_rank_total
  have hsum : ∀ k, k ≤ ds.length → 0 ≤ (ds.take k).sum ∧ (ds.take k).sum ≤ 1000 * k := by
    intro k
    induction k with
    | zero => intro _; simp
    | succ k ih =>
      intro hk
      have ih := ih (by omega)
      have hkl : k < ds.length := by omega
      rw [List.take_add_one, List.getElem?_eq_getElem hkl]
      have := hb _ (List.getElem_mem hkl)
      simp only [Option.toList_some, List.sum_append, List.sum_cons, List.sum_nil]
      omega
  refine L_rank_total_0_rule W _ x ds.length c ds.length (fun n4 n5 t => t = s ∧ ∃ k : Nat, k ≤ ds.length ∧ n5 = k ∧ n4 = (ds.take k).sum) (fun _ n5 _ => (ds.length - n5).toNat) 0 0 s ⟨rfl, 0, by omega, rfl, by simp⟩ ?_
  rintro n4 n5 t ⟨rfl, k, hk, rfl, rfl⟩
  unfold B_rank_total_0
  refine BR_dec (fun h1 => ?_) (fun h1 => ?_)
  · have hkl : k < ds.length := by omega
    obtain ⟨p, hp, g⟩ := row_int hx hkl
    have tk : ((k : Int)).toNat = k := by omega
    refine ⟨p, hp, ⟨by omega, by omega⟩, _, by rw [tk]; exact g, ?_⟩
    have hw : IntKind.i64.wrap ((k : Int) + 1) = ((k + 1 : Nat) : Int) := by rw [wrap_i64 (by omega) (by omega)]; rfl
    have hs := hsum (k + 1) (by omega)
    have e : (ds.take (k + 1)).sum = (ds.take k).sum + ds.getD k 0 := by
      have hg : ds.getD k 0 = ds[k] := by simp [List.getD, hkl]
      rw [hg, List.take_add_one, List.getElem?_eq_getElem hkl, List.sum_append]
      show (ds.take k).sum + ([ds[k]] : List Int).sum = _
      rw [List.sum_cons, List.sum_nil, Int.add_zero]
    rw [e] at hs
    refine ⟨rfl, _, _, rfl, ⟨rfl, k + 1, by omega, hw, ?_⟩, ?_⟩
    · rw [e, wrap_i64 (by omega) (by omega)]
    · show ((ds.length : Int) - IntKind.i64.wrap ((k : Int) + 1)).toNat < ((ds.length : Int) - k).toNat
      rw [hw]; omega
  · have hkl : k = ds.length := by omega
    subst hkl
    rw [List.take_length]
    exact h
end
end Go.Proofs.Ytkgcbfbbcaajpaa.G
