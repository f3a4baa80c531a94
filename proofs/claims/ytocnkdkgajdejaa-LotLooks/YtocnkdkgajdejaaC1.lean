import Derived.Test.YtocnkdkgajdejaaC0
import Derived.RecoverIn
import Derived.Test.YtocnkdkgajdejaaRows
import Derived.WalkKit
import Derived.ProofKit
import Derived.OpenShut
import Derived.ShutString
import Derived.ChangeOld
import Derived.Below
import Derived.SizedLaws
import Derived.Test.YtocnkdkgajdejaaProg
/- Lemmas: contracts over the visible heap, and that they are sound; no condition. -/
/- The text of conditions is monotone in what lies behind. -/
set_option linter.unusedSimpArgs false
set_option linter.unusedVariables false
namespace Go.V
section
variable {P : Program} {W : World} {s : Hp}

theorem ty1_pure {k : Kd} {v : Value} {K : VK} (h : ty1 k v K s) : K v s ∧ ∀ (K' : VK) (s' : Hp), K' v s' → ty1 k v K' s' := by
  unfold ty1 at h ⊢
  cases k <;> simp only at h ⊢
  case i k => unfold TYI at h ⊢; cases v <;> first | exact h.elim | (obtain ⟨rfl, h⟩ := h; exact ⟨h, fun K' s' h' => ⟨rfl, h'⟩⟩)
  case b => unfold TYB at h ⊢; cases v <;> first | exact h.elim | exact ⟨h, fun K' s' h' => h'⟩
  case s => unfold TYS at h ⊢; cases v <;> first | exact h.elim | exact ⟨h, fun K' s' h' => h'⟩
  case p => unfold TYP at h ⊢; cases v <;> first | exact h.elim | exact ⟨h, fun K' s' h' => h'⟩
  case l => unfold TYL at h ⊢; cases v <;> first | exact h.elim | exact ⟨h, fun K' s' h' => h'⟩
  case m => unfold TYM at h ⊢; cases v <;> first | exact h.elim | exact ⟨h, fun K' s' h' => h'⟩
  case v => exact ⟨h, fun K' s' h' => h'⟩
theorem tyN_pure : ∀ (ks : List Kd) (l : List Value) (K : List Value → Hp → Prop), tyN ks l K s → K l s ∧ ∀ (K' : List Value → Hp → Prop) (s' : Hp), K' l s' → tyN ks l K' s'
  | [], l, K, h => by obtain ⟨rfl, h⟩ := NL_elim h; exact ⟨h, fun K' s' h' => h'⟩
  | k :: ks, l, K, h => by
    obtain ⟨x, r, rfl, h'⟩ := HD_elim h
    obtain ⟨h1, h2⟩ := ty1_pure h'
    obtain ⟨h3, h4⟩ := tyN_pure ks r _ h1
    exact ⟨h3, fun K' s' hk => h2 (fun v => tyN ks r fun vs => K' (v :: vs)) s' (h4 (fun vs => K' (x :: vs)) s' hk)⟩
theorem tyT_pure {t : TypeId} {v : Value} {K : VK} (h : tyT P t v K s) : K v s ∧ ∀ (K' : VK) (s' : Hp), K' v s' → tyT P t v K' s' := by
  unfold tyT at h ⊢
  cases hb : isAg P t with
  | false => simp only [hb] at h ⊢; exact ty1_pure h
  | true =>
    simp only [hb] at h ⊢
    unfold AGG at h ⊢
    cases v <;> first | exact h.elim | skip
    rename_i a
    obtain ⟨h1, h2⟩ := tyN_pure _ _ _ h
    exact ⟨by simpa using h1, fun K' s' h' => h2 _ s' (by simpa using h')⟩
theorem tyTs_pure : ∀ (ts : List TypeId) (l : List Value) (K : List Value → Hp → Prop), tyTs P ts l K s → K l s ∧ ∀ (K' : List Value → Hp → Prop) (s' : Hp), K' l s' → tyTs P ts l K' s'
  | [], l, K, h => by obtain ⟨rfl, h⟩ := NL_elim h; exact ⟨h, fun K' s' h' => h'⟩
  | t :: ts, l, K, h => by
    obtain ⟨x, r, rfl, h'⟩ := HD_elim h
    obtain ⟨h1, h2⟩ := tyT_pure h'
    obtain ⟨h3, h4⟩ := tyTs_pure ts r _ h1
    exact ⟨h3, fun K' s' hk => h2 (fun v => tyTs P ts r fun vs => K' (v :: vs)) s' (h4 (fun vs => K' (x :: vs)) s' hk)⟩
theorem tyR_pure {t : TypeId} {v : Value} {K : VK} (h : tyR P t v K s) : K v s ∧ ∀ (K' : VK) (s' : Hp), K' v s' → tyR P t v K' s' := by
  unfold tyR at h ⊢
  cases hu : P.underlying t with
  | none => simp only [hu] at h ⊢; exact tyT_pure h
  | some d =>
    simp only [hu] at h ⊢
    cases d <;> first | exact tyT_pure h | skip
    unfold TUP at h ⊢
    cases v <;> first | exact h.elim | skip
    obtain ⟨h1, h2⟩ := tyTs_pure _ _ _ h
    exact ⟨by simpa using h1, fun K' s' h' => h2 _ s' (by simpa using h')⟩

theorem CS_mono {ag : Bool} {v : Value} {n : Nat} {K K' : List Value → Hp → Prop} (hk : ∀ l s, K l s → K' l s) (h : CS ag v n K s) : CS ag v n K' s := by
  unfold CS at h ⊢
  cases ag with
  | true =>
    cases v <;> first | exact h.elim | skip
    rename_i c
    cases hb : Nat.beq c.toList.length n with
    | false => simp only [hb] at h; exact h.elim
    | true => simp only [hb] at h ⊢; exact hk _ _ h
  | false =>
    cases hb : Nat.beq n 1 with
    | false => simp only [hb] at h; exact h.elim
    | true =>
      simp only [hb] at h ⊢
      unfold ONE at h ⊢
      cases h1 : oneCell v with
      | false => simp only [h1] at h; exact h.elim
      | true => simp only [h1] at h ⊢; exact hk _ _ h
theorem wrN_mono : ∀ (vs : List Value) (a : Addr) (i : Nat) (K K' : Hp → Prop) (hk : ∀ s, K s → K' s) (s : Hp), wrN vs a i K s → wrN vs a i K' s
  | [], a, i, K, K', hk, s, h => hk s h
  | v :: vs, a, i, K, K', hk, s, h => ⟨h.1, wrN_mono vs a (i + 1) K K' hk _ h.2⟩
theorem SZ_mono {t : TypeId} {K K' : Nat → Hp → Prop} (hk : ∀ m s, K m s → K' m s) (h : SZ P t K s) : SZ P t K' s := by
  obtain ⟨m, h1, h2⟩ := SZ_pure h
  exact h2 _ _ (hk _ _ h1)
theorem ST_mono {t : TypeId} {p v : Value} {K K' : Hp → Prop} (hk : ∀ s, K s → K' s) (h : ST P t p v K s) : ST P t p v K' s := by
  unfold ST at h ⊢
  cases p <;> first | exact h.elim | skip
  obtain ⟨a, rfl, h'⟩ := SO_elim h
  exact SZ_mono (fun m s h => CS_mono (fun l s h => wrN_mono _ _ _ _ _ hk _ h) h) h'
theorem BLD_mono {place : Nat → Option (Nat × Nat × Bool)} {cs : List Value} {ps : List (Nat × Value)} {K K' : List Value → Hp → Prop} (hk : ∀ l s, K l s → K' l s) (h : BLD place cs ps K s) : BLD place cs ps K' s := by
  obtain ⟨ds, h1, h2⟩ := BLD_pure _ _ _ h
  exact h2 _ _ (hk _ _ h1)
theorem BSL_mono {t : TypeId} {len : Nat} {ps : List (Nat × Value)} {K K' : VK} (hk : ∀ v s, K v s → K' v s) (h : BSL P t len ps K s) : BSL P t len ps K' s := by
  unfold BSL at h ⊢
  cases hc : (isSl P t && hasZero P (elemT P t) && Nat.beq (zc P (elemT P t)).length (P.cellsOf (elemT P t)) && Nat.ble (len * P.cellsOf (elemT P t)) 1000) with
  | false => simp only [hc] at h; exact h.elim
  | true => simp only [hc] at h ⊢; exact BLD_mono (fun l s h => hk _ _ h) h
theorem mks_mono {t : TypeId} {l c : Value} {K K' : VK} (hk : ∀ v s, K v s → K' v s) (h : mks P t l c K s) : mks P t l c K' s := by
  unfold mks at h ⊢
  cases l <;> first | exact h.elim | skip
  cases c <;> first | exact h.elim | skip
  simp only at h ⊢
  cases hc : (isSl P t && hasZero P (elemT P t) && Nat.beq (zc P (elemT P t)).length (P.cellsOf (elemT P t)) && Nat.ble (P.bytesOf (elemT P t)) 1000) with
  | false => simp only [hc] at h; exact h.elim
  | true => simp only [hc] at h ⊢; exact ⟨h.1, hk _ _ h.2⟩
theorem slc_mono {t : TypeId} {x : Value} {lo hi : Option Value} {K K' : VK} (hk : ∀ v s, K v s → K' v s) (h : slc P t x lo hi K s) : slc P t x lo hi K' s := by
  unfold slc at h ⊢
  cases hu : P.underlying t with
  | none => simp only [hu] at h; exact h.elim
  | some d =>
    simp only [hu] at h ⊢
    cases d <;> first | exact h.elim | skip
    cases x <;> first | exact h.elim | skip
    refine SZ_mono (fun m s h => ?_) h
    cases lo with
    | none =>
      cases hi with
      | none => exact ⟨h.1, hk _ _ h.2⟩
      | some v => cases v <;> first | exact h.elim | exact ⟨h.1, hk _ _ h.2⟩
    | some u =>
      cases hi with
      | none => cases u <;> first | exact h.elim | exact ⟨h.1, hk _ _ h.2⟩
      | some v => cases u <;> cases v <;> first | exact h.elim | exact ⟨h.1, hk _ _ h.2⟩
theorem fad_mono {t : TypeId} {x : Value} {j : Nat} {K K' : VK} (hk : ∀ v s, K v s → K' v s) (h : fad P t x j K s) : fad P t x j K' s := by
  unfold fad at h ⊢
  cases hu : P.underlying t with
  | none => simp only [hu] at h; exact h.elim
  | some d =>
    simp only [hu] at h ⊢
    cases d <;> first | exact h.elim | skip
    rename_i fs
    cases x <;> first | exact h.elim | skip
    obtain ⟨a, rfl, h'⟩ := SO_elim h
    show (match fs.toList[j]? with | some f => _ | none => FF) s
    cases hf : fs.toList[j]? with
    | none => simp only [hf] at h'; exact h'.elim
    | some f =>
      simp only [hf] at h' ⊢
      refine SZ_mono (fun m s h => ?_) h'
      cases hb : Nat.beq m 0 with
      | false => simp only [hb] at h ⊢; exact hk _ _ h
      | true =>
        simp only [hb] at h ⊢
        cases hc : (Nat.beq f.offset 0 && Nat.beq f.byteOffset 0) with
        | false => simp only [hc] at h; exact h.elim
        | true => simp only [hc] at h ⊢; exact ⟨h.1, hk _ _ h.2⟩
theorem fld_mono {t : TypeId} {x : Value} {j : Nat} {K K' : VK} (hk : ∀ v s, K v s → K' v s) (h : fld P t x j K s) : fld P t x j K' s := by
  unfold fld at h ⊢
  cases hu : P.underlying t with
  | none => simp only [hu] at h; exact h.elim
  | some d =>
    simp only [hu] at h ⊢
    cases d <;> first | exact h.elim | skip
    rename_i fs
    cases x <;> first | exact h.elim | skip
    rename_i c
    simp only at h ⊢
    cases hf : fs.toList[j]? with
    | none => simp only [hf] at h; exact h.elim
    | some f =>
      simp only [hf] at h ⊢
      cases hag : agO P f.type with
      | none => simp only [hag] at h; exact h.elim
      | some b =>
        cases b with
        | true => simp only [hag] at h ⊢; exact SZ_mono (fun m s h => hk _ _ h) h
        | false =>
          simp only [hag] at h ⊢
          cases hv : c.toList[f.offset]? with
          | none => simp only [hv] at h; exact h.elim
          | some v => simp only [hv] at h ⊢; exact hk _ _ h
theorem APP_mono {t : TypeId} {es : Nat} {x : Option Addr} {l c : Nat} {y : Option Addr} {m : Nat} {K K' : Option Addr → Nat → Nat → Hp → Prop} (hk : ∀ a l c s, K a l c s → K' a l c s) (h : APP P t es x l c y m K s) : APP P t es x l c y m K' s := by
  obtain ⟨h1, vs, h2, h3⟩ := h
  refine ⟨h1, vs, h2, ?_⟩
  split at h3
  · rename_i hc
    rw [if_pos hc]
    cases x with
    | none => exact hk _ _ _ _ h3
    | some a => exact wrN_mono _ _ _ _ _ (fun s h => hk _ _ _ _ h) _ h3
  · rename_i hc
    rw [if_neg hc]
    obtain ⟨ws, h4, h5⟩ := h3
    exact ⟨ws, h4, fun c' g1 g2 => hk _ _ _ _ (h5 c' g1 g2)⟩
theorem COPY_mono {es : Nat} {x : Option Addr} {l : Nat} {y : Option Addr} {m : Nat} {K K' : Int → Hp → Prop} (hk : ∀ n s, K n s → K' n s) (h : COPY es x l y m K s) : COPY es x l y m K' s := by
  obtain ⟨vs, h1, h2⟩ := h
  refine ⟨vs, h1, ?_⟩
  cases x with
  | none => exact hk _ _ h2
  | some a => exact wrN_mono _ _ _ _ _ (fun s h => hk _ _ h) _ h2
theorem bltin_mono {b : Builtin} {ts : List TypeId} {args : List Value} {K K' : VK} (hk : ∀ v s, K v s → K' v s) (h : bltin P b ts args K s) : bltin P b ts args K' s := by
  have hlen : ∀ {args : List Value}, bltin P .len ts args K s → bltin P .len ts args K' s := fun h => by
    obtain ⟨v, h1, h2⟩ := len_pure h
    exact h2 _ _ (hk _ _ h1)
  by_cases hb : b = .len
  · subst hb; exact hlen h
  · unfold bltin at h ⊢
    split at h
    · exact absurd rfl hb
    · exact hk _ _ h
    · exact hk _ _ h
    · exact hk _ _ h
    · rename_i x l c y m c2
      cases h0 : (ts[0]?).bind P.underlying with
      | none => simp only [h0] at h; exact h.elim
      | some d =>
        simp only [h0] at h ⊢
        cases d <;> first | exact h.elim | skip
        rename_i e
        cases h1 : (ts[1]?).map (isSl P) with
        | none => simp only [h1] at h; exact h.elim
        | some bb =>
          simp only [h1] at h ⊢
          cases bb <;> first | exact h.elim | skip
          cases hb : (hasZero P e && Nat.beq (zc P e).length (P.cellsOf e) && Nat.ble (P.bytesOf e) 1000 && Nat.ble 1 (P.bytesOf e)) with
          | false => simp only [hb] at h; exact h.elim
          | true => simp only [hb] at h ⊢; exact APP_mono (fun a l c s h => hk _ _ h) h
    · rename_i x l c y m c2
      cases h0 : (ts[0]?).bind P.underlying with
      | none => simp only [h0] at h; exact h.elim
      | some d =>
        simp only [h0] at h ⊢
        cases d <;> first | exact h.elim | skip
        exact SZ_mono (fun m s h => COPY_mono (fun n s h => hk _ _ h) h) h
    · exact h.elim
theorem tas_mono {ty : TypeId} {ok : Bool} {x : Value} {K K' : VK} (hk : ∀ v s, K v s → K' v s) (h : tas P ty ok x K s) : tas P ty ok x K' s := by
  unfold tas at h ⊢
  cases hu : P.underlying ty with
  | none => simp only [hu] at h; exact h.elim
  | some d =>
    simp only [hu] at h ⊢
    cases d <;> simp only at h ⊢ <;> first | exact h.elim | skip
    all_goals
      cases x <;> first | exact h.elim | skip
      rename_i t v
      simp only at h ⊢
      cases hb : Nat.beq t ty <;> simp only [hb] at h ⊢
      · cases ok with
        | false => exact h.elim
        | true =>
          cases hz : (P.info? ty).bind (·.zero) with
          | none => simp only [hz] at h; exact h.elim
          | some z => simp only [hz] at h ⊢; exact hk _ _ h
      · exact hk _ _ h
theorem PAN_mono {x : Value} {E E' : List PanicEntry → Hp → Prop} (he : ∀ c s, E c s → E' c s) (h : PAN x E s) : PAN x E' s := by
  unfold PAN at h ⊢
  cases x <;> first | exact h.elim | exact he _ _ h

theorem vop_mono {o : Oper} {t : Tm} {K K' : VK} {E E' : List PanicEntry → Hp → Prop} (hk : ∀ v s, K v s → K' v s) (he : ∀ c s, E c s → E' c s) (h : vop P W o t K E s) : vop P W o t K' E' s := by
  by_cases hq : quiet o = true ∧ fieldOk P o = true
  · obtain ⟨v, h1, h2⟩ := vop_val hq.1 hq.2 h
    exact h2 _ _ (hk _ _ h1)
  · have ty : ∀ {v s}, tyR P o.type v K s → tyR P o.type v K' s := fun {v s} h => by
      obtain ⟨h1, h2⟩ := tyR_pure h
      exact h2 _ _ (hk _ _ h1)
    obtain ⟨dst, op, type, pos, after, guard⟩ := o
    unfold vop at h ⊢
    simp only at h ⊢ ty
    cases op <;> (try simp only at h ⊢) <;> first | exact h.elim | exact hk _ _ h | exact absurd ⟨rfl, rfl⟩ hq | skip
    case alloc e =>
      cases hz : hasZero P e with
      | false => simp only [hz] at h; exact h.elim
      | true => simp only [hz] at h ⊢; exact hk _ _ h
    case box e x => exact SZ_mono (fun m s h => CS_mono (fun l s h => hk _ _ h) h) h
    case buildSlice ty len ps => exact BSL_mono hk h
    case store ty p x => exact ST_mono (fun s h => hk _ _ h) h
    case makeSlice ty l c => exact mks_mono hk h
    case fieldAddr ty x j => exact fad_mono hk h
    case slice ty x lo hi mx =>
      cases mx with
      | some m => exact h.elim
      | none => exact slc_mono hk h
    case field ty x j => exact fld_mono hk h
    case typeAssert x xt ty ok => exact tas_mono hk h
    case panic x => exact PAN_mono he h
    case call c =>
      obtain ⟨callee, args, argTypes⟩ := c
      cases callee with
      | value x => cases x <;> first | exact CALL_mono (fun v s h => ty h) he h | exact CALLV_mono (fun v s h => ty h) he h
      | invoke x m => exact INV_mono (fun v s h => ty h) he h
      | builtin b => exact bltin_mono hk h
end

section
variable {P : Program} {W : World} {n : Nat} {rs : List Nat} {an : Nat → Ann}
theorem BR_mono {b : Bool} {x y x' y' : Hp → Prop} (hx : ∀ s, x s → x' s) (hy : ∀ s, y s → y' s) : ∀ s, BR b x y s → BR b x' y' s := by
  intro s h
  cases b with
  | true => exact hx s h
  | false => exact hy s h
theorem grd_mono {d : Option Nat} {want : Bool} {t : Tm} {run skip run' skip' : Tm → Hp → Prop} (hr : ∀ t s, run t s → run' t s) (hs : ∀ t s, skip t s → skip' t s) {s : Hp} (h : grd n d want t run skip s) : grd n d want t run' skip' s := by
  unfold grd at h ⊢
  cases d with
  | none => exact hs _ _ h
  | some d =>
    simp only at h ⊢
    cases ht : t d <;> simp only [ht] at h ⊢ <;> first | exact h.elim | exact hs _ _ h | skip
    cases want
    · exact BR_mono (fun s h => hs _ _ h) (fun s h => hr _ _ h) s h
    · exact BR_mono (fun s h => hr _ _ h) (fun s h => hs _ _ h) s h
theorem vrun_mono {rd : Bool} {o : Oper} {K K' : Kt} (hk : ∀ e t s, K e t s → K' e t s) {rest rest' : Tm → Hp → Prop} (hr : ∀ t s, rest t s → rest' t s) {t : Tm} {s : Hp} (h : vrun P W n rs rd o K rest t s) : vrun P W n rs rd o K' rest' t s := by
  by_cases hdf : ∃ c, o.op = .defer c
  · unfold vrun at h ⊢
    obtain ⟨⟨callee, args, ats⟩, hop⟩ := hdf
    simp only [hop] at h ⊢
    cases callee <;> first | exact h.elim | skip
    rename_i x
    cases x <;> first | exact h.elim | skip
    cases rd <;> first | exact h.elim | skip
    simp only at h ⊢
    cases ht : t n <;> simp only [ht] at h ⊢ <;> first | exact h.elim | skip
    rename_i l
    obtain ⟨l⟩ := l
    cases l with
    | nil => exact hr _ _ h
    | cons x y => exact h.elim
  · have hnd : ∀ c, o.op ≠ .defer c := fun c hc => hdf ⟨c, hc⟩
    have e : ∀ (K : Kt) (rest : Tm → Hp → Prop), vrun P W n rs rd o K rest t = vop P W o t (fun v => rest (updo n o.dst v t)) (fun c => K (.panic c) (prj rs t)) := by
      intro K rest
      unfold vrun
      cases hop : o.op <;> first | rfl | exact absurd hop (hnd _)
    rw [e] at h ⊢
    exact vop_mono (fun v s h => hr _ _ h) (fun c s h => hk _ _ _ h) h
theorem vops_mono {rd : Bool} {ops : List Oper} {K K' : Kt} (hk : ∀ e t s, K e t s → K' e t s) : ∀ (l : List Oper) (t : Tm) (s : Hp), vops P W n rs rd ops K l t s → vops P W n rs rd ops K' l t s
  | [], t, s, h => hk _ _ _ h
  | o :: l, t, s, h => by
    have ih := vops_mono (rd := rd) (ops := ops) hk l
    unfold vops at h ⊢
    cases hg : o.guard with
    | none => simp only [hg] at h ⊢; exact vrun_mono hk ih h
    | some jw =>
      obtain ⟨j, w⟩ := jw
      simp only [hg] at h ⊢
      exact grd_mono (fun t s h => vrun_mono hk ih h) (fun t s h => ih _ _ h) h
theorem sames_mono {ops : List Oper} {m : Nat} {t : Tm} {K K' : Hp → Prop} (hk : ∀ s, K s → K' s) : ∀ (L : List Nat) (s : Hp), sames P W n ops m t L K s → sames P W n ops m t L K' s
  | [], s, h => hk s h
  | q :: L, s, h => by
    have ih := sames_mono (ops := ops) (m := m) (t := t) hk L
    unfold sames at h ⊢
    cases ho : ops[q]? with
    | none => simp only [ho] at h ⊢; exact ih _ h
    | some o =>
      simp only [ho] at h ⊢
      cases hb : (isLoad o && !bit m q) with
      | false => simp only [hb] at h ⊢; exact ih _ h
      | true =>
        cases hd : o.dst with
        | none => simp only [hb, hd] at h ⊢; exact ih _ h
        | some d =>
          simp only [hb, hd] at h ⊢
          cases hg : o.guard with
          | none => simp only [hg] at h ⊢; exact ⟨h.1, ih _ h.2⟩
          | some jw => simp only [hg] at h ⊢; exact ⟨h.1, ih _ h.2⟩
theorem CONJ_map {α : Type} {f g : α → Hp → Prop} : ∀ (l : List α), (∀ x ∈ l, ∀ s, f x s → g x s) → ∀ s, CONJ (l.map f) s → CONJ (l.map g) s
  | [], _, s, h => h
  | [x], hl, s, h => hl x (by simp) s h
  | x :: y :: l, hl, s, h => ⟨hl x (by simp) s h.1, CONJ_map (y :: l) (fun z hz => hl z (by simp [hz])) s h.2⟩
theorem dops_mono {ops : List Oper} {ms : List Nat} {K K' : Kt} (hk : ∀ e t s, K e t s → K' e t s) : ∀ (f : Nat) (L : List Nat) (t : Tm) (s : Hp), dops P W n rs ops ms K f L t s → dops P W n rs ops ms K' f L t s
  | 0, L, t, s, h => h
  | f + 1, L, t, s, h => by
    have ih := dops_mono (ops := ops) (ms := ms) hk f
    unfold dops at h ⊢
    cases hq : findQ L ops 0 with
    | some io =>
      obtain ⟨i, o⟩ := io
      simp only [hq] at h ⊢
      cases hg : o.guard with
      | none => simp only [hg] at h ⊢; exact vop_mono (fun v s h => ih _ _ _ h) (fun c s h => h) h
      | some jw =>
        obtain ⟨j, w⟩ := jw
        simp only [hg] at h ⊢
        exact grd_mono (fun t s h => vop_mono (fun v s h => ih _ _ _ h) (fun c s h => h) h) (fun t s h => ih _ _ _ h) h
    | none =>
      simp only [hq] at h ⊢
      cases he : findE L ops 0 with
      | nil => simp only [he] at h ⊢; exact hk _ _ _ h
      | cons e es =>
        simp only [he] at h ⊢
        refine CONJ_map _ (fun io _ s h => ?_) s h
        obtain ⟨i, o⟩ := io
        simp only at h ⊢
        cases hg : o.guard with
        | none => simp only [hg] at h ⊢; exact vop_mono (fun v s h => sames_mono (fun s h => ih _ _ _ h) _ _ h) (fun c s h => hk _ _ _ h) h
        | some jw =>
          obtain ⟨j, w⟩ := jw
          simp only [hg] at h ⊢
          exact grd_mono (fun t s h => vop_mono (fun v s h => sames_mono (fun s h => ih _ _ _ h) _ _ h) (fun c s h => hk _ _ _ h) h) (fun t s h => ih _ _ _ h) h

theorem KSeq_mono {y y' : Tm → Hp → Prop} {K K' : Kt} (hy : ∀ t s, y t s → y' t s) (hk : ∀ e t s, K e t s → K' e t s) : ∀ e t s, KSeq y K e t s → KSeq y' K' e t s := by
  intro e t s h
  cases e <;> first | exact hy _ _ h | exact hk _ _ _ h
theorem KBlk_mono {id : Nat} {K K' : Kt} (hk : ∀ e t s, K e t s → K' e t s) : ∀ e t s, KBlk id K e t s → KBlk id K' e t s := by
  intro e t s h
  cases e <;> first | exact hk _ _ _ h | skip
  rename_i j
  simp only [KBlk] at h ⊢
  cases hb : Nat.beq j id <;> simp only [hb] at h ⊢ <;> exact hk _ _ _ h
theorem KLoop_K {ms us : List Nat} {zs : List Value} {nx : List Value → Hp → Prop} {K K' : Kt} (hk : ∀ e t s, K e t s → K' e t s) : ∀ e t s, KLoop ms us zs nx K e t s → KLoop ms us zs nx K' e t s := by
  intro e t s h
  cases e <;> first | exact h | exact hk _ _ _ h
theorem ALLK_mono : ∀ (ks : List Kd) (F G : List Value → Prop), (∀ vs, F vs → G vs) → ALLK ks F → ALLK ks G
  | [], F, G, h, a => h _ a
  | k :: ks, F, G, h, a => by
    cases k with
    | l => exact fun x l c => ALLK_mono ks _ _ (fun vs h' => h _ h') (a x l c)
    | _ => exact fun x => ALLK_mono ks _ _ (fun vs h' => h _ h') (a x)
theorem vc_mono : ∀ {rd : Bool} {c : Code} {b : Nat} {K K' : Kt}, (∀ e t s, K e t s → K' e t s) → ∀ t s, vc P W n rs an rd c b K t s → vc P W n rs an rd c b K' t s := by
  intro rd c
  induction c generalizing rd with
  | skip => exact fun h t s hv => h _ _ _ hv
  | label => exact fun h t s hv => h _ _ _ hv
  | ret => exact fun h t s hv => h _ _ _ hv
  | exit => exact fun h t s hv => h _ _ _ hv
  | goto => exact fun h t s hv => hv
  | refuse => exact fun h t s hv => hv
  | region id ops draws =>
    intro b K K' h t s hv
    cases draws with
    | false => exact vops_mono h _ _ _ hv
    | true =>
      unfold vc at hv ⊢
      cases hd : drOk P rs ops.toList with
      | false => simp only [hd] at hv; exact hv.elim
      | true => simp only [hd] at hv ⊢; exact dops_mono h _ _ _ _ hv
  | seq x y ihx ihy => exact fun h t s hv => ihx (KSeq_mono (fun t s h' => ihy h _ _ h') h) _ _ hv
  | cond c x y ihx ihy =>
    intro b K K' h t s hv
    unfold vc at hv ⊢
    cases hb : ev t c <;> simp only [hb] at hv ⊢ <;> first | exact hv.elim | skip
    exact BR_mono (fun s h' => ihx h _ _ h') (fun s h' => ihy h _ _ h') s hv
  | block id c ih => exact fun h t s hv => ih (KBlk_mono h) _ _ hv
  | loop c ih =>
    intro b K K' h t s hv
    unfold vc at hv ⊢
    obtain ⟨I, μ, h0, hB⟩ := hv
    refine ⟨I, μ, h0, ALLK_mono _ _ _ (fun ys hy s hI j => ?_) hB⟩
    exact ih (KLoop_K h) _ _ (hy s hI j)
  | scope c ih => exact fun h t s hv => ih h _ _ hv
  | rangeFunc f ps x y ihx ihy =>
    intro b K K' h t s hv
    unfold vc at hv ⊢
    cases rd with
    | true => exact hv
    | false =>
      obtain ⟨xs, R, I, S, g1, g2, g3, g4, g5, g6, g7, g8⟩ := hv
      refine ⟨xs, R, I, S, g1, g2, g3, g4, g5, g6, fun s hs => h _ _ _ (g7 s hs), fun c s hs => ?_⟩
      have := g8 c s hs
      simp only [AFT] at this ⊢
      cases c <;> first | exact this | skip
      case ret =>
        cases hrt : (an b).rt with
        | true => simp only [hrt] at this ⊢; exact h _ _ _ this
        | false => simp only [hrt] at this; exact this.elim
      case exit id =>
        have hex : ∀ (l : List Nat) (s : Hp), EXL l (fun id => K (.exit id) t) id s → EXL l (fun id => K' (.exit id) t) id s := by
          intro l
          induction l with
          | nil => exact fun s h => h
          | cons j l ih =>
            intro s h'
            unfold EXL at h' ⊢
            cases hb : Nat.beq id j with
            | true => simp only [hb] at h' ⊢; exact h _ _ _ h'
            | false => simp only [hb] at h' ⊢; exact ih s h'
        exact hex _ _ this
end
end Go.V

/- What the printed functions import. -/
namespace Go.V
theorem KLoop_mono {ms us : List Nat} {zs : List Value} {nx nx' : List Value → Hp → Prop} {K : Kt} (h : ∀ vs s, nx vs s → nx' vs s) : ∀ e t s, KLoop ms us zs nx K e t s → KLoop ms us zs nx' K e t s := by
  intro e t s hk
  cases e <;> first | exact hk | exact ⟨hk.1, h _ _ hk.2⟩
end Go.V

/- The visible heap: what goes on, own cells, what tactics do. -/
set_option linter.unusedSimpArgs false
set_option linter.unusedVariables false
namespace Go.V
section
variable {s s' s'' t : Hp} {a b : Addr} {v w : Value} {o : Obj}

theorem Ext.refl (s : Hp) : Ext s s := ⟨Nat.le_refl _, fun _ _ => rfl⟩
theorem Ext.trans (h : Ext s s') (k : Ext s' s'') : Ext s s'' := ⟨Nat.le_trans h.1 k.1, fun b hb => (k.2 b (Nat.lt_of_lt_of_le hb h.1)).trans (h.2 b hb)⟩
theorem Ext.push (h : Ext s s') : Ext s (s'.push o) := ⟨by simp; exact Nat.le_succ_of_le h.1, fun b hb => by
  rw [Array.getElem?_push, if_neg (by have := h.1; omega)]; exact h.2 b hb⟩
theorem Ext.setC (h : Ext s s') (hb : s.size ≤ a.block) : Ext s (setC s' a v) := ⟨by rw [setC_size]; exact h.1, fun b hlt => by
  rw [setC_get _ _ _ (by omega)]; exact h.2 b hlt⟩
theorem cell_lt (h : cellAt s a = some v) : a.block < s.size := by
  obtain ⟨c, t, f, hb⟩ := block_of_cell h
  exact (Array.getElem?_eq_some_iff.1 hb).1
theorem cell_of_block (h : s'[a.block]? = s[a.block]?) : cellAt s' a = cellAt s a := by unfold cellAt; rw [h]
theorem frozen_of_block (h : s'[a.block]? = s[a.block]?) : frozenAt s' a = frozenAt s a := by unfold frozenAt; rw [h]
theorem Ext.cell (e : Ext s s') (h : cellAt s a = some v) : cellAt s' a = some v := by rw [cell_of_block (e.2 _ (cell_lt h))]; exact h

/-- A cell that may be written. -/
def Own (s : Hp) (a : Addr) (v : Value) : Prop := cellAt s a = some v ∧ frozenAt s a = false
theorem Own.cell (h : Own s a v) : cellAt s a = some v := h.1
theorem Own.lt (h : Own s a v) : a.block < s.size := cell_lt h.1
theorem Ext.own (e : Ext s s') (h : Own s a v) : Own s' a v := ⟨e.cell h.1, by rw [frozen_of_block (e.2 _ h.lt)]; exact h.2⟩
theorem cell_push (h : cellAt s a = some v) : cellAt (s.push o) a = some v := ((Ext.refl s).push (o := o)).cell h
theorem own_push (h : Own s a v) : Own (s.push o) a v := ((Ext.refl s).push (o := o)).own h
theorem own_new {cs : List Value} {ty : TypeId} {i : Nat} (h : cs[i]? = some v) : Own (s.push (.cells cs.toArray ty (0, 0))) ⟨s.size, i, none⟩ v := by
  have hb : (s.push (.cells cs.toArray ty (0, 0)))[s.size]? = some (.cells cs.toArray ty (0, 0)) := by rw [Array.getElem?_push, if_pos rfl]
  refine ⟨?_, ?_⟩
  · unfold cellAt; simp only [hb]; simpa using h
  · unfold frozenAt; simp only [hb]; simp
theorem cell_new {cs : List Value} {ty : TypeId} {i : Nat} (h : cs[i]? = some v) : cellAt (s.push (.cells cs.toArray ty (0, 0))) ⟨s.size, i, none⟩ = some v := (own_new h).1
theorem setC_block {c : Array Value} {t : TypeId} {f : Nat × Nat} (h : s[a.block]? = some (.cells c t f)) (hs : a.spot = none) : (setC s a v)[a.block]? = some (.cells (c.setIfInBounds a.off v) t f) := by
  unfold Go.V.setC
  rw [Array.getElem?_modify, if_pos rfl, h]
  simp [hs]
theorem cell_spot (h : cellAt s a = some v) : a.spot = none := by
  obtain ⟨c, t, f, hb⟩ := block_of_cell h
  unfold cellAt at h
  simp only [hb] at h
  cases hs : a.spot with
  | none => rfl
  | some x => simp [hs] at h
theorem own_set (h : Own s a w) : Own (setC s a v) a v := by
  obtain ⟨c, t, f, hb⟩ := block_of_cell h.1
  have hs := cell_spot h.1
  have h2 := setC_block (v := v) hb hs
  have h1 := h.1
  unfold cellAt at h1
  simp only [hb, hs, Option.isSome_none, Bool.false_eq_true, if_false] at h1
  have hlt : a.off < c.size := (Array.getElem?_eq_some_iff.1 h1).1
  refine ⟨?_, ?_⟩
  · unfold cellAt
    simp only [h2, hs, Option.isSome_none, Bool.false_eq_true, if_false]
    simp [hlt]
  · have := h.2
    unfold frozenAt at this ⊢
    simp only [hb] at this
    simp only [h2]
    exact this
theorem cell_set_ne (hne : b.block ≠ a.block ∨ b.off ≠ a.off) (h : cellAt s b = some v) : cellAt (setC s a w) b = some v := by
  by_cases hb : b.block = a.block
  · have ho := hne.resolve_left (fun h => h hb)
    obtain ⟨c, t, f, hblk⟩ := block_of_cell h
    have hs := cell_spot h
    have h1 := h
    unfold cellAt at h1 ⊢
    simp only [hblk, hs, Option.isSome_none, Bool.false_eq_true, if_false] at h1
    unfold Go.V.setC
    rw [Array.getElem?_modify, if_pos hb.symm, hblk]
    simp only [Option.map_some, hs, Option.isSome_none, Bool.false_eq_true, if_false]
    cases a.spot with
    | none => simp only [Option.isSome_none, Bool.false_eq_true, if_false]; rw [Array.getElem?_setIfInBounds_ne (fun e => ho e.symm)]; exact h1
    | some x => simpa using h1
  · rw [cell_of_block (setC_get _ _ _ hb)]; exact h
theorem own_set_ne (hne : b.block ≠ a.block ∨ b.off ≠ a.off) (h : Own s b v) : Own (setC s a w) b v := by
  refine ⟨cell_set_ne hne h.1, ?_⟩
  by_cases hb : b.block = a.block
  · have hf := h.2
    obtain ⟨c, t, f, hblk⟩ := block_of_cell h.1
    unfold frozenAt at hf ⊢
    unfold Go.V.setC
    rw [Array.getElem?_modify, if_pos hb.symm, hblk]
    simp only [hblk] at hf
    simpa using hf
  · rw [frozen_of_block (setC_get _ _ _ hb)]; exact h.2

/-! ### Rules of nodes -/
theorem BR_dec {p : Prop} [Decidable p] {x y : Hp → Prop} (h1 : p → x s) (h2 : ¬ p → y s) : BR (decide p) x y s := by
  by_cases hp : p
  · rw [decide_eq_true hp]; exact h1 hp
  · rw [decide_eq_false hp]; exact h2 hp
theorem BR_bool {c : Bool} {x y : Hp → Prop} (h1 : c = true → x s) (h2 : c = false → y s) : BR c x y s := by
  cases c with
  | true => exact h1 rfl
  | false => exact h2 rfl
theorem BR_not {c : Bool} {x y : Hp → Prop} (h1 : c = false → x s) (h2 : c = true → y s) : BR (!c) x y s := by
  cases c with
  | true => exact h2 rfl
  | false => exact h1 rfl
theorem BR_eq {α : Type} [BEq α] [LawfulBEq α] {a b : α} {x y : Hp → Prop} (h1 : a = b → x s) (h2 : a ≠ b → y s) : BR (a == b) x y s :=
  BR_bool (fun h => h1 (by simpa using h)) (fun h => h2 (by simpa using h))
theorem BR_ne {α : Type} [BEq α] [LawfulBEq α] {a b : α} {x y : Hp → Prop} (h1 : a ≠ b → x s) (h2 : a = b → y s) : BR (a != b) x y s :=
  BR_bool (fun h => h1 (by simpa using h)) (fun h => h2 (by simpa using h))
theorem WR_own {x : Value} {K : Hp → Prop} (h : Own s a x) (h1 : oneCell v = true) (hk : K (setC s a v)) : WR a v K s := ⟨⟨h1, ⟨_, h.1⟩, h.2⟩, hk⟩
theorem CALL_of {P : Program} {W : World} {f : FuncId} {args : List Value} {K : VK} {E : List PanicEntry → Hp → Prop} (h : Does P W f args.toArray s (endK K E)) : CALL P W f args K E s := h
theorem CALLV_func {P : Program} {W : World} {f : FuncId} {args : List Value} {cap : Array Value} {K : VK} {E : List PanicEntry → Hp → Prop} (h : CALL P W f (args ++ cap.toList) K E s) : CALLV P W (.func (.func f) #[] cap) args K E s := by
  show Does P W f (#[] ++ args.toArray ++ cap) s _
  have e : (#[] ++ args.toArray ++ cap : Array Value) = (args ++ cap.toList).toArray := Array.ext' (by simp)
  rw [e]; exact h
end

theorem wrap_id {k : IntKind} {n : Int} (h0 : k.min ≤ n) (h1 : n ≤ k.max) : k.wrap n = n := by
  cases k <;> simp [IntKind.min, IntKind.max, IntKind.bits, IntKind.signed] at h0 h1 <;> simp [IntKind.wrap, IntKind.bits, IntKind.signed] <;> (try split) <;> omega
theorem wrap_i64 {n : Int} (h0 : -9223372036854775808 ≤ n) (h1 : n ≤ 9223372036854775807) : IntKind.i64.wrap n = n := wrap64_id h0 h1
theorem wrap_u64 {n : Int} (h0 : 0 ≤ n) (h1 : n ≤ 18446744073709551615) : IntKind.u64.wrap n = n := by
  simp [IntKind.wrap, IntKind.bits, IntKind.signed]; omega

/-! ### A function that recovers -/
section
variable {P : Program} {W : World} {s : Hp}
theorem rel_start {n : Nat} {k0 : Nat → Prop} {X : Nat → Prop} {h : Hp} {args : List Value} (hlen : args.length ≤ n) : Rel n k0 X h { tmps := args.toArray ++ Array.replicate (n - args.toArray.size) undef, defers := [] } (start args 0) := by
  refine ⟨by simp; omega, fun i hi => ?_, ?_⟩
  · rw [start_get, if_pos (Nat.zero_le _)]
    show Array.getD (args.toArray ++ _) i undef = _
    rw [Array.getD_eq_getD_getElem?]
    by_cases hlt : i < args.length
    · rw [Array.getElem?_append_left (by simpa using hlt)]
      simp [List.getD]
    · rw [Array.getElem?_append_right (by simpa using hlt)]
      have : args.getD (i - 0) undef = undef := by simp [List.getD]; rw [List.getElem?_eq_none (by omega)]; rfl
      rw [this, Array.getElem?_replicate]
      split <;> rfl
  · show start args 0 n = undef
    rw [start_get, if_pos (Nat.zero_le _)]
    simp [List.getD]
    rw [List.getElem?_eq_none (by omega)]; rfl
/-- How the text of the rest of such a function is gone on with. -/
def Kdone (n : Nat) (K : Hp → Prop) : Kt := fun e t => match e with | .normal | .ret => fun s => t n = undef ∧ K s | _ => FF
theorem Dcd_none {X : Nat → Prop} {h : Hp} : ∀ {ds : List Deferred}, Dcd (fun _ => False) X h ds undef → ds = []
  | [], _ => rfl
  | d :: ds, hd => by
    rcases hd with ⟨r, _, h2, _⟩ | ⟨f, args, _, h2, _⟩
    · exact h2.elim
    · simp [undef] at h2
theorem told_ok {f : FuncId} {fn : Func} {id : Nat} {d : Nat} {ty : TypeId} {pos : String} {c : Code} {an : Nat → Ann} {args : List Value} {K : Hp → Prop} {rec : Option (List PanicEntry)} {v : Value}
    (hf : P.funcs[f]? = some fn) (hc : callable P f = true) (hb : fn.body = some (.seq (.region id #[{ dst := some d, op := .call { callee := .builtin .recover, args := #[], argTypes := #[] }, type := ty, pos := pos, after := #[], guard := none }] false) c))
    (hok : codeOk fn.ntmps c = true) (hnr : hasR c = false) (hres : fn.results = #[]) (hlen : args.length ≤ fn.ntmps)
    (hrec : (rec = none ∧ v = .nilIface) ∨ (rec = some [{ v := v, recovered := false }]))
    (h : vc P W fn.ntmps [fn.ntmps] an false c 0 (Kdone fn.ntmps K) (updo fn.ntmps (some d) v (start args 0)) s) : DoesD P W f args rec s K := by
  refine ⟨hc, fun X hp dr vis => ?_⟩
  refine callsDIn_of_wpSIn hf hb trivial ?_
  intro c₀ cs hmode
  refine wpSIn_seq (wpSIn_region ?_)
  have hfin : ∀ u', settle u' = .returning →
      c.wpSIn Fence.wide 0 P (bodyPostS P fn c₀ cs fun e u w' => (∃ v, e = .returned v) ∧ settle u = .returning ∧ Now W X hp K w') (({ tmps := args.toArray ++ Array.replicate (fn.ntmps - args.toArray.size) undef, defers := [] } : Act).put (some d) v) ({ c₀ with mode := u' } :: cs) (wat W hp dr) := by
    intro u' hset
    refine wpSIn_of_wpIn rfl ?_
    have hs := vc_sound (W := W) (rs := [fn.ntmps]) (an := an) c hok none 0 (Kdone fn.ntmps K) (fun _ => False) _ s _ X hp dr (fun hh => by rw [hnr] at hh; cases hh) vis ((rel_start hlen).put (some d) v) h
    refine wpIn_mono hs ?_
    have hdone : ∀ (a' : Act) (X' : Nat → Prop) (h' : Hp) (d' : Nat) (s' : Hp) (t' : Tm), Vis X' h' s' → Ev X hp X' h' → Rel fn.ntmps (fun _ => False) X' h' a' t' → (t' fn.ntmps = undef ∧ K s') →
        a'.defers = [] ∧ ∃ u'', ({ c₀ with mode := u' } :: cs : List Frame) = { c₀ with mode := u'' } :: cs ∧ ∃ v, (results fn a'.tmps).run P (wat W h' d') = .ok v (wat W h' d') ∧ (∃ v', Ending.returned v = .returned v') ∧ settle u'' = .returning ∧ Now W X hp K (wat W h' d') := by
      intro a' X' h' d' s' t' v' e' rl' hk
      have hd := rl'.dfr
      rw [hk.1] at hd
      obtain ⟨vr, _, hrun⟩ := results_run (P := P) (W := W) (s := s') (fn := fn) (tmps := a'.tmps) (t := t') (R := fun _ _ => True) (by rw [hres]; intro i hi; simp [slotsOf] at hi) (by rw [hres]; trivial)
      exact ⟨Dcd_none hd, u', rfl, vr, hrun X' h' d' v', ⟨_, rfl⟩, hset, X', h', d', s', rfl, v', e', hk.2⟩
    intro e a' w' q
    cases e with
    | normal => obtain ⟨X', h', d', s', t', rfl, v', e', rl', hk⟩ := q; exact hdone a' X' h' d' s' t' v' e' rl' hk
    | ret => obtain ⟨X', h', d', s', t', rfl, v', e', rl', hk⟩ := q; exact hdone a' X' h' d' s' t' v' e' rl' hk
    | panic c => obtain ⟨X', h', d', s', t', rfl, v', e', rl', hk⟩ := q; exact hk.elim
    | exit id => obtain ⟨X', h', d', s', t', rfl, v', e', rl', hk⟩ := q; exact hk.elim
    | goto l => exact q.elim
    | outgrown => exact q.elim
  have hr : List.range (#[({ dst := some d, op := .call { callee := .builtin .recover, args := #[], argTypes := #[] }, type := ty, pos := pos, after := #[], guard := none } : Oper)]).size = [0] := rfl
  rw [hr]
  refine ⟨fun _ _ => trivial, ?_⟩
  show (match recoverD (c₀ :: cs) with
    | some (v, cs') => _
    | none => _)
  rcases hrec with ⟨rfl, rfl⟩ | rfl
  · have e1 : recoverD (c₀ :: cs) = none := by simp only [recoverD, hmode]
    rw [e1]
    have e2 : ({ c₀ with mode := .returning } : Frame) = c₀ := by
      have : c₀.mode = .returning := hmode
      rw [← this]
    have := hfin .returning rfl
    rw [e2] at this
    exact this
  · have e1 : recoverD (c₀ :: cs) = some (v, { c₀ with mode := .panicking [{ v := v, recovered := true }] } :: cs) := by simp only [recoverD, hmode]
    rw [e1]
    exact hfin _ rfl
end
end Go.V

/- Tactics over the visible heap. -/
set_option linter.unusedSimpArgs false
set_option linter.unusedVariables false
namespace Go.V
theorem ext_size {s s' : Hp} (h : Ext s s') : s.size ≤ s'.size := h.1
theorem own_cell {s : Hp} {a : Addr} {v : Value} (h : Own s a v) : cellAt s a = some v := h.1

theorem endK_ret {K : VK} {E : List PanicEntry → Hp → Prop} {v : Value} {s : Hp} (h : K v s) : endK K E (.returned v) s := h
theorem endK_pan {K : VK} {E : List PanicEntry → Hp → Prop} {c : List PanicEntry} {s : Hp} (h : E c s) : endK K E (.panicked c) s := h
end Go.V
namespace Go.V
section
variable {s : Hp}
theorem TUP_mk (l : List Value) (K : List Value → Hp → Prop) : TUP (.tuple l.toArray) K = K l := rfl
theorem AGG_mk (l : List Value) (K : List Value → Hp → Prop) : AGG (.agg l.toArray) K = K l := rfl
theorem HD_mk {α : Type} (x : α) (r : List α) (K : α → List α → Hp → Prop) : HD (x :: r) K = K x r := rfl
theorem NL_mk {α : Type} (K : Hp → Prop) : NL ([] : List α) K = K := rfl
theorem TYI_mk (k : IntKind) (n : Int) (K : Int → Hp → Prop) : TYI k (.int k n) K = K n := by funext s; simp [TYI]
theorem TYB_mk (b : Bool) (K : Bool → Hp → Prop) : TYB (.bool b) K = K b := rfl
theorem TYP_mk (b : Option Addr) (K : Option Addr → Hp → Prop) : TYP (.pointer b) K = K b := rfl
theorem TYL_mk (x : Option Addr) (l c : Nat) (K : Option Addr → Nat → Nat → Hp → Prop) : TYL (.slice x l c) K = K x l c := rfl
theorem TYS_mk (b : ByteArray) (K : ByteArray → Hp → Prop) : TYS (.string b) K = K b := rfl
theorem TYM_mk (b : Option Nat) (K : Option Nat → Hp → Prop) : TYM (.map b) K = K b := rfl
theorem SO_mk {α : Type} (b : α) (K : α → Hp → Prop) : SO (some b) K = K b := rfl
theorem NX_mk (l : List Value) (K : Hp → Prop) : NX l l K = K := by funext s; simp [NX]
theorem endK_mk (K : VK) (E : List PanicEntry → Hp → Prop) (v : Value) : endK K E (.returned v) = K v := rfl
theorem endK_mk' (K : VK) (E : List PanicEntry → Hp → Prop) (c : List PanicEntry) : endK K E (.panicked c) = E c := rfl
theorem add_0 (a : Addr) : a.add 0 = a := rfl
end
end Go.V
namespace Go.V
theorem cell_blind {s : Hp} {l : Nat} {o : Obj} {a : Addr} {v : Value} (hl : s[l]? = some o) (h : cellAt (s.setIfInBounds l junk) a = some v) : cellAt s a = some v := by
  by_cases e : a.block = l
  · have hlt : l < s.size := (Array.getElem?_eq_some_iff.1 hl).1
    unfold cellAt at h
    rw [e, set_eq hlt] at h
    cases h
  · rw [← cell_of_block (set_ne e)]; exact h
end Go.V
namespace Go.V
/-- Whatever lay is as it was, but for some blocks. -/
def Kp (C : Nat → Prop) (s s' : Hp) : Prop := s.size ≤ s'.size ∧ ∀ b, b < s.size → ¬ C b → s'[b]? = s[b]?
section
variable {C D : Nat → Prop} {s s' s'' : Hp} {a : Addr} {v : Value} {o : Obj}
theorem Kp.refl (s : Hp) : Kp C s s := ⟨Nat.le_refl _, fun _ _ _ => rfl⟩
theorem Ext.kp (e : Ext s s') : Kp C s s' := ⟨e.1, fun b hb _ => e.2 b hb⟩
theorem Kp.trans (h : Kp C s s') (k : Kp C s' s'') : Kp C s s'' := ⟨Nat.le_trans h.1 k.1, fun b hb hc => (k.2 b (Nat.lt_of_lt_of_le hb h.1) hc).trans (h.2 b hb hc)⟩
theorem Kp.ext (h : Kp C s s') (k : Ext s' s'') : Kp C s s'' := h.trans k.kp
theorem Kp.push (h : Kp C s s') : Kp C s (s'.push o) := h.ext (Ext.push (Ext.refl _))
theorem Kp.setC (h : Kp C s s') (hb : C a.block ∨ s.size ≤ a.block) : Kp C s (setC s' a v) := ⟨by rw [setC_size]; exact h.1, fun b hlt hc => by
  have hne : b ≠ a.block := fun e => by
    subst e
    rcases hb with hb | hb
    · exact hc hb
    · omega
  rw [setC_get _ _ _ hne]; exact h.2 b hlt hc⟩
theorem Kp.cell (e : Kp C s s') (hc : ¬ C a.block) (h : cellAt s a = some v) : cellAt s' a = some v := by rw [cell_of_block (e.2 _ (cell_lt h) hc)]; exact h
theorem Kp.own (e : Kp C s s') (hc : ¬ C a.block) (h : Own s a v) : Own s' a v := ⟨e.cell hc h.1, by rw [frozen_of_block (e.2 _ h.lt hc)]; exact h.2⟩
theorem Kp.mono (h : Kp C s s') (hc : ∀ b, C b → D b) : Kp D s s' := ⟨h.1, fun b hb hd => h.2 b hb (fun h => hd (hc b h))⟩
theorem Kp.fresh (h : Kp C s s') (hc : ∀ b, C b → s.size ≤ b) : Ext s s' := ⟨h.1, fun b hb => h.2 b hb (fun h => by have := hc b h; omega)⟩
end
end Go.V

/- Slices: reading, writing, appending. -/
set_option linter.unusedSimpArgs false
set_option linter.unusedVariables false
set_option maxRecDepth 20000
namespace Go.V
section
variable {s s' : Hp}
theorem add_blk (a : Addr) (n : Nat) : (a.add n).block = a.block := by unfold Addr.add; split <;> rfl
theorem add_of (a : Addr) (n : Nat) : (a.add n).off = a.off + n := by unfold Addr.add; split <;> simp_all
theorem add_nil {b o n : Nat} : (⟨b, o, none⟩ : Addr).add n = ⟨b, o + n, none⟩ := by unfold Addr.add; split <;> simp_all

theorem wrN_rule : ∀ (vs : List Value) (a : Addr) (j : Nat) (K : Hp → Prop) (s : Hp), (∀ i, i < vs.length → ∃ y, Own s (a.add (j + i)) y) → (∀ v ∈ vs, oneCell v = true) →
    (∀ s', Kp (· = a.block) s s' → s'.size = s.size → (∀ i (h : i < vs.length), Own s' (a.add (j + i)) vs[i]) → (∀ b y, (b.off < a.off + j ∨ a.off + j + vs.length ≤ b.off) → Own s b y → Own s' b y) → K s') → wrN vs a j K s
  | [], a, j, K, s, h1, h2, h => h s (Kp.refl s) rfl (fun i hi => by simp at hi) (fun b y _ ho => ho)
  | v :: vs, a, j, K, s, h1, h2, h => by
    obtain ⟨y, hy⟩ := h1 0 (by simp)
    rw [Nat.add_zero] at hy
    have hne : ∀ i, i ≠ j → (a.add i).block ≠ (a.add j).block ∨ (a.add i).off ≠ (a.add j).off := fun i hi => .inr (by rw [add_of, add_of]; omega)
    refine WR_own hy (h2 v (by simp)) ?_
    refine wrN_rule vs a (j + 1) K _ (fun i hi => ?_) (fun u hu => h2 u (by simp [hu])) ?_
    · obtain ⟨z, hz⟩ := h1 (i + 1) (by simp; omega)
      rw [show j + (i + 1) = j + 1 + i by omega] at hz
      exact ⟨z, own_set_ne (hne _ (by omega)) hz⟩
    · intro s' k z ho hk
      have k0 : Kp (· = a.block) s (setC s (a.add j) v) := Kp.setC (Kp.refl s) (.inl (add_blk a j))
      refine h s' (k0.trans k) (by rw [z, setC_size]) ?_ ?_
      · intro i hi
        cases i with
        | zero =>
          have := hk (a.add j) v (.inl (by rw [add_of]; omega)) (own_set hy)
          simpa using this
        | succ i =>
          have := ho i (by simpa using hi)
          rw [show j + (i + 1) = j + 1 + i by omega]
          simpa using this
      · intro b y' hi ho'
        simp only [List.length_cons] at hi
        exact hk b y' (by omega) (own_set_ne (.inr (by rw [add_of]; omega)) ho')

theorem cellsAt_of : ∀ (vs : List Value) (a : Addr) (j : Nat), (∀ i (h : i < vs.length), cellAt s (a.add (j + i)) = some vs[i]) → cellsAt s a j vs.length = some vs
  | [], a, j, h => rfl
  | v :: vs, a, j, h => by
    have h0 := h 0 (by simp)
    have ih := cellsAt_of vs a (j + 1) (fun i hi => by
      have := h (i + 1) (by simpa using hi)
      rw [show j + 1 + i = j + (i + 1) by omega]; simpa using this)
    simp only [List.length_cons, cellsAt]
    rw [Nat.add_zero] at h0
    rw [h0, ih]
    simp

/-- What a slice of cells holds. -/
def RowAt (s : Hp) (x : Option Addr) (vs : List Value) : Prop := ∀ i, (h : i < vs.length) → ∃ a, x = some a ∧ cellAt s (a.add (i * 1)) = some vs[i]
theorem RowAt.ext {x : Option Addr} {vs : List Value} (e : Ext s s') (h : RowAt s x vs) : RowAt s' x vs := fun i hi => by
  obtain ⟨a, h1, h2⟩ := h i hi
  exact ⟨a, h1, e.cell h2⟩
theorem RowAt.keep {D : Nat → Prop} {x : Option Addr} {vs : List Value} (h : RowAt s x vs) (k : Kp D s s') (hd : ∀ a, x = some a → ¬ D a.block) : RowAt s' x vs := fun i hi => by
  obtain ⟨a, h1, h2⟩ := h i hi
  exact ⟨a, h1, k.cell (by rw [add_blk]; exact hd a h1) h2⟩
theorem RowAt.cells {x : Option Addr} {vs : List Value} (h : RowAt s x vs) : cellsOpt s x vs.length = some vs := by
  cases x with
  | none =>
    cases vs with
    | nil => rfl
    | cons v vs => obtain ⟨a, h1, _⟩ := h 0 (by simp); cases h1
  | some a =>
    refine cellsAt_of vs a 0 (fun i hi => ?_)
    obtain ⟨b, h1, h2⟩ := h i hi
    cases h1
    rw [Nat.zero_add]
    rw [Nat.mul_one] at h2
    exact h2
/-- A slice whose whole room is one's own. -/
structure Buf (s : Hp) (x : Option Addr) (c : Nat) (vs : List Value) : Prop where
  le : vs.length ≤ c
  own : ∀ i, i < c → ∃ a, x = some a ∧ ∃ y, Own s (a.add i) y ∧ ∀ h : i < vs.length, y = vs[i]
theorem Buf.ext {x : Option Addr} {c : Nat} {vs : List Value} (e : Ext s s') (h : Buf s x c vs) : Buf s' x c vs := ⟨h.le, fun i hi => by
  obtain ⟨a, h1, y, h2, h3⟩ := h.own i hi
  exact ⟨a, h1, y, e.own h2, h3⟩⟩
theorem Buf.kp {D : Nat → Prop} {x : Option Addr} {c : Nat} {vs : List Value} (e : Kp D s s') (hd : ∀ a, x = some a → ¬ D a.block) (h : Buf s x c vs) : Buf s' x c vs := ⟨h.le, fun i hi => by
  obtain ⟨a, h1, y, h2, h3⟩ := h.own i hi
  exact ⟨a, h1, y, e.own (by rw [add_blk]; exact hd a h1) h2, h3⟩⟩
theorem Buf.row {x : Option Addr} {c : Nat} {vs : List Value} (h : Buf s x c vs) : RowAt s x vs := fun i hi => by
  obtain ⟨a, h1, y, h2, h3⟩ := h.own i (Nat.lt_of_lt_of_le hi h.le)
  refine ⟨a, h1, ?_⟩
  rw [Nat.mul_one, h2.cell, h3 hi]
theorem Buf.nil (s : Hp) : Buf s none 0 [] := ⟨Nat.le_refl _, fun i hi => by omega⟩

theorem repL_getD (z : Value) : ∀ (n i : Nat), i < n → (repL n [z])[i]? = some z
  | 0, i, h => by omega
  | n + 1, 0, h => rfl
  | n + 1, i + 1, h => by
    show (z :: repL n [z])[i + 1]? = some z
    rw [List.getElem?_cons_succ]
    exact repL_getD z n i (by omega)
theorem repL_length (z : Value) : ∀ n, (repL n [z]).length = n
  | 0 => rfl
  | n + 1 => by show (z :: repL n [z]).length = n + 1; rw [List.length_cons, repL_length]
/-- A new row. -/
theorem buf_new {cs vs : List Value} {ty : TypeId} (hl : vs.length ≤ cs.length) (hv : ∀ i (h : i < vs.length), cs[i]? = some vs[i]) : Buf (s.push (.cells cs.toArray ty (0, 0))) (some ⟨s.size, 0, none⟩) cs.length vs :=
  ⟨hl, fun i hi => ⟨_, rfl, cs[i], by rw [add_nil, Nat.zero_add]; exact own_new (by simp [hi]), fun h => by have := hv i h; rw [List.getElem?_eq_getElem hi] at this; simpa using this⟩⟩

/-- 'append(x, v...)' where x is one's own. -/
theorem APP_buf {P : Program} {t : TypeId} {x : Option Addr} {c : Nat} {vs ws : List Value} {y : Option Addr} {z : Value} {K : Option Addr → Nat → Nat → Hp → Prop} (hb : Buf s x c vs) (hy : RowAt s y ws) (hz : zc P t = [z]) (hws : ∀ v ∈ ws, oneCell v = true)
    (hlen : vs.length + ws.length ≤ 1000000) (hc : c ≤ 9223372036854775808)
    (h : ∀ s' x' c', Kp (fun b => ∃ a, x = some a ∧ a.block = b) s s' → (vs.length + ws.length ≤ c → x' = x ∧ c' = c) → (c < vs.length + ws.length → x' = some ⟨s.size, 0, none⟩ ∧ Ext s s') → c' ≤ 9223372036854775808 → Buf s' x' c' (vs ++ ws) → K x' (vs.length + ws.length) c' s') :
    APP P t 1 x vs.length c y ws.length K s := by
  refine ⟨⟨hlen, hc⟩, ws, by rw [Nat.mul_one]; exact hy.cells, ?_⟩
  split
  · rename_i hle
    cases x with
    | none =>
      have hc0 : c = 0 := by
        rcases Nat.eq_zero_or_pos c with h0 | h0
        · exact h0
        · obtain ⟨a, h1, _⟩ := hb.own 0 h0; cases h1
      have hws0 : ws = [] := List.eq_nil_of_length_eq_zero (by omega)
      subst hws0
      refine h s none c (Kp.refl s) (fun _ => ⟨rfl, rfl⟩) (fun hh => by simp at hle; simp at hh; omega) hc ?_
      rw [List.append_nil]; exact hb
    | some a =>
      simp only [Nat.mul_one]
      have key : ∀ i, i < c → ∃ y, Own s (a.add i) y ∧ ∀ h : i < vs.length, y = vs[i] := fun i hi => by
        obtain ⟨a', h1, h2⟩ := hb.own i hi
        cases h1; exact h2
      by_cases hw0 : ws = []
      · subst hw0
        refine h s (some a) c (Kp.refl s) (fun _ => ⟨rfl, rfl⟩) (fun hh => by simp at hle; simp at hh; omega) hc ?_
        rw [List.append_nil]; exact hb
      have hpos : 0 < ws.length := List.length_pos_iff.2 hw0
      have hspot : ∀ i, (a.add vs.length).add i = a.add (vs.length + i) := by
        intro i
        have h0 := cell_spot (key vs.length (by omega)).choose_spec.1.cell
        unfold Addr.add at h0 ⊢
        by_cases hv : vs.length = 0
        · simp [hv]
        · by_cases hi : i = 0
          · simp [hv, hi]
          · simp [hv, hi, Nat.add_assoc]
      refine wrN_rule ws (a.add vs.length) 0 _ s (fun i hi => ?_) hws ?_
      · rw [Nat.zero_add, hspot]
        obtain ⟨y, hy, _⟩ := key (vs.length + i) (by omega)
        exact ⟨y, hy⟩
      · intro s' k z' ho hk
        refine h s' (some a) c (k.mono (fun b hb => ⟨a, rfl, by rw [← add_blk a vs.length]; exact hb.symm⟩)) (fun _ => ⟨rfl, rfl⟩) (fun hh => by omega) hc ⟨by simp; omega, fun i hi => ⟨a, rfl, ?_⟩⟩
        by_cases h1 : i < vs.length
        · obtain ⟨y, hy1, hy2⟩ := key i hi
          refine ⟨y, ?_, fun h => by rw [hy2 h1]; simp [List.getElem_append, h1]⟩
          exact hk _ _ (.inl (by rw [add_of, add_of]; omega)) hy1
        · by_cases h2 : i < vs.length + ws.length
          · have := ho (i - vs.length) (by omega)
            rw [Nat.zero_add, hspot, show vs.length + (i - vs.length) = i by omega] at this
            refine ⟨_, this, fun h => ?_⟩
            rw [List.getElem_append_right (by omega)]
          · obtain ⟨y, hy1, _⟩ := key i hi
            have := hk (a.add i) y (.inr (by rw [add_of, add_of]; omega)) hy1
            exact ⟨y, this, fun h => by simp at h; omega⟩
  · rename_i hle
    refine ⟨vs, by rw [Nat.mul_one]; exact hb.row.cells, fun c' g1 g2 => ?_⟩
    rw [hz]
    have hlen' : (vs ++ ws ++ repL (c' - (vs.length + ws.length)) [z]).length = c' := by
      rw [List.length_append, List.length_append, repL_length]; omega
    have hbuf : Buf (s.push (.cells (vs ++ ws ++ repL (c' - (vs.length + ws.length)) [z]).toArray t (0, 0))) (some ⟨s.size, 0, none⟩) (vs ++ ws ++ repL (c' - (vs.length + ws.length)) [z]).length (vs ++ ws) :=
      buf_new (by simp) (fun i hi => by rw [List.getElem?_append_left hi]; simp [hi])
    rw [hlen'] at hbuf
    exact h _ _ c' (Ext.push (Ext.refl s)).kp (fun hh => by omega) (fun _ => ⟨rfl, Ext.push (Ext.refl s)⟩) (by omega) hbuf
end
end Go.V
namespace Go.V
section
variable {s : Hp}
theorem NEW_rule {t : TypeId} {cs : List Value} {K : Nat → Hp → Prop} (h : ∀ s', Ext s s' → s'.size = s.size + 1 → (∀ i v, cs[i]? = some v → Own s' ⟨s.size, i, none⟩ v) → shapeAt s' s.size = some (t, cs.length) → K s.size s') : NEW t cs K s :=
  h _ (Ext.push (Ext.refl _)) (by simp) (fun i v hv => own_new hv) (by unfold shapeAt; rw [Array.getElem?_push, if_pos rfl]; simp)
theorem NEWZ_rule {P : Program} {t : TypeId} {cs : List Value} {K : Nat → Hp → Prop} (hz : zc P t = cs) (h : ∀ s', Ext s s' → s'.size = s.size + 1 → (∀ i v, cs[i]? = some v → Own s' ⟨s.size, i, none⟩ v) → K s.size s') : NEWZ P t K s := by
  unfold NEWZ; rw [hz]
  exact h _ (Ext.push (Ext.refl _)) (by simp) (fun i v hv => own_new hv)
theorem CONJ_two {a b : Hp → Prop} (h1 : a s) (h2 : b s) : CONJ [a, b] s := ⟨h1, h2⟩
end
end Go.V

/- Rows of elements of several cells; a list that is appended to. -/
set_option linter.unusedSimpArgs false
set_option linter.unusedVariables false
set_option maxRecDepth 20000
namespace Go.V
section
variable {s s' : Hp}
theorem addr_add (a : Addr) (m n : Nat) : (a.add m).add n = a.add (m + n) := by
  unfold Addr.add
  by_cases hn : n = 0
  · simp [hn]
  · by_cases hm : m = 0
    · simp [hm, hn]
    · simp [hm, hn, Nat.add_assoc]
theorem NZI_pos {b : Int} {K : Hp → Prop} (hb : b ≠ 0) (h : K s) : NZI b K s := by
  unfold NZI
  split
  · exact absurd rfl hb
  · exact h
theorem repL_lenN (zs : List Value) : ∀ n, (repL n zs).length = n * zs.length
  | 0 => by simp [repL]
  | n + 1 => by show (zs ++ repL n zs).length = _; rw [List.length_append, repL_lenN zs n, Nat.add_mul]; omega

/-- 'append(x, v...)' where x is one's own: elements of 'es' cells. -/
theorem APP_bufN {P : Program} {t : TypeId} {es l m c : Nat} {x : Option Addr} {vs ws zs : List Value} {y : Option Addr} {K : Option Addr → Nat → Nat → Hp → Prop} (hb : Buf s x (c * es) vs) (hl : vs.length = l * es) (hy : RowAt s y ws) (hm : ws.length = m * es) (hz : zc P t = zs) (hzl : zs.length = es) (hes : 0 < es)
    (hws : ∀ v ∈ ws, oneCell v = true) (hlen : l + m ≤ 1000000) (hc : c ≤ 9223372036854775808)
    (h : ∀ s' x' c', Kp (fun b => ∃ a, x = some a ∧ a.block = b) s s' → (l + m ≤ c → x' = x ∧ c' = c) → (c < l + m → x' = some ⟨s.size, 0, none⟩ ∧ Ext s s') → c' ≤ 9223372036854775808 → Buf s' x' (c' * es) (vs ++ ws) → K x' (l + m) c' s') :
    APP P t es x l c y m K s := by
  have hrow := hb.row.cells
  rw [hl] at hrow
  have hyc := hy.cells
  rw [hm] at hyc
  refine ⟨⟨hlen, hc⟩, ws, hyc, ?_⟩
  split
  · rename_i hle
    cases x with
    | none =>
      have hc0 : c * es = 0 := by
        rcases Nat.eq_zero_or_pos (c * es) with h0 | h0
        · exact h0
        · obtain ⟨a, h1, _⟩ := hb.own 0 h0; cases h1
      have hc00 : c = 0 := by rcases Nat.mul_eq_zero.1 hc0 with h0 | h0 <;> omega
      have hm0 : m = 0 := by omega
      have hws0 : ws = [] := List.eq_nil_of_length_eq_zero (by rw [hm, hm0]; simp)
      subst hws0
      refine h s none c (Kp.refl s) (fun _ => ⟨rfl, rfl⟩) (fun hh => by omega) hc ?_
      rw [List.append_nil]; exact hb
    | some a =>
      have key : ∀ i, i < c * es → ∃ y, Own s (a.add i) y ∧ ∀ h : i < vs.length, y = vs[i] := fun i hi => by
        obtain ⟨a', h1, h2⟩ := hb.own i hi
        cases h1; exact h2
      by_cases hw0 : ws = []
      · subst hw0
        have hm0 : m = 0 := by
          have hm' : 0 = m * es := hm
          rcases Nat.mul_eq_zero.1 hm'.symm with h0 | h0 <;> omega
        refine h s (some a) c (Kp.refl s) (fun _ => ⟨rfl, rfl⟩) (fun hh => by omega) hc ?_
        rw [List.append_nil]; exact hb
      have hpos : 0 < ws.length := List.length_pos_iff.2 hw0
      have hfit : vs.length + ws.length ≤ c * es := by rw [hl, hm, ← Nat.add_mul]; exact Nat.mul_le_mul_right _ hle
      show wrN ws (a.add (l * es)) 0 _ s
      rw [← hl]
      refine wrN_rule ws (a.add vs.length) 0 _ s (fun i hi => ?_) hws ?_
      · rw [Nat.zero_add, addr_add]
        obtain ⟨y, hy, _⟩ := key (vs.length + i) (by omega)
        exact ⟨y, hy⟩
      · intro s' k z' ho hk
        refine h s' (some a) c (k.mono (fun b hb => ⟨a, rfl, by rw [← add_blk a vs.length]; exact hb.symm⟩)) (fun _ => ⟨rfl, rfl⟩) (fun hh => by omega) hc ⟨by simp; omega, fun i hi => ⟨a, rfl, ?_⟩⟩
        by_cases h1 : i < vs.length
        · obtain ⟨y, hy1, hy2⟩ := key i hi
          refine ⟨y, ?_, fun h => by rw [hy2 h1]; simp [List.getElem_append, h1]⟩
          exact hk _ _ (.inl (by rw [add_of, add_of]; omega)) hy1
        · by_cases h2 : i < vs.length + ws.length
          · have := ho (i - vs.length) (by omega)
            rw [Nat.zero_add, addr_add, show vs.length + (i - vs.length) = i by omega] at this
            refine ⟨_, this, fun h => ?_⟩
            rw [List.getElem_append_right (by omega)]
          · obtain ⟨y, hy1, _⟩ := key i hi
            have := hk (a.add i) y (.inr (by rw [add_of, add_of]; omega)) hy1
            exact ⟨y, this, fun h => by simp at h; omega⟩
  · rename_i hle
    refine ⟨vs, hrow, fun c' g1 g2 => ?_⟩
    rw [hz]
    have hlen' : (vs ++ ws ++ repL (c' - (l + m)) zs).length = c' * es := by
      rw [List.length_append, List.length_append, repL_lenN, hzl, hl, hm, ← Nat.add_mul, ← Nat.add_mul]
      congr 1; omega
    have hbuf : Buf (s.push (.cells (vs ++ ws ++ repL (c' - (l + m)) zs).toArray t (0, 0))) (some ⟨s.size, 0, none⟩) (vs ++ ws ++ repL (c' - (l + m)) zs).length (vs ++ ws) :=
      buf_new (by simp) (fun i hi => by rw [List.getElem?_append_left hi]; simp [hi])
    rw [hlen'] at hbuf
    exact h _ _ c' (Ext.push (Ext.refl s)).kp (fun hh => by omega) (fun _ => ⟨rfl, Ext.push (Ext.refl s)⟩) (by omega) hbuf

/-- A list that one has made: nothing of it lay before 'lo'. -/
structure Fr (lo : Nat) (s : Hp) (x : Option Addr) (l c es : Nat) (vs : List Value) : Prop where
  buf : Buf s x (c * es) vs
  len : vs.length = l * es
  fr : ∀ a, x = some a → lo ≤ a.block
  cap : c ≤ 9223372036854775808
theorem Fr.nil (lo : Nat) (s : Hp) (es : Nat) : Fr lo s none 0 0 es [] := ⟨⟨by simp, fun i hi => by simp at hi⟩, by simp, (fun a h => by cases h), by omega⟩
theorem Fr.ext {lo : Nat} {x : Option Addr} {l c es : Nat} {vs : List Value} (e : Ext s s') (h : Fr lo s x l c es vs) : Fr lo s' x l c es vs := ⟨h.buf.ext e, h.len, h.fr, h.cap⟩
theorem Fr.kp {D : Nat → Prop} {lo : Nat} {x : Option Addr} {l c es : Nat} {vs : List Value} (e : Kp D s s') (hd : ∀ a, x = some a → ¬ D a.block) (h : Fr lo s x l c es vs) : Fr lo s' x l c es vs := ⟨h.buf.kp e hd, h.len, h.fr, h.cap⟩
theorem Fr.row {lo : Nat} {x : Option Addr} {l c es : Nat} {vs : List Value} (h : Fr lo s x l c es vs) : RowAt s x vs := h.buf.row
theorem APP_fr {P : Program} {t : TypeId} {lo es l m c : Nat} {x : Option Addr} {vs ws zs : List Value} {y : Option Addr} {K : Option Addr → Nat → Nat → Hp → Prop} (hf : Fr lo s x l c es vs) (hlo : lo ≤ s.size) (hy : RowAt s y ws) (hm : ws.length = m * es) (hz : zc P t = zs) (hzl : zs.length = es) (hes : 0 < es)
    (hws : ∀ v ∈ ws, oneCell v = true) (hlen : l + m ≤ 1000000)
    (h : ∀ s' x' c', Kp (fun b => ∃ a, x = some a ∧ a.block = b) s s' → (∀ a, x' = some a → (∃ a', x = some a' ∧ a'.block = a.block) ∨ s.size ≤ a.block) → Fr lo s' x' (l + m) c' es (vs ++ ws) → K x' (l + m) c' s') :
    APP P t es x l c y m K s := by
  refine APP_bufN hf.buf hf.len hy hm hz hzl hes hws hlen hf.cap fun s' x' c' k g1 g2 g3 u => ?_
  have g : ∀ a, x' = some a → (∃ a', x = some a' ∧ a'.block = a.block) ∨ s.size ≤ a.block := by
    intro a ha
    rcases Nat.lt_or_ge c (l + m) with hc | hc
    · obtain ⟨q1, _⟩ := g2 hc
      rw [q1] at ha; cases ha
      exact .inr (Nat.le_refl _)
    · obtain ⟨q1, _⟩ := g1 hc
      rw [q1] at ha
      exact .inl ⟨a, ha, rfl⟩
  refine h s' x' c' k g ⟨u, by rw [List.length_append, hf.len, hm, Nat.add_mul], fun a ha => ?_, g3⟩
  rcases g a ha with ⟨a', h1, h2⟩ | h1
  · rw [← h2]; exact hf.fr a' h1
  · omega
/-- One cell of a row of one's own is written. -/
theorem Buf.set {x : Addr} {c i : Nat} {vs : List Value} {v : Value} (h : Buf s (some x) c vs) (hi : i < vs.length) : Buf (setC s (x.add i) v) (some x) c (vs.set i v) := by
  refine ⟨by rw [List.length_set]; exact h.le, fun j hj => ⟨x, rfl, ?_⟩⟩
  obtain ⟨a, h1, y, h2, h3⟩ := h.own j hj
  cases h1
  by_cases e : j = i
  · subst e
    exact ⟨v, own_set h2, fun hh => by simp⟩
  · refine ⟨y, own_set_ne (.inr (by rw [add_of, add_of]; omega)) h2, fun hh => ?_⟩
    rw [List.length_set] at hh
    rw [h3 hh, List.getElem_set_ne (fun e' => e e'.symm)]
theorem Buf.at {x : Addr} {c i : Nat} {vs : List Value} (h : Buf s (some x) c vs) (hi : i < vs.length) : Own s (x.add i) vs[i] := by
  obtain ⟨a, h1, y, h2, h3⟩ := h.own i (Nat.lt_of_lt_of_le hi h.le)
  cases h1
  rw [← h3 hi]; exact h2
end
end Go.V

/- From a contract over the visible heap to a given row. -/
set_option linter.unusedSimpArgs false
set_option linter.unusedVariables false
namespace Go.V
section
variable (P : Program) (s : Hp)
def RdF (R : TypeId → List Value → Prop) : List Field → List Value → Prop
  | [], _ => True
  | f :: r, cs => R f.type ((cs.drop f.offset).take (P.cellsOf f.type)) ∧ RdF R r cs
/-- What a type's cells read as, where they came in. -/
def Rds : Nat → TypeId → List Value → Prop
  | 0, _, _ => True
  | n + 1, t, cs => match P.underlying t with
    | some .bool => ∃ b, cs = [.bool b]
    | some (.int k) => ∃ m, cs = [.int k m] ∧ (Lit.int k m).wf = true
    | some .string => ∃ b, cs = [.string b] ∧ b.size ≤ maxLen
    | some (.slice e) => ∃ a l c, cs = [.slice a l c] ∧ l ≤ c ∧ c ≤ maxLen ∧ (a = none → l = 0 ∧ c = 0) ∧ ∀ i, i < l → ∃ b es, a = some b ∧ es.length = P.cellsOf e ∧ (∀ j v, es[j]? = some v → cellAt s ((b.add (i * P.cellsOf e)).add j) = some v) ∧ Rds n e es
    | some (.struct fs) => cs.length = P.cellsOf t ∧ RdF P (Rds n) fs.toList cs
    | some (.array m e) => cs.length = P.cellsOf t ∧ ∀ i, i < m → Rds n e ((cs.drop (i * P.cellsOf e)).take (P.cellsOf e))
    | _ => True
def RdV (t : TypeId) (v : Value) : Prop := ∃ cs, v = (match isAg P t with | true => .agg cs.toArray | false => cs.headD undef) ∧ Rds P s 8 t cs
end
section
variable {P : Program} {H : Type} {enc : TypeId × Value → H} {w : World} {base : Nat} {sp : Nat → Bool} {held : Bool}
theorem rdF_of {R : TypeId → List Value → Prop} : ∀ (fs : List Field) (cs : List Value), (∀ (i : Nat) (f : Field), fs[i]? = some f → R f.type ((cs.drop f.offset).take (P.cellsOf f.type))) → RdF P R fs cs
  | [], _, _ => trivial
  | f :: r, cs, h => ⟨h 0 f rfl, rdF_of r cs fun i g hg => h (i + 1) g (by simpa using hg)⟩
theorem trod_rds : ∀ (k fuel : Nat) (t : TypeId) (cs : List Value) (x : DataW H × List MemPlace), DataW.trod enc P w base sp held fuel t cs = some x → Rds P w.heap k t cs
  | 0, _, _, _, _, _ => trivial
  | k + 1, fuel, t, cs, x, h => by
    unfold Rds
    split
    · rename_i ht
      obtain ⟨b, rfl, _⟩ := DataW.trod_bool ht h
      exact ⟨b, rfl⟩
    · rename_i kd ht
      obtain ⟨n, rfl, _, hw⟩ := DataW.trod_int ht h
      exact ⟨n, rfl, hw⟩
    · rename_i ht
      obtain ⟨b, rfl, _, hw⟩ := DataW.trod_string ht h
      exact ⟨b, rfl, hw⟩
    · rename_i e ht
      rcases DataW.trod_slice ht h with ⟨rfl, _⟩ | ⟨a, len, cap, elems, rest, n, _, rfl, rfl, hb, hl, hm, hlen, hel, hsp, hns⟩
      · exact ⟨none, 0, 0, rfl, Nat.le_refl _, Nat.zero_le _, fun _ => ⟨rfl, rfl⟩, fun i hi => by omega⟩
      · refine ⟨some a, len, cap, rfl, hl, hm, (fun h => by cases h), fun i hi => ?_⟩
        have hi' : i < elems.length := by omega
        have h1 := hel i hi
        rw [List.getElem?_eq_getElem hi', Option.bind_eq_some_iff] at h1
        obtain ⟨es, h2, h3⟩ := h1
        obtain ⟨_, h4, h5⟩ := World.cells?_some h2
        refine ⟨a, es, rfl, h4, fun j v hv => ?_, trod_rds k _ _ _ _ h3⟩
        have hj : j < P.cellsOf e := by
          have := (List.getElem?_eq_some_iff.1 hv).1
          omega
        rw [← hv, ← h5 j hj]; rfl
    · rename_i fs ht
      obtain ⟨xs, n, _, rfl, h1, h2, h3⟩ := DataW.trod_struct ht h
      refine ⟨h1, rdF_of _ _ fun i f hf => ?_⟩
      have hfs : fs[i]? = some f := by simpa using hf
      have hi : i < xs.length := by
        have := (Array.getElem?_eq_some_iff.1 hfs).1
        omega
      have h4 := h3 i f hfs
      rw [List.getElem?_eq_getElem hi] at h4
      exact trod_rds k _ _ _ _ h4
    · rename_i m e ht
      cases fuel with
      | zero => simp [DataW.trod] at h
      | succ n =>
        unfold DataW.trod at h
        rw [ht] at h
        simp only at h
        split at h
        · rename_i hc
          refine ⟨hc, fun i hi => ?_⟩
          rw [Option.map_eq_some_iff] at h
          obtain ⟨xs, hx, _⟩ := h
          have hget := mapM_some_get hx i i (by simp [hi])
          have hlen : xs.length = m := by simpa using mapM_some_length hx
          rw [List.getElem?_eq_getElem (by omega)] at hget
          exact trod_rds k _ _ _ _ hget
        · cases h
    · trivial
theorem trod_rdV {t : TypeId} {v : Value} {d : DataW H} {ps : List MemPlace} {b0 : Nat} (hv : Value.okWide P w .any b0 t v) (h : DataW.Trod enc P w base sp held t v d ps) : RdV P w.heap t v := by
  obtain ⟨fuel, h⟩ := h
  refine ⟨v.cells.toList, ?_, trod_rds 8 _ _ _ _ h⟩
  unfold Value.okWide at hv
  split at hv
  · rename_i ht
    obtain ⟨cs, rfl, _⟩ := hv
    unfold isAg
    rw [ht]; simp [Value.cells]
  · rename_i ht
    obtain ⟨cs, rfl, _⟩ := hv
    unfold isAg
    rw [ht]; simp [Value.cells]
  · rename_i h1 h2
    have hag : isAg P t = false := by
      unfold isAg
      split
      · rename_i h; exact absurd h (h1 _)
      · rename_i h; exact absurd h (h2 _ _)
      · rfl
    rw [hag]
    cases v <;> first | rfl | (simp [Cell.okWide, Cell.ok] at hv; try (split at hv <;> simp_all))
end
theorem does_of_call {P : Program} {W : World} {f : FuncId} {args : List Value} {s : Hp} (h : CALL P W f args (fun v s' => v = .bool true ∧ Ext s s') (fun _ _ => False) s) : Does P W f args.toArray s fun e s' => e = .returned (.bool true) ∧ Ext s s' :=
  Does.mono h fun e s' he => by
    cases e with
    | returned v => exact ⟨by rw [he.1], he.2⟩
    | panicked c => exact he.elim
    | outgrown => exact he.elim
/-- A contract over the visible heap, that leaves what lay, as a call's. -/
theorem calls_of_does {P : Program} {f : FuncId} {args : Array Value} {W : World} (h : Does P W f args W.heap fun e s' => e = .returned (.bool true) ∧ Ext W.heap s') :
    Calls P f args W fun e w' => e = .returned (.bool true) ∧ Go.RowKit.Below W.heap.size W w' := by
  have h2 := h.2 (fun _ => False) W.heap W.drawn (Vis.refl W.heap)
  refine Calls.mono h2 ?_
  rintro e w' ⟨X', h', d', s', rfl, v, ev, he, ext⟩
  refine ⟨he, ⟨rfl, rfl, rfl, ?_, fun k hk => ?_⟩⟩
  · exact ev.size
  · show h'[k]? = W.heap[k]?
    have hx : ¬ X' k := fun hx => by
      rcases ev.new k hx with h0 | h0
      · exact h0
      · omega
    rw [← v.same k hx]
    exact ext.2 k hk
end Go.V

/- The functions' shallow texts, by gen.py, and that the text of conditions comes to them. -/
set_option linter.unusedVariables false
set_option maxRecDepth 100000
namespace Go.Proofs.Ytocnkdkgajdejaa.G
open Go.V
noncomputable abbrev Pg : Program := Try.prog
abbrev F_law03_LotReads : FuncId := 3
abbrev F_law03_LotLooks : FuncId := 4
abbrev F_law03_LotLawful : FuncId := 5
abbrev F_law03_LotDraws : FuncId := 6
abbrev F_law03_LotOrder : FuncId := 7
abbrev F_law03_LotOften : FuncId := 8
abbrev F_law03_LotSwaps : FuncId := 9
abbrev F_law03_LotLeast : FuncId := 10
abbrev F_law03_LotMore : FuncId := 11
abbrev F_law03_far : FuncId := 12
abbrev F_law03_awake : FuncId := 13
abbrev F_lot_Check : FuncId := 14
abbrev F_ref03_Check : FuncId := 15
abbrev F_lot_Count : FuncId := 16
abbrev F_ref03_Count : FuncId := 17
abbrev F_lot_Nth : FuncId := 18
abbrev F_ref03_Nth : FuncId := 19
abbrev F_lot_Place : FuncId := 20
abbrev F_ref03_Place : FuncId := 21
abbrev F_lot_Draw : FuncId := 22
abbrev F_ref03_Draw : FuncId := 23
abbrev F_ref03_Ints : FuncId := 24
abbrev F_lot_Can : FuncId := 25
abbrev F_ref03_Can : FuncId := 26
abbrev F_lot_Often : FuncId := 27
abbrev F_ref03_Often : FuncId := 28
abbrev F_lot_Swaps : FuncId := 29
abbrev F_ref03_Swaps : FuncId := 30
abbrev F_lot_Least : FuncId := 31
abbrev F_ref03_Least : FuncId := 32
abbrev F_ref03_Pairs : FuncId := 33
abbrev F_ref03_Lots : FuncId := 34
abbrev F_law03_made : FuncId := 35
abbrev F_law03_lawful : FuncId := 36
abbrev F_ref03_Full : FuncId := 37
abbrev F_law03_LotOrder_c1 : FuncId := 38
abbrev F_law03_rules : FuncId := 39
abbrev F_law03_sample : FuncId := 40
abbrev F_law03_lefts : FuncId := 41
abbrev F_lot_told : FuncId := 42
abbrev F_lot_open : FuncId := 43
abbrev F_lot_lots_wrong : FuncId := 44
abbrev F_lot_lots_draw : FuncId := 45
abbrev F_lot_must : FuncId := 46
abbrev F_ref03_Breaks : FuncId := 47
abbrev F_lot_lots_counted : FuncId := 48
abbrev F_lot_lots_all : FuncId := 49
abbrev F_ref03_All : FuncId := 50
abbrev F_lot_within : FuncId := 51
abbrev F_lot_lots_choose : FuncId := 52
abbrev F_lot_Nth_c1 : FuncId := 53
abbrev F_lot_index_int : FuncId := 54
abbrev F_lot_Nth_c1_c1 : FuncId := 55
abbrev F_ref03_in : FuncId := 56
abbrev F_lot_Place_c1 : FuncId := 57
abbrev F_lot_Place_c1_c1 : FuncId := 58
abbrev F_lot_seed_next : FuncId := 59
abbrev F_lot_Draw_c1 : FuncId := 60
abbrev F_ref03_has : FuncId := 61
abbrev F_ref03_goOn : FuncId := 62
abbrev F_lot_lots_is : FuncId := 63
abbrev F_lot_lots_plots : FuncId := 64
abbrev F_lot_lots_often : FuncId := 65
abbrev F_ref03_Man : FuncId := 66
abbrev F_ref03_often : FuncId := 67
abbrev F_ref03_power : FuncId := 68
abbrev F_ref03_Lawful : FuncId := 69
abbrev F_ref03_Swapped : FuncId := 70
abbrev F_lot_Least_c1 : FuncId := 71
abbrev F_lot_lots_plot : FuncId := 72
abbrev F_lot_lots_men : FuncId := 73
abbrev F_lot_lots_broken : FuncId := 74
abbrev F_ref03_Has : FuncId := 75
abbrev F_lot_rules : FuncId := 76
abbrev F_lot_set_has : FuncId := 77
abbrev F_lot_lots_counted_c1 : FuncId := 78
abbrev F_ref03_broken : FuncId := 79
abbrev F_lot_lots_men_c1 : FuncId := 80
abbrev F_lot_rules_c1 : FuncId := 81
abbrev F_lot_lots_club : FuncId := 82
abbrev F_lot_rules_c2 : FuncId := 83
abbrev F_lot_rules_c3 : FuncId := 84
abbrev F_lot_every_counts : FuncId := 100
abbrev F_lot_those_counts : FuncId := 101
def an_13 : Nat → Ann := fun b => match b with
  | _ => {}
abbrev rv_13 : List ResultVar := [.tmp 0]
abbrev rs_13 : List Nat := [154, 0]
def T_law03_awake (W : World) (R : Ending → Hp → Prop) : Hp → Prop :=
  CALL Pg W F_law03_sample []
    (fun v1 => AGG v1 fun q3 => HD q3 fun v4 r5 => TYL v4 fun x6 l7 c8 =>
      HD r5 fun v9 r10 => TYI .i64 v9 fun n11 =>
        NL r10 <|
          CALL Pg W F_lot_Count [(.agg #[(.slice x6 l7 c8), (.int .i64 n11)])]
            (fun v12 => TUP v12 fun q14 => HD q14 fun v15 r16 => TYI .i64 v15 fun n17 =>
              HD r16 fun v18 r19 => TYI .i64 v18 fun n20 =>
                NL r19 <|
                  CALL Pg W F_law03_sample []
                    (fun v21 => AGG v21 fun q23 => HD q23 fun v24 r25 => TYL v24 fun x26 l27 c28 =>
                      HD r25 fun v29 r30 => TYI .i64 v29 fun n31 =>
                        NL r30 <|
                          CALL Pg W F_lot_Nth [(.agg #[(.slice x26 l27 c28), (.int .i64 n31)]), (.int .i64 3)]
                            (fun v32 => TUP v32 fun q34 => HD q34 fun v35 r36 => TYL v35 fun x37 l38 c39 =>
                              HD r36 fun v40 r41 => TYI .i64 v40 fun n42 =>
                                NL r41 <|
                                  CALL Pg W F_law03_sample []
                                    (fun v43 => AGG v43 fun q45 => HD q45 fun v46 r47 => TYL v46 fun x48 l49 c50 =>
                                      HD r47 fun v51 r52 => TYI .i64 v51 fun n53 =>
                                        NL r52 <|
                                          NEW 3 [(.int .i64 2), (.int .i64 0), (.int .i64 3), (.int .i64 1)] fun B54 =>
                                            CALL Pg W F_lot_Place [(.agg #[(.slice x48 l49 c50), (.int .i64 n53)]), (.slice (some ⟨B54, 0, none⟩) 4 4)]
                                              (fun v55 => TUP v55 fun q57 => HD q57 fun v58 r59 => TYI .i64 v58 fun n60 =>
                                                HD r59 fun v61 r62 => TYI .i64 v61 fun n63 =>
                                                  NL r62 <|
                                                    CALL Pg W F_law03_sample []
                                                      (fun v64 => AGG v64 fun q66 => HD q66 fun v67 r68 => TYL v67 fun x69 l70 c71 =>
                                                        HD r68 fun v72 r73 => TYI .i64 v72 fun n74 =>
                                                          NL r73 <|
                                                            NEW 3 [(.int .i64 2), (.int .i64 1), (.int .i64 3), (.int .i64 0)] fun B75 =>
                                                              CALL Pg W F_lot_Check [(.agg #[(.slice x69 l70 c71), (.int .i64 n74)]), (.slice (some ⟨B75, 0, none⟩) 4 4)]
                                                                (fun v76 => TUP v76 fun q78 => HD q78 fun v79 r80 => TYI .i64 v79 fun n81 =>
                                                                  HD r80 fun v82 r83 => TYI .i64 v82 fun n84 =>
                                                                    HD r83 fun v85 r86 => TYI .i64 v85 fun n87 =>
                                                                      NL r86 <|
                                                                        CALL Pg W F_law03_sample []
                                                                          (fun v88 => AGG v88 fun q90 => HD q90 fun v91 r92 => TYL v91 fun x93 l94 c95 =>
                                                                            HD r92 fun v96 r97 => TYI .i64 v96 fun n98 =>
                                                                              NL r97 <|
                                                                                CALL Pg W F_lot_Draw [(.agg #[(.slice x93 l94 c95), (.int .i64 n98)]), (.int .i64 13)]
                                                                                  (fun v99 => TUP v99 fun q101 => HD q101 fun v102 r103 => TYL v102 fun x104 l105 c106 =>
                                                                                    HD r103 fun v107 r108 => TYI .i64 v107 fun n109 =>
                                                                                      NL r108 <|
                                                                                        CALL Pg W F_law03_sample []
                                                                                          (fun v110 => AGG v110 fun q112 => HD q112 fun v113 r114 => TYL v113 fun x115 l116 c117 =>
                                                                                            HD r114 fun v118 r119 => TYI .i64 v118 fun n120 =>
                                                                                              NL r119 <|
                                                                                                CALL Pg W F_lot_Can [(.agg #[(.slice x115 l116 c117), (.int .i64 n120)]), (.int .i64 3)]
                                                                                                  (fun v121 => TUP v121 fun q123 => HD q123 fun v124 r125 => TYI .i64 v124 fun n126 =>
                                                                                                    HD r125 fun v127 r128 => TYI .i64 v127 fun n129 =>
                                                                                                      NL r128 <|
                                                                                                        CALL Pg W F_law03_sample []
                                                                                                          (fun v130 => AGG v130 fun q132 => HD q132 fun v133 r134 => TYL v133 fun x135 l136 c137 =>
                                                                                                            HD r134 fun v138 r139 => TYI .i64 v138 fun n140 =>
                                                                                                              NL r139 <|
                                                                                                                CALL Pg W F_lot_Often [(.agg #[(.slice x135 l136 c137), (.int .i64 n140)]), (.int .i64 3), (.int .i64 2)]
                                                                                                                  (fun v141 => TUP v141 fun q143 => HD q143 fun v144 r145 => TYI .i64 v144 fun n146 =>
                                                                                                                    HD r145 fun v147 r148 => TYI .i64 v147 fun n149 =>
                                                                                                                      NL r148 <|
                                                                                                                        CALL Pg W F_law03_sample []
                                                                                                                          (fun v150 => AGG v150 fun q152 => HD q152 fun v153 r154 => TYL v153 fun x155 l156 c157 =>
                                                                                                                            HD r154 fun v158 r159 => TYI .i64 v158 fun n160 =>
                                                                                                                              NL r159 <|
                                                                                                                                NEW 3 [(.int .i64 1), (.int .i64 2), (.int .i64 0), (.int .i64 3)] fun B161 =>
                                                                                                                                  CALL Pg W F_lot_Swaps [(.agg #[(.slice x155 l156 c157), (.int .i64 n160)]), (.slice (some ⟨B161, 0, none⟩) 4 4)]
                                                                                                                                    (fun v162 => TUP v162 fun q164 => HD q164 fun v165 r166 => TYL v165 fun x167 l168 c169 =>
                                                                                                                                      HD r166 fun v170 r171 => TYI .i64 v170 fun n172 =>
                                                                                                                                        NL r171 <|
                                                                                                                                          CALL Pg W F_law03_lefts []
                                                                                                                                            (fun v173 => AGG v173 fun q175 => HD q175 fun v176 r177 => TYL v176 fun x178 l179 c180 =>
                                                                                                                                              HD r177 fun v181 r182 => TYI .i64 v181 fun n183 =>
                                                                                                                                                NL r182 <|
                                                                                                                                                  CALL Pg W F_lot_Least [(.agg #[(.slice x178 l179 c180), (.int .i64 n183)])]
                                                                                                                                                    (fun v184 => TUP v184 fun q186 => HD q186 fun v187 r188 => TYI .i64 v187 fun n189 =>
                                                                                                                                                      HD r188 fun v190 r191 => TYL v190 fun x192 l193 c194 =>
                                                                                                                                                        HD r191 fun v195 r196 => TYI .i64 v195 fun n197 =>
                                                                                                                                                          NL r196 <|
                                                                                                                                                            BR (n17 != 5)
                                                                                                                                                              (R (.returned (.bool false)))
                                                                                                                                                              (BR (n20 != 0)
                                                                                                                                                                (R (.returned (.bool false)))
                                                                                                                                                                (NEW 3 [(.int .i64 2), (.int .i64 0), (.int .i64 3), (.int .i64 1)] fun B198 =>
                                                                                                                                                                  CALL Pg W F_ref03_Ints [(.slice x37 l38 c39), (.slice (some ⟨B198, 0, none⟩) 4 4)]
                                                                                                                                                                    (fun v199 => TYB v199 fun b201 =>
                                                                                                                                                                      BR (!b201)
                                                                                                                                                                        (R (.returned (.bool false)))
                                                                                                                                                                        (BR (n42 != 0)
                                                                                                                                                                          (R (.returned (.bool false)))
                                                                                                                                                                          (BR (n60 != 3)
                                                                                                                                                                            (R (.returned (.bool false)))
                                                                                                                                                                            (BR (n63 != 0)
                                                                                                                                                                              (R (.returned (.bool false)))
                                                                                                                                                                              (BR (n81 != 1)
                                                                                                                                                                                (R (.returned (.bool false)))
                                                                                                                                                                                (BR (n84 != 2)
                                                                                                                                                                                  (R (.returned (.bool false)))
                                                                                                                                                                                  (BR (n87 != 0)
                                                                                                                                                                                    (R (.returned (.bool false)))
                                                                                                                                                                                    (NEW 3 [(.int .i64 1), (.int .i64 2), (.int .i64 3), (.int .i64 0)] fun B202 =>
                                                                                                                                                                                      CALL Pg W F_ref03_Ints [(.slice x104 l105 c106), (.slice (some ⟨B202, 0, none⟩) 4 4)]
                                                                                                                                                                                        (fun v203 => TYB v203 fun b205 =>
                                                                                                                                                                                          BR (!b205)
                                                                                                                                                                                            (R (.returned (.bool false)))
                                                                                                                                                                                            (BR (n109 != 0)
                                                                                                                                                                                              (R (.returned (.bool false)))
                                                                                                                                                                                              (BR (n126 == 13)
                                                                                                                                                                                                (BR (n129 == 0)
                                                                                                                                                                                                  (BR (n146 == 3)
                                                                                                                                                                                                    (BR (n149 == 0)
                                                                                                                                                                                                      (NEW 57 [(.int .i64 2), (.int .i64 3)] fun B206 =>
                                                                                                                                                                                                        CALL Pg W F_ref03_Pairs [(.slice x167 l168 c169), (.slice (some ⟨B206, 0, none⟩) 1 1)]
                                                                                                                                                                                                          (fun v207 => TYB v207 fun b209 =>
                                                                                                                                                                                                            BR b209
                                                                                                                                                                                                              (BR (n172 == 0)
                                                                                                                                                                                                                (BR (n189 == 1)
                                                                                                                                                                                                                  (NEW 3 [(.int .i64 0), (.int .i64 1), (.int .i64 2)] fun B210 =>
                                                                                                                                                                                                                    CALL Pg W F_ref03_Ints [(.slice x192 l193 c194), (.slice (some ⟨B210, 0, none⟩) 3 3)]
                                                                                                                                                                                                                      (fun v211 => TYB v211 fun b213 =>
                                                                                                                                                                                                                        BR b213
                                                                                                                                                                                                                          (R (.returned (.bool (n197 == 0))))
                                                                                                                                                                                                                          (R (.returned (.bool false))))
                                                                                                                                                                                                                        (fun e212 => R (.panicked e212)))
                                                                                                                                                                                                                  (R (.returned (.bool false))))
                                                                                                                                                                                                                (R (.returned (.bool false))))
                                                                                                                                                                                                              (R (.returned (.bool false))))
                                                                                                                                                                                                            (fun e208 => R (.panicked e208)))
                                                                                                                                                                                                      (R (.returned (.bool false))))
                                                                                                                                                                                                    (R (.returned (.bool false))))
                                                                                                                                                                                                  (R (.returned (.bool false))))
                                                                                                                                                                                                (R (.returned (.bool false))))))
                                                                                                                                                                                          (fun e204 => R (.panicked e204))))))))))
                                                                                                                                                                      (fun e200 => R (.panicked e200)))))
                                                                                                                                                      (fun e185 => R (.panicked e185)))
                                                                                                                                              (fun e174 => R (.panicked e174)))
                                                                                                                                      (fun e163 => R (.panicked e163)))
                                                                                                                            (fun e151 => R (.panicked e151)))
                                                                                                                    (fun e142 => R (.panicked e142)))
                                                                                                            (fun e131 => R (.panicked e131)))
                                                                                                    (fun e122 => R (.panicked e122)))
                                                                                            (fun e111 => R (.panicked e111)))
                                                                                    (fun e100 => R (.panicked e100)))
                                                                            (fun e89 => R (.panicked e89)))
                                                                  (fun e77 => R (.panicked e77)))
                                                        (fun e65 => R (.panicked e65)))
                                                (fun e56 => R (.panicked e56)))
                                      (fun e44 => R (.panicked e44)))
                              (fun e33 => R (.panicked e33)))
                      (fun e22 => R (.panicked e22)))
              (fun e13 => R (.panicked e13)))
      (fun e2 => R (.panicked e2))
theorem T_law03_awake_eq (W : World) (R : Ending → Hp → Prop) : vfun Pg W an_13 Try.f13 [] R = T_law03_awake W R := by kernel_rfl
theorem does_law03_awake (W : World) (R : Ending → Hp → Prop) (s : Hp) (h : T_law03_awake W R s) : Does Pg W F_law03_awake #[] s R :=
  does_of_vfun Pg W an_13 Try.func13 rfl (by kernel_rfl) (by rw [T_law03_awake_eq]; exact h)
def an_14 : Nat → Ann := fun b => match b with
  | _ => {}
abbrev rv_14 : List ResultVar := [.tmp 4, .tmp 5, .cell 6 28]
abbrev rs_14 : List Nat := [24, 4, 5, 6]
def T_lot_Check (W : World) (x1 : Option Addr) (l2 : Nat) (c3 : Nat) (n4 : Int) (x5 : Option Addr) (l6 : Nat) (c7 : Nat) (R : Ending → Hp → Prop) : Hp → Prop :=
  NEW 24 [(.slice x1 l2 c3), (.int .i64 n4)] fun B8 =>
    NEWZ Pg 28 fun B9 =>
      RDL (Addr.add ⟨B8, 0, none⟩ 0) fun x10 l11 c12 =>
        RDI .i64 (Addr.add ⟨B8, 0, none⟩ 1) fun n13 =>
          CALL Pg W F_lot_open [(.agg #[(.slice x10 l11 c12), (.int .i64 n13)])]
            (fun v14 => TYP v14 fun p16 =>
              CALL Pg W F_lot_lots_draw [(.pointer p16), (.slice x5 l6 c7)]
                (fun v17 => TYL v17 fun x19 l20 c21 =>
                  CALL Pg W F_lot_lots_wrong [(.pointer p16), (.slice x19 l20 c21)]
                    (fun v22 => TUP v22 fun q24 => HD q24 fun v25 r26 => TYI .i64 v25 fun n27 =>
                      HD r26 fun v28 r29 => TYI .i64 v28 fun n30 =>
                        HD r29 fun v31 r32 => TYB v31 fun b33 =>
                          NL r32 <|
                            CALL Pg W F_lot_must [(.bool b33), (.int .i64 4)]
                              (fun v34 => TUP v34 fun q36 => NL q36 <|
                                WR (Addr.add ⟨B9, 0, none⟩ 0) (.int .i64 0) <|
                                  DEF Pg W (.tuple #[(.func (.func 42) #[] #[]), (.tuple #[(.pointer (some ⟨B9, 0, none⟩))])]) none
                                    (RDI .i64 ⟨B9, 0, none⟩ fun n37 =>
                                      R (.returned (.tuple #[(.int .i64 n27), (.int .i64 n30), (.int .i64 n37)]))))
                                (fun e35 => DEF Pg W (.tuple #[(.func (.func 42) #[] #[]), (.tuple #[(.pointer (some ⟨B9, 0, none⟩))])]) (some e35) (RDI .i64 ⟨B9, 0, none⟩ fun n38 =>
                                  R (.returned (.tuple #[(.int .i64 n27), (.int .i64 n30), (.int .i64 n38)])))))
                      (fun e23 => DEF Pg W (.tuple #[(.func (.func 42) #[] #[]), (.tuple #[(.pointer (some ⟨B9, 0, none⟩))])]) (some e23) (RDI .i64 ⟨B9, 0, none⟩ fun n39 =>
                        R (.returned (.tuple #[(.int .i64 0), (.int .i64 0), (.int .i64 n39)])))))
                  (fun e18 => DEF Pg W (.tuple #[(.func (.func 42) #[] #[]), (.tuple #[(.pointer (some ⟨B9, 0, none⟩))])]) (some e18) (RDI .i64 ⟨B9, 0, none⟩ fun n40 =>
                    R (.returned (.tuple #[(.int .i64 0), (.int .i64 0), (.int .i64 n40)])))))
              (fun e15 => DEF Pg W (.tuple #[(.func (.func 42) #[] #[]), (.tuple #[(.pointer (some ⟨B9, 0, none⟩))])]) (some e15) (RDI .i64 ⟨B9, 0, none⟩ fun n41 =>
                R (.returned (.tuple #[(.int .i64 0), (.int .i64 0), (.int .i64 n41)]))))
theorem T_lot_Check_eq (W : World) (x1 : Option Addr) (l2 : Nat) (c3 : Nat) (n4 : Int) (x5 : Option Addr) (l6 : Nat) (c7 : Nat) (R : Ending → Hp → Prop) : vfun Pg W an_14 Try.f14 [(.agg #[(.slice x1 l2 c3), (.int .i64 n4)]), (.slice x5 l6 c7)] R = T_lot_Check W x1 l2 c3 n4 x5 l6 c7 R := by kernel_rfl
theorem does_lot_Check (W : World) (x1 : Option Addr) (l2 : Nat) (c3 : Nat) (n4 : Int) (x5 : Option Addr) (l6 : Nat) (c7 : Nat) (R : Ending → Hp → Prop) (s : Hp) (h : T_lot_Check W x1 l2 c3 n4 x5 l6 c7 R s) : Does Pg W F_lot_Check #[(.agg #[(.slice x1 l2 c3), (.int .i64 n4)]), (.slice x5 l6 c7)] s R :=
  does_of_vfun Pg W an_14 Try.func14 rfl (by kernel_rfl) (by rw [T_lot_Check_eq]; exact h)
def an_16 : Nat → Ann := fun b => match b with
  | _ => {}
abbrev rv_16 : List ResultVar := [.tmp 2, .cell 3 28]
abbrev rs_16 : List Nat := [14, 2, 3]
def T_lot_Count (W : World) (x1 : Option Addr) (l2 : Nat) (c3 : Nat) (n4 : Int) (R : Ending → Hp → Prop) : Hp → Prop :=
  NEW 24 [(.slice x1 l2 c3), (.int .i64 n4)] fun B5 =>
    NEWZ Pg 28 fun B6 =>
      RDL (Addr.add ⟨B5, 0, none⟩ 0) fun x7 l8 c9 =>
        RDI .i64 (Addr.add ⟨B5, 0, none⟩ 1) fun n10 =>
          CALL Pg W F_lot_open [(.agg #[(.slice x7 l8 c9), (.int .i64 n10)])]
            (fun v11 => TYP v11 fun p13 =>
              CALL Pg W F_lot_lots_counted [(.pointer p13), (.iface 72 (.agg #[]))]
                (fun v14 => CALL Pg W F_lot_lots_all [(.pointer p13)]
                  (fun v16 => TYI .u64 v16 fun n18 =>
                    CALLV Pg W v14 [(.int .u64 n18), (.int .i64 8)]
                      (fun v19 => TYI .i64 v19 fun n21 =>
                        WR (Addr.add ⟨B6, 0, none⟩ 0) (.int .i64 0) <|
                          DEF Pg W (.tuple #[(.func (.func 42) #[] #[]), (.tuple #[(.pointer (some ⟨B6, 0, none⟩))])]) none
                            (RDI .i64 ⟨B6, 0, none⟩ fun n22 =>
                              R (.returned (.tuple #[(.int .i64 n21), (.int .i64 n22)]))))
                        (fun e20 => DEF Pg W (.tuple #[(.func (.func 42) #[] #[]), (.tuple #[(.pointer (some ⟨B6, 0, none⟩))])]) (some e20) (RDI .i64 ⟨B6, 0, none⟩ fun n23 =>
                          R (.returned (.tuple #[(.int .i64 0), (.int .i64 n23)])))))
                    (fun e17 => DEF Pg W (.tuple #[(.func (.func 42) #[] #[]), (.tuple #[(.pointer (some ⟨B6, 0, none⟩))])]) (some e17) (RDI .i64 ⟨B6, 0, none⟩ fun n24 =>
                      R (.returned (.tuple #[(.int .i64 0), (.int .i64 n24)])))))
                  (fun e15 => DEF Pg W (.tuple #[(.func (.func 42) #[] #[]), (.tuple #[(.pointer (some ⟨B6, 0, none⟩))])]) (some e15) (RDI .i64 ⟨B6, 0, none⟩ fun n25 =>
                    R (.returned (.tuple #[(.int .i64 0), (.int .i64 n25)])))))
              (fun e12 => DEF Pg W (.tuple #[(.func (.func 42) #[] #[]), (.tuple #[(.pointer (some ⟨B6, 0, none⟩))])]) (some e12) (RDI .i64 ⟨B6, 0, none⟩ fun n26 =>
                R (.returned (.tuple #[(.int .i64 0), (.int .i64 n26)]))))
theorem T_lot_Count_eq (W : World) (x1 : Option Addr) (l2 : Nat) (c3 : Nat) (n4 : Int) (R : Ending → Hp → Prop) : vfun Pg W an_16 Try.f16 [(.agg #[(.slice x1 l2 c3), (.int .i64 n4)])] R = T_lot_Count W x1 l2 c3 n4 R := by kernel_rfl
theorem does_lot_Count (W : World) (x1 : Option Addr) (l2 : Nat) (c3 : Nat) (n4 : Int) (R : Ending → Hp → Prop) (s : Hp) (h : T_lot_Count W x1 l2 c3 n4 R s) : Does Pg W F_lot_Count #[(.agg #[(.slice x1 l2 c3), (.int .i64 n4)])] s R :=
  does_of_vfun Pg W an_16 Try.func16 rfl (by kernel_rfl) (by rw [T_lot_Count_eq]; exact h)
def an_18 : Nat → Ann := fun b => match b with
  | _ => {}
abbrev rv_18 : List ResultVar := [.tmp 4, .cell 5 28]
abbrev rs_18 : List Nat := [23, 4, 5]
def T_lot_Nth (W : World) (x1 : Option Addr) (l2 : Nat) (c3 : Nat) (n4 : Int) (n5 : Int) (R : Ending → Hp → Prop) : Hp → Prop :=
  NEW 24 [(.slice x1 l2 c3), (.int .i64 n4)] fun B6 =>
    NEW 3 [(.int .i64 n5)] fun B7 =>
      NEWZ Pg 28 fun B8 =>
        RDL (Addr.add ⟨B6, 0, none⟩ 0) fun x9 l10 c11 =>
          RDI .i64 (Addr.add ⟨B6, 0, none⟩ 1) fun n12 =>
            CALL Pg W F_lot_open [(.agg #[(.slice x9 l10 c11), (.int .i64 n12)])]
              (fun v13 => TYP v13 fun p15 =>
                RDI .i64 ⟨B7, 0, none⟩ fun n16 =>
                  CALL Pg W F_lot_lots_counted [(.pointer p15), (.iface 72 (.agg #[]))]
                    (fun v17 => ANDS (RDI .i64 ⟨B7, 0, none⟩ fun n19 =>
                      fun _ => ((.int .i64 n19) : Value) = (.int .i64 n16)) <|
                      CALL Pg W F_lot_lots_all [(.pointer p15)]
                        (fun v20 => TYI .u64 v20 fun n22 =>
                          ANDS (RDI .i64 ⟨B7, 0, none⟩ fun n23 =>
                            fun _ => ((.int .i64 n23) : Value) = (.int .i64 n16)) <|
                            CALLV Pg W v17 [(.int .u64 n22), (.int .i64 8)]
                              (fun v24 => TYI .i64 v24 fun n26 =>
                                ANDS (RDI .i64 ⟨B7, 0, none⟩ fun n27 =>
                                  fun _ => ((.int .i64 n27) : Value) = (.int .i64 n16)) <|
                                  CALL Pg W F_lot_within [(.int .i64 n16), (.int .i64 0), (.int .i64 (IntKind.wrap .i64 (n26 - 1)))]
                                    (fun v28 => TYB v28 fun b30 =>
                                      CALL Pg W F_lot_must [(.bool b30), (.int .i64 4)]
                                        (fun v31 => TUP v31 fun q33 => NL q33 <|
                                          CALL Pg W F_lot_lots_choose [(.pointer p15), (.func (.func 53) #[] #[(.pointer (some ⟨B7, 0, none⟩))])]
                                            (fun v34 => TYL v34 fun x36 l37 c38 =>
                                              WR (Addr.add ⟨B8, 0, none⟩ 0) (.int .i64 0) <|
                                                DEF Pg W (.tuple #[(.func (.func 42) #[] #[]), (.tuple #[(.pointer (some ⟨B8, 0, none⟩))])]) none
                                                  (RDI .i64 ⟨B8, 0, none⟩ fun n39 =>
                                                    R (.returned (.tuple #[(.slice x36 l37 c38), (.int .i64 n39)]))))
                                              (fun e35 => DEF Pg W (.tuple #[(.func (.func 42) #[] #[]), (.tuple #[(.pointer (some ⟨B8, 0, none⟩))])]) (some e35) (RDI .i64 ⟨B8, 0, none⟩ fun n40 =>
                                                R (.returned (.tuple #[(.slice none 0 0), (.int .i64 n40)])))))
                                          (fun e32 => DEF Pg W (.tuple #[(.func (.func 42) #[] #[]), (.tuple #[(.pointer (some ⟨B8, 0, none⟩))])]) (some e32) (RDI .i64 ⟨B8, 0, none⟩ fun n41 =>
                                            R (.returned (.tuple #[(.slice none 0 0), (.int .i64 n41)])))))
                                      (fun e29 => DEF Pg W (.tuple #[(.func (.func 42) #[] #[]), (.tuple #[(.pointer (some ⟨B8, 0, none⟩))])]) (some e29) (RDI .i64 ⟨B8, 0, none⟩ fun n42 =>
                                        R (.returned (.tuple #[(.slice none 0 0), (.int .i64 n42)])))))
                                (fun e25 => DEF Pg W (.tuple #[(.func (.func 42) #[] #[]), (.tuple #[(.pointer (some ⟨B8, 0, none⟩))])]) (some e25) (RDI .i64 ⟨B8, 0, none⟩ fun n43 =>
                                  R (.returned (.tuple #[(.slice none 0 0), (.int .i64 n43)])))))
                          (fun e21 => DEF Pg W (.tuple #[(.func (.func 42) #[] #[]), (.tuple #[(.pointer (some ⟨B8, 0, none⟩))])]) (some e21) (RDI .i64 ⟨B8, 0, none⟩ fun n44 =>
                            R (.returned (.tuple #[(.slice none 0 0), (.int .i64 n44)])))))
                      (fun e18 => DEF Pg W (.tuple #[(.func (.func 42) #[] #[]), (.tuple #[(.pointer (some ⟨B8, 0, none⟩))])]) (some e18) (RDI .i64 ⟨B8, 0, none⟩ fun n45 =>
                        R (.returned (.tuple #[(.slice none 0 0), (.int .i64 n45)])))))
                (fun e14 => DEF Pg W (.tuple #[(.func (.func 42) #[] #[]), (.tuple #[(.pointer (some ⟨B8, 0, none⟩))])]) (some e14) (RDI .i64 ⟨B8, 0, none⟩ fun n46 =>
                  R (.returned (.tuple #[(.slice none 0 0), (.int .i64 n46)]))))
theorem T_lot_Nth_eq (W : World) (x1 : Option Addr) (l2 : Nat) (c3 : Nat) (n4 : Int) (n5 : Int) (R : Ending → Hp → Prop) : vfun Pg W an_18 Try.f18 [(.agg #[(.slice x1 l2 c3), (.int .i64 n4)]), (.int .i64 n5)] R = T_lot_Nth W x1 l2 c3 n4 n5 R := by kernel_rfl
theorem does_lot_Nth (W : World) (x1 : Option Addr) (l2 : Nat) (c3 : Nat) (n4 : Int) (n5 : Int) (R : Ending → Hp → Prop) (s : Hp) (h : T_lot_Nth W x1 l2 c3 n4 n5 R s) : Does Pg W F_lot_Nth #[(.agg #[(.slice x1 l2 c3), (.int .i64 n4)]), (.int .i64 n5)] s R :=
  does_of_vfun Pg W an_18 Try.func18 rfl (by kernel_rfl) (by rw [T_lot_Nth_eq]; exact h)
def an_20 : Nat → Ann := fun b => match b with
  | _ => {}
abbrev rv_20 : List ResultVar := [.cell 4 3, .cell 5 28]
abbrev rs_20 : List Nat := [30, 4, 5]
def T_lot_Place (W : World) (x1 : Option Addr) (l2 : Nat) (c3 : Nat) (n4 : Int) (x5 : Option Addr) (l6 : Nat) (c7 : Nat) (R : Ending → Hp → Prop) : Hp → Prop :=
  NEW 24 [(.slice x1 l2 c3), (.int .i64 n4)] fun B8 =>
    NEWZ Pg 3 fun B9 =>
      NEWZ Pg 28 fun B10 =>
        RDL (Addr.add ⟨B8, 0, none⟩ 0) fun x11 l12 c13 =>
          RDI .i64 (Addr.add ⟨B8, 0, none⟩ 1) fun n14 =>
            CALL Pg W F_lot_open [(.agg #[(.slice x11 l12 c13), (.int .i64 n14)])]
              (fun v15 => TYP v15 fun p17 =>
                CALL Pg W F_lot_lots_draw [(.pointer p17), (.slice x5 l6 c7)]
                  (fun v18 => TYL v18 fun x20 l21 c22 =>
                    NEWZ Pg 25 fun B23 =>
                      WR (Addr.add ⟨B23, 0, none⟩ 0) (.slice x20 l21 c22) <|
                        RDL ⟨B23, 0, none⟩ fun x24 l25 c26 =>
                          CALL Pg W F_lot_lots_wrong [(.pointer p17), (.slice x24 l25 c26)]
                            (fun v27 => TUP v27 fun q29 => HD q29 fun v30 r31 => TYI .i64 v30 fun n32 =>
                              HD r31 fun v33 r34 => TYI .i64 v33 fun n35 =>
                                HD r34 fun v36 r37 => TYB v36 fun b38 =>
                                  NL r37 <|
                                    CALL Pg W F_lot_must [(.bool (!b38)), (.int .i64 4)]
                                      (fun v39 => TUP v39 fun q41 => NL q41 <|
                                        CALL Pg W F_lot_lots_choose [(.pointer p17), (.func (.func 57) #[] #[(.pointer (some ⟨B23, 0, none⟩)), (.pointer (some ⟨B9, 0, none⟩))])]
                                          (fun v42 => TYL v42 fun x44 l45 c46 =>
                                            RDI .i64 ⟨B9, 0, none⟩ fun n47 =>
                                              WR (Addr.add ⟨B9, 0, none⟩ 0) (.int .i64 n47) <|
                                                WR (Addr.add ⟨B10, 0, none⟩ 0) (.int .i64 0) <|
                                                  DEF Pg W (.tuple #[(.func (.func 42) #[] #[]), (.tuple #[(.pointer (some ⟨B10, 0, none⟩))])]) none
                                                    (RDI .i64 ⟨B9, 0, none⟩ fun n48 =>
                                                      RDI .i64 ⟨B10, 0, none⟩ fun n49 =>
                                                        R (.returned (.tuple #[(.int .i64 n48), (.int .i64 n49)]))))
                                            (fun e43 => DEF Pg W (.tuple #[(.func (.func 42) #[] #[]), (.tuple #[(.pointer (some ⟨B10, 0, none⟩))])]) (some e43) (RDI .i64 ⟨B9, 0, none⟩ fun n50 =>
                                              RDI .i64 ⟨B10, 0, none⟩ fun n51 =>
                                                R (.returned (.tuple #[(.int .i64 n50), (.int .i64 n51)])))))
                                        (fun e40 => DEF Pg W (.tuple #[(.func (.func 42) #[] #[]), (.tuple #[(.pointer (some ⟨B10, 0, none⟩))])]) (some e40) (RDI .i64 ⟨B9, 0, none⟩ fun n52 =>
                                          RDI .i64 ⟨B10, 0, none⟩ fun n53 =>
                                            R (.returned (.tuple #[(.int .i64 n52), (.int .i64 n53)])))))
                              (fun e28 => DEF Pg W (.tuple #[(.func (.func 42) #[] #[]), (.tuple #[(.pointer (some ⟨B10, 0, none⟩))])]) (some e28) (RDI .i64 ⟨B9, 0, none⟩ fun n54 =>
                                RDI .i64 ⟨B10, 0, none⟩ fun n55 =>
                                  R (.returned (.tuple #[(.int .i64 n54), (.int .i64 n55)])))))
                    (fun e19 => DEF Pg W (.tuple #[(.func (.func 42) #[] #[]), (.tuple #[(.pointer (some ⟨B10, 0, none⟩))])]) (some e19) (RDI .i64 ⟨B9, 0, none⟩ fun n56 =>
                      RDI .i64 ⟨B10, 0, none⟩ fun n57 =>
                        R (.returned (.tuple #[(.int .i64 n56), (.int .i64 n57)])))))
                (fun e16 => DEF Pg W (.tuple #[(.func (.func 42) #[] #[]), (.tuple #[(.pointer (some ⟨B10, 0, none⟩))])]) (some e16) (RDI .i64 ⟨B9, 0, none⟩ fun n58 =>
                  RDI .i64 ⟨B10, 0, none⟩ fun n59 =>
                    R (.returned (.tuple #[(.int .i64 n58), (.int .i64 n59)]))))
theorem T_lot_Place_eq (W : World) (x1 : Option Addr) (l2 : Nat) (c3 : Nat) (n4 : Int) (x5 : Option Addr) (l6 : Nat) (c7 : Nat) (R : Ending → Hp → Prop) : vfun Pg W an_20 Try.f20 [(.agg #[(.slice x1 l2 c3), (.int .i64 n4)]), (.slice x5 l6 c7)] R = T_lot_Place W x1 l2 c3 n4 x5 l6 c7 R := by kernel_rfl
theorem does_lot_Place (W : World) (x1 : Option Addr) (l2 : Nat) (c3 : Nat) (n4 : Int) (x5 : Option Addr) (l6 : Nat) (c7 : Nat) (R : Ending → Hp → Prop) (s : Hp) (h : T_lot_Place W x1 l2 c3 n4 x5 l6 c7 R s) : Does Pg W F_lot_Place #[(.agg #[(.slice x1 l2 c3), (.int .i64 n4)]), (.slice x5 l6 c7)] s R :=
  does_of_vfun Pg W an_20 Try.func20 rfl (by kernel_rfl) (by rw [T_lot_Place_eq]; exact h)
def an_22 : Nat → Ann := fun b => match b with
  | _ => {}
abbrev rv_22 : List ResultVar := [.tmp 4, .cell 5 28]
abbrev rs_22 : List Nat := [29, 4, 5]
def T_lot_Draw (W : World) (x1 : Option Addr) (l2 : Nat) (c3 : Nat) (n4 : Int) (n5 : Int) (R : Ending → Hp → Prop) : Hp → Prop :=
  NEW 24 [(.slice x1 l2 c3), (.int .i64 n4)] fun B6 =>
    NEWZ Pg 28 fun B7 =>
      RDL (Addr.add ⟨B6, 0, none⟩ 0) fun x8 l9 c10 =>
        RDI .i64 (Addr.add ⟨B6, 0, none⟩ 1) fun n11 =>
          CALL Pg W F_lot_open [(.agg #[(.slice x8 l9 c10), (.int .i64 n11)])]
            (fun v12 => TYP v12 fun p14 =>
              CALL Pg W F_lot_within [(.int .i64 n5), (.int .i64 0), (.int .i64 65536)]
                (fun v15 => TYB v15 fun b17 =>
                  CALL Pg W F_lot_must [(.bool b17), (.int .i64 2)]
                    (fun v18 => TUP v18 fun q20 => NL q20 <|
                      CALL Pg W F_lot_lots_counted [(.pointer p14), (.iface 72 (.agg #[]))]
                        (fun v21 => CALL Pg W F_lot_lots_all [(.pointer p14)]
                          (fun v23 => TYI .u64 v23 fun n25 =>
                            CALLV Pg W v21 [(.int .u64 n25), (.int .i64 8)]
                              (fun v26 => TYI .i64 v26 fun n28 =>
                                CALL Pg W F_lot_must [(.bool (decide (n28 > 0))), (.int .i64 4)]
                                  (fun v29 => TUP v29 fun q31 => NL q31 <|
                                    NEW 86 [(.int .i64 n5)] fun B32 =>
                                      NEWZ Pg 83 fun B33 =>
                                        WR (Addr.add ⟨B33, 0, none⟩ 0) (.func (.func 59) #[(.pointer (some ⟨B32, 0, none⟩))] #[]) <|
                                          CALL Pg W F_lot_lots_choose [(.pointer p14), (.func (.func 60) #[] #[(.pointer (some ⟨B33, 0, none⟩))])]
                                            (fun v34 => TYL v34 fun x36 l37 c38 =>
                                              WR (Addr.add ⟨B7, 0, none⟩ 0) (.int .i64 0) <|
                                                DEF Pg W (.tuple #[(.func (.func 42) #[] #[]), (.tuple #[(.pointer (some ⟨B7, 0, none⟩))])]) none
                                                  (RDI .i64 ⟨B7, 0, none⟩ fun n39 =>
                                                    R (.returned (.tuple #[(.slice x36 l37 c38), (.int .i64 n39)]))))
                                              (fun e35 => DEF Pg W (.tuple #[(.func (.func 42) #[] #[]), (.tuple #[(.pointer (some ⟨B7, 0, none⟩))])]) (some e35) (RDI .i64 ⟨B7, 0, none⟩ fun n40 =>
                                                R (.returned (.tuple #[(.slice none 0 0), (.int .i64 n40)])))))
                                    (fun e30 => DEF Pg W (.tuple #[(.func (.func 42) #[] #[]), (.tuple #[(.pointer (some ⟨B7, 0, none⟩))])]) (some e30) (RDI .i64 ⟨B7, 0, none⟩ fun n41 =>
                                      R (.returned (.tuple #[(.slice none 0 0), (.int .i64 n41)])))))
                                (fun e27 => DEF Pg W (.tuple #[(.func (.func 42) #[] #[]), (.tuple #[(.pointer (some ⟨B7, 0, none⟩))])]) (some e27) (RDI .i64 ⟨B7, 0, none⟩ fun n42 =>
                                  R (.returned (.tuple #[(.slice none 0 0), (.int .i64 n42)])))))
                            (fun e24 => DEF Pg W (.tuple #[(.func (.func 42) #[] #[]), (.tuple #[(.pointer (some ⟨B7, 0, none⟩))])]) (some e24) (RDI .i64 ⟨B7, 0, none⟩ fun n43 =>
                              R (.returned (.tuple #[(.slice none 0 0), (.int .i64 n43)])))))
                          (fun e22 => DEF Pg W (.tuple #[(.func (.func 42) #[] #[]), (.tuple #[(.pointer (some ⟨B7, 0, none⟩))])]) (some e22) (RDI .i64 ⟨B7, 0, none⟩ fun n44 =>
                            R (.returned (.tuple #[(.slice none 0 0), (.int .i64 n44)])))))
                      (fun e19 => DEF Pg W (.tuple #[(.func (.func 42) #[] #[]), (.tuple #[(.pointer (some ⟨B7, 0, none⟩))])]) (some e19) (RDI .i64 ⟨B7, 0, none⟩ fun n45 =>
                        R (.returned (.tuple #[(.slice none 0 0), (.int .i64 n45)])))))
                  (fun e16 => DEF Pg W (.tuple #[(.func (.func 42) #[] #[]), (.tuple #[(.pointer (some ⟨B7, 0, none⟩))])]) (some e16) (RDI .i64 ⟨B7, 0, none⟩ fun n46 =>
                    R (.returned (.tuple #[(.slice none 0 0), (.int .i64 n46)])))))
              (fun e13 => DEF Pg W (.tuple #[(.func (.func 42) #[] #[]), (.tuple #[(.pointer (some ⟨B7, 0, none⟩))])]) (some e13) (RDI .i64 ⟨B7, 0, none⟩ fun n47 =>
                R (.returned (.tuple #[(.slice none 0 0), (.int .i64 n47)]))))
theorem T_lot_Draw_eq (W : World) (x1 : Option Addr) (l2 : Nat) (c3 : Nat) (n4 : Int) (n5 : Int) (R : Ending → Hp → Prop) : vfun Pg W an_22 Try.f22 [(.agg #[(.slice x1 l2 c3), (.int .i64 n4)]), (.int .i64 n5)] R = T_lot_Draw W x1 l2 c3 n4 n5 R := by kernel_rfl
theorem does_lot_Draw (W : World) (x1 : Option Addr) (l2 : Nat) (c3 : Nat) (n4 : Int) (n5 : Int) (R : Ending → Hp → Prop) (s : Hp) (h : T_lot_Draw W x1 l2 c3 n4 n5 R s) : Does Pg W F_lot_Draw #[(.agg #[(.slice x1 l2 c3), (.int .i64 n4)]), (.int .i64 n5)] s R :=
  does_of_vfun Pg W an_22 Try.func22 rfl (by kernel_rfl) (by rw [T_lot_Draw_eq]; exact h)
def an_25 : Nat → Ann := fun b => match b with
  | 0 => { ms := [4, 16], ks := [.i .i64, .i .i64], us := [1, 5, 6, 15, 30], rt := false, ex := [] }
  | _ => {}
abbrev rv_25 : List ResultVar := [.tmp 4, .cell 5 28]
abbrev rs_25 : List Nat := [30, 4, 5]
def L_lot_Can_0 (W : World) (R : Ending → Hp → Prop) (zn0 : Int) (za1 : Addr) (zp2 : Option Addr) (zn3 : Int) (n28 : Int) (n29 : Int) : Hp → Prop :=
  LOOPN [.i .i64, .i .i64] (fun ys next s => ∀ j : Tm, vc Pg W 30 rs_25 an_25 false (sub (bodyOf Try.f25) [1, 1, 1, 1, 0, 1, 0, 0]) 0 (KLoop [4, 16] [1, 5, 6, 15, 30] [(.int .i64 zn0), (.pointer (some za1)), (.pointer zp2), (.int .i64 zn3), (.tuple #[(.func (.func 42) #[] #[]), (.tuple #[(.pointer (some za1))])])] next (KBlk 0 (KS Pg W 30 rs_25 an_25 false (sub (bodyOf Try.f25) [1, 1, 1, 1, 1]) 0 (fin Pg W 30 rv_25 R)))) (known [4, 16] ys (known [1, 5, 6, 15, 30] [(.int .i64 zn0), (.pointer (some za1)), (.pointer zp2), (.int .i64 zn3), (.tuple #[(.func (.func 42) #[] #[]), (.tuple #[(.pointer (some za1))])])] j)) s) [(.int .i64 n28), (.int .i64 n29)]
def B_lot_Can_0 (W : World) (R : Ending → Hp → Prop) (zn0 : Int) (za1 : Addr) (zp2 : Option Addr) (zn3 : Int) (n28 : Int) (n29 : Int) (nx0 : List Value → Hp → Prop) : Hp → Prop :=
  BR (decide (n29 < zn3))
    (CALL Pg W F_lot_lots_often [(.pointer zp2), (.int .i64 zn0), (.int .i64 n29)]
      (fun v30 => TYI .i64 v30 fun n32 =>
        BR (decide (n32 > 0))
          (NNI n29 <|
            NX [(.int .i64 zn0), (.pointer (some za1)), (.pointer zp2), (.int .i64 zn3), (.tuple #[(.func (.func 42) #[] #[]), (.tuple #[(.pointer (some za1))])])] [(.int .i64 zn0), (.pointer (some za1)), (.pointer zp2), (.int .i64 zn3), (.tuple #[(.func (.func 42) #[] #[]), (.tuple #[(.pointer (some za1))])])] (nx0 [(.int .i64 (orv .i64 n28 (shlv .i64 1 n29))), (.int .i64 (IntKind.wrap .i64 (n29 + 1)))]))
          (NX [(.int .i64 zn0), (.pointer (some za1)), (.pointer zp2), (.int .i64 zn3), (.tuple #[(.func (.func 42) #[] #[]), (.tuple #[(.pointer (some za1))])])] [(.int .i64 zn0), (.pointer (some za1)), (.pointer zp2), (.int .i64 zn3), (.tuple #[(.func (.func 42) #[] #[]), (.tuple #[(.pointer (some za1))])])] (nx0 [(.int .i64 n28), (.int .i64 (IntKind.wrap .i64 (n29 + 1)))])))
        (fun e31 => DEF Pg W (.tuple #[(.func (.func 42) #[] #[]), (.tuple #[(.pointer (some za1))])]) (some e31) (RDI .i64 za1 fun n33 =>
          R (.returned (.tuple #[(.int .i64 n28), (.int .i64 n33)])))))
    (WR (Addr.add za1 0) (.int .i64 0) <|
      DEF Pg W (.tuple #[(.func (.func 42) #[] #[]), (.tuple #[(.pointer (some za1))])]) none
        (RDI .i64 za1 fun n34 =>
          R (.returned (.tuple #[(.int .i64 n28), (.int .i64 n34)]))))
theorem B_lot_Can_0_eq (W : World) (R : Ending → Hp → Prop) (zn0 : Int) (za1 : Addr) (zp2 : Option Addr) (zn3 : Int) (n28 : Int) (n29 : Int) (nx0 : List Value → Hp → Prop) (j : Tm) : vc Pg W 30 rs_25 an_25 false (sub (bodyOf Try.f25) [1, 1, 1, 1, 0, 1, 0, 0]) 0 (KLoop [4, 16] [1, 5, 6, 15, 30] [(.int .i64 zn0), (.pointer (some za1)), (.pointer zp2), (.int .i64 zn3), (.tuple #[(.func (.func 42) #[] #[]), (.tuple #[(.pointer (some za1))])])] nx0 (KBlk 0 (KS Pg W 30 rs_25 an_25 false (sub (bodyOf Try.f25) [1, 1, 1, 1, 1]) 0 (fin Pg W 30 rv_25 R)))) (known [4, 16] [(.int .i64 n28), (.int .i64 n29)] (known [1, 5, 6, 15, 30] [(.int .i64 zn0), (.pointer (some za1)), (.pointer zp2), (.int .i64 zn3), (.tuple #[(.func (.func 42) #[] #[]), (.tuple #[(.pointer (some za1))])])] j)) = B_lot_Can_0 W R zn0 za1 zp2 zn3 n28 n29 nx0 := by kernel_rfl
def N_lot_Can_0 (I : Int → Int → Hp → Prop) (μ : Int → Int → Hp → Nat) (n280 : Int) (n290 : Int) (s : Hp) (vs : List Value) : Hp → Prop := fun s' => ∃ n28 n29, vs = [(.int .i64 n28), (.int .i64 n29)] ∧ I n28 n29 s' ∧ μ n28 n29 s' < μ n280 n290 s
theorem L_lot_Can_0_rule (W : World) (R : Ending → Hp → Prop) (zn0 : Int) (za1 : Addr) (zp2 : Option Addr) (zn3 : Int) (I : Int → Int → Hp → Prop) (μ : Int → Int → Hp → Nat) (n280 : Int) (n290 : Int) (s : Hp) (h0 : I n280 n290 s)
    (hr : ∀ (n28 : Int) (n29 : Int) (s : Hp), I n28 n29 s → B_lot_Can_0 W R zn0 za1 zp2 zn3 n28 n29 (fun vs => N_lot_Can_0 I μ n28 n29 s vs) s) : L_lot_Can_0 W R zn0 za1 zp2 zn3 n280 n290 s := by
  refine ⟨fun vs s => ∃ n28 n29, vs = [(.int .i64 n28), (.int .i64 n29)] ∧ I n28 n29 s, fun vs s => (match vs with | [.int _ n28, .int _ n29] => μ n28 n29 s | _ => 0), ⟨⟨⟨_, rfl⟩, ⟨⟨_, rfl⟩, trivial⟩⟩, ⟨_, _, rfl, h0⟩⟩, ?_⟩
  intro n28 n29 s hI j
  obtain ⟨n28', n29', hy, hI⟩ := hI
  have hI' : I n28 n29 s := by cases hy; exact hI
  have hh := hr n28 n29 s hI'
  rw [← B_lot_Can_0_eq W R zn0 za1 zp2 zn3 n28 n29 _ j] at hh
  refine vc_mono ?_ _ _ hh
  exact KLoop_mono (fun vs s' h => by obtain ⟨n281, n291, rfl, h1, h2⟩ := h; exact ⟨⟨⟨_, rfl⟩, ⟨⟨_, rfl⟩, trivial⟩⟩, ⟨_, _, rfl, h1⟩, h2⟩)
def T_lot_Can (W : World) (x1 : Option Addr) (l2 : Nat) (c3 : Nat) (n4 : Int) (n5 : Int) (R : Ending → Hp → Prop) : Hp → Prop :=
  NEW 24 [(.slice x1 l2 c3), (.int .i64 n4)] fun B6 =>
    NEWZ Pg 28 fun B7 =>
      RDL (Addr.add ⟨B6, 0, none⟩ 0) fun x8 l9 c10 =>
        RDI .i64 (Addr.add ⟨B6, 0, none⟩ 1) fun n11 =>
          CALL Pg W F_lot_open [(.agg #[(.slice x8 l9 c10), (.int .i64 n11)])]
            (fun v12 => TYP v12 fun p14 =>
              CALL Pg W F_lot_lots_is [(.pointer p14), (.int .i64 n5)]
                (fun v15 => TYB v15 fun b17 =>
                  CALL Pg W F_lot_must [(.bool b17), (.int .i64 2)]
                    (fun v18 => TUP v18 fun q20 => NL q20 <|
                      CALL Pg W F_lot_lots_plots [(.pointer p14)]
                        (fun v21 => TYI .i64 v21 fun n23 =>
                          L_lot_Can_0 W R n5 ⟨B7, 0, none⟩ p14 n23 0 0)
                          (fun e22 => DEF Pg W (.tuple #[(.func (.func 42) #[] #[]), (.tuple #[(.pointer (some ⟨B7, 0, none⟩))])]) (some e22) (RDI .i64 ⟨B7, 0, none⟩ fun n24 =>
                            R (.returned (.tuple #[(.int .i64 0), (.int .i64 n24)])))))
                      (fun e19 => DEF Pg W (.tuple #[(.func (.func 42) #[] #[]), (.tuple #[(.pointer (some ⟨B7, 0, none⟩))])]) (some e19) (RDI .i64 ⟨B7, 0, none⟩ fun n25 =>
                        R (.returned (.tuple #[(.int .i64 0), (.int .i64 n25)])))))
                  (fun e16 => DEF Pg W (.tuple #[(.func (.func 42) #[] #[]), (.tuple #[(.pointer (some ⟨B7, 0, none⟩))])]) (some e16) (RDI .i64 ⟨B7, 0, none⟩ fun n26 =>
                    R (.returned (.tuple #[(.int .i64 0), (.int .i64 n26)])))))
              (fun e13 => DEF Pg W (.tuple #[(.func (.func 42) #[] #[]), (.tuple #[(.pointer (some ⟨B7, 0, none⟩))])]) (some e13) (RDI .i64 ⟨B7, 0, none⟩ fun n27 =>
                R (.returned (.tuple #[(.int .i64 0), (.int .i64 n27)]))))
theorem T_lot_Can_eq (W : World) (x1 : Option Addr) (l2 : Nat) (c3 : Nat) (n4 : Int) (n5 : Int) (R : Ending → Hp → Prop) : vfun Pg W an_25 Try.f25 [(.agg #[(.slice x1 l2 c3), (.int .i64 n4)]), (.int .i64 n5)] R = T_lot_Can W x1 l2 c3 n4 n5 R := by kernel_rfl
theorem does_lot_Can (W : World) (x1 : Option Addr) (l2 : Nat) (c3 : Nat) (n4 : Int) (n5 : Int) (R : Ending → Hp → Prop) (s : Hp) (h : T_lot_Can W x1 l2 c3 n4 n5 R s) : Does Pg W F_lot_Can #[(.agg #[(.slice x1 l2 c3), (.int .i64 n4)]), (.int .i64 n5)] s R :=
  does_of_vfun Pg W an_25 Try.func25 rfl (by kernel_rfl) (by rw [T_lot_Can_eq]; exact h)
def an_27 : Nat → Ann := fun b => match b with
  | _ => {}
abbrev rv_27 : List ResultVar := [.tmp 6, .cell 7 28]
abbrev rs_27 : List Nat := [24, 6, 7]
def T_lot_Often (W : World) (x1 : Option Addr) (l2 : Nat) (c3 : Nat) (n4 : Int) (n5 : Int) (n6 : Int) (R : Ending → Hp → Prop) : Hp → Prop :=
  NEW 24 [(.slice x1 l2 c3), (.int .i64 n4)] fun B7 =>
    NEWZ Pg 28 fun B8 =>
      RDL (Addr.add ⟨B7, 0, none⟩ 0) fun x9 l10 c11 =>
        RDI .i64 (Addr.add ⟨B7, 0, none⟩ 1) fun n12 =>
          CALL Pg W F_lot_open [(.agg #[(.slice x9 l10 c11), (.int .i64 n12)])]
            (fun v13 => TYP v13 fun p15 =>
              CALL Pg W F_lot_lots_is [(.pointer p15), (.int .i64 n5)]
                (fun v16 => TYB v16 fun b18 =>
                  BR b18
                    (CALL Pg W F_lot_lots_is [(.pointer p15), (.int .i64 n6)]
                      (fun v19 => TYB v19 fun b21 =>
                        CALL Pg W F_lot_must [(.bool b21), (.int .i64 2)]
                          (fun v22 => TUP v22 fun q24 => NL q24 <|
                            CALL Pg W F_lot_lots_often [(.pointer p15), (.int .i64 n5), (.int .i64 n6)]
                              (fun v25 => TYI .i64 v25 fun n27 =>
                                WR (Addr.add ⟨B8, 0, none⟩ 0) (.int .i64 0) <|
                                  DEF Pg W (.tuple #[(.func (.func 42) #[] #[]), (.tuple #[(.pointer (some ⟨B8, 0, none⟩))])]) none
                                    (RDI .i64 ⟨B8, 0, none⟩ fun n28 =>
                                      R (.returned (.tuple #[(.int .i64 n27), (.int .i64 n28)]))))
                                (fun e26 => DEF Pg W (.tuple #[(.func (.func 42) #[] #[]), (.tuple #[(.pointer (some ⟨B8, 0, none⟩))])]) (some e26) (RDI .i64 ⟨B8, 0, none⟩ fun n29 =>
                                  R (.returned (.tuple #[(.int .i64 0), (.int .i64 n29)])))))
                            (fun e23 => DEF Pg W (.tuple #[(.func (.func 42) #[] #[]), (.tuple #[(.pointer (some ⟨B8, 0, none⟩))])]) (some e23) (RDI .i64 ⟨B8, 0, none⟩ fun n30 =>
                              R (.returned (.tuple #[(.int .i64 0), (.int .i64 n30)])))))
                        (fun e20 => DEF Pg W (.tuple #[(.func (.func 42) #[] #[]), (.tuple #[(.pointer (some ⟨B8, 0, none⟩))])]) (some e20) (RDI .i64 ⟨B8, 0, none⟩ fun n31 =>
                          R (.returned (.tuple #[(.int .i64 0), (.int .i64 n31)])))))
                    (CALL Pg W F_lot_must [(.bool false), (.int .i64 2)]
                      (fun v32 => TUP v32 fun q34 => NL q34 <|
                        CALL Pg W F_lot_lots_often [(.pointer p15), (.int .i64 n5), (.int .i64 n6)]
                          (fun v35 => TYI .i64 v35 fun n37 =>
                            WR (Addr.add ⟨B8, 0, none⟩ 0) (.int .i64 0) <|
                              DEF Pg W (.tuple #[(.func (.func 42) #[] #[]), (.tuple #[(.pointer (some ⟨B8, 0, none⟩))])]) none
                                (RDI .i64 ⟨B8, 0, none⟩ fun n38 =>
                                  R (.returned (.tuple #[(.int .i64 n37), (.int .i64 n38)]))))
                            (fun e36 => DEF Pg W (.tuple #[(.func (.func 42) #[] #[]), (.tuple #[(.pointer (some ⟨B8, 0, none⟩))])]) (some e36) (RDI .i64 ⟨B8, 0, none⟩ fun n39 =>
                              R (.returned (.tuple #[(.int .i64 0), (.int .i64 n39)])))))
                        (fun e33 => DEF Pg W (.tuple #[(.func (.func 42) #[] #[]), (.tuple #[(.pointer (some ⟨B8, 0, none⟩))])]) (some e33) (RDI .i64 ⟨B8, 0, none⟩ fun n40 =>
                          R (.returned (.tuple #[(.int .i64 0), (.int .i64 n40)]))))))
                  (fun e17 => DEF Pg W (.tuple #[(.func (.func 42) #[] #[]), (.tuple #[(.pointer (some ⟨B8, 0, none⟩))])]) (some e17) (RDI .i64 ⟨B8, 0, none⟩ fun n41 =>
                    R (.returned (.tuple #[(.int .i64 0), (.int .i64 n41)])))))
              (fun e14 => DEF Pg W (.tuple #[(.func (.func 42) #[] #[]), (.tuple #[(.pointer (some ⟨B8, 0, none⟩))])]) (some e14) (RDI .i64 ⟨B8, 0, none⟩ fun n42 =>
                R (.returned (.tuple #[(.int .i64 0), (.int .i64 n42)]))))
theorem T_lot_Often_eq (W : World) (x1 : Option Addr) (l2 : Nat) (c3 : Nat) (n4 : Int) (n5 : Int) (n6 : Int) (R : Ending → Hp → Prop) : vfun Pg W an_27 Try.f27 [(.agg #[(.slice x1 l2 c3), (.int .i64 n4)]), (.int .i64 n5), (.int .i64 n6)] R = T_lot_Often W x1 l2 c3 n4 n5 n6 R := by kernel_rfl
theorem does_lot_Often (W : World) (x1 : Option Addr) (l2 : Nat) (c3 : Nat) (n4 : Int) (n5 : Int) (n6 : Int) (R : Ending → Hp → Prop) (s : Hp) (h : T_lot_Often W x1 l2 c3 n4 n5 n6 R s) : Does Pg W F_lot_Often #[(.agg #[(.slice x1 l2 c3), (.int .i64 n4)]), (.int .i64 n5), (.int .i64 n6)] s R :=
  does_of_vfun Pg W an_27 Try.func27 rfl (by kernel_rfl) (by rw [T_lot_Often_eq]; exact h)
def an_29 : Nat → Ann := fun b => match b with
  | 0 => { ms := [4, 37], ks := [.l, .i .i64], us := [5, 6, 7, 36, 111], rt := false, ex := [] }
  | 2 => { ms := [4, 41], ks := [.l, .i .i64], us := [5, 6, 7, 11, 36, 37, 40, 111], rt := false, ex := [] }
  | 4 => { ms := [16, 91], ks := [.l, .i .i64], us := [4, 5, 90, 111], rt := false, ex := [] }
  | 6 => { ms := [16, 96], ks := [.l, .i .i64], us := [4, 5, 17, 90, 91, 94, 95, 111], rt := false, ex := [] }
  | _ => {}
abbrev rv_29 : List ResultVar := [.tmp 4, .cell 5 28]
abbrev rs_29 : List Nat := [111, 4, 5]
def L_lot_Swaps_0 (W : World) (R : Ending → Hp → Prop) (za0 : Addr) (zp1 : Option Addr) (zp2 : Option Addr) (zl3 : Nat) (zl4 : Nat) (zn5 : Int) (x41 : Option Addr) (l42 : Nat) (c43 : Nat) (n44 : Int) : Hp → Prop :=
  LOOPN [.l, .i .i64] (fun ys next s => ∀ j : Tm, vc Pg W 111 rs_29 an_29 false (sub (bodyOf Try.f29) [1, 1, 1, 1, 1, 1, 0, 1, 0, 0]) 0 (KLoop [4, 37] [5, 6, 7, 36, 111] [(.pointer (some za0)), (.pointer zp1), (.slice zp2 zl3 zl4), (.int .i64 zn5), (.tuple #[(.func (.func 42) #[] #[]), (.tuple #[(.pointer (some za0))])])] next (KBlk 0 (KS Pg W 111 rs_29 an_29 false (sub (bodyOf Try.f29) [1, 1, 1, 1, 1, 1, 1]) 0 (fin Pg W 111 rv_29 R)))) (known [4, 37] ys (known [5, 6, 7, 36, 111] [(.pointer (some za0)), (.pointer zp1), (.slice zp2 zl3 zl4), (.int .i64 zn5), (.tuple #[(.func (.func 42) #[] #[]), (.tuple #[(.pointer (some za0))])])] j)) s) [(.slice x41 l42 c43), (.int .i64 n44)]
def L_lot_Swaps_1 (W : World) (R : Ending → Hp → Prop) (nx0 : List Value → Hp → Prop) (za0 : Addr) (zp1 : Option Addr) (zp2 : Option Addr) (zl3 : Nat) (zl4 : Nat) (zn5 : Int) (zn6 : Int) (x45 : Option Addr) (l46 : Nat) (c47 : Nat) (n48 : Int) : Hp → Prop :=
  LOOPN [.l, .i .i64] (fun ys next s => ∀ j : Tm, vc Pg W 111 rs_29 an_29 false (sub (bodyOf Try.f29) [1, 1, 1, 1, 1, 1, 0, 1, 0, 0, 1, 1, 0, 0, 1, 1, 0, 0]) 2 (KLoop [4, 41] [5, 6, 7, 11, 36, 37, 40, 111] [(.pointer (some za0)), (.pointer zp1), (.slice zp2 zl3 zl4), (.int .i64 zn5), (.int .i64 zn6), (.int .i64 zn5), (.int .i64 zn5), (.tuple #[(.func (.func 42) #[] #[]), (.tuple #[(.pointer (some za0))])])] next (KBlk 2 (KBlk 1 (KS Pg W 111 rs_29 an_29 false (sub (bodyOf Try.f29) [1, 1, 1, 1, 1, 1, 0, 1, 0, 0, 1, 1, 1]) 0 (KLoop [4, 37] [5, 6, 7, 36, 111] [(.pointer (some za0)), (.pointer zp1), (.slice zp2 zl3 zl4), (.int .i64 zn6), (.tuple #[(.func (.func 42) #[] #[]), (.tuple #[(.pointer (some za0))])])] nx0 (KBlk 0 (KS Pg W 111 rs_29 an_29 false (sub (bodyOf Try.f29) [1, 1, 1, 1, 1, 1, 1]) 0 (fin Pg W 111 rv_29 R)))))))) (known [4, 41] ys (known [5, 6, 7, 11, 36, 37, 40, 111] [(.pointer (some za0)), (.pointer zp1), (.slice zp2 zl3 zl4), (.int .i64 zn5), (.int .i64 zn6), (.int .i64 zn5), (.int .i64 zn5), (.tuple #[(.func (.func 42) #[] #[]), (.tuple #[(.pointer (some za0))])])] j)) s) [(.slice x45 l46 c47), (.int .i64 n48)]
def L_lot_Swaps_2 (W : World) (R : Ending → Hp → Prop) (zp0 : Option Addr) (zl1 : Nat) (zl2 : Nat) (za3 : Addr) (zn4 : Int) (x84 : Option Addr) (l85 : Nat) (c86 : Nat) (n87 : Int) : Hp → Prop :=
  LOOPN [.l, .i .i64] (fun ys next s => ∀ j : Tm, vc Pg W 111 rs_29 an_29 false (sub (bodyOf Try.f29) [1, 1, 1, 1, 1, 1, 1, 1, 0, 1, 0, 0]) 4 (KLoop [16, 91] [4, 5, 90, 111] [(.slice zp0 zl1 zl2), (.pointer (some za3)), (.int .i64 zn4), (.tuple #[(.func (.func 42) #[] #[]), (.tuple #[(.pointer (some za3))])])] next (KBlk 4 (KS Pg W 111 rs_29 an_29 false (sub (bodyOf Try.f29) [1, 1, 1, 1, 1, 1, 1, 1, 1]) 0 (fin Pg W 111 rv_29 R)))) (known [16, 91] ys (known [4, 5, 90, 111] [(.slice zp0 zl1 zl2), (.pointer (some za3)), (.int .i64 zn4), (.tuple #[(.func (.func 42) #[] #[]), (.tuple #[(.pointer (some za3))])])] j)) s) [(.slice x84 l85 c86), (.int .i64 n87)]
def L_lot_Swaps_3 (W : World) (R : Ending → Hp → Prop) (nx2 : List Value → Hp → Prop) (zp0 : Option Addr) (zl1 : Nat) (zl2 : Nat) (za3 : Addr) (zn4 : Int) (zn5 : Int) (zn6 : Int) (x89 : Option Addr) (l90 : Nat) (c91 : Nat) (n92 : Int) : Hp → Prop :=
  LOOPN [.l, .i .i64] (fun ys next s => ∀ j : Tm, vc Pg W 111 rs_29 an_29 false (sub (bodyOf Try.f29) [1, 1, 1, 1, 1, 1, 1, 1, 0, 1, 0, 0, 1, 1, 0, 0, 1, 1, 0, 0]) 6 (KLoop [16, 96] [4, 5, 17, 90, 91, 94, 95, 111] [(.slice zp0 zl1 zl2), (.pointer (some za3)), (.int .i64 zn4), (.int .i64 zn5), (.int .i64 zn4), (.slice zp0 zl1 zl2), (.int .i64 zn6), (.tuple #[(.func (.func 42) #[] #[]), (.tuple #[(.pointer (some za3))])])] next (KBlk 6 (KBlk 5 (KS Pg W 111 rs_29 an_29 false (sub (bodyOf Try.f29) [1, 1, 1, 1, 1, 1, 1, 1, 0, 1, 0, 0, 1, 1, 1]) 4 (KLoop [16, 91] [4, 5, 90, 111] [(.slice zp0 zl1 zl2), (.pointer (some za3)), (.int .i64 zn5), (.tuple #[(.func (.func 42) #[] #[]), (.tuple #[(.pointer (some za3))])])] nx2 (KBlk 4 (KS Pg W 111 rs_29 an_29 false (sub (bodyOf Try.f29) [1, 1, 1, 1, 1, 1, 1, 1, 1]) 0 (fin Pg W 111 rv_29 R)))))))) (known [16, 96] ys (known [4, 5, 17, 90, 91, 94, 95, 111] [(.slice zp0 zl1 zl2), (.pointer (some za3)), (.int .i64 zn4), (.int .i64 zn5), (.int .i64 zn4), (.slice zp0 zl1 zl2), (.int .i64 zn6), (.tuple #[(.func (.func 42) #[] #[]), (.tuple #[(.pointer (some za3))])])] j)) s) [(.slice x89 l90 c91), (.int .i64 n92)]
def B_lot_Swaps_0 (W : World) (R : Ending → Hp → Prop) (za0 : Addr) (zp1 : Option Addr) (zp2 : Option Addr) (zl3 : Nat) (zl4 : Nat) (zn5 : Int) (x41 : Option Addr) (l42 : Nat) (c43 : Nat) (n44 : Int) (nx0 : List Value → Hp → Prop) : Hp → Prop :=
  BR (decide (n44 < zn5))
    (L_lot_Swaps_1 W R nx0 za0 zp1 zp2 zl3 zl4 n44 zn5 x41 l42 c43 0)
    (L_lot_Swaps_2 W R x41 l42 c43 za0 (↑zl3 : Int) none 0 0 0)
theorem B_lot_Swaps_0_eq (W : World) (R : Ending → Hp → Prop) (za0 : Addr) (zp1 : Option Addr) (zp2 : Option Addr) (zl3 : Nat) (zl4 : Nat) (zn5 : Int) (x41 : Option Addr) (l42 : Nat) (c43 : Nat) (n44 : Int) (nx0 : List Value → Hp → Prop) (j : Tm) : vc Pg W 111 rs_29 an_29 false (sub (bodyOf Try.f29) [1, 1, 1, 1, 1, 1, 0, 1, 0, 0]) 0 (KLoop [4, 37] [5, 6, 7, 36, 111] [(.pointer (some za0)), (.pointer zp1), (.slice zp2 zl3 zl4), (.int .i64 zn5), (.tuple #[(.func (.func 42) #[] #[]), (.tuple #[(.pointer (some za0))])])] nx0 (KBlk 0 (KS Pg W 111 rs_29 an_29 false (sub (bodyOf Try.f29) [1, 1, 1, 1, 1, 1, 1]) 0 (fin Pg W 111 rv_29 R)))) (known [4, 37] [(.slice x41 l42 c43), (.int .i64 n44)] (known [5, 6, 7, 36, 111] [(.pointer (some za0)), (.pointer zp1), (.slice zp2 zl3 zl4), (.int .i64 zn5), (.tuple #[(.func (.func 42) #[] #[]), (.tuple #[(.pointer (some za0))])])] j)) = B_lot_Swaps_0 W R za0 zp1 zp2 zl3 zl4 zn5 x41 l42 c43 n44 nx0 := by kernel_rfl
def N_lot_Swaps_0 (I : Option Addr → Nat → Nat → Int → Hp → Prop) (μ : Option Addr → Nat → Nat → Int → Hp → Nat) (x410 : Option Addr) (l420 : Nat) (c430 : Nat) (n440 : Int) (s : Hp) (vs : List Value) : Hp → Prop := fun s' => ∃ x41 l42 c43 n44, vs = [(.slice x41 l42 c43), (.int .i64 n44)] ∧ I x41 l42 c43 n44 s' ∧ μ x41 l42 c43 n44 s' < μ x410 l420 c430 n440 s
theorem L_lot_Swaps_0_rule (W : World) (R : Ending → Hp → Prop) (za0 : Addr) (zp1 : Option Addr) (zp2 : Option Addr) (zl3 : Nat) (zl4 : Nat) (zn5 : Int) (I : Option Addr → Nat → Nat → Int → Hp → Prop) (μ : Option Addr → Nat → Nat → Int → Hp → Nat) (x410 : Option Addr) (l420 : Nat) (c430 : Nat) (n440 : Int) (s : Hp) (h0 : I x410 l420 c430 n440 s)
    (hr : ∀ (x41 : Option Addr) (l42 : Nat) (c43 : Nat) (n44 : Int) (s : Hp), I x41 l42 c43 n44 s → B_lot_Swaps_0 W R za0 zp1 zp2 zl3 zl4 zn5 x41 l42 c43 n44 (fun vs => N_lot_Swaps_0 I μ x41 l42 c43 n44 s vs) s) : L_lot_Swaps_0 W R za0 zp1 zp2 zl3 zl4 zn5 x410 l420 c430 n440 s := by
  refine ⟨fun vs s => ∃ x41 l42 c43 n44, vs = [(.slice x41 l42 c43), (.int .i64 n44)] ∧ I x41 l42 c43 n44 s, fun vs s => (match vs with | [.slice x41 l42 c43, .int _ n44] => μ x41 l42 c43 n44 s | _ => 0), ⟨⟨⟨_, _, _, rfl⟩, ⟨⟨_, rfl⟩, trivial⟩⟩, ⟨_, _, _, _, rfl, h0⟩⟩, ?_⟩
  intro x41 l42 c43 n44 s hI j
  obtain ⟨x41', l42', c43', n44', hy, hI⟩ := hI
  have hI' : I x41 l42 c43 n44 s := by cases hy; exact hI
  have hh := hr x41 l42 c43 n44 s hI'
  rw [← B_lot_Swaps_0_eq W R za0 zp1 zp2 zl3 zl4 zn5 x41 l42 c43 n44 _ j] at hh
  refine vc_mono ?_ _ _ hh
  exact KLoop_mono (fun vs s' h => by obtain ⟨x411, l421, c431, n441, rfl, h1, h2⟩ := h; exact ⟨⟨⟨_, _, _, rfl⟩, ⟨⟨_, rfl⟩, trivial⟩⟩, ⟨_, _, _, _, rfl, h1⟩, h2⟩)
def B_lot_Swaps_1 (W : World) (R : Ending → Hp → Prop) (nx0 : List Value → Hp → Prop) (za0 : Addr) (zp1 : Option Addr) (zp2 : Option Addr) (zl3 : Nat) (zl4 : Nat) (zn5 : Int) (zn6 : Int) (x45 : Option Addr) (l46 : Nat) (c47 : Nat) (n48 : Int) (nx1 : List Value → Hp → Prop) : Hp → Prop :=
  BR (decide (n48 < zn5))
    (IXS zp2 zl3 zn5 1 fun a49 =>
      RDI .i64 a49 fun n50 =>
        IXS zp2 zl3 n48 1 fun a51 =>
          RDI .i64 a51 fun n52 =>
            IXS zp2 zl3 n48 1 fun a53 =>
              WR (Addr.add a53 0) (.int .i64 n50) <|
                IXS zp2 zl3 zn5 1 fun a54 =>
                  WR (Addr.add a54 0) (.int .i64 n52) <|
                    CALL Pg W F_lot_lots_wrong [(.pointer zp1), (.slice zp2 zl3 zl4)]
                      (fun v55 => TUP v55 fun q57 => HD q57 fun v58 r59 => TYI .i64 v58 fun n60 =>
                        HD r59 fun v61 r62 => TYI .i64 v61 fun n63 =>
                          HD r62 fun v64 r65 => TYB v64 fun b66 =>
                            NL r65 <|
                              BR (!b66)
                                (NEW 57 [(.int .i64 n48), (.int .i64 zn5)] fun B67 =>
                                  APP Pg 57 2 x45 l46 c47 (some ⟨B67, 0, none⟩) 1 fun x68 l69 c70 =>
                                    IXS zp2 zl3 zn5 1 fun a71 =>
                                      RDI .i64 a71 fun n72 =>
                                        IXS zp2 zl3 n48 1 fun a73 =>
                                          RDI .i64 a73 fun n74 =>
                                            IXS zp2 zl3 n48 1 fun a75 =>
                                              WR (Addr.add a75 0) (.int .i64 n72) <|
                                                IXS zp2 zl3 zn5 1 fun a76 =>
                                                  WR (Addr.add a76 0) (.int .i64 n74) <|
                                                    NX [(.pointer (some za0)), (.pointer zp1), (.slice zp2 zl3 zl4), (.int .i64 zn5), (.int .i64 zn6), (.int .i64 zn5), (.int .i64 zn5), (.tuple #[(.func (.func 42) #[] #[]), (.tuple #[(.pointer (some za0))])])] [(.pointer (some za0)), (.pointer zp1), (.slice zp2 zl3 zl4), (.int .i64 zn5), (.int .i64 zn6), (.int .i64 zn5), (.int .i64 zn5), (.tuple #[(.func (.func 42) #[] #[]), (.tuple #[(.pointer (some za0))])])] (nx1 [(.slice x68 l69 c70), (.int .i64 (IntKind.wrap .i64 (n48 + 1)))]))
                                (IXS zp2 zl3 zn5 1 fun a77 =>
                                  RDI .i64 a77 fun n78 =>
                                    IXS zp2 zl3 n48 1 fun a79 =>
                                      RDI .i64 a79 fun n80 =>
                                        IXS zp2 zl3 n48 1 fun a81 =>
                                          WR (Addr.add a81 0) (.int .i64 n78) <|
                                            IXS zp2 zl3 zn5 1 fun a82 =>
                                              WR (Addr.add a82 0) (.int .i64 n80) <|
                                                NX [(.pointer (some za0)), (.pointer zp1), (.slice zp2 zl3 zl4), (.int .i64 zn5), (.int .i64 zn6), (.int .i64 zn5), (.int .i64 zn5), (.tuple #[(.func (.func 42) #[] #[]), (.tuple #[(.pointer (some za0))])])] [(.pointer (some za0)), (.pointer zp1), (.slice zp2 zl3 zl4), (.int .i64 zn5), (.int .i64 zn6), (.int .i64 zn5), (.int .i64 zn5), (.tuple #[(.func (.func 42) #[] #[]), (.tuple #[(.pointer (some za0))])])] (nx1 [(.slice x45 l46 c47), (.int .i64 (IntKind.wrap .i64 (n48 + 1)))])))
                        (fun e56 => DEF Pg W (.tuple #[(.func (.func 42) #[] #[]), (.tuple #[(.pointer (some za0))])]) (some e56) (RDI .i64 za0 fun n83 =>
                          R (.returned (.tuple #[(.slice x45 l46 c47), (.int .i64 n83)])))))
    (NX [(.pointer (some za0)), (.pointer zp1), (.slice zp2 zl3 zl4), (.int .i64 zn6), (.tuple #[(.func (.func 42) #[] #[]), (.tuple #[(.pointer (some za0))])])] [(.pointer (some za0)), (.pointer zp1), (.slice zp2 zl3 zl4), (.int .i64 zn6), (.tuple #[(.func (.func 42) #[] #[]), (.tuple #[(.pointer (some za0))])])] (nx0 [(.slice x45 l46 c47), (.int .i64 (IntKind.wrap .i64 (zn5 + 1)))]))
theorem B_lot_Swaps_1_eq (W : World) (R : Ending → Hp → Prop) (nx0 : List Value → Hp → Prop) (za0 : Addr) (zp1 : Option Addr) (zp2 : Option Addr) (zl3 : Nat) (zl4 : Nat) (zn5 : Int) (zn6 : Int) (x45 : Option Addr) (l46 : Nat) (c47 : Nat) (n48 : Int) (nx1 : List Value → Hp → Prop) (j : Tm) : vc Pg W 111 rs_29 an_29 false (sub (bodyOf Try.f29) [1, 1, 1, 1, 1, 1, 0, 1, 0, 0, 1, 1, 0, 0, 1, 1, 0, 0]) 2 (KLoop [4, 41] [5, 6, 7, 11, 36, 37, 40, 111] [(.pointer (some za0)), (.pointer zp1), (.slice zp2 zl3 zl4), (.int .i64 zn5), (.int .i64 zn6), (.int .i64 zn5), (.int .i64 zn5), (.tuple #[(.func (.func 42) #[] #[]), (.tuple #[(.pointer (some za0))])])] nx1 (KBlk 2 (KBlk 1 (KS Pg W 111 rs_29 an_29 false (sub (bodyOf Try.f29) [1, 1, 1, 1, 1, 1, 0, 1, 0, 0, 1, 1, 1]) 0 (KLoop [4, 37] [5, 6, 7, 36, 111] [(.pointer (some za0)), (.pointer zp1), (.slice zp2 zl3 zl4), (.int .i64 zn6), (.tuple #[(.func (.func 42) #[] #[]), (.tuple #[(.pointer (some za0))])])] nx0 (KBlk 0 (KS Pg W 111 rs_29 an_29 false (sub (bodyOf Try.f29) [1, 1, 1, 1, 1, 1, 1]) 0 (fin Pg W 111 rv_29 R)))))))) (known [4, 41] [(.slice x45 l46 c47), (.int .i64 n48)] (known [5, 6, 7, 11, 36, 37, 40, 111] [(.pointer (some za0)), (.pointer zp1), (.slice zp2 zl3 zl4), (.int .i64 zn5), (.int .i64 zn6), (.int .i64 zn5), (.int .i64 zn5), (.tuple #[(.func (.func 42) #[] #[]), (.tuple #[(.pointer (some za0))])])] j)) = B_lot_Swaps_1 W R nx0 za0 zp1 zp2 zl3 zl4 zn5 zn6 x45 l46 c47 n48 nx1 := by kernel_rfl
def N_lot_Swaps_1 (I : Option Addr → Nat → Nat → Int → Hp → Prop) (μ : Option Addr → Nat → Nat → Int → Hp → Nat) (x450 : Option Addr) (l460 : Nat) (c470 : Nat) (n480 : Int) (s : Hp) (vs : List Value) : Hp → Prop := fun s' => ∃ x45 l46 c47 n48, vs = [(.slice x45 l46 c47), (.int .i64 n48)] ∧ I x45 l46 c47 n48 s' ∧ μ x45 l46 c47 n48 s' < μ x450 l460 c470 n480 s
theorem L_lot_Swaps_1_rule (W : World) (R : Ending → Hp → Prop) (nx0 : List Value → Hp → Prop) (za0 : Addr) (zp1 : Option Addr) (zp2 : Option Addr) (zl3 : Nat) (zl4 : Nat) (zn5 : Int) (zn6 : Int) (I : Option Addr → Nat → Nat → Int → Hp → Prop) (μ : Option Addr → Nat → Nat → Int → Hp → Nat) (x450 : Option Addr) (l460 : Nat) (c470 : Nat) (n480 : Int) (s : Hp) (h0 : I x450 l460 c470 n480 s)
    (hr : ∀ (x45 : Option Addr) (l46 : Nat) (c47 : Nat) (n48 : Int) (s : Hp), I x45 l46 c47 n48 s → B_lot_Swaps_1 W R nx0 za0 zp1 zp2 zl3 zl4 zn5 zn6 x45 l46 c47 n48 (fun vs => N_lot_Swaps_1 I μ x45 l46 c47 n48 s vs) s) : L_lot_Swaps_1 W R nx0 za0 zp1 zp2 zl3 zl4 zn5 zn6 x450 l460 c470 n480 s := by
  refine ⟨fun vs s => ∃ x45 l46 c47 n48, vs = [(.slice x45 l46 c47), (.int .i64 n48)] ∧ I x45 l46 c47 n48 s, fun vs s => (match vs with | [.slice x45 l46 c47, .int _ n48] => μ x45 l46 c47 n48 s | _ => 0), ⟨⟨⟨_, _, _, rfl⟩, ⟨⟨_, rfl⟩, trivial⟩⟩, ⟨_, _, _, _, rfl, h0⟩⟩, ?_⟩
  intro x45 l46 c47 n48 s hI j
  obtain ⟨x45', l46', c47', n48', hy, hI⟩ := hI
  have hI' : I x45 l46 c47 n48 s := by cases hy; exact hI
  have hh := hr x45 l46 c47 n48 s hI'
  rw [← B_lot_Swaps_1_eq W R nx0 za0 zp1 zp2 zl3 zl4 zn5 zn6 x45 l46 c47 n48 _ j] at hh
  refine vc_mono ?_ _ _ hh
  exact KLoop_mono (fun vs s' h => by obtain ⟨x451, l461, c471, n481, rfl, h1, h2⟩ := h; exact ⟨⟨⟨_, _, _, rfl⟩, ⟨⟨_, rfl⟩, trivial⟩⟩, ⟨_, _, _, _, rfl, h1⟩, h2⟩)
def B_lot_Swaps_2 (W : World) (R : Ending → Hp → Prop) (zp0 : Option Addr) (zl1 : Nat) (zl2 : Nat) (za3 : Addr) (zn4 : Int) (x84 : Option Addr) (l85 : Nat) (c86 : Nat) (n87 : Int) (nx2 : List Value → Hp → Prop) : Hp → Prop :=
  BR (decide (n87 < zn4))
    (L_lot_Swaps_3 W R nx2 zp0 zl1 zl2 za3 n87 zn4 (↑zl1 : Int) x84 l85 c86 0)
    (WR (Addr.add za3 0) (.int .i64 0) <|
      DEF Pg W (.tuple #[(.func (.func 42) #[] #[]), (.tuple #[(.pointer (some za3))])]) none
        (RDI .i64 za3 fun n88 =>
          R (.returned (.tuple #[(.slice x84 l85 c86), (.int .i64 n88)]))))
theorem B_lot_Swaps_2_eq (W : World) (R : Ending → Hp → Prop) (zp0 : Option Addr) (zl1 : Nat) (zl2 : Nat) (za3 : Addr) (zn4 : Int) (x84 : Option Addr) (l85 : Nat) (c86 : Nat) (n87 : Int) (nx2 : List Value → Hp → Prop) (j : Tm) : vc Pg W 111 rs_29 an_29 false (sub (bodyOf Try.f29) [1, 1, 1, 1, 1, 1, 1, 1, 0, 1, 0, 0]) 4 (KLoop [16, 91] [4, 5, 90, 111] [(.slice zp0 zl1 zl2), (.pointer (some za3)), (.int .i64 zn4), (.tuple #[(.func (.func 42) #[] #[]), (.tuple #[(.pointer (some za3))])])] nx2 (KBlk 4 (KS Pg W 111 rs_29 an_29 false (sub (bodyOf Try.f29) [1, 1, 1, 1, 1, 1, 1, 1, 1]) 0 (fin Pg W 111 rv_29 R)))) (known [16, 91] [(.slice x84 l85 c86), (.int .i64 n87)] (known [4, 5, 90, 111] [(.slice zp0 zl1 zl2), (.pointer (some za3)), (.int .i64 zn4), (.tuple #[(.func (.func 42) #[] #[]), (.tuple #[(.pointer (some za3))])])] j)) = B_lot_Swaps_2 W R zp0 zl1 zl2 za3 zn4 x84 l85 c86 n87 nx2 := by kernel_rfl
def N_lot_Swaps_2 (I : Option Addr → Nat → Nat → Int → Hp → Prop) (μ : Option Addr → Nat → Nat → Int → Hp → Nat) (x840 : Option Addr) (l850 : Nat) (c860 : Nat) (n870 : Int) (s : Hp) (vs : List Value) : Hp → Prop := fun s' => ∃ x84 l85 c86 n87, vs = [(.slice x84 l85 c86), (.int .i64 n87)] ∧ I x84 l85 c86 n87 s' ∧ μ x84 l85 c86 n87 s' < μ x840 l850 c860 n870 s
theorem L_lot_Swaps_2_rule (W : World) (R : Ending → Hp → Prop) (zp0 : Option Addr) (zl1 : Nat) (zl2 : Nat) (za3 : Addr) (zn4 : Int) (I : Option Addr → Nat → Nat → Int → Hp → Prop) (μ : Option Addr → Nat → Nat → Int → Hp → Nat) (x840 : Option Addr) (l850 : Nat) (c860 : Nat) (n870 : Int) (s : Hp) (h0 : I x840 l850 c860 n870 s)
    (hr : ∀ (x84 : Option Addr) (l85 : Nat) (c86 : Nat) (n87 : Int) (s : Hp), I x84 l85 c86 n87 s → B_lot_Swaps_2 W R zp0 zl1 zl2 za3 zn4 x84 l85 c86 n87 (fun vs => N_lot_Swaps_2 I μ x84 l85 c86 n87 s vs) s) : L_lot_Swaps_2 W R zp0 zl1 zl2 za3 zn4 x840 l850 c860 n870 s := by
  refine ⟨fun vs s => ∃ x84 l85 c86 n87, vs = [(.slice x84 l85 c86), (.int .i64 n87)] ∧ I x84 l85 c86 n87 s, fun vs s => (match vs with | [.slice x84 l85 c86, .int _ n87] => μ x84 l85 c86 n87 s | _ => 0), ⟨⟨⟨_, _, _, rfl⟩, ⟨⟨_, rfl⟩, trivial⟩⟩, ⟨_, _, _, _, rfl, h0⟩⟩, ?_⟩
  intro x84 l85 c86 n87 s hI j
  obtain ⟨x84', l85', c86', n87', hy, hI⟩ := hI
  have hI' : I x84 l85 c86 n87 s := by cases hy; exact hI
  have hh := hr x84 l85 c86 n87 s hI'
  rw [← B_lot_Swaps_2_eq W R zp0 zl1 zl2 za3 zn4 x84 l85 c86 n87 _ j] at hh
  refine vc_mono ?_ _ _ hh
  exact KLoop_mono (fun vs s' h => by obtain ⟨x841, l851, c861, n871, rfl, h1, h2⟩ := h; exact ⟨⟨⟨_, _, _, rfl⟩, ⟨⟨_, rfl⟩, trivial⟩⟩, ⟨_, _, _, _, rfl, h1⟩, h2⟩)
def B_lot_Swaps_3 (W : World) (R : Ending → Hp → Prop) (nx2 : List Value → Hp → Prop) (zp0 : Option Addr) (zl1 : Nat) (zl2 : Nat) (za3 : Addr) (zn4 : Int) (zn5 : Int) (zn6 : Int) (x89 : Option Addr) (l90 : Nat) (c91 : Nat) (n92 : Int) (nx3 : List Value → Hp → Prop) : Hp → Prop :=
  BR (decide (n92 < zn6))
    (IXS zp0 zl1 n92 2 fun a93 =>
      RDI .i64 (Addr.add a93 0) fun n94 =>
        RDI .i64 (Addr.add a93 1) fun n95 =>
          NEWZ Pg 57 fun B96 =>
            WR (Addr.add ⟨B96, 0, none⟩ 0) (.int .i64 n94) <|
              WR (Addr.add ⟨B96, 0, none⟩ 1) (.int .i64 n95) <|
                IXA ⟨B96, 0, none⟩ 2 0 1 fun a97 =>
                  RDI .i64 a97 fun n98 =>
                    BR (n98 == zn4)
                      (RDI .i64 (Addr.add ⟨B96, 0, none⟩ 0) fun n99 =>
                        RDI .i64 (Addr.add ⟨B96, 0, none⟩ 1) fun n100 =>
                          NEW 57 [(.int .i64 n99), (.int .i64 n100)] fun B101 =>
                            APP Pg 57 2 x89 l90 c91 (some ⟨B101, 0, none⟩) 1 fun x102 l103 c104 =>
                              NX [(.slice zp0 zl1 zl2), (.pointer (some za3)), (.int .i64 zn4), (.int .i64 zn5), (.int .i64 zn4), (.slice zp0 zl1 zl2), (.int .i64 zn6), (.tuple #[(.func (.func 42) #[] #[]), (.tuple #[(.pointer (some za3))])])] [(.slice zp0 zl1 zl2), (.pointer (some za3)), (.int .i64 zn4), (.int .i64 zn5), (.int .i64 zn4), (.slice zp0 zl1 zl2), (.int .i64 zn6), (.tuple #[(.func (.func 42) #[] #[]), (.tuple #[(.pointer (some za3))])])] (nx3 [(.slice x102 l103 c104), (.int .i64 (IntKind.wrap .i64 (n92 + 1)))]))
                      (NX [(.slice zp0 zl1 zl2), (.pointer (some za3)), (.int .i64 zn4), (.int .i64 zn5), (.int .i64 zn4), (.slice zp0 zl1 zl2), (.int .i64 zn6), (.tuple #[(.func (.func 42) #[] #[]), (.tuple #[(.pointer (some za3))])])] [(.slice zp0 zl1 zl2), (.pointer (some za3)), (.int .i64 zn4), (.int .i64 zn5), (.int .i64 zn4), (.slice zp0 zl1 zl2), (.int .i64 zn6), (.tuple #[(.func (.func 42) #[] #[]), (.tuple #[(.pointer (some za3))])])] (nx3 [(.slice x89 l90 c91), (.int .i64 (IntKind.wrap .i64 (n92 + 1)))])))
    (NX [(.slice zp0 zl1 zl2), (.pointer (some za3)), (.int .i64 zn5), (.tuple #[(.func (.func 42) #[] #[]), (.tuple #[(.pointer (some za3))])])] [(.slice zp0 zl1 zl2), (.pointer (some za3)), (.int .i64 zn5), (.tuple #[(.func (.func 42) #[] #[]), (.tuple #[(.pointer (some za3))])])] (nx2 [(.slice x89 l90 c91), (.int .i64 (IntKind.wrap .i64 (zn4 + 1)))]))
theorem B_lot_Swaps_3_eq (W : World) (R : Ending → Hp → Prop) (nx2 : List Value → Hp → Prop) (zp0 : Option Addr) (zl1 : Nat) (zl2 : Nat) (za3 : Addr) (zn4 : Int) (zn5 : Int) (zn6 : Int) (x89 : Option Addr) (l90 : Nat) (c91 : Nat) (n92 : Int) (nx3 : List Value → Hp → Prop) (j : Tm) : vc Pg W 111 rs_29 an_29 false (sub (bodyOf Try.f29) [1, 1, 1, 1, 1, 1, 1, 1, 0, 1, 0, 0, 1, 1, 0, 0, 1, 1, 0, 0]) 6 (KLoop [16, 96] [4, 5, 17, 90, 91, 94, 95, 111] [(.slice zp0 zl1 zl2), (.pointer (some za3)), (.int .i64 zn4), (.int .i64 zn5), (.int .i64 zn4), (.slice zp0 zl1 zl2), (.int .i64 zn6), (.tuple #[(.func (.func 42) #[] #[]), (.tuple #[(.pointer (some za3))])])] nx3 (KBlk 6 (KBlk 5 (KS Pg W 111 rs_29 an_29 false (sub (bodyOf Try.f29) [1, 1, 1, 1, 1, 1, 1, 1, 0, 1, 0, 0, 1, 1, 1]) 4 (KLoop [16, 91] [4, 5, 90, 111] [(.slice zp0 zl1 zl2), (.pointer (some za3)), (.int .i64 zn5), (.tuple #[(.func (.func 42) #[] #[]), (.tuple #[(.pointer (some za3))])])] nx2 (KBlk 4 (KS Pg W 111 rs_29 an_29 false (sub (bodyOf Try.f29) [1, 1, 1, 1, 1, 1, 1, 1, 1]) 0 (fin Pg W 111 rv_29 R)))))))) (known [16, 96] [(.slice x89 l90 c91), (.int .i64 n92)] (known [4, 5, 17, 90, 91, 94, 95, 111] [(.slice zp0 zl1 zl2), (.pointer (some za3)), (.int .i64 zn4), (.int .i64 zn5), (.int .i64 zn4), (.slice zp0 zl1 zl2), (.int .i64 zn6), (.tuple #[(.func (.func 42) #[] #[]), (.tuple #[(.pointer (some za3))])])] j)) = B_lot_Swaps_3 W R nx2 zp0 zl1 zl2 za3 zn4 zn5 zn6 x89 l90 c91 n92 nx3 := by kernel_rfl
def N_lot_Swaps_3 (I : Option Addr → Nat → Nat → Int → Hp → Prop) (μ : Option Addr → Nat → Nat → Int → Hp → Nat) (x890 : Option Addr) (l900 : Nat) (c910 : Nat) (n920 : Int) (s : Hp) (vs : List Value) : Hp → Prop := fun s' => ∃ x89 l90 c91 n92, vs = [(.slice x89 l90 c91), (.int .i64 n92)] ∧ I x89 l90 c91 n92 s' ∧ μ x89 l90 c91 n92 s' < μ x890 l900 c910 n920 s
theorem L_lot_Swaps_3_rule (W : World) (R : Ending → Hp → Prop) (nx2 : List Value → Hp → Prop) (zp0 : Option Addr) (zl1 : Nat) (zl2 : Nat) (za3 : Addr) (zn4 : Int) (zn5 : Int) (zn6 : Int) (I : Option Addr → Nat → Nat → Int → Hp → Prop) (μ : Option Addr → Nat → Nat → Int → Hp → Nat) (x890 : Option Addr) (l900 : Nat) (c910 : Nat) (n920 : Int) (s : Hp) (h0 : I x890 l900 c910 n920 s)
    (hr : ∀ (x89 : Option Addr) (l90 : Nat) (c91 : Nat) (n92 : Int) (s : Hp), I x89 l90 c91 n92 s → B_lot_Swaps_3 W R nx2 zp0 zl1 zl2 za3 zn4 zn5 zn6 x89 l90 c91 n92 (fun vs => N_lot_Swaps_3 I μ x89 l90 c91 n92 s vs) s) : L_lot_Swaps_3 W R nx2 zp0 zl1 zl2 za3 zn4 zn5 zn6 x890 l900 c910 n920 s := by
  refine ⟨fun vs s => ∃ x89 l90 c91 n92, vs = [(.slice x89 l90 c91), (.int .i64 n92)] ∧ I x89 l90 c91 n92 s, fun vs s => (match vs with | [.slice x89 l90 c91, .int _ n92] => μ x89 l90 c91 n92 s | _ => 0), ⟨⟨⟨_, _, _, rfl⟩, ⟨⟨_, rfl⟩, trivial⟩⟩, ⟨_, _, _, _, rfl, h0⟩⟩, ?_⟩
  intro x89 l90 c91 n92 s hI j
  obtain ⟨x89', l90', c91', n92', hy, hI⟩ := hI
  have hI' : I x89 l90 c91 n92 s := by cases hy; exact hI
  have hh := hr x89 l90 c91 n92 s hI'
  rw [← B_lot_Swaps_3_eq W R nx2 zp0 zl1 zl2 za3 zn4 zn5 zn6 x89 l90 c91 n92 _ j] at hh
  refine vc_mono ?_ _ _ hh
  exact KLoop_mono (fun vs s' h => by obtain ⟨x891, l901, c911, n921, rfl, h1, h2⟩ := h; exact ⟨⟨⟨_, _, _, rfl⟩, ⟨⟨_, rfl⟩, trivial⟩⟩, ⟨_, _, _, _, rfl, h1⟩, h2⟩)
def T_lot_Swaps (W : World) (x1 : Option Addr) (l2 : Nat) (c3 : Nat) (n4 : Int) (x5 : Option Addr) (l6 : Nat) (c7 : Nat) (R : Ending → Hp → Prop) : Hp → Prop :=
  NEW 24 [(.slice x1 l2 c3), (.int .i64 n4)] fun B8 =>
    NEWZ Pg 28 fun B9 =>
      RDL (Addr.add ⟨B8, 0, none⟩ 0) fun x10 l11 c12 =>
        RDI .i64 (Addr.add ⟨B8, 0, none⟩ 1) fun n13 =>
          CALL Pg W F_lot_open [(.agg #[(.slice x10 l11 c12), (.int .i64 n13)])]
            (fun v14 => TYP v14 fun p16 =>
              CALL Pg W F_lot_lots_draw [(.pointer p16), (.slice x5 l6 c7)]
                (fun v17 => TYL v17 fun x19 l20 c21 =>
                  CALL Pg W F_lot_lots_wrong [(.pointer p16), (.slice x19 l20 c21)]
                    (fun v22 => TUP v22 fun q24 => HD q24 fun v25 r26 => TYI .i64 v25 fun n27 =>
                      HD r26 fun v28 r29 => TYI .i64 v28 fun n30 =>
                        HD r29 fun v31 r32 => TYB v31 fun b33 =>
                          NL r32 <|
                            CALL Pg W F_lot_must [(.bool (!b33)), (.int .i64 4)]
                              (fun v34 => TUP v34 fun q36 => NL q36 <|
                                L_lot_Swaps_0 W R ⟨B9, 0, none⟩ p16 x19 l20 c21 (↑l20 : Int) none 0 0 0)
                                (fun e35 => DEF Pg W (.tuple #[(.func (.func 42) #[] #[]), (.tuple #[(.pointer (some ⟨B9, 0, none⟩))])]) (some e35) (RDI .i64 ⟨B9, 0, none⟩ fun n37 =>
                                  R (.returned (.tuple #[(.slice none 0 0), (.int .i64 n37)])))))
                      (fun e23 => DEF Pg W (.tuple #[(.func (.func 42) #[] #[]), (.tuple #[(.pointer (some ⟨B9, 0, none⟩))])]) (some e23) (RDI .i64 ⟨B9, 0, none⟩ fun n38 =>
                        R (.returned (.tuple #[(.slice none 0 0), (.int .i64 n38)])))))
                  (fun e18 => DEF Pg W (.tuple #[(.func (.func 42) #[] #[]), (.tuple #[(.pointer (some ⟨B9, 0, none⟩))])]) (some e18) (RDI .i64 ⟨B9, 0, none⟩ fun n39 =>
                    R (.returned (.tuple #[(.slice none 0 0), (.int .i64 n39)])))))
              (fun e15 => DEF Pg W (.tuple #[(.func (.func 42) #[] #[]), (.tuple #[(.pointer (some ⟨B9, 0, none⟩))])]) (some e15) (RDI .i64 ⟨B9, 0, none⟩ fun n40 =>
                R (.returned (.tuple #[(.slice none 0 0), (.int .i64 n40)]))))
theorem T_lot_Swaps_eq (W : World) (x1 : Option Addr) (l2 : Nat) (c3 : Nat) (n4 : Int) (x5 : Option Addr) (l6 : Nat) (c7 : Nat) (R : Ending → Hp → Prop) : vfun Pg W an_29 Try.f29 [(.agg #[(.slice x1 l2 c3), (.int .i64 n4)]), (.slice x5 l6 c7)] R = T_lot_Swaps W x1 l2 c3 n4 x5 l6 c7 R := by kernel_rfl
theorem does_lot_Swaps (W : World) (x1 : Option Addr) (l2 : Nat) (c3 : Nat) (n4 : Int) (x5 : Option Addr) (l6 : Nat) (c7 : Nat) (R : Ending → Hp → Prop) (s : Hp) (h : T_lot_Swaps W x1 l2 c3 n4 x5 l6 c7 R s) : Does Pg W F_lot_Swaps #[(.agg #[(.slice x1 l2 c3), (.int .i64 n4)]), (.slice x5 l6 c7)] s R :=
  does_of_vfun Pg W an_29 Try.func29 rfl (by kernel_rfl) (by rw [T_lot_Swaps_eq]; exact h)
def an_31 : Nat → Ann := fun b => match b with
  | 0 => { ms := [3, 8, 9], ks := [.l, .i .u64, .i .i64], us := [2, 4, 7, 41], rt := false, ex := [] }
  | _ => {}
abbrev rv_31 : List ResultVar := [.tmp 2, .tmp 3, .cell 4 28]
abbrev rs_31 : List Nat := [41, 2, 3, 4]
def L_lot_Least_0 (W : World) (R : Ending → Hp → Prop) (zn0 : Int) (za1 : Addr) (za2 : Addr) (x34 : Option Addr) (l35 : Nat) (c36 : Nat) (n37 : Int) (n38 : Int) : Hp → Prop :=
  LOOPN [.l, .i .u64, .i .i64] (fun ys next s => ∀ j : Tm, vc Pg W 41 rs_31 an_31 false (sub (bodyOf Try.f31) [1, 1, 1, 1, 1, 1, 1, 1, 0, 0, 0]) 0 (KLoop [3, 8, 9] [2, 4, 7, 41] [(.int .i64 zn0), (.pointer (some za1)), (.pointer (some za2)), (.tuple #[(.func (.func 42) #[] #[]), (.tuple #[(.pointer (some za1))])])] next (KBlk 0 (KS Pg W 41 rs_31 an_31 false (sub (bodyOf Try.f31) [1, 1, 1, 1, 1, 1, 1, 1, 1]) 0 (fin Pg W 41 rv_31 R)))) (known [3, 8, 9] ys (known [2, 4, 7, 41] [(.int .i64 zn0), (.pointer (some za1)), (.pointer (some za2)), (.tuple #[(.func (.func 42) #[] #[]), (.tuple #[(.pointer (some za1))])])] j)) s) [(.slice x34 l35 c36), (.int .u64 n37), (.int .i64 n38)]
def B_lot_Least_0 (W : World) (R : Ending → Hp → Prop) (zn0 : Int) (za1 : Addr) (za2 : Addr) (x34 : Option Addr) (l35 : Nat) (c36 : Nat) (n37 : Int) (n38 : Int) (nx0 : List Value → Hp → Prop) : Hp → Prop :=
  BR (n37 != 0)
    (RDV za2 fun v39 =>
      CALLV Pg W v39 [(.int .u64 n37), (.int .i64 n38)]
        (fun v40 => TUP v40 fun q42 => HD q42 fun v43 r44 => TYI .i64 v43 fun n45 =>
          HD r44 fun v46 r47 => TYI .i64 v46 fun n48 =>
            NL r47 <|
              NEW 3 [(.int .i64 n48)] fun B49 =>
                APP Pg 3 1 x34 l35 c36 (some ⟨B49, 0, none⟩) 1 fun x50 l51 c52 =>
                  NNI n48 <|
                    NX [(.int .i64 zn0), (.pointer (some za1)), (.pointer (some za2)), (.tuple #[(.func (.func 42) #[] #[]), (.tuple #[(.pointer (some za1))])])] [(.int .i64 zn0), (.pointer (some za1)), (.pointer (some za2)), (.tuple #[(.func (.func 42) #[] #[]), (.tuple #[(.pointer (some za1))])])] (nx0 [(.slice x50 l51 c52), (.int .u64 (andnv .u64 n37 (shlv .u64 1 n48))), (.int .i64 n48)]))
          (fun e41 => DEF Pg W (.tuple #[(.func (.func 42) #[] #[]), (.tuple #[(.pointer (some za1))])]) (some e41) (RDI .i64 za1 fun n53 =>
            R (.returned (.tuple #[(.int .i64 zn0), (.slice x34 l35 c36), (.int .i64 n53)])))))
    (WR (Addr.add za1 0) (.int .i64 0) <|
      DEF Pg W (.tuple #[(.func (.func 42) #[] #[]), (.tuple #[(.pointer (some za1))])]) none
        (RDI .i64 za1 fun n54 =>
          R (.returned (.tuple #[(.int .i64 zn0), (.slice x34 l35 c36), (.int .i64 n54)]))))
theorem B_lot_Least_0_eq (W : World) (R : Ending → Hp → Prop) (zn0 : Int) (za1 : Addr) (za2 : Addr) (x34 : Option Addr) (l35 : Nat) (c36 : Nat) (n37 : Int) (n38 : Int) (nx0 : List Value → Hp → Prop) (j : Tm) : vc Pg W 41 rs_31 an_31 false (sub (bodyOf Try.f31) [1, 1, 1, 1, 1, 1, 1, 1, 0, 0, 0]) 0 (KLoop [3, 8, 9] [2, 4, 7, 41] [(.int .i64 zn0), (.pointer (some za1)), (.pointer (some za2)), (.tuple #[(.func (.func 42) #[] #[]), (.tuple #[(.pointer (some za1))])])] nx0 (KBlk 0 (KS Pg W 41 rs_31 an_31 false (sub (bodyOf Try.f31) [1, 1, 1, 1, 1, 1, 1, 1, 1]) 0 (fin Pg W 41 rv_31 R)))) (known [3, 8, 9] [(.slice x34 l35 c36), (.int .u64 n37), (.int .i64 n38)] (known [2, 4, 7, 41] [(.int .i64 zn0), (.pointer (some za1)), (.pointer (some za2)), (.tuple #[(.func (.func 42) #[] #[]), (.tuple #[(.pointer (some za1))])])] j)) = B_lot_Least_0 W R zn0 za1 za2 x34 l35 c36 n37 n38 nx0 := by kernel_rfl
def N_lot_Least_0 (I : Option Addr → Nat → Nat → Int → Int → Hp → Prop) (μ : Option Addr → Nat → Nat → Int → Int → Hp → Nat) (x340 : Option Addr) (l350 : Nat) (c360 : Nat) (n370 : Int) (n380 : Int) (s : Hp) (vs : List Value) : Hp → Prop := fun s' => ∃ x34 l35 c36 n37 n38, vs = [(.slice x34 l35 c36), (.int .u64 n37), (.int .i64 n38)] ∧ I x34 l35 c36 n37 n38 s' ∧ μ x34 l35 c36 n37 n38 s' < μ x340 l350 c360 n370 n380 s
theorem L_lot_Least_0_rule (W : World) (R : Ending → Hp → Prop) (zn0 : Int) (za1 : Addr) (za2 : Addr) (I : Option Addr → Nat → Nat → Int → Int → Hp → Prop) (μ : Option Addr → Nat → Nat → Int → Int → Hp → Nat) (x340 : Option Addr) (l350 : Nat) (c360 : Nat) (n370 : Int) (n380 : Int) (s : Hp) (h0 : I x340 l350 c360 n370 n380 s)
    (hr : ∀ (x34 : Option Addr) (l35 : Nat) (c36 : Nat) (n37 : Int) (n38 : Int) (s : Hp), I x34 l35 c36 n37 n38 s → B_lot_Least_0 W R zn0 za1 za2 x34 l35 c36 n37 n38 (fun vs => N_lot_Least_0 I μ x34 l35 c36 n37 n38 s vs) s) : L_lot_Least_0 W R zn0 za1 za2 x340 l350 c360 n370 n380 s := by
  refine ⟨fun vs s => ∃ x34 l35 c36 n37 n38, vs = [(.slice x34 l35 c36), (.int .u64 n37), (.int .i64 n38)] ∧ I x34 l35 c36 n37 n38 s, fun vs s => (match vs with | [.slice x34 l35 c36, .int _ n37, .int _ n38] => μ x34 l35 c36 n37 n38 s | _ => 0), ⟨⟨⟨_, _, _, rfl⟩, ⟨⟨_, rfl⟩, ⟨⟨_, rfl⟩, trivial⟩⟩⟩, ⟨_, _, _, _, _, rfl, h0⟩⟩, ?_⟩
  intro x34 l35 c36 n37 n38 s hI j
  obtain ⟨x34', l35', c36', n37', n38', hy, hI⟩ := hI
  have hI' : I x34 l35 c36 n37 n38 s := by cases hy; exact hI
  have hh := hr x34 l35 c36 n37 n38 s hI'
  rw [← B_lot_Least_0_eq W R zn0 za1 za2 x34 l35 c36 n37 n38 _ j] at hh
  refine vc_mono ?_ _ _ hh
  exact KLoop_mono (fun vs s' h => by obtain ⟨x341, l351, c361, n371, n381, rfl, h1, h2⟩ := h; exact ⟨⟨⟨_, _, _, rfl⟩, ⟨⟨_, rfl⟩, ⟨⟨_, rfl⟩, trivial⟩⟩⟩, ⟨_, _, _, _, _, rfl, h1⟩, h2⟩)
def T_lot_Least (W : World) (x1 : Option Addr) (l2 : Nat) (c3 : Nat) (n4 : Int) (R : Ending → Hp → Prop) : Hp → Prop :=
  NEW 24 [(.slice x1 l2 c3), (.int .i64 n4)] fun B5 =>
    NEWZ Pg 28 fun B6 =>
      RDL (Addr.add ⟨B5, 0, none⟩ 0) fun x7 l8 c9 =>
        RDI .i64 (Addr.add ⟨B5, 0, none⟩ 1) fun n10 =>
          CALL Pg W F_lot_open [(.agg #[(.slice x7 l8 c9), (.int .i64 n10)])]
            (fun v11 => TYP v11 fun p13 =>
              NEWZ Pg 63 fun B14 =>
                WR (Addr.add ⟨B14, 0, none⟩ 0) (.pointer p13) <|
                  NEWZ Pg 95 fun B15 =>
                    NEWZ Pg 96 fun B16 =>
                      WR (Addr.add ⟨B16, 0, none⟩ 0) (.func (.func 71) #[] #[(.pointer (some ⟨B15, 0, none⟩)), (.pointer (some ⟨B14, 0, none⟩)), (.pointer (some ⟨B16, 0, none⟩))]) <|
                        RDP ⟨B14, 0, none⟩ fun p17 =>
                          CALL Pg W F_lot_lots_all [(.pointer p17)]
                            (fun v18 => TYI .u64 v18 fun n20 =>
                              RDV ⟨B16, 0, none⟩ fun v21 =>
                                CALLV Pg W v21 [(.int .u64 n20), (.int .i64 8)]
                                  (fun v22 => TUP v22 fun q24 => HD q24 fun v25 r26 => TYI .i64 v25 fun n27 =>
                                    HD r26 fun v28 r29 => TYI .i64 v28 fun n30 =>
                                      NL r29 <|
                                        L_lot_Least_0 W R n27 ⟨B6, 0, none⟩ ⟨B16, 0, none⟩ none 0 0 n20 8)
                                    (fun e23 => DEF Pg W (.tuple #[(.func (.func 42) #[] #[]), (.tuple #[(.pointer (some ⟨B6, 0, none⟩))])]) (some e23) (RDI .i64 ⟨B6, 0, none⟩ fun n31 =>
                                      R (.returned (.tuple #[(.int .i64 0), (.slice none 0 0), (.int .i64 n31)])))))
                              (fun e19 => DEF Pg W (.tuple #[(.func (.func 42) #[] #[]), (.tuple #[(.pointer (some ⟨B6, 0, none⟩))])]) (some e19) (RDI .i64 ⟨B6, 0, none⟩ fun n32 =>
                                R (.returned (.tuple #[(.int .i64 0), (.slice none 0 0), (.int .i64 n32)])))))
              (fun e12 => DEF Pg W (.tuple #[(.func (.func 42) #[] #[]), (.tuple #[(.pointer (some ⟨B6, 0, none⟩))])]) (some e12) (RDI .i64 ⟨B6, 0, none⟩ fun n33 =>
                R (.returned (.tuple #[(.int .i64 0), (.slice none 0 0), (.int .i64 n33)]))))
theorem T_lot_Least_eq (W : World) (x1 : Option Addr) (l2 : Nat) (c3 : Nat) (n4 : Int) (R : Ending → Hp → Prop) : vfun Pg W an_31 Try.f31 [(.agg #[(.slice x1 l2 c3), (.int .i64 n4)])] R = T_lot_Least W x1 l2 c3 n4 R := by kernel_rfl
theorem does_lot_Least (W : World) (x1 : Option Addr) (l2 : Nat) (c3 : Nat) (n4 : Int) (R : Ending → Hp → Prop) (s : Hp) (h : T_lot_Least W x1 l2 c3 n4 R s) : Does Pg W F_lot_Least #[(.agg #[(.slice x1 l2 c3), (.int .i64 n4)])] s R :=
  does_of_vfun Pg W an_31 Try.func31 rfl (by kernel_rfl) (by rw [T_lot_Least_eq]; exact h)
def an_40 : Nat → Ann := fun b => match b with
  | _ => {}
abbrev rv_40 : List ResultVar := [.cell 0 24]
abbrev rs_40 : List Nat := [7, 0]
def T_law03_sample (W : World) (R : Ending → Hp → Prop) : Hp → Prop :=
  NEWZ Pg 24 fun B1 =>
    NEW 51 [(.int .i64 1), (.bool false), (.bool false), (.int .i64 1), (.bool true), (.bool false), (.int .i64 2), (.bool false), (.bool false), (.int .i64 0), (.bool false), (.bool true)] fun B2 =>
      WR (Addr.add ⟨B1, 0, none⟩ 0) (.slice (some ⟨B2, 0, none⟩) 4 4) <|
        WR (Addr.add ⟨B1, 0, none⟩ 1) (.int .i64 2) <|
          RDL (Addr.add ⟨B1, 0, none⟩ 0) fun x3 l4 c5 =>
            RDI .i64 (Addr.add ⟨B1, 0, none⟩ 1) fun n6 =>
              R (.returned (.agg #[(.slice x3 l4 c5), (.int .i64 n6)]))
theorem T_law03_sample_eq (W : World) (R : Ending → Hp → Prop) : vfun Pg W an_40 Try.f40 [] R = T_law03_sample W R := by kernel_rfl
theorem does_law03_sample (W : World) (R : Ending → Hp → Prop) (s : Hp) (h : T_law03_sample W R s) : Does Pg W F_law03_sample #[] s R :=
  does_of_vfun Pg W an_40 Try.func40 rfl (by kernel_rfl) (by rw [T_law03_sample_eq]; exact h)
def an_41 : Nat → Ann := fun b => match b with
  | _ => {}
abbrev rv_41 : List ResultVar := [.cell 0 24]
abbrev rs_41 : List Nat := [6, 0]
def T_law03_lefts (W : World) (R : Ending → Hp → Prop) : Hp → Prop :=
  NEWZ Pg 24 fun B1 =>
    NEW 51 [(.int .i64 0), (.bool true), (.bool false), (.int .i64 0), (.bool true), (.bool false), (.int .i64 0), (.bool true), (.bool false)] fun B2 =>
      WR (Addr.add ⟨B1, 0, none⟩ 0) (.slice (some ⟨B2, 0, none⟩) 3 3) <|
        WR (Addr.add ⟨B1, 0, none⟩ 1) (.int .i64 0) <|
          RDL (Addr.add ⟨B1, 0, none⟩ 0) fun x3 l4 c5 =>
            RDI .i64 (Addr.add ⟨B1, 0, none⟩ 1) fun n6 =>
              R (.returned (.agg #[(.slice x3 l4 c5), (.int .i64 n6)]))
theorem T_law03_lefts_eq (W : World) (R : Ending → Hp → Prop) : vfun Pg W an_41 Try.f41 [] R = T_law03_lefts W R := by kernel_rfl
theorem does_law03_lefts (W : World) (R : Ending → Hp → Prop) (s : Hp) (h : T_law03_lefts W R s) : Does Pg W F_law03_lefts #[] s R :=
  does_of_vfun Pg W an_41 Try.func41 rfl (by kernel_rfl) (by rw [T_law03_lefts_eq]; exact h)
def an_43 : Nat → Ann := fun b => match b with
  | 0 => { ms := [26], ks := [.i .i64], us := [2, 3, 24, 25, 36], rt := false, ex := [] }
  | _ => {}
abbrev rv_43 : List ResultVar := [.tmp 2]
abbrev rs_43 : List Nat := [36, 2]
def L_lot_open_0 (W : World) (R : Ending → Hp → Prop) (za0 : Addr) (zp1 : Option Addr) (zl2 : Nat) (zl3 : Nat) (zn4 : Int) (n47 : Int) : Hp → Prop :=
  LOOPN [.i .i64] (fun ys next s => ∀ j : Tm, vc Pg W 36 rs_43 an_43 false (sub (bodyOf Try.f43) [1, 1, 1, 0, 1, 0, 0]) 0 (KLoop [26] [2, 3, 24, 25, 36] [(.pointer none), (.pointer (some za0)), (.slice zp1 zl2 zl3), (.int .i64 zn4), (.tuple #[])] next (KBlk 0 (KS Pg W 36 rs_43 an_43 false (sub (bodyOf Try.f43) [1, 1, 1, 1]) 0 (fin Pg W 36 rv_43 R)))) (known [26] ys (known [2, 3, 24, 25, 36] [(.pointer none), (.pointer (some za0)), (.slice zp1 zl2 zl3), (.int .i64 zn4), (.tuple #[])] j)) s) [(.int .i64 n47)]
def B_lot_open_0 (W : World) (R : Ending → Hp → Prop) (za0 : Addr) (zp1 : Option Addr) (zl2 : Nat) (zl3 : Nat) (zn4 : Int) (n47 : Int) (nx0 : List Value → Hp → Prop) : Hp → Prop :=
  BR (decide (n47 < zn4))
    (IXS zp1 zl2 n47 3 fun a48 =>
      RDI .i64 (Addr.add a48 0) fun n49 =>
        RDB (Addr.add a48 1) fun b50 =>
          RDB (Addr.add a48 2) fun b51 =>
            NEWZ Pg 51 fun B52 =>
              WR (Addr.add ⟨B52, 0, none⟩ 0) (.int .i64 n49) <|
                WR (Addr.add ⟨B52, 0, none⟩ 1) (.bool b50) <|
                  WR (Addr.add ⟨B52, 0, none⟩ 2) (.bool b51) <|
                    RDI .i64 (Addr.add ⟨B52, 0, none⟩ 0) fun n53 =>
                      CALL Pg W F_lot_within [(.int .i64 n53), (.int .i64 0), (.int .i64 9)]
                        (fun v54 => TYB v54 fun b56 =>
                          CALL Pg W F_lot_must [(.bool b56), (.int .i64 1)]
                            (fun v57 => TUP v57 fun q59 => NL q59 <|
                              NX [(.pointer none), (.pointer (some za0)), (.slice zp1 zl2 zl3), (.int .i64 zn4), (.tuple #[])] [(.pointer none), (.pointer (some za0)), (.slice zp1 zl2 zl3), (.int .i64 zn4), (.tuple #[])] (nx0 [(.int .i64 (IntKind.wrap .i64 (n47 + 1)))]))
                              (fun e58 => R (.panicked e58)))
                          (fun e55 => R (.panicked e55)))
    (R (.returned (.pointer (some za0))))
theorem B_lot_open_0_eq (W : World) (R : Ending → Hp → Prop) (za0 : Addr) (zp1 : Option Addr) (zl2 : Nat) (zl3 : Nat) (zn4 : Int) (n47 : Int) (nx0 : List Value → Hp → Prop) (j : Tm) : vc Pg W 36 rs_43 an_43 false (sub (bodyOf Try.f43) [1, 1, 1, 0, 1, 0, 0]) 0 (KLoop [26] [2, 3, 24, 25, 36] [(.pointer none), (.pointer (some za0)), (.slice zp1 zl2 zl3), (.int .i64 zn4), (.tuple #[])] nx0 (KBlk 0 (KS Pg W 36 rs_43 an_43 false (sub (bodyOf Try.f43) [1, 1, 1, 1]) 0 (fin Pg W 36 rv_43 R)))) (known [26] [(.int .i64 n47)] (known [2, 3, 24, 25, 36] [(.pointer none), (.pointer (some za0)), (.slice zp1 zl2 zl3), (.int .i64 zn4), (.tuple #[])] j)) = B_lot_open_0 W R za0 zp1 zl2 zl3 zn4 n47 nx0 := by kernel_rfl
def N_lot_open_0 (I : Int → Hp → Prop) (μ : Int → Hp → Nat) (n470 : Int) (s : Hp) (vs : List Value) : Hp → Prop := fun s' => ∃ n47, vs = [(.int .i64 n47)] ∧ I n47 s' ∧ μ n47 s' < μ n470 s
theorem L_lot_open_0_rule (W : World) (R : Ending → Hp → Prop) (za0 : Addr) (zp1 : Option Addr) (zl2 : Nat) (zl3 : Nat) (zn4 : Int) (I : Int → Hp → Prop) (μ : Int → Hp → Nat) (n470 : Int) (s : Hp) (h0 : I n470 s)
    (hr : ∀ (n47 : Int) (s : Hp), I n47 s → B_lot_open_0 W R za0 zp1 zl2 zl3 zn4 n47 (fun vs => N_lot_open_0 I μ n47 s vs) s) : L_lot_open_0 W R za0 zp1 zl2 zl3 zn4 n470 s := by
  refine ⟨fun vs s => ∃ n47, vs = [(.int .i64 n47)] ∧ I n47 s, fun vs s => (match vs with | [.int _ n47] => μ n47 s | _ => 0), ⟨⟨⟨_, rfl⟩, trivial⟩, ⟨_, rfl, h0⟩⟩, ?_⟩
  intro n47 s hI j
  obtain ⟨n47', hy, hI⟩ := hI
  have hI' : I n47 s := by cases hy; exact hI
  have hh := hr n47 s hI'
  rw [← B_lot_open_0_eq W R za0 zp1 zl2 zl3 zn4 n47 _ j] at hh
  refine vc_mono ?_ _ _ hh
  exact KLoop_mono (fun vs s' h => by obtain ⟨n471, rfl, h1, h2⟩ := h; exact ⟨⟨⟨_, rfl⟩, trivial⟩, ⟨_, rfl, h1⟩, h2⟩)
def T_lot_open (W : World) (x1 : Option Addr) (l2 : Nat) (c3 : Nat) (n4 : Int) (R : Ending → Hp → Prop) : Hp → Prop :=
  NEW 24 [(.slice x1 l2 c3), (.int .i64 n4)] fun B5 =>
    RDL (Addr.add ⟨B5, 0, none⟩ 0) fun x6 l7 c8 =>
      RDI .i64 (Addr.add ⟨B5, 0, none⟩ 1) fun n9 =>
        CALL Pg W F_lot_rules []
          (fun v10 => TYL v10 fun x12 l13 c14 =>
            ANDS (RDL (Addr.add ⟨B5, 0, none⟩ 0) fun x15 l16 c17 =>
              RDI .i64 (Addr.add ⟨B5, 0, none⟩ 1) fun n18 =>
                fun _ => ((.agg #[(.slice x15 l16 c17), (.int .i64 n18)]) : Value) = (.agg #[(.slice x6 l7 c8), (.int .i64 n9)])) <|
              NEW 109 [(.slice x6 l7 c8), (.int .i64 n9), (.slice x12 l13 c14)] fun B19 =>
                CALL Pg W F_lot_lots_plots [(.pointer (some ⟨B19, 0, none⟩))]
                  (fun v20 => TYI .i64 v20 fun n22 =>
                    CALL Pg W F_lot_within [(.int .i64 n22), (.int .i64 1), (.int .i64 8)]
                      (fun v23 => TYB v23 fun b25 =>
                        BR b25
                          (RDI .i64 (Addr.add ⟨B5, 0, none⟩ 1) fun n26 =>
                            CALL Pg W F_lot_lots_plots [(.pointer (some ⟨B19, 0, none⟩))]
                              (fun v27 => TYI .i64 v27 fun n29 =>
                                ANDS (RDI .i64 (Addr.add ⟨B5, 0, none⟩ 1) fun n31 =>
                                  fun _ => ((.int .i64 n31) : Value) = (.int .i64 n26)) <|
                                  NNI n29 <|
                                    CALL Pg W F_lot_within [(.int .i64 n26), (.int .i64 0), (.int .i64 (IntKind.wrap .i64 ((shlv .i64 1 n29) - 1)))]
                                      (fun v32 => TYB v32 fun b34 =>
                                        CALL Pg W F_lot_must [(.bool b34), (.int .i64 1)]
                                          (fun v35 => TUP v35 fun q37 => NL q37 <|
                                            RDL (Addr.add ⟨B5, 0, none⟩ 0) fun x38 l39 c40 =>
                                              L_lot_open_0 W R ⟨B19, 0, none⟩ x38 l39 c40 (↑l39 : Int) 0)
                                            (fun e36 => R (.panicked e36)))
                                        (fun e33 => R (.panicked e33)))
                                (fun e28 => R (.panicked e28)))
                          (CALL Pg W F_lot_must [(.bool false), (.int .i64 1)]
                            (fun v41 => TUP v41 fun q43 => NL q43 <|
                              RDL (Addr.add ⟨B5, 0, none⟩ 0) fun x44 l45 c46 =>
                                L_lot_open_0 W R ⟨B19, 0, none⟩ x44 l45 c46 (↑l45 : Int) 0)
                              (fun e42 => R (.panicked e42))))
                        (fun e24 => R (.panicked e24)))
                    (fun e21 => R (.panicked e21)))
            (fun e11 => R (.panicked e11))
theorem T_lot_open_eq (W : World) (x1 : Option Addr) (l2 : Nat) (c3 : Nat) (n4 : Int) (R : Ending → Hp → Prop) : vfun Pg W an_43 Try.f43 [(.agg #[(.slice x1 l2 c3), (.int .i64 n4)])] R = T_lot_open W x1 l2 c3 n4 R := by kernel_rfl
theorem does_lot_open (W : World) (x1 : Option Addr) (l2 : Nat) (c3 : Nat) (n4 : Int) (R : Ending → Hp → Prop) (s : Hp) (h : T_lot_open W x1 l2 c3 n4 R s) : Does Pg W F_lot_open #[(.agg #[(.slice x1 l2 c3), (.int .i64 n4)])] s R :=
  does_of_vfun Pg W an_43 Try.func43 rfl (by kernel_rfl) (by rw [T_lot_open_eq]; exact h)
def an_44 : Nat → Ann := fun b => match b with
  | 0 => { ms := [4, 5, 6, 7, 14], ks := [.i .i64, .i .i64, .b, .i .i64, .i .i64], us := [0, 12, 13, 33], rt := false, ex := [] }
  | _ => {}
abbrev rv_44 : List ResultVar := [.tmp 4, .tmp 5, .tmp 6]
abbrev rs_44 : List Nat := [33, 4, 5, 6]
def L_lot_lots_wrong_0 (W : World) (R : Ending → Hp → Prop) (zp0 : Option Addr) (zp1 : Option Addr) (zl2 : Nat) (zl3 : Nat) (zn4 : Int) (n5 : Int) (n6 : Int) (b7 : Bool) (n8 : Int) (n9 : Int) : Hp → Prop :=
  LOOPN [.i .i64, .i .i64, .b, .i .i64, .i .i64] (fun ys next s => ∀ j : Tm, vc Pg W 33 rs_44 an_44 false (sub (bodyOf Try.f44) [1, 1, 0, 1, 0, 0]) 0 (KLoop [4, 5, 6, 7, 14] [0, 12, 13, 33] [(.pointer zp0), (.slice zp1 zl2 zl3), (.int .i64 zn4), (.tuple #[])] next (KBlk 0 (KS Pg W 33 rs_44 an_44 false (sub (bodyOf Try.f44) [1, 1, 1]) 0 (fin Pg W 33 rv_44 R)))) (known [4, 5, 6, 7, 14] ys (known [0, 12, 13, 33] [(.pointer zp0), (.slice zp1 zl2 zl3), (.int .i64 zn4), (.tuple #[])] j)) s) [(.int .i64 n5), (.int .i64 n6), (.bool b7), (.int .i64 n8), (.int .i64 n9)]
def B_lot_lots_wrong_0 (W : World) (R : Ending → Hp → Prop) (zp0 : Option Addr) (zp1 : Option Addr) (zl2 : Nat) (zl3 : Nat) (zn4 : Int) (n5 : Int) (n6 : Int) (b7 : Bool) (n8 : Int) (n9 : Int) (nx0 : List Value → Hp → Prop) : Hp → Prop :=
  BR (decide (n9 < zn4))
    (IXS zp1 zl2 n9 1 fun a10 =>
      RDI .i64 a10 fun n11 =>
        CALL Pg W F_lot_lots_broken [(.pointer zp0), (.int .i64 n9), (.int .i64 n11), (.int .i64 n8)]
          (fun v12 => TUP v12 fun q14 => HD q14 fun v15 r16 => TYI .i64 v15 fun n17 =>
            HD r16 fun v18 r19 => TYI .i64 v18 fun n20 =>
              NL r19 <|
                BR (n20 != 0)
                  (R (.returned (.tuple #[(.int .i64 n9), (.int .i64 n20), (.bool true)])))
                  (NX [(.pointer zp0), (.slice zp1 zl2 zl3), (.int .i64 zn4), (.tuple #[])] [(.pointer zp0), (.slice zp1 zl2 zl3), (.int .i64 zn4), (.tuple #[])] (nx0 [(.int .i64 n5), (.int .i64 n6), (.bool b7), (.int .i64 n11), (.int .i64 (IntKind.wrap .i64 (n9 + 1)))])))
            (fun e13 => R (.panicked e13)))
    (R (.returned (.tuple #[(.int .i64 0), (.int .i64 0), (.bool false)])))
theorem B_lot_lots_wrong_0_eq (W : World) (R : Ending → Hp → Prop) (zp0 : Option Addr) (zp1 : Option Addr) (zl2 : Nat) (zl3 : Nat) (zn4 : Int) (n5 : Int) (n6 : Int) (b7 : Bool) (n8 : Int) (n9 : Int) (nx0 : List Value → Hp → Prop) (j : Tm) : vc Pg W 33 rs_44 an_44 false (sub (bodyOf Try.f44) [1, 1, 0, 1, 0, 0]) 0 (KLoop [4, 5, 6, 7, 14] [0, 12, 13, 33] [(.pointer zp0), (.slice zp1 zl2 zl3), (.int .i64 zn4), (.tuple #[])] nx0 (KBlk 0 (KS Pg W 33 rs_44 an_44 false (sub (bodyOf Try.f44) [1, 1, 1]) 0 (fin Pg W 33 rv_44 R)))) (known [4, 5, 6, 7, 14] [(.int .i64 n5), (.int .i64 n6), (.bool b7), (.int .i64 n8), (.int .i64 n9)] (known [0, 12, 13, 33] [(.pointer zp0), (.slice zp1 zl2 zl3), (.int .i64 zn4), (.tuple #[])] j)) = B_lot_lots_wrong_0 W R zp0 zp1 zl2 zl3 zn4 n5 n6 b7 n8 n9 nx0 := by kernel_rfl
def N_lot_lots_wrong_0 (I : Int → Int → Bool → Int → Int → Hp → Prop) (μ : Int → Int → Bool → Int → Int → Hp → Nat) (n50 : Int) (n60 : Int) (b70 : Bool) (n80 : Int) (n90 : Int) (s : Hp) (vs : List Value) : Hp → Prop := fun s' => ∃ n5 n6 b7 n8 n9, vs = [(.int .i64 n5), (.int .i64 n6), (.bool b7), (.int .i64 n8), (.int .i64 n9)] ∧ I n5 n6 b7 n8 n9 s' ∧ μ n5 n6 b7 n8 n9 s' < μ n50 n60 b70 n80 n90 s
theorem L_lot_lots_wrong_0_rule (W : World) (R : Ending → Hp → Prop) (zp0 : Option Addr) (zp1 : Option Addr) (zl2 : Nat) (zl3 : Nat) (zn4 : Int) (I : Int → Int → Bool → Int → Int → Hp → Prop) (μ : Int → Int → Bool → Int → Int → Hp → Nat) (n50 : Int) (n60 : Int) (b70 : Bool) (n80 : Int) (n90 : Int) (s : Hp) (h0 : I n50 n60 b70 n80 n90 s)
    (hr : ∀ (n5 : Int) (n6 : Int) (b7 : Bool) (n8 : Int) (n9 : Int) (s : Hp), I n5 n6 b7 n8 n9 s → B_lot_lots_wrong_0 W R zp0 zp1 zl2 zl3 zn4 n5 n6 b7 n8 n9 (fun vs => N_lot_lots_wrong_0 I μ n5 n6 b7 n8 n9 s vs) s) : L_lot_lots_wrong_0 W R zp0 zp1 zl2 zl3 zn4 n50 n60 b70 n80 n90 s := by
  refine ⟨fun vs s => ∃ n5 n6 b7 n8 n9, vs = [(.int .i64 n5), (.int .i64 n6), (.bool b7), (.int .i64 n8), (.int .i64 n9)] ∧ I n5 n6 b7 n8 n9 s, fun vs s => (match vs with | [.int _ n5, .int _ n6, .bool b7, .int _ n8, .int _ n9] => μ n5 n6 b7 n8 n9 s | _ => 0), ⟨⟨⟨_, rfl⟩, ⟨⟨_, rfl⟩, ⟨⟨_, rfl⟩, ⟨⟨_, rfl⟩, ⟨⟨_, rfl⟩, trivial⟩⟩⟩⟩⟩, ⟨_, _, _, _, _, rfl, h0⟩⟩, ?_⟩
  intro n5 n6 b7 n8 n9 s hI j
  obtain ⟨n5', n6', b7', n8', n9', hy, hI⟩ := hI
  have hI' : I n5 n6 b7 n8 n9 s := by cases hy; exact hI
  have hh := hr n5 n6 b7 n8 n9 s hI'
  rw [← B_lot_lots_wrong_0_eq W R zp0 zp1 zl2 zl3 zn4 n5 n6 b7 n8 n9 _ j] at hh
  refine vc_mono ?_ _ _ hh
  exact KLoop_mono (fun vs s' h => by obtain ⟨n51, n61, b71, n81, n91, rfl, h1, h2⟩ := h; exact ⟨⟨⟨_, rfl⟩, ⟨⟨_, rfl⟩, ⟨⟨_, rfl⟩, ⟨⟨_, rfl⟩, ⟨⟨_, rfl⟩, trivial⟩⟩⟩⟩⟩, ⟨_, _, _, _, _, rfl, h1⟩, h2⟩)
def T_lot_lots_wrong (W : World) (p1 : Option Addr) (x2 : Option Addr) (l3 : Nat) (c4 : Nat) (R : Ending → Hp → Prop) : Hp → Prop :=
  L_lot_lots_wrong_0 W R p1 x2 l3 c4 (↑l3 : Int) 0 0 false 8 0
theorem T_lot_lots_wrong_eq (W : World) (p1 : Option Addr) (x2 : Option Addr) (l3 : Nat) (c4 : Nat) (R : Ending → Hp → Prop) : vfun Pg W an_44 Try.f44 [(.pointer p1), (.slice x2 l3 c4)] R = T_lot_lots_wrong W p1 x2 l3 c4 R := by kernel_rfl
theorem does_lot_lots_wrong (W : World) (p1 : Option Addr) (x2 : Option Addr) (l3 : Nat) (c4 : Nat) (R : Ending → Hp → Prop) (s : Hp) (h : T_lot_lots_wrong W p1 x2 l3 c4 R s) : Does Pg W F_lot_lots_wrong #[(.pointer p1), (.slice x2 l3 c4)] s R :=
  does_of_vfun Pg W an_44 Try.func44 rfl (by kernel_rfl) (by rw [T_lot_lots_wrong_eq]; exact h)
def an_45 : Nat → Ann := fun b => match b with
  | 0 => { ms := [5, 17], ks := [.i .u64, .i .i64], us := [0, 1, 4, 15, 16, 43], rt := false, ex := [] }
  | _ => {}
abbrev rv_45 : List ResultVar := [.tmp 4]
abbrev rs_45 : List Nat := [43, 4]
def L_lot_lots_draw_0 (W : World) (R : Ending → Hp → Prop) (zp0 : Option Addr) (zp1 : Option Addr) (zl2 : Nat) (zl3 : Nat) (zn4 : Int) (n11 : Int) (n12 : Int) : Hp → Prop :=
  LOOPN [.i .u64, .i .i64] (fun ys next s => ∀ j : Tm, vc Pg W 43 rs_45 an_45 false (sub (bodyOf Try.f45) [1, 1, 1, 0, 1, 0, 0]) 0 (KLoop [5, 17] [0, 1, 4, 15, 16, 43] [(.pointer zp0), (.slice zp1 zl2 zl3), (.slice none 0 0), (.slice zp1 zl2 zl3), (.int .i64 zn4), (.tuple #[])] next (KBlk 0 (KS Pg W 43 rs_45 an_45 false (sub (bodyOf Try.f45) [1, 1, 1, 1]) 0 (fin Pg W 43 rv_45 R)))) (known [5, 17] ys (known [0, 1, 4, 15, 16, 43] [(.pointer zp0), (.slice zp1 zl2 zl3), (.slice none 0 0), (.slice zp1 zl2 zl3), (.int .i64 zn4), (.tuple #[])] j)) s) [(.int .u64 n11), (.int .i64 n12)]
def B_lot_lots_draw_0 (W : World) (R : Ending → Hp → Prop) (zp0 : Option Addr) (zp1 : Option Addr) (zl2 : Nat) (zl3 : Nat) (zn4 : Int) (n11 : Int) (n12 : Int) (nx0 : List Value → Hp → Prop) : Hp → Prop :=
  BR (decide (n12 < zn4))
    (IXS zp1 zl2 n12 1 fun a13 =>
      RDI .i64 a13 fun n14 =>
        CALL Pg W F_lot_lots_is [(.pointer zp0), (.int .i64 n14)]
          (fun v15 => TYB v15 fun b17 =>
            BR b17
              (CALL Pg W F_lot_set_has [(.int .u64 n11), (.int .i64 n14)]
                (fun v18 => TYB v18 fun b20 =>
                  CALL Pg W F_lot_must [(.bool (!b20)), (.int .i64 2)]
                    (fun v21 => TUP v21 fun q23 => NL q23 <|
                      NNI n14 <|
                        NX [(.pointer zp0), (.slice zp1 zl2 zl3), (.slice none 0 0), (.slice zp1 zl2 zl3), (.int .i64 zn4), (.tuple #[])] [(.pointer zp0), (.slice zp1 zl2 zl3), (.slice none 0 0), (.slice zp1 zl2 zl3), (.int .i64 zn4), (.tuple #[])] (nx0 [(.int .u64 (orv .u64 n11 (shlv .u64 1 n14))), (.int .i64 (IntKind.wrap .i64 (n12 + 1)))]))
                      (fun e22 => R (.panicked e22)))
                  (fun e19 => R (.panicked e19)))
              (CALL Pg W F_lot_must [(.bool false), (.int .i64 2)]
                (fun v24 => TUP v24 fun q26 => NL q26 <|
                  NNI n14 <|
                    NX [(.pointer zp0), (.slice zp1 zl2 zl3), (.slice none 0 0), (.slice zp1 zl2 zl3), (.int .i64 zn4), (.tuple #[])] [(.pointer zp0), (.slice zp1 zl2 zl3), (.slice none 0 0), (.slice zp1 zl2 zl3), (.int .i64 zn4), (.tuple #[])] (nx0 [(.int .u64 (orv .u64 n11 (shlv .u64 1 n14))), (.int .i64 (IntKind.wrap .i64 (n12 + 1)))]))
                  (fun e25 => R (.panicked e25))))
            (fun e16 => R (.panicked e16)))
    (MKS Pg 3 (↑zl2 : Int) (↑zl2 : Int) fun B27 =>
      COPY 1 (some ⟨B27, 0, none⟩) (Int.toNat (↑zl2 : Int)) zp1 zl2 fun n28 =>
        R (.returned (.slice (some ⟨B27, 0, none⟩) (Int.toNat (↑zl2 : Int)) (Int.toNat (↑zl2 : Int)))))
theorem B_lot_lots_draw_0_eq (W : World) (R : Ending → Hp → Prop) (zp0 : Option Addr) (zp1 : Option Addr) (zl2 : Nat) (zl3 : Nat) (zn4 : Int) (n11 : Int) (n12 : Int) (nx0 : List Value → Hp → Prop) (j : Tm) : vc Pg W 43 rs_45 an_45 false (sub (bodyOf Try.f45) [1, 1, 1, 0, 1, 0, 0]) 0 (KLoop [5, 17] [0, 1, 4, 15, 16, 43] [(.pointer zp0), (.slice zp1 zl2 zl3), (.slice none 0 0), (.slice zp1 zl2 zl3), (.int .i64 zn4), (.tuple #[])] nx0 (KBlk 0 (KS Pg W 43 rs_45 an_45 false (sub (bodyOf Try.f45) [1, 1, 1, 1]) 0 (fin Pg W 43 rv_45 R)))) (known [5, 17] [(.int .u64 n11), (.int .i64 n12)] (known [0, 1, 4, 15, 16, 43] [(.pointer zp0), (.slice zp1 zl2 zl3), (.slice none 0 0), (.slice zp1 zl2 zl3), (.int .i64 zn4), (.tuple #[])] j)) = B_lot_lots_draw_0 W R zp0 zp1 zl2 zl3 zn4 n11 n12 nx0 := by kernel_rfl
def N_lot_lots_draw_0 (I : Int → Int → Hp → Prop) (μ : Int → Int → Hp → Nat) (n110 : Int) (n120 : Int) (s : Hp) (vs : List Value) : Hp → Prop := fun s' => ∃ n11 n12, vs = [(.int .u64 n11), (.int .i64 n12)] ∧ I n11 n12 s' ∧ μ n11 n12 s' < μ n110 n120 s
theorem L_lot_lots_draw_0_rule (W : World) (R : Ending → Hp → Prop) (zp0 : Option Addr) (zp1 : Option Addr) (zl2 : Nat) (zl3 : Nat) (zn4 : Int) (I : Int → Int → Hp → Prop) (μ : Int → Int → Hp → Nat) (n110 : Int) (n120 : Int) (s : Hp) (h0 : I n110 n120 s)
    (hr : ∀ (n11 : Int) (n12 : Int) (s : Hp), I n11 n12 s → B_lot_lots_draw_0 W R zp0 zp1 zl2 zl3 zn4 n11 n12 (fun vs => N_lot_lots_draw_0 I μ n11 n12 s vs) s) : L_lot_lots_draw_0 W R zp0 zp1 zl2 zl3 zn4 n110 n120 s := by
  refine ⟨fun vs s => ∃ n11 n12, vs = [(.int .u64 n11), (.int .i64 n12)] ∧ I n11 n12 s, fun vs s => (match vs with | [.int _ n11, .int _ n12] => μ n11 n12 s | _ => 0), ⟨⟨⟨_, rfl⟩, ⟨⟨_, rfl⟩, trivial⟩⟩, ⟨_, _, rfl, h0⟩⟩, ?_⟩
  intro n11 n12 s hI j
  obtain ⟨n11', n12', hy, hI⟩ := hI
  have hI' : I n11 n12 s := by cases hy; exact hI
  have hh := hr n11 n12 s hI'
  rw [← B_lot_lots_draw_0_eq W R zp0 zp1 zl2 zl3 zn4 n11 n12 _ j] at hh
  refine vc_mono ?_ _ _ hh
  exact KLoop_mono (fun vs s' h => by obtain ⟨n111, n121, rfl, h1, h2⟩ := h; exact ⟨⟨⟨_, rfl⟩, ⟨⟨_, rfl⟩, trivial⟩⟩, ⟨_, _, rfl, h1⟩, h2⟩)
def T_lot_lots_draw (W : World) (p1 : Option Addr) (x2 : Option Addr) (l3 : Nat) (c4 : Nat) (R : Ending → Hp → Prop) : Hp → Prop :=
  CALL Pg W F_lot_lots_plots [(.pointer p1)]
    (fun v5 => TYI .i64 v5 fun n7 =>
      CALL Pg W F_lot_must [(.bool ((↑l3 : Int) == n7)), (.int .i64 2)]
        (fun v8 => TUP v8 fun q10 => NL q10 <|
          L_lot_lots_draw_0 W R p1 x2 l3 c4 (↑l3 : Int) 0 0)
          (fun e9 => R (.panicked e9)))
      (fun e6 => R (.panicked e6))
theorem T_lot_lots_draw_eq (W : World) (p1 : Option Addr) (x2 : Option Addr) (l3 : Nat) (c4 : Nat) (R : Ending → Hp → Prop) : vfun Pg W an_45 Try.f45 [(.pointer p1), (.slice x2 l3 c4)] R = T_lot_lots_draw W p1 x2 l3 c4 R := by kernel_rfl
theorem does_lot_lots_draw (W : World) (p1 : Option Addr) (x2 : Option Addr) (l3 : Nat) (c4 : Nat) (R : Ending → Hp → Prop) (s : Hp) (h : T_lot_lots_draw W p1 x2 l3 c4 R s) : Does Pg W F_lot_lots_draw #[(.pointer p1), (.slice x2 l3 c4)] s R :=
  does_of_vfun Pg W an_45 Try.func45 rfl (by kernel_rfl) (by rw [T_lot_lots_draw_eq]; exact h)
def an_46 : Nat → Ann := fun b => match b with
  | _ => {}
abbrev rv_46 : List ResultVar := []
abbrev rs_46 : List Nat := [9]
def T_lot_must (W : World) (b1 : Bool) (n2 : Int) (R : Ending → Hp → Prop) : Hp → Prop :=
  BR (!b1)
    (R (.panicked [{ v := (.iface 105 (.agg #[(.int .i64 n2)])), recovered := false }]))
    (R (.returned (.tuple #[])))
theorem T_lot_must_eq (W : World) (b1 : Bool) (n2 : Int) (R : Ending → Hp → Prop) : vfun Pg W an_46 Try.f46 [(.bool b1), (.int .i64 n2)] R = T_lot_must W b1 n2 R := by kernel_rfl
theorem does_lot_must (W : World) (b1 : Bool) (n2 : Int) (R : Ending → Hp → Prop) (s : Hp) (h : T_lot_must W b1 n2 R s) : Does Pg W F_lot_must #[(.bool b1), (.int .i64 n2)] s R :=
  does_of_vfun Pg W an_46 Try.func46 rfl (by kernel_rfl) (by rw [T_lot_must_eq]; exact h)
def an_48 : Nat → Ann := fun b => match b with
  | _ => {}
abbrev rv_48 : List ResultVar := [.tmp 4]
abbrev rs_48 : List Nat := [9, 4]
def T_lot_lots_counted (W : World) (p1 : Option Addr) (v2 : Value) (R : Ending → Hp → Prop) : Hp → Prop :=
  NEW 63 [(.pointer p1)] fun B3 =>
    ONE v2 <|
      NEW 111 [v2] fun B4 =>
        NEWZ Pg 95 fun B5 =>
          NEWZ Pg 69 fun B6 =>
            WR (Addr.add ⟨B6, 0, none⟩ 0) (.func (.func 78) #[] #[(.pointer (some ⟨B5, 0, none⟩)), (.pointer (some ⟨B3, 0, none⟩)), (.pointer (some ⟨B4, 0, none⟩)), (.pointer (some ⟨B6, 0, none⟩))]) <|
              RDV ⟨B6, 0, none⟩ fun v7 =>
                R (.returned v7)
theorem T_lot_lots_counted_eq (W : World) (p1 : Option Addr) (v2 : Value) (R : Ending → Hp → Prop) : vfun Pg W an_48 Try.f48 [(.pointer p1), v2] R = T_lot_lots_counted W p1 v2 R := by kernel_rfl
theorem does_lot_lots_counted (W : World) (p1 : Option Addr) (v2 : Value) (R : Ending → Hp → Prop) (s : Hp) (h : T_lot_lots_counted W p1 v2 R s) : Does Pg W F_lot_lots_counted #[(.pointer p1), v2] s R :=
  does_of_vfun Pg W an_48 Try.func48 rfl (by kernel_rfl) (by rw [T_lot_lots_counted_eq]; exact h)
def an_49 : Nat → Ann := fun b => match b with
  | _ => {}
abbrev rv_49 : List ResultVar := [.tmp 2]
abbrev rs_49 : List Nat := [7, 2]
def T_lot_lots_all (W : World) (p1 : Option Addr) (R : Ending → Hp → Prop) : Hp → Prop :=
  CALL Pg W F_lot_lots_plots [(.pointer p1)]
    (fun v2 => TYI .i64 v2 fun n4 =>
      NNI n4 <|
        R (.returned (.int .u64 (IntKind.wrap .u64 ((shlv .u64 1 n4) - 1)))))
      (fun e3 => R (.panicked e3))
theorem T_lot_lots_all_eq (W : World) (p1 : Option Addr) (R : Ending → Hp → Prop) : vfun Pg W an_49 Try.f49 [(.pointer p1)] R = T_lot_lots_all W p1 R := by kernel_rfl
theorem does_lot_lots_all (W : World) (p1 : Option Addr) (R : Ending → Hp → Prop) (s : Hp) (h : T_lot_lots_all W p1 R s) : Does Pg W F_lot_lots_all #[(.pointer p1)] s R :=
  does_of_vfun Pg W an_49 Try.func49 rfl (by kernel_rfl) (by rw [T_lot_lots_all_eq]; exact h)
def an_51 : Nat → Ann := fun b => match b with
  | _ => {}
abbrev rv_51 : List ResultVar := [.tmp 6]
abbrev rs_51 : List Nat := [15, 6]
def T_lot_within (W : World) (n1 : Int) (n2 : Int) (n3 : Int) (R : Ending → Hp → Prop) : Hp → Prop :=
  BR (decide (n2 ≤ n1))
    (R (.returned (.bool (decide (n1 ≤ n3)))))
    (R (.returned (.bool false)))
theorem T_lot_within_eq (W : World) (n1 : Int) (n2 : Int) (n3 : Int) (R : Ending → Hp → Prop) : vfun Pg W an_51 Try.f51 [(.int .i64 n1), (.int .i64 n2), (.int .i64 n3)] R = T_lot_within W n1 n2 n3 R := by kernel_rfl
theorem does_lot_within (W : World) (n1 : Int) (n2 : Int) (n3 : Int) (R : Ending → Hp → Prop) (s : Hp) (h : T_lot_within W n1 n2 n3 R s) : Does Pg W F_lot_within #[(.int .i64 n1), (.int .i64 n2), (.int .i64 n3)] s R :=
  does_of_vfun Pg W an_51 Try.func51 rfl (by kernel_rfl) (by rw [T_lot_within_eq]; exact h)
def an_52 : Nat → Ann := fun b => match b with
  | 0 => { ms := [4], ks := [.l], us := [1, 2, 5, 6, 7, 73], rt := false, ex := [] }
  | 2 => { ms := [], ks := [.i .i64], us := [], rt := false, ex := [] }
  | _ => {}
abbrev rv_52 : List ResultVar := [.tmp 4]
abbrev rs_52 : List Nat := [73, 4]
def L_lot_lots_choose_0 (W : World) (R : Ending → Hp → Prop) (zv0 : Value) (za1 : Addr) (za2 : Addr) (za3 : Addr) (za4 : Addr) (x14 : Option Addr) (l15 : Nat) (c16 : Nat) : Hp → Prop :=
  LOOPN [.l] (fun ys next s => ∀ j : Tm, vc Pg W 73 rs_52 an_52 false (sub (bodyOf Try.f52) [1, 1, 1, 0, 0, 0]) 0 (KLoop [4] [1, 2, 5, 6, 7, 73] [zv0, (.pointer (some za1)), (.pointer (some za2)), (.pointer (some za3)), (.pointer (some za4)), (.tuple #[])] next (KBlk 0 (KS Pg W 73 rs_52 an_52 false (sub (bodyOf Try.f52) [1, 1, 1, 1]) 0 (fin Pg W 73 rv_52 R)))) (known [4] ys (known [1, 2, 5, 6, 7, 73] [zv0, (.pointer (some za1)), (.pointer (some za2)), (.pointer (some za3)), (.pointer (some za4)), (.tuple #[])] j)) s) [(.slice x14 l15 c16)]
def B_lot_lots_choose_0 (W : World) (R : Ending → Hp → Prop) (zv0 : Value) (za1 : Addr) (za2 : Addr) (za3 : Addr) (za4 : Addr) (x14 : Option Addr) (l15 : Nat) (c16 : Nat) (nx0 : List Value → Hp → Prop) : Hp → Prop :=
  RDI .u64 za3 fun n17 =>
    BR (n17 != 0)
      (NEWZ Pg 25 fun B18 =>
        NEWZ Pg 25 fun B19 =>
          RDP za1 fun p20 =>
            RDI .u64 za3 fun n21 =>
              CALL Pg W F_lot_lots_plot [(.pointer p20), (.int .u64 n21)]
                (fun v22 => TYI .i64 v22 fun n24 =>
                  NEWZ Pg 3 fun B25 =>
                    WR (Addr.add ⟨B25, 0, none⟩ 0) (.int .i64 n24) <|
                      RDP za1 fun p26 =>
                        RDI .u64 za3 fun n27 =>
                          CALL Pg W F_lot_lots_men [(.pointer p26), (.int .u64 n27)]
                            (fun v28 => RNGN Pg W v28 1
                              (fun y30 fin31 => HD y30 fun v32 r33 => TYI .i64 v32 fun n34 =>
                                NL r33 <|
                                  RDP za1 fun p35 =>
                                    RDI .i64 ⟨B25, 0, none⟩ fun n36 =>
                                      RDI .i64 za4 fun n37 =>
                                        CALL Pg W F_lot_lots_broken [(.pointer p35), (.int .i64 n36), (.int .i64 n34), (.int .i64 n37)]
                                          (fun v38 => TUP v38 fun q40 => HD q40 fun v41 r42 => TYI .i64 v41 fun n43 =>
                                            HD r42 fun v44 r45 => TYI .i64 v44 fun n46 =>
                                              NL r45 <|
                                                BR (decide (n43 > 0))
                                                  (fin31 none)
                                                  (RDV za2 fun v47 =>
                                                    RDI .u64 za3 fun n48 =>
                                                      NNI n34 <|
                                                        CALLV Pg W v47 [(.int .u64 (andnv .u64 n48 (shlv .u64 1 n34))), (.int .i64 n34)]
                                                          (fun v49 => TYI .i64 v49 fun n51 =>
                                                            BR (decide (n51 > 0))
                                                              (RDL ⟨B18, 0, none⟩ fun x52 l53 c54 =>
                                                                RDL ⟨B19, 0, none⟩ fun x55 l56 c57 =>
                                                                  CONJ [
                                                                    NEW 3 [(.int .i64 n34)] fun B58 =>
                                                                      ANDS (RDL ⟨B19, 0, none⟩ fun x59 l60 c61 =>
                                                                        fun _ => ((.slice x59 l60 c61) : Value) = (.slice x55 l56 c57)) <|
                                                                        ANDS (RDL ⟨B18, 0, none⟩ fun x62 l63 c64 =>
                                                                          fun _ => ((.slice x62 l63 c64) : Value) = (.slice x52 l53 c54)) <|
                                                                          CONJ [
                                                                            APP Pg 3 1 x52 l53 c54 (some ⟨B58, 0, none⟩) 1 fun x65 l66 c67 =>
                                                                              ANDS (RDL ⟨B19, 0, none⟩ fun x68 l69 c70 =>
                                                                                fun _ => ((.slice x68 l69 c70) : Value) = (.slice x55 l56 c57)) <|
                                                                                NEW 3 [(.int .i64 n51)] fun B71 =>
                                                                                  ANDS (RDL ⟨B19, 0, none⟩ fun x72 l73 c74 =>
                                                                                    fun _ => ((.slice x72 l73 c74) : Value) = (.slice x55 l56 c57)) <|
                                                                                    ANDS (RDL ⟨B18, 0, none⟩ fun x75 l76 c77 =>
                                                                                      fun _ => ((.slice x75 l76 c77) : Value) = (.slice x52 l53 c54)) <|
                                                                                      APP Pg 3 1 x55 l56 c57 (some ⟨B71, 0, none⟩) 1 fun x78 l79 c80 =>
                                                                                        WR (Addr.add ⟨B18, 0, none⟩ 0) (.slice x65 l66 c67) <|
                                                                                          WR (Addr.add ⟨B19, 0, none⟩ 0) (.slice x78 l79 c80) <|
                                                                                            fin31 none,
                                                                            NEW 3 [(.int .i64 n51)] fun B81 =>
                                                                              ANDS (RDL ⟨B19, 0, none⟩ fun x82 l83 c84 =>
                                                                                fun _ => ((.slice x82 l83 c84) : Value) = (.slice x55 l56 c57)) <|
                                                                                ANDS (RDL ⟨B18, 0, none⟩ fun x85 l86 c87 =>
                                                                                  fun _ => ((.slice x85 l86 c87) : Value) = (.slice x52 l53 c54)) <|
                                                                                  APP Pg 3 1 x52 l53 c54 (some ⟨B58, 0, none⟩) 1 fun x88 l89 c90 =>
                                                                                    ANDS (RDL ⟨B19, 0, none⟩ fun x91 l92 c93 =>
                                                                                      fun _ => ((.slice x91 l92 c93) : Value) = (.slice x55 l56 c57)) <|
                                                                                      APP Pg 3 1 x55 l56 c57 (some ⟨B81, 0, none⟩) 1 fun x94 l95 c96 =>
                                                                                        WR (Addr.add ⟨B18, 0, none⟩ 0) (.slice x88 l89 c90) <|
                                                                                          WR (Addr.add ⟨B19, 0, none⟩ 0) (.slice x94 l95 c96) <|
                                                                                            fin31 none],
                                                                    NEW 3 [(.int .i64 n51)] fun B97 =>
                                                                      ANDS (RDL ⟨B19, 0, none⟩ fun x98 l99 c100 =>
                                                                        fun _ => ((.slice x98 l99 c100) : Value) = (.slice x55 l56 c57)) <|
                                                                        ANDS (RDL ⟨B18, 0, none⟩ fun x101 l102 c103 =>
                                                                          fun _ => ((.slice x101 l102 c103) : Value) = (.slice x52 l53 c54)) <|
                                                                          NEW 3 [(.int .i64 n34)] fun B104 =>
                                                                            ANDS (RDL ⟨B19, 0, none⟩ fun x105 l106 c107 =>
                                                                              fun _ => ((.slice x105 l106 c107) : Value) = (.slice x55 l56 c57)) <|
                                                                              ANDS (RDL ⟨B18, 0, none⟩ fun x108 l109 c110 =>
                                                                                fun _ => ((.slice x108 l109 c110) : Value) = (.slice x52 l53 c54)) <|
                                                                                APP Pg 3 1 x52 l53 c54 (some ⟨B104, 0, none⟩) 1 fun x111 l112 c113 =>
                                                                                  ANDS (RDL ⟨B19, 0, none⟩ fun x114 l115 c116 =>
                                                                                    fun _ => ((.slice x114 l115 c116) : Value) = (.slice x55 l56 c57)) <|
                                                                                    APP Pg 3 1 x55 l56 c57 (some ⟨B97, 0, none⟩) 1 fun x117 l118 c119 =>
                                                                                      WR (Addr.add ⟨B18, 0, none⟩ 0) (.slice x111 l112 c113) <|
                                                                                        WR (Addr.add ⟨B19, 0, none⟩ 0) (.slice x117 l118 c119) <|
                                                                                          fin31 none])
                                                              (fin31 none))
                                                            (fun e50 => FF)))
                                            (fun e39 => FF))
                              (AFT
                                (RDL ⟨B18, 0, none⟩ fun x120 l121 c122 =>
                                  RDL ⟨B18, 0, none⟩ fun x123 l124 c125 =>
                                    RDL ⟨B19, 0, none⟩ fun x126 l127 c128 =>
                                      CALLV Pg W zv0 [(.slice x123 l124 c125), (.slice x126 l127 c128)]
                                        (fun v129 => TYI .i64 v129 fun n131 =>
                                          ANDS (RDL ⟨B18, 0, none⟩ fun x132 l133 c134 =>
                                            fun _ => ((.slice x132 l133 c134) : Value) = (.slice x120 l121 c122)) <|
                                            IXS x120 l121 n131 1 fun a135 =>
                                              RDI .i64 a135 fun n136 =>
                                                WR (Addr.add za4 0) (.int .i64 n136) <|
                                                  RDI .i64 za4 fun n137 =>
                                                    NEW 3 [(.int .i64 n137)] fun B138 =>
                                                      APP Pg 3 1 x14 l15 c16 (some ⟨B138, 0, none⟩) 1 fun x139 l140 c141 =>
                                                        RDI .u64 za3 fun n142 =>
                                                          RDI .i64 za4 fun n143 =>
                                                            NNI n143 <|
                                                              WR (Addr.add za3 0) (.int .u64 (andnv .u64 n142 (shlv .u64 1 n143))) <|
                                                                NX [zv0, (.pointer (some za1)), (.pointer (some za2)), (.pointer (some za3)), (.pointer (some za4)), (.tuple #[])] [zv0, (.pointer (some za1)), (.pointer (some za2)), (.pointer (some za3)), (.pointer (some za4)), (.tuple #[])] (nx0 [(.slice x139 l140 c141)]))
                                          (fun e130 => R (.panicked e130))) (FF) (EXL [] fun _ => FF)))
                              (fun e29 => R (.panicked e29)))
                  (fun e23 => R (.panicked e23)))
      (R (.returned (.slice x14 l15 c16)))
theorem B_lot_lots_choose_0_eq (W : World) (R : Ending → Hp → Prop) (zv0 : Value) (za1 : Addr) (za2 : Addr) (za3 : Addr) (za4 : Addr) (x14 : Option Addr) (l15 : Nat) (c16 : Nat) (nx0 : List Value → Hp → Prop) (j : Tm) : vc Pg W 73 rs_52 an_52 false (sub (bodyOf Try.f52) [1, 1, 1, 0, 0, 0]) 0 (KLoop [4] [1, 2, 5, 6, 7, 73] [zv0, (.pointer (some za1)), (.pointer (some za2)), (.pointer (some za3)), (.pointer (some za4)), (.tuple #[])] nx0 (KBlk 0 (KS Pg W 73 rs_52 an_52 false (sub (bodyOf Try.f52) [1, 1, 1, 1]) 0 (fin Pg W 73 rv_52 R)))) (known [4] [(.slice x14 l15 c16)] (known [1, 2, 5, 6, 7, 73] [zv0, (.pointer (some za1)), (.pointer (some za2)), (.pointer (some za3)), (.pointer (some za4)), (.tuple #[])] j)) = B_lot_lots_choose_0 W R zv0 za1 za2 za3 za4 x14 l15 c16 nx0 := by kernel_rfl
def N_lot_lots_choose_0 (I : Option Addr → Nat → Nat → Hp → Prop) (μ : Option Addr → Nat → Nat → Hp → Nat) (x140 : Option Addr) (l150 : Nat) (c160 : Nat) (s : Hp) (vs : List Value) : Hp → Prop := fun s' => ∃ x14 l15 c16, vs = [(.slice x14 l15 c16)] ∧ I x14 l15 c16 s' ∧ μ x14 l15 c16 s' < μ x140 l150 c160 s
theorem L_lot_lots_choose_0_rule (W : World) (R : Ending → Hp → Prop) (zv0 : Value) (za1 : Addr) (za2 : Addr) (za3 : Addr) (za4 : Addr) (I : Option Addr → Nat → Nat → Hp → Prop) (μ : Option Addr → Nat → Nat → Hp → Nat) (x140 : Option Addr) (l150 : Nat) (c160 : Nat) (s : Hp) (h0 : I x140 l150 c160 s)
    (hr : ∀ (x14 : Option Addr) (l15 : Nat) (c16 : Nat) (s : Hp), I x14 l15 c16 s → B_lot_lots_choose_0 W R zv0 za1 za2 za3 za4 x14 l15 c16 (fun vs => N_lot_lots_choose_0 I μ x14 l15 c16 s vs) s) : L_lot_lots_choose_0 W R zv0 za1 za2 za3 za4 x140 l150 c160 s := by
  refine ⟨fun vs s => ∃ x14 l15 c16, vs = [(.slice x14 l15 c16)] ∧ I x14 l15 c16 s, fun vs s => (match vs with | [.slice x14 l15 c16] => μ x14 l15 c16 s | _ => 0), ⟨⟨⟨_, _, _, rfl⟩, trivial⟩, ⟨_, _, _, rfl, h0⟩⟩, ?_⟩
  intro x14 l15 c16 s hI j
  obtain ⟨x14', l15', c16', hy, hI⟩ := hI
  have hI' : I x14 l15 c16 s := by cases hy; exact hI
  have hh := hr x14 l15 c16 s hI'
  rw [← B_lot_lots_choose_0_eq W R zv0 za1 za2 za3 za4 x14 l15 c16 _ j] at hh
  refine vc_mono ?_ _ _ hh
  exact KLoop_mono (fun vs s' h => by obtain ⟨x141, l151, c161, rfl, h1, h2⟩ := h; exact ⟨⟨⟨_, _, _, rfl⟩, trivial⟩, ⟨_, _, _, rfl, h1⟩, h2⟩)
def T_lot_lots_choose (W : World) (p1 : Option Addr) (v2 : Value) (R : Ending → Hp → Prop) : Hp → Prop :=
  NEW 63 [(.pointer p1)] fun B3 =>
    RDP ⟨B3, 0, none⟩ fun p4 =>
      CALL Pg W F_lot_lots_counted [(.pointer p4), (.iface 72 (.agg #[]))]
        (fun v5 => NEWZ Pg 69 fun B7 =>
          ONE v5 <|
            WR (Addr.add ⟨B7, 0, none⟩ 0) v5 <|
              RDP ⟨B3, 0, none⟩ fun p8 =>
                CALL Pg W F_lot_lots_all [(.pointer p8)]
                  (fun v9 => TYI .u64 v9 fun n11 =>
                    NEWZ Pg 74 fun B12 =>
                      NEWZ Pg 3 fun B13 =>
                        WR (Addr.add ⟨B12, 0, none⟩ 0) (.int .u64 n11) <|
                          WR (Addr.add ⟨B13, 0, none⟩ 0) (.int .i64 8) <|
                            L_lot_lots_choose_0 W R v2 ⟨B3, 0, none⟩ ⟨B7, 0, none⟩ ⟨B12, 0, none⟩ ⟨B13, 0, none⟩ none 0 0)
                    (fun e10 => R (.panicked e10)))
          (fun e6 => R (.panicked e6))
theorem T_lot_lots_choose_eq (W : World) (p1 : Option Addr) (v2 : Value) (R : Ending → Hp → Prop) : vfun Pg W an_52 Try.f52 [(.pointer p1), v2] R = T_lot_lots_choose W p1 v2 R := by kernel_rfl
theorem does_lot_lots_choose (W : World) (p1 : Option Addr) (v2 : Value) (R : Ending → Hp → Prop) (s : Hp) (h : T_lot_lots_choose W p1 v2 R s) : Does Pg W F_lot_lots_choose #[(.pointer p1), v2] s R :=
  does_of_vfun Pg W an_52 Try.func52 rfl (by kernel_rfl) (by rw [T_lot_lots_choose_eq]; exact h)
def an_53 : Nat → Ann := fun b => match b with
  | _ => {}
abbrev rv_53 : List ResultVar := [.tmp 5]
abbrev rs_53 : List Nat := [9, 5]
def T_lot_Nth_c1 (W : World) (x1 : Option Addr) (l2 : Nat) (c3 : Nat) (x4 : Option Addr) (l5 : Nat) (c6 : Nat) (a7 : Addr) (R : Ending → Hp → Prop) : Hp → Prop :=
  CALL Pg W F_lot_index_int [(.slice x4 l5 c6), (.func (.func 55) #[] #[(.pointer (some a7))])]
    (fun v8 => TYI .i64 v8 fun n10 =>
      R (.returned (.int .i64 n10)))
      (fun e9 => R (.panicked e9))
theorem T_lot_Nth_c1_eq (W : World) (x1 : Option Addr) (l2 : Nat) (c3 : Nat) (x4 : Option Addr) (l5 : Nat) (c6 : Nat) (a7 : Addr) (R : Ending → Hp → Prop) : vfun Pg W an_53 Try.f53 [(.slice x1 l2 c3), (.slice x4 l5 c6), (.pointer (some a7))] R = T_lot_Nth_c1 W x1 l2 c3 x4 l5 c6 a7 R := by kernel_rfl
theorem does_lot_Nth_c1 (W : World) (x1 : Option Addr) (l2 : Nat) (c3 : Nat) (x4 : Option Addr) (l5 : Nat) (c6 : Nat) (a7 : Addr) (R : Ending → Hp → Prop) (s : Hp) (h : T_lot_Nth_c1 W x1 l2 c3 x4 l5 c6 a7 R s) : Does Pg W F_lot_Nth_c1 #[(.slice x1 l2 c3), (.slice x4 l5 c6), (.pointer (some a7))] s R :=
  does_of_vfun Pg W an_53 Try.func53 rfl (by kernel_rfl) (by rw [T_lot_Nth_c1_eq]; exact h)
def an_54 : Nat → Ann := fun b => match b with
  | 0 => { ms := [4, 9], ks := [.i .i64, .i .i64], us := [1, 7, 8, 19], rt := false, ex := [] }
  | _ => {}
abbrev rv_54 : List ResultVar := [.tmp 4]
abbrev rs_54 : List Nat := [19, 4]
def L_lot_index_int_0 (W : World) (R : Ending → Hp → Prop) (zv0 : Value) (zp1 : Option Addr) (zl2 : Nat) (zl3 : Nat) (zn4 : Int) (n5 : Int) (n6 : Int) : Hp → Prop :=
  LOOPN [.i .i64, .i .i64] (fun ys next s => ∀ j : Tm, vc Pg W 19 rs_54 an_54 false (sub (bodyOf Try.f54) [1, 0, 1, 0, 0]) 0 (KLoop [4, 9] [1, 7, 8, 19] [zv0, (.slice zp1 zl2 zl3), (.int .i64 zn4), (.tuple #[])] next (KBlk 0 (KS Pg W 19 rs_54 an_54 false (sub (bodyOf Try.f54) [1, 1]) 0 (fin Pg W 19 rv_54 R)))) (known [4, 9] ys (known [1, 7, 8, 19] [zv0, (.slice zp1 zl2 zl3), (.int .i64 zn4), (.tuple #[])] j)) s) [(.int .i64 n5), (.int .i64 n6)]
def B_lot_index_int_0 (W : World) (R : Ending → Hp → Prop) (zv0 : Value) (zp1 : Option Addr) (zl2 : Nat) (zl3 : Nat) (zn4 : Int) (n5 : Int) (n6 : Int) (nx0 : List Value → Hp → Prop) : Hp → Prop :=
  BR (decide (n6 < zn4))
    (IXS zp1 zl2 n6 1 fun a7 =>
      RDI .i64 a7 fun n8 =>
        CALLV Pg W zv0 [(.int .i64 n8)]
          (fun v9 => TYB v9 fun b11 =>
            BR b11
              (R (.returned (.int .i64 n6)))
              (NX [zv0, (.slice zp1 zl2 zl3), (.int .i64 zn4), (.tuple #[])] [zv0, (.slice zp1 zl2 zl3), (.int .i64 zn4), (.tuple #[])] (nx0 [(.int .i64 n5), (.int .i64 (IntKind.wrap .i64 (n6 + 1)))])))
            (fun e10 => R (.panicked e10)))
    (R (.returned (.int .i64 (-1))))
theorem B_lot_index_int_0_eq (W : World) (R : Ending → Hp → Prop) (zv0 : Value) (zp1 : Option Addr) (zl2 : Nat) (zl3 : Nat) (zn4 : Int) (n5 : Int) (n6 : Int) (nx0 : List Value → Hp → Prop) (j : Tm) : vc Pg W 19 rs_54 an_54 false (sub (bodyOf Try.f54) [1, 0, 1, 0, 0]) 0 (KLoop [4, 9] [1, 7, 8, 19] [zv0, (.slice zp1 zl2 zl3), (.int .i64 zn4), (.tuple #[])] nx0 (KBlk 0 (KS Pg W 19 rs_54 an_54 false (sub (bodyOf Try.f54) [1, 1]) 0 (fin Pg W 19 rv_54 R)))) (known [4, 9] [(.int .i64 n5), (.int .i64 n6)] (known [1, 7, 8, 19] [zv0, (.slice zp1 zl2 zl3), (.int .i64 zn4), (.tuple #[])] j)) = B_lot_index_int_0 W R zv0 zp1 zl2 zl3 zn4 n5 n6 nx0 := by kernel_rfl
def N_lot_index_int_0 (I : Int → Int → Hp → Prop) (μ : Int → Int → Hp → Nat) (n50 : Int) (n60 : Int) (s : Hp) (vs : List Value) : Hp → Prop := fun s' => ∃ n5 n6, vs = [(.int .i64 n5), (.int .i64 n6)] ∧ I n5 n6 s' ∧ μ n5 n6 s' < μ n50 n60 s
theorem L_lot_index_int_0_rule (W : World) (R : Ending → Hp → Prop) (zv0 : Value) (zp1 : Option Addr) (zl2 : Nat) (zl3 : Nat) (zn4 : Int) (I : Int → Int → Hp → Prop) (μ : Int → Int → Hp → Nat) (n50 : Int) (n60 : Int) (s : Hp) (h0 : I n50 n60 s)
    (hr : ∀ (n5 : Int) (n6 : Int) (s : Hp), I n5 n6 s → B_lot_index_int_0 W R zv0 zp1 zl2 zl3 zn4 n5 n6 (fun vs => N_lot_index_int_0 I μ n5 n6 s vs) s) : L_lot_index_int_0 W R zv0 zp1 zl2 zl3 zn4 n50 n60 s := by
  refine ⟨fun vs s => ∃ n5 n6, vs = [(.int .i64 n5), (.int .i64 n6)] ∧ I n5 n6 s, fun vs s => (match vs with | [.int _ n5, .int _ n6] => μ n5 n6 s | _ => 0), ⟨⟨⟨_, rfl⟩, ⟨⟨_, rfl⟩, trivial⟩⟩, ⟨_, _, rfl, h0⟩⟩, ?_⟩
  intro n5 n6 s hI j
  obtain ⟨n5', n6', hy, hI⟩ := hI
  have hI' : I n5 n6 s := by cases hy; exact hI
  have hh := hr n5 n6 s hI'
  rw [← B_lot_index_int_0_eq W R zv0 zp1 zl2 zl3 zn4 n5 n6 _ j] at hh
  refine vc_mono ?_ _ _ hh
  exact KLoop_mono (fun vs s' h => by obtain ⟨n51, n61, rfl, h1, h2⟩ := h; exact ⟨⟨⟨_, rfl⟩, ⟨⟨_, rfl⟩, trivial⟩⟩, ⟨_, _, rfl, h1⟩, h2⟩)
def T_lot_index_int (W : World) (x1 : Option Addr) (l2 : Nat) (c3 : Nat) (v4 : Value) (R : Ending → Hp → Prop) : Hp → Prop :=
  L_lot_index_int_0 W R v4 x1 l2 c3 (↑l2 : Int) 0 0
theorem T_lot_index_int_eq (W : World) (x1 : Option Addr) (l2 : Nat) (c3 : Nat) (v4 : Value) (R : Ending → Hp → Prop) : vfun Pg W an_54 Try.f54 [(.slice x1 l2 c3), v4] R = T_lot_index_int W x1 l2 c3 v4 R := by kernel_rfl
theorem does_lot_index_int (W : World) (x1 : Option Addr) (l2 : Nat) (c3 : Nat) (v4 : Value) (R : Ending → Hp → Prop) (s : Hp) (h : T_lot_index_int W x1 l2 c3 v4 R s) : Does Pg W F_lot_index_int #[(.slice x1 l2 c3), v4] s R :=
  does_of_vfun Pg W an_54 Try.func54 rfl (by kernel_rfl) (by rw [T_lot_index_int_eq]; exact h)
def an_55 : Nat → Ann := fun b => match b with
  | _ => {}
abbrev rv_55 : List ResultVar := [.tmp 3]
abbrev rs_55 : List Nat := [10, 3]
def T_lot_Nth_c1_c1 (W : World) (n1 : Int) (a2 : Addr) (R : Ending → Hp → Prop) : Hp → Prop :=
  RDI .i64 a2 fun n3 =>
    BR (decide (n3 < n1))
      (R (.returned (.bool true)))
      (RDI .i64 a2 fun n4 =>
        WR (Addr.add a2 0) (.int .i64 (IntKind.wrap .i64 (n4 - n1))) <|
          R (.returned (.bool false)))
theorem T_lot_Nth_c1_c1_eq (W : World) (n1 : Int) (a2 : Addr) (R : Ending → Hp → Prop) : vfun Pg W an_55 Try.f55 [(.int .i64 n1), (.pointer (some a2))] R = T_lot_Nth_c1_c1 W n1 a2 R := by kernel_rfl
theorem does_lot_Nth_c1_c1 (W : World) (n1 : Int) (a2 : Addr) (R : Ending → Hp → Prop) (s : Hp) (h : T_lot_Nth_c1_c1 W n1 a2 R s) : Does Pg W F_lot_Nth_c1_c1 #[(.int .i64 n1), (.pointer (some a2))] s R :=
  does_of_vfun Pg W an_55 Try.func55 rfl (by kernel_rfl) (by rw [T_lot_Nth_c1_c1_eq]; exact h)
def an_57 : Nat → Ann := fun b => match b with
  | 0 => { ms := [19], ks := [.i .i64], us := [3, 7, 17, 18, 28], rt := false, ex := [] }
  | _ => {}
abbrev rv_57 : List ResultVar := [.tmp 6]
abbrev rs_57 : List Nat := [28, 6]
def L_lot_Place_c1_0 (W : World) (R : Ending → Hp → Prop) (za0 : Addr) (zn1 : Int) (zp2 : Option Addr) (zl3 : Nat) (zl4 : Nat) (zn5 : Int) (n21 : Int) : Hp → Prop :=
  LOOPN [.i .i64] (fun ys next s => ∀ j : Tm, vc Pg W 28 rs_57 an_57 false (sub (bodyOf Try.f57) [1, 1, 1, 0, 1, 0, 0]) 0 (KLoop [19] [3, 7, 17, 18, 28] [(.pointer (some za0)), (.int .i64 zn1), (.slice zp2 zl3 zl4), (.int .i64 zn5), (.tuple #[])] next (KBlk 0 (KS Pg W 28 rs_57 an_57 false (sub (bodyOf Try.f57) [1, 1, 1, 1]) 0 (fin Pg W 28 rv_57 R)))) (known [19] ys (known [3, 7, 17, 18, 28] [(.pointer (some za0)), (.int .i64 zn1), (.slice zp2 zl3 zl4), (.int .i64 zn5), (.tuple #[])] j)) s) [(.int .i64 n21)]
def B_lot_Place_c1_0 (W : World) (R : Ending → Hp → Prop) (za0 : Addr) (zn1 : Int) (zp2 : Option Addr) (zl3 : Nat) (zl4 : Nat) (zn5 : Int) (n21 : Int) (nx0 : List Value → Hp → Prop) : Hp → Prop :=
  BR (decide (n21 < zn5))
    (IXS zp2 zl3 n21 1 fun a22 =>
      RDI .i64 a22 fun n23 =>
        RDI .i64 za0 fun n24 =>
          WR (Addr.add za0 0) (.int .i64 (IntKind.wrap .i64 (n24 + n23))) <|
            NX [(.pointer (some za0)), (.int .i64 zn1), (.slice zp2 zl3 zl4), (.int .i64 zn5), (.tuple #[])] [(.pointer (some za0)), (.int .i64 zn1), (.slice zp2 zl3 zl4), (.int .i64 zn5), (.tuple #[])] (nx0 [(.int .i64 (IntKind.wrap .i64 (n21 + 1)))]))
    (R (.returned (.int .i64 zn1)))
theorem B_lot_Place_c1_0_eq (W : World) (R : Ending → Hp → Prop) (za0 : Addr) (zn1 : Int) (zp2 : Option Addr) (zl3 : Nat) (zl4 : Nat) (zn5 : Int) (n21 : Int) (nx0 : List Value → Hp → Prop) (j : Tm) : vc Pg W 28 rs_57 an_57 false (sub (bodyOf Try.f57) [1, 1, 1, 0, 1, 0, 0]) 0 (KLoop [19] [3, 7, 17, 18, 28] [(.pointer (some za0)), (.int .i64 zn1), (.slice zp2 zl3 zl4), (.int .i64 zn5), (.tuple #[])] nx0 (KBlk 0 (KS Pg W 28 rs_57 an_57 false (sub (bodyOf Try.f57) [1, 1, 1, 1]) 0 (fin Pg W 28 rv_57 R)))) (known [19] [(.int .i64 n21)] (known [3, 7, 17, 18, 28] [(.pointer (some za0)), (.int .i64 zn1), (.slice zp2 zl3 zl4), (.int .i64 zn5), (.tuple #[])] j)) = B_lot_Place_c1_0 W R za0 zn1 zp2 zl3 zl4 zn5 n21 nx0 := by kernel_rfl
def N_lot_Place_c1_0 (I : Int → Hp → Prop) (μ : Int → Hp → Nat) (n210 : Int) (s : Hp) (vs : List Value) : Hp → Prop := fun s' => ∃ n21, vs = [(.int .i64 n21)] ∧ I n21 s' ∧ μ n21 s' < μ n210 s
theorem L_lot_Place_c1_0_rule (W : World) (R : Ending → Hp → Prop) (za0 : Addr) (zn1 : Int) (zp2 : Option Addr) (zl3 : Nat) (zl4 : Nat) (zn5 : Int) (I : Int → Hp → Prop) (μ : Int → Hp → Nat) (n210 : Int) (s : Hp) (h0 : I n210 s)
    (hr : ∀ (n21 : Int) (s : Hp), I n21 s → B_lot_Place_c1_0 W R za0 zn1 zp2 zl3 zl4 zn5 n21 (fun vs => N_lot_Place_c1_0 I μ n21 s vs) s) : L_lot_Place_c1_0 W R za0 zn1 zp2 zl3 zl4 zn5 n210 s := by
  refine ⟨fun vs s => ∃ n21, vs = [(.int .i64 n21)] ∧ I n21 s, fun vs s => (match vs with | [.int _ n21] => μ n21 s | _ => 0), ⟨⟨⟨_, rfl⟩, trivial⟩, ⟨_, rfl, h0⟩⟩, ?_⟩
  intro n21 s hI j
  obtain ⟨n21', hy, hI⟩ := hI
  have hI' : I n21 s := by cases hy; exact hI
  have hh := hr n21 s hI'
  rw [← B_lot_Place_c1_0_eq W R za0 zn1 zp2 zl3 zl4 zn5 n21 _ j] at hh
  refine vc_mono ?_ _ _ hh
  exact KLoop_mono (fun vs s' h => by obtain ⟨n211, rfl, h1, h2⟩ := h; exact ⟨⟨⟨_, rfl⟩, trivial⟩, ⟨_, rfl, h1⟩, h2⟩)
def T_lot_Place_c1 (W : World) (x1 : Option Addr) (l2 : Nat) (c3 : Nat) (x4 : Option Addr) (l5 : Nat) (c6 : Nat) (a7 : Addr) (a8 : Addr) (R : Ending → Hp → Prop) : Hp → Prop :=
  CALL Pg W F_lot_index_int [(.slice x1 l2 c3), (.func (.func 58) #[] #[(.pointer (some a7))])]
    (fun v9 => TYI .i64 v9 fun n11 =>
      RDL a7 fun x12 l13 c14 =>
        SLS x12 c14 1 ↑l13 1 fun x15 l16 c17 =>
          WR (Addr.add a7 0) (.slice x15 l16 c17) <|
            SLS x4 c6 0 n11 1 fun x18 l19 c20 =>
              L_lot_Place_c1_0 W R a8 n11 x18 l19 c20 (↑l19 : Int) 0)
      (fun e10 => R (.panicked e10))
theorem T_lot_Place_c1_eq (W : World) (x1 : Option Addr) (l2 : Nat) (c3 : Nat) (x4 : Option Addr) (l5 : Nat) (c6 : Nat) (a7 : Addr) (a8 : Addr) (R : Ending → Hp → Prop) : vfun Pg W an_57 Try.f57 [(.slice x1 l2 c3), (.slice x4 l5 c6), (.pointer (some a7)), (.pointer (some a8))] R = T_lot_Place_c1 W x1 l2 c3 x4 l5 c6 a7 a8 R := by kernel_rfl
theorem does_lot_Place_c1 (W : World) (x1 : Option Addr) (l2 : Nat) (c3 : Nat) (x4 : Option Addr) (l5 : Nat) (c6 : Nat) (a7 : Addr) (a8 : Addr) (R : Ending → Hp → Prop) (s : Hp) (h : T_lot_Place_c1 W x1 l2 c3 x4 l5 c6 a7 a8 R s) : Does Pg W F_lot_Place_c1 #[(.slice x1 l2 c3), (.slice x4 l5 c6), (.pointer (some a7)), (.pointer (some a8))] s R :=
  does_of_vfun Pg W an_57 Try.func57 rfl (by kernel_rfl) (by rw [T_lot_Place_c1_eq]; exact h)
def an_58 : Nat → Ann := fun b => match b with
  | _ => {}
abbrev rv_58 : List ResultVar := [.tmp 3]
abbrev rs_58 : List Nat := [9, 3]
def T_lot_Place_c1_c1 (W : World) (n1 : Int) (a2 : Addr) (R : Ending → Hp → Prop) : Hp → Prop :=
  RDL a2 fun x3 l4 c5 =>
    IXS x3 l4 0 1 fun a6 =>
      RDI .i64 a6 fun n7 =>
        R (.returned (.bool (n1 == n7)))
theorem T_lot_Place_c1_c1_eq (W : World) (n1 : Int) (a2 : Addr) (R : Ending → Hp → Prop) : vfun Pg W an_58 Try.f58 [(.int .i64 n1), (.pointer (some a2))] R = T_lot_Place_c1_c1 W n1 a2 R := by kernel_rfl
theorem does_lot_Place_c1_c1 (W : World) (n1 : Int) (a2 : Addr) (R : Ending → Hp → Prop) (s : Hp) (h : T_lot_Place_c1_c1 W n1 a2 R s) : Does Pg W F_lot_Place_c1_c1 #[(.int .i64 n1), (.pointer (some a2))] s R :=
  does_of_vfun Pg W an_58 Try.func58 rfl (by kernel_rfl) (by rw [T_lot_Place_c1_c1_eq]; exact h)
def an_59 : Nat → Ann := fun b => match b with
  | _ => {}
abbrev rv_59 : List ResultVar := [.tmp 2]
abbrev rs_59 : List Nat := [17, 2]
def T_lot_seed_next (W : World) (p1 : Option Addr) (R : Ending → Hp → Prop) : Hp → Prop :=
  SO p1 fun a2 =>
    RDI .i64 (Addr.add a2 0) fun n3 =>
      SO p1 fun a4 =>
        WR (Addr.add (Addr.add a4 0) 0) (.int .i64 (Int.tmod (IntKind.wrap .i64 ((IntKind.wrap .i64 (75 * n3)) + 74)) 65537)) <|
          SO p1 fun a5 =>
            RDI .i64 (Addr.add a5 0) fun n6 =>
              R (.returned (.int .i64 n6))
theorem T_lot_seed_next_eq (W : World) (p1 : Option Addr) (R : Ending → Hp → Prop) : vfun Pg W an_59 Try.f59 [(.pointer p1)] R = T_lot_seed_next W p1 R := by kernel_rfl
theorem does_lot_seed_next (W : World) (p1 : Option Addr) (R : Ending → Hp → Prop) (s : Hp) (h : T_lot_seed_next W p1 R s) : Does Pg W F_lot_seed_next #[(.pointer p1)] s R :=
  does_of_vfun Pg W an_59 Try.func59 rfl (by kernel_rfl) (by rw [T_lot_seed_next_eq]; exact h)
def an_60 : Nat → Ann := fun b => match b with
  | _ => {}
abbrev rv_60 : List ResultVar := [.tmp 5]
abbrev rs_60 : List Nat := [11, 5]
def T_lot_Draw_c1 (W : World) (x1 : Option Addr) (l2 : Nat) (c3 : Nat) (x4 : Option Addr) (l5 : Nat) (c6 : Nat) (a7 : Addr) (R : Ending → Hp → Prop) : Hp → Prop :=
  RDV a7 fun v8 =>
    CALLV Pg W v8 []
      (fun v9 => TYI .i64 v9 fun n11 =>
        NZI (↑l2 : Int) <|
          R (.returned (.int .i64 (Int.tmod n11 (↑l2 : Int)))))
        (fun e10 => R (.panicked e10))
theorem T_lot_Draw_c1_eq (W : World) (x1 : Option Addr) (l2 : Nat) (c3 : Nat) (x4 : Option Addr) (l5 : Nat) (c6 : Nat) (a7 : Addr) (R : Ending → Hp → Prop) : vfun Pg W an_60 Try.f60 [(.slice x1 l2 c3), (.slice x4 l5 c6), (.pointer (some a7))] R = T_lot_Draw_c1 W x1 l2 c3 x4 l5 c6 a7 R := by kernel_rfl
theorem does_lot_Draw_c1 (W : World) (x1 : Option Addr) (l2 : Nat) (c3 : Nat) (x4 : Option Addr) (l5 : Nat) (c6 : Nat) (a7 : Addr) (R : Ending → Hp → Prop) (s : Hp) (h : T_lot_Draw_c1 W x1 l2 c3 x4 l5 c6 a7 R s) : Does Pg W F_lot_Draw_c1 #[(.slice x1 l2 c3), (.slice x4 l5 c6), (.pointer (some a7))] s R :=
  does_of_vfun Pg W an_60 Try.func60 rfl (by kernel_rfl) (by rw [T_lot_Draw_c1_eq]; exact h)
def an_63 : Nat → Ann := fun b => match b with
  | _ => {}
abbrev rv_63 : List ResultVar := [.tmp 4]
abbrev rs_63 : List Nat := [10, 4]
def T_lot_lots_is (W : World) (p1 : Option Addr) (n2 : Int) (R : Ending → Hp → Prop) : Hp → Prop :=
  CALL Pg W F_lot_lots_plots [(.pointer p1)]
    (fun v3 => TYI .i64 v3 fun n5 =>
      CALL Pg W F_lot_within [(.int .i64 n2), (.int .i64 0), (.int .i64 (IntKind.wrap .i64 (n5 - 1)))]
        (fun v6 => TYB v6 fun b8 =>
          R (.returned (.bool b8)))
          (fun e7 => R (.panicked e7)))
      (fun e4 => R (.panicked e4))
theorem T_lot_lots_is_eq (W : World) (p1 : Option Addr) (n2 : Int) (R : Ending → Hp → Prop) : vfun Pg W an_63 Try.f63 [(.pointer p1), (.int .i64 n2)] R = T_lot_lots_is W p1 n2 R := by kernel_rfl
theorem does_lot_lots_is (W : World) (p1 : Option Addr) (n2 : Int) (R : Ending → Hp → Prop) (s : Hp) (h : T_lot_lots_is W p1 n2 R s) : Does Pg W F_lot_lots_is #[(.pointer p1), (.int .i64 n2)] s R :=
  does_of_vfun Pg W an_63 Try.func63 rfl (by kernel_rfl) (by rw [T_lot_lots_is_eq]; exact h)
def an_64 : Nat → Ann := fun b => match b with
  | _ => {}
abbrev rv_64 : List ResultVar := [.tmp 2]
abbrev rs_64 : List Nat := [9, 2]
def T_lot_lots_plots (W : World) (p1 : Option Addr) (R : Ending → Hp → Prop) : Hp → Prop :=
  SO p1 fun a2 =>
    RDL (Addr.add (Addr.add a2 0) 0) fun x3 l4 c5 =>
      R (.returned (.int .i64 (↑l4 : Int)))
theorem T_lot_lots_plots_eq (W : World) (p1 : Option Addr) (R : Ending → Hp → Prop) : vfun Pg W an_64 Try.f64 [(.pointer p1)] R = T_lot_lots_plots W p1 R := by kernel_rfl
theorem does_lot_lots_plots (W : World) (p1 : Option Addr) (R : Ending → Hp → Prop) (s : Hp) (h : T_lot_lots_plots W p1 R s) : Does Pg W F_lot_lots_plots #[(.pointer p1)] s R :=
  does_of_vfun Pg W an_64 Try.func64 rfl (by kernel_rfl) (by rw [T_lot_lots_plots_eq]; exact h)
def an_65 : Nat → Ann := fun b => match b with
  | _ => {}
abbrev rv_65 : List ResultVar := [.tmp 6]
abbrev rs_65 : List Nat := [16, 6]
def T_lot_lots_often (W : World) (p1 : Option Addr) (n2 : Int) (n3 : Int) (R : Ending → Hp → Prop) : Hp → Prop :=
  CALL Pg W F_lot_lots_counted [(.pointer p1), (.iface 113 (.agg #[(.int .i64 n3), (.int .i64 n2)]))]
    (fun v4 => CALL Pg W F_lot_lots_all [(.pointer p1)]
      (fun v6 => TYI .u64 v6 fun n8 =>
        CALLV Pg W v4 [(.int .u64 n8), (.int .i64 8)]
          (fun v9 => TYI .i64 v9 fun n11 =>
            R (.returned (.int .i64 n11)))
            (fun e10 => R (.panicked e10)))
        (fun e7 => R (.panicked e7)))
      (fun e5 => R (.panicked e5))
theorem T_lot_lots_often_eq (W : World) (p1 : Option Addr) (n2 : Int) (n3 : Int) (R : Ending → Hp → Prop) : vfun Pg W an_65 Try.f65 [(.pointer p1), (.int .i64 n2), (.int .i64 n3)] R = T_lot_lots_often W p1 n2 n3 R := by kernel_rfl
theorem does_lot_lots_often (W : World) (p1 : Option Addr) (n2 : Int) (n3 : Int) (R : Ending → Hp → Prop) (s : Hp) (h : T_lot_lots_often W p1 n2 n3 R s) : Does Pg W F_lot_lots_often #[(.pointer p1), (.int .i64 n2), (.int .i64 n3)] s R :=
  does_of_vfun Pg W an_65 Try.func65 rfl (by kernel_rfl) (by rw [T_lot_lots_often_eq]; exact h)
def an_71 : Nat → Ann := fun b => match b with
  | 0 => { ms := [], ks := [.i .i64], us := [], rt := false, ex := [] }
  | _ => {}
abbrev rv_71 : List ResultVar := [.cell 7 3, .cell 8 3]
abbrev rs_71 : List Nat := [78, 7, 8]
def T_lot_Least_c1 (W : World) (n1 : Int) (n2 : Int) (a3 : Addr) (a4 : Addr) (a5 : Addr) (R : Ending → Hp → Prop) : Hp → Prop :=
  NEW 74 [(.int .u64 n1)] fun B6 =>
    NEW 3 [(.int .i64 n2)] fun B7 =>
      NEWZ Pg 3 fun B8 =>
        NEWZ Pg 3 fun B9 =>
          RDI .u64 ⟨B6, 0, none⟩ fun n10 =>
            BR (n10 == 0)
              (WR (Addr.add ⟨B8, 0, none⟩ 0) (.int .i64 0) <|
                WR (Addr.add ⟨B9, 0, none⟩ 0) (.int .i64 8) <|
                  RDI .i64 ⟨B8, 0, none⟩ fun n11 =>
                    RDI .i64 ⟨B9, 0, none⟩ fun n12 =>
                      R (.returned (.tuple #[(.int .i64 n11), (.int .i64 n12)])))
              (RDI .u64 ⟨B6, 0, none⟩ fun n13 =>
                RDI .i64 ⟨B7, 0, none⟩ fun n14 =>
                  IXA a3 256 n13 9 fun a15 =>
                    IXA a15 9 n14 1 fun a16 =>
                      RDI .i64 a16 fun n17 =>
                        BR (decide (n17 > 0))
                          (WR (Addr.add ⟨B8, 0, none⟩ 0) (.int .i64 (IntKind.wrap .i64 (Int.tdiv n17 9))) <|
                            WR (Addr.add ⟨B9, 0, none⟩ 0) (.int .i64 (IntKind.wrap .i64 ((Int.tmod n17 9) - 1))) <|
                              RDI .i64 ⟨B8, 0, none⟩ fun n18 =>
                                RDI .i64 ⟨B9, 0, none⟩ fun n19 =>
                                  R (.returned (.tuple #[(.int .i64 n18), (.int .i64 n19)])))
                          (WR (Addr.add ⟨B8, 0, none⟩ 0) (.int .i64 (-1)) <|
                            WR (Addr.add ⟨B9, 0, none⟩ 0) (.int .i64 8) <|
                              RDP a4 fun p20 =>
                                RDI .u64 ⟨B6, 0, none⟩ fun n21 =>
                                  CALL Pg W F_lot_lots_plot [(.pointer p20), (.int .u64 n21)]
                                    (fun v22 => TYI .i64 v22 fun n24 =>
                                      NEWZ Pg 3 fun B25 =>
                                        WR (Addr.add ⟨B25, 0, none⟩ 0) (.int .i64 n24) <|
                                          RDP a4 fun p26 =>
                                            RDI .u64 ⟨B6, 0, none⟩ fun n27 =>
                                              CALL Pg W F_lot_lots_men [(.pointer p26), (.int .u64 n27)]
                                                (fun v28 => RNGN Pg W v28 1
                                                  (fun y30 fin31 => HD y30 fun v32 r33 => TYI .i64 v32 fun n34 =>
                                                    NL r33 <|
                                                      RDP a4 fun p35 =>
                                                        RDI .i64 ⟨B25, 0, none⟩ fun n36 =>
                                                          RDI .i64 ⟨B7, 0, none⟩ fun n37 =>
                                                            CALL Pg W F_lot_lots_broken [(.pointer p35), (.int .i64 n36), (.int .i64 n34), (.int .i64 n37)]
                                                              (fun v38 => TUP v38 fun q40 => HD q40 fun v41 r42 => TYI .i64 v41 fun n43 =>
                                                                HD r42 fun v44 r45 => TYI .i64 v44 fun n46 =>
                                                                  NL r45 <|
                                                                    RDV a5 fun v47 =>
                                                                      RDI .u64 ⟨B6, 0, none⟩ fun n48 =>
                                                                        NNI n34 <|
                                                                          CALLV Pg W v47 [(.int .u64 (andnv .u64 n48 (shlv .u64 1 n34))), (.int .i64 n34)]
                                                                            (fun v49 => TUP v49 fun q51 => HD q51 fun v52 r53 => TYI .i64 v52 fun n54 =>
                                                                              HD r53 fun v55 r56 => TYI .i64 v55 fun n57 =>
                                                                                NL r56 <|
                                                                                  RDI .i64 ⟨B8, 0, none⟩ fun n58 =>
                                                                                    BR (decide (n58 < 0))
                                                                                      (WR (Addr.add ⟨B8, 0, none⟩ 0) (.int .i64 (IntKind.wrap .i64 (n43 + n54))) <|
                                                                                        WR (Addr.add ⟨B9, 0, none⟩ 0) (.int .i64 n34) <|
                                                                                          fin31 none)
                                                                                      (RDI .i64 ⟨B8, 0, none⟩ fun n59 =>
                                                                                        BR (decide ((IntKind.wrap .i64 (n43 + n54)) < n59))
                                                                                          (WR (Addr.add ⟨B8, 0, none⟩ 0) (.int .i64 (IntKind.wrap .i64 (n43 + n54))) <|
                                                                                            WR (Addr.add ⟨B9, 0, none⟩ 0) (.int .i64 n34) <|
                                                                                              fin31 none)
                                                                                          (fin31 none)))
                                                                              (fun e50 => FF))
                                                                (fun e39 => FF))
                                                  (AFT
                                                    (RDI .u64 ⟨B6, 0, none⟩ fun n60 =>
                                                      RDI .i64 ⟨B7, 0, none⟩ fun n61 =>
                                                        RDI .i64 ⟨B8, 0, none⟩ fun n62 =>
                                                          RDI .i64 ⟨B9, 0, none⟩ fun n63 =>
                                                            IXA a3 256 n60 9 fun a64 =>
                                                              IXA a64 9 n61 1 fun a65 =>
                                                                WR (Addr.add a65 0) (.int .i64 (IntKind.wrap .i64 ((IntKind.wrap .i64 ((IntKind.wrap .i64 (n62 * 9)) + n63)) + 1))) <|
                                                                  RDI .i64 ⟨B8, 0, none⟩ fun n66 =>
                                                                    RDI .i64 ⟨B9, 0, none⟩ fun n67 =>
                                                                      WR (Addr.add ⟨B8, 0, none⟩ 0) (.int .i64 n66) <|
                                                                        ANDS (RDI .i64 ⟨B9, 0, none⟩ fun n68 =>
                                                                          fun _ => ((.int .i64 n68) : Value) = (.int .i64 n67)) <|
                                                                          WR (Addr.add ⟨B9, 0, none⟩ 0) (.int .i64 n67) <|
                                                                            RDI .i64 ⟨B8, 0, none⟩ fun n69 =>
                                                                              RDI .i64 ⟨B9, 0, none⟩ fun n70 =>
                                                                                R (.returned (.tuple #[(.int .i64 n69), (.int .i64 n70)]))) (FF) (EXL [] fun _ => FF)))
                                                  (fun e29 => R (.panicked e29)))
                                      (fun e23 => R (.panicked e23))))
theorem T_lot_Least_c1_eq (W : World) (n1 : Int) (n2 : Int) (a3 : Addr) (a4 : Addr) (a5 : Addr) (R : Ending → Hp → Prop) : vfun Pg W an_71 Try.f71 [(.int .u64 n1), (.int .i64 n2), (.pointer (some a3)), (.pointer (some a4)), (.pointer (some a5))] R = T_lot_Least_c1 W n1 n2 a3 a4 a5 R := by kernel_rfl
theorem does_lot_Least_c1 (W : World) (n1 : Int) (n2 : Int) (a3 : Addr) (a4 : Addr) (a5 : Addr) (R : Ending → Hp → Prop) (s : Hp) (h : T_lot_Least_c1 W n1 n2 a3 a4 a5 R s) : Does Pg W F_lot_Least_c1 #[(.int .u64 n1), (.int .i64 n2), (.pointer (some a3)), (.pointer (some a4)), (.pointer (some a5))] s R :=
  does_of_vfun Pg W an_71 Try.func71 rfl (by kernel_rfl) (by rw [T_lot_Least_c1_eq]; exact h)
def an_72 : Nat → Ann := fun b => match b with
  | 0 => { ms := [], ks := [.v], us := [], rt := false, ex := [] }
  | _ => {}
abbrev rv_72 : List ResultVar := [.tmp 4]
abbrev rs_72 : List Nat := [15, 4]
def T_lot_lots_plot (W : World) (p1 : Option Addr) (n2 : Int) (R : Ending → Hp → Prop) : Hp → Prop :=
  CALL Pg W F_lot_lots_plots [(.pointer p1)]
    (fun v3 => TYI .i64 v3 fun n5 =>
      NEWZ Pg 3 fun B6 =>
        WR (Addr.add ⟨B6, 0, none⟩ 0) (.int .i64 n5) <|
          CALL Pg W F_lot_lots_men [(.pointer p1), (.int .u64 n2)]
            (fun v7 => RNGN Pg W v7 1
              (fun y9 fin10 => HD y9 fun v11 r12 => NL r12 <|
                RDI .i64 ⟨B6, 0, none⟩ fun n13 =>
                  WR (Addr.add ⟨B6, 0, none⟩ 0) (.int .i64 (IntKind.wrap .i64 (n13 - 1))) <|
                    fin10 none)
              (AFT
                (RDI .i64 ⟨B6, 0, none⟩ fun n14 =>
                  R (.returned (.int .i64 n14))) (FF) (EXL [] fun _ => FF)))
              (fun e8 => R (.panicked e8)))
      (fun e4 => R (.panicked e4))
theorem T_lot_lots_plot_eq (W : World) (p1 : Option Addr) (n2 : Int) (R : Ending → Hp → Prop) : vfun Pg W an_72 Try.f72 [(.pointer p1), (.int .u64 n2)] R = T_lot_lots_plot W p1 n2 R := by kernel_rfl
theorem does_lot_lots_plot (W : World) (p1 : Option Addr) (n2 : Int) (R : Ending → Hp → Prop) (s : Hp) (h : T_lot_lots_plot W p1 n2 R s) : Does Pg W F_lot_lots_plot #[(.pointer p1), (.int .u64 n2)] s R :=
  does_of_vfun Pg W an_72 Try.func72 rfl (by kernel_rfl) (by rw [T_lot_lots_plot_eq]; exact h)
def an_73 : Nat → Ann := fun b => match b with
  | _ => {}
abbrev rv_73 : List ResultVar := [.tmp 4]
abbrev rs_73 : List Nat := [6, 4]
def T_lot_lots_men (W : World) (p1 : Option Addr) (n2 : Int) (R : Ending → Hp → Prop) : Hp → Prop :=
  NEW 63 [(.pointer p1)] fun B3 =>
    NEW 74 [(.int .u64 n2)] fun B4 =>
      R (.returned (.func (.func 80) #[] #[(.pointer (some ⟨B3, 0, none⟩)), (.pointer (some ⟨B4, 0, none⟩))]))
theorem T_lot_lots_men_eq (W : World) (p1 : Option Addr) (n2 : Int) (R : Ending → Hp → Prop) : vfun Pg W an_73 Try.f73 [(.pointer p1), (.int .u64 n2)] R = T_lot_lots_men W p1 n2 R := by kernel_rfl
theorem does_lot_lots_men (W : World) (p1 : Option Addr) (n2 : Int) (R : Ending → Hp → Prop) (s : Hp) (h : T_lot_lots_men W p1 n2 R s) : Does Pg W F_lot_lots_men #[(.pointer p1), (.int .u64 n2)] s R :=
  does_of_vfun Pg W an_73 Try.func73 rfl (by kernel_rfl) (by rw [T_lot_lots_men_eq]; exact h)
def an_74 : Nat → Ann := fun b => match b with
  | 0 => { ms := [8, 9, 17], ks := [.i .i64, .i .i64, .i .i64], us := [0, 1, 2, 3, 15, 16, 38], rt := false, ex := [] }
  | _ => {}
abbrev rv_74 : List ResultVar := [.tmp 8, .tmp 9]
abbrev rs_74 : List Nat := [38, 8, 9]
def L_lot_lots_broken_0 (W : World) (R : Ending → Hp → Prop) (zp0 : Option Addr) (zn1 : Int) (zn2 : Int) (zn3 : Int) (zp4 : Option Addr) (zl5 : Nat) (zl6 : Nat) (zn7 : Int) (n9 : Int) (n10 : Int) (n11 : Int) : Hp → Prop :=
  LOOPN [.i .i64, .i .i64, .i .i64] (fun ys next s => ∀ j : Tm, vc Pg W 38 rs_74 an_74 false (sub (bodyOf Try.f74) [1, 0, 1, 0, 0]) 0 (KLoop [8, 9, 17] [0, 1, 2, 3, 15, 16, 38] [(.pointer zp0), (.int .i64 zn1), (.int .i64 zn2), (.int .i64 zn3), (.slice zp4 zl5 zl6), (.int .i64 zn7), (.tuple #[])] next (KBlk 0 (KS Pg W 38 rs_74 an_74 false (sub (bodyOf Try.f74) [1, 1]) 0 (fin Pg W 38 rv_74 R)))) (known [8, 9, 17] ys (known [0, 1, 2, 3, 15, 16, 38] [(.pointer zp0), (.int .i64 zn1), (.int .i64 zn2), (.int .i64 zn3), (.slice zp4 zl5 zl6), (.int .i64 zn7), (.tuple #[])] j)) s) [(.int .i64 n9), (.int .i64 n10), (.int .i64 n11)]
def B_lot_lots_broken_0 (W : World) (R : Ending → Hp → Prop) (zp0 : Option Addr) (zn1 : Int) (zn2 : Int) (zn3 : Int) (zp4 : Option Addr) (zl5 : Nat) (zl6 : Nat) (zn7 : Int) (n9 : Int) (n10 : Int) (n11 : Int) (nx0 : List Value → Hp → Prop) : Hp → Prop :=
  BR (decide (n11 < zn7))
    (IXS zp4 zl5 n11 2 fun a12 =>
      RDI .i64 (Addr.add a12 0) fun n13 =>
        RDV (Addr.add a12 1) fun v14 =>
          NEWZ Pg 116 fun B15 =>
            WR (Addr.add ⟨B15, 0, none⟩ 0) (.int .i64 n13) <|
              WR (Addr.add ⟨B15, 0, none⟩ 1) v14 <|
                RDV (Addr.add ⟨B15, 0, none⟩ 1) fun v16 =>
                  CALLV Pg W v16 [(.pointer zp0), (.int .i64 zn1), (.int .i64 zn2), (.int .i64 zn3)]
                    (fun v17 => TYB v17 fun b19 =>
                      BR (!b19)
                        (NX [(.pointer zp0), (.int .i64 zn1), (.int .i64 zn2), (.int .i64 zn3), (.slice zp4 zl5 zl6), (.int .i64 zn7), (.tuple #[])] [(.pointer zp0), (.int .i64 zn1), (.int .i64 zn2), (.int .i64 zn3), (.slice zp4 zl5 zl6), (.int .i64 zn7), (.tuple #[])] (nx0 [(.int .i64 n9), (.int .i64 n10), (.int .i64 (IntKind.wrap .i64 (n11 + 1)))]))
                        (BR (n9 == 0)
                          (RDI .i64 (Addr.add ⟨B15, 0, none⟩ 0) fun n20 =>
                            NX [(.pointer zp0), (.int .i64 zn1), (.int .i64 zn2), (.int .i64 zn3), (.slice zp4 zl5 zl6), (.int .i64 zn7), (.tuple #[])] [(.pointer zp0), (.int .i64 zn1), (.int .i64 zn2), (.int .i64 zn3), (.slice zp4 zl5 zl6), (.int .i64 zn7), (.tuple #[])] (nx0 [(.int .i64 (IntKind.wrap .i64 (n9 + 1))), (.int .i64 n20), (.int .i64 (IntKind.wrap .i64 (n11 + 1)))]))
                          (NX [(.pointer zp0), (.int .i64 zn1), (.int .i64 zn2), (.int .i64 zn3), (.slice zp4 zl5 zl6), (.int .i64 zn7), (.tuple #[])] [(.pointer zp0), (.int .i64 zn1), (.int .i64 zn2), (.int .i64 zn3), (.slice zp4 zl5 zl6), (.int .i64 zn7), (.tuple #[])] (nx0 [(.int .i64 (IntKind.wrap .i64 (n9 + 1))), (.int .i64 n10), (.int .i64 (IntKind.wrap .i64 (n11 + 1)))]))))
                      (fun e18 => R (.panicked e18)))
    (R (.returned (.tuple #[(.int .i64 n9), (.int .i64 n10)])))
theorem B_lot_lots_broken_0_eq (W : World) (R : Ending → Hp → Prop) (zp0 : Option Addr) (zn1 : Int) (zn2 : Int) (zn3 : Int) (zp4 : Option Addr) (zl5 : Nat) (zl6 : Nat) (zn7 : Int) (n9 : Int) (n10 : Int) (n11 : Int) (nx0 : List Value → Hp → Prop) (j : Tm) : vc Pg W 38 rs_74 an_74 false (sub (bodyOf Try.f74) [1, 0, 1, 0, 0]) 0 (KLoop [8, 9, 17] [0, 1, 2, 3, 15, 16, 38] [(.pointer zp0), (.int .i64 zn1), (.int .i64 zn2), (.int .i64 zn3), (.slice zp4 zl5 zl6), (.int .i64 zn7), (.tuple #[])] nx0 (KBlk 0 (KS Pg W 38 rs_74 an_74 false (sub (bodyOf Try.f74) [1, 1]) 0 (fin Pg W 38 rv_74 R)))) (known [8, 9, 17] [(.int .i64 n9), (.int .i64 n10), (.int .i64 n11)] (known [0, 1, 2, 3, 15, 16, 38] [(.pointer zp0), (.int .i64 zn1), (.int .i64 zn2), (.int .i64 zn3), (.slice zp4 zl5 zl6), (.int .i64 zn7), (.tuple #[])] j)) = B_lot_lots_broken_0 W R zp0 zn1 zn2 zn3 zp4 zl5 zl6 zn7 n9 n10 n11 nx0 := by kernel_rfl
def N_lot_lots_broken_0 (I : Int → Int → Int → Hp → Prop) (μ : Int → Int → Int → Hp → Nat) (n90 : Int) (n100 : Int) (n110 : Int) (s : Hp) (vs : List Value) : Hp → Prop := fun s' => ∃ n9 n10 n11, vs = [(.int .i64 n9), (.int .i64 n10), (.int .i64 n11)] ∧ I n9 n10 n11 s' ∧ μ n9 n10 n11 s' < μ n90 n100 n110 s
theorem L_lot_lots_broken_0_rule (W : World) (R : Ending → Hp → Prop) (zp0 : Option Addr) (zn1 : Int) (zn2 : Int) (zn3 : Int) (zp4 : Option Addr) (zl5 : Nat) (zl6 : Nat) (zn7 : Int) (I : Int → Int → Int → Hp → Prop) (μ : Int → Int → Int → Hp → Nat) (n90 : Int) (n100 : Int) (n110 : Int) (s : Hp) (h0 : I n90 n100 n110 s)
    (hr : ∀ (n9 : Int) (n10 : Int) (n11 : Int) (s : Hp), I n9 n10 n11 s → B_lot_lots_broken_0 W R zp0 zn1 zn2 zn3 zp4 zl5 zl6 zn7 n9 n10 n11 (fun vs => N_lot_lots_broken_0 I μ n9 n10 n11 s vs) s) : L_lot_lots_broken_0 W R zp0 zn1 zn2 zn3 zp4 zl5 zl6 zn7 n90 n100 n110 s := by
  refine ⟨fun vs s => ∃ n9 n10 n11, vs = [(.int .i64 n9), (.int .i64 n10), (.int .i64 n11)] ∧ I n9 n10 n11 s, fun vs s => (match vs with | [.int _ n9, .int _ n10, .int _ n11] => μ n9 n10 n11 s | _ => 0), ⟨⟨⟨_, rfl⟩, ⟨⟨_, rfl⟩, ⟨⟨_, rfl⟩, trivial⟩⟩⟩, ⟨_, _, _, rfl, h0⟩⟩, ?_⟩
  intro n9 n10 n11 s hI j
  obtain ⟨n9', n10', n11', hy, hI⟩ := hI
  have hI' : I n9 n10 n11 s := by cases hy; exact hI
  have hh := hr n9 n10 n11 s hI'
  rw [← B_lot_lots_broken_0_eq W R zp0 zn1 zn2 zn3 zp4 zl5 zl6 zn7 n9 n10 n11 _ j] at hh
  refine vc_mono ?_ _ _ hh
  exact KLoop_mono (fun vs s' h => by obtain ⟨n91, n101, n111, rfl, h1, h2⟩ := h; exact ⟨⟨⟨_, rfl⟩, ⟨⟨_, rfl⟩, ⟨⟨_, rfl⟩, trivial⟩⟩⟩, ⟨_, _, _, rfl, h1⟩, h2⟩)
def T_lot_lots_broken (W : World) (p1 : Option Addr) (n2 : Int) (n3 : Int) (n4 : Int) (R : Ending → Hp → Prop) : Hp → Prop :=
  SO p1 fun a5 =>
    RDL (Addr.add a5 2) fun x6 l7 c8 =>
      L_lot_lots_broken_0 W R p1 n2 n3 n4 x6 l7 c8 (↑l7 : Int) 0 0 0
theorem T_lot_lots_broken_eq (W : World) (p1 : Option Addr) (n2 : Int) (n3 : Int) (n4 : Int) (R : Ending → Hp → Prop) : vfun Pg W an_74 Try.f74 [(.pointer p1), (.int .i64 n2), (.int .i64 n3), (.int .i64 n4)] R = T_lot_lots_broken W p1 n2 n3 n4 R := by kernel_rfl
theorem does_lot_lots_broken (W : World) (p1 : Option Addr) (n2 : Int) (n3 : Int) (n4 : Int) (R : Ending → Hp → Prop) (s : Hp) (h : T_lot_lots_broken W p1 n2 n3 n4 R s) : Does Pg W F_lot_lots_broken #[(.pointer p1), (.int .i64 n2), (.int .i64 n3), (.int .i64 n4)] s R :=
  does_of_vfun Pg W an_74 Try.func74 rfl (by kernel_rfl) (by rw [T_lot_lots_broken_eq]; exact h)
def an_76 : Nat → Ann := fun b => match b with
  | _ => {}
abbrev rv_76 : List ResultVar := [.tmp 0]
abbrev rs_76 : List Nat := [5, 0]
def T_lot_rules (W : World) (R : Ending → Hp → Prop) : Hp → Prop :=
  NEW 116 [(.int .i64 1), (.func (.func 81) #[] #[]), (.int .i64 2), (.func (.func 83) #[] #[]), (.int .i64 3), (.func (.func 84) #[] #[])] fun B1 =>
    R (.returned (.slice (some ⟨B1, 0, none⟩) 3 3))
theorem T_lot_rules_eq (W : World) (R : Ending → Hp → Prop) : vfun Pg W an_76 Try.f76 [] R = T_lot_rules W R := by kernel_rfl
theorem does_lot_rules (W : World) (R : Ending → Hp → Prop) (s : Hp) (h : T_lot_rules W R s) : Does Pg W F_lot_rules #[] s R :=
  does_of_vfun Pg W an_76 Try.func76 rfl (by kernel_rfl) (by rw [T_lot_rules_eq]; exact h)
def an_77 : Nat → Ann := fun b => match b with
  | _ => {}
abbrev rv_77 : List ResultVar := [.tmp 4]
abbrev rs_77 : List Nat := [10, 4]
def T_lot_set_has (W : World) (n1 : Int) (n2 : Int) (R : Ending → Hp → Prop) : Hp → Prop :=
  NNI n2 <|
    R (.returned (.bool ((andv .u64 (shrv .u64 n1 n2) 1) == 1)))
theorem T_lot_set_has_eq (W : World) (n1 : Int) (n2 : Int) (R : Ending → Hp → Prop) : vfun Pg W an_77 Try.f77 [(.int .u64 n1), (.int .i64 n2)] R = T_lot_set_has W n1 n2 R := by kernel_rfl
theorem does_lot_set_has (W : World) (n1 : Int) (n2 : Int) (R : Ending → Hp → Prop) (s : Hp) (h : T_lot_set_has W n1 n2 R s) : Does Pg W F_lot_set_has #[(.int .u64 n1), (.int .i64 n2)] s R :=
  does_of_vfun Pg W an_77 Try.func77 rfl (by kernel_rfl) (by rw [T_lot_set_has_eq]; exact h)
def an_78 : Nat → Ann := fun b => match b with
  | 0 => { ms := [], ks := [.i .i64], us := [], rt := false, ex := [] }
  | _ => {}
abbrev rv_78 : List ResultVar := [.tmp 8]
abbrev rs_78 : List Nat := [65, 8]
def T_lot_lots_counted_c1 (W : World) (n1 : Int) (n2 : Int) (a3 : Addr) (a4 : Addr) (a5 : Addr) (a6 : Addr) (R : Ending → Hp → Prop) : Hp → Prop :=
  NEW 74 [(.int .u64 n1)] fun B7 =>
    NEW 3 [(.int .i64 n2)] fun B8 =>
      RDI .u64 ⟨B7, 0, none⟩ fun n9 =>
        BR (n9 == 0)
          (R (.returned (.int .i64 1)))
          (RDI .u64 ⟨B7, 0, none⟩ fun n10 =>
            RDI .i64 ⟨B8, 0, none⟩ fun n11 =>
              IXA a3 256 n10 9 fun a12 =>
                IXA a12 9 n11 1 fun a13 =>
                  RDI .i64 a13 fun n14 =>
                    BR (decide (n14 > 0))
                      (R (.returned (.int .i64 (IntKind.wrap .i64 (n14 - 1)))))
                      (RDP a4 fun p15 =>
                        RDI .u64 ⟨B7, 0, none⟩ fun n16 =>
                          CALL Pg W F_lot_lots_plot [(.pointer p15), (.int .u64 n16)]
                            (fun v17 => TYI .i64 v17 fun n19 =>
                              NEWZ Pg 3 fun B20 =>
                                NEWZ Pg 3 fun B21 =>
                                  WR (Addr.add ⟨B20, 0, none⟩ 0) (.int .i64 0) <|
                                    WR (Addr.add ⟨B21, 0, none⟩ 0) (.int .i64 n19) <|
                                      RDP a4 fun p22 =>
                                        RDI .u64 ⟨B7, 0, none⟩ fun n23 =>
                                          CALL Pg W F_lot_lots_men [(.pointer p22), (.int .u64 n23)]
                                            (fun v24 => RNGN Pg W v24 1
                                              (fun y26 fin27 => HD y26 fun v28 r29 => TYI .i64 v28 fun n30 =>
                                                NL r29 <|
                                                  RDP a4 fun p31 =>
                                                    RDI .i64 ⟨B21, 0, none⟩ fun n32 =>
                                                      RDI .i64 ⟨B8, 0, none⟩ fun n33 =>
                                                        CALL Pg W F_lot_lots_broken [(.pointer p31), (.int .i64 n32), (.int .i64 n30), (.int .i64 n33)]
                                                          (fun v34 => TUP v34 fun q36 => HD q36 fun v37 r38 => TYI .i64 v37 fun n39 =>
                                                            HD r38 fun v40 r41 => TYI .i64 v40 fun n42 =>
                                                              NL r41 <|
                                                                BR (n39 == 0)
                                                                  (RDV a5 fun v43 =>
                                                                    RDI .i64 ⟨B21, 0, none⟩ fun n44 =>
                                                                      INV Pg W v43 "furrowworks/lot.counts" [(.int .i64 n44), (.int .i64 n30)]
                                                                        (fun v45 => TYB v45 fun b47 =>
                                                                          BR b47
                                                                            (RDI .i64 ⟨B20, 0, none⟩ fun n48 =>
                                                                              RDV a6 fun v49 =>
                                                                                RDI .u64 ⟨B7, 0, none⟩ fun n50 =>
                                                                                  NNI n30 <|
                                                                                    CALLV Pg W v49 [(.int .u64 (andnv .u64 n50 (shlv .u64 1 n30))), (.int .i64 n30)]
                                                                                      (fun v51 => TYI .i64 v51 fun n53 =>
                                                                                        ANDS (RDI .i64 ⟨B20, 0, none⟩ fun n54 =>
                                                                                          fun _ => ((.int .i64 n54) : Value) = (.int .i64 n48)) <|
                                                                                          WR (Addr.add ⟨B20, 0, none⟩ 0) (.int .i64 (IntKind.wrap .i64 (n48 + n53))) <|
                                                                                            fin27 none)
                                                                                        (fun e52 => FF))
                                                                            (fin27 none))
                                                                          (fun e46 => FF))
                                                                  (fin27 none))
                                                            (fun e35 => FF))
                                              (AFT
                                                (RDI .u64 ⟨B7, 0, none⟩ fun n55 =>
                                                  RDI .i64 ⟨B8, 0, none⟩ fun n56 =>
                                                    RDI .i64 ⟨B20, 0, none⟩ fun n57 =>
                                                      IXA a3 256 n55 9 fun a58 =>
                                                        IXA a58 9 n56 1 fun a59 =>
                                                          WR (Addr.add a59 0) (.int .i64 (IntKind.wrap .i64 (n57 + 1))) <|
                                                            RDI .i64 ⟨B20, 0, none⟩ fun n60 =>
                                                              R (.returned (.int .i64 n60))) (FF) (EXL [] fun _ => FF)))
                                              (fun e25 => R (.panicked e25)))
                              (fun e18 => R (.panicked e18))))
theorem T_lot_lots_counted_c1_eq (W : World) (n1 : Int) (n2 : Int) (a3 : Addr) (a4 : Addr) (a5 : Addr) (a6 : Addr) (R : Ending → Hp → Prop) : vfun Pg W an_78 Try.f78 [(.int .u64 n1), (.int .i64 n2), (.pointer (some a3)), (.pointer (some a4)), (.pointer (some a5)), (.pointer (some a6))] R = T_lot_lots_counted_c1 W n1 n2 a3 a4 a5 a6 R := by kernel_rfl
theorem does_lot_lots_counted_c1 (W : World) (n1 : Int) (n2 : Int) (a3 : Addr) (a4 : Addr) (a5 : Addr) (a6 : Addr) (R : Ending → Hp → Prop) (s : Hp) (h : T_lot_lots_counted_c1 W n1 n2 a3 a4 a5 a6 R s) : Does Pg W F_lot_lots_counted_c1 #[(.int .u64 n1), (.int .i64 n2), (.pointer (some a3)), (.pointer (some a4)), (.pointer (some a5)), (.pointer (some a6))] s R :=
  does_of_vfun Pg W an_78 Try.func78 rfl (by kernel_rfl) (by rw [T_lot_lots_counted_c1_eq]; exact h)
def an_80 : Nat → Ann := fun b => match b with
  | 0 => { ms := [7], ks := [.i .i64], us := [0, 2, 6, 19], rt := false, ex := [] }
  | _ => {}
abbrev rv_80 : List ResultVar := []
abbrev rs_80 : List Nat := [19]
def L_lot_lots_men_c1_0 (W : World) (R : Ending → Hp → Prop) (zv0 : Value) (za1 : Addr) (zn2 : Int) (n8 : Int) : Hp → Prop :=
  LOOPN [.i .i64] (fun ys next s => ∀ j : Tm, vc Pg W 19 rs_80 an_80 false (sub (bodyOf Try.f80) [0, 1, 1, 0, 0]) 0 (KLoop [7] [0, 2, 6, 19] [zv0, (.pointer (some za1)), (.int .i64 zn2), (.tuple #[])] next (KBlk 0 (fin Pg W 19 rv_80 R))) (known [7] ys (known [0, 2, 6, 19] [zv0, (.pointer (some za1)), (.int .i64 zn2), (.tuple #[])] j)) s) [(.int .i64 n8)]
def B_lot_lots_men_c1_0 (W : World) (R : Ending → Hp → Prop) (zv0 : Value) (za1 : Addr) (zn2 : Int) (n8 : Int) (nx0 : List Value → Hp → Prop) : Hp → Prop :=
  BR (decide (n8 < zn2))
    (RDI .u64 za1 fun n9 =>
      CALL Pg W F_lot_set_has [(.int .u64 n9), (.int .i64 n8)]
        (fun v10 => TYB v10 fun b12 =>
          BR (!b12)
            (NX [zv0, (.pointer (some za1)), (.int .i64 zn2), (.tuple #[])] [zv0, (.pointer (some za1)), (.int .i64 zn2), (.tuple #[])] (nx0 [(.int .i64 (IntKind.wrap .i64 (n8 + 1)))]))
            (CALLV Pg W zv0 [(.int .i64 n8)]
              (fun v13 => TYB v13 fun b15 =>
                BR (!b15)
                  (R (.returned (.tuple #[])))
                  (NX [zv0, (.pointer (some za1)), (.int .i64 zn2), (.tuple #[])] [zv0, (.pointer (some za1)), (.int .i64 zn2), (.tuple #[])] (nx0 [(.int .i64 (IntKind.wrap .i64 (n8 + 1)))])))
                (fun e14 => R (.panicked e14))))
          (fun e11 => R (.panicked e11)))
    (R (.returned (.tuple #[])))
theorem B_lot_lots_men_c1_0_eq (W : World) (R : Ending → Hp → Prop) (zv0 : Value) (za1 : Addr) (zn2 : Int) (n8 : Int) (nx0 : List Value → Hp → Prop) (j : Tm) : vc Pg W 19 rs_80 an_80 false (sub (bodyOf Try.f80) [0, 1, 1, 0, 0]) 0 (KLoop [7] [0, 2, 6, 19] [zv0, (.pointer (some za1)), (.int .i64 zn2), (.tuple #[])] nx0 (KBlk 0 (fin Pg W 19 rv_80 R))) (known [7] [(.int .i64 n8)] (known [0, 2, 6, 19] [zv0, (.pointer (some za1)), (.int .i64 zn2), (.tuple #[])] j)) = B_lot_lots_men_c1_0 W R zv0 za1 zn2 n8 nx0 := by kernel_rfl
def N_lot_lots_men_c1_0 (I : Int → Hp → Prop) (μ : Int → Hp → Nat) (n80 : Int) (s : Hp) (vs : List Value) : Hp → Prop := fun s' => ∃ n8, vs = [(.int .i64 n8)] ∧ I n8 s' ∧ μ n8 s' < μ n80 s
theorem L_lot_lots_men_c1_0_rule (W : World) (R : Ending → Hp → Prop) (zv0 : Value) (za1 : Addr) (zn2 : Int) (I : Int → Hp → Prop) (μ : Int → Hp → Nat) (n80 : Int) (s : Hp) (h0 : I n80 s)
    (hr : ∀ (n8 : Int) (s : Hp), I n8 s → B_lot_lots_men_c1_0 W R zv0 za1 zn2 n8 (fun vs => N_lot_lots_men_c1_0 I μ n8 s vs) s) : L_lot_lots_men_c1_0 W R zv0 za1 zn2 n80 s := by
  refine ⟨fun vs s => ∃ n8, vs = [(.int .i64 n8)] ∧ I n8 s, fun vs s => (match vs with | [.int _ n8] => μ n8 s | _ => 0), ⟨⟨⟨_, rfl⟩, trivial⟩, ⟨_, rfl, h0⟩⟩, ?_⟩
  intro n8 s hI j
  obtain ⟨n8', hy, hI⟩ := hI
  have hI' : I n8 s := by cases hy; exact hI
  have hh := hr n8 s hI'
  rw [← B_lot_lots_men_c1_0_eq W R zv0 za1 zn2 n8 _ j] at hh
  refine vc_mono ?_ _ _ hh
  exact KLoop_mono (fun vs s' h => by obtain ⟨n81, rfl, h1, h2⟩ := h; exact ⟨⟨⟨_, rfl⟩, trivial⟩, ⟨_, rfl, h1⟩, h2⟩)
def T_lot_lots_men_c1 (W : World) (v1 : Value) (a2 : Addr) (a3 : Addr) (R : Ending → Hp → Prop) : Hp → Prop :=
  RDP a2 fun p4 =>
    CALL Pg W F_lot_lots_plots [(.pointer p4)]
      (fun v5 => TYI .i64 v5 fun n7 =>
        L_lot_lots_men_c1_0 W R v1 a3 n7 0)
        (fun e6 => R (.panicked e6))
theorem T_lot_lots_men_c1_eq (W : World) (v1 : Value) (a2 : Addr) (a3 : Addr) (R : Ending → Hp → Prop) : vfun Pg W an_80 Try.f80 [v1, (.pointer (some a2)), (.pointer (some a3))] R = T_lot_lots_men_c1 W v1 a2 a3 R := by kernel_rfl
theorem does_lot_lots_men_c1 (W : World) (v1 : Value) (a2 : Addr) (a3 : Addr) (R : Ending → Hp → Prop) (s : Hp) (h : T_lot_lots_men_c1 W v1 a2 a3 R s) : Does Pg W F_lot_lots_men_c1 #[v1, (.pointer (some a2)), (.pointer (some a3))] s R :=
  does_of_vfun Pg W an_80 Try.func80 rfl (by kernel_rfl) (by rw [T_lot_lots_men_c1_eq]; exact h)
def an_81 : Nat → Ann := fun b => match b with
  | _ => {}
abbrev rv_81 : List ResultVar := [.tmp 8]
abbrev rs_81 : List Nat := [27, 8]
def T_lot_rules_c1 (W : World) (p1 : Option Addr) (n2 : Int) (n3 : Int) (n4 : Int) (R : Ending → Hp → Prop) : Hp → Prop :=
  BR (n4 != 8)
    (CALL Pg W F_lot_lots_club [(.pointer p1), (.int .i64 n3)]
      (fun v5 => AGG v5 fun q7 => HD q7 fun v8 r9 => TYI .i64 v8 fun n10 =>
        NL r9 <|
          BR (!(n10 == 0))
            (CALL Pg W F_lot_lots_club [(.pointer p1), (.int .i64 n3)]
              (fun v11 => AGG v11 fun q13 => HD q13 fun v14 r15 => TYI .i64 v14 fun n16 =>
                NL r15 <|
                  CALL Pg W F_lot_lots_club [(.pointer p1), (.int .i64 n4)]
                    (fun v17 => AGG v17 fun q19 => HD q19 fun v20 r21 => TYI .i64 v20 fun n22 =>
                      NL r21 <|
                        R (.returned (.bool (n16 == n22))))
                      (fun e18 => R (.panicked e18)))
                (fun e12 => R (.panicked e12)))
            (R (.returned (.bool false))))
        (fun e6 => R (.panicked e6)))
    (R (.returned (.bool false)))
theorem T_lot_rules_c1_eq (W : World) (p1 : Option Addr) (n2 : Int) (n3 : Int) (n4 : Int) (R : Ending → Hp → Prop) : vfun Pg W an_81 Try.f81 [(.pointer p1), (.int .i64 n2), (.int .i64 n3), (.int .i64 n4)] R = T_lot_rules_c1 W p1 n2 n3 n4 R := by kernel_rfl
theorem does_lot_rules_c1 (W : World) (p1 : Option Addr) (n2 : Int) (n3 : Int) (n4 : Int) (R : Ending → Hp → Prop) (s : Hp) (h : T_lot_rules_c1 W p1 n2 n3 n4 R s) : Does Pg W F_lot_rules_c1 #[(.pointer p1), (.int .i64 n2), (.int .i64 n3), (.int .i64 n4)] s R :=
  does_of_vfun Pg W an_81 Try.func81 rfl (by kernel_rfl) (by rw [T_lot_rules_c1_eq]; exact h)
def an_82 : Nat → Ann := fun b => match b with
  | _ => {}
abbrev rv_82 : List ResultVar := [.cell 4 118]
abbrev rs_82 : List Nat := [15, 4]
def T_lot_lots_club (W : World) (p1 : Option Addr) (n2 : Int) (R : Ending → Hp → Prop) : Hp → Prop :=
  NEWZ Pg 118 fun B3 =>
    SO p1 fun a4 =>
      RDL (Addr.add (Addr.add a4 0) 0) fun x5 l6 c7 =>
        IXS x5 l6 n2 3 fun a8 =>
          RDI .i64 (Addr.add a8 0) fun n9 =>
            WR (Addr.add ⟨B3, 0, none⟩ 0) (.int .i64 n9) <|
              RDI .i64 (Addr.add ⟨B3, 0, none⟩ 0) fun n10 =>
                R (.returned (.agg #[(.int .i64 n10)]))
theorem T_lot_lots_club_eq (W : World) (p1 : Option Addr) (n2 : Int) (R : Ending → Hp → Prop) : vfun Pg W an_82 Try.f82 [(.pointer p1), (.int .i64 n2)] R = T_lot_lots_club W p1 n2 R := by kernel_rfl
theorem does_lot_lots_club (W : World) (p1 : Option Addr) (n2 : Int) (R : Ending → Hp → Prop) (s : Hp) (h : T_lot_lots_club W p1 n2 R s) : Does Pg W F_lot_lots_club #[(.pointer p1), (.int .i64 n2)] s R :=
  does_of_vfun Pg W an_82 Try.func82 rfl (by kernel_rfl) (by rw [T_lot_lots_club_eq]; exact h)
def an_83 : Nat → Ann := fun b => match b with
  | _ => {}
abbrev rv_83 : List ResultVar := [.tmp 8]
abbrev rs_83 : List Nat := [29, 8]
def T_lot_rules_c2 (W : World) (p1 : Option Addr) (n2 : Int) (n3 : Int) (n4 : Int) (R : Ending → Hp → Prop) : Hp → Prop :=
  SO p1 fun a5 =>
    RDL (Addr.add (Addr.add a5 0) 0) fun x6 l7 c8 =>
      IXS x6 l7 n3 3 fun a9 =>
        RDB (Addr.add a9 1) fun b10 =>
          BR b10
            (BR (decide (n2 > 0))
              (CALL Pg W F_lot_lots_plots [(.pointer p1)]
                (fun v11 => TYI .i64 v11 fun n13 =>
                  R (.returned (.bool (decide (n2 < (IntKind.wrap .i64 (n13 - 1)))))))
                  (fun e12 => R (.panicked e12)))
              (R (.returned (.bool false))))
            (R (.returned (.bool false)))
theorem T_lot_rules_c2_eq (W : World) (p1 : Option Addr) (n2 : Int) (n3 : Int) (n4 : Int) (R : Ending → Hp → Prop) : vfun Pg W an_83 Try.f83 [(.pointer p1), (.int .i64 n2), (.int .i64 n3), (.int .i64 n4)] R = T_lot_rules_c2 W p1 n2 n3 n4 R := by kernel_rfl
theorem does_lot_rules_c2 (W : World) (p1 : Option Addr) (n2 : Int) (n3 : Int) (n4 : Int) (R : Ending → Hp → Prop) (s : Hp) (h : T_lot_rules_c2 W p1 n2 n3 n4 R s) : Does Pg W F_lot_rules_c2 #[(.pointer p1), (.int .i64 n2), (.int .i64 n3), (.int .i64 n4)] s R :=
  does_of_vfun Pg W an_83 Try.func83 rfl (by kernel_rfl) (by rw [T_lot_rules_c2_eq]; exact h)
def an_84 : Nat → Ann := fun b => match b with
  | _ => {}
abbrev rv_84 : List ResultVar := [.tmp 8]
abbrev rs_84 : List Nat := [28, 8]
def T_lot_rules_c3 (W : World) (p1 : Option Addr) (n2 : Int) (n3 : Int) (n4 : Int) (R : Ending → Hp → Prop) : Hp → Prop :=
  SO p1 fun a5 =>
    RDL (Addr.add (Addr.add a5 0) 0) fun x6 l7 c8 =>
      IXS x6 l7 n3 3 fun a9 =>
        RDB (Addr.add a9 2) fun b10 =>
          BR b10
            (SO p1 fun a11 =>
              RDI .i64 (Addr.add (Addr.add a11 0) 1) fun n12 =>
                CALL Pg W F_lot_set_has [(.int .u64 (IntKind.wrap .u64 n12)), (.int .i64 n2)]
                  (fun v13 => TYB v13 fun b15 =>
                    R (.returned (.bool b15)))
                    (fun e14 => R (.panicked e14)))
            (R (.returned (.bool false)))
theorem T_lot_rules_c3_eq (W : World) (p1 : Option Addr) (n2 : Int) (n3 : Int) (n4 : Int) (R : Ending → Hp → Prop) : vfun Pg W an_84 Try.f84 [(.pointer p1), (.int .i64 n2), (.int .i64 n3), (.int .i64 n4)] R = T_lot_rules_c3 W p1 n2 n3 n4 R := by kernel_rfl
theorem does_lot_rules_c3 (W : World) (p1 : Option Addr) (n2 : Int) (n3 : Int) (n4 : Int) (R : Ending → Hp → Prop) (s : Hp) (h : T_lot_rules_c3 W p1 n2 n3 n4 R s) : Does Pg W F_lot_rules_c3 #[(.pointer p1), (.int .i64 n2), (.int .i64 n3), (.int .i64 n4)] s R :=
  does_of_vfun Pg W an_84 Try.func84 rfl (by kernel_rfl) (by rw [T_lot_rules_c3_eq]; exact h)
def an_100 : Nat → Ann := fun b => match b with
  | _ => {}
abbrev rv_100 : List ResultVar := [.tmp 6]
abbrev rs_100 : List Nat := [7, 6]
def T_lot_every_counts (W : World) (n1 : Int) (n2 : Int) (R : Ending → Hp → Prop) : Hp → Prop :=
  NEW 72 [] fun B3 =>
    R (.returned (.bool true))
theorem T_lot_every_counts_eq (W : World) (n1 : Int) (n2 : Int) (R : Ending → Hp → Prop) : vfun Pg W an_100 Try.f100 [(.agg #[]), (.int .i64 n1), (.int .i64 n2)] R = T_lot_every_counts W n1 n2 R := by kernel_rfl
theorem does_lot_every_counts (W : World) (n1 : Int) (n2 : Int) (R : Ending → Hp → Prop) (s : Hp) (h : T_lot_every_counts W n1 n2 R s) : Does Pg W F_lot_every_counts #[(.agg #[]), (.int .i64 n1), (.int .i64 n2)] s R :=
  does_of_vfun Pg W an_100 Try.func100 rfl (by kernel_rfl) (by rw [T_lot_every_counts_eq]; exact h)
def an_101 : Nat → Ann := fun b => match b with
  | _ => {}
abbrev rv_101 : List ResultVar := [.tmp 6]
abbrev rs_101 : List Nat := [23, 6]
def T_lot_those_counts (W : World) (n1 : Int) (n2 : Int) (n3 : Int) (n4 : Int) (R : Ending → Hp → Prop) : Hp → Prop :=
  NEW 113 [(.int .i64 n1), (.int .i64 n2)] fun B5 =>
    FAZ Pg ⟨B5, 0, none⟩ fun a6 =>
      CALL Pg W F_lot_every_counts [(.agg #[]), (.int .i64 n3), (.int .i64 n4)]
        (fun v7 => TYB v7 fun b9 =>
          BR b9
            (RDI .i64 (Addr.add ⟨B5, 0, none⟩ 0) fun n10 =>
              RDI .i64 (Addr.add ⟨B5, 0, none⟩ 1) fun n11 =>
                R (.returned (.bool ((n3 == n10) == (n4 == n11)))))
            (R (.returned (.bool false))))
          (fun e8 => R (.panicked e8))
theorem T_lot_those_counts_eq (W : World) (n1 : Int) (n2 : Int) (n3 : Int) (n4 : Int) (R : Ending → Hp → Prop) : vfun Pg W an_101 Try.f101 [(.agg #[(.int .i64 n1), (.int .i64 n2)]), (.int .i64 n3), (.int .i64 n4)] R = T_lot_those_counts W n1 n2 n3 n4 R := by kernel_rfl
theorem does_lot_those_counts (W : World) (n1 : Int) (n2 : Int) (n3 : Int) (n4 : Int) (R : Ending → Hp → Prop) (s : Hp) (h : T_lot_those_counts W n1 n2 n3 n4 R s) : Does Pg W F_lot_those_counts #[(.agg #[(.int .i64 n1), (.int .i64 n2)]), (.int .i64 n3), (.int .i64 n4)] s R :=
  does_of_vfun Pg W an_101 Try.func101 rfl (by kernel_rfl) (by rw [T_lot_those_counts_eq]; exact h)
end Go.Proofs.Ytocnkdkgajdejaa.G

/- Draws of plots, in plain Lean. -/
namespace Go.Lot

structure Man where
  club : Int
  left : Bool
  nov : Bool
  deriving DecidableEq, Inhabited
structure Lts where
  men : List Man
  worst : Int

def Lts.n (L : Lts) : Nat := L.men.length
def valid (L : Lts) : Bool := decide (1 ≤ L.n) && decide (L.n ≤ 8) && decide (0 ≤ L.worst) && decide (L.worst ≤ 2 ^ L.n - 1) && L.men.all fun m => decide (0 ≤ m.club) && decide (m.club ≤ 9)
def man (L : Lts) (i : Nat) : Man := L.men.getD i default
def bad (L : Lts) (plot : Nat) : Bool := L.worst.toNat.testBit plot

/-- The rules, by their numbers; 'before' is 8 for nobody. -/
def r1 (L : Lts) (m before : Nat) : Bool := decide (before ≠ 8) && decide ((man L m).club ≠ 0) && decide ((man L m).club = (man L before).club)
def r2 (L : Lts) (plot m : Nat) : Bool := (man L m).left && decide (plot > 0) && decide (plot < L.n - 1)
def r3 (L : Lts) (plot m : Nat) : Bool := (man L m).nov && bad L plot
def b2n (b : Bool) : Nat := if b then 1 else 0
def brk (L : Lts) (plot m before : Nat) : Nat := b2n (r1 L m before) + b2n (r2 L plot m) + b2n (r3 L plot m)
def fst (L : Lts) (plot m before : Nat) : Nat := if r1 L m before then 1 else if r2 L plot m then 2 else if r3 L plot m then 3 else 0

/-- Who is in a set. -/
def menOf (n left : Nat) : List Nat := (List.range n).filter fun i => left.testBit i
def clr (left m : Nat) : Nat := left &&& (255 ^^^ 2 ^ m)
def full (n : Nat) : Nat := 2 ^ n - 1
def plotOf (n left : Nat) : Nat := n - (menOf n left).length
end Go.Lot
namespace Go.Lot
/-- How many lawful draws go on, by who is left, and who came last. -/
def cntF (L : Lts) (C : Nat → Nat → Bool) : Nat → Nat → Nat → Nat
  | 0, _, _ => 1
  | f + 1, left, b => if left = 0 then 1 else ((menOf L.n left).map fun m => if brk L (plotOf L.n left) m b = 0 ∧ C (plotOf L.n left) m = true then cntF L C f (left - 2 ^ m) m else 0).sum
def cnt (L : Lts) (C : Nat → Nat → Bool) (left b : Nat) : Nat := cntF L C 9 left b

theorem menOf_mem {n left m : Nat} : m ∈ menOf n left ↔ m < n ∧ left.testBit m = true := by unfold menOf; simp
theorem clr_bits : ∀ left : Nat, left < 256 → ∀ m, m < 8 → left.testBit m = true → ∀ i, i < 8 → (left - 2 ^ m).testBit i = (i != m && left.testBit i) := by
  have h : ((List.range 256).all fun l => (List.range 8).all fun m => !l.testBit m || (List.range 8).all fun i => (l - 2 ^ m).testBit i == (i != m && l.testBit i)) = true := by decide +kernel
  intro left hl m hm hb i hi
  have h1 := List.all_eq_true.1 h left (by simpa using hl)
  have h2 := List.all_eq_true.1 h1 m (by simpa using hm)
  rw [hb] at h2
  have h3 : ∀ x, x < 8 → (left - 2 ^ m).testBit x = (x != m && left.testBit x) := by simpa using h2
  exact h3 i hi
theorem low_of {n left : Nat} (h : left < 2 ^ n) {m : Nat} (hb : left.testBit m = true) : m < n := by
  rcases Nat.lt_or_ge m n with h1 | h1
  · exact h1
  · have := Nat.testBit_lt_two_pow (Nat.lt_of_lt_of_le h (Nat.pow_le_pow_right (by omega) h1))
    rw [this] at hb; cases hb
theorem menOf_len_le (n left : Nat) : (menOf n left).length ≤ n := by unfold menOf; exact Nat.le_trans (List.length_filter_le _ _) (by simp)
theorem cntF_zero (L : Lts) (C : Nat → Nat → Bool) (f b : Nat) : cntF L C f 0 b = 1 := by cases f <;> rfl
/-- The set without somebody has one less. -/
theorem menOf_clr {n left m : Nat} (hn : n ≤ 8) (hl : left < 256) (hm : m < n) (hb : left.testBit m = true) : (menOf n (left - 2 ^ m)) = (menOf n left).filter (· != m) := by
  unfold menOf
  rw [List.filter_filter]
  apply List.filter_congr
  intro i hi
  rw [clr_bits left hl m (by omega) hb i (by have := List.mem_range.1 hi; omega)]
theorem filter_ne_len (l : List Nat) (m : Nat) (h : m ∈ l) : (l.filter (· != m)).length < l.length := List.length_filter_lt_length_iff_exists.2 ⟨m, h, by simp⟩
theorem clr_len {n left m : Nat} (hn : n ≤ 8) (hl : left < 256) (hm : m < n) (hb : left.testBit m = true) : (menOf n (left - 2 ^ m)).length < (menOf n left).length := by
  rw [menOf_clr hn hl hm hb]
  exact filter_ne_len _ _ (menOf_mem.2 ⟨hm, hb⟩)
theorem menOf_nil {n left : Nat} (hl : left < 2 ^ n) (h : (menOf n left).length = 0) : left = 0 := by
  apply Nat.eq_of_testBit_eq
  intro i
  rw [Nat.zero_testBit]
  cases hb : left.testBit i with
  | false => rfl
  | true =>
    have hm : i ∈ menOf n left := menOf_mem.2 ⟨low_of hl hb, hb⟩
    rw [List.eq_nil_of_length_eq_zero h] at hm
    cases hm
theorem cntF_stable (L : Lts) (C : Nat → Nat → Bool) (hn : L.n ≤ 8) : ∀ (f left b : Nat), left < 2 ^ L.n → (menOf L.n left).length ≤ f → cntF L C f left b = cntF L C (f + 1) left b
  | 0, left, b, hl, hf => by
    have : left = 0 := menOf_nil hl (by omega)
    subst this; rw [cntF_zero, cntF_zero]
  | f + 1, left, b, hl, hf => by
    have h256 : left < 256 := Nat.lt_of_lt_of_le hl (Nat.pow_le_pow_right (n := 2) (by omega) hn)
    conv => lhs; unfold cntF
    conv => rhs; unfold cntF
    split
    · rfl
    · congr 1
      apply List.map_congr_left
      intro m hm
      obtain ⟨h1, h2⟩ := menOf_mem.1 hm
      have h3 := clr_len hn h256 h1 h2
      rw [cntF_stable L C hn f (left - 2 ^ m) m (Nat.lt_of_le_of_lt (Nat.sub_le _ _) hl) (by omega)]
theorem cnt_eq (L : Lts) (C : Nat → Nat → Bool) (hn : L.n ≤ 8) {left b : Nat} (hl : left < 2 ^ L.n) (h0 : left ≠ 0) :
    cnt L C left b = ((menOf L.n left).map fun m => if brk L (plotOf L.n left) m b = 0 ∧ C (plotOf L.n left) m = true then cnt L C (left - 2 ^ m) m else 0).sum := by
  have h256 : left < 256 := Nat.lt_of_lt_of_le hl (Nat.pow_le_pow_right (n := 2) (by omega) hn)
  conv => lhs; unfold cnt cntF
  rw [if_neg h0]
  congr 1
  apply List.map_congr_left
  intro m hm
  obtain ⟨h1, h2⟩ := menOf_mem.1 hm
  have h3 := clr_len hn h256 h1 h2
  have h4 := menOf_len_le L.n left
  unfold cnt
  rw [cntF_stable L C hn 8 (left - 2 ^ m) m (Nat.lt_of_le_of_lt (Nat.sub_le _ _) hl) (by omega)]
theorem sum_le {l : List Nat} {B : Nat} (h : ∀ x ∈ l, x ≤ B) : l.sum ≤ l.length * B := by
  induction l with
  | nil => simp
  | cons x l ih =>
    have h1 := h x (by simp)
    have h2 := ih (fun y hy => h y (by simp [hy]))
    simp [Nat.add_mul]; omega
theorem cntF_le (L : Lts) (C : Nat → Nat → Bool) (hn : L.n ≤ 8) : ∀ (f left b : Nat), cntF L C f left b ≤ 8 ^ f
  | 0, left, b => by simp [cntF]
  | f + 1, left, b => by
    unfold cntF
    split
    · exact Nat.pos_of_ne_zero (by simp)
    · refine Nat.le_trans (sum_le (B := 8 ^ f) ?_) ?_
      · intro x hx
        obtain ⟨m, _, rfl⟩ := List.mem_map.1 hx
        split
        · exact cntF_le L C hn f _ _
        · exact Nat.zero_le _
      · rw [List.length_map, Nat.pow_succ, Nat.mul_comm]
        exact Nat.mul_le_mul_left _ (Nat.le_trans (menOf_len_le _ _) hn)
theorem cnt_le (L : Lts) (C : Nat → Nat → Bool) (hn : L.n ≤ 8) (left b : Nat) : cnt L C left b ≤ 134217728 := cntF_le L C hn 9 left b
end Go.Lot
namespace Go.Lot
/-- The first rule that is broken: at which plot, and which. -/
def wrongG (L : Lts) : Nat → Nat → List Nat → Option (Nat × Nat)
  | _, _, [] => none
  | i, b, m :: r => if fst L i m b ≠ 0 then some (i, fst L i m b) else wrongG L (i + 1) m r
def wrong (L : Lts) (d : List Nat) : Option (Nat × Nat) := wrongG L 0 8 d
end Go.Lot
namespace Go.Lot
def anyC : Nat → Nat → Bool := fun _ _ => true
/-- Who can come now, so that it can go on; in how many draws each does. -/
def good (L : Lts) (left b m : Nat) : Bool := decide (brk L (plotOf L.n left) m b = 0) && decide (0 < cnt L anyC (left - 2 ^ m) m)
def cans (L : Lts) (left b : Nat) : List Nat := (menOf L.n left).filter (good L left b)
def manys (L : Lts) (left b : Nat) : List Nat := (cans L left b).map fun m => cnt L anyC (left - 2 ^ m) m
/-- A draw that is made by choosing. -/
def runC {σ : Type} (nxt : σ → Nat → Nat → Nat × σ) : Nat → σ → Nat → Nat → List Nat
  | 0, _, _, _ => []
  | f + 1, x, left, b => if left = 0 then [] else (nxt x left b).1 :: runC nxt f (nxt x left b).2 (left - 2 ^ (nxt x left b).1) (nxt x left b).1
def cansK (L : Lts) (left b k : Nat) : List Nat := ((menOf L.n left).take k).filter (good L left b)
theorem cansK_succ {L : Lts} {left b k m : Nat} (h : (menOf L.n left)[k]? = some m) : cansK L left b (k + 1) = cansK L left b k ++ (if good L left b m then [m] else []) := by
  unfold cansK
  rw [List.take_add_one, h, List.filter_append]
  cases hg : good L left b m <;> simp [hg]
theorem cansK_all (L : Lts) (left b : Nat) : cansK L left b (menOf L.n left).length = cans L left b := by unfold cansK cans; rw [List.take_length]
theorem cansK_len (L : Lts) (left b k : Nat) : (cansK L left b k).length ≤ L.n := by
  unfold cansK
  refine Nat.le_trans (List.length_filter_le _ _) ?_
  rw [List.length_take]
  have := menOf_len_le L.n left
  omega
end Go.Lot
namespace Go.Lot
/-- The one in whose draws an index lies. -/
def pickN : List (Nat × Nat) → Nat → Nat × Nat
  | [], n => (0, n)
  | (m, k) :: r, n => if n < k then (m, n) else pickN r (n - k)
def nthN (L : Lts) (n left b : Nat) : Nat × Nat := pickN ((cans L left b).map fun m => (m, cnt L anyC (left - 2 ^ m) m)) n
theorem pickN_spec : ∀ (l : List (Nat × Nat)) (n : Nat), n < (l.map (·.2)).sum → ∃ i m k, l[i]? = some (m, k) ∧ pickN l n = (m, n - ((l.take i).map (·.2)).sum) ∧ n - ((l.take i).map (·.2)).sum < k ∧ ((l.take i).map (·.2)).sum ≤ n
  | [], n, h => by simp at h
  | (m, k) :: r, n, h => by
    by_cases hk : n < k
    · exact ⟨0, m, k, rfl, by unfold pickN; rw [if_pos hk]; simp, by simpa using hk, by simp⟩
    · simp at h
      obtain ⟨i, m', k', h1, h2, h3, h4⟩ := pickN_spec r (n - k) (by omega)
      refine ⟨i + 1, m', k', by simpa using h1, ?_, ?_, ?_⟩
      · unfold pickN
        rw [if_neg hk, h2]
        simp only [List.take_succ_cons, List.map_cons, List.sum_cons, Nat.sub_sub]
      · simp only [List.take_succ_cons, List.map_cons, List.sum_cons]; omega
      · simp only [List.take_succ_cons, List.map_cons, List.sum_cons]; omega
theorem sum_filter (f : Nat → Nat) (g : Nat → Bool) : ∀ (l : List Nat), (∀ m, g m = false → f m = 0) → (l.map f).sum = ((l.filter g).map f).sum
  | [], _ => rfl
  | m :: l, h => by
    cases hg : g m with
    | true => simp [hg, sum_filter f g l h]
    | false => simp [hg, h m hg, sum_filter f g l h]
theorem cnt_manys (L : Lts) (hn : L.n ≤ 8) {left b : Nat} (hl : left < 2 ^ L.n) (h0 : left ≠ 0) : cnt L anyC left b = (manys L left b).sum := by
  rw [cnt_eq L anyC hn hl h0]
  unfold manys cans
  have key := sum_filter (fun m => if brk L (plotOf L.n left) m b = 0 ∧ anyC (plotOf L.n left) m = true then cnt L anyC (left - 2 ^ m) m else 0) (good L left b) (menOf L.n left) ?_
  · rw [key]
    congr 1
    apply List.map_congr_left
    intro m hm
    have hg := (List.mem_filter.1 hm).2
    unfold good at hg
    simp at hg
    simp [hg.1, anyC]
  · intro m hg
    unfold good at hg
    simp only [Bool.and_eq_false_iff, decide_eq_false_iff_not] at hg
    show (if _ then _ else 0) = 0
    split
    · rename_i hc
      rcases hg with hg | hg
      · exact absurd hc.1 hg
      · omega
    · rfl
theorem nth_ok (L : Lts) (hn : L.n ≤ 8) {n left b : Nat} (hl : left < 2 ^ L.n) (h0 : left ≠ 0) (h : n < cnt L anyC left b) :
    ∃ i, (cans L left b)[i]? = some (nthN L n left b).1 ∧ (nthN L n left b).2 < cnt L anyC (left - 2 ^ (nthN L n left b).1) (nthN L n left b).1 ∧ (nthN L n left b).2 = n - ((manys L left b).take i).sum ∧ ((manys L left b).take i).sum ≤ n ∧ (manys L left b)[i]? = some (cnt L anyC (left - 2 ^ (nthN L n left b).1) (nthN L n left b).1) := by
  rw [cnt_manys L hn hl h0] at h
  have hm : manys L left b = ((cans L left b).map fun m => (m, cnt L anyC (left - 2 ^ m) m)).map (·.2) := by unfold manys; simp
  rw [hm] at h
  obtain ⟨i, m, k, h1, h2, h3, h4⟩ := pickN_spec _ n h
  unfold nthN
  rw [h2]
  rw [List.getElem?_map] at h1
  obtain ⟨m', hm', he⟩ := Option.map_eq_some_iff.1 h1
  cases he
  refine ⟨i, hm', ?_, ?_, ?_, ?_⟩
  · exact h3
  · show n - _ = n - _
    rw [hm]
    simp only [List.map_take]
  · rw [hm]
    simp only [List.map_take] at h4 ⊢
    exact h4
  · unfold manys; rw [List.getElem?_map, hm']; rfl
/-- Somewhere before, no index has its end. -/
theorem take_lt {l : List Nat} {i n : Nat} (h : (l.take i).sum ≤ n) {k x : Nat} (hk : k < i) (hx : l[k]? = some x) : (l.take k).sum + x ≤ n := by
  have h1 : (l.take (k + 1)).sum = (l.take k).sum + x := by rw [List.take_add_one, hx]; simp
  have h2 : (l.take (k + 1)).sum ≤ (l.take i).sum := by
    have : l.take (k + 1) = (l.take i).take (k + 1) := by rw [List.take_take, Nat.min_eq_left (by omega)]
    rw [this]
    have e : (l.take i).sum = ((l.take i).take (k + 1)).sum + ((l.take i).drop (k + 1)).sum := by rw [← List.sum_append, List.take_append_drop]
    omega
  omega
def nthP (L : Lts) (n : Int) : Option (List Nat) := if 0 ≤ n ∧ n < cnt L anyC (full L.n) 8 then some (runC (nthN L) L.n n.toNat (full L.n) 8) else none
end Go.Lot
namespace Go.Lot
def nextD (num : Nat) : Nat := (75 * num + 74) % 65537
def drawN (L : Lts) (num left b : Nat) : Nat × Nat := ((cans L left b).getD (nextD num % (cans L left b).length) 0, nextD num)
theorem cans_pos (L : Lts) (hn : L.n ≤ 8) {left b : Nat} (hl : left < 2 ^ L.n) (h0 : left ≠ 0) (h : 0 < cnt L anyC left b) : 0 < (cans L left b).length := by
  rw [cnt_manys L hn hl h0] at h
  unfold manys at h
  cases hc : cans L left b with
  | nil => rw [hc] at h; simp at h
  | cons m r => simp
def drawP (L : Lts) (by' : Int) : Option (List Nat) := if 0 < cnt L anyC (full L.n) 8 then some (runC (drawN L) L.n by'.toNat (full L.n) 8) else none
end Go.Lot
namespace Go.Lot
/-- The plots, of the first so many, that somebody can get. -/
def canSet (L : Lts) (man : Nat) : Nat → Nat
  | 0 => 0
  | k + 1 => if 0 < cnt L (fun q m => (q == k) == (m == man)) (full L.n) 8 then canSet L man k ||| 2 ^ k else canSet L man k
theorem canSet_lt (L : Lts) (man : Nat) : ∀ k, canSet L man k < 2 ^ k
  | 0 => by simp [canSet]
  | k + 1 => by
    have := canSet_lt L man k
    unfold canSet
    split
    · exact Nat.or_lt_two_pow (by rw [Nat.pow_succ]; omega) (Nat.pow_lt_pow_right (by omega) (by omega))
    · rw [Nat.pow_succ]; omega
end Go.Lot
namespace Go.Lot
/-- A draw's rest that is lawful, behind somebody, for those who are left. -/
def Law (L : Lts) : List Nat → Nat → Nat → Prop
  | [], left, _ => left = 0
  | m :: r, left, b => m < L.n ∧ left.testBit m = true ∧ brk L (plotOf L.n left) m b = 0 ∧ Law L r (left - 2 ^ m) m
/-- Its place among those. -/
def placeN (L : Lts) : List Nat → Nat → Nat → Nat
  | [], _, _ => 0
  | m :: r, left, b => ((manys L left b).take ((cans L left b).idxOf m)).sum + placeN L r (left - 2 ^ m) m
theorem law_cnt (L : Lts) (hn : L.n ≤ 8) : ∀ (d : List Nat) (left b : Nat), left < 2 ^ L.n → Law L d left b → 0 < cnt L anyC left b
  | [], left, b, hl, h => by
    have : left = 0 := h
    subst this
    have : cnt L anyC 0 b = 1 := cntF_zero L anyC 9 b
    omega
  | m :: r, left, b, hl, h => by
    obtain ⟨h1, h2, h3, h4⟩ := h
    have h0 : left ≠ 0 := fun e => by subst e; simp at h2
    have ih := law_cnt L hn r (left - 2 ^ m) m (Nat.lt_of_le_of_lt (Nat.sub_le _ _) hl) h4
    rw [cnt_manys L hn hl h0]
    have hg : m ∈ cans L left b := by
      unfold cans
      refine List.mem_filter.2 ⟨menOf_mem.2 ⟨h1, h2⟩, ?_⟩
      unfold good
      simp [h3, ih]
    have hm : cnt L anyC (left - 2 ^ m) m ∈ manys L left b := by unfold manys; exact List.mem_map.2 ⟨m, hg, rfl⟩
    have : ∀ (l : List Nat) (x : Nat), x ∈ l → x ≤ l.sum := by
      intro l
      induction l with
      | nil => intro x hx; cases hx
      | cons y l ih =>
        intro x hx
        rcases List.mem_cons.1 hx with rfl | hx
        · simp
        · have := ih x hx; simp; omega
    have := this _ _ hm
    omega
theorem law_can (L : Lts) (hn : L.n ≤ 8) {m left b : Nat} {r : List Nat} (hl : left < 2 ^ L.n) (h : Law L (m :: r) left b) : m ∈ cans L left b := by
  obtain ⟨h1, h2, h3, h4⟩ := h
  have ih := law_cnt L hn r (left - 2 ^ m) m (Nat.lt_of_le_of_lt (Nat.sub_le _ _) hl) h4
  unfold cans
  refine List.mem_filter.2 ⟨menOf_mem.2 ⟨h1, h2⟩, ?_⟩
  unfold good
  simp [h3, ih]
/-- What chooses a draw that is there, and adds up. -/
def placeNx (L : Lts) (y : List Nat × Nat) (left b : Nat) : Nat × (List Nat × Nat) :=
  match y with
  | ([], pl) => (0, ([], pl))
  | (m :: r, pl) => (m, (r, pl + ((manys L left b).take ((cans L left b).idxOf m)).sum))
end Go.Lot
