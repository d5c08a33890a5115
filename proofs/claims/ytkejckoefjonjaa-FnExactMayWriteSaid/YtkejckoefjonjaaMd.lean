/- What the proof of FnExactMayWrite stands on, part 4: an abstract machine on plain data, its soundness, and the contracts of functions. -/
import Derived.Test.YtkejckoefjonjaaChecked
import Derived.KernelRfl
import Derived.SizedLaws
import Derived.ChangeOld
import Derived.Test.YtkejckoefjonjaaMc
set_option linter.all false
set_option linter.unusedSimpArgs false
set_option linter.unusedVariables false
set_option linter.unnecessarySimpa false
set_option linter.unusedSectionVars false
namespace Go.Proofs.Ytkejckoefjonjaa
section
variable {R : Type} {P : Program} {c : Cfg} (hcfg : CfgOk c P) {sg : Sg} {fnId : FuncId}
include hcfg
theorem opsJ_ok {all : Array Oper} {k : St → Option R} {r : R} : ∀ {os : List Oper} {st : St}, opsJ std c sg (cvS c P sg) fnId all os st k = some r → ∃ st', opsD c (callV c P) ciN fnId all os st = some st' ∧ k st' = some r ∧ ∀ (k' : St → Option R) r', k' st' = some r' → opsJ std c sg (cvS c P sg) fnId all os st k' = some r'
  | [], st, h => ⟨st, rfl, h, fun _ _ hk => hk⟩
  | o :: os, st, h => by
    have run : ∀ st, opJ std c sg (cvS c P sg) fnId st o (fun st' => opsJ std c sg (cvS c P sg) fnId all os st' k) = some r → ∃ st', (match opD c (callV c P) ciN fnId st o with | some st' => opsD c (callV c P) ciN fnId all os st' | none => none) = some st' ∧ k st' = some r ∧ ∀ (k' : St → Option R) r', k' st' = some r' → opJ std c sg (cvS c P sg) fnId st o (fun st' => opsJ std c sg (cvS c P sg) fnId all os st' k') = some r' := by
      intro st h
      obtain ⟨st1, h1, h2, h3⟩ := opJ_ok hcfg h
      obtain ⟨st2, k1, k2, k3⟩ := opsJ_ok h2
      refine ⟨st2, ?_, k2, fun k' r' hk => h3 _ _ (k3 k' r' hk)⟩
      rw [h1]
      exact k1
    simp only [opsJ] at h ⊢
    simp only [opsD, wantD]
    split at h
    · rename_i hg
      rw [hg]
      exact run st h
    · rename_i j want hg
      rw [hg]
      simp only
      split at h
      · rename_i t ht
        rw [ht]
        simp only
        split at h
        · rename_i b hb
          rw [hb]
          simp only
          cases want with
          | true =>
            simp only at h
            rcases br_cases h with ⟨rfl, h1⟩ | ⟨rfl, h1⟩
            · rw [lit_eq hb] at h1
              obtain ⟨st1, k1, k2, k3⟩ := run st h1
              refine ⟨st1, by simp only [beq_self_eq_true]; exact k1, k2, fun k' r' hk => ?_⟩
              simp only [br]
              rw [lit_eq hb]
              exact k3 k' r' hk
            · rw [lit_eq hb] at h1
              obtain ⟨st1, k1, k2, k3⟩ := opsJ_ok h1
              refine ⟨st1, by simpa using k1, k2, fun k' r' hk => ?_⟩
              simp only [br]
              rw [lit_eq hb]
              exact k3 k' r' hk
          | false =>
            simp only at h
            rcases br_cases h with ⟨rfl, h1⟩ | ⟨rfl, h1⟩
            · rw [lit_eq hb] at h1
              obtain ⟨st1, k1, k2, k3⟩ := opsJ_ok h1
              refine ⟨st1, by simpa using k1, k2, fun k' r' hk => ?_⟩
              simp only [br]
              rw [lit_eq hb]
              exact k3 k' r' hk
            · rw [lit_eq hb] at h1
              obtain ⟨st1, k1, k2, k3⟩ := run st h1
              refine ⟨st1, by simp only [beq_self_eq_true]; exact k1, k2, fun k' r' hk => ?_⟩
              simp only [br]
              rw [lit_eq hb]
              exact k3 k' r' hk
        · rename_i hb
          rw [hb]
          exact opsJ_ok h
        · simp at h
      · rename_i ht
        rw [ht]
        exact opsJ_ok h
theorem opsJ_mono {all : Array Oper} {os : List Oper} {st : St} {k k' : St → Option R} {r : R} (hk : ∀ st r, k st = some r → k' st = some r) (h : opsJ std c sg (cvS c P sg) fnId all os st k = some r) : opsJ std c sg (cvS c P sg) fnId all os st k' = some r := by
  obtain ⟨st', _, h2, h3⟩ := opsJ_ok hcfg h
  exact h3 k' r (hk _ _ h2)
theorem jmp_mono {J J' : Nat → St → Option R} (hJ : ∀ j h r, J j h = some r → J' j h = some r) {i : Nat} {st : St} {r : R} (h : jmp c J fnId i st = some r) : jmp c J' fnId i st = some r := by
  have _ := hcfg
  unfold jmp at h ⊢
  split at h
  · exact hJ _ _ _ h
  · simp at h
omit hcfg in
theorem seqK_mono {f f' : St → Option R} {k k' : Exit → St → Option R} (hf : ∀ st r, f st = some r → f' st = some r) (hk : ∀ x st r, k x st = some r → k' x st = some r) : ∀ x st r, seqK f k x st = some r → seqK f' k' x st = some r := by
  intro x st r h
  cases x with
  | normal => exact hf _ _ h
  | _ => exact hk _ _ _ h
omit hcfg in
theorem blkK_mono {id : Nat} {k k' : Exit → St → Option R} (hk : ∀ x st r, k x st = some r → k' x st = some r) : ∀ x st r, blkK id k x st = some r → blkK id k' x st = some r := by
  intro x st r h
  cases x with
  | exit id' =>
    simp only [blkK] at h ⊢
    split at h
    · rename_i e; rw [if_pos e]; exact hk _ _ _ h
    · rename_i e; rw [if_neg e]; exact hk _ _ _ h
  | _ => exact hk _ _ _ h
theorem codeJ_mono {J J' : Nat → St → Option R} (hJ : ∀ j h r, J j h = some r → J' j h = some r) : ∀ {code : Code} {i : Nat} {st : St} {k k' : Exit → St → Option R} {r : R}, (∀ x st r, k x st = some r → k' x st = some r) → codeJ std c sg (cvS c P sg) J fnId code i st k = some r → codeJ std c sg (cvS c P sg) J' fnId code i st k' = some r := by
  intro code
  induction code with
  | skip => intro i st k k' r hk h; exact hk _ _ _ h
  | exit id => intro i st k k' r hk h; exact hk _ _ _ h
  | ret => intro i st k k' r hk h; exact hk _ _ _ h
  | region id ops draw =>
    intro i st k k' r hk h
    cases draw with
    | false =>
      simp only [codeJ] at h ⊢
      exact opsJ_mono hcfg (hk _) h
    | true =>
      simp only [codeJ] at h ⊢
      split at h
      · exact opsJ_mono hcfg (hk _) h
      · simp at h
  | seq a b iha ihb =>
    intro i st k k' r hk h
    simp only [codeJ] at h ⊢
    exact iha (seqK_mono (fun st r hx => ihb hk hx) hk) h
  | cond v a b iha ihb =>
    intro i st k k' r hk h
    simp only [codeJ, condK] at h ⊢
    split at h
    · split at h
      · rcases br_cases h with ⟨rfl, h1⟩ | ⟨rfl, h1⟩
        · exact iha hk h1
        · exact ihb hk h1
      · simp at h
    · split at h
      · rcases br_cases h with ⟨rfl, h1⟩ | ⟨rfl, h1⟩
        · exact iha hk h1
        · exact ihb hk h1
      · simp at h
  | block id a iha =>
    intro i st k k' r hk h
    simp only [codeJ] at h ⊢
    exact iha (blkK_mono hk) h
  | loop a iha => intro i st k k' r hk h; exact jmp_mono hcfg hJ h
  | _ => intro i st k k' r hk h; simp [codeJ] at h
end
section
variable {R : Type} {pr : Prims} {c : Cfg} {sg : Sg} {cv : Cv R} {J : Nat → St → Option R} {fnId : FuncId}
theorem treeJ_ids : ∀ {code : Code} {i : Nat} {k : Exit → St → Option R} {j : Nat} {t : St → Option R}, treeJ pr c sg cv J fnId code i k j = some t → j ∈ idsOf code i := by
  intro code
  induction code with
  | seq a b iha ihb =>
    intro i k j t h
    simp only [treeJ] at h
    rw [idsOf, List.mem_append]
    split at h
    · rename_i t' ht
      exact .inl (iha ht)
    · exact .inr (ihb h)
  | cond v a b iha ihb =>
    intro i k j t h
    simp only [treeJ] at h
    rw [idsOf, List.mem_append]
    split at h
    · rename_i t' ht
      exact .inl (iha ht)
    · exact .inr (ihb h)
  | block id a iha => intro i k j t h; simp only [treeJ] at h; rw [idsOf]; exact iha h
  | loop a iha =>
    intro i k j t h
    simp only [treeJ] at h
    rw [idsOf, List.mem_cons]
    split at h
    · rename_i hij; exact .inl hij.symm
    · exact .inr (iha h)
  | _ => intro i k j t h; simp [treeJ] at h
end
section
variable {R : Type} {pr : Prims} {c : Cfg} {sg : Sg} {cv : Cv R} {J J' : Nat → St → Option R} {fnId : FuncId}
theorem treeJ_none : ∀ {code : Code} {i : Nat} {k k' : Exit → St → Option R} {j : Nat}, treeJ pr c sg cv J fnId code i k j = none → treeJ pr c sg cv J' fnId code i k' j = none := by
  intro code
  induction code with
  | seq a b iha ihb =>
    intro i k k' j h
    simp only [treeJ] at h ⊢
    split at h
    · simp at h
    · rename_i h1
      rw [iha h1]
      exact ihb h
  | cond v a b iha ihb =>
    intro i k k' j h
    simp only [treeJ] at h ⊢
    split at h
    · simp at h
    · rename_i h1
      rw [iha h1]
      exact ihb h
  | block id a iha => intro i k k' j h; simp only [treeJ] at h ⊢; exact iha h
  | loop a iha =>
    intro i k k' j h
    simp only [treeJ] at h ⊢
    split at h
    · simp at h
    · rename_i e
      rw [if_neg e]
      exact iha h
  | _ => intro i k k' j h; rfl
end
section
variable {P : Program} {c : Cfg} (hcfg : CfgOk c P) {sg : Sg} {f : FuncId} {fn : Func} {sk : List D} {body : Code} (hbody : fn.body = some body)
include hcfg
theorem treeJ_mono {J J' : Nat → St → Option Rz} (hJ : ∀ j h r, J j h = some r → J' j h = some r) : ∀ {code : Code} {i : Nat} {k k' : Exit → St → Option Rz} {j : Nat} {t : St → Option Rz}, (∀ x st r, k x st = some r → k' x st = some r) → treeJ std c sg (cvS c P sg) J f code i k j = some t → ∃ t', treeJ std c sg (cvS c P sg) J' f code i k' j = some t' ∧ ∀ h r, t h = some r → t' h = some r := by
  intro code
  induction code with
  | seq a b iha ihb =>
    intro i k k' j t hk h
    simp only [treeJ] at h ⊢
    have hkk := seqK_mono (f := fun st' => codeJ std c sg (cvS c P sg) J f b i st' k) (f' := fun st' => codeJ std c sg (cvS c P sg) J' f b i st' k') (fun st r hx => codeJ_mono hcfg hJ hk hx) hk
    split at h
    · rename_i t1 h1
      obtain ⟨t', h2, h3⟩ := iha hkk h1
      rw [h2]
      simp only [Option.some.injEq] at h
      subst h
      exact ⟨t', rfl, h3⟩
    · rename_i h1
      rw [treeJ_none h1]
      exact ihb hk h
  | cond v a b iha ihb =>
    intro i k k' j t hk h
    simp only [treeJ] at h ⊢
    split at h
    · rename_i t1 h1
      obtain ⟨t', h2, h3⟩ := iha hk h1
      rw [h2]
      simp only [Option.some.injEq] at h
      subst h
      exact ⟨t', rfl, h3⟩
    · rename_i h1
      rw [treeJ_none h1]
      exact ihb hk h
  | block id a iha =>
    intro i k k' j t hk h
    simp only [treeJ] at h ⊢
    exact iha (blkK_mono hk) h
  | loop a iha =>
    intro i k k' j t hk h
    simp only [treeJ] at h ⊢
    have hkk := seqK_mono (f := jmp c J f i) (f' := jmp c J' f i) (fun st r hx => jmp_mono hcfg hJ hx) hk
    split at h
    · rename_i e
      simp only [Option.some.injEq] at h
      subst h
      rw [if_pos e]
      exact ⟨_, rfl, fun hh r hr => codeJ_mono hcfg hJ hkk hr⟩
    · rename_i e
      rw [if_neg e]
      exact iha hkk h
  | _ => intro i k k' j t hk h; simp [treeJ] at h
theorem Jn_mono : ∀ {n m : Nat}, n ≤ m → ∀ j h r, Jn c P sg f fn sk n j h = some r → Jn c P sg f fn sk m j h = some r
  | 0, _, _, j, h, r, hh => by simp [Jn] at hh
  | n + 1, 0, hle, _, _, _, _ => absurd hle (by omega)
  | n + 1, m + 1, hle, j, h, r, hh => by
    have ih : ∀ j h r, Jn c P sg f fn sk n j h = some r → Jn c P sg f fn sk m j h = some r := Jn_mono (by omega)
    simp only [Jn, headJ] at hh ⊢
    split at hh
    case h_2 => simp at hh
    rename_i body hb
    split at hh
    case h_2 => simp at hh
    rename_i t ht
    obtain ⟨t', h1, h2⟩ := treeJ_mono hcfg ih (fun _ _ _ h => h) ht
    rw [h1]
    exact h2 _ _ hh
include hbody
theorem codeJ_ok : ∀ {code : Code} {n i : Nat} {st : St} {k : (Nat → St → Option Rz) → Exit → St → Option Rz} {r : Rz},
    (∀ J J' : Nat → St → Option Rz, (∀ j h r, J j h = some r → J' j h = some r) → ∀ x st r, k J x st = some r → k J' x st = some r) →
    (idsOf code i).Nodup →
    (∀ m j t, treeJ std c sg (cvS c P sg) (Jn c P sg f fn sk m) f code i (k (Jn c P sg f fn sk m)) j = some t → treeJ std c sg (cvS c P sg) (Jn c P sg f fn sk m) f body 0 (finK c fn sk) j = some t) →
    codeJ std c sg (cvS c P sg) (Jn c P sg f fn sk n) f code i st (k (Jn c P sg f fn sk n)) = some r → ∃ x st', CodeC c P f code i st (x, st') ∧ k (Jn c P sg f fn sk n) x st' = some r := by
  intro code
  have tr : ∀ {ops : Array Oper} {l : List Nat} {st st' : St}, opsI c (callV c P) ciN f ops l st = some st' → Ev fun k => opsI c (runF c P k).1 (runF c P k).2 f ops l st = some st' :=
    fun h => opsI_ev (fun f ds r hh => callV_ev hh) (fun f ds n st r hh => by simp [ciN] at hh) h
  induction code with
  | skip => intro n i st k r _ _ _ h; exact ⟨_, _, Ev.of fun _ => rfl, h⟩
  | exit id => intro n i st k r _ _ _ h; exact ⟨_, _, Ev.of fun _ => rfl, h⟩
  | ret => intro n i st k r _ _ _ h; exact ⟨_, _, Ev.of fun _ => rfl, h⟩
  | region id ops draw =>
    intro n i st k r _ _ _ h
    cases draw with
    | false =>
      simp only [codeJ] at h
      obtain ⟨st', h1, h2, _⟩ := opsJ_ok hcfg h
      rw [opsD_range] at h1
      refine ⟨.normal, st', (tr h1).mono fun n hn => ?_, h2⟩
      simp only [codeD, opsD_range, hn]
    | true =>
      simp only [codeJ] at h
      split at h
      case h_2 => simp at h
      rename_i l hl
      obtain ⟨st', h1, h2, _⟩ := opsJ_ok hcfg h
      rw [opsOf_I] at h1
      refine ⟨.normal, st', (tr h1).mono fun n hn => ?_, h2⟩
      simp only [codeD, hl, hn]
  | seq a b iha ihb =>
    intro n i st k r hk hn hc h
    simp only [codeJ] at h
    rw [idsOf, List.nodup_append] at hn
    obtain ⟨x, st1, h1, h2⟩ := iha (k := fun J => seqK (fun st' => codeJ std c sg (cvS c P sg) J f b i st' (k J)) (k J)) (fun J J' hJ => seqK_mono (fun st r hx => codeJ_mono hcfg hJ (hk J J' hJ) hx) (hk J J' hJ)) hn.1 (fun m j t ht => hc m j t (by simp only [treeJ]; rw [ht])) h
    cases x with
    | normal =>
      simp only [seqK] at h2
      obtain ⟨y, st2, h3, h4⟩ := ihb hk hn.2.1 (fun m j t ht => hc m j t (by
        simp only [treeJ]
        split
        · rename_i t' ht'
          exact absurd rfl (hn.2.2 j (treeJ_ids ht') j (treeJ_ids ht))
        · exact ht)) h2
      exact ⟨y, st2, (Ev.and h1 h3).mono fun n hn => by simp only [codeD]; rw [hn.1]; exact hn.2, h4⟩
    | _ => exact ⟨_, st1, Ev.mono h1 fun n hn => by simp only [codeD]; rw [hn], h2⟩
  | cond v a b iha ihb =>
    intro n i st k r hk hn hc h
    simp only [codeJ, condK] at h
    rw [idsOf, List.nodup_append] at hn
    have fin : ∀ {t : Bool}, evD c st 0 v = .bool t → (t = true → codeJ std c sg (cvS c P sg) (Jn c P sg f fn sk n) f a i st (k (Jn c P sg f fn sk n)) = some r) → (t = false → codeJ std c sg (cvS c P sg) (Jn c P sg f fn sk n) f b i st (k (Jn c P sg f fn sk n)) = some r) → ∃ x st', CodeC c P f (.cond v a b) i st (x, st') ∧ k (Jn c P sg f fn sk n) x st' = some r := by
      intro t ht h1 h2
      cases t with
      | true =>
        obtain ⟨x, st', h3, h4⟩ := iha hk hn.1 (fun m j t ht => hc m j t (by simp only [treeJ]; rw [ht])) (h1 rfl)
        exact ⟨x, st', Ev.mono h3 fun n hn => by simp only [codeD, ht, if_true]; exact hn, h4⟩
      | false =>
        obtain ⟨x, st', h3, h4⟩ := ihb hk hn.2.1 (fun m j t ht => hc m j t (by
          simp only [treeJ]
          split
          · rename_i t' ht'
            exact absurd rfl (hn.2.2 j (treeJ_ids ht') j (treeJ_ids ht))
          · exact ht)) (h2 rfl)
        exact ⟨x, st', Ev.mono h3 fun n hn => by simp only [codeD, ht, Bool.false_eq_true, if_false]; exact hn, h4⟩
    split at h
    · rename_i t
      split at h
      · rename_i b' hb
        refine fin (t := b') hb (fun e => ?_) (fun e => ?_)
        · subst e
          rcases br_cases h with ⟨_, h1⟩ | ⟨e2, _⟩
          · rw [lit_eq hb] at h1; exact h1
          · simp at e2
        · subst e
          rcases br_cases h with ⟨e2, _⟩ | ⟨_, h1⟩
          · simp at e2
          · rw [lit_eq hb] at h1; exact h1
      · simp at h
    · split at h
      · rename_i hv
        refine fin hv (fun e => ?_) (fun e => ?_)
        · subst e; exact h
        · subst e; exact h
      · simp at h
  | block id a iha =>
    intro n i st k r hk hn hc h
    simp only [codeJ] at h
    obtain ⟨x, st1, h1, h2⟩ := iha (k := fun J => blkK id (k J)) (fun J J' hJ => blkK_mono (hk J J' hJ)) hn (fun m j t ht => hc m j t (by simp only [treeJ]; exact ht)) h
    cases x with
    | exit id' =>
      simp only [blkK] at h2
      by_cases he : id' = id
      · rw [if_pos he] at h2
        exact ⟨.normal, st1, Ev.mono h1 fun n hn => by simp only [codeD]; rw [hn]; simp [he], h2⟩
      · rw [if_neg he] at h2
        exact ⟨.exit id', st1, Ev.mono h1 fun n hn => by simp only [codeD]; rw [hn]; simp [he], h2⟩
    | _ => exact ⟨_, st1, Ev.mono h1 fun n hn => by simp only [codeD]; rw [hn], h2⟩
  | loop a iha =>
    intro n i st k r hk hn hc h
    rw [idsOf, List.nodup_cons] at hn
    have key : ∀ (n : Nat) (st : St), jmp c (Jn c P sg f fn sk n) f i st = some r → ∃ x st', LoopC c P f a i st (x, st') ∧ k (Jn c P sg f fn sk n) x st' = some r := by
      intro n
      induction n with
      | zero =>
        intro st h
        unfold jmp at h
        split at h
        · simp [Jn] at h
        · simp at h
      | succ m ih =>
        intro st h
        unfold jmp at h
        split at h
        case h_2 => simp at h
        rename_i hd hnm
        simp only [Jn, headJ] at h
        rw [hbody] at h
        simp only at h
        have ht := hc m i _ (by simp only [treeJ, if_true]; rfl)
        rw [ht] at h
        simp only at h
        obtain ⟨x, st1, h1, h2⟩ := iha (k := fun J => seqK (jmp c J f i) (k J)) (fun J J' hJ => seqK_mono (fun st r hx => jmp_mono hcfg hJ hx) (hk J J' hJ)) hn.2 (fun m j t ht => hc m j t (by
              simp only [treeJ]
              have hne : i ≠ j := fun e => hn.1 (by rw [e]; rw [e] at ht; exact treeJ_ids ht)
              rw [if_neg hne]
              exact ht)) h
        cases x with
        | normal =>
          obtain ⟨y, st2, ⟨q, h3⟩, h4⟩ := ih st1 h2
          refine ⟨y, st2, ⟨q + 1, (Ev.and h1 h3).mono fun k hk m hm => ?_⟩, hk _ _ (Jn_mono hcfg (Nat.le_succ m)) _ _ _ h4⟩
          obtain ⟨m, rfl⟩ : ∃ m', m = m' + 1 := ⟨m - 1, by omega⟩
          simp only [iterD, hnm, hk.1]
          exact hk.2 m (by omega)
        | _ =>
          refine ⟨_, st1, ⟨1, Ev.mono h1 fun k hk m hm => ?_⟩, hk _ _ (Jn_mono hcfg (Nat.le_succ m)) _ _ _ h2⟩
          obtain ⟨m, rfl⟩ : ∃ m', m = m' + 1 := ⟨m - 1, by omega⟩
          simp only [iterD, hnm, hk]
    simp only [codeJ] at h
    obtain ⟨x, st', h1, h2⟩ := key n st h
    exact ⟨x, st', h1.code, h2⟩
  | _ => intro n i st k r _ _ _ h; simp [codeJ] at h
end
structure Told (c : Cfg) (P : Program) (f : FuncId) (fn : Func) : Prop where
  ext : c.ext f = none
  func : P.funcs[f]? = some fn
  ids : (match fn.body with | some b => decide (idsOf b 0).Nodup | none => false) = true
section
variable {P : Program} {c : Cfg} (hcfg : CfgOk c P) {sg : Sg} {f : FuncId} {fn : Func} {sk : List D}
include hcfg
theorem W.go {j j' : Nat} {h h' : St} {r : Rz} (hw : W c P sg f fn sk j' h' r) (ht : ∀ J : Nat → St → Option Rz, J j' h' = some r → headJ std c sg (cvS c P sg) J f fn sk j h = some r) : W c P sg f fn sk j h r := by
  have _ := hcfg
  obtain ⟨n, hn⟩ := hw
  exact ⟨n + 1, ht _ hn⟩
theorem W.fin {j : Nat} {h : St} {r : Rz} (ht : ∀ J : Nat → St → Option Rz, headJ std c sg (cvS c P sg) J f fn sk j h = some r) : W c P sg f fn sk j h r := by
  have _ := hcfg
  exact ⟨1, ht _⟩
theorem comes_run (ok : Told c P f fn) {args : List D} {r : Rz} {n : Nat} (h : runJ std c sg (cvS c P sg) (Jn c P sg f fn (args.map skD) n) f fn args = some r) : Comes c P f args r := by
  unfold runJ at h
  split at h
  case h_2 => simp at h
  rename_i body hb
  have hids := ok.ids
  rw [hb] at hids
  obtain ⟨x, st, h1, h2⟩ := codeJ_ok hcfg hb (k := fun _ => finK c fn (args.map skD)) (fun J J' _ x st r h => h) (of_decide_eq_true hids) (fun m j t ht => ht) h
  obtain ⟨k0, h1⟩ := h1
  refine ⟨k0 + 1, fun k hk => ?_⟩
  obtain ⟨k, rfl⟩ : ∃ m, k = m + 1 := ⟨k - 1, by omega⟩
  show callS c P (runF c P k).1 (runF c P k).2 k f args = some r
  unfold callS
  rw [ok.ext, ok.func]
  simp only
  rw [hb]
  simp only
  rw [h1 k (by omega)]
  simp only
  rw [finK_sk] at h2
  unfold finK at h2
  obtain ⟨h3, h4⟩ := exit_size h2
  rw [if_pos h3]
  exact h4
theorem Comes.go (ok : Told c P f fn) {args : List D} {j : Nat} {h : St} {r : Rz} (hw : W c P sg f fn (args.map skD) j h r) (ht : ∀ J : Nat → St → Option Rz, J j h = some r → runJ std c sg (cvS c P sg) J f fn args = some r) : Comes c P f args r := by
  obtain ⟨n, hn⟩ := hw
  exact comes_run hcfg ok (ht _ hn)
theorem Comes.fin (ok : Told c P f fn) {args : List D} {r : Rz} (ht : ∀ J : Nat → St → Option Rz, runJ std c sg (cvS c P sg) J f fn args = some r) : Comes c P f args r :=
  comes_run hcfg ok (sg := sg) (n := 0) (ht _)
end
end Go.Proofs.Ytkejckoefjonjaa
namespace Go.Proofs.Ytkejckoefjonjaa
section
variable {P : Program} {c : Cfg} (hcfg : CfgOk c P) {sg : Sg} {f : FuncId} {r : Rz} {J : Nat → St → Option Rz} {J' : Nat → Nat → St → Option Rz} (hJ : ∀ j h, J j h = some r → Ev fun m => J' m j h = some r)
include hcfg hJ
theorem codeJ_cont : ∀ {code : Code} {i : Nat} {st : St} {k : Exit → St → Option Rz} {k' : Nat → Exit → St → Option Rz}, (∀ x st, k x st = some r → Ev fun m => k' m x st = some r) → codeJ std c sg (cvS c P sg) J f code i st k = some r → Ev fun m => codeJ std c sg (cvS c P sg) (J' m) f code i st (k' m) = some r := by
  intro code
  induction code with
  | skip => intro i st k k' hk h; exact hk _ _ h
  | exit id => intro i st k k' hk h; exact hk _ _ h
  | ret => intro i st k k' hk h; exact hk _ _ h
  | region id ops draw =>
    intro i st k k' hk h
    cases draw with
    | false =>
      simp only [codeJ] at h ⊢
      obtain ⟨st', _, h2, h3⟩ := opsJ_ok hcfg h
      exact (hk _ _ h2).mono fun m hm => h3 _ _ hm
    | true =>
      simp only [codeJ] at h ⊢
      split at h
      · obtain ⟨st', _, h2, h3⟩ := opsJ_ok hcfg h
        exact (hk _ _ h2).mono fun m hm => h3 _ _ hm
      · simp at h
  | seq a b iha ihb =>
    intro i st k k' hk h
    simp only [codeJ] at h ⊢
    refine iha (k' := fun m => seqK (fun st' => codeJ std c sg (cvS c P sg) (J' m) f b i st' (k' m)) (k' m)) (fun x st hx => ?_) h
    cases x with
    | normal => exact ihb hk hx
    | _ => exact hk _ _ hx
  | cond v a b iha ihb =>
    intro i st k k' hk h
    simp only [codeJ, condK] at h ⊢
    split at h
    · split at h
      · rename_i hv
        rcases br_cases h with ⟨rfl, h1⟩ | ⟨rfl, h1⟩
        · exact iha hk h1
        · exact ihb hk h1
      · simp at h
    · split at h
      · rcases br_cases h with ⟨rfl, h1⟩ | ⟨rfl, h1⟩
        · exact iha hk h1
        · exact ihb hk h1
      · simp at h
  | block id a iha =>
    intro i st k k' hk h
    simp only [codeJ] at h ⊢
    refine iha (k' := fun m => blkK id (k' m)) (fun x st hx => ?_) h
    cases x with
    | exit id' =>
      simp only [blkK] at hx ⊢
      split at hx
      · rename_i e; simp only [e, if_true]; exact hk _ _ hx
      · rename_i e; simp only [if_neg e]; exact hk _ _ hx
    | _ => exact hk _ _ hx
  | loop a iha =>
    intro i st k k' hk h
    simp only [codeJ, jmp] at h ⊢
    split at h
    · exact hJ _ _ h
    · simp at h
  | _ => intro i st k k' hk h; simp [codeJ] at h
theorem treeJ_cont : ∀ {code : Code} {i : Nat} {k : Exit → St → Option Rz} {k' : Nat → Exit → St → Option Rz} {j : Nat} {t : St → Option Rz} {h : St}, (∀ x st, k x st = some r → Ev fun m => k' m x st = some r) → treeJ std c sg (cvS c P sg) J f code i k j = some t → t h = some r → Ev fun m => ∃ t', treeJ std c sg (cvS c P sg) (J' m) f code i (k' m) j = some t' ∧ t' h = some r := by
  intro code
  induction code with
  | seq a b iha ihb =>
    intro i k k' j t h hk ht hr
    simp only [treeJ] at ht ⊢
    split at ht
    · rename_i t1 h1
      simp only [Option.some.injEq] at ht
      subst ht
      refine (iha (k' := fun m => seqK (fun st' => codeJ std c sg (cvS c P sg) (J' m) f b i st' (k' m)) (k' m)) (fun x st hx => ?_) h1 hr).mono fun m hm => ?_
      · cases x with
        | normal => exact codeJ_cont hcfg hJ hk hx
        | _ => exact hk _ _ hx
      · obtain ⟨t', h2, h3⟩ := hm
        exact ⟨t', by rw [h2], h3⟩
    · rename_i h1
      refine (ihb hk ht hr).mono fun m hm => ?_
      rw [treeJ_none h1]
      exact hm
  | cond v a b iha ihb =>
    intro i k k' j t h hk ht hr
    simp only [treeJ] at ht ⊢
    split at ht
    · rename_i t1 h1
      simp only [Option.some.injEq] at ht
      subst ht
      refine (iha hk h1 hr).mono fun m hm => ?_
      obtain ⟨t', h2, h3⟩ := hm
      exact ⟨t', by rw [h2], h3⟩
    · rename_i h1
      refine (ihb hk ht hr).mono fun m hm => ?_
      rw [treeJ_none h1]
      exact hm
  | block id a iha =>
    intro i k k' j t h hk ht hr
    simp only [treeJ] at ht ⊢
    refine iha (k' := fun m => blkK id (k' m)) (fun x st hx => ?_) ht hr
    cases x with
    | exit id' =>
      simp only [blkK] at hx ⊢
      split at hx
      · rename_i e; simp only [e, if_true]; exact hk _ _ hx
      · rename_i e; simp only [if_neg e]; exact hk _ _ hx
    | _ => exact hk _ _ hx
  | loop a iha =>
    intro i k k' j t h hk ht hr
    simp only [treeJ] at ht ⊢
    have hkk : ∀ x st, seqK (jmp c J f i) k x st = some r → Ev fun m => seqK (jmp c (J' m) f i) (k' m) x st = some r := by
      intro x st hx
      cases x with
      | normal =>
        simp only [seqK, jmp] at hx ⊢
        split at hx
        · exact hJ _ _ hx
        · simp at hx
      | _ => exact hk _ _ hx
    split at ht
    · rename_i e
      simp only [Option.some.injEq] at ht
      subst ht
      refine (codeJ_cont hcfg hJ hkk hr).mono fun m hm => ?_
      rw [if_pos e]
      exact ⟨_, rfl, hm⟩
    · rename_i e
      simp only [if_neg e]
      exact iha hkk ht hr
  | _ => intro i k k' j t h hk ht hr; simp [treeJ] at ht
end
section
variable {P : Program} {c : Cfg} (hcfg : CfgOk c P) {sg : Sg} {f : FuncId} {fn : Func} {sk : List D} {r : Rz}
include hcfg
theorem W.ev {j : Nat} {h : St} (hw : W c P sg f fn sk j h r) : Ev fun m => Jn c P sg f fn sk m j h = some r := by
  obtain ⟨n, hn⟩ := hw
  exact ⟨n, fun m hm => Jn_mono hcfg hm _ _ _ hn⟩
theorem W.step {j : Nat} {h : St} (ht : ∀ J : Nat → St → Option Rz, (∀ j' h', W c P sg f fn sk j' h' r → J j' h' = some r) → headJ std c sg (cvS c P sg) J f fn sk j h = some r) : W c P sg f fn sk j h r := by
  classical
  have h1 := ht (fun j' h' => if W c P sg f fn sk j' h' r then some r else none) (fun j' h' hw => if_pos hw)
  unfold headJ at h1
  split at h1
  case h_2 => simp at h1
  rename_i body hb
  split at h1
  case h_2 => simp at h1
  rename_i t ht
  obtain ⟨n, hn⟩ := treeJ_cont hcfg (J' := Jn c P sg f fn sk) (k' := fun _ => finK c fn sk) (fun j' h' hh => by
    split at hh
    · rename_i hw; exact hw.ev hcfg
    · simp at hh) (fun x st hx => ⟨0, fun _ _ => hx⟩) ht h1
  obtain ⟨t', h2, h3⟩ := hn n (Nat.le_refl _)
  refine ⟨n + 1, ?_⟩
  simp only [Jn, headJ]
  rw [hb]
  simp only
  rw [h2]
  exact h3
theorem Comes.step (ok : Told c P f fn) {args : List D} (ht : ∀ J : Nat → St → Option Rz, (∀ j' h', W c P sg f fn (args.map skD) j' h' r → J j' h' = some r) → runJ std c sg (cvS c P sg) J f fn args = some r) : Comes c P f args r := by
  classical
  have h1 := ht (fun j' h' => if W c P sg f fn (args.map skD) j' h' r then some r else none) (fun j' h' hw => if_pos hw)
  unfold runJ at h1
  split at h1
  case h_2 => simp at h1
  rename_i body hb
  obtain ⟨n, hn⟩ := codeJ_cont hcfg (J' := Jn c P sg f fn (args.map skD)) (k' := fun _ => finK c fn (args.map skD)) (fun j' h' hh => by
    split at hh
    · rename_i hw; exact hw.ev hcfg
    · simp at hh) (fun x st hx => ⟨0, fun _ _ => hx⟩) h1
  refine comes_run hcfg ok (sg := sg) (n := n) ?_
  unfold runJ
  rw [hb]
  exact hn n (Nat.le_refl _)
end
end Go.Proofs.Ytkejckoefjonjaa
namespace Go.Proofs.Ytkejckoefjonjaa
open Go.Shelf
def tyTab : List (Nat × TI) := [
  (2, ⟨.int .i64, 1, 8, [.int .i64 0]⟩),
  (3, ⟨.int .i64, 1, 8, [.int .i64 0]⟩),
  (4, ⟨.bool, 1, 1, [.bool false]⟩),
  (5, ⟨.int .u8, 1, 1, [.int .u8 0]⟩),
  (6, ⟨.int .u8, 1, 1, [.int .u8 0]⟩),
  (7, ⟨.struct [0, 1, 2, 3] [1, 1, 1, 1], 4, 24, [.int .i64 0, .int .i64 0, .bool false, .int .u8 0]⟩),
  (8, ⟨.struct [0, 1, 2, 3] [1, 1, 1, 1], 4, 24, [.int .i64 0, .int .i64 0, .bool false, .int .u8 0]⟩),
  (9, ⟨.str, 1, 16, [.str ⟨#[]⟩]⟩),
  (10, ⟨.str, 1, 16, [.str ⟨#[]⟩]⟩),
  (11, ⟨.str, 1, 16, [.str ⟨#[]⟩]⟩),
  (12, ⟨.int .u64, 1, 8, [.int .u64 0]⟩),
  (13, ⟨.struct [0, 1] [1, 1], 2, 24, [.str ⟨#[]⟩, .int .u64 0]⟩),
  (14, ⟨.struct [0, 1] [1, 1], 2, 24, [.str ⟨#[]⟩, .int .u64 0]⟩),
  (15, ⟨.ptr 168, 1, 8, [.undef]⟩),
  (16, ⟨.ptr 171, 1, 8, [.undef]⟩),
  (17, ⟨.ptr 179, 1, 8, [.undef]⟩),
  (18, ⟨.struct [0] [1], 1, 8, [.undef]⟩),
  (19, ⟨.struct [0] [1], 1, 8, [.undef]⟩),
  (21, ⟨.int .i32, 1, 4, [.int .i32 0]⟩),
  (22, ⟨.slice 3, 1, 24, [.nil 1]⟩),
  (23, ⟨.struct [0, 1, 2, 3, 4] [1, 1, 1, 1, 1], 5, 56, [.int .i64 0, .int .i64 0, .int .i64 0, .int .i64 0, .nil 1]⟩),
  (24, ⟨.struct [0, 1, 2, 3, 4] [1, 1, 1, 1, 1], 5, 56, [.int .i64 0, .int .i64 0, .int .i64 0, .int .i64 0, .nil 1]⟩),
  (27, ⟨.struct [0, 1, 2, 3, 4] [1, 1, 1, 1, 1], 5, 56, [.int .i64 0, .int .i64 0, .int .i64 0, .int .i64 0, .nil 1]⟩),
  (31, ⟨.slice 22, 1, 24, [.nil 1]⟩),
  (32, ⟨.struct [0, 1, 2, 3, 4, 5] [1, 1, 1, 1, 1, 1], 6, 64, [.nil 1, .nil 1, .bool false, .bool false, .bool false, .int .i64 0]⟩),
  (33, ⟨.struct [0, 1, 2, 3, 4, 5] [1, 1, 1, 1, 1, 1], 6, 64, [.nil 1, .nil 1, .bool false, .bool false, .bool false, .int .i64 0]⟩),
  (34, ⟨.slice 5, 1, 24, [.nil 1]⟩),
  (35, ⟨.struct [0, 1] [1, 1], 2, 48, [.nil 1, .nil 1]⟩),
  (36, ⟨.struct [0, 1] [1, 1], 2, 48, [.nil 1, .nil 1]⟩),
  (37, ⟨.slice 4, 1, 24, [.nil 1]⟩),
  (38, ⟨.struct [0, 1, 2, 3, 4, 10, 12, 13, 14, 15] [1, 1, 1, 1, 6, 2, 1, 1, 1, 1], 16, 248, [.int .i64 0, .bool false, .bool false, .nil 1, .nil 1, .nil 1, .bool false, .bool false, .bool false, .int .i64 0, .nil 1, .nil 1, .nil 1, .nil 1, .nil 1, .nil 1]⟩),
  (39, ⟨.struct [0, 1, 2, 3, 4, 10, 12, 13, 14, 15] [1, 1, 1, 1, 6, 2, 1, 1, 1, 1], 16, 248, [.int .i64 0, .bool false, .bool false, .nil 1, .nil 1, .nil 1, .bool false, .bool false, .bool false, .int .i64 0, .nil 1, .nil 1, .nil 1, .nil 1, .nil 1, .nil 1]⟩),
  (42, ⟨.struct [0, 1, 2, 3, 4, 5] [1, 1, 1, 1, 1, 1], 6, 64, [.nil 1, .nil 1, .bool false, .bool false, .bool false, .int .i64 0]⟩),
  (43, ⟨.struct [0, 1] [1, 1], 2, 48, [.nil 1, .nil 1]⟩),
  (44, ⟨.struct [0, 1, 2, 3, 4, 10, 12, 13, 14, 15] [1, 1, 1, 1, 6, 2, 1, 1, 1, 1], 16, 248, [.int .i64 0, .bool false, .bool false, .nil 1, .nil 1, .nil 1, .bool false, .bool false, .bool false, .int .i64 0, .nil 1, .nil 1, .nil 1, .nil 1, .nil 1, .nil 1]⟩),
  (45, ⟨.struct [0, 1, 2, 3, 4, 10, 12, 13, 14, 15] [1, 1, 1, 1, 6, 2, 1, 1, 1, 1], 16, 248, [.int .i64 0, .bool false, .bool false, .nil 1, .nil 1, .nil 1, .bool false, .bool false, .bool false, .int .i64 0, .nil 1, .nil 1, .nil 1, .nil 1, .nil 1, .nil 1]⟩),
  (49, ⟨.slice 39, 1, 24, [.nil 16]⟩),
  (50, ⟨.slice 113, 1, 24, [.nil 3]⟩),
  (51, ⟨.slice 117, 1, 24, [.nil 2]⟩),
  (52, ⟨.struct [0, 1, 2, 3, 4] [1, 1, 1, 1, 1], 5, 104, [.nil 16, .nil 3, .nil 2, .nil 1, .int .i64 0]⟩),
  (53, ⟨.struct [0, 1, 2, 3, 4] [1, 1, 1, 1, 1], 5, 104, [.nil 16, .nil 3, .nil 2, .nil 1, .int .i64 0]⟩),
  (56, ⟨.slice 45, 1, 24, [.nil 16]⟩),
  (57, ⟨.slice 114, 1, 24, [.nil 3]⟩),
  (58, ⟨.slice 93, 1, 24, [.nil 2]⟩),
  (59, ⟨.struct [0, 1, 2, 3, 4] [1, 1, 1, 1, 1], 5, 104, [.nil 16, .nil 3, .nil 2, .nil 1, .int .i64 0]⟩),
  (60, ⟨.struct [0, 1, 2, 3, 4] [1, 1, 1, 1, 1], 5, 104, [.nil 16, .nil 3, .nil 2, .nil 1, .int .i64 0]⟩),
  (73, ⟨.slice 9, 1, 24, [.nil 1]⟩),
  (92, ⟨.struct [0, 1] [1, 1], 2, 16, [.int .i64 0, .int .i64 0]⟩),
  (93, ⟨.struct [0, 1] [1, 1], 2, 16, [.int .i64 0, .int .i64 0]⟩),
  (112, ⟨.struct [0, 1, 2] [1, 1, 1], 3, 40, [.int .i64 0, .int .i64 0, .nil 1]⟩),
  (113, ⟨.struct [0, 1, 2] [1, 1, 1], 3, 40, [.int .i64 0, .int .i64 0, .nil 1]⟩),
  (114, ⟨.struct [0, 1, 2] [1, 1, 1], 3, 40, [.int .i64 0, .int .i64 0, .nil 1]⟩),
  (117, ⟨.struct [0, 1] [1, 1], 2, 16, [.int .i64 0, .int .i64 0]⟩),
  (126, ⟨.ptr 128, 1, 8, [.undef]⟩),
  (127, ⟨.struct [0, 1] [1, 1], 2, 32, [.undef, .nil 1]⟩),
  (128, ⟨.struct [0, 1] [1, 1], 2, 32, [.undef, .nil 1]⟩),
  (140, ⟨.ptr 5, 1, 8, [.undef]⟩),
  (142, ⟨.int .u64, 1, 8, [.int .u64 0]⟩),
  (151, ⟨.ptr 153, 1, 8, [.undef]⟩),
  (152, ⟨.struct [0, 1, 2] [1, 1, 1], 3, 40, [.nil 1, .int .i64 0, .bool false]⟩),
  (153, ⟨.struct [0, 1, 2] [1, 1, 1], 3, 40, [.nil 1, .int .i64 0, .bool false]⟩),
  (160, ⟨.ptr 162, 1, 8, [.undef]⟩),
  (161, ⟨.struct [0, 1, 2] [1, 1, 1], 3, 40, [.nil 1, .int .i64 0, .bool false]⟩),
  (162, ⟨.struct [0, 1, 2] [1, 1, 1], 3, 40, [.nil 1, .int .i64 0, .bool false]⟩),
  (167, ⟨.struct [0, 1, 2, 3] [1, 1, 1, 1], 4, 40, [.undef, .undef, .undef, .str ⟨#[]⟩]⟩),
  (168, ⟨.struct [0, 1, 2, 3] [1, 1, 1, 1], 4, 40, [.undef, .undef, .undef, .str ⟨#[]⟩]⟩),
  (172, ⟨.int .u32, 1, 4, [.int .u32 0]⟩),
  (173, ⟨.int .u8, 1, 1, [.int .u8 0]⟩),
  (174, ⟨.int .u8, 1, 1, [.int .u8 0]⟩),
  (176, ⟨.int .i32, 1, 4, [.int .i32 0]⟩),
  (177, ⟨.int .i32, 1, 4, [.int .i32 0]⟩),
  (178, ⟨.struct [0, 1, 2, 3, 4, 5, 6, 7, 8, 9, 10] [1, 1, 1, 1, 1, 1, 1, 1, 1, 1, 1], 11, 48, [.int .u64 0, .int .u64 0, .int .u32 0, .int .u8 0, .int .u8 0, .int .u8 0, .int .u8 0, .undef, .undef, .int .i32 0, .int .i32 0]⟩),
  (179, ⟨.struct [0, 1, 2, 3, 4, 5, 6, 7, 8, 9, 10] [1, 1, 1, 1, 1, 1, 1, 1, 1, 1, 1], 11, 48, [.int .u64 0, .int .u64 0, .int .u32 0, .int .u8 0, .int .u8 0, .int .u8 0, .int .u8 0, .undef, .undef, .int .i32 0, .int .i32 0]⟩)]
def ownTab : List (Nat × List Bool) := [(25, [true, false]), (26, [true, false]), (59, [true]), (63, [true, false]), (64, [true, false]), (65, [true, false]), (83, [true, false]), (84, [true, false]), (85, [true, false]), (99, [true, false]), (100, [true, false]), (101, [true]), (116, [true]), (117, [true, false]), (128, [true]), (129, [true]), (139, [true]), (140, [true]), (156, [true]), (157, [true]), (158, [true]), (159, [true]), (160, [true]), (163, [true])]
def inlTab : List Nat := []
def stealTab : List (Nat × Nat) := []
def nmTab : List (Nat × Nat × List Nat × List Nat) := [(15, (1, ([1, 3, 4], [1, 60]))), (17, (1, ([3, 51, 52, 53], [65]))), (20, (0, ([1, 2, 5], [2, 37, 38]))), (22, (0, ([1, 2, 5], [2, 35, 36]))), (23, (0, ([0, 1, 5], [26, 27]))), (26, (0, ([0, 1, 5], [19, 20]))), (27, (0, ([0, 1, 5], [21, 22]))), (28, (0, ([1, 2, 5, 6], [2, 39, 40]))), (29, (0, ([0, 3, 4], [22]))), (30, (0, ([2, 5, 9, 10, 11], [2, 32, 33]))), (31, (0, ([1, 3, 4], [1, 41]))), (32, (0, ([1, 3, 7, 8, 9], [1, 36]))), (37, (0, ([0, 3, 4], [31]))), (44, (0, ([0, 1, 5], [27, 28]))), (47, (0, ([0, 3, 4], [22]))), (48, (0, ([0, 3, 4], [23]))), (51, (0, ([0, 1, 5], [26, 27]))), (52, (0, ([0, 1, 5], [27, 28]))), (53, (0, ([0, 1, 5], [27, 28]))), (54, (0, ([0, 1, 5], [27, 28]))), (56, (0, ([0, 3, 4], [23]))), (57, (0, ([0, 3, 4], [23]))), (58, (0, ([0, 3, 4], [23]))), (59, (0, ([0, 2, 3], [28]))), (60, (0, ([0, 1, 5], [27, 28]))), (61, (0, ([0, 1, 5], [27, 28]))), (62, (0, ([0, 1, 5], [27, 28]))), (63, (0, ([0, 1, 5], [143, 144]))), (64, (0, ([0, 1, 5], [34, 35]))), (65, (0, ([0, 1, 5], [27, 28]))), (70, (0, ([1, 3], [1, 99]))), (72, (0, ([1, 85], [1, 164]))), (72, (2, ([1, 139, 140, 141], [1, 164]))), (74, (1, ([0, 1, 5, 39, 40, 41], [75, 76]))), (74, (3, ([1, 8, 63, 64, 65], [8, 75, 76]))), (76, (0, ([0, 3, 4], [22]))), (77, (0, ([0, 1, 5], [26, 27]))), (83, (0, ([0, 1, 5], [19, 20]))), (84, (0, ([0, 1, 5], [20, 21]))), (85, (0, ([0, 1, 5], [21, 22]))), (87, (0, ([0, 3], [19]))), (88, (0, ([1, 3], [1, 47]))), (89, (0, ([1, 3], [1, 81]))), (91, (0, ([2, 3, 5], [2, 3, 68, 69]))), (102, (0, ([0, 3], [32]))), (103, (0, ([0, 3], [29]))), (106, (0, ([0, 1, 5], [32, 33]))), (109, (0, ([0, 5, 6, 7], [26]))), (112, (0, ([0, 5, 6, 7], [29]))), (114, (0, ([0, 1, 12, 13], [26, 27]))), (115, (0, ([1, 2, 15, 16, 17], [32, 33, 34]))), (118, (0, ([0, 1, 5], [18, 19]))), (119, (0, ([0, 2, 4, 5, 6], [2, 11, 5, 65]))), (120, (0, ([1, 6], [29, 30]))), (121, (0, ([0, 1, 7, 8], [19, 20]))), (123, (0, ([0, 1, 7, 8], [19, 20]))), (128, (0, ([0, 3, 4, 5], [28]))), (130, (0, ([1, 3, 4], [1, 85]))), (130, (2, ([1, 3, 5], [1, 85]))), (130, (4, ([1, 3, 5, 6], [1, 85]))), (132, (0, ([0, 1, 7, 8], [19, 20]))), (133, (0, ([0, 2, 4, 5, 16], [2, 11, 5, 64]))), (136, (0, ([0, 1, 7, 8], [55, 56]))), (137, (0, ([0, 3], [25]))), (139, (0, ([0, 3, 4, 5], [28]))), (141, (0, ([1, 3, 13, 14, 15], [1, 41]))), (143, (0, ([0, 1, 7, 8, 9], [57, 58]))), (145, (0, ([3, 7, 8, 9], [19]))), (147, (0, ([0, 3], [27])))]
def sgTab : List (Nat × RS × List RS) := [
  (0, (.tup [], [])),
  (1, (.tup [], [])),
  (2, (.tup [], [])),
  (3, (.bool, [.undef])),
  (4, (.bool, [.undef])),
  (5, (.bool, [.undef, .undef])),
  (6, (.bool, [.undef, .undef])),
  (7, (.bool, [.undef])),
  (8, (.bool, [.undef])),
  (9, (.int .i64, [.undef, .undef])),
  (10, (.str, [.undef])),
  (11, (.ty .msg, [.undef])),
  (12, (.str, [.undef])),
  (13, (.bool, [.undef, .undef])),
  (14, (.int .i64, [.undef, .undef])),
  (15, (.str, [.undef])),
  (16, (.ty .node, [.undef])),
  (17, (.str, [.undef])),
  (18, (.bool, [.undef, .undef])),
  (19, (.int .i64, [.undef, .undef])),
  (20, (.ty .I, [.undef, .undef])),
  (21, (.ty .world, [.undef])),
  (22, (.ty .I, [.undef, .undef])),
  (23, (.bool, [.undef, .undef])),
  (24, (.bool, [.undef, .undef])),
  (25, (.int .i64, [.agg [.sl 16, .sl 3, .sl 2, .sl 1, .int .i64], .undef])),
  (26, (.int .i64, [.sl 1, .undef])),
  (27, (.int .i64, [.undef, .undef])),
  (28, (.ty .I, [.undef, .undef])),
  (29, (.sl 1, [.undef])),
  (30, (.ty .I, [.undef, .undef])),
  (31, (.str, [.undef])),
  (32, (.str, [.undef])),
  (33, (.bool, [.undef])),
  (34, (.bool, [.undef])),
  (35, (.int .i64, [.undef, .undef])),
  (36, (.bool, [.undef, .undef, .undef])),
  (37, (.str, [.undef])),
  (38, (.bool, [.undef, .undef, .undef])),
  (39, (.str, [.undef])),
  (40, (.str, [.undef])),
  (41, (.int .i64, [.undef, .undef])),
  (42, (.int .i64, [.undef, .undef])),
  (43, (.int .i64, [.undef, .undef])),
  (44, (.int .i64, [.undef, .undef])),
  (45, (.agg [.sl 1, .sl 1, .bool, .bool, .bool, .int .i64], [.undef])),
  (46, (.agg [.sl 1, .sl 1], [.undef])),
  (47, (.sl 1, [.undef])),
  (48, (.sl 1, [.undef])),
  (49, (.bool, [.undef, .undef])),
  (50, (.bool, [.undef, .undef])),
  (51, (.bool, [.undef, .undef])),
  (52, (.bool, [.undef, .undef])),
  (53, (.int .i64, [.undef, .undef])),
  (54, (.int .i64, [.undef, .undef])),
  (55, (.int .i64, [.undef, .undef])),
  (56, (.sl 16, [.undef])),
  (57, (.sl 3, [.undef])),
  (58, (.sl 2, [.undef])),
  (59, (.tup [], [.sl 1])),
  (60, (.bool, [.undef, .undef])),
  (61, (.bool, [.undef, .undef])),
  (62, (.bool, [.undef, .undef])),
  (63, (.int .i64, [.sl 16, .undef])),
  (64, (.int .i64, [.sl 3, .undef])),
  (65, (.int .i64, [.sl 2, .undef])),
  (66, (.sl 1, [])),
  (67, (.sl 1, [.undef, .undef, .undef])),
  (68, (.sl 1, [])),
  (69, (.sl 1, [.undef, .undef, .undef])),
  (70, (.bool, [.undef])),
  (71, (.int .i64, [.undef])),
  (72, (.bool, [.undef])),
  (73, (.int .i64, [.undef])),
  (74, (.str, [.undef, .undef])),
  (75, (.int .i64, [.undef, .undef])),
  (76, (.sl 1, [.undef])),
  (77, (.bool, [.undef, .undef])),
  (78, (.int .i64, [.undef, .undef])),
  (79, (.agg [.int .i64, .int .i64, .sl 1], [.undef])),
  (80, (.agg [.int .i64, .int .i64], [.undef])),
  (81, (.bool, [.undef, .undef])),
  (82, (.bool, [.undef, .undef])),
  (83, (.int .i64, [.sl 1, .undef])),
  (84, (.int .i64, [.sl 1, .undef])),
  (85, (.int .i64, [.sl 1, .undef])),
  (86, (.sl 1, [.undef])),
  (87, (.bool, [.undef])),
  (88, (.bool, [.undef])),
  (89, (.bool, [.undef])),
  (90, (.tup [.ty .mt, .int .i64, .bool], [.undef])),
  (91, (.bool, [.undef, .undef])),
  (92, (.bool, [.undef])),
  (93, (.bool, [.undef])),
  (94, (.bool, [.undef])),
  (95, (.bool, [.undef])),
  (96, (.tup [.ty .mt, .int .i64, .bool], [.undef])),
  (97, (.bool, [.undef, .undef])),
  (98, (.bool, [.undef])),
  (102, (.bool, [.undef])),
  (103, (.bool, [.undef])),
  (104, (.int .i64, [.undef])),
  (105, (.tup [.ty .mt, .int .i64, .bool], [.undef])),
  (106, (.bool, [.undef, .undef])),
  (107, (.bool, [.undef, .undef])),
  (108, (.bool, [.undef])),
  (109, (.bool, [.undef])),
  (110, (.bool, [.undef, .undef])),
  (111, (.bool, [.undef])),
  (112, (.bool, [.undef])),
  (113, (.tup [.ty .mt, .int .i64, .bool], [.undef])),
  (114, (.bool, [.undef, .undef])),
  (115, (.bool, [.undef, .undef, .undef])),
  (118, (.bool, [.undef, .undef])),
  (119, (.tup [.ty .mt, .bool], [.undef])),
  (120, (.ty .B, [.undef, .undef])),
  (121, (.int .i64, [.undef, .undef])),
  (122, (.bool, [.undef, .undef])),
  (123, (.int .i64, [.undef, .undef])),
  (124, (.bool, [.undef])),
  (125, (.tup [.ty .mt, .int .i64, .bool], [.undef])),
  (127, (.ty .B, [.undef])),
  (128, (.sl 1, [.pbox [.slx 1, .int .i64, .bool]])),
  (129, (.int .i64, [.pbox [.slx 1, .int .i64, .bool]])),
  (130, (.sl 1, [.undef])),
  (131, (.ty .B, [.undef])),
  (132, (.int .i64, [.undef, .undef])),
  (133, (.tup [.ty .mt, .bool], [.undef])),
  (134, (.bool, [.undef, .undef])),
  (135, (.ty .B, [.undef, .undef])),
  (136, (.tup [.int .i64, .int .i64, .bool], [.undef, .undef])),
  (137, (.sl 1, [.undef])),
  (138, (.int .i64, [.undef])),
  (139, (.sl 1, [.pbox [.slx 1, .int .i64, .bool]])),
  (140, (.int .i64, [.pbox [.slx 1, .int .i64, .bool]])),
  (141, (.sl 1, [.undef])),
  (142, (.ty .B, [.undef])),
  (143, (.tup [.int .i64, .int .i64, .bool], [.undef, .undef])),
  (144, (.sl 1, [.undef])),
  (145, (.sl 1, [.undef])),
  (146, (.int .i64, [.undef, .undef])),
  (147, (.sl 1, [.undef])),
  (148, (.str, [.undef])),
  (149, (.tup [], [.undef])),
  (150, (.str, [.undef])),
  (151, (.tup [], [.undef])),
  (152, (.str, [.undef])),
  (153, (.tup [], [.undef])),
  (154, (.str, [.undef])),
  (155, (.tup [], [.undef])),
  (161, (.str, [.undef])),
  (162, (.tup [], [.undef])),
  (164, (.str, [.undef]))]
def cfg : Cfg where
  ty := lk tyTab
  ext := fun f => if f = 74 then some joinE else if f = 86 then some (cloneE 1 8) else none
  own := fun f => (lk ownTab f).getD []
  inl := fun f => inlTab.contains f
  steal := fun f t => stealTab.contains (f, t)
  nm := fun f i => (nmTab.find? fun r => r.1 == f && r.2.1 == i).map fun r => r.2.2
def emTab : List Nat := [48, 56, 57, 58, 83, 63, 64, 65]
def sg : Sg := ⟨lk sgTab, fun f => emTab.contains f⟩
theorem cfg_ok : CfgOk cfg Try.prog := ⟨tyall_ok (l := tyTab) (by kernel_rfl)⟩
theorem cfg_fits (f : FuncId) (fn : Func) (body : Code) (hf : Try.prog.funcs[f]? = some fn) (hb : fn.body = some body) : fitsC fn.ntmps body = true ∧ (fn.name == "runtime.NumGoroutine") = false :=
  fits_ok (by kernel_rfl) f fn body hf hb
theorem cfg_mixed : Try.prog.follows .mixedOrders = true := by kernel_rfl
def joinR : Ren := ⟨fun | 156 => 74 | 165 => 99 | 166 => 100 | 169 => 101 | 240 => 116 | 241 => 117 | 276 => 126 | 277 => 127 | n => n,
  fun | 0 => 0 | 3 => 3 | 4 => 4 | 5 => 5 | 9 => 9 | 20 => 20 | 31 => 73 | 37 => 34 | 70 => 126 | 72 => 128 | 75 => 131 | 76 => 132 | 80 => 134 | 127 => 140 | 164 => 148 | n => n, fun n => n⟩
theorem joinL : Lays.n156 Try.prog joinR where
  mixed := by kernel_rfl
  f156 := Try.func74.trans (congrArg some (by kernel_rfl))
  f165 := Try.func99.trans (congrArg some (by kernel_rfl))
  f166 := Try.func100.trans (congrArg some (by kernel_rfl))
  f169 := Try.func101.trans (congrArg some (by kernel_rfl))
  f240 := Try.func116.trans (congrArg some (by kernel_rfl))
  f241 := Try.func117.trans (congrArg some (by kernel_rfl))
  f276 := Try.func126.trans (congrArg some (by kernel_rfl))
  f277 := Try.func127.trans (congrArg some (by kernel_rfl))
  t0 := Try.underlying0
  a0 := Try.isAgg0
  z0 := Try.sizeOf0
  v0 := Try.zeroValue0
  t3 := Try.underlying3
  a3 := Try.isAgg3
  z3 := Try.sizeOf3
  v3 := Try.zeroValue3
  t4 := Try.underlying4
  a4 := Try.isAgg4
  z4 := Try.sizeOf4
  v4 := Try.zeroValue4
  t9 := Try.underlying9
  a9 := Try.isAgg9
  z9 := Try.sizeOf9
  v9 := Try.zeroValue9
  t20 := Try.underlying20
  a20 := Try.isAgg20
  z20 := Try.sizeOf20
  v20 := Try.zeroValue20
  t31 := Try.underlying73
  a31 := Try.isAgg73
  z31 := Try.sizeOf73
  v31 := Try.zeroValue73
  t37 := Try.underlying34
  a37 := Try.isAgg34
  z37 := Try.sizeOf34
  v37 := Try.zeroValue34
  t70 := Try.underlying126
  a70 := Try.isAgg126
  z70 := Try.sizeOf126
  v70 := Try.zeroValue126
  t72 := Try.underlying128
  a72 := Try.isAgg128
  z72 := Try.sizeOf128
  v72 := Try.zeroValue128
  t75 := Try.underlying131
  a75 := Try.isAgg131
  z75 := Try.sizeOf131
  v75 := Try.zeroValue131
  t76 := Try.underlying132
  a76 := Try.isAgg132
  z76 := Try.sizeOf132
  v76 := Try.zeroValue132
  t127 := Try.underlying140
  a127 := Try.isAgg140
  z127 := Try.sizeOf140
  v127 := Try.zeroValue140
  t164 := Try.underlying148
  a164 := Try.isAgg148
  z164 := Try.sizeOf148
  v164 := Try.zeroValue148
theorem joinX : Builder.Extra Try.prog joinR where
  sizeBuilder := by kernel_rfl
  liesBuilder := by kernel_rfl
  t5 := Try.underlying5
  a5 := Try.isAgg5
  z5 := Try.sizeOf5
  v5 := Try.zeroValue5
  infoByte := by kernel_rfl
  cellsByte := by kernel_rfl
  sizeByte := by kernel_rfl
  neB5 := by decide
theorem fnJoin : FnOk Try.prog 74 := ⟨_, Try.func74, by kernel_rfl, by kernel_rfl⟩
def cloneR86 : Ren := ⟨fun | 41 => 86 | n => n, fun | 4 => 4 | 22 => 22 | 23 => 3 | n => n, fun n => n⟩
theorem cloneL86 : SlLaysE0.n41 Try.prog cloneR86 where
  mixed := by kernel_rfl
  f41 := ⟨Try.f86.name, by kernel_rfl, Try.func86.trans (congrArg some (by kernel_rfl))⟩
  t4 := Try.underlying4
  a4 := Try.isAgg4
  z4 := Try.sizeOf4
  v4 := Try.zeroValue4
  t22 := Try.underlying22
  a22 := Try.isAgg22
  z22 := Try.sizeOf22
  v22 := Try.zeroValue22
theorem fnClone86 : FnOk Try.prog 86 := ⟨_, Try.func86, by kernel_rfl, by kernel_rfl⟩
noncomputable def cloneI86 : TypeInfo := (Try.prog.info? 3).get (by kernel_rfl)
theorem cfg_ext : ∀ f e ds r outs, cfg.ext f = some e → e ds = some (r, outs) → FnOk Try.prog f ∧ ∀ (w : World) (Y : Nat → Prop) (us : Array Value) (az : List Arg), CallPre w Y (cfg.own f) ds us.toList az → okR r = true → (∀ o ∈ outs, okR o = true) →
    Calls Try.prog f us w fun e w' => ∃ v, e = .returned v ∧ CallPost w w' Y (cfg.own f) az r outs v := by
  intro f e ds r outs h h2
  have h : (if f = 74 then some joinE else if f = 86 then some (cloneE 1 8) else none) = some e := h
  split at h
  · rename_i hf
    subst hf
    have h := Option.some.inj h
    subst h
    exact join_ok joinL joinX fnJoin (own := cfg.own 74) (by kernel_rfl) h2
  split at h
  · rename_i hf
    subst hf
    have h := Option.some.inj h
    subst h
    exact clone_ok cloneL86 cloneI86 (.int .i64 0) 1 8 (by kernel_rfl) (by kernel_rfl) (by kernel_rfl) (by kernel_rfl) rfl (by decide) Try.sizeOf3 fnClone86 (own := cfg.own 86) (by kernel_rfl) h2
  · simp at h
theorem good (k : Nat) : GoodCall Try.prog cfg.own (callF cfg Try.prog k) := (run_good cfg_ok cfg_mixed cfg_fits cfg_ext k).1
end Go.Proofs.Ytkejckoefjonjaa
namespace Go.Proofs.Ytkejckoefjonjaa
open Go.RowKit
inductive Sh where
  | bool
  | int (k : IntKind)
  | str
  | sl (b : Nat) (e : Sh)
  | ag (fs : List Sh)
mutual
def width : Sh → Nat
  | .ag fs => widths fs
  | _ => 1
def widths : List Sh → Nat
  | [] => 0
  | f :: fs => width f + widths fs
end
mutual
def WT : Sh → List D → Prop
  | .bool, ds => ∃ b, ds = [.bool b]
  | .int k, ds => ∃ n, ds = [.int k n] ∧ (Lit.int k n).wf = true
  | .str, ds => ∃ s, ds = [.str s] ∧ s.size ≤ reachBytes
  | .sl b e, ds => ∃ es : List (List D), ds = [.sl (some false) (width e) es.length es.flatten] ∧ es.length * b ≤ reachBytes ∧ ∀ x ∈ es, WT e x
  | .ag fs, ds => WTs fs ds
def WTs : List Sh → List D → Prop
  | [], ds => ds = []
  | f :: fs, ds => ∃ a b, ds = a ++ b ∧ WT f a ∧ WTs fs b
end
mutual
def shOk (P : Program) : TypeId → Sh → Bool
  | t, .bool => match P.underlying t with | some .bool => true | _ => false
  | t, .int k => match P.underlying t with | some (.int k') => decide (k' = k) | _ => false
  | t, .str => match P.underlying t with | some .string => true | _ => false
  | t, .sl b e => match P.underlying t with
    | some (.slice et) => shOk P et e && decide (P.cellsOf et = width e) && decide (P.bytesOf et = b) && decide (0 < width e)
    | _ => false
  | t, .ag fs => match P.underlying t with
    | some (.struct fl) => decide (P.cellsOf t = widths fs) && shOks P fl.toList 0 fs
    | _ => false
def shOks (P : Program) : List Field → Nat → List Sh → Bool
  | [], _, [] => true
  | f :: fl, o, s :: ss => decide (f.offset = o) && decide (P.cellsOf f.type = width s) && shOk P f.type s && shOks P fl (o + width s) ss
  | _, _, _ => false
end
theorem mapM_some {α β : Type} {f : α → Option β} : ∀ {l : List α} {r : List β}, l.mapM f = some r → l.length = r.length ∧ ∀ (i : Nat) (a : α), l[i]? = some a → ∃ b, f a = some b ∧ r[i]? = some b
  | [], r, h => by
    simp only [List.mapM_nil] at h
    cases h
    exact ⟨rfl, by simp⟩
  | a :: l, r, h => by
    simp only [List.mapM_cons, Option.bind_eq_bind, Option.bind_eq_some_iff] at h
    obtain ⟨b, hb, bs, hbs, h⟩ := h
    cases h
    obtain ⟨h1, h2⟩ := mapM_some hbs
    refine ⟨by simp [h1], fun i x hx => ?_⟩
    cases i with
    | zero =>
      simp only [List.getElem?_cons_zero, Option.some.injEq] at hx
      subst hx
      exact ⟨b, hb, rfl⟩
    | succ i =>
      simp only [List.getElem?_cons_succ] at hx ⊢
      exact h2 i x hx
theorem cells_get {w : World} {base : Nat} {a : Addr} {n : Nat} {vs : List Value} (h : w.cells? base a n = some vs) : vs.length = n ∧ ∀ i, i < n → w.cell? (a.add i) = vs[i]? := by
  unfold World.cells? at h
  split at h
  · obtain ⟨h1, h2⟩ := mapM_some h
    rw [List.length_range] at h1
    refine ⟨h1.symm, fun i hi => ?_⟩
    obtain ⟨b, hb, hr⟩ := h2 i i (by rw [List.getElem?_range hi])
    rw [hb, hr]
  · simp at h
theorem ext_app {w : World} {X : Bool → Nat → Prop} {a b : List D} {us vs : List Value} (h : ExtL w X a us) (h' : ExtL w X b vs) : ExtL w X (a ++ b) (us ++ vs) := by
  rw [extL_all2] at h h' ⊢
  exact h.app h'
theorem flat_get {α : Type} {wd : Nat} (hw : 0 < wd) : ∀ {ls : List (List α)}, (∀ l ∈ ls, l.length = wd) → ∀ j : Nat, ls.flatten[j]? = (ls[j / wd]?).bind (fun l => l[j % wd]?)
  | [], _, j => by simp
  | l :: ls, h, j => by
    have hl := h l (by simp)
    rw [List.flatten_cons]
    by_cases hj : j < wd
    · rw [List.getElem?_append_left (by omega), Nat.div_eq_of_lt hj, Nat.mod_eq_of_lt hj]
      rfl
    · rw [List.getElem?_append_right (by omega), hl, flat_get hw (fun x hx => h x (by simp [hx])) (j - wd)]
      have h1 : j / wd = (j - wd) / wd + 1 := by
        rw [Nat.div_eq_sub_div hw (by omega)]
      have h2 : j % wd = (j - wd) % wd := by
        rw [Nat.mod_eq_sub_mod (by omega)]
      rw [h1, h2, List.getElem?_cons_succ]
theorem pick_all {α : Type} {Q : Nat → α → Prop} : ∀ len : Nat, (∀ i, i < len → ∃ x, Q i x) → ∃ es : List α, es.length = len ∧ ∀ (i : Nat) (x : α), es[i]? = some x → Q i x
  | 0, _ => ⟨[], rfl, by simp⟩
  | n + 1, h => by
    obtain ⟨es, h1, h2⟩ := pick_all n (fun i hi => h i (by omega))
    obtain ⟨x, hx⟩ := h n (by omega)
    refine ⟨es ++ [x], by simp [h1], fun i y hy => ?_⟩
    by_cases hi : i < n
    · rw [List.getElem?_append_left (by omega)] at hy
      exact h2 i y hy
    · rw [List.getElem?_append_right (by omega)] at hy
      have : i = n := by
        have := (List.getElem?_eq_some_iff.1 hy).1
        simp at this
        omega
      subst this
      rw [h1, Nat.sub_self, List.getElem?_cons_zero, Option.some.injEq] at hy
      subst hy
      exact hx
theorem weightsAll_mem {H : Type} {P : Program} {e : TypeId} : ∀ {ds : List (DataW H)} {i : Nat} {d : DataW H}, ds[i]? = some d → ∀ z ∈ d.weights P e, z ∈ DataW.weightsAll P e ds
  | [], i, d, h, _, _ => by simp at h
  | x :: ds, 0, d, h, z, hz => by
    simp only [List.getElem?_cons_zero, Option.some.injEq] at h
    subst h
    simp only [DataW.weightsAll, List.mem_append]
    exact .inl hz
  | x :: ds, i + 1, d, h, z, hz => by
    simp only [DataW.weightsAll, List.mem_append]
    exact .inr (weightsAll_mem (by simpa using h) z hz)
theorem extL_flat {w : World} {X : Bool → Nat → Prop} : ∀ {ps : List (List D × List Value)}, (∀ p ∈ ps, ExtL w X p.1 p.2) → ExtL w X (ps.map (·.1)).flatten (ps.map (·.2)).flatten
  | [], _ => by simp [ExtL]
  | p :: ps, h => by
    simp only [List.map_cons, List.flatten_cons]
    exact ext_app (h p (by simp)) (extL_flat (fun q hq => h q (by simp [hq])))
section
variable {H : Type} {enc : TypeId × Value → H} {P : Program} {w : World} {held : Bool} {X : Bool → Nat → Prop} (hX : ∀ k, k < w.heap.size → X false k)
include hX
mutual
theorem read_ok : ∀ (sh : Sh) {fuel : Nat} {t : TypeId} {cs : List Value} {x : DataW H × List MemPlace}, DataW.trod enc P w 0 (fun _ => true) held fuel t cs = some x → shOk P t sh = true → (∀ z ∈ x.1.weights P t, z ≤ reachBytes) → ∃ ds, WT sh ds ∧ ExtL w X ds cs
  | .bool, fuel, t, cs, x, h, hs, _ => by
    simp only [shOk] at hs
    split at hs
    · rename_i ht
      obtain ⟨b, rfl, rfl⟩ := DataW.trod_bool ht h
      exact ⟨[.bool b], ⟨b, rfl⟩, _, _, rfl, rfl, rfl⟩
    · simp at hs
  | .int k, fuel, t, cs, x, h, hs, _ => by
    simp only [shOk] at hs
    split at hs
    · rename_i k' ht
      simp only [decide_eq_true_eq] at hs
      subst hs
      obtain ⟨n, rfl, rfl, hw⟩ := DataW.trod_int ht h
      exact ⟨[.int k' n], ⟨n, rfl, hw⟩, _, _, rfl, rfl, rfl⟩
    · simp at hs
  | .str, fuel, t, cs, x, h, hs, hz => by
    simp only [shOk] at hs
    split at hs
    · rename_i ht
      obtain ⟨s, rfl, rfl, hw⟩ := DataW.trod_string ht h
      refine ⟨[.str s], ⟨s, rfl, ?_⟩, _, _, rfl, rfl, rfl⟩
      have : s.data.toList.length ≤ reachBytes := hz _ (by unfold DataW.weights; exact List.mem_cons_self)
      rw [Array.length_toList] at this
      exact this
    · simp at hs
  | .sl b e, fuel, t, cs, x, h, hs, hz => by
    simp only [shOk] at hs
    split at hs
    case h_2 => simp at hs
    rename_i et ht
    simp only [Bool.and_eq_true, decide_eq_true_eq] at hs
    obtain ⟨⟨⟨h1, h2⟩, h3⟩, h4⟩ := hs
    rcases DataW.trod_slice ht h with ⟨rfl, rfl⟩ | ⟨a, len, cap, elems, rest, n, rfl, rfl, rfl, _, hl, hm, hlen, hel, _⟩
    · refine ⟨[.sl (some false) (width e) 0 []], ⟨[], rfl, by simp, by simp⟩, _, _, rfl, ?_, rfl⟩
      exact ⟨none, 0, [], rfl, Nat.le_refl _, by simp, rfl, .inl rfl⟩
    · replace hz : ∀ z ∈ ((elems.map (fun y : DataW H × List MemPlace => y.1)).length + (rest.map (fun y : DataW H × List MemPlace => y.1)).length) * P.bytesOf et :: (DataW.weightsAll P et (elems.map (fun y : DataW H × List MemPlace => y.1)) ++ DataW.weightsAll P et (rest.map (fun y : DataW H × List MemPlace => y.1))), z ≤ reachBytes := fun z hz' => hz z (by
        show z ∈ (match P.underlying t with | some (.slice e) => ((elems.map (fun y : DataW H × List MemPlace => y.1)).length + (rest.map (fun y : DataW H × List MemPlace => y.1)).length) * P.bytesOf e :: (DataW.weightsAll P e (elems.map (fun y : DataW H × List MemPlace => y.1)) ++ DataW.weightsAll P e (rest.map (fun y : DataW H × List MemPlace => y.1))) | _ => [])
        rw [ht]
        exact hz')
      rw [h2] at hel
      have hw0 := hz _ List.mem_cons_self
      have each : ∀ i, i < len → ∃ p : List D × List Value, WT e p.1 ∧ ExtL w X p.1 p.2 ∧ p.2.length = width e ∧ ∀ j, j < width e → w.cell? ((a.add (i * width e)).add j) = p.2[j]? := by
        intro i hi
        have h5 := hel i hi
        have hi' : i < elems.length := by omega
        rw [List.getElem?_eq_getElem hi'] at h5
        rw [Option.bind_eq_some_iff] at h5
        obtain ⟨vs, h6, h7⟩ := h5
        obtain ⟨h8, h9⟩ := cells_get h6
        obtain ⟨ds, h10, h11⟩ := read_ok e h7 h1 (fun z hz' => hz z (List.mem_cons_of_mem _ (List.mem_append.2 (.inl (weightsAll_mem (i := i) (d := elems[i].1) (by rw [List.getElem?_map, List.getElem?_eq_getElem hi']; rfl) z hz')))))
        exact ⟨(ds, vs), h10, h11, h8, h9⟩
      obtain ⟨ps, g1, g2⟩ := pick_all len each
      have gm : ∀ p ∈ ps, WT e p.1 ∧ ExtL w X p.1 p.2 ∧ p.2.length = width e := fun p hp => by
        obtain ⟨i, hi⟩ := List.getElem?_of_mem hp
        obtain ⟨k1, k2, k3, _⟩ := g2 i p hi
        exact ⟨k1, k2, k3⟩
      have hflat := extL_flat (w := w) (X := X) (ps := ps) (fun p hp => (gm p hp).2.1)
      have hlen1 : ∀ l ∈ ps.map (·.1), l.length = width e := fun l hl => by
        obtain ⟨p, hp, rfl⟩ := List.mem_map.1 hl
        have := ((extL_all2 p.1 p.2).1 (gm p hp).2.1).len
        rw [this, (gm p hp).2.2]
      have hlen2 : ∀ l ∈ ps.map (·.2), l.length = width e := fun l hl => by
        obtain ⟨p, hp, rfl⟩ := List.mem_map.1 hl
        exact (gm p hp).2.2
      refine ⟨[.sl (some false) (width e) len (ps.map (·.1)).flatten], ⟨ps.map (·.1), by simp [g1], ?_, fun x hx => by obtain ⟨p, hp, rfl⟩ := List.mem_map.1 hx; exact (gm p hp).1⟩, _, _, rfl, ?_, rfl⟩
      · rw [List.length_map, g1]
        rw [List.length_map, List.length_map, h3, hlen] at hw0
        exact Nat.le_trans (Nat.mul_le_mul_right b (by omega)) hw0
      · refine ⟨some a, cap, (ps.map (·.2)).flatten, rfl, hl, ?_, hflat, ?_⟩
        · have : ∀ {ls : List (List D)}, (∀ l ∈ ls, l.length = width e) → ls.flatten.length = ls.length * width e := by
            intro ls
            induction ls with
            | nil => intro _; simp
            | cons l ls ih =>
              intro hh
              rw [List.flatten_cons, List.length_append, ih (fun x hx => hh x (by simp [hx])), hh l (by simp), List.length_cons, Nat.add_mul, Nat.one_mul, Nat.add_comm]
          rw [this hlen1, List.length_map, g1]
        · by_cases h0 : len = 0
          · left
            have : ps = [] := by cases ps with | nil => rfl | cons _ _ => simp at g1; omega
            rw [this]; rfl
          · right
            obtain ⟨p0, hp0⟩ : ∃ p, ps[0]? = some p := ⟨ps[0], List.getElem?_eq_getElem (by omega)⟩
            obtain ⟨_, _, k3, k4⟩ := g2 0 p0 hp0
            have k5 := k4 0 h4
            have hsome : p0.2[0]? = some (p0.2[0]) := List.getElem?_eq_getElem (by omega)
            rw [hsome, Nat.zero_mul] at k5
            have haa : (a.add 0).add 0 = a := by simp [Addr.add]
            rw [haa] at k5
            obtain ⟨k, off, spot⟩ := a
            unfold World.cell? at k5
            split at k5
            case h_2 => simp at k5
            rename_i c ee fz hblk
            split at k5
            · simp at k5
            rename_i hsp
            have hspot : spot = none := by cases spot <;> simp at hsp ⊢
            subst hspot
            refine ⟨k, off, c, ee, fz, rfl, hX k ?_, hblk, fun j v hj => ?_⟩
            · rcases Nat.lt_or_ge k w.heap.size with hh | hh
              · exact hh
              · rw [Array.getElem?_eq_none hh] at hblk; simp at hblk
            · rw [flat_get h4 hlen2] at hj
              rw [List.getElem?_map] at hj
              cases hp : ps[j / width e]? with
              | none => rw [hp] at hj; simp at hj
              | some p =>
                rw [hp] at hj
                simp only [Option.map_some, Option.bind_some] at hj
                obtain ⟨_, _, _, m4⟩ := g2 _ p hp
                have m5 := m4 (j % width e) (Nat.mod_lt _ h4)
                rw [hj, add_mk, add_mk] at m5
                unfold World.cell? at m5
                simp only [hblk] at m5
                have m6 : off + j / width e * width e + j % width e = off + j := by
                  have := Nat.div_add_mod j (width e)
                  rw [Nat.mul_comm] at this
                  omega
                rw [m6] at m5
                simpa using m5
  | .ag fs, fuel, t, cs, x, h, hs, hz => by
    simp only [shOk] at hs
    split at hs
    case h_2 => simp at hs
    rename_i fl ht
    simp only [Bool.and_eq_true, decide_eq_true_eq] at hs
    obtain ⟨h1, h2⟩ := hs
    obtain ⟨xs, n, rfl, rfl, h3, h4, h5⟩ := DataW.trod_struct ht h
    simp only [DataW.weights, ht] at hz
    obtain ⟨ds, h6, h7⟩ := reads_ok (cs := cs) (n := n) fs (fl := fl.toList) (o := 0) (xs := xs) (by simpa using h4.symm) (fun i f hf => h5 i f (by simpa using hf)) h2 hz (by omega)
    refine ⟨ds, h6, ?_⟩
    rw [List.drop_zero, List.take_of_length_le (by omega)] at h7
    exact h7
theorem reads_ok : ∀ (ss : List Sh) {n : Nat} {cs : List Value} {fl : List Field} {o : Nat} {xs : List (DataW H × List MemPlace)}, fl.length = xs.length → (∀ (i : Nat) (f : Field), fl[i]? = some f → DataW.trod enc P w 0 (fun _ => true) held n f.type ((cs.drop f.offset).take (P.cellsOf f.type)) = xs[i]?) → shOks P fl o ss = true → (∀ z ∈ DataW.weightsEach P (fl.map (·.type)) (xs.map (·.1)), z ≤ reachBytes) → o + widths ss ≤ cs.length →
    ∃ ds, WTs ss ds ∧ ExtL w X ds ((cs.drop o).take (widths ss))
  | [], n, cs, fl, o, xs, _, _, hs, _, _ => by
    have _ := hX
    cases fl with
    | nil => exact ⟨[], rfl, by simp [widths, ExtL]⟩
    | cons f fl => simp [shOks] at hs
  | s :: ss, n, cs, fl, o, xs, hl, hx, hs, hz, ho => by
    cases fl with
    | nil => simp [shOks] at hs
    | cons f fl =>
      cases xs with
      | nil => simp at hl
      | cons x xs =>
        simp only [shOks, Bool.and_eq_true, decide_eq_true_eq] at hs
        obtain ⟨⟨⟨h1, h2⟩, h3⟩, h4⟩ := hs
        subst h1
        simp only [List.map_cons, DataW.weightsEach, List.mem_append] at hz
        simp only [widths] at ho ⊢
        have h5 := hx 0 f rfl
        rw [List.getElem?_cons_zero, h2] at h5
        obtain ⟨ds1, g1, g2⟩ := read_ok s h5 h3 (fun z hz' => hz z (.inl hz'))
        obtain ⟨ds2, g3, g4⟩ := reads_ok (cs := cs) (n := n) ss (fl := fl) (o := f.offset + width s) (xs := xs) (by simpa using hl) (fun i f' hf => by have := hx (i + 1) f' (by simpa using hf); simpa using this) h4 (fun z hz' => hz z (.inr hz')) (by omega)
        refine ⟨ds1 ++ ds2, ⟨ds1, ds2, rfl, g1, g3⟩, ?_⟩
        rw [List.take_add, List.drop_drop]
        exact ext_app g2 g4
end
end
end Go.Proofs.Ytkejckoefjonjaa
namespace Go.Proofs.Ytkejckoefjonjaa
open Go.RowKit
theorem ains_of {w : World} {X : Bool → Nat → Prop} : ∀ {b : List Bool} {ds : List D} {vs : List Value}, b.any id = false → All2 (fun d v => ∀ S, TVa w X S d v) ds vs → AIns w X b ds vs (vs.map fun _ => (none, []))
  | _, [], _, _, .nil => ⟨rfl, rfl⟩
  | b, d :: ds, v :: vs, hn, .cons h1 h2 => by
    have hb : b.headD false = false ∧ b.tail.any id = false := by
      cases b with
      | nil => simp
      | cons x xs => simpa using hn
    refine ⟨v, vs, (none, []), _, rfl, rfl, ?_, ains_of hb.2 h2⟩
    rw [hb.1]
    exact ⟨rfl, h1⟩
theorem law_calls {P : Program} {c : Cfg} (hgood : ∀ k, GoodCall P c.own (callF c P k)) {f : FuncId} (hown : (c.own f).any id = false) {ds outs : List D} {vs : Array Value} {W : World} (hc : Comes c P f ds (.bool true, outs)) (hout : ∀ o ∈ outs, okR o = true)
    (ha : All2 (fun d v => ∀ S, TVa W (Lk W [] (fun _ => True)) S d v) ds vs.toList) : Calls P f vs W fun e W' => e = .returned (.bool true) ∧ Below W.heap.size W W' := by
  obtain ⟨k, hk⟩ := hc
  have h1 := hk k (Nat.le_refl _)
  have hnone : ∀ a ∈ vs.toList.map (fun _ => ((none, []) : Arg)), a = (none, []) := by simp
  have hft := argsFt_none hnone
  have hpre : CallPre W (fun _ => True) (c.own f) ds vs.toList (vs.toList.map fun _ => (none, [])) := by
    refine ⟨?_, by rw [hft]; simp, by rw [hft]; simp, fun a haa => ?_⟩
    · rw [hft]; exact ains_of hown ha
    · rw [hnone a haa]; trivial
  refine ((hgood k f ds _ outs h1).2 W _ vs _ hpre rfl hout).mono fun e W' => ?_
  rintro ⟨v, rfl, hp⟩
  have hv : v = .bool true := by
    obtain ⟨rts, az, hr, _, _, _, hs, _⟩ := hp.res
    obtain ⟨t, rfl, he, rfl⟩ := hr
    cases t with
    | v d u =>
      have hs := hs.1
      simp only [SatT] at hs
      have : leafD d = .bool true := he.symm
      rw [this] at hs
      exact hs
    | own s n cap a cs => simp [T.er] at he
  subst hv
  refine ⟨rfl, hp.os, hp.tape, hp.out, hp.sz, fun k hk => hp.old k hk (by rw [hft]; simp)⟩
theorem tva_agg {w : World} {X : Bool → Nat → Prop} {ds : List D} {us : Array Value} (h : ExtL w X ds us.toList) : ∀ S, TVa w X S (.agg ds) (.agg us) := fun _ =>
  ⟨us, rfl, ((extL_all2 _ _).1 h).mono (fun _ _ hh => tvc_of_ext hh)⟩
theorem lk_all {w : World} : ∀ k, k < w.heap.size → Lk w [] (fun _ => True) false k := fun k hk => ⟨hk, by simp, fun _ => trivial⟩
end Go.Proofs.Ytkejckoefjonjaa
namespace Go.Proofs.Ytkejckoefjonjaa
set_option maxRecDepth 100000
abbrev Cm (f : FuncId) (ds : List D) (r : Rz) : Prop := Comes cfg Try.prog f ds r
abbrev RunJ (pr : Prims) (cv : Cv Rz) (J : Nat → St → Option Rz) (f : FuncId) (fn : Func) (args : List D) : Option Rz := runJ pr cfg sg cv J f fn args
abbrev HeadJ (pr : Prims) (cv : Cv Rz) (J : Nat → St → Option Rz) (f : FuncId) (fn : Func) (sk : List D) (j : Nat) (h : St) : Option Rz := headJ pr cfg sg cv J f fn sk j h
noncomputable abbrev cvP : Cv Rz := cvS cfg Try.prog sg
abbrev WP (f : FuncId) (fn : Func) (sk : List D) (j : Nat) (h : St) (r : Rz) : Prop := W cfg Try.prog sg f fn sk j h r
section
variable {f : FuncId} {fn : Func} {sk : List D} {j j' : Nat} {h h' : St} {r : Rz}
theorem WP.go (h' : St) (hw : WP f fn sk j' h' r) (ht : ∀ J : Nat → St → Option Rz, J j' h' = some r → HeadJ std cvP J f fn sk j h = some r) : WP f fn sk j h r := W.go cfg_ok hw ht
theorem WP.fin (ht : ∀ J : Nat → St → Option Rz, HeadJ std cvP J f fn sk j h = some r) : WP f fn sk j h r := W.fin cfg_ok ht
theorem Cm.go (ok : Told cfg Try.prog f fn) (sk : List D) (j : Nat) (h : St) {args : List D} (hw : WP f fn sk j h r) (ht : ∀ J : Nat → St → Option Rz, J j h = some r → RunJ std cvP J f fn args = some r) (hsk : args.map skD = sk := by rfl) : Cm f args r := Comes.go cfg_ok ok (hsk ▸ hw) ht
theorem Cm.fin (ok : Told cfg Try.prog f fn) {args : List D} (ht : ∀ J : Nat → St → Option Rz, RunJ std cvP J f fn args = some r) : Cm f args r := Comes.fin (sg := sg) cfg_ok ok ht
theorem WP.loop {H : Nat → St} {n : Nat} (inv : Nat → Prop) (hs : ∀ i, i < n → inv i → (inv (i + 1) → WP f fn sk j (H (i + 1)) r) → WP f fn sk j (H i) r) (he : inv n → WP f fn sk j (H n) r) : ∀ i, i ≤ n → inv i → WP f fn sk j (H i) r := by
  have key : ∀ k i, i + k = n → inv i → WP f fn sk j (H i) r := by
    intro k
    induction k with
    | zero => intro i hi hv; obtain rfl : i = n := by omega
              exact he hv
    | succ k ih => intro i hi hv; exact hs i (by omega) hv fun hv' => ih (i + 1) (by omega) hv'
  exact fun i hi hv => key (n - i) i (by omega) hv
end
theorem cvP_eq {g : FuncId} {ds : List D} {r : D} {outs : List D} (h : Cm g ds (r, outs)) (hs : (match sg.sig g with | some (s, ss) => okS s r && okSL ss outs && !(tyRS s || tyRL ss) | none => false) = true) (t : Tel Rz) : cvP g ds t = feed t (prts r ++ (prtsL outs ++ [])) := by
  refine cv_eq t h hs fun e => ?_
  subst e
  have : sg.sig 999999 = none := by kernel_rfl
  rw [this] at hs
  simp at hs
theorem cvP_ty {g : FuncId} {ds : List D} {r : D} {outs : List D} {s : RS} {ss : List RS} (h : Cm g ds (r, outs)) (hs : sg.sig g = some (s, ss)) (h1 : okS s r = true) (h2 : okSL ss outs = true) (h3 : okR r = true) (h4 : outs.all okR = true) (t : Tel Rz) : cvP g ds t = feed t (prtsS s r ++ (prtsSL ss outs ++ [])) := by
  refine cv_ty t h hs h1 h2 h3 h4 fun e => ?_
  subst e
  have : sg.sig 999999 = none := by kernel_rfl
  rw [hs] at this
  simp at this
theorem cvP_nm (ys : List D) (t : Tel Rz) : cvP 999999 [.sl none 0 0 ys] t = feed t [.sl none 0 0 ys] := by
  show cvS cfg Try.prog sg 999999 _ t = _
  unfold cvS
  rw [if_pos rfl]
section
variable {R : Type} {x y : R}
theorem br_t : br true x y = x := rfl
theorem br_f : br false x y = y := rfl
theorem br_tf (b : Bool) : br b true false = b := by cases b <;> rfl
theorem br_ft (b : Bool) : br b false true = !b := by cases b <;> rfl
theorem br_nb (b : Bool) : br (!b) x y = br b y x := by cases b <;> rfl
theorem br_same (b : Bool) : br b x x = x := by cases b <;> rfl
theorem br_lt {a b : Int} (h : a < b) : br (std.lt a b) x y = x := by simp [std, br, h]
theorem br_nlt {a b : Int} (h : b ≤ a) : br (std.lt a b) x y = y := by simp [std, br, Int.not_lt.2 h]
theorem br_le {a b : Int} (h : a ≤ b) : br (std.le a b) x y = x := by simp [std, br, h]
theorem br_nle {a b : Int} (h : b < a) : br (std.le a b) x y = y := by simp [std, br, Int.not_le.2 h]
theorem br_eq {a b : Int} (h : a = b) : br (std.eq a b) x y = x := by simp [std, br, h]
theorem br_neq {a b : Int} (h : a ≠ b) : br (std.eq a b) x y = y := by
  have e : (a == b) = false := by simpa using h
  simp [std, br, e]
theorem br_inR {i : Int} {n : Nat} (h0 : 0 ≤ i) (h : i < n) : br (std.inR i n) x y = x := by simp [std, br, h0, h]
theorem br_rng {l h : Int} {n : Nat} (h0 : 0 ≤ l) (h1 : l ≤ h) (h2 : h ≤ n) : br (std.rng l h n) x y = x := by simp [std, br, h0, h1, h2]
theorem br_fits {n b : Nat} (h : n * b ≤ 140737488355328) : br (std.fits n b) x y = x := by simp [std, br, h]
theorem br_mkok {l c : Int} {b : Nat} (h0 : 0 ≤ l) (h1 : l ≤ c) (h2 : c * b ≤ 140737488355328) : br (std.mkok l c b) x y = x := by simp [std, br, h0, h1, h2]
end
theorem s_lt (a b : Int) : std.lt a b = decide (a < b) := rfl
theorem s_le (a b : Int) : std.le a b = decide (a ≤ b) := rfl
theorem s_eq (a b : Int) : std.eq a b = (a == b) := rfl
theorem s_ofN (n : Nat) : std.ofN n = (n : Int) := rfl
theorem s_toN (n : Nat) : std.toN (n : Int) = n := rfl
theorem s_idx (a i s : Nat) : std.idx a (i : Int) s = (a + i) * s := rfl
theorem s_beq (a b : Bool) : std.beq a b = (a == b) := rfl
theorem wrap64 {n : Int} (h : -9223372036854775808 ≤ n) (h' : n < 9223372036854775808) : IntKind.i64.wrap n = n := by
  simp only [IntKind.wrap, IntKind.bits, IntKind.signed]
  simp
  omega
theorem s_add {a b : Int} (h : -9223372036854775808 ≤ a + b) (h' : a + b < 9223372036854775808) : std.ar .add .i64 a b = a + b := wrap64 h h'
theorem s_sub {a b : Int} (h : -9223372036854775808 ≤ a - b) (h' : a - b < 9223372036854775808) : std.ar .sub .i64 a b = a - b := wrap64 h h'
theorem s_inc {i : Nat} (h : i < 9223372036854775807) : std.ar .add .i64 (i : Int) 1 = ((i + 1 : Nat) : Int) := by
  rw [s_add (by omega) (by omega)]
  omega
def in64 (a : Int) : Bool := decide (-9223372036854775808 ≤ a) && decide (a < 9223372036854775808)
theorem in64_iff {a : Int} : in64 a = true ↔ -9223372036854775808 ≤ a ∧ a < 9223372036854775808 := by simp [in64]
section
variable {R : Type} {x y : R}
theorem br_isI {xs : List Int} {i : Nat} (h : i < xs.length) : br (std.isI .i64 (ints xs) i) x y = x := by simp [std, ints, br, List.getElem?_eq_getElem h, ksame]
theorem s_getI {xs : List Int} {i : Nat} (h : i < xs.length) : std.getI (ints xs) i = xs[i] := by simp [std, ints, List.getElem?_eq_getElem h, cInt]
theorem br_isI8 {xs : List UInt8} {i : Nat} (h : i < xs.length) : br (std.isI .u8 (bytes xs) i) x y = x := by simp [std, bytes, byteD, br, List.getElem?_eq_getElem h, ksame]
theorem s_getI8 {xs : List UInt8} {i : Nat} (h : i < xs.length) : std.getI (bytes xs) i = (xs[i].toNat : Int) := by simp [std, bytes, byteD, List.getElem?_eq_getElem h, cInt]
theorem br_isB {xs : List Bool} {i : Nat} (h : i < xs.length) : br (std.isB (bools xs) i) x y = x := by simp [std, bools, br, List.getElem?_eq_getElem h]
theorem s_getB {xs : List Bool} {i : Nat} (h : i < xs.length) : std.getB (bools xs) i = xs[i] := by simp [std, bools, List.getElem?_eq_getElem h, cBool]
theorem br_slotI {xs : List Int} {i : Nat} (h : i < xs.length) : br (std.slot (ints xs) i) x y = x := by simp [std, ints, br, List.getElem?_eq_getElem h, isSl]
theorem br_slot8 {xs : List UInt8} {i : Nat} (h : i < xs.length) : br (std.slot (bytes xs) i) x y = x := by simp [std, bytes, byteD, br, List.getElem?_eq_getElem h, isSl]
theorem br_slotB {xs : List Bool} {i : Nat} (h : i < xs.length) : br (std.slot (bools xs) i) x y = x := by simp [std, bools, br, List.getElem?_eq_getElem h, isSl]
theorem ints_set (xs : List Int) (i : Nat) (a : Int) : List.set (ints xs) i (.int .i64 a) = ints (xs.set i a) := by simp [ints, List.map_set]
theorem bytes_set (xs : List UInt8) (i : Nat) (a : UInt8) : List.set (bytes xs) i (.int .u8 a.toNat) = bytes (xs.set i a) := by simp [bytes, List.map_set, byteD]
theorem bools_set (xs : List Bool) (i : Nat) (a : Bool) : List.set (bools xs) i (.bool a) = bools (xs.set i a) := by simp [bools, List.map_set]
theorem noLentL_flat : ∀ {ds : List D}, (∀ d ∈ ds, noLent d = true) → noLentL ds = true
  | [], _ => rfl
  | d :: ds, h => by
    simp only [noLentL, Bool.and_eq_true]
    exact ⟨h d (by simp), noLentL_flat fun x hx => h x (by simp [hx])⟩
theorem s_nlI (xs : List Int) : std.nl (ints xs) = true := noLentL_flat (by intro d hd; obtain ⟨a, _, rfl⟩ := List.mem_map.1 hd; rfl)
theorem s_nl8 (xs : List UInt8) : std.nl (bytes xs) = true := noLentL_flat (by intro d hd; obtain ⟨a, _, rfl⟩ := List.mem_map.1 hd; rfl)
theorem s_nlB (xs : List Bool) : std.nl (bools xs) = true := noLentL_flat (by intro d hd; obtain ⟨a, _, rfl⟩ := List.mem_map.1 hd; rfl)
theorem reps_I (n : Nat) : reps n [.int .i64 0] = ints (List.replicate n 0) := by
  unfold reps
  induction n with
  | zero => rfl
  | succ n ih => simpa [List.replicate_succ, ints, rowZ] using ih
theorem reps_8 (n : Nat) : reps n [.int .u8 0] = bytes (List.replicate n 0) := by
  unfold reps
  induction n with
  | zero => rfl
  | succ n ih => simpa [List.replicate_succ, bytes, rowZ, byteD] using ih
theorem reps_B (n : Nat) : reps n [.bool false] = bools (List.replicate n false) := by
  unfold reps
  induction n with
  | zero => rfl
  | succ n ih => simpa [List.replicate_succ, bools, rowZ] using ih
end
end Go.Proofs.Ytkejckoefjonjaa
namespace Go.Proofs.Ytkejckoefjonjaa
set_option maxRecDepth 100000
section
variable (pr : Prims) (cv : Cv Rz) (J : Nat → St → Option Rz)
def h_laws_toIntS_0 (g0 : Bool) (n1 : Nat) (c2 : List D) (i3 : Int) (n4 : Nat) (c5 : List D) : St := (St.mk [(0, (.sl (some g0) 1 n1 c2)), (3, (.ref 10003 [] 0 none)), (4, (.int .i64 i3))] [(10003, [(.sl none 1 n4 c5)])] [] 0)
theorem k_laws_toIntS : Told cfg Try.prog 29 Try.f29 := ⟨by kernel_rfl, Try.func29, by kernel_rfl⟩
theorem e_laws_toIntS (g0 : Bool) (n0 : Nat) (c0 : List D) : RunJ pr cv J 29 Try.f29 [(.sl (some g0) 1 n0 c0)] =
    (br (pr.mkok (pr.ofN n0) (pr.ofN n0) 8) (J 0 (h_laws_toIntS_0 g0 n0 c0 0 (pr.toN (pr.ofN n0)) (reps (pr.toN (pr.ofN n0)) [(.int .i64 0)]))) none) := by kernel_rfl
theorem eh_laws_toIntS_0 (g0 : Bool) (n1 : Nat) (c2 : List D) (i3 : Int) (n4 : Nat) (c5 : List D) : HeadJ pr cv J 29 Try.f29 [.undef] 0 (h_laws_toIntS_0 g0 n1 c2 i3 n4 c5) =
    (br (pr.lt i3 (pr.ofN n1)) (br (pr.inR i3 n1) (br (br (pr.isI .i64 c2 (pr.idx 0 i3 1)) true false) (br (pr.inR i3 n4) (br (pr.slot c5 (pr.idx 0 i3 1)) (J 0 (h_laws_toIntS_0 g0 n1 c2 (pr.ar .add .i64 i3 1) n4 (List.set c5 (pr.idx 0 i3 1) (.int .i64 (pr.getI c2 (pr.idx 0 i3 1)))))) none) none) none) none) (some ((.sl none 1 n4 c5), [.undef]))) := by kernel_rfl
def h_laws_eqIntS_0 (g0 : Bool) (n1 : Nat) (c2 : List D) (g3 : Bool) (n4 : Nat) (c5 : List D) (i6 : Int) : St := (St.mk [(0, (.sl (some g0) 1 n1 c2)), (1, (.sl (some g3) 1 n4 c5)), (5, (.int .i64 i6))] [] [] 0)
theorem k_laws_eqIntS : Told cfg Try.prog 23 Try.f23 := ⟨by kernel_rfl, Try.func23, by kernel_rfl⟩
theorem e_laws_eqIntS (g0 : Bool) (n0 : Nat) (c0 : List D) (g1 : Bool) (n1 : Nat) (c1 : List D) : RunJ pr cv J 23 Try.f23 [(.sl (some g0) 1 n0 c0), (.sl (some g1) 1 n1 c1)] =
    (br (br (pr.eq (pr.ofN n0) (pr.ofN n1)) false true) (some ((.bool false), [.undef, .undef])) (J 0 (h_laws_eqIntS_0 g0 n0 c0 g1 n1 c1 0))) := by kernel_rfl
theorem eh_laws_eqIntS_0 (g0 : Bool) (n1 : Nat) (c2 : List D) (g3 : Bool) (n4 : Nat) (c5 : List D) (i6 : Int) : HeadJ pr cv J 23 Try.f23 [.undef, .undef] 0 (h_laws_eqIntS_0 g0 n1 c2 g3 n4 c5 i6) =
    (br (pr.lt i6 (pr.ofN n1)) (br (pr.inR i6 n1) (br (br (pr.isI .i64 c2 (pr.idx 0 i6 1)) true false) (br (pr.inR i6 n4) (br (br (pr.isI .i64 c5 (pr.idx 0 i6 1)) true false) (br (br (pr.eq (pr.getI c2 (pr.idx 0 i6 1)) (pr.getI c5 (pr.idx 0 i6 1))) false true) (some ((.bool false), [.undef, .undef])) (J 0 (h_laws_eqIntS_0 g0 n1 c2 g3 n4 c5 (pr.ar .add .i64 i6 1)))) none) none) none) none) (some ((.bool true), [.undef, .undef]))) := by kernel_rfl
theorem k_laws_szIntS : Told cfg Try.prog 35 Try.f35 := ⟨by kernel_rfl, Try.func35, by kernel_rfl⟩
theorem e_laws_szIntS (g0 : Bool) (n0 : Nat) (c0 : List D) (a1 : Int) : RunJ pr cv J 35 Try.f35 [(.sl (some g0) 1 n0 c0), (.int .i64 a1)] =
    (br (pr.lt (pr.ar .sub .i64 a1 (pr.ofN n0)) 0) (some ((.int .i64 (-1)), [.undef, .undef])) (some ((.int .i64 (pr.ar .sub .i64 a1 (pr.ofN n0))), [.undef, .undef]))) := by kernel_rfl
def h_laws_toByteS_0 (g0 : Bool) (n1 : Nat) (c2 : List D) (i3 : Int) (n4 : Nat) (c5 : List D) : St := (St.mk [(0, (.sl (some g0) 1 n1 c2)), (3, (.ref 10003 [] 0 none)), (4, (.int .i64 i3))] [(10003, [(.sl none 1 n4 c5)])] [] 0)
theorem k_laws_toByteS : Told cfg Try.prog 76 Try.f76 := ⟨by kernel_rfl, Try.func76, by kernel_rfl⟩
theorem e_laws_toByteS (g0 : Bool) (n0 : Nat) (c0 : List D) : RunJ pr cv J 76 Try.f76 [(.sl (some g0) 1 n0 c0)] =
    (br (pr.mkok (pr.ofN n0) (pr.ofN n0) 1) (J 0 (h_laws_toByteS_0 g0 n0 c0 0 (pr.toN (pr.ofN n0)) (reps (pr.toN (pr.ofN n0)) [(.int .u8 0)]))) none) := by kernel_rfl
theorem eh_laws_toByteS_0 (g0 : Bool) (n1 : Nat) (c2 : List D) (i3 : Int) (n4 : Nat) (c5 : List D) : HeadJ pr cv J 76 Try.f76 [.undef] 0 (h_laws_toByteS_0 g0 n1 c2 i3 n4 c5) =
    (br (pr.lt i3 (pr.ofN n1)) (br (pr.inR i3 n1) (br (br (pr.isI .u8 c2 (pr.idx 0 i3 1)) true false) (br (pr.inR i3 n4) (br (pr.slot c5 (pr.idx 0 i3 1)) (J 0 (h_laws_toByteS_0 g0 n1 c2 (pr.ar .add .i64 i3 1) n4 (List.set c5 (pr.idx 0 i3 1) (.int .u8 (pr.getI c2 (pr.idx 0 i3 1)))))) none) none) none) none) (some ((.sl none 1 n4 c5), [.undef]))) := by kernel_rfl
def h_laws_eqByteS_0 (g0 : Bool) (n1 : Nat) (c2 : List D) (g3 : Bool) (n4 : Nat) (c5 : List D) (i6 : Int) : St := (St.mk [(0, (.sl (some g0) 1 n1 c2)), (1, (.sl (some g3) 1 n4 c5)), (5, (.int .i64 i6))] [] [] 0)
theorem k_laws_eqByteS : Told cfg Try.prog 77 Try.f77 := ⟨by kernel_rfl, Try.func77, by kernel_rfl⟩
theorem e_laws_eqByteS (g0 : Bool) (n0 : Nat) (c0 : List D) (g1 : Bool) (n1 : Nat) (c1 : List D) : RunJ pr cv J 77 Try.f77 [(.sl (some g0) 1 n0 c0), (.sl (some g1) 1 n1 c1)] =
    (br (br (pr.eq (pr.ofN n0) (pr.ofN n1)) false true) (some ((.bool false), [.undef, .undef])) (J 0 (h_laws_eqByteS_0 g0 n0 c0 g1 n1 c1 0))) := by kernel_rfl
theorem eh_laws_eqByteS_0 (g0 : Bool) (n1 : Nat) (c2 : List D) (g3 : Bool) (n4 : Nat) (c5 : List D) (i6 : Int) : HeadJ pr cv J 77 Try.f77 [.undef, .undef] 0 (h_laws_eqByteS_0 g0 n1 c2 g3 n4 c5 i6) =
    (br (pr.lt i6 (pr.ofN n1)) (br (pr.inR i6 n1) (br (br (pr.isI .u8 c2 (pr.idx 0 i6 1)) true false) (br (pr.inR i6 n4) (br (br (pr.isI .u8 c5 (pr.idx 0 i6 1)) true false) (br (br (pr.eq (pr.getI c2 (pr.idx 0 i6 1)) (pr.getI c5 (pr.idx 0 i6 1))) false true) (some ((.bool false), [.undef, .undef])) (J 0 (h_laws_eqByteS_0 g0 n1 c2 g3 n4 c5 (pr.ar .add .i64 i6 1)))) none) none) none) none) (some ((.bool true), [.undef, .undef]))) := by kernel_rfl
theorem k_laws_szByteS : Told cfg Try.prog 75 Try.f75 := ⟨by kernel_rfl, Try.func75, by kernel_rfl⟩
theorem e_laws_szByteS (g0 : Bool) (n0 : Nat) (c0 : List D) (a1 : Int) : RunJ pr cv J 75 Try.f75 [(.sl (some g0) 1 n0 c0), (.int .i64 a1)] =
    (br (pr.lt (pr.ar .sub .i64 a1 (pr.ofN n0)) 0) (some ((.int .i64 (-1)), [.undef, .undef])) (some ((.int .i64 (pr.ar .sub .i64 a1 (pr.ofN n0))), [.undef, .undef]))) := by kernel_rfl
def h_laws_toBoolS_0 (g0 : Bool) (n1 : Nat) (c2 : List D) (i3 : Int) (n4 : Nat) (c5 : List D) : St := (St.mk [(0, (.sl (some g0) 1 n1 c2)), (3, (.ref 10003 [] 0 none)), (4, (.int .i64 i3))] [(10003, [(.sl none 1 n4 c5)])] [] 0)
theorem k_laws_toBoolS : Told cfg Try.prog 47 Try.f47 := ⟨by kernel_rfl, Try.func47, by kernel_rfl⟩
theorem e_laws_toBoolS (g0 : Bool) (n0 : Nat) (c0 : List D) : RunJ pr cv J 47 Try.f47 [(.sl (some g0) 1 n0 c0)] =
    (br (pr.mkok (pr.ofN n0) (pr.ofN n0) 1) (J 0 (h_laws_toBoolS_0 g0 n0 c0 0 (pr.toN (pr.ofN n0)) (reps (pr.toN (pr.ofN n0)) [(.bool false)]))) none) := by kernel_rfl
theorem eh_laws_toBoolS_0 (g0 : Bool) (n1 : Nat) (c2 : List D) (i3 : Int) (n4 : Nat) (c5 : List D) : HeadJ pr cv J 47 Try.f47 [.undef] 0 (h_laws_toBoolS_0 g0 n1 c2 i3 n4 c5) =
    (br (pr.lt i3 (pr.ofN n1)) (br (pr.inR i3 n1) (br (br (pr.isB c2 (pr.idx 0 i3 1)) true false) (br (pr.inR i3 n4) (br (pr.slot c5 (pr.idx 0 i3 1)) (J 0 (h_laws_toBoolS_0 g0 n1 c2 (pr.ar .add .i64 i3 1) n4 (List.set c5 (pr.idx 0 i3 1) (.bool (pr.getB c2 (pr.idx 0 i3 1)))))) none) none) none) none) (some ((.sl none 1 n4 c5), [.undef]))) := by kernel_rfl
def h_laws_eqBoolS_0 (g0 : Bool) (n1 : Nat) (c2 : List D) (g3 : Bool) (n4 : Nat) (c5 : List D) (i6 : Int) : St := (St.mk [(0, (.sl (some g0) 1 n1 c2)), (1, (.sl (some g3) 1 n4 c5)), (5, (.int .i64 i6))] [] [] 0)
theorem k_laws_eqBoolS : Told cfg Try.prog 51 Try.f51 := ⟨by kernel_rfl, Try.func51, by kernel_rfl⟩
theorem e_laws_eqBoolS (g0 : Bool) (n0 : Nat) (c0 : List D) (g1 : Bool) (n1 : Nat) (c1 : List D) : RunJ pr cv J 51 Try.f51 [(.sl (some g0) 1 n0 c0), (.sl (some g1) 1 n1 c1)] =
    (br (br (pr.eq (pr.ofN n0) (pr.ofN n1)) false true) (some ((.bool false), [.undef, .undef])) (J 0 (h_laws_eqBoolS_0 g0 n0 c0 g1 n1 c1 0))) := by kernel_rfl
theorem eh_laws_eqBoolS_0 (g0 : Bool) (n1 : Nat) (c2 : List D) (g3 : Bool) (n4 : Nat) (c5 : List D) (i6 : Int) : HeadJ pr cv J 51 Try.f51 [.undef, .undef] 0 (h_laws_eqBoolS_0 g0 n1 c2 g3 n4 c5 i6) =
    (br (pr.lt i6 (pr.ofN n1)) (br (pr.inR i6 n1) (br (br (pr.isB c2 (pr.idx 0 i6 1)) true false) (br (pr.inR i6 n4) (br (br (pr.isB c5 (pr.idx 0 i6 1)) true false) (br (br (pr.beq (pr.getB c2 (pr.idx 0 i6 1)) (pr.getB c5 (pr.idx 0 i6 1))) false true) (some ((.bool false), [.undef, .undef])) (J 0 (h_laws_eqBoolS_0 g0 n1 c2 g3 n4 c5 (pr.ar .add .i64 i6 1)))) none) none) none) none) (some ((.bool true), [.undef, .undef]))) := by kernel_rfl
theorem k_laws_szBoolS : Told cfg Try.prog 43 Try.f43 := ⟨by kernel_rfl, Try.func43, by kernel_rfl⟩
theorem e_laws_szBoolS (g0 : Bool) (n0 : Nat) (c0 : List D) (a1 : Int) : RunJ pr cv J 43 Try.f43 [(.sl (some g0) 1 n0 c0), (.int .i64 a1)] =
    (br (pr.lt (pr.ar .sub .i64 a1 (pr.ofN n0)) 0) (some ((.int .i64 (-1)), [.undef, .undef])) (some ((.int .i64 (pr.ar .sub .i64 a1 (pr.ofN n0))), [.undef, .undef]))) := by kernel_rfl
end
theorem idx1 (i : Nat) : std.idx 0 (i : Int) 1 = i := by rw [s_idx]; omega
theorem rep_step {α : Type} {xs : List α} {i : Nat} (hi : i < xs.length) (z : α) (ys : List α) (hl : xs.length = ys.length) (hy : i < ys.length) : (ys.take i ++ List.replicate (xs.length - i) z).set i ys[i] = ys.take (i + 1) ++ List.replicate (xs.length - (i + 1)) z := by
  rw [List.set_append_right _ _ (by simp; omega)]
  have h1 : i - (ys.take i).length = 0 := by simp; omega
  obtain ⟨k, hk⟩ : ∃ k, xs.length - i = k + 1 := ⟨xs.length - i - 1, by omega⟩
  have h2 : xs.length - (i + 1) = k := by omega
  rw [h1, hk, h2, List.replicate_succ, List.set_cons_zero, ← List.take_append_getElem hy, List.append_assoc]
  rfl
def szF (n : Nat) (left : Int) : Int := if left < n then -1 else left - n
theorem c_toIntS (g : Bool) (xs : List Int) (hb : xs.length ≤ 17592186044416) (hb2 : xs.length < 9223372036854775807) : Cm 29 [.sl (some g) 1 xs.length (ints xs)] (.sl none 1 xs.length (ints xs), [.undef]) := by
  refine Cm.go k_laws_toIntS [.undef] 0 (h_laws_toIntS_0 g xs.length (ints xs) (0 : Nat) xs.length (ints (List.replicate xs.length 0))) ?_ fun J hJ => ?_
  · refine WP.loop (H := fun i => h_laws_toIntS_0 g xs.length (ints xs) (i : Nat) xs.length (ints (xs.take i ++ List.replicate (xs.length - i) 0))) (n := xs.length) (fun _ => True) (fun i hi _ ih => WP.go _ (ih trivial) fun J hJ => ?_) (fun _ => WP.fin fun J => ?_) 0 (Nat.zero_le _) trivial
    · rw [eh_laws_toIntS_0]
      simp (disch := first | omega | (simp; done) | (simp; omega)) only [br_t, br_f, br_tf, s_ofN, br_lt, br_inR, idx1, br_isI, br_slotI, s_getI, ints_set, s_inc]
      rw [← hJ]
      congr 2
      rw [rep_step hi _ xs rfl hi]
    · rw [eh_laws_toIntS_0]
      simp (disch := omega) only [br_t, br_f, s_ofN, br_nlt, List.take_length, Nat.sub_self, List.replicate_zero, List.append_nil]
  · rw [e_laws_toIntS]
    simp (disch := omega) only [br_t, br_f, s_ofN, br_mkok, s_toN, reps_I]
    exact hJ
theorem c_eqIntS (g h : Bool) (xs ys : List Int) (hb : xs.length < 9223372036854775807) : Cm 23 [.sl (some g) 1 xs.length (ints xs), .sl (some h) 1 ys.length (ints ys)] (.bool (decide (xs = ys)), [.undef, .undef]) := by
  by_cases hl : xs.length = ys.length
  · refine Cm.go k_laws_eqIntS [.undef, .undef] 0 (h_laws_eqIntS_0 g xs.length (ints xs) h ys.length (ints ys) (0 : Nat)) ?_ fun J hJ => ?_
    · refine WP.loop (H := fun i => h_laws_eqIntS_0 g xs.length (ints xs) h ys.length (ints ys) (i : Nat)) (n := xs.length) (fun i => xs.take i = ys.take i) (fun i hi hv ih => ?_) (fun hv => WP.fin fun J => ?_) 0 (Nat.zero_le _) (by simp)
      · have hi' : i < ys.length := by omega
        by_cases he : xs[i] = ys[i]
        · refine WP.go _ (ih (by rw [← List.take_append_getElem hi, ← List.take_append_getElem hi', hv, he])) fun J hJ => ?_
          rw [eh_laws_eqIntS_0]
          simp (disch := omega) only [br_t, br_f, br_tf, br_ft, br_nb, s_ofN, br_lt, br_inR, idx1, br_isI, s_getI, s_inc, br_eq, he, s_beq, beq_self_eq_true, Bool.not_true]
          exact hJ
        · refine WP.fin fun J => ?_
          rw [eh_laws_eqIntS_0]
          have hne : xs ≠ ys := fun e => he (by subst e; rfl)
          have hn8 := he
          have hbe := he
          simp (disch := first | omega | assumption) only [br_t, br_f, br_tf, br_ft, br_nb, s_ofN, br_lt, br_inR, idx1, br_isI, s_getI, br_neq, decide_eq_false hne]
      · rw [eh_laws_eqIntS_0]
        rw [List.take_length, hl, List.take_length] at hv
        simp (disch := omega) only [br_t, br_f, s_ofN, br_nlt, decide_eq_true hv]
    · rw [e_laws_eqIntS]
      simp (disch := omega) only [br_t, br_f, s_ofN, br_ft, br_nb, br_eq]
      exact hJ
  · refine Cm.fin k_laws_eqIntS fun J => ?_
    have hne : xs ≠ ys := fun e => hl (by rw [e])
    rw [e_laws_eqIntS]
    simp (disch := omega) only [br_t, br_f, s_ofN, br_ft, br_nb, br_neq, decide_eq_false hne]
theorem c_szIntS (g : Bool) (n : Nat) (c : List D) (left : Int) (h0 : 0 ≤ left) (h1 : left ≤ 1048576) (hn : n ≤ 140737488355328) : Cm 35 [.sl (some g) 1 n c, .int .i64 left] (.int .i64 (szF n left), [.undef, .undef]) := by
  refine Cm.fin k_laws_szIntS fun J => ?_
  rw [e_laws_szIntS]
  unfold szF
  by_cases h : left < n
  · rw [if_pos h]
    simp (disch := omega) only [s_ofN, s_sub, br_lt]
  · rw [if_neg h]
    simp (disch := omega) only [s_ofN, s_sub, br_nlt]
theorem c_toByteS (g : Bool) (xs : List UInt8) (hb : xs.length ≤ 140737488355328) (hb2 : xs.length < 9223372036854775807) : Cm 76 [.sl (some g) 1 xs.length (bytes xs)] (.sl none 1 xs.length (bytes xs), [.undef]) := by
  refine Cm.go k_laws_toByteS [.undef] 0 (h_laws_toByteS_0 g xs.length (bytes xs) (0 : Nat) xs.length (bytes (List.replicate xs.length 0))) ?_ fun J hJ => ?_
  · refine WP.loop (H := fun i => h_laws_toByteS_0 g xs.length (bytes xs) (i : Nat) xs.length (bytes (xs.take i ++ List.replicate (xs.length - i) 0))) (n := xs.length) (fun _ => True) (fun i hi _ ih => WP.go _ (ih trivial) fun J hJ => ?_) (fun _ => WP.fin fun J => ?_) 0 (Nat.zero_le _) trivial
    · rw [eh_laws_toByteS_0]
      simp (disch := first | omega | (simp; done) | (simp; omega)) only [br_t, br_f, br_tf, s_ofN, br_lt, br_inR, idx1, br_isI8, br_slot8, s_getI8, bytes_set, s_inc]
      rw [← hJ]
      congr 2
      rw [rep_step hi _ xs rfl hi]
    · rw [eh_laws_toByteS_0]
      simp (disch := omega) only [br_t, br_f, s_ofN, br_nlt, List.take_length, Nat.sub_self, List.replicate_zero, List.append_nil]
  · rw [e_laws_toByteS]
    simp (disch := omega) only [br_t, br_f, s_ofN, br_mkok, s_toN, reps_8]
    exact hJ
theorem c_eqByteS (g h : Bool) (xs ys : List UInt8) (hb : xs.length < 9223372036854775807) : Cm 77 [.sl (some g) 1 xs.length (bytes xs), .sl (some h) 1 ys.length (bytes ys)] (.bool (decide (xs = ys)), [.undef, .undef]) := by
  by_cases hl : xs.length = ys.length
  · refine Cm.go k_laws_eqByteS [.undef, .undef] 0 (h_laws_eqByteS_0 g xs.length (bytes xs) h ys.length (bytes ys) (0 : Nat)) ?_ fun J hJ => ?_
    · refine WP.loop (H := fun i => h_laws_eqByteS_0 g xs.length (bytes xs) h ys.length (bytes ys) (i : Nat)) (n := xs.length) (fun i => xs.take i = ys.take i) (fun i hi hv ih => ?_) (fun hv => WP.fin fun J => ?_) 0 (Nat.zero_le _) (by simp)
      · have hi' : i < ys.length := by omega
        by_cases he : xs[i] = ys[i]
        · refine WP.go _ (ih (by rw [← List.take_append_getElem hi, ← List.take_append_getElem hi', hv, he])) fun J hJ => ?_
          rw [eh_laws_eqByteS_0]
          simp (disch := omega) only [br_t, br_f, br_tf, br_ft, br_nb, s_ofN, br_lt, br_inR, idx1, br_isI8, s_getI8, s_inc, br_eq, he, s_beq, beq_self_eq_true, Bool.not_true]
          exact hJ
        · refine WP.fin fun J => ?_
          rw [eh_laws_eqByteS_0]
          have hne : xs ≠ ys := fun e => he (by subst e; rfl)
          have hn8 : ((xs[i].toNat : Int)) ≠ (ys[i].toNat : Int) := fun e => he (UInt8.toNat_inj.1 (by omega))
          have hbe := he
          simp (disch := first | omega | assumption) only [br_t, br_f, br_tf, br_ft, br_nb, s_ofN, br_lt, br_inR, idx1, br_isI8, s_getI8, br_neq, decide_eq_false hne]
      · rw [eh_laws_eqByteS_0]
        rw [List.take_length, hl, List.take_length] at hv
        simp (disch := omega) only [br_t, br_f, s_ofN, br_nlt, decide_eq_true hv]
    · rw [e_laws_eqByteS]
      simp (disch := omega) only [br_t, br_f, s_ofN, br_ft, br_nb, br_eq]
      exact hJ
  · refine Cm.fin k_laws_eqByteS fun J => ?_
    have hne : xs ≠ ys := fun e => hl (by rw [e])
    rw [e_laws_eqByteS]
    simp (disch := omega) only [br_t, br_f, s_ofN, br_ft, br_nb, br_neq, decide_eq_false hne]
theorem c_szByteS (g : Bool) (n : Nat) (c : List D) (left : Int) (h0 : 0 ≤ left) (h1 : left ≤ 1048576) (hn : n ≤ 140737488355328) : Cm 75 [.sl (some g) 1 n c, .int .i64 left] (.int .i64 (szF n left), [.undef, .undef]) := by
  refine Cm.fin k_laws_szByteS fun J => ?_
  rw [e_laws_szByteS]
  unfold szF
  by_cases h : left < n
  · rw [if_pos h]
    simp (disch := omega) only [s_ofN, s_sub, br_lt]
  · rw [if_neg h]
    simp (disch := omega) only [s_ofN, s_sub, br_nlt]
theorem c_toBoolS (g : Bool) (xs : List Bool) (hb : xs.length ≤ 140737488355328) (hb2 : xs.length < 9223372036854775807) : Cm 47 [.sl (some g) 1 xs.length (bools xs)] (.sl none 1 xs.length (bools xs), [.undef]) := by
  refine Cm.go k_laws_toBoolS [.undef] 0 (h_laws_toBoolS_0 g xs.length (bools xs) (0 : Nat) xs.length (bools (List.replicate xs.length false))) ?_ fun J hJ => ?_
  · refine WP.loop (H := fun i => h_laws_toBoolS_0 g xs.length (bools xs) (i : Nat) xs.length (bools (xs.take i ++ List.replicate (xs.length - i) false))) (n := xs.length) (fun _ => True) (fun i hi _ ih => WP.go _ (ih trivial) fun J hJ => ?_) (fun _ => WP.fin fun J => ?_) 0 (Nat.zero_le _) trivial
    · rw [eh_laws_toBoolS_0]
      simp (disch := first | omega | (simp; done) | (simp; omega)) only [br_t, br_f, br_tf, s_ofN, br_lt, br_inR, idx1, br_isB, br_slotB, s_getB, bools_set, s_inc]
      rw [← hJ]
      congr 2
      rw [rep_step hi _ xs rfl hi]
    · rw [eh_laws_toBoolS_0]
      simp (disch := omega) only [br_t, br_f, s_ofN, br_nlt, List.take_length, Nat.sub_self, List.replicate_zero, List.append_nil]
  · rw [e_laws_toBoolS]
    simp (disch := omega) only [br_t, br_f, s_ofN, br_mkok, s_toN, reps_B]
    exact hJ
theorem c_eqBoolS (g h : Bool) (xs ys : List Bool) (hb : xs.length < 9223372036854775807) : Cm 51 [.sl (some g) 1 xs.length (bools xs), .sl (some h) 1 ys.length (bools ys)] (.bool (decide (xs = ys)), [.undef, .undef]) := by
  by_cases hl : xs.length = ys.length
  · refine Cm.go k_laws_eqBoolS [.undef, .undef] 0 (h_laws_eqBoolS_0 g xs.length (bools xs) h ys.length (bools ys) (0 : Nat)) ?_ fun J hJ => ?_
    · refine WP.loop (H := fun i => h_laws_eqBoolS_0 g xs.length (bools xs) h ys.length (bools ys) (i : Nat)) (n := xs.length) (fun i => xs.take i = ys.take i) (fun i hi hv ih => ?_) (fun hv => WP.fin fun J => ?_) 0 (Nat.zero_le _) (by simp)
      · have hi' : i < ys.length := by omega
        by_cases he : xs[i] = ys[i]
        · refine WP.go _ (ih (by rw [← List.take_append_getElem hi, ← List.take_append_getElem hi', hv, he])) fun J hJ => ?_
          rw [eh_laws_eqBoolS_0]
          simp (disch := omega) only [br_t, br_f, br_tf, br_ft, br_nb, s_ofN, br_lt, br_inR, idx1, br_isB, s_getB, s_inc, br_eq, he, s_beq, beq_self_eq_true, Bool.not_true]
          exact hJ
        · refine WP.fin fun J => ?_
          rw [eh_laws_eqBoolS_0]
          have hne : xs ≠ ys := fun e => he (by subst e; rfl)
          have hn8 := he
          have hbe : (xs[i] == ys[i]) = false := by simpa using he
          simp (disch := first | omega | assumption) only [br_t, br_f, br_tf, br_ft, br_nb, s_ofN, br_lt, br_inR, idx1, br_isB, s_getB, br_neq, decide_eq_false hne, s_beq, hbe, Bool.not_false]
      · rw [eh_laws_eqBoolS_0]
        rw [List.take_length, hl, List.take_length] at hv
        simp (disch := omega) only [br_t, br_f, s_ofN, br_nlt, decide_eq_true hv]
    · rw [e_laws_eqBoolS]
      simp (disch := omega) only [br_t, br_f, s_ofN, br_ft, br_nb, br_eq]
      exact hJ
  · refine Cm.fin k_laws_eqBoolS fun J => ?_
    have hne : xs ≠ ys := fun e => hl (by rw [e])
    rw [e_laws_eqBoolS]
    simp (disch := omega) only [br_t, br_f, s_ofN, br_ft, br_nb, br_neq, decide_eq_false hne]
theorem c_szBoolS (g : Bool) (n : Nat) (c : List D) (left : Int) (h0 : 0 ≤ left) (h1 : left ≤ 1048576) (hn : n ≤ 140737488355328) : Cm 43 [.sl (some g) 1 n c, .int .i64 left] (.int .i64 (szF n left), [.undef, .undef]) := by
  refine Cm.fin k_laws_szBoolS fun J => ?_
  rw [e_laws_szBoolS]
  unfold szF
  by_cases h : left < n
  · rw [if_pos h]
    simp (disch := omega) only [s_ofN, s_sub, br_lt]
  · rw [if_neg h]
    simp (disch := omega) only [s_ofN, s_sub, br_nlt]
end Go.Proofs.Ytkejckoefjonjaa
namespace Go.Proofs.Ytkejckoefjonjaa
set_option maxRecDepth 100000
section
variable (pr : Prims) (cv : Cv Rz) (J : Nat → St → Option Rz)
def h_laws_toIntSS_0 (g0 : Bool) (n1 : Nat) (c2 : List D) (i3 : Int) (n4 : Nat) (c5 : List D) : St := (St.mk [(0, (.sl (some g0) 1 n1 c2)), (3, (.ref 10003 [] 0 none)), (4, (.int .i64 i3))] [(10003, [(.sl none 1 n4 c5)])] [] 0)
theorem k_laws_toIntSS : Told cfg Try.prog 48 Try.f48 := ⟨by kernel_rfl, Try.func48, by kernel_rfl⟩
theorem e_laws_toIntSS (g0 : Bool) (n0 : Nat) (c0 : List D) : RunJ pr cv J 48 Try.f48 [(.sl (some g0) 1 n0 c0)] =
    (br (pr.mkok (pr.ofN n0) (pr.ofN n0) 24) (J 0 (h_laws_toIntSS_0 g0 n0 c0 0 (pr.toN (pr.ofN n0)) (reps (pr.toN (pr.ofN n0)) [(.nil 1)]))) none) := by kernel_rfl
theorem eh_laws_toIntSS_0 (g0 : Bool) (n1 : Nat) (c2 : List D) (i3 : Int) (n4 : Nat) (c5 : List D) : HeadJ pr cv J 48 Try.f48 [.undef] 0 (h_laws_toIntSS_0 g0 n1 c2 i3 n4 c5) =
    (br (pr.lt i3 (pr.ofN n1)) (br (pr.inR i3 n1) (br (br (pr.isL 1 c2 (pr.idx 0 i3 1)) true false) (cv 29 [(.sl (some (pr.getG c2 (pr.idx 0 i3 1))) 1 (pr.getN c2 (pr.idx 0 i3 1)) (pr.getC c2 (pr.idx 0 i3 1)))] (.sl (fun vn0 => (fun vc1 => (.done (br (br (br (pr.nl vc1) true false) true false) (br (pr.inR i3 n4) (br (br (pr.ne c5) (br (pr.isOS 1 c5 (pr.idx 0 i3 1)) true false) false) (cv 999999 [(.sl none 0 0 (List.set c5 (pr.idx 0 i3 1) (.sl none 1 vn0 vc1)))] (.sl (fun vn2 => (fun vc3 => (.done (J 0 (h_laws_toIntSS_0 g0 n1 c2 (pr.ar .add .i64 i3 1) n4 vc3))))))) none) none) none)))))) none) none) (some ((.sl none 1 n4 c5), [.undef]))) := by kernel_rfl
def h_laws_eqIntSS_0 (g0 : Bool) (n1 : Nat) (c2 : List D) (g3 : Bool) (n4 : Nat) (c5 : List D) (i6 : Int) : St := (St.mk [(0, (.sl (some g0) 1 n1 c2)), (1, (.sl (some g3) 1 n4 c5)), (5, (.int .i64 i6))] [] [] 0)
theorem k_laws_eqIntSS : Told cfg Try.prog 52 Try.f52 := ⟨by kernel_rfl, Try.func52, by kernel_rfl⟩
theorem e_laws_eqIntSS (g0 : Bool) (n0 : Nat) (c0 : List D) (g1 : Bool) (n1 : Nat) (c1 : List D) : RunJ pr cv J 52 Try.f52 [(.sl (some g0) 1 n0 c0), (.sl (some g1) 1 n1 c1)] =
    (br (br (pr.eq (pr.ofN n0) (pr.ofN n1)) false true) (some ((.bool false), [.undef, .undef])) (J 0 (h_laws_eqIntSS_0 g0 n0 c0 g1 n1 c1 0))) := by kernel_rfl
theorem eh_laws_eqIntSS_0 (g0 : Bool) (n1 : Nat) (c2 : List D) (g3 : Bool) (n4 : Nat) (c5 : List D) (i6 : Int) : HeadJ pr cv J 52 Try.f52 [.undef, .undef] 0 (h_laws_eqIntSS_0 g0 n1 c2 g3 n4 c5 i6) =
    (br (pr.lt i6 (pr.ofN n1)) (br (pr.inR i6 n1) (br (br (pr.isL 1 c2 (pr.idx 0 i6 1)) true false) (br (pr.inR i6 n4) (br (br (pr.isL 1 c5 (pr.idx 0 i6 1)) true false) (cv 23 [(.sl (some (pr.getG c2 (pr.idx 0 i6 1))) 1 (pr.getN c2 (pr.idx 0 i6 1)) (pr.getC c2 (pr.idx 0 i6 1))), (.sl (some (pr.getG c5 (pr.idx 0 i6 1))) 1 (pr.getN c5 (pr.idx 0 i6 1)) (pr.getC c5 (pr.idx 0 i6 1)))] (.bool (fun vb0 => (.done (br (br vb0 false true) (some ((.bool false), [.undef, .undef])) (J 0 (h_laws_eqIntSS_0 g0 n1 c2 g3 n4 c5 (pr.ar .add .i64 i6 1)))))))) none) none) none) none) (some ((.bool true), [.undef, .undef]))) := by kernel_rfl
def h_laws_szIntSS_0 (g0 : Bool) (n1 : Nat) (c2 : List D) (i3 : Int) (i4 : Int) : St := (St.mk [(0, (.sl (some g0) 1 n1 c2)), (1, (.int .i64 i3)), (5, (.int .i64 i4))] [] [] 0)
theorem k_laws_szIntSS : Told cfg Try.prog 44 Try.f44 := ⟨by kernel_rfl, Try.func44, by kernel_rfl⟩
theorem e_laws_szIntSS (g0 : Bool) (n0 : Nat) (c0 : List D) (a1 : Int) : RunJ pr cv J 44 Try.f44 [(.sl (some g0) 1 n0 c0), (.int .i64 a1)] =
    (br (pr.lt (pr.ar .sub .i64 a1 (pr.ofN n0)) 0) (some ((.int .i64 (-1)), [.undef, .undef])) (J 0 (h_laws_szIntSS_0 g0 n0 c0 (pr.ar .sub .i64 a1 (pr.ofN n0)) 0))) := by kernel_rfl
theorem eh_laws_szIntSS_0 (g0 : Bool) (n1 : Nat) (c2 : List D) (i3 : Int) (i4 : Int) : HeadJ pr cv J 44 Try.f44 [.undef, .undef] 0 (h_laws_szIntSS_0 g0 n1 c2 i3 i4) =
    (br (pr.lt i4 (pr.ofN n1)) (br (pr.inR i4 n1) (br (br (pr.isL 1 c2 (pr.idx 0 i4 1)) true false) (cv 35 [(.sl (some (pr.getG c2 (pr.idx 0 i4 1))) 1 (pr.getN c2 (pr.idx 0 i4 1)) (pr.getC c2 (pr.idx 0 i4 1))), (.int .i64 i3)] (.int (fun vx0 => (.done (br (pr.lt vx0 0) (some ((.int .i64 (-1)), [.undef, .undef])) (J 0 (h_laws_szIntSS_0 g0 n1 c2 vx0 (pr.ar .add .i64 i4 1)))))))) none) none) (some ((.int .i64 i3), [.undef, .undef]))) := by kernel_rfl
theorem k_laws_toMeta : Told cfg Try.prog 45 Try.f45 := ⟨by kernel_rfl, Try.func45, by kernel_rfl⟩
theorem e_laws_toMeta (g0 : Bool) (n0 : Nat) (c0 : List D) (g1 : Bool) (n1 : Nat) (c1 : List D) (a2 : Bool) (a3 : Bool) (a4 : Bool) (a5 : Int) : RunJ pr cv J 45 Try.f45 [(.agg [(.sl (some g0) 1 n0 c0), (.sl (some g1) 1 n1 c1), (.bool a2), (.bool a3), (.bool a4), (.int .i64 a5)])] =
    (cv 29 [(.sl (some g0) 1 n0 c0)] (.sl (fun vn0 => (fun vc1 => (.done (br (br (br (pr.nl vc1) true false) true false) (cv 48 [(.sl (some g1) 1 n1 c1)] (.sl (fun vn2 => (fun vc3 => (.done (br (br (br (pr.nl vc3) true false) true false) (some ((.agg [(.sl none 1 vn0 vc1), (.sl none 1 vn2 vc3), (.bool a2), (.bool a3), (.bool a4), (.int .i64 a5)]), [.undef])) none)))))) none)))))) := by kernel_rfl
theorem k_laws_eqMeta : Told cfg Try.prog 49 Try.f49 := ⟨by kernel_rfl, Try.func49, by kernel_rfl⟩
theorem e_laws_eqMeta (g0 : Bool) (n0 : Nat) (c0 : List D) (g1 : Bool) (n1 : Nat) (c1 : List D) (a2 : Bool) (a3 : Bool) (a4 : Bool) (a5 : Int) (g6 : Bool) (n6 : Nat) (c6 : List D) (g7 : Bool) (n7 : Nat) (c7 : List D) (a8 : Bool) (a9 : Bool) (a10 : Bool) (a11 : Int) : RunJ pr cv J 49 Try.f49 [(.agg [(.sl (some g0) 1 n0 c0), (.sl (some g1) 1 n1 c1), (.bool a2), (.bool a3), (.bool a4), (.int .i64 a5)]), (.agg [(.sl (some g6) 1 n6 c6), (.sl (some g7) 1 n7 c7), (.bool a8), (.bool a9), (.bool a10), (.int .i64 a11)])] =
    let y1 : Option (D × List D) := (some ((.bool false), [.undef, .undef]))
    (cv 23 [(.sl (some g0) 1 n0 c0), (.sl (some g6) 1 n6 c6)] (.bool (fun vb0 => (.done (br (br vb0 false true) y1 (cv 52 [(.sl (some g1) 1 n1 c1), (.sl (some g7) 1 n7 c7)] (.bool (fun vb1 => (.done (br (br vb1 false true) y1 (br (br (pr.beq a2 a8) false true) y1 (br (br (pr.beq a3 a9) false true) y1 (br (br (pr.beq a4 a10) false true) y1 (br (br (pr.eq a5 a11) false true) y1 (some ((.bool true), [.undef, .undef])))))))))))))))) := by kernel_rfl
theorem k_laws_szMeta : Told cfg Try.prog 41 Try.f41 := ⟨by kernel_rfl, Try.func41, by kernel_rfl⟩
theorem e_laws_szMeta (g0 : Bool) (n0 : Nat) (c0 : List D) (g1 : Bool) (n1 : Nat) (c1 : List D) (a2 : Bool) (a3 : Bool) (a4 : Bool) (a5 : Int) (a6 : Int) : RunJ pr cv J 41 Try.f41 [(.agg [(.sl (some g0) 1 n0 c0), (.sl (some g1) 1 n1 c1), (.bool a2), (.bool a3), (.bool a4), (.int .i64 a5)]), (.int .i64 a6)] =
    let y1 : Option (D × List D) := (some ((.int .i64 (-1)), [.undef, .undef]))
    (cv 35 [(.sl (some g0) 1 n0 c0), (.int .i64 a6)] (.int (fun vx0 => (.done (br (pr.lt vx0 0) y1 (cv 44 [(.sl (some g1) 1 n1 c1), (.int .i64 vx0)] (.int (fun vx1 => (.done (br (pr.lt vx1 0) y1 (some ((.int .i64 vx1), [.undef, .undef])))))))))))) := by kernel_rfl
theorem k_laws_toSlots : Told cfg Try.prog 46 Try.f46 := ⟨by kernel_rfl, Try.func46, by kernel_rfl⟩
theorem e_laws_toSlots (g0 : Bool) (n0 : Nat) (c0 : List D) (g1 : Bool) (n1 : Nat) (c1 : List D) : RunJ pr cv J 46 Try.f46 [(.agg [(.sl (some g0) 1 n0 c0), (.sl (some g1) 1 n1 c1)])] =
    (cv 76 [(.sl (some g0) 1 n0 c0)] (.sl (fun vn0 => (fun vc1 => (.done (br (br (br (pr.nl vc1) true false) true false) (cv 76 [(.sl (some g1) 1 n1 c1)] (.sl (fun vn2 => (fun vc3 => (.done (br (br (br (pr.nl vc3) true false) true false) (some ((.agg [(.sl none 1 vn0 vc1), (.sl none 1 vn2 vc3)]), [.undef])) none)))))) none)))))) := by kernel_rfl
theorem k_laws_eqSlots : Told cfg Try.prog 50 Try.f50 := ⟨by kernel_rfl, Try.func50, by kernel_rfl⟩
theorem e_laws_eqSlots (g0 : Bool) (n0 : Nat) (c0 : List D) (g1 : Bool) (n1 : Nat) (c1 : List D) (g2 : Bool) (n2 : Nat) (c2 : List D) (g3 : Bool) (n3 : Nat) (c3 : List D) : RunJ pr cv J 50 Try.f50 [(.agg [(.sl (some g0) 1 n0 c0), (.sl (some g1) 1 n1 c1)]), (.agg [(.sl (some g2) 1 n2 c2), (.sl (some g3) 1 n3 c3)])] =
    let y1 : Option (D × List D) := (some ((.bool false), [.undef, .undef]))
    (cv 77 [(.sl (some g0) 1 n0 c0), (.sl (some g2) 1 n2 c2)] (.bool (fun vb0 => (.done (br (br vb0 false true) y1 (cv 77 [(.sl (some g1) 1 n1 c1), (.sl (some g3) 1 n3 c3)] (.bool (fun vb1 => (.done (br (br vb1 false true) y1 (some ((.bool true), [.undef, .undef])))))))))))) := by kernel_rfl
theorem k_laws_szSlots : Told cfg Try.prog 42 Try.f42 := ⟨by kernel_rfl, Try.func42, by kernel_rfl⟩
theorem e_laws_szSlots (g0 : Bool) (n0 : Nat) (c0 : List D) (g1 : Bool) (n1 : Nat) (c1 : List D) (a2 : Int) : RunJ pr cv J 42 Try.f42 [(.agg [(.sl (some g0) 1 n0 c0), (.sl (some g1) 1 n1 c1)]), (.int .i64 a2)] =
    let y1 : Option (D × List D) := (some ((.int .i64 (-1)), [.undef, .undef]))
    (cv 75 [(.sl (some g0) 1 n0 c0), (.int .i64 a2)] (.int (fun vx0 => (.done (br (pr.lt vx0 0) y1 (cv 75 [(.sl (some g1) 1 n1 c1), (.int .i64 vx0)] (.int (fun vx1 => (.done (br (pr.lt vx1 0) y1 (some ((.int .i64 vx1), [.undef, .undef])))))))))))) := by kernel_rfl
theorem k_laws_toNode : Told cfg Try.prog 16 Try.f16 := ⟨by kernel_rfl, Try.func16, by kernel_rfl⟩
theorem e_laws_toNode (a0 : Int) (a1 : Bool) (a2 : Bool) (g3 : Bool) (n3 : Nat) (c3 : List D) (g4 : Bool) (n4 : Nat) (c4 : List D) (g5 : Bool) (n5 : Nat) (c5 : List D) (a6 : Bool) (a7 : Bool) (a8 : Bool) (a9 : Int) (g10 : Bool) (n10 : Nat) (c10 : List D) (g11 : Bool) (n11 : Nat) (c11 : List D) (g12 : Bool) (n12 : Nat) (c12 : List D) (g13 : Bool) (n13 : Nat) (c13 : List D) (g14 : Bool) (n14 : Nat) (c14 : List D) (g15 : Bool) (n15 : Nat) (c15 : List D) : RunJ pr cv J 16 Try.f16 [(.agg [(.int .i64 a0), (.bool a1), (.bool a2), (.sl (some g3) 1 n3 c3), (.sl (some g4) 1 n4 c4), (.sl (some g5) 1 n5 c5), (.bool a6), (.bool a7), (.bool a8), (.int .i64 a9), (.sl (some g10) 1 n10 c10), (.sl (some g11) 1 n11 c11), (.sl (some g12) 1 n12 c12), (.sl (some g13) 1 n13 c13), (.sl (some g14) 1 n14 c14), (.sl (some g15) 1 n15 c15)])] =
    (cv 29 [(.sl (some g3) 1 n3 c3)] (.sl (fun vn0 => (fun vc1 => (.done (br (br (br (pr.nl vc1) true false) true false) (cv 45 [(.agg [(.sl (some g4) 1 n4 c4), (.sl (some g5) 1 n5 c5), (.bool a6), (.bool a7), (.bool a8), (.int .i64 a9)])] (.sl (fun vn2 => (fun vc3 => (.sl (fun vn4 => (fun vc5 => (.bool (fun vb6 => (.bool (fun vb7 => (.bool (fun vb8 => (.int (fun vx9 => (.done (br (br (br (pr.nl vc3) (br (pr.nl vc5) true false) false) true false) (cv 46 [(.agg [(.sl (some g10) 1 n10 c10), (.sl (some g11) 1 n11 c11)])] (.sl (fun vn10 => (fun vc11 => (.sl (fun vn12 => (fun vc13 => (.done (br (br (br (pr.nl vc11) (br (pr.nl vc13) true false) false) true false) (cv 47 [(.sl (some g12) 1 n12 c12)] (.sl (fun vn14 => (fun vc15 => (.done (br (br (br (pr.nl vc15) true false) true false) (cv 48 [(.sl (some g13) 1 n13 c13)] (.sl (fun vn16 => (fun vc17 => (.done (br (br (br (pr.nl vc17) true false) true false) (cv 47 [(.sl (some g14) 1 n14 c14)] (.sl (fun vn18 => (fun vc19 => (.done (br (br (br (pr.nl vc19) true false) true false) (cv 29 [(.sl (some g15) 1 n15 c15)] (.sl (fun vn20 => (fun vc21 => (.done (br (br (br (pr.nl vc21) true false) true false) (some ((.agg [(.int .i64 a0), (.bool a1), (.bool a2), (.sl none 1 vn0 vc1), (.sl none 1 vn2 vc3), (.sl none 1 vn4 vc5), (.bool vb6), (.bool vb7), (.bool vb8), (.int .i64 vx9), (.sl none 1 vn10 vc11), (.sl none 1 vn12 vc13), (.sl none 1 vn14 vc15), (.sl none 1 vn16 vc17), (.sl none 1 vn18 vc19), (.sl none 1 vn20 vc21)]), [.undef])) none)))))) none)))))) none)))))) none)))))) none))))))))) none))))))))))))))))) none)))))) := by kernel_rfl
theorem k_laws_eqNode : Told cfg Try.prog 18 Try.f18 := ⟨by kernel_rfl, Try.func18, by kernel_rfl⟩
theorem e_laws_eqNode (a0 : Int) (a1 : Bool) (a2 : Bool) (g3 : Bool) (n3 : Nat) (c3 : List D) (g4 : Bool) (n4 : Nat) (c4 : List D) (g5 : Bool) (n5 : Nat) (c5 : List D) (a6 : Bool) (a7 : Bool) (a8 : Bool) (a9 : Int) (g10 : Bool) (n10 : Nat) (c10 : List D) (g11 : Bool) (n11 : Nat) (c11 : List D) (g12 : Bool) (n12 : Nat) (c12 : List D) (g13 : Bool) (n13 : Nat) (c13 : List D) (g14 : Bool) (n14 : Nat) (c14 : List D) (g15 : Bool) (n15 : Nat) (c15 : List D) (a16 : Int) (a17 : Bool) (a18 : Bool) (g19 : Bool) (n19 : Nat) (c19 : List D) (g20 : Bool) (n20 : Nat) (c20 : List D) (g21 : Bool) (n21 : Nat) (c21 : List D) (a22 : Bool) (a23 : Bool) (a24 : Bool) (a25 : Int) (g26 : Bool) (n26 : Nat) (c26 : List D) (g27 : Bool) (n27 : Nat) (c27 : List D) (g28 : Bool) (n28 : Nat) (c28 : List D) (g29 : Bool) (n29 : Nat) (c29 : List D) (g30 : Bool) (n30 : Nat) (c30 : List D) (g31 : Bool) (n31 : Nat) (c31 : List D) : RunJ pr cv J 18 Try.f18 [(.agg [(.int .i64 a0), (.bool a1), (.bool a2), (.sl (some g3) 1 n3 c3), (.sl (some g4) 1 n4 c4), (.sl (some g5) 1 n5 c5), (.bool a6), (.bool a7), (.bool a8), (.int .i64 a9), (.sl (some g10) 1 n10 c10), (.sl (some g11) 1 n11 c11), (.sl (some g12) 1 n12 c12), (.sl (some g13) 1 n13 c13), (.sl (some g14) 1 n14 c14), (.sl (some g15) 1 n15 c15)]), (.agg [(.int .i64 a16), (.bool a17), (.bool a18), (.sl (some g19) 1 n19 c19), (.sl (some g20) 1 n20 c20), (.sl (some g21) 1 n21 c21), (.bool a22), (.bool a23), (.bool a24), (.int .i64 a25), (.sl (some g26) 1 n26 c26), (.sl (some g27) 1 n27 c27), (.sl (some g28) 1 n28 c28), (.sl (some g29) 1 n29 c29), (.sl (some g30) 1 n30 c30), (.sl (some g31) 1 n31 c31)])] =
    let y1 : Option (D × List D) := (some ((.bool false), [.undef, .undef]))
    (br (br (pr.eq a0 a16) false true) y1 (br (br (pr.beq a1 a17) false true) y1 (br (br (pr.beq a2 a18) false true) y1 (cv 23 [(.sl (some g3) 1 n3 c3), (.sl (some g19) 1 n19 c19)] (.bool (fun vb0 => (.done (br (br vb0 false true) y1 (cv 49 [(.agg [(.sl (some g4) 1 n4 c4), (.sl (some g5) 1 n5 c5), (.bool a6), (.bool a7), (.bool a8), (.int .i64 a9)]), (.agg [(.sl (some g20) 1 n20 c20), (.sl (some g21) 1 n21 c21), (.bool a22), (.bool a23), (.bool a24), (.int .i64 a25)])] (.bool (fun vb1 => (.done (br (br vb1 false true) y1 (cv 50 [(.agg [(.sl (some g10) 1 n10 c10), (.sl (some g11) 1 n11 c11)]), (.agg [(.sl (some g26) 1 n26 c26), (.sl (some g27) 1 n27 c27)])] (.bool (fun vb2 => (.done (br (br vb2 false true) y1 (cv 51 [(.sl (some g12) 1 n12 c12), (.sl (some g28) 1 n28 c28)] (.bool (fun vb3 => (.done (br (br vb3 false true) y1 (cv 52 [(.sl (some g13) 1 n13 c13), (.sl (some g29) 1 n29 c29)] (.bool (fun vb4 => (.done (br (br vb4 false true) y1 (cv 51 [(.sl (some g14) 1 n14 c14), (.sl (some g30) 1 n30 c30)] (.bool (fun vb5 => (.done (br (br vb5 false true) y1 (cv 23 [(.sl (some g15) 1 n15 c15), (.sl (some g31) 1 n31 c31)] (.bool (fun vb6 => (.done (br (br vb6 false true) y1 (some ((.bool true), [.undef, .undef])))))))))))))))))))))))))))))))))))))))) := by kernel_rfl
theorem k_laws_szNode : Told cfg Try.prog 14 Try.f14 := ⟨by kernel_rfl, Try.func14, by kernel_rfl⟩
theorem e_laws_szNode (a0 : Int) (a1 : Bool) (a2 : Bool) (g3 : Bool) (n3 : Nat) (c3 : List D) (g4 : Bool) (n4 : Nat) (c4 : List D) (g5 : Bool) (n5 : Nat) (c5 : List D) (a6 : Bool) (a7 : Bool) (a8 : Bool) (a9 : Int) (g10 : Bool) (n10 : Nat) (c10 : List D) (g11 : Bool) (n11 : Nat) (c11 : List D) (g12 : Bool) (n12 : Nat) (c12 : List D) (g13 : Bool) (n13 : Nat) (c13 : List D) (g14 : Bool) (n14 : Nat) (c14 : List D) (g15 : Bool) (n15 : Nat) (c15 : List D) (a16 : Int) : RunJ pr cv J 14 Try.f14 [(.agg [(.int .i64 a0), (.bool a1), (.bool a2), (.sl (some g3) 1 n3 c3), (.sl (some g4) 1 n4 c4), (.sl (some g5) 1 n5 c5), (.bool a6), (.bool a7), (.bool a8), (.int .i64 a9), (.sl (some g10) 1 n10 c10), (.sl (some g11) 1 n11 c11), (.sl (some g12) 1 n12 c12), (.sl (some g13) 1 n13 c13), (.sl (some g14) 1 n14 c14), (.sl (some g15) 1 n15 c15)]), (.int .i64 a16)] =
    let y1 : Option (D × List D) := (some ((.int .i64 (-1)), [.undef, .undef]))
    (cv 35 [(.sl (some g3) 1 n3 c3), (.int .i64 a16)] (.int (fun vx0 => (.done (br (pr.lt vx0 0) y1 (cv 41 [(.agg [(.sl (some g4) 1 n4 c4), (.sl (some g5) 1 n5 c5), (.bool a6), (.bool a7), (.bool a8), (.int .i64 a9)]), (.int .i64 vx0)] (.int (fun vx1 => (.done (br (pr.lt vx1 0) y1 (cv 42 [(.agg [(.sl (some g10) 1 n10 c10), (.sl (some g11) 1 n11 c11)]), (.int .i64 vx1)] (.int (fun vx2 => (.done (br (pr.lt vx2 0) y1 (cv 43 [(.sl (some g12) 1 n12 c12), (.int .i64 vx2)] (.int (fun vx3 => (.done (br (pr.lt vx3 0) y1 (cv 44 [(.sl (some g13) 1 n13 c13), (.int .i64 vx3)] (.int (fun vx4 => (.done (br (pr.lt vx4 0) y1 (cv 43 [(.sl (some g14) 1 n14 c14), (.int .i64 vx4)] (.int (fun vx5 => (.done (br (pr.lt vx5 0) y1 (cv 35 [(.sl (some g15) 1 n15 c15), (.int .i64 vx5)] (.int (fun vx6 => (.done (br (pr.lt vx6 0) y1 (some ((.int .i64 vx6), [.undef, .undef]))))))))))))))))))))))))))))))))))))) := by kernel_rfl
end
def OkR (xss : List (List Int)) : Prop := xss.length ≤ 1048576 ∧ ∀ xs ∈ xss, xs.length ≤ 1048576
structure OkMeta (m : MMeta) : Prop where
  gens : m.gens.length ≤ 1048576
  bits : OkR m.bits
structure OkSlots (s : MSlots) : Prop where
  a : s.a.length ≤ 1048576
  b : s.b.length ≤ 1048576
structure OkNode (n : MNode) : Prop where
  image : n.image.length ≤ 1048576
  mt : OkMeta n.mt
  slots : OkSlots n.slots
  conn : n.conn.length ≤ 1048576
  sync : OkR n.sync
  copies : n.copies.length ≤ 1048576
  wait : n.wait.length ≤ 1048576
section
variable {x y : Rz} {R : Type} {u v : R}
theorem br_isL {g : Bool} {xss : List (List Int)} {i : Nat} (h : i < xss.length) : br (std.isL 1 (rows (some g) xss) i) u v = u := by simp [std, rows, br, List.getElem?_eq_getElem h]
theorem s_getG {g : Bool} {xss : List (List Int)} {i : Nat} (h : i < xss.length) : std.getG (rows (some g) xss) i = g := by simp [std, rows, List.getElem?_eq_getElem h, cG]
theorem s_getN {g : Option Bool} {xss : List (List Int)} {i : Nat} (h : i < xss.length) : std.getN (rows g xss) i = xss[i].length := by simp [std, rows, List.getElem?_eq_getElem h, cN]
theorem s_getC {g : Option Bool} {xss : List (List Int)} {i : Nat} (h : i < xss.length) : std.getC (rows g xss) i = ints xss[i] := by simp [std, rows, List.getElem?_eq_getElem h, cC]
theorem br_isOS {xss : List (List Int)} {i : Nat} (h : i < xss.length) : br (std.isOS 1 (rows none xss) i) u v = u := by simp [std, rows, br, List.getElem?_eq_getElem h]
theorem br_neR {g : Option Bool} {xss : List (List Int)} (h : 0 < xss.length) : br (std.ne (rows g xss)) u v = u := by
  cases xss with
  | nil => simp at h
  | cons _ _ => rfl
theorem rows_set {xss : List (List Int)} {i : Nat} {ys : List Int} : List.set (rows none xss) i (.sl none 1 ys.length (ints ys)) = rows none (xss.set i ys) := by simp [rows, List.map_set]
theorem reps_R (n : Nat) : reps n [.nil 1] = rows none (List.replicate n []) := by
  unfold reps
  induction n with
  | zero => rfl
  | succ n ih => simpa [List.replicate_succ, rows, rowZ, ints] using ih
theorem s_nlR {g : Option Bool} (hg : g ≠ some true) (xss : List (List Int)) : std.nl (rows g xss) = true := noLentL_flat (by
  intro d hd
  obtain ⟨xs, _, rfl⟩ := List.mem_map.1 hd
  have h1 : noLentL (ints xs) = true := s_nlI xs
  cases g with
  | none => simpa [noLent] using h1
  | some g => cases g with
    | false => simpa [noLent] using h1
    | true => exact absurd rfl hg)
theorem s_nlRn (xss : List (List Int)) : std.nl (rows none xss) = true := s_nlR (by simp) xss
end
section
variable (t : Tel Rz)
theorem v_toIntS (g : Bool) (xs : List Int) (hb : xs.length ≤ 17592186044416) : cvP 29 [.sl (some g) 1 xs.length (ints xs)] t = feed t [.sl none 1 xs.length (ints xs)] := cvP_eq (c_toIntS g xs hb (by omega)) (by kernel_rfl) t
theorem v_toByteS (g : Bool) (xs : List UInt8) (hb : xs.length ≤ 140737488355328) : cvP 76 [.sl (some g) 1 xs.length (bytes xs)] t = feed t [.sl none 1 xs.length (bytes xs)] := cvP_eq (c_toByteS g xs hb (by omega)) (by kernel_rfl) t
theorem v_toBoolS (g : Bool) (xs : List Bool) (hb : xs.length ≤ 140737488355328) : cvP 47 [.sl (some g) 1 xs.length (bools xs)] t = feed t [.sl none 1 xs.length (bools xs)] := cvP_eq (c_toBoolS g xs hb (by omega)) (by kernel_rfl) t
theorem v_eqIntS (g h : Bool) (xs ys : List Int) (hb : xs.length < 9223372036854775807) : cvP 23 [.sl (some g) 1 xs.length (ints xs), .sl (some h) 1 ys.length (ints ys)] t = feed t [.bool (decide (xs = ys))] := cvP_eq (c_eqIntS g h xs ys hb) (by kernel_rfl) t
theorem v_eqByteS (g h : Bool) (xs ys : List UInt8) (hb : xs.length < 9223372036854775807) : cvP 77 [.sl (some g) 1 xs.length (bytes xs), .sl (some h) 1 ys.length (bytes ys)] t = feed t [.bool (decide (xs = ys))] := cvP_eq (c_eqByteS g h xs ys hb) (by kernel_rfl) t
theorem v_eqBoolS (g h : Bool) (xs ys : List Bool) (hb : xs.length < 9223372036854775807) : cvP 51 [.sl (some g) 1 xs.length (bools xs), .sl (some h) 1 ys.length (bools ys)] t = feed t [.bool (decide (xs = ys))] := cvP_eq (c_eqBoolS g h xs ys hb) (by kernel_rfl) t
theorem v_szIntS (g : Bool) (n : Nat) (c : List D) (left : Int) (h0 : 0 ≤ left) (h1 : left ≤ 1048576) (hn : n ≤ 140737488355328) : cvP 35 [.sl (some g) 1 n c, .int .i64 left] t = feed t [.int .i64 (szF n left)] := cvP_eq (c_szIntS g n c left h0 h1 hn) (by kernel_rfl) t
theorem v_szByteS (g : Bool) (n : Nat) (c : List D) (left : Int) (h0 : 0 ≤ left) (h1 : left ≤ 1048576) (hn : n ≤ 140737488355328) : cvP 75 [.sl (some g) 1 n c, .int .i64 left] t = feed t [.int .i64 (szF n left)] := cvP_eq (c_szByteS g n c left h0 h1 hn) (by kernel_rfl) t
theorem v_szBoolS (g : Bool) (n : Nat) (c : List D) (left : Int) (h0 : 0 ≤ left) (h1 : left ≤ 1048576) (hn : n ≤ 140737488355328) : cvP 43 [.sl (some g) 1 n c, .int .i64 left] t = feed t [.int .i64 (szF n left)] := cvP_eq (c_szBoolS g n c left h0 h1 hn) (by kernel_rfl) t
end
theorem feed_int {R : Type} (f : Int → Tel R) (k : IntKind) (n : Int) (l : List D) : feed (.int f) (.int k n :: l) = feed (f n) l := rfl
theorem feed_bool {R : Type} (f : Bool → Tel R) (b : Bool) (l : List D) : feed (.bool f) (.bool b :: l) = feed (f b) l := rfl
theorem feed_sl {R : Type} (f : Nat → List D → Tel R) (s n : Nat) (cs l : List D) : feed (.sl f) (.sl none s n cs :: l) = feed (f n cs) l := rfl
theorem feed_done {R : Type} (x : Option R) (l : List D) : feed (.done x) l = x := rfl
theorem c_toIntSS (g : Bool) (xss : List (List Int)) (hb : OkR xss) : Cm 48 [sR (some g) xss] (sR none xss, [.undef]) := by
  have hl := hb.1
  refine Cm.go k_laws_toIntSS [.undef] 0 (h_laws_toIntSS_0 g xss.length (rows (some g) xss) (0 : Nat) xss.length (rows none (List.replicate xss.length []))) ?_ fun J hJ => ?_
  · refine WP.loop (H := fun i => h_laws_toIntSS_0 g xss.length (rows (some g) xss) (i : Nat) xss.length (rows none (xss.take i ++ List.replicate (xss.length - i) []))) (n := xss.length) (fun _ => True) (fun i hi _ ih => WP.go _ (ih trivial) fun J hJ => ?_) (fun _ => WP.fin fun J => ?_) 0 (Nat.zero_le _) trivial
    · rw [eh_laws_toIntSS_0]
      have hx : xss[i].length ≤ 1048576 := hb.2 _ (List.getElem_mem hi)
      simp (disch := first | omega | (simp; done) | (simp; omega)) only [br_t, br_f, br_tf, s_ofN, br_lt, br_inR, idx1, br_isL, s_getG, s_getN, s_getC, v_toIntS, feed_sl, feed_done, s_nlI, br_isOS, br_neR, rows_set, s_inc, cvP_nm]
      rw [rep_step hi _ xss rfl hi]
      exact hJ
    · rw [eh_laws_toIntSS_0]
      simp (disch := omega) only [br_t, br_f, s_ofN, br_nlt, List.take_length, Nat.sub_self, List.replicate_zero, List.append_nil]
  · rw [e_laws_toIntSS]
    simp (disch := omega) only [br_t, br_f, s_ofN, br_mkok, s_toN, reps_R]
    exact hJ
theorem c_eqIntSS (g h : Bool) (xs ys : List (List Int)) (hb : OkR xs) : Cm 52 [sR (some g) xs, sR (some h) ys] (.bool (decide (xs = ys)), [.undef, .undef]) := by
  have hlen := hb.1
  by_cases hl : xs.length = ys.length
  · refine Cm.go k_laws_eqIntSS [.undef, .undef] 0 (h_laws_eqIntSS_0 g xs.length (rows (some g) xs) h ys.length (rows (some h) ys) (0 : Nat)) ?_ fun J hJ => ?_
    · refine WP.loop (H := fun i => h_laws_eqIntSS_0 g xs.length (rows (some g) xs) h ys.length (rows (some h) ys) (i : Nat)) (n := xs.length) (fun i => xs.take i = ys.take i) (fun i hi hv ih => ?_) (fun hv => WP.fin fun J => ?_) 0 (Nat.zero_le _) (by simp)
      · have hi' : i < ys.length := by omega
        have hx : xs[i].length ≤ 1048576 := hb.2 _ (List.getElem_mem hi)
        by_cases he : xs[i] = ys[i]
        · refine WP.go _ (ih (by rw [← List.take_append_getElem hi, ← List.take_append_getElem hi', hv, he])) fun J hJ => ?_
          rw [eh_laws_eqIntSS_0]
          simp (disch := omega) only [br_t, br_f, br_tf, br_ft, br_nb, s_ofN, br_lt, br_inR, idx1, br_isL, s_getG, s_getN, s_getC, v_eqIntS, feed_bool, feed_done, decide_eq_true he, s_inc]
          exact hJ
        · refine WP.fin fun J => ?_
          rw [eh_laws_eqIntSS_0]
          have hne : xs ≠ ys := fun e => he (by subst e; rfl)
          simp (disch := omega) only [br_t, br_f, br_tf, br_ft, br_nb, s_ofN, br_lt, br_inR, idx1, br_isL, s_getG, s_getN, s_getC, v_eqIntS, feed_bool, feed_done, decide_eq_false he, decide_eq_false hne]
      · rw [eh_laws_eqIntSS_0]
        rw [List.take_length, hl, List.take_length] at hv
        simp (disch := omega) only [br_t, br_f, s_ofN, br_nlt, decide_eq_true hv]
    · rw [e_laws_eqIntSS]
      simp (disch := omega) only [br_t, br_f, s_ofN, br_ft, br_nb, br_eq]
      exact hJ
  · refine Cm.fin k_laws_eqIntSS fun J => ?_
    have hne : xs ≠ ys := fun e => hl (by rw [e])
    rw [e_laws_eqIntSS]
    simp (disch := omega) only [br_t, br_f, s_ofN, br_ft, br_nb, br_neq, decide_eq_false hne]
def szB (v : Int) (k : Int → Int) : Int := if v < 0 then -1 else k v
def szL {α : Type} (f : α → Int → Int) : List α → Int → Int
  | [], l => l
  | x :: xs, l => szB (f x l) (szL f xs)
theorem szF_le {n : Nat} {l : Int} (h : 0 ≤ l) : szF n l ≤ l ∧ -1 ≤ szF n l ∧ (0 ≤ szF n l → (n : Int) ≤ l) := by unfold szF; split <;> omega
theorem szB_neg {v : Int} (k : Int → Int) (h : v < 0) : szB v k = -1 := if_pos h
theorem szB_pos {v : Int} (k : Int → Int) (h : 0 ≤ v) : szB v k = k v := if_neg (by omega)
theorem szL_le {α : Type} {f : α → Int → Int} {Q : α → Prop} (hf : ∀ x l, 0 ≤ l → f x l ≤ l ∧ -1 ≤ f x l ∧ (0 ≤ f x l → l ≤ 1048576 → Q x)) : ∀ (xs : List α) (l : Int), 0 ≤ l → l ≤ 1048576 → szL f xs l ≤ l ∧ -1 ≤ szL f xs l ∧ (0 ≤ szL f xs l → ∀ x ∈ xs, Q x)
  | [], l, h, _ => ⟨Int.le_refl _, by show -1 ≤ l; omega, fun _ => by simp⟩
  | x :: xs, l, h, hm => by
    obtain ⟨h1, h2, h3⟩ := hf x l h
    simp only [szL]
    by_cases hv : f x l < 0
    · rw [szB_neg _ hv]
      exact ⟨by omega, by omega, by omega⟩
    · rw [szB_pos _ (by omega)]
      obtain ⟨g1, g2, g3⟩ := szL_le hf xs (f x l) (by omega) (by omega)
      refine ⟨by omega, g2, fun hp y hy => ?_⟩
      rcases List.mem_cons.1 hy with rfl | hy
      · exact h3 (by omega) hm
      · exact g3 hp y hy
def szR (xss : List (List Int)) (l : Int) : Int := szB (szF xss.length l) (szL (fun xs l => szF xs.length l) xss)
theorem szR_le {xss : List (List Int)} {l : Int} (h : 0 ≤ l) (hm : l ≤ 1048576) : szR xss l ≤ l ∧ -1 ≤ szR xss l ∧ (0 ≤ szR xss l → OkR xss) := by
  obtain ⟨h1, h2, h3⟩ := szF_le (n := xss.length) h
  unfold szR
  by_cases hv : szF xss.length l < 0
  · rw [szB_neg _ hv]
    exact ⟨by omega, by omega, by omega⟩
  · rw [szB_pos _ (by omega)]
    obtain ⟨g1, g2, g3⟩ := szL_le (f := fun (xs : List Int) l => szF xs.length l) (Q := fun xs => xs.length ≤ 1048576) (fun xs l hl => by
      obtain ⟨a1, a2, a3⟩ := szF_le (n := xs.length) hl
      exact ⟨a1, a2, fun hh hm => by have := a3 hh; omega⟩) xss (szF xss.length l) (by omega) (by omega)
    exact ⟨by omega, g2, fun hp => ⟨by have := h3 (by omega); omega, g3 hp⟩⟩
theorem c_szIntSS (g : Bool) (xss : List (List Int)) (left : Int) (h0 : 0 ≤ left) (h1 : left ≤ 1048576) (hn : xss.length ≤ 140737488355328) (hx : ∀ xs ∈ xss, xs.length ≤ 140737488355328) : Cm 44 [sR (some g) xss, .int .i64 left] (.int .i64 (szR xss left), [.undef, .undef]) := by
  have hlen := szF_le (n := xss.length) h0
  have loop : ∀ k i (l : Int), i + k = xss.length → 0 ≤ l → l ≤ 1048576 → WP 44 Try.f44 [.undef, .undef] 0 (h_laws_szIntSS_0 g xss.length (rows (some g) xss) l (i : Nat)) (.int .i64 (szL (fun xs l => szF xs.length l) (xss.drop i) l), [.undef, .undef]) := by
    intro k
    induction k with
    | zero =>
      intro i l hi hl hm
      refine WP.fin fun J => ?_
      rw [eh_laws_szIntSS_0, List.drop_of_length_le (by omega)]
      simp (disch := omega) only [s_ofN, br_nlt, szL]
    | succ k ih =>
      intro i l hi hl hm
      have hi' : i < xss.length := by omega
      have hxi := hx _ (List.getElem_mem hi')
      obtain ⟨a1, a2, a3⟩ := szF_le (n := xss[i].length) hl
      have e : szL (fun xs l => szF xs.length l) (xss.drop i) l = szB (szF xss[i].length l) (szL (fun xs l => szF xs.length l) (xss.drop (i + 1))) := by
        rw [← List.getElem_cons_drop hi']
        rfl
      rw [e]
      by_cases hv : szF xss[i].length l < 0
      · refine WP.fin fun J => ?_
        rw [eh_laws_szIntSS_0, szB_neg _ hv]
        simp (disch := omega) only [br_t, br_f, br_tf, s_ofN, br_lt, br_inR, idx1, br_isL, s_getG, s_getN, s_getC, v_szIntS, feed_int, feed_done]
      · rw [szB_pos _ (by omega)]
        refine WP.go _ (ih (i + 1) (szF xss[i].length l) (by omega) (by omega) (by omega)) fun J hJ => ?_
        rw [eh_laws_szIntSS_0]
        have hv' : 0 ≤ szF xss[i].length l := by omega
        simp (disch := omega) only [br_t, br_f, br_tf, s_ofN, br_lt, br_inR, idx1, br_isL, s_getG, s_getN, s_getC, v_szIntS, feed_int, feed_done, br_nlt, s_inc]
        exact hJ
  by_cases h : left < xss.length
  · refine Cm.fin k_laws_szIntSS fun J => ?_
    rw [e_laws_szIntSS, szR, szB_neg _ (by unfold szF; rw [if_pos h]; omega)]
    simp (disch := omega) only [s_ofN, s_sub, br_lt]
  · have e : szF xss.length left = left - xss.length := if_neg h
    rw [szR, szB_pos _ (by omega), e]
    refine Cm.go k_laws_szIntSS [.undef, .undef] 0 _ (loop xss.length 0 (left - xss.length) (by omega) (by omega) (by omega)) fun J hJ => ?_
    rw [e_laws_szIntSS]
    simp (disch := omega) only [s_ofN, s_sub, br_nlt]
    exact hJ
section
variable (t : Tel Rz)
theorem v_toIntSS (g : Bool) (xss : List (List Int)) (hb : OkR xss) : cvP 48 [.sl (some g) 1 xss.length (rows (some g) xss)] t = feed t [.sl none 1 xss.length (rows none xss)] := cvP_eq (c_toIntSS g xss hb) (by kernel_rfl) t
theorem v_eqIntSS (g h : Bool) (xs ys : List (List Int)) (hb : OkR xs) : cvP 52 [.sl (some g) 1 xs.length (rows (some g) xs), .sl (some h) 1 ys.length (rows (some h) ys)] t = feed t [.bool (decide (xs = ys))] := cvP_eq (c_eqIntSS g h xs ys hb) (by kernel_rfl) t
theorem v_szIntSS (g : Bool) (xss : List (List Int)) (left : Int) (h0 : 0 ≤ left) (h1 : left ≤ 1048576) (hn : xss.length ≤ 140737488355328) (hx : ∀ xs ∈ xss, xs.length ≤ 140737488355328) : cvP 44 [.sl (some g) 1 xss.length (rows (some g) xss), .int .i64 left] t = feed t [.int .i64 (szR xss left)] := cvP_eq (c_szIntSS g xss left h0 h1 hn hx) (by kernel_rfl) t
end
theorem c_toMeta (g : Bool) (m : MMeta) (h : OkMeta m) : Cm 45 [.agg (eMeta (some g) m)] (.agg (eMeta none m), [.undef]) := by
  have h1 := h.gens
  refine Cm.fin k_laws_toMeta fun J => ?_
  rw [e_laws_toMeta]
  simp (disch := first | omega | exact h.bits) only [v_toIntS, v_toIntSS, feed_sl, feed_done, s_nlI, s_nlRn, br_t]
theorem c_toSlots (g : Bool) (s : MSlots) (h : OkSlots s) : Cm 46 [.agg (eSlots (some g) s)] (.agg (eSlots none s), [.undef]) := by
  have h1 := h.a
  have h2 := h.b
  refine Cm.fin k_laws_toSlots fun J => ?_
  rw [e_laws_toSlots]
  simp (disch := omega) only [v_toByteS, feed_sl, feed_done, s_nl8, br_t]
theorem c_eqMeta (g h : Bool) (m : MMeta) (ok : OkMeta m) : Cm 49 [.agg (eMeta (some g) m), .agg (eMeta (some h) m)] (.bool true, [.undef, .undef]) := by
  have h1 := ok.gens
  refine Cm.fin k_laws_eqMeta fun J => ?_
  rw [e_laws_eqMeta]
  simp (disch := first | omega | exact ok.bits) only [v_eqIntS, v_eqIntSS, feed_bool, feed_done, decide_true, br_t, br_f, s_beq, beq_self_eq_true, br_eq]
theorem c_eqSlots (g h : Bool) (s : MSlots) (ok : OkSlots s) : Cm 50 [.agg (eSlots (some g) s), .agg (eSlots (some h) s)] (.bool true, [.undef, .undef]) := by
  have h1 := ok.a
  have h2 := ok.b
  refine Cm.fin k_laws_eqSlots fun J => ?_
  rw [e_laws_eqSlots]
  simp (disch := omega) only [v_eqByteS, feed_bool, feed_done, decide_true, br_t, br_f]
structure LnMeta (m : MMeta) : Prop where
  gens : m.gens.length ≤ 140737488355328
  bits : m.bits.length ≤ 140737488355328
  bit : ∀ xs ∈ m.bits, xs.length ≤ 140737488355328
structure LnNode (n : MNode) : Prop where
  image : n.image.length ≤ 140737488355328
  mt : LnMeta n.mt
  a : n.slots.a.length ≤ 140737488355328
  b : n.slots.b.length ≤ 140737488355328
  conn : n.conn.length ≤ 140737488355328
  sync : n.sync.length ≤ 140737488355328
  syn : ∀ xs ∈ n.sync, xs.length ≤ 140737488355328
  copies : n.copies.length ≤ 140737488355328
  wait : n.wait.length ≤ 140737488355328
def szMetaF (m : MMeta) (l : Int) : Int := szB (szF m.gens.length l) fun l => szB (szR m.bits l) fun l => l
def szSlotsF (s : MSlots) (l : Int) : Int := szB (szF s.a.length l) fun l => szB (szF s.b.length l) fun l => l
def szNodeF (n : MNode) (l : Int) : Int := szB (szF n.image.length l) fun l => szB (szMetaF n.mt l) fun l => szB (szSlotsF n.slots l) fun l => szB (szF n.conn.length l) fun l => szB (szR n.sync l) fun l => szB (szF n.copies.length l) fun l => szB (szF n.wait.length l) fun l => l
theorem szB_pair {v l : Int} {k : Int → Int} {Q Q' : Prop} (hl : 0 ≤ l) (hv : v ≤ l ∧ -1 ≤ v ∧ (0 ≤ v → Q)) (hk : 0 ≤ v → k v ≤ v ∧ -1 ≤ k v ∧ (0 ≤ k v → Q')) : szB v k ≤ l ∧ -1 ≤ szB v k ∧ (0 ≤ szB v k → Q ∧ Q') := by
  unfold szB
  split
  · omega
  · obtain ⟨a, b, c⟩ := hk (by omega)
    exact ⟨by omega, b, fun h => ⟨hv.2.2 (by omega), c h⟩⟩
theorem sz_end {l : Int} (h : 0 ≤ l) : l ≤ l ∧ -1 ≤ l ∧ (0 ≤ l → True) := ⟨by omega, by omega, fun _ => trivial⟩
theorem szF_ok {n : Nat} {l : Int} (h : 0 ≤ l) (hm : l ≤ 1048576) : szF n l ≤ l ∧ -1 ≤ szF n l ∧ (0 ≤ szF n l → n ≤ 1048576) := by
  obtain ⟨a, b, c⟩ := szF_le (n := n) h
  exact ⟨a, b, fun hh => by have := c hh; omega⟩
theorem szMetaF_ok {m : MMeta} {l : Int} (h : 0 ≤ l) (hm : l ≤ 1048576) : szMetaF m l ≤ l ∧ -1 ≤ szMetaF m l ∧ (0 ≤ szMetaF m l → OkMeta m) := by
  have a1 := szF_ok (n := m.gens.length) h hm
  have := szB_pair (k := fun l => szB (szR m.bits l) fun l => l) h a1 fun h2 => szB_pair h2 (szR_le (xss := m.bits) h2 (by omega)) fun h3 => sz_end h3
  exact ⟨this.1, this.2.1, fun hh => by obtain ⟨b1, b2, _⟩ := this.2.2 hh; exact ⟨b1, b2⟩⟩
theorem szSlotsF_ok {s : MSlots} {l : Int} (h : 0 ≤ l) (hm : l ≤ 1048576) : szSlotsF s l ≤ l ∧ -1 ≤ szSlotsF s l ∧ (0 ≤ szSlotsF s l → OkSlots s) := by
  have a1 := szF_ok (n := s.a.length) h hm
  have := szB_pair (k := fun l => szB (szF s.b.length l) fun l => l) h a1 fun h2 => szB_pair h2 (szF_ok (n := s.b.length) h2 (by omega)) fun h3 => sz_end h3
  exact ⟨this.1, this.2.1, fun hh => by obtain ⟨b1, b2, _⟩ := this.2.2 hh; exact ⟨b1, b2⟩⟩
theorem szNodeF_ok {n : MNode} {l : Int} (h : 0 ≤ l) (hm : l ≤ 1048576) : szNodeF n l ≤ l ∧ -1 ≤ szNodeF n l ∧ (0 ≤ szNodeF n l → OkNode n) := by
  have a1 := szF_ok (n := n.image.length) h hm
  have a2 : ∀ {l : Int}, 0 ≤ l → l ≤ 1048576 → _ := fun {l} h hm => szMetaF_ok (m := n.mt) (l := l) h hm
  have a3 : ∀ {l : Int}, 0 ≤ l → l ≤ 1048576 → _ := fun {l} h hm => szSlotsF_ok (s := n.slots) (l := l) h hm
  have a4 : ∀ {l : Int}, 0 ≤ l → l ≤ 1048576 → _ := fun {l} h hm => szF_ok (n := n.conn.length) (l := l) h hm
  have a5 : ∀ {l : Int}, 0 ≤ l → l ≤ 1048576 → _ := fun {l} h hm => szR_le (xss := n.sync) (l := l) h hm
  have a6 : ∀ {l : Int}, 0 ≤ l → l ≤ 1048576 → _ := fun {l} h hm => szF_ok (n := n.copies.length) (l := l) h hm
  have a7 : ∀ {l : Int}, 0 ≤ l → l ≤ 1048576 → _ := fun {l} h hm => szF_ok (n := n.wait.length) (l := l) h hm
  have key : szNodeF n l ≤ l ∧ -1 ≤ szNodeF n l ∧ (0 ≤ szNodeF n l → n.image.length ≤ 1048576 ∧ OkMeta n.mt ∧ OkSlots n.slots ∧ n.conn.length ≤ 1048576 ∧ OkR n.sync ∧ n.copies.length ≤ 1048576 ∧ n.wait.length ≤ 1048576 ∧ True) := by
    unfold szNodeF
    refine szB_pair h a1 fun h1 => ?_
    have k1 := a2 h1 (by omega)
    refine szB_pair h1 k1 fun h2 => ?_
    have k2 := a3 h2 (by omega)
    refine szB_pair h2 k2 fun h3 => ?_
    have k3 := a4 h3 (by omega)
    refine szB_pair h3 k3 fun h4 => ?_
    have k4 := a5 h4 (by omega)
    refine szB_pair h4 k4 fun h5 => ?_
    have k5 := a6 h5 (by omega)
    refine szB_pair h5 k5 fun h6 => ?_
    exact szB_pair h6 (a7 h6 (by omega)) fun h7 => sz_end h7
  refine ⟨key.1, key.2.1, fun hh => ?_⟩
  obtain ⟨b1, b2, b3, b4, b5, b6, b7, _⟩ := key.2.2 hh
  exact ⟨b1, b2, b3, b4, b5, b6, b7⟩
theorem br_szB {f : Int → Option Rz} {g : Int → Int} {outs : List D} {v : Int} (h : 0 ≤ v → f v = some (.int .i64 (g v), outs)) : br (std.lt v 0) (some (.int .i64 (-1), outs)) (f v) = some (.int .i64 (szB v g), outs) := by
  by_cases hv : v < 0
  · rw [br_lt hv, szB_neg _ hv]
  · rw [br_nlt (by omega), szB_pos _ (by omega), h (by omega)]
theorem c_szMeta (g : Bool) (m : MMeta) (left : Int) (h0 : 0 ≤ left) (h1 : left ≤ 1048576) (ln : LnMeta m) : Cm 41 [.agg (eMeta (some g) m), .int .i64 left] (.int .i64 (szMetaF m left), [.undef, .undef]) := by
  refine Cm.fin k_laws_szMeta fun J => ?_
  rw [e_laws_szMeta]
  have l1 := ln.gens
  have a1 := szF_le (n := m.gens.length) h0
  simp (disch := omega) only [v_szIntS, feed_int, feed_done]
  refine br_szB (f := fun v => cvP 44 _ _) fun p1 => ?_
  simp (disch := first | omega | exact ln.bits | exact ln.bit) only [v_szIntSS, feed_int, feed_done]
  exact br_szB (f := fun v => some (.int .i64 v, [.undef, .undef])) fun _ => rfl
theorem c_szSlots (g : Bool) (s : MSlots) (left : Int) (h0 : 0 ≤ left) (h1 : left ≤ 1048576) (l1 : s.a.length ≤ 140737488355328) (l2 : s.b.length ≤ 140737488355328) : Cm 42 [.agg (eSlots (some g) s), .int .i64 left] (.int .i64 (szSlotsF s left), [.undef, .undef]) := by
  refine Cm.fin k_laws_szSlots fun J => ?_
  rw [e_laws_szSlots]
  have a1 := szF_le (n := s.a.length) h0
  simp (disch := omega) only [v_szByteS, feed_int, feed_done]
  refine br_szB (f := fun v => cvP 75 _ _) fun p1 => ?_
  simp (disch := omega) only [v_szByteS, feed_int, feed_done]
  exact br_szB (f := fun v => some (.int .i64 v, [.undef, .undef])) fun _ => rfl
section
variable (t : Tel Rz)
theorem v_toMeta (g : Bool) (m : MMeta) (h : OkMeta m) : cvP 45 [.agg (eMeta (some g) m)] t = feed t (eMeta none m) := cvP_eq (c_toMeta g m h) (by kernel_rfl) t
theorem v_toSlots (g : Bool) (s : MSlots) (h : OkSlots s) : cvP 46 [.agg (eSlots (some g) s)] t = feed t (eSlots none s) := cvP_eq (c_toSlots g s h) (by kernel_rfl) t
theorem v_eqMeta (g h : Bool) (m : MMeta) (ok : OkMeta m) : cvP 49 [.agg (eMeta (some g) m), .agg (eMeta (some h) m)] t = feed t [.bool true] := cvP_eq (c_eqMeta g h m ok) (by kernel_rfl) t
theorem v_eqSlots (g h : Bool) (s : MSlots) (ok : OkSlots s) : cvP 50 [.agg (eSlots (some g) s), .agg (eSlots (some h) s)] t = feed t [.bool true] := cvP_eq (c_eqSlots g h s ok) (by kernel_rfl) t
theorem v_szMeta (g : Bool) (m : MMeta) (left : Int) (h0 : 0 ≤ left) (h1 : left ≤ 1048576) (ln : LnMeta m) : cvP 41 [.agg (eMeta (some g) m), .int .i64 left] t = feed t [.int .i64 (szMetaF m left)] := cvP_eq (c_szMeta g m left h0 h1 ln) (by kernel_rfl) t
theorem v_szSlots (g : Bool) (s : MSlots) (left : Int) (h0 : 0 ≤ left) (h1 : left ≤ 1048576) (l1 : s.a.length ≤ 140737488355328) (l2 : s.b.length ≤ 140737488355328) : cvP 42 [.agg (eSlots (some g) s), .int .i64 left] t = feed t [.int .i64 (szSlotsF s left)] := cvP_eq (c_szSlots g s left h0 h1 l1 l2) (by kernel_rfl) t
end
theorem c_toNode (g : Bool) (n : MNode) (h : OkNode n) : Cm 16 [.agg (eNode (some g) n)] (.agg (eNode none n), [.undef]) := by
  have h1 := h.image
  have h2 := h.conn
  have h3 := h.copies
  have h4 := h.wait
  refine Cm.fin k_laws_toNode fun J => ?_
  rw [e_laws_toNode]
  simp (disch := first | omega | exact h.mt | exact h.slots | exact h.sync) only [v_toIntS, v_toIntSS, v_toBoolS, v_toMeta, v_toSlots, feed_sl, feed_bool, feed_int, feed_done, s_nlI, s_nlRn, s_nl8, s_nlB, br_t]
theorem c_eqNode (g h : Bool) (n : MNode) (ok : OkNode n) : Cm 18 [.agg (eNode (some g) n), .agg (eNode (some h) n)] (.bool true, [.undef, .undef]) := by
  have h1 := ok.image
  have h2 := ok.conn
  have h3 := ok.copies
  have h4 := ok.wait
  refine Cm.fin k_laws_eqNode fun J => ?_
  rw [e_laws_eqNode]
  simp (disch := first | omega | exact ok.mt | exact ok.slots | exact ok.sync) only [v_eqIntS, v_eqIntSS, v_eqBoolS, v_eqMeta, v_eqSlots, feed_bool, feed_done, decide_true, br_t, br_f, s_beq, beq_self_eq_true, br_eq]
theorem c_szNode (g : Bool) (n : MNode) (left : Int) (h0 : 0 ≤ left) (h1 : left ≤ 1048576) (ln : LnNode n) : Cm 14 [.agg (eNode (some g) n), .int .i64 left] (.int .i64 (szNodeF n left), [.undef, .undef]) := by
  refine Cm.fin k_laws_szNode fun J => ?_
  rw [e_laws_szNode]
  have l1 := ln.image
  have l2 := ln.conn
  have l3 := ln.copies
  have l4 := ln.wait
  have a1 := szF_le (n := n.image.length) h0
  simp (disch := omega) only [v_szIntS, feed_int, feed_done]
  refine br_szB (f := fun v => cvP 41 _ _) fun p1 => ?_
  have a2 := szMetaF_ok (m := n.mt) p1 (by omega)
  simp (disch := first | omega | exact ln.mt) only [v_szMeta, feed_int, feed_done]
  refine br_szB (f := fun v => cvP 42 _ _) fun p2 => ?_
  have a3 := szSlotsF_ok (s := n.slots) p2 (by omega)
  simp (disch := first | omega | exact ln.a | exact ln.b) only [v_szSlots, feed_int, feed_done]
  refine br_szB (f := fun v => cvP 43 _ _) fun p3 => ?_
  have a4 := szF_le (n := n.conn.length) p3
  simp (disch := omega) only [v_szBoolS, feed_int, feed_done]
  refine br_szB (f := fun v => cvP 44 _ _) fun p4 => ?_
  have a5 := szR_le (xss := n.sync) p4 (by omega)
  simp (disch := first | omega | exact ln.sync | exact ln.syn) only [v_szIntSS, feed_int, feed_done]
  refine br_szB (f := fun v => cvP 43 _ _) fun p5 => ?_
  have a6 := szF_le (n := n.copies.length) p5
  simp (disch := omega) only [v_szBoolS, feed_int, feed_done]
  refine br_szB (f := fun v => cvP 35 _ _) fun p6 => ?_
  simp (disch := omega) only [v_szIntS, feed_int, feed_done]
  exact br_szB (f := fun v => some (.int .i64 v, [.undef, .undef])) fun _ => rfl
end Go.Proofs.Ytkejckoefjonjaa
namespace Go.Proofs.Ytkejckoefjonjaa
set_option maxRecDepth 100000
section
variable (pr : Prims) (cv : Cv Rz) (J : Nat → St → Option Rz)
theorem k_spec_l1In : Told cfg Try.prog 36 Try.f36 := ⟨by kernel_rfl, Try.func36, by kernel_rfl⟩
theorem e_spec_l1In (a0 : Int) (a1 : Int) (a2 : Int) : RunJ pr cv J 36 Try.f36 [(.int .i64 a0), (.int .i64 a1), (.int .i64 a2)] =
    (br (pr.le a1 a0) (some ((.bool (pr.le a0 a2)), [.undef, .undef, .undef])) (some ((.bool false), [.undef, .undef, .undef]))) := by kernel_rfl
theorem k_impl_from : Told cfg Try.prog 38 Try.f38 := ⟨by kernel_rfl, Try.func38, by kernel_rfl⟩
theorem e_impl_from (a0 : Int) (a1 : Int) (a2 : Int) : RunJ pr cv J 38 Try.f38 [(.int .i64 a0), (.int .i64 a1), (.int .i64 a2)] =
    (br (pr.le a1 a0) (some ((.bool (pr.le a0 a2)), [.undef, .undef, .undef])) (some ((.bool false), [.undef, .undef, .undef]))) := by kernel_rfl
end
theorem c_impl_from (a b c : Int) : Cm 38 [.int .i64 a, .int .i64 b, .int .i64 c] (.bool (decide (b ≤ a ∧ a ≤ c)), [.undef, .undef, .undef]) := by
  refine Cm.fin k_impl_from fun J => ?_
  rw [e_impl_from]
  by_cases h : b ≤ a
  · rw [br_le h, s_le]
    simp only [h, true_and]
  · simp (disch := omega) only [br_nle, h, false_and, decide_false]
theorem c_l1In (a b c : Int) : Cm 36 [.int .i64 a, .int .i64 b, .int .i64 c] (.bool (decide (b ≤ a ∧ a ≤ c)), [.undef, .undef, .undef]) := by
  refine Cm.fin k_spec_l1In fun J => ?_
  rw [e_spec_l1In]
  by_cases h : b ≤ a
  · rw [br_le h, s_le]
    simp only [h, true_and]
  · simp (disch := omega) only [br_nle, h, false_and, decide_false]
section
variable (t : Tel Rz)
theorem v_impl_from (a b c : Int) : cvP 38 [.int .i64 a, .int .i64 b, .int .i64 c] t = feed t [.bool (decide (b ≤ a ∧ a ≤ c))] := cvP_eq (c_impl_from a b c) (by kernel_rfl) t
theorem v_l1In (a b c : Int) : cvP 36 [.int .i64 a, .int .i64 b, .int .i64 c] t = feed t [.bool (decide (b ≤ a ∧ a ≤ c))] := cvP_eq (c_l1In a b c) (by kernel_rfl) t
end
end Go.Proofs.Ytkejckoefjonjaa
namespace Go.Proofs.Ytkejckoefjonjaa
set_option maxRecDepth 100000
def In64 (xs : List Int) : Prop := ∀ x ∈ xs, in64 x = true
section
variable (t : Tel Rz)
theorem v_toNode (g : Bool) (n : MNode) (h : OkNode n) : cvP 16 [.agg (eNode (some g) n)] t = feed t [enc .node n] := cvP_ty (r := enc .node n) (s := .ty .node) (ss := [.undef]) (c_toNode g n h) (by kernel_rfl) (okS_enc _ _) (by simp only [okSL_cons, okS_undef, okSL_nil, Bool.and_self]) (okR_enc _ _) rfl t
theorem v_eqNode (g h : Bool) (n : MNode) (ok : OkNode n) : cvP 18 [.agg (eNode (some g) n), .agg (eNode (some h) n)] t = feed t [.bool true] := cvP_eq (c_eqNode g h n ok) (by kernel_rfl) t
theorem v_szNode (g : Bool) (n : MNode) (left : Int) (h0 : 0 ≤ left) (h1 : left ≤ 1048576) (ln : LnNode n) : cvP 14 [.agg (eNode (some g) n), .int .i64 left] t = feed t [.int .i64 (szNodeF n left)] := cvP_eq (c_szNode g n left h0 h1 ln) (by kernel_rfl) t
end
end Go.Proofs.Ytkejckoefjonjaa
namespace Go.Proofs.Ytkejckoefjonjaa
set_option maxRecDepth 100000
theorem wf_in64 {n : Int} (h : (Lit.int .i64 n).wf = true) : in64 n = true := by
  simp [Lit.wf, IntKind.min, IntKind.max, IntKind.bits, IntKind.signed] at h
  rw [in64_iff]
  omega
abbrev shI : Sh := .sl 8 (.int .i64)
abbrev sh8 : Sh := .sl 1 (.int .u8)
abbrev shB : Sh := .sl 1 .bool
abbrev shR : Sh := .sl 24 (.sl 8 (.int .i64))
abbrev shMeta : Sh := .ag [shI, shR, .bool, .bool, .bool, .int .i64]
abbrev shSlots : Sh := .ag [sh8, sh8]
abbrev shNode : Sh := .ag [.int .i64, .bool, .bool, shI, shMeta, shSlots, shB, shR, shB, shI]
theorem wt_I {ds : List D} (h : WT shI ds) : ∃ xs, ds = [sI (some false) xs] ∧ xs.length ≤ 17592186044416 ∧ In64 xs := by
  obtain ⟨es, rfl, he, hx⟩ := h
  have key : ∀ es : List (List D), (∀ x ∈ es, WT (.int .i64) x) → ∃ xs, es.flatten = ints xs ∧ xs.length = es.length ∧ In64 xs := by
    intro es
    induction es with
    | nil => intro _; exact ⟨[], rfl, rfl, by simp [In64]⟩
    | cons e es ih =>
      intro h
      obtain ⟨n, rfl, hn⟩ := h e (by simp)
      obtain ⟨xs, h1, h2, h3⟩ := ih (fun x hx => h x (by simp [hx]))
      refine ⟨n :: xs, by rw [List.flatten_cons, h1]; rfl, by simp [h2], fun x hx => ?_⟩
      rcases List.mem_cons.1 hx with rfl | hx
      · exact wf_in64 hn
      · exact h3 x hx
  obtain ⟨xs, h1, h2, h3⟩ := key es hx
  refine ⟨xs, by rw [h1, ← h2]; rfl, ?_, h3⟩
  have : reachBytes = 140737488351232 := rfl
  omega
theorem wt_8 {ds : List D} (h : WT sh8 ds) : ∃ xs, ds = [s8 (some false) xs] ∧ xs.length ≤ 140737488351232 := by
  obtain ⟨es, rfl, he, hx⟩ := h
  have key : ∀ es : List (List D), (∀ x ∈ es, WT (.int .u8) x) → ∃ xs, es.flatten = bytes xs ∧ xs.length = es.length := by
    intro es
    induction es with
    | nil => intro _; exact ⟨[], rfl, rfl⟩
    | cons e es ih =>
      intro h
      obtain ⟨n, rfl, hn⟩ := h e (by simp)
      obtain ⟨xs, h1, h2⟩ := ih (fun x hx => h x (by simp [hx]))
      simp [Lit.wf, IntKind.min, IntKind.max, IntKind.bits, IntKind.signed] at hn
      refine ⟨UInt8.ofNat n.toNat :: xs, ?_, by simp [h2]⟩
      rw [List.flatten_cons, h1]
      have : ((UInt8.ofNat n.toNat).toNat : Int) = n := by simp only [UInt8.toNat_ofNat']; omega
      simp only [bytes, List.map_cons, byteD, this]
      rfl
  obtain ⟨xs, h1, h2⟩ := key es hx
  refine ⟨xs, by rw [h1, ← h2]; rfl, ?_⟩
  have : reachBytes = 140737488351232 := rfl
  omega
theorem wt_B {ds : List D} (h : WT shB ds) : ∃ xs, ds = [sB (some false) xs] ∧ xs.length ≤ 140737488351232 := by
  obtain ⟨es, rfl, he, hx⟩ := h
  have key : ∀ es : List (List D), (∀ x ∈ es, WT .bool x) → ∃ xs, es.flatten = bools xs ∧ xs.length = es.length := by
    intro es
    induction es with
    | nil => intro _; exact ⟨[], rfl, rfl⟩
    | cons e es ih =>
      intro h
      obtain ⟨n, rfl⟩ := h e (by simp)
      obtain ⟨xs, h1, h2⟩ := ih (fun x hx => h x (by simp [hx]))
      exact ⟨n :: xs, by rw [List.flatten_cons, h1]; rfl, by simp [h2]⟩
  obtain ⟨xs, h1, h2⟩ := key es hx
  refine ⟨xs, by rw [h1, ← h2]; rfl, ?_⟩
  have : reachBytes = 140737488351232 := rfl
  omega
theorem wt_R {ds : List D} (h : WT shR ds) : ∃ xs, ds = [sR (some false) xs] ∧ xs.length ≤ 140737488355328 ∧ (∀ x ∈ xs, x.length ≤ 140737488355328) ∧ ∀ x ∈ xs, In64 x := by
  obtain ⟨es, rfl, he, hx⟩ := h
  have key : ∀ es : List (List D), (∀ x ∈ es, WT shI x) → ∃ xs, es.flatten = rows (some false) xs ∧ xs.length = es.length ∧ (∀ x ∈ xs, x.length ≤ 140737488355328) ∧ ∀ x ∈ xs, In64 x := by
    intro es
    induction es with
    | nil => intro _; exact ⟨[], rfl, rfl, by simp, by simp⟩
    | cons e es ih =>
      intro h
      obtain ⟨n, rfl, hn, h4⟩ := wt_I (h e (by simp))
      obtain ⟨xs, h1, h2, h3, h5⟩ := ih (fun x hx => h x (by simp [hx]))
      refine ⟨n :: xs, by rw [List.flatten_cons, h1]; rfl, by simp [h2], fun x hx => ?_, fun x hx => ?_⟩
      · rcases List.mem_cons.1 hx with rfl | hx
        · omega
        · exact h3 x hx
      · rcases List.mem_cons.1 hx with rfl | hx
        · exact h4
        · exact h5 x hx
  obtain ⟨xs, h1, h2, h3, h4⟩ := key es hx
  refine ⟨xs, by rw [h1, ← h2]; rfl, ?_, h3, h4⟩
  have : reachBytes = 140737488351232 := rfl
  omega
structure InNode (n : MNode) : Prop where
  id : in64 n.id = true
  last : in64 n.mt.last = true
  image : In64 n.image
  gens : In64 n.mt.gens
  bits : ∀ x ∈ n.mt.bits, In64 x
  sync : ∀ x ∈ n.sync, In64 x
  wait : In64 n.wait
theorem wt_node {ds : List D} (h : WT shNode ds) : ∃ n : MNode, ds = eNode (some false) n ∧ LnNode n ∧ InNode n := by
  obtain ⟨_, _, rfl, ⟨id, rfl, hid⟩, _, _, rfl, ⟨up, rfl⟩, _, _, rfl, ⟨prime, rfl⟩, _, _, rfl, himg, _, _, rfl, hmt, _, _, rfl, hsl, _, _, rfl, hconn, _, _, rfl, hsync, _, _, rfl, hcop, _, _, rfl, hwait, rfl⟩ := h
  obtain ⟨image, rfl, l1, i1⟩ := wt_I himg
  obtain ⟨_, _, rfl, hg, _, _, rfl, hb, _, _, rfl, ⟨fine, rfl⟩, _, _, rfl, ⟨old, rfl⟩, _, _, rfl, ⟨held, rfl⟩, _, _, rfl, ⟨last, rfl, hlast⟩, rfl⟩ := hmt
  obtain ⟨gens, rfl, l2, i2⟩ := wt_I hg
  obtain ⟨bits, rfl, l3, l3', i3⟩ := wt_R hb
  obtain ⟨_, _, rfl, ha, _, _, rfl, hb', rfl⟩ := hsl
  obtain ⟨a, rfl, l4⟩ := wt_8 ha
  obtain ⟨b, rfl, l5⟩ := wt_8 hb'
  obtain ⟨conn, rfl, l6⟩ := wt_B hconn
  obtain ⟨sync, rfl, l7, l7', i7⟩ := wt_R hsync
  obtain ⟨copies, rfl, l8⟩ := wt_B hcop
  obtain ⟨wait, rfl, l9, i9⟩ := wt_I hwait
  refine ⟨⟨id, up, prime, image, ⟨gens, bits, fine, old, held, last⟩, ⟨a, b⟩, conn, sync, copies, wait⟩, rfl, ⟨?_, ⟨?_, l3, l3'⟩, ?_, ?_, ?_, l7, l7', ?_, ?_⟩, ⟨wf_in64 hid, wf_in64 hlast, i1, i2, i3, i7, i9⟩⟩ <;> simp only <;> omega
theorem exTL_ints (b : Bool) : ∀ xs : List Int, exTL b (ints xs) = ints xs
  | [] => rfl
  | x :: xs => by
    have ih := exTL_ints b xs
    simp only [ints] at ih
    simp only [ints, List.map_cons, exTL, exT, ih]
theorem exTL_bytes (b : Bool) : ∀ xs : List UInt8, exTL b (bytes xs) = bytes xs
  | [] => rfl
  | x :: xs => by
    have ih := exTL_bytes b xs
    simp only [bytes] at ih
    simp only [bytes, List.map_cons, exTL, byteD, exT, ih]
theorem exTL_bools (b : Bool) : ∀ xs : List Bool, exTL b (bools xs) = bools xs
  | [] => rfl
  | x :: xs => by
    have ih := exTL_bools b xs
    simp only [bools] at ih
    simp only [bools, List.map_cons, exTL, exT, ih]
theorem exTL_rows (b : Bool) : ∀ xs : List (List Int), exTL b (rows none xs) = rows (some b) xs
  | [] => rfl
  | x :: xs => by
    have ih := exTL_rows b xs
    simp only [rows] at ih
    simp only [rows, List.map_cons, exTL, exT, ih, exTL_ints]
end Go.Proofs.Ytkejckoefjonjaa
namespace Go.Proofs.Ytkejckoefjonjaa
set_option maxRecDepth 100000
def OkWire (x : MWire) : Prop := x.bytes.length ≤ 1048576
structure OkWorld (w : MWorld) : Prop where
  nodes : w.nodes.length ≤ 1048576
  node : ∀ n ∈ w.nodes, OkNode n
  net : w.net.length ≤ 1048576
  wire : ∀ x ∈ w.net, OkWire x
  log : w.log.length ≤ 1048576
  safe : w.safe.length ≤ 1048576
def LnWire (x : MWire) : Prop := x.bytes.length ≤ 140737488355328
end Go.Proofs.Ytkejckoefjonjaa
namespace Go.Proofs.Ytkejckoefjonjaa
set_option maxRecDepth 100000
structure LnWorld (w : MWorld) : Prop where
  nodes : w.nodes.length ≤ 140737488355328
  node : ∀ n ∈ w.nodes, LnNode n
  net : w.net.length ≤ 140737488355328
  wire : ∀ x ∈ w.net, LnWire x
  log : w.log.length ≤ 140737488355328
  safe : w.safe.length ≤ 140737488355328
structure InWorld (w : MWorld) : Prop where
  node : ∀ n ∈ w.nodes, InNode n
  src : ∀ x ∈ w.net, in64 x.src = true ∧ in64 x.dst = true
  logs : ∀ x ∈ w.log, in64 x.cell = true ∧ in64 x.up = true
  safe : In64 w.safe
  gen : in64 w.gen = true
end Go.Proofs.Ytkejckoefjonjaa
namespace Go.Proofs.Ytkejckoefjonjaa
set_option maxRecDepth 100000
section
variable (pr : Prims) (cv : Cv Rz) (J : Nat → St → Option Rz)
def h_spec_l2Has_0 (g0 : Bool) (n1 : Nat) (c2 : List D) (i3 : Int) (i4 : Int) : St := (St.mk [(0, (.sl (some g0) 1 n1 c2)), (1, (.int .i64 i3)), (5, (.int .i64 i4))] [] [] 0)
theorem k_spec_l2Has : Told cfg Try.prog 118 Try.f118 := ⟨by kernel_rfl, Try.func118, by kernel_rfl⟩
theorem e_spec_l2Has (g0 : Bool) (n0 : Nat) (c0 : List D) (a1 : Int) : RunJ pr cv J 118 Try.f118 [(.sl (some g0) 1 n0 c0), (.int .i64 a1)] =
    (J 0 (h_spec_l2Has_0 g0 n0 c0 a1 0)) := by kernel_rfl
theorem eh_spec_l2Has_0 (g0 : Bool) (n1 : Nat) (c2 : List D) (i3 : Int) (i4 : Int) : HeadJ pr cv J 118 Try.f118 [.undef, .undef] 0 (h_spec_l2Has_0 g0 n1 c2 i3 i4) =
    (br (pr.lt i4 (pr.ofN n1)) (br (pr.inR i4 n1) (br (br (pr.isI .i64 c2 (pr.idx 0 i4 1)) true false) (br (pr.eq (pr.getI c2 (pr.idx 0 i4 1)) i3) (some ((.bool true), [.undef, .undef])) (J 0 (h_spec_l2Has_0 g0 n1 c2 i3 (pr.ar .add .i64 i4 1)))) none) none) (some ((.bool false), [.undef, .undef]))) := by kernel_rfl
def h_spec_l5Same_0 (g0 : Bool) (n1 : Nat) (c2 : List D) (g3 : Bool) (n4 : Nat) (c5 : List D) (i6 : Int) : St := (St.mk [(0, (.sl (some g0) 1 n1 c2)), (1, (.sl (some g3) 1 n4 c5)), (5, (.int .i64 i6))] [] [] 0)
theorem k_spec_l5Same : Told cfg Try.prog 106 Try.f106 := ⟨by kernel_rfl, Try.func106, by kernel_rfl⟩
theorem e_spec_l5Same (g0 : Bool) (n0 : Nat) (c0 : List D) (g1 : Bool) (n1 : Nat) (c1 : List D) : RunJ pr cv J 106 Try.f106 [(.sl (some g0) 1 n0 c0), (.sl (some g1) 1 n1 c1)] =
    (J 0 (h_spec_l5Same_0 g0 n0 c0 g1 n1 c1 0)) := by kernel_rfl
theorem eh_spec_l5Same_0 (g0 : Bool) (n1 : Nat) (c2 : List D) (g3 : Bool) (n4 : Nat) (c5 : List D) (i6 : Int) : HeadJ pr cv J 106 Try.f106 [.undef, .undef] 0 (h_spec_l5Same_0 g0 n1 c2 g3 n4 c5 i6) =
    let y1 : Option (D × List D) := (some ((.bool (pr.eq (pr.ofN n1) (pr.ofN n4))), [.undef, .undef]))
    (br (pr.lt i6 (pr.ofN n1)) (br (pr.lt i6 (pr.ofN n4)) (br (pr.inR i6 n1) (br (br (pr.isI .i64 c2 (pr.idx 0 i6 1)) true false) (br (pr.inR i6 n4) (br (br (pr.isI .i64 c5 (pr.idx 0 i6 1)) true false) (br (br (pr.eq (pr.getI c2 (pr.idx 0 i6 1)) (pr.getI c5 (pr.idx 0 i6 1))) false true) (some ((.bool false), [.undef, .undef])) (J 0 (h_spec_l5Same_0 g0 n1 c2 g3 n4 c5 (pr.ar .add .i64 i6 1)))) none) none) none) none) y1) y1) := by kernel_rfl
theorem k_spec_l1Bit : Told cfg Try.prog 138 Try.f138 := ⟨by kernel_rfl, Try.func138, by kernel_rfl⟩
theorem e_spec_l1Bit (a0 : Bool) : RunJ pr cv J 138 Try.f138 [(.bool a0)] =
    (br a0 (some ((.int .i64 1), [.undef])) (some ((.int .i64 0), [.undef]))) := by kernel_rfl
theorem k_impl_isNode : Told cfg Try.prog 92 Try.f92 := ⟨by kernel_rfl, Try.func92, by kernel_rfl⟩
theorem e_impl_isNode (a0 : Int) : RunJ pr cv J 92 Try.f92 [(.int .i64 a0)] =
    (cv 38 [(.int .i64 a0), (.int .i64 0), (.int .i64 2)] (.bool (fun vb0 => (.done (some ((.bool vb0), [.undef])))))) := by kernel_rfl
theorem k_impl_isCell : Told cfg Try.prog 124 Try.f124 := ⟨by kernel_rfl, Try.func124, by kernel_rfl⟩
theorem e_impl_isCell (a0 : Int) : RunJ pr cv J 124 Try.f124 [(.int .i64 a0)] =
    (cv 38 [(.int .i64 a0), (.int .i64 0), (.int .i64 7)] (.bool (fun vb0 => (.done (some ((.bool vb0), [.undef])))))) := by kernel_rfl
theorem k_impl_isWrite : Told cfg Try.prog 98 Try.f98 := ⟨by kernel_rfl, Try.func98, by kernel_rfl⟩
theorem e_impl_isWrite (a0 : Int) : RunJ pr cv J 98 Try.f98 [(.int .i64 a0)] =
    (cv 38 [(.int .i64 a0), (.int .i64 1), (.int .i64 200)] (.bool (fun vb0 => (.done (some ((.bool vb0), [.undef])))))) := by kernel_rfl
theorem k_impl_flag : Told cfg Try.prog 146 Try.f146 := ⟨by kernel_rfl, Try.func146, by kernel_rfl⟩
theorem e_impl_flag (a0 : Bool) (a1 : Int) : RunJ pr cv J 146 Try.f146 [(.bool a0), (.int .i64 a1)] =
    (br a0 (some ((.int .i64 a1), [.undef, .undef])) (some ((.int .i64 0), [.undef, .undef]))) := by kernel_rfl
theorem k_impl_Mate : Told cfg Try.prog 73 Try.f73 := ⟨by kernel_rfl, Try.func73, by kernel_rfl⟩
theorem e_impl_Mate (a0 : Int) : RunJ pr cv J 73 Try.f73 [(.int .i64 a0)] =
    let y1 : Option (D × List D) := (some ((.int .i64 (pr.ar .sub .i64 1 a0)), [.undef]))
    (br (pr.eq a0 0) y1 (br (pr.eq a0 1) y1 (some ((.int .i64 (-1)), [.undef])))) := by kernel_rfl
theorem k_spec_Mate : Told cfg Try.prog 71 Try.f71 := ⟨by kernel_rfl, Try.func71, by kernel_rfl⟩
theorem e_spec_Mate (a0 : Int) : RunJ pr cv J 71 Try.f71 [(.int .i64 a0)] =
    (cv 36 [(.int .i64 a0), (.int .i64 0), (.int .i64 1)] (.bool (fun vb0 => (.done (br vb0 (some ((.int .i64 (pr.ar .sub .i64 1 a0)), [.undef])) (some ((.int .i64 (-1)), [.undef]))))))) := by kernel_rfl
def h_spec_MarksOk_0 (g0 : Bool) (n1 : Nat) (c2 : List D) (i3 : Int) : St := (St.mk [(0, (.sl (some g0) 1 n1 c2)), (3, (.int .i64 i3))] [] [] 0)
theorem k_spec_MarksOk : Told cfg Try.prog 102 Try.f102 := ⟨by kernel_rfl, Try.func102, by kernel_rfl⟩
theorem e_spec_MarksOk (g0 : Bool) (n0 : Nat) (c0 : List D) : RunJ pr cv J 102 Try.f102 [(.sl (some g0) 1 n0 c0)] =
    (J 0 (h_spec_MarksOk_0 g0 n0 c0 0)) := by kernel_rfl
theorem eh_spec_MarksOk_0 (g0 : Bool) (n1 : Nat) (c2 : List D) (i3 : Int) : HeadJ pr cv J 102 Try.f102 [.undef] 0 (h_spec_MarksOk_0 g0 n1 c2 i3) =
    let y1 : Option (D × List D) := (some ((.bool false), [.undef]))
    let y2 : Option Rz := (J 0 (h_spec_MarksOk_0 g0 n1 c2 (pr.ar .add .i64 i3 1)))
    (br (pr.lt i3 (pr.ofN n1)) (br (pr.inR i3 n1) (br (br (pr.isI .i64 c2 (pr.idx 0 i3 1)) true false) (cv 36 [(.int .i64 (pr.getI c2 (pr.idx 0 i3 1))), (.int .i64 0), (.int .i64 7)] (.bool (fun vb0 => (.done (br (br vb0 false true) y1 (br (pr.lt 0 i3) (br (pr.inR (pr.ar .sub .i64 i3 1) n1) (br (br (pr.isI .i64 c2 (pr.idx 0 (pr.ar .sub .i64 i3 1) 1)) true false) (br (pr.inR i3 n1) (br (br (pr.isI .i64 c2 (pr.idx 0 i3 1)) true false) (br (pr.le (pr.getI c2 (pr.idx 0 i3 1)) (pr.getI c2 (pr.idx 0 (pr.ar .sub .i64 i3 1) 1))) y1 y2) none) none) none) none) y2)))))) none) none) (some ((.bool true), [.undef]))) := by kernel_rfl
def h_impl_MarksOk_0 (g0 : Bool) (n1 : Nat) (c2 : List D) (i3 : Int) (i4 : Int) : St := (St.mk [(0, (.sl (some g0) 1 n1 c2)), (5, (.sl (some g0) 1 n1 c2)), (6, (.int .i64 i3)), (7, (.int .i64 i4))] [] [] 0)
theorem k_impl_MarksOk : Told cfg Try.prog 112 Try.f112 := ⟨by kernel_rfl, Try.func112, by kernel_rfl⟩
theorem e_impl_MarksOk (g0 : Bool) (n0 : Nat) (c0 : List D) : RunJ pr cv J 112 Try.f112 [(.sl (some g0) 1 n0 c0)] =
    (J 0 (h_impl_MarksOk_0 g0 n0 c0 (pr.ofN n0) 0)) := by kernel_rfl
theorem eh_impl_MarksOk_0 (g0 : Bool) (n1 : Nat) (c2 : List D) (i3 : Int) (i4 : Int) : HeadJ pr cv J 112 Try.f112 [.undef] 0 (h_impl_MarksOk_0 g0 n1 c2 i3 i4) =
    let y1 : Option (D × List D) := (some ((.bool false), [.undef]))
    let y2 : Option Rz := (J 0 (h_impl_MarksOk_0 g0 n1 c2 i3 (pr.ar .add .i64 i4 1)))
    (br (pr.lt i4 i3) (br (pr.inR i4 n1) (br (br (pr.isI .i64 c2 (pr.idx 0 i4 1)) true false) (cv 124 [(.int .i64 (pr.getI c2 (pr.idx 0 i4 1)))] (.bool (fun vb0 => (.done (br (br vb0 false true) y1 (br (pr.lt 0 i4) (br (pr.inR (pr.ar .sub .i64 i4 1) n1) (br (br (pr.isI .i64 c2 (pr.idx 0 (pr.ar .sub .i64 i4 1) 1)) true false) (br (pr.le (pr.getI c2 (pr.idx 0 i4 1)) (pr.getI c2 (pr.idx 0 (pr.ar .sub .i64 i4 1) 1))) y1 y2) none) none) y2)))))) none) none) (some ((.bool true), [.undef]))) := by kernel_rfl
def h_spec_GensOk_0 (g0 : Bool) (n1 : Nat) (c2 : List D) (i3 : Int) : St := (St.mk [(0, (.sl (some g0) 1 n1 c2)), (3, (.int .i64 i3))] [] [] 0)
theorem k_spec_GensOk : Told cfg Try.prog 103 Try.f103 := ⟨by kernel_rfl, Try.func103, by kernel_rfl⟩
theorem e_spec_GensOk (g0 : Bool) (n0 : Nat) (c0 : List D) : RunJ pr cv J 103 Try.f103 [(.sl (some g0) 1 n0 c0)] =
    (J 0 (h_spec_GensOk_0 g0 n0 c0 0)) := by kernel_rfl
theorem eh_spec_GensOk_0 (g0 : Bool) (n1 : Nat) (c2 : List D) (i3 : Int) : HeadJ pr cv J 103 Try.f103 [.undef] 0 (h_spec_GensOk_0 g0 n1 c2 i3) =
    let y1 : Option (D × List D) := (some ((.bool false), [.undef]))
    (br (pr.lt i3 (pr.ofN n1)) (br (pr.inR i3 n1) (br (br (pr.isI .i64 c2 (pr.idx 0 i3 1)) true false) (cv 36 [(.int .i64 (pr.getI c2 (pr.idx 0 i3 1))), (.int .i64 1), (.int .i64 100000)] (.bool (fun vb0 => (.done (br (br vb0 false true) y1 (br (pr.rng 0 i3 n1) (br (pr.inR i3 n1) (br (br (pr.isI .i64 c2 (pr.idx 0 i3 1)) true false) (cv 118 [(.sl (some g0) 1 (pr.nsub i3 0) (List.take (Nat.mul (pr.nsub i3 0) 1) (List.drop (Nat.mul (pr.toN 0) 1) c2))), (.int .i64 (pr.getI c2 (pr.idx 0 i3 1)))] (.bool (fun vb1 => (.done (br vb1 y1 (J 0 (h_spec_GensOk_0 g0 n1 c2 (pr.ar .add .i64 i3 1)))))))) none) none) none)))))) none) none) (some ((.bool (pr.le (pr.ofN n1) 12)), [.undef]))) := by kernel_rfl
def h_impl_GensOk_0 (g0 : Bool) (n1 : Nat) (c2 : List D) (i3 : Int) (i4 : Int) : St := (St.mk [(0, (.sl (some g0) 1 n1 c2)), (5, (.sl (some g0) 1 n1 c2)), (6, (.int .i64 i3)), (7, (.int .i64 i4))] [] [] 0)
theorem k_impl_GensOk : Told cfg Try.prog 109 Try.f109 := ⟨by kernel_rfl, Try.func109, by kernel_rfl⟩
theorem e_impl_GensOk (g0 : Bool) (n0 : Nat) (c0 : List D) : RunJ pr cv J 109 Try.f109 [(.sl (some g0) 1 n0 c0)] =
    (J 0 (h_impl_GensOk_0 g0 n0 c0 (pr.ofN n0) 0)) := by kernel_rfl
theorem eh_impl_GensOk_0 (g0 : Bool) (n1 : Nat) (c2 : List D) (i3 : Int) (i4 : Int) : HeadJ pr cv J 109 Try.f109 [.undef] 0 (h_impl_GensOk_0 g0 n1 c2 i3 i4) =
    let y1 : Option (D × List D) := (some ((.bool false), [.undef]))
    (br (pr.lt i4 i3) (br (pr.inR i4 n1) (br (br (pr.isI .i64 c2 (pr.idx 0 i4 1)) true false) (cv 38 [(.int .i64 (pr.getI c2 (pr.idx 0 i4 1))), (.int .i64 1), (.int .i64 100000)] (.bool (fun vb0 => (.done (br (br vb0 false true) y1 (br (pr.rng 0 i4 n1) (cv 122 [(.sl (some g0) 1 (pr.nsub i4 0) (List.take (Nat.mul (pr.nsub i4 0) 1) (List.drop (Nat.mul (pr.toN 0) 1) c2))), (.int .i64 (pr.getI c2 (pr.idx 0 i4 1)))] (.bool (fun vb1 => (.done (br vb1 y1 (J 0 (h_impl_GensOk_0 g0 n1 c2 i3 (pr.ar .add .i64 i4 1)))))))) none)))))) none) none) (some ((.bool (pr.le (pr.ofN n1) 12)), [.undef]))) := by kernel_rfl
def h_spec_ImageOk_0 (g0 : Bool) (n1 : Nat) (c2 : List D) (i3 : Int) : St := (St.mk [(0, (.sl (some g0) 1 n1 c2)), (3, (.int .i64 i3))] [] [] 0)
theorem k_spec_ImageOk : Told cfg Try.prog 87 Try.f87 := ⟨by kernel_rfl, Try.func87, by kernel_rfl⟩
theorem e_spec_ImageOk (g0 : Bool) (n0 : Nat) (c0 : List D) : RunJ pr cv J 87 Try.f87 [(.sl (some g0) 1 n0 c0)] =
    (J 0 (h_spec_ImageOk_0 g0 n0 c0 0)) := by kernel_rfl
theorem eh_spec_ImageOk_0 (g0 : Bool) (n1 : Nat) (c2 : List D) (i3 : Int) : HeadJ pr cv J 87 Try.f87 [.undef] 0 (h_spec_ImageOk_0 g0 n1 c2 i3) =
    (br (pr.lt i3 (pr.ofN n1)) (br (pr.inR i3 n1) (br (br (pr.isI .i64 c2 (pr.idx 0 i3 1)) true false) (cv 36 [(.int .i64 (pr.getI c2 (pr.idx 0 i3 1))), (.int .i64 0), (.int .i64 200)] (.bool (fun vb0 => (.done (br (br vb0 false true) (some ((.bool false), [.undef])) (J 0 (h_spec_ImageOk_0 g0 n1 c2 (pr.ar .add .i64 i3 1)))))))) none) none) (some ((.bool (pr.eq (pr.ofN n1) 8)), [.undef]))) := by kernel_rfl
theorem k_slices_Containsint_int : Told cfg Try.prog 122 Try.f122 := ⟨by kernel_rfl, Try.func122, by kernel_rfl⟩
theorem e_slices_Containsint_int (g0 : Bool) (n0 : Nat) (c0 : List D) (a1 : Int) : RunJ pr cv J 122 Try.f122 [(.sl (some g0) 1 n0 c0), (.int .i64 a1)] =
    (cv 132 [(.sl (some g0) 1 n0 c0), (.int .i64 a1)] (.int (fun vx0 => (.done (some ((.bool (pr.le 0 vx0)), [.undef, .undef])))))) := by kernel_rfl
def h_slices_Indexint_int_0 (g0 : Bool) (n1 : Nat) (c2 : List D) (i3 : Int) (i4 : Int) (i5 : Int) : St := (St.mk [(0, (.sl (some g0) 1 n1 c2)), (1, (.int .i64 i3)), (7, (.int .i64 i4)), (8, (.int .i64 i5))] [] [] 0)
theorem k_slices_Indexint_int : Told cfg Try.prog 132 Try.f132 := ⟨by kernel_rfl, Try.func132, by kernel_rfl⟩
theorem e_slices_Indexint_int (g0 : Bool) (n0 : Nat) (c0 : List D) (a1 : Int) : RunJ pr cv J 132 Try.f132 [(.sl (some g0) 1 n0 c0), (.int .i64 a1)] =
    (J 0 (h_slices_Indexint_int_0 g0 n0 c0 a1 (pr.ofN n0) 0)) := by kernel_rfl
theorem eh_slices_Indexint_int_0 (g0 : Bool) (n1 : Nat) (c2 : List D) (i3 : Int) (i4 : Int) (i5 : Int) : HeadJ pr cv J 132 Try.f132 [.undef, .undef] 0 (h_slices_Indexint_int_0 g0 n1 c2 i3 i4 i5) =
    (br (pr.lt i5 i4) (br (pr.inR i5 n1) (br (br (pr.isI .i64 c2 (pr.idx 0 i5 1)) true false) (br (pr.eq i3 (pr.getI c2 (pr.idx 0 i5 1))) (some ((.int .i64 i5), [.undef, .undef])) (J 0 (h_slices_Indexint_int_0 g0 n1 c2 i3 i4 (pr.ar .add .i64 i5 1)))) none) none) (some ((.int .i64 (-1)), [.undef, .undef]))) := by kernel_rfl
def h_slices_Equalint_int_0 (g0 : Bool) (n1 : Nat) (c2 : List D) (g3 : Bool) (n4 : Nat) (c5 : List D) (i6 : Int) (i7 : Int) : St := (St.mk [(0, (.sl (some g0) 1 n1 c2)), (1, (.sl (some g3) 1 n4 c5)), (12, (.int .i64 i6)), (13, (.int .i64 i7))] [] [] 0)
theorem k_slices_Equalint_int : Told cfg Try.prog 114 Try.f114 := ⟨by kernel_rfl, Try.func114, by kernel_rfl⟩
theorem e_slices_Equalint_int (g0 : Bool) (n0 : Nat) (c0 : List D) (g1 : Bool) (n1 : Nat) (c1 : List D) : RunJ pr cv J 114 Try.f114 [(.sl (some g0) 1 n0 c0), (.sl (some g1) 1 n1 c1)] =
    (br (br (pr.eq (pr.ofN n0) (pr.ofN n1)) false true) (some ((.bool false), [.undef, .undef])) (J 0 (h_slices_Equalint_int_0 g0 n0 c0 g1 n1 c1 (pr.ofN n0) 0))) := by kernel_rfl
theorem eh_slices_Equalint_int_0 (g0 : Bool) (n1 : Nat) (c2 : List D) (g3 : Bool) (n4 : Nat) (c5 : List D) (i6 : Int) (i7 : Int) : HeadJ pr cv J 114 Try.f114 [.undef, .undef] 0 (h_slices_Equalint_int_0 g0 n1 c2 g3 n4 c5 i6 i7) =
    (br (pr.lt i7 i6) (br (pr.inR i7 n1) (br (br (pr.isI .i64 c2 (pr.idx 0 i7 1)) true false) (br (pr.inR i7 n4) (br (br (pr.isI .i64 c5 (pr.idx 0 i7 1)) true false) (br (br (pr.eq (pr.getI c2 (pr.idx 0 i7 1)) (pr.getI c5 (pr.idx 0 i7 1))) false true) (some ((.bool false), [.undef, .undef])) (J 0 (h_slices_Equalint_int_0 g0 n1 c2 g3 n4 c5 i6 (pr.ar .add .i64 i7 1)))) none) none) none) none) (some ((.bool true), [.undef, .undef]))) := by kernel_rfl
theorem k_bytes_Equal : Told cfg Try.prog 134 Try.f134 := ⟨by kernel_rfl, Try.func134, by kernel_rfl⟩
theorem e_bytes_Equal (g0 : Bool) (n0 : Nat) (c0 : List D) (g1 : Bool) (n1 : Nat) (c1 : List D) : RunJ pr cv J 134 Try.f134 [(.sl (some g0) 1 n0 c0), (.sl (some g1) 1 n1 c1)] =
    (br (pr.bsok c0) (br (pr.bsok c1) (some ((.bool (pr.seq (pr.bss c0) (pr.bss c1))), [.undef, .undef])) none) none) := by kernel_rfl
theorem k_impl_ImageOk_1 : Told cfg Try.prog 108 Try.f108 := ⟨by kernel_rfl, Try.func108, by kernel_rfl⟩
theorem e_impl_ImageOk_1 (a0 : Int) : RunJ pr cv J 108 Try.f108 [(.int .i64 a0)] =
    (cv 38 [(.int .i64 a0), (.int .i64 0), (.int .i64 200)] (.bool (fun vb0 => (.done (some ((.bool (br vb0 false true)), [.undef])))))) := by kernel_rfl
theorem k_impl_marksAll_1 : Told cfg Try.prog 111 Try.f111 := ⟨by kernel_rfl, Try.func111, by kernel_rfl⟩
theorem e_impl_marksAll_1 (g0 : Bool) (n0 : Nat) (c0 : List D) : RunJ pr cv J 111 Try.f111 [(.sl (some g0) 1 n0 c0)] =
    (cv 112 [(.sl (some g0) 1 n0 c0)] (.bool (fun vb0 => (.done (some ((.bool (br vb0 false true)), [.undef])))))) := by kernel_rfl
theorem k_impl_marksAll : Told cfg Try.prog 95 Try.f95 := ⟨by kernel_rfl, Try.func95, by kernel_rfl⟩
theorem e_impl_marksAll (g0 : Bool) (n0 : Nat) (c0 : List D) : RunJ pr cv J 95 Try.f95 [(.sl (some g0) 1 n0 c0)] =
    (br (pr.eq (pr.ofN n0) 3) (cv 110 [(.sl (some g0) 1 n0 c0), (.fn 111 [])] (.bool (fun vb0 => (.done (some ((.bool (br vb0 false true)), [.undef])))))) (some ((.bool false), [.undef]))) := by kernel_rfl
theorem k_impl_ImageOk : Told cfg Try.prog 93 Try.f93 := ⟨by kernel_rfl, Try.func93, by kernel_rfl⟩
theorem e_impl_ImageOk (g0 : Bool) (n0 : Nat) (c0 : List D) : RunJ pr cv J 93 Try.f93 [(.sl (some g0) 1 n0 c0)] =
    (br (pr.eq (pr.ofN n0) 8) (cv 107 [(.sl (some g0) 1 n0 c0), (.fn 108 [])] (.bool (fun vb0 => (.done (some ((.bool (br vb0 false true)), [.undef])))))) (some ((.bool false), [.undef]))) := by kernel_rfl
theorem k_slices_ContainsFuncint_intImage : Told cfg Try.prog 107 Try.f107 := ⟨by kernel_rfl, Try.func107, by kernel_rfl⟩
theorem e_slices_ContainsFuncint_intImage (g0 : Bool) (n0 : Nat) (c0 : List D) : RunJ pr cv J 107 Try.f107 [(.sl (some g0) 1 n0 c0), (.fn 108 [])] =
    (cv 121 [(.sl (some g0) 1 n0 c0), (.fn 108 [])] (.int (fun vx0 => (.done (some ((.bool (pr.le 0 vx0)), [.undef, .undef])))))) := by kernel_rfl
def h_slices_IndexFuncint_intImage_0 (g0 : Bool) (n1 : Nat) (c2 : List D) (i3 : Int) (i4 : Int) : St := (St.mk [(0, (.sl (some g0) 1 n1 c2)), (1, (.fn 108 [])), (7, (.int .i64 i3)), (8, (.int .i64 i4))] [] [] 0)
theorem k_slices_IndexFuncint_intImage : Told cfg Try.prog 121 Try.f121 := ⟨by kernel_rfl, Try.func121, by kernel_rfl⟩
theorem e_slices_IndexFuncint_intImage (g0 : Bool) (n0 : Nat) (c0 : List D) : RunJ pr cv J 121 Try.f121 [(.sl (some g0) 1 n0 c0), (.fn 108 [])] =
    (J 0 (h_slices_IndexFuncint_intImage_0 g0 n0 c0 (pr.ofN n0) 0)) := by kernel_rfl
theorem eh_slices_IndexFuncint_intImage_0 (g0 : Bool) (n1 : Nat) (c2 : List D) (i3 : Int) (i4 : Int) : HeadJ pr cv J 121 Try.f121 [.undef, .undef] 0 (h_slices_IndexFuncint_intImage_0 g0 n1 c2 i3 i4) =
    (br (pr.lt i4 i3) (br (pr.inR i4 n1) (br (br (pr.isI .i64 c2 (pr.idx 0 i4 1)) true false) (cv 108 [(.int .i64 (pr.getI c2 (pr.idx 0 i4 1)))] (.bool (fun vb0 => (.done (br vb0 (some ((.int .i64 i4), [.undef, .undef])) (J 0 (h_slices_IndexFuncint_intImage_0 g0 n1 c2 i3 (pr.ar .add .i64 i4 1)))))))) none) none) (some ((.int .i64 (-1)), [.undef, .undef]))) := by kernel_rfl
theorem k_slices_ContainsFuncint_intMarks : Told cfg Try.prog 110 Try.f110 := ⟨by kernel_rfl, Try.func110, by kernel_rfl⟩
theorem e_slices_ContainsFuncint_intMarks (g0 : Bool) (n0 : Nat) (c0 : List D) : RunJ pr cv J 110 Try.f110 [(.sl (some g0) 1 n0 c0), (.fn 111 [])] =
    (cv 123 [(.sl (some g0) 1 n0 c0), (.fn 111 [])] (.int (fun vx0 => (.done (some ((.bool (pr.le 0 vx0)), [.undef, .undef])))))) := by kernel_rfl
def h_slices_IndexFuncint_intMarks_0 (g0 : Bool) (n1 : Nat) (c2 : List D) (i3 : Int) (i4 : Int) : St := (St.mk [(0, (.sl (some g0) 1 n1 c2)), (1, (.fn 111 [])), (7, (.int .i64 i3)), (8, (.int .i64 i4))] [] [] 0)
theorem k_slices_IndexFuncint_intMarks : Told cfg Try.prog 123 Try.f123 := ⟨by kernel_rfl, Try.func123, by kernel_rfl⟩
theorem e_slices_IndexFuncint_intMarks (g0 : Bool) (n0 : Nat) (c0 : List D) : RunJ pr cv J 123 Try.f123 [(.sl (some g0) 1 n0 c0), (.fn 111 [])] =
    (J 0 (h_slices_IndexFuncint_intMarks_0 g0 n0 c0 (pr.ofN n0) 0)) := by kernel_rfl
theorem eh_slices_IndexFuncint_intMarks_0 (g0 : Bool) (n1 : Nat) (c2 : List D) (i3 : Int) (i4 : Int) : HeadJ pr cv J 123 Try.f123 [.undef, .undef] 0 (h_slices_IndexFuncint_intMarks_0 g0 n1 c2 i3 i4) =
    (br (pr.lt i4 i3) (br (pr.inR i4 n1) (br (br (pr.isL 1 c2 (pr.idx 0 i4 1)) true false) (cv 111 [(.sl (some (pr.getG c2 (pr.idx 0 i4 1))) 1 (pr.getN c2 (pr.idx 0 i4 1)) (pr.getC c2 (pr.idx 0 i4 1)))] (.bool (fun vb0 => (.done (br vb0 (some ((.int .i64 i4), [.undef, .undef])) (J 0 (h_slices_IndexFuncint_intMarks_0 g0 n1 c2 i3 (pr.ar .add .i64 i4 1)))))))) none) none) (some ((.int .i64 (-1)), [.undef, .undef]))) := by kernel_rfl
end
theorem WP.scan {f : FuncId} {fn : Func} {sk : List D} {j : Nat} {H : Nat → St} {n : Nat} (p : Nat → Bool) {bad good : Rz} (hgo : ∀ i r, i < n → p i = true → WP f fn sk j (H (i + 1)) r → WP f fn sk j (H i) r) (hbad : ∀ i, i < n → p i = false → WP f fn sk j (H i) bad) (hend : WP f fn sk j (H n) good) : WP f fn sk j (H 0) (if (List.range n).all p then good else bad) := by
  have key : ∀ k i, i + k = n → WP f fn sk j (H i) (if ((List.range n).drop i).all p then good else bad) := by
    intro k
    induction k with
    | zero =>
      intro i hi
      obtain rfl : i = n := by omega
      rw [List.drop_of_length_le (by simp)]
      exact hend
    | succ k ih =>
      intro i hi
      have hlt : i < (List.range n).length := by simp; omega
      have e : ((List.range n).drop i).all p = (p i && ((List.range n).drop (i + 1)).all p) := by
        rw [← List.getElem_cons_drop hlt]
        simp
      rw [e]
      cases hp : p i with
      | true =>
        rw [Bool.true_and]
        exact hgo i _ (by omega) hp (ih (i + 1) (by omega))
      | false =>
        rw [Bool.false_and]
        exact hbad i (by omega) hp
  exact key n 0 (by omega)
theorem getD_get' {α : Type} {l : List α} {i : Nat} (h : i < l.length) {d : α} : l.getD i d = l[i] := by simp [List.getD_eq_getElem?_getD, h]
theorem all_getD {α : Type} (p : α → Bool) (d : α) (xs : List α) : ((List.range xs.length).all fun i => p (xs.getD i d)) = xs.all p := by
  rw [Bool.eq_iff_iff, List.all_eq_true, List.all_eq_true]
  constructor
  · intro h x hx
    obtain ⟨i, hi, rfl⟩ := List.mem_iff_getElem.1 hx
    have := h i (List.mem_range.2 hi)
    rwa [getD_get' hi] at this
  · intro h i hi
    rw [getD_get' (List.mem_range.1 hi)]
    exact h _ (List.getElem_mem _)
def Rz.bool (b : Bool) (k : Nat) : Rz := (.bool b, List.replicate k .undef)
theorem c_l2Has (g : Bool) (xs : List Int) (a : Int) (hb : xs.length < 4611686018427387904) : Cm 118 [.sl (some g) 1 xs.length (ints xs), .int .i64 a] (.bool (decide (a ∈ xs)), [.undef, .undef]) := by
  have e0 : (Rz.bool (decide (a ∈ xs)) 2) = (if (List.range xs.length).all fun i => !(xs.getD i 0 == a) then Rz.bool false 2 else Rz.bool true 2) := by
    rw [all_getD (fun x => !(x == a))]
    by_cases h : a ∈ xs
    · have : (xs.all fun x => !(x == a)) = false := by
        rw [List.all_eq_false]
        exact ⟨a, h, by simp⟩
      simp [this, h]
    · have : (xs.all fun x => !(x == a)) = true := by
        rw [List.all_eq_true]
        intro x hx
        have : x ≠ a := fun e => h (e ▸ hx)
        simp [this]
      simp [this, h]
  show Cm _ _ (Rz.bool (decide (a ∈ xs)) 2)
  rw [e0]
  refine Cm.go k_spec_l2Has [.undef, .undef] 0 (h_spec_l2Has_0 g xs.length (ints xs) a (0 : Nat)) ?_ fun J hJ => ?_
  · refine WP.scan (H := fun i : Nat => h_spec_l2Has_0 g xs.length (ints xs) a (i : Nat)) _ (fun i r hi hp ih => WP.go _ ih fun J hJ => ?_) (fun i hi hp => WP.fin fun J => ?_) (WP.fin fun J => ?_)
    · rw [eh_spec_l2Has_0]
      rw [getD_get' hi] at hp
      have hne : xs[i] ≠ a := by simpa using hp
      simp (disch := first | omega | assumption) only [br_t, br_f, br_tf, s_ofN, br_lt, br_inR, idx1, br_isI, s_getI, br_neq, s_inc]
      exact hJ
    · rw [eh_spec_l2Has_0]
      rw [getD_get' hi] at hp
      have he : xs[i] = a := by simpa using hp
      simp (disch := first | omega | assumption) only [br_t, br_f, br_tf, s_ofN, br_lt, br_inR, idx1, br_isI, s_getI, br_eq]
      rfl
    · rw [eh_spec_l2Has_0]
      simp (disch := omega) only [s_ofN, br_nlt]
      rfl
  · rw [e_spec_l2Has]
    exact hJ
def idxI (xs : List Int) (a : Int) : Int := if a ∈ xs then (xs.idxOf a : Int) else -1
theorem c_Index (g : Bool) (xs : List Int) (a : Int) (hb : xs.length < 4611686018427387904) : Cm 132 [.sl (some g) 1 xs.length (ints xs), .int .i64 a] (.int .i64 (idxI xs a), [.undef, .undef]) := by
  refine Cm.go k_slices_Indexint_int [.undef, .undef] 0 (h_slices_Indexint_int_0 g xs.length (ints xs) a xs.length (0 : Nat)) ?_ fun J hJ => ?_
  · refine WP.loop (H := fun i : Nat => h_slices_Indexint_int_0 g xs.length (ints xs) a xs.length (i : Nat)) (n := xs.length) (fun i => a ∉ xs.take i) (fun i hi hv ih => ?_) (fun hv => WP.fin fun J => ?_) 0 (Nat.zero_le _) (by simp)
    · by_cases he : a = xs[i]
      · refine WP.fin fun J => ?_
        rw [eh_slices_Indexint_int_0]
        have hm : a ∈ xs := he ▸ List.getElem_mem hi
        have hix : xs.idxOf a = i := by
          have e1 : xs = xs.take i ++ xs[i] :: xs.drop (i + 1) := by rw [List.getElem_cons_drop hi, List.take_append_drop]
          rw [e1, List.idxOf_append, if_neg hv, he, List.idxOf_cons_self, List.length_take]
          omega
        unfold idxI
        rw [if_pos hm, hix]
        simp (disch := first | omega | assumption) only [br_t, br_f, br_tf, br_lt, br_inR, idx1, br_isI, s_getI, br_eq]
      · refine WP.go _ (ih (by
          rw [← List.take_append_getElem hi]
          simp only [List.mem_append, List.mem_singleton, not_or]
          exact ⟨hv, he⟩)) fun J hJ => ?_
        rw [eh_slices_Indexint_int_0]
        simp (disch := first | omega | assumption) only [br_t, br_f, br_tf, br_lt, br_inR, idx1, br_isI, s_getI, br_neq, s_inc]
        exact hJ
    · rw [eh_slices_Indexint_int_0]
      rw [List.take_length] at hv
      unfold idxI
      rw [if_neg hv]
      simp (disch := omega) only [br_nlt]
  · rw [e_slices_Indexint_int]
    exact hJ
theorem c_Contains (g : Bool) (xs : List Int) (a : Int) (hb : xs.length < 4611686018427387904) : Cm 122 [.sl (some g) 1 xs.length (ints xs), .int .i64 a] (.bool (decide (a ∈ xs)), [.undef, .undef]) := by
  refine Cm.fin k_slices_Containsint_int fun J => ?_
  rw [e_slices_Containsint_int]
  have := cvP_eq (c_Index g xs a hb) (by kernel_rfl)
  simp only [this, feed_done, s_le]
  have e : decide (0 ≤ idxI xs a) = decide (a ∈ xs) := by
    unfold idxI
    by_cases h : a ∈ xs <;> simp [h]
  show some (D.bool (decide (0 ≤ idxI xs a)), _) = _
  rw [e]
section
variable (t : Tel Rz)
theorem v_l2Has (g : Bool) (xs : List Int) (a : Int) (n : Nat) (hn : n = xs.length) (hb : xs.length < 4611686018427387904) : cvP 118 [.sl (some g) 1 n (ints xs), .int .i64 a] t = feed t [.bool (decide (a ∈ xs))] := by subst hn; exact cvP_eq (c_l2Has g xs a hb) (by kernel_rfl) t
theorem v_Contains (g : Bool) (xs : List Int) (a : Int) (n : Nat) (hn : n = xs.length) (hb : xs.length < 4611686018427387904) : cvP 122 [.sl (some g) 1 n (ints xs), .int .i64 a] t = feed t [.bool (decide (a ∈ xs))] := by subst hn; exact cvP_eq (c_Contains g xs a hb) (by kernel_rfl) t
end
theorem c_isNode (a : Int) : Cm 92 [.int .i64 a] (.bool (decide (0 ≤ a ∧ a ≤ 2)), [.undef]) := by
  refine Cm.fin k_impl_isNode fun J => ?_
  rw [e_impl_isNode]
  simp only [v_impl_from, feed_bool, feed_done]
theorem c_isCell (a : Int) : Cm 124 [.int .i64 a] (.bool (decide (0 ≤ a ∧ a ≤ 7)), [.undef]) := by
  refine Cm.fin k_impl_isCell fun J => ?_
  rw [e_impl_isCell]
  simp only [v_impl_from, feed_bool, feed_done]
theorem c_isWrite (a : Int) : Cm 98 [.int .i64 a] (.bool (decide (1 ≤ a ∧ a ≤ 200)), [.undef]) := by
  refine Cm.fin k_impl_isWrite fun J => ?_
  rw [e_impl_isWrite]
  simp only [v_impl_from, feed_bool, feed_done]
def mateF (a : Int) : Int := if a = 0 ∨ a = 1 then 1 - a else -1
theorem c_impl_Mate (a : Int) : Cm 73 [.int .i64 a] (.int .i64 (mateF a), [.undef]) := by
  refine Cm.fin k_impl_Mate fun J => ?_
  rw [e_impl_Mate]
  unfold mateF
  by_cases h0 : a = 0
  · subst h0; rfl
  · by_cases h1 : a = 1
    · subst h1; rfl
    · rw [if_neg (by omega)]
      simp (disch := omega) only [br_neq]
section
variable (t : Tel Rz)
theorem v_isCell (a : Int) : cvP 124 [.int .i64 a] t = feed t [.bool (decide (0 ≤ a ∧ a ≤ 7))] := cvP_eq (c_isCell a) (by kernel_rfl) t
end
theorem c_spec_Mate (a : Int) : Cm 71 [.int .i64 a] (.int .i64 (mateF a), [.undef]) := by
  refine Cm.fin k_spec_Mate fun J => ?_
  rw [e_spec_Mate]
  simp only [v_l1In, feed_bool, feed_done]
  unfold mateF
  by_cases h0 : a = 0
  · subst h0; rfl
  · by_cases h1 : a = 1
    · subst h1; rfl
    · rw [if_neg (by omega), decide_eq_false (by omega)]
      rfl
def marksP (xs : List Int) (i : Nat) : Bool := decide (0 ≤ xs.getD i 0 ∧ xs.getD i 0 ≤ 7) && (decide (i = 0) || decide (xs.getD (i - 1) 0 < xs.getD i 0))
def marksOkF (xs : List Int) : Bool := (List.range xs.length).all (marksP xs)
theorem if_bool {b : Bool} {outs : List D} : (if b = true then ((D.bool true, outs) : Rz) else (D.bool false, outs)) = (D.bool b, outs) := by cases b <;> rfl
theorem c_spec_MarksOk (g : Bool) (xs : List Int) (hb : xs.length < 4611686018427387904) : Cm 102 [.sl (some g) 1 xs.length (ints xs)] (.bool (marksOkF xs), [.undef]) := by
  rw [← if_bool]
  refine Cm.go k_spec_MarksOk [.undef] 0 (h_spec_MarksOk_0 g xs.length (ints xs) (0 : Nat)) ?_ fun J hJ => ?_
  · refine WP.scan (H := fun i : Nat => h_spec_MarksOk_0 g xs.length (ints xs) (i : Nat)) (marksP xs) (fun i r hi hp ih => WP.go _ ih fun J hJ => ?_) (fun i hi hp => WP.fin fun J => ?_) (WP.fin fun J => ?_)
    · rw [eh_spec_MarksOk_0]
      unfold marksP at hp
      rw [getD_get' hi] at hp
      simp only [Bool.and_eq_true, decide_eq_true_eq, Bool.or_eq_true] at hp
      by_cases h0 : i = 0
      · subst h0
        simp (disch := first | omega | assumption) only [br_t, br_f, br_tf, br_ft, br_nb, s_ofN, br_lt, br_nlt, br_inR, idx1, br_isI, s_getI, v_l1In, feed_bool, feed_done, decide_eq_true hp.1, s_inc]
        exact hJ
      · obtain ⟨k, rfl⟩ : ∃ k, i = k + 1 := ⟨i - 1, by omega⟩
        have hk : k < xs.length := by omega
        have e1 : ((k + 1 : Nat) : Int) - 1 = (k : Int) := by omega
        have hp2 : xs[k] < xs[k + 1] := by
          have := hp.2.resolve_left h0
          rwa [Nat.add_sub_cancel, getD_get' hk] at this
        simp (disch := first | omega | assumption) only [br_t, br_f, br_tf, br_ft, br_nb, s_ofN, br_lt, br_inR, idx1, br_isI, s_getI, v_l1In, feed_bool, feed_done, decide_eq_true hp.1, s_sub, e1, br_nle, s_inc]
        exact hJ
    · rw [eh_spec_MarksOk_0]
      unfold marksP at hp
      rw [getD_get' hi] at hp
      by_cases hc : 0 ≤ xs[i] ∧ xs[i] ≤ 7
      · rw [decide_eq_true hc, Bool.true_and, Bool.or_eq_false_iff, decide_eq_false_iff_not, decide_eq_false_iff_not] at hp
        obtain ⟨k, rfl⟩ : ∃ k, i = k + 1 := ⟨i - 1, by omega⟩
        have hk : k < xs.length := by omega
        have e1 : ((k + 1 : Nat) : Int) - 1 = (k : Int) := by omega
        have hp2 : xs[k + 1] ≤ xs[k] := by
          have := hp.2
          rw [Nat.add_sub_cancel, getD_get' hk] at this
          omega
        simp (disch := first | omega | assumption) only [br_t, br_f, br_tf, br_ft, br_nb, s_ofN, br_lt, br_inR, idx1, br_isI, s_getI, v_l1In, feed_bool, feed_done, decide_eq_true hc, s_sub, e1, br_le]
      · simp (disch := first | omega | assumption) only [br_t, br_f, br_tf, br_ft, br_nb, s_ofN, br_lt, br_inR, idx1, br_isI, s_getI, v_l1In, feed_bool, feed_done, decide_eq_false hc]
    · rw [eh_spec_MarksOk_0]
      simp (disch := omega) only [s_ofN, br_nlt]
  · rw [e_spec_MarksOk]
    exact hJ
theorem c_impl_MarksOk (g : Bool) (xs : List Int) (hb : xs.length < 4611686018427387904) : Cm 112 [.sl (some g) 1 xs.length (ints xs)] (.bool (marksOkF xs), [.undef]) := by
  rw [← if_bool]
  refine Cm.go k_impl_MarksOk [.undef] 0 (h_impl_MarksOk_0 g xs.length (ints xs) xs.length (0 : Nat)) ?_ fun J hJ => ?_
  · refine WP.scan (H := fun i : Nat => h_impl_MarksOk_0 g xs.length (ints xs) xs.length (i : Nat)) (marksP xs) (fun i r hi hp ih => WP.go _ ih fun J hJ => ?_) (fun i hi hp => WP.fin fun J => ?_) (WP.fin fun J => ?_)
    · rw [eh_impl_MarksOk_0]
      unfold marksP at hp
      rw [getD_get' hi] at hp
      simp only [Bool.and_eq_true, decide_eq_true_eq, Bool.or_eq_true] at hp
      by_cases h0 : i = 0
      · subst h0
        simp (disch := first | omega | assumption) only [br_t, br_f, br_tf, br_ft, br_nb, s_ofN, br_lt, br_nlt, br_inR, idx1, br_isI, s_getI, v_isCell, feed_bool, feed_done, decide_eq_true hp.1, s_inc]
        exact hJ
      · obtain ⟨k, rfl⟩ : ∃ k, i = k + 1 := ⟨i - 1, by omega⟩
        have hk : k < xs.length := by omega
        have e1 : ((k + 1 : Nat) : Int) - 1 = (k : Int) := by omega
        have hp2 : xs[k] < xs[k + 1] := by
          have := hp.2.resolve_left h0
          rwa [Nat.add_sub_cancel, getD_get' hk] at this
        simp (disch := first | omega | assumption) only [br_t, br_f, br_tf, br_ft, br_nb, s_ofN, br_lt, br_inR, idx1, br_isI, s_getI, v_isCell, feed_bool, feed_done, decide_eq_true hp.1, s_sub, e1, br_nle, s_inc]
        exact hJ
    · rw [eh_impl_MarksOk_0]
      unfold marksP at hp
      rw [getD_get' hi] at hp
      by_cases hc : 0 ≤ xs[i] ∧ xs[i] ≤ 7
      · rw [decide_eq_true hc, Bool.true_and, Bool.or_eq_false_iff, decide_eq_false_iff_not, decide_eq_false_iff_not] at hp
        obtain ⟨k, rfl⟩ : ∃ k, i = k + 1 := ⟨i - 1, by omega⟩
        have hk : k < xs.length := by omega
        have e1 : ((k + 1 : Nat) : Int) - 1 = (k : Int) := by omega
        have hp2 : xs[k + 1] ≤ xs[k] := by
          have := hp.2
          rw [Nat.add_sub_cancel, getD_get' hk] at this
          omega
        simp (disch := first | omega | assumption) only [br_t, br_f, br_tf, br_ft, br_nb, s_ofN, br_lt, br_inR, idx1, br_isI, s_getI, v_isCell, feed_bool, feed_done, decide_eq_true hc, s_sub, e1, br_le]
      · simp (disch := first | omega | assumption) only [br_t, br_f, br_tf, br_ft, br_nb, s_ofN, br_lt, br_inR, idx1, br_isI, s_getI, v_isCell, feed_bool, feed_done, decide_eq_false hc]
    · rw [eh_impl_MarksOk_0]
      simp (disch := omega) only [br_nlt]
  · rw [e_impl_MarksOk]
    exact hJ
end Go.Proofs.Ytkejckoefjonjaa
namespace Go.Proofs.Ytkejckoefjonjaa
set_option maxRecDepth 100000
section
variable (pr : Prims) (cv : Cv Rz) (J : Nat → St → Option Rz)
def h_spec_MetaOk_0 (i0 : Int) (g1 : Bool) (n2 : Nat) (c3 : List D) (g4 : Bool) (n5 : Nat) (c6 : List D) (b7 : Bool) (b8 : Bool) (b9 : Bool) (i10 : Int) : St := (St.mk [(1, (.ptr 1 [] 0)), (3, (.int .i64 i0))] [(1, [(.sl (some g1) 1 n2 c3), (.sl (some g4) 1 n5 c6), (.bool b7), (.bool b8), (.bool b9), (.int .i64 i10)])] [] 0)
theorem k_spec_MetaOk : Told cfg Try.prog 88 Try.f88 := ⟨by kernel_rfl, Try.func88, by kernel_rfl⟩
theorem e_spec_MetaOk (g0 : Bool) (n0 : Nat) (c0 : List D) (g1 : Bool) (n1 : Nat) (c1 : List D) (a2 : Bool) (a3 : Bool) (a4 : Bool) (a5 : Int) : RunJ pr cv J 88 Try.f88 [(.agg [(.sl (some g0) 1 n0 c0), (.sl (some g1) 1 n1 c1), (.bool a2), (.bool a3), (.bool a4), (.int .i64 a5)])] =
    (J 0 (h_spec_MetaOk_0 0 g0 n0 c0 g1 n1 c1 a2 a3 a4 a5)) := by kernel_rfl
theorem eh_spec_MetaOk_0 (i0 : Int) (g1 : Bool) (n2 : Nat) (c3 : List D) (g4 : Bool) (n5 : Nat) (c6 : List D) (b7 : Bool) (b8 : Bool) (b9 : Bool) (i10 : Int) : HeadJ pr cv J 88 Try.f88 [.undef] 0 (h_spec_MetaOk_0 i0 g1 n2 c3 g4 n5 c6 b7 b8 b9 i10) =
    let y1 : Option (D × List D) := (some ((.bool false), [.undef]))
    (br (pr.lt i0 (pr.ofN n5)) (br (pr.inR i0 n5) (br (br (pr.isL 1 c6 (pr.idx 0 i0 1)) true false) (cv 102 [(.sl (some (pr.getG c6 (pr.idx 0 i0 1))) 1 (pr.getN c6 (pr.idx 0 i0 1)) (pr.getC c6 (pr.idx 0 i0 1)))] (.bool (fun vb0 => (.done (br (br vb0 false true) y1 (J 0 (h_spec_MetaOk_0 (pr.ar .add .i64 i0 1) g1 n2 c3 g4 n5 c6 b7 b8 b9 i10))))))) none) none) (cv 103 [(.sl (some g1) 1 n2 c3)] (.bool (fun vb1 => (.done (br vb1 (br (pr.lt 0 (pr.ofN n2)) (br (pr.eq (pr.ofN n5) 3) (cv 36 [(.int .i64 i10), (.int .i64 0), (.int .i64 200)] (.bool (fun vb2 => (.done (br vb2 (br b8 (some ((.bool (br b9 false true)), [.undef])) (some ((.bool true), [.undef]))) y1))))) y1) y1) y1)))))) := by kernel_rfl
theorem k_impl_MetaOk : Told cfg Try.prog 94 Try.f94 := ⟨by kernel_rfl, Try.func94, by kernel_rfl⟩
theorem e_impl_MetaOk (g0 : Bool) (n0 : Nat) (c0 : List D) (g1 : Bool) (n1 : Nat) (c1 : List D) (a2 : Bool) (a3 : Bool) (a4 : Bool) (a5 : Int) : RunJ pr cv J 94 Try.f94 [(.agg [(.sl (some g0) 1 n0 c0), (.sl (some g1) 1 n1 c1), (.bool a2), (.bool a3), (.bool a4), (.int .i64 a5)])] =
    let y1 : Option (D × List D) := (some ((.bool false), [.undef]))
    (cv 109 [(.sl (some g0) 1 n0 c0)] (.bool (fun vb0 => (.done (br vb0 (br (pr.lt 0 (pr.ofN n0)) (cv 95 [(.sl (some g1) 1 n1 c1)] (.bool (fun vb1 => (.done (br vb1 (cv 38 [(.int .i64 a5), (.int .i64 0), (.int .i64 200)] (.bool (fun vb2 => (.done (br vb2 (br a3 (some ((.bool (br a4 false true)), [.undef])) (some ((.bool true), [.undef]))) y1))))) y1))))) y1) y1))))) := by kernel_rfl
def h_spec_SameMeta_0 (i0 : Int) (g1 : Bool) (n2 : Nat) (c3 : List D) (g4 : Bool) (n5 : Nat) (c6 : List D) (b7 : Bool) (b8 : Bool) (b9 : Bool) (i10 : Int) (g11 : Bool) (n12 : Nat) (c13 : List D) (g14 : Bool) (n15 : Nat) (c16 : List D) (b17 : Bool) (b18 : Bool) (b19 : Bool) (i20 : Int) : St := (St.mk [(2, (.ptr 2 [] 0)), (3, (.ptr 3 [] 0)), (5, (.int .i64 i0))] [(2, [(.sl (some g1) 1 n2 c3), (.sl (some g4) 1 n5 c6), (.bool b7), (.bool b8), (.bool b9), (.int .i64 i10)]), (3, [(.sl (some g11) 1 n12 c13), (.sl (some g14) 1 n15 c16), (.bool b17), (.bool b18), (.bool b19), (.int .i64 i20)])] [] 0)
theorem k_spec_SameMeta : Told cfg Try.prog 91 Try.f91 := ⟨by kernel_rfl, Try.func91, by kernel_rfl⟩
theorem e_spec_SameMeta (g0 : Bool) (n0 : Nat) (c0 : List D) (g1 : Bool) (n1 : Nat) (c1 : List D) (a2 : Bool) (a3 : Bool) (a4 : Bool) (a5 : Int) (g6 : Bool) (n6 : Nat) (c6 : List D) (g7 : Bool) (n7 : Nat) (c7 : List D) (a8 : Bool) (a9 : Bool) (a10 : Bool) (a11 : Int) : RunJ pr cv J 91 Try.f91 [(.agg [(.sl (some g0) 1 n0 c0), (.sl (some g1) 1 n1 c1), (.bool a2), (.bool a3), (.bool a4), (.int .i64 a5)]), (.agg [(.sl (some g6) 1 n6 c6), (.sl (some g7) 1 n7 c7), (.bool a8), (.bool a9), (.bool a10), (.int .i64 a11)])] =
    let y1 : Option (D × List D) := (some ((.bool false), [.undef, .undef]))
    (br (br (pr.eq (pr.ofN n1) (pr.ofN n7)) false true) y1 (cv 106 [(.sl (some g0) 1 n0 c0), (.sl (some g6) 1 n6 c6)] (.bool (fun vb0 => (.done (br (br vb0 false true) y1 (br (br (pr.beq a2 a8) false true) y1 (br (br (pr.beq a3 a9) false true) y1 (br (br (pr.beq a4 a10) false true) y1 (br (br (pr.eq a5 a11) false true) y1 (J 0 (h_spec_SameMeta_0 0 g0 n0 c0 g1 n1 c1 a2 a3 a4 a5 g6 n6 c6 g7 n7 c7 a8 a9 a10 a11)))))))))))) := by kernel_rfl
theorem eh_spec_SameMeta_0 (i0 : Int) (g1 : Bool) (n2 : Nat) (c3 : List D) (g4 : Bool) (n5 : Nat) (c6 : List D) (b7 : Bool) (b8 : Bool) (b9 : Bool) (i10 : Int) (g11 : Bool) (n12 : Nat) (c13 : List D) (g14 : Bool) (n15 : Nat) (c16 : List D) (b17 : Bool) (b18 : Bool) (b19 : Bool) (i20 : Int) : HeadJ pr cv J 91 Try.f91 [.undef, .undef] 0 (h_spec_SameMeta_0 i0 g1 n2 c3 g4 n5 c6 b7 b8 b9 i10 g11 n12 c13 g14 n15 c16 b17 b18 b19 i20) =
    (br (pr.lt i0 (pr.ofN n5)) (br (pr.inR i0 n5) (br (br (pr.isL 1 c6 (pr.idx 0 i0 1)) true false) (br (pr.inR i0 n15) (br (br (pr.isL 1 c16 (pr.idx 0 i0 1)) true false) (cv 106 [(.sl (some (pr.getG c6 (pr.idx 0 i0 1))) 1 (pr.getN c6 (pr.idx 0 i0 1)) (pr.getC c6 (pr.idx 0 i0 1))), (.sl (some (pr.getG c16 (pr.idx 0 i0 1))) 1 (pr.getN c16 (pr.idx 0 i0 1)) (pr.getC c16 (pr.idx 0 i0 1)))] (.bool (fun vb0 => (.done (br (br vb0 false true) (some ((.bool false), [.undef, .undef])) (J 0 (h_spec_SameMeta_0 (pr.ar .add .i64 i0 1) g1 n2 c3 g4 n5 c6 b7 b8 b9 i10 g11 n12 c13 g14 n15 c16 b17 b18 b19 i20))))))) none) none) none) none) (some ((.bool true), [.undef, .undef]))) := by kernel_rfl
theorem k_impl_SameMeta : Told cfg Try.prog 97 Try.f97 := ⟨by kernel_rfl, Try.func97, by kernel_rfl⟩
theorem e_impl_SameMeta (g0 : Bool) (n0 : Nat) (c0 : List D) (g1 : Bool) (n1 : Nat) (c1 : List D) (a2 : Bool) (a3 : Bool) (a4 : Bool) (a5 : Int) (g6 : Bool) (n6 : Nat) (c6 : List D) (g7 : Bool) (n7 : Nat) (c7 : List D) (a8 : Bool) (a9 : Bool) (a10 : Bool) (a11 : Int) : RunJ pr cv J 97 Try.f97 [(.agg [(.sl (some g0) 1 n0 c0), (.sl (some g1) 1 n1 c1), (.bool a2), (.bool a3), (.bool a4), (.int .i64 a5)]), (.agg [(.sl (some g6) 1 n6 c6), (.sl (some g7) 1 n7 c7), (.bool a8), (.bool a9), (.bool a10), (.int .i64 a11)])] =
    let y1 : Option (D × List D) := (some ((.bool false), [.undef, .undef]))
    (cv 114 [(.sl (some g0) 1 n0 c0), (.sl (some g6) 1 n6 c6)] (.bool (fun vb0 => (.done (br vb0 (cv 115 [(.sl (some g1) 1 n1 c1), (.sl (some g7) 1 n7 c7), (.fn 114 [])] (.bool (fun vb1 => (.done (br vb1 (br (pr.beq a2 a8) (br (pr.beq a3 a9) (br (pr.beq a4 a10) (some ((.bool (pr.eq a5 a11)), [.undef, .undef])) y1) y1) y1) y1))))) y1))))) := by kernel_rfl
end
theorem WP.find {f : FuncId} {fn : Func} {sk : List D} {j : Nat} {H : Nat → St} {n : Nat} (p : Nat → Bool) {bad : Nat → Rz} {good : Rz} (hgo : ∀ i r, i < n → p i = false → WP f fn sk j (H (i + 1)) r → WP f fn sk j (H i) r) (hbad : ∀ i, i < n → p i = true → WP f fn sk j (H i) (bad i)) (hend : WP f fn sk j (H n) good) : WP f fn sk j (H 0) (match (List.range n).find? p with | some i => bad i | none => good) := by
  have key : ∀ k i, i + k = n → WP f fn sk j (H i) (match ((List.range n).drop i).find? p with | some i => bad i | none => good) := by
    intro k
    induction k with
    | zero =>
      intro i hi
      obtain rfl : i = n := by omega
      rw [List.drop_of_length_le (by simp)]
      exact hend
    | succ k ih =>
      intro i hi
      have hlt : i < (List.range n).length := by simp; omega
      rw [← List.getElem_cons_drop hlt, List.getElem_range, List.find?_cons]
      cases hp : p i with
      | false => exact hgo i _ (by omega) hp (ih (i + 1) (by omega))
      | true => exact hbad i (by omega) hp
  exact key n 0 (by omega)
theorem find_all {n : Nat} (p : Nat → Bool) (k : Nat → Int) (hk : ∀ i, 0 ≤ k i) : decide (0 ≤ (match (List.range n).find? p with | some i => k i | none => -1)) = !((List.range n).all fun i => !p i) := by
  cases h : (List.range n).find? p with
  | none =>
    rw [List.find?_eq_none] at h
    have : ((List.range n).all fun i => !p i) = true := by
      rw [List.all_eq_true]
      intro x hx
      simpa using h x hx
    rw [this]
    rfl
  | some i =>
    have h1 := List.mem_of_find?_eq_some h
    have h2 := List.find?_some h
    have : ((List.range n).all fun i => !p i) = false := by
      rw [List.all_eq_false]
      exact ⟨i, h1, by simp [h2]⟩
    rw [this]
    simp [hk i]
theorem if_and {a b : Bool} {outs : List D} : (if a = true then ((D.bool b, outs) : Rz) else (D.bool false, outs)) = (D.bool (a && b), outs) := by cases a <;> rfl
theorem s_nsub0 (n : Nat) : std.nsub (n : Int) 0 = n := by simp [std]
theorem s_toN0 : std.toN 0 = 0 := rfl
theorem n_mul1 (n : Nat) : Nat.mul n 1 = n := Nat.mul_one n
theorem n_0mul (n : Nat) : Nat.mul 0 n = 0 := Nat.zero_mul n
theorem ints_take (xs : List Int) (i : Nat) : List.take i (ints xs) = ints (xs.take i) := by simp [ints, List.map_take]
def gensP (xs : List Int) (i : Nat) : Bool := decide (1 ≤ xs.getD i 0 ∧ xs.getD i 0 ≤ 100000) && !decide (xs.getD i 0 ∈ xs.take i)
def gensOkF (xs : List Int) : Bool := (List.range xs.length).all (gensP xs) && decide ((xs.length : Int) ≤ 12)
theorem c_spec_GensOk (g : Bool) (xs : List Int) (hb : xs.length < 4611686018427387904) : Cm 103 [.sl (some g) 1 xs.length (ints xs)] (.bool (gensOkF xs), [.undef]) := by
  unfold gensOkF
  rw [← if_and]
  refine Cm.go k_spec_GensOk [.undef] 0 (h_spec_GensOk_0 g xs.length (ints xs) (0 : Nat)) ?_ fun J hJ => ?_
  · refine WP.scan (H := fun i : Nat => h_spec_GensOk_0 g xs.length (ints xs) (i : Nat)) (gensP xs) (fun i r hi hp ih => WP.go _ ih fun J hJ => ?_) (fun i hi hp => WP.fin fun J => ?_) (WP.fin fun J => ?_)
    · rw [eh_spec_GensOk_0]
      unfold gensP at hp
      rw [getD_get' hi, Bool.and_eq_true, decide_eq_true_eq, Bool.not_eq_true', decide_eq_false_iff_not] at hp
      simp (disch := first | omega | assumption | (simp; omega)) only [br_t, br_f, br_tf, br_ft, br_nb, s_ofN, br_lt, br_rng, br_inR, idx1, br_isI, s_getI, v_l1In, feed_bool, feed_done, decide_eq_true hp.1, s_nsub0, s_toN0, n_mul1, n_0mul, List.drop_zero, ints_take, v_l2Has, decide_eq_false hp.2, s_inc]
      exact hJ
    · rw [eh_spec_GensOk_0]
      unfold gensP at hp
      rw [getD_get' hi] at hp
      by_cases hc : 1 ≤ xs[i] ∧ xs[i] ≤ 100000
      · rw [decide_eq_true hc, Bool.true_and, Bool.not_eq_false', decide_eq_true_eq] at hp
        simp (disch := first | omega | assumption | (simp; omega)) only [br_t, br_f, br_tf, br_ft, br_nb, s_ofN, br_lt, br_rng, br_inR, idx1, br_isI, s_getI, v_l1In, feed_bool, feed_done, decide_eq_true hc, s_nsub0, s_toN0, n_mul1, n_0mul, List.drop_zero, ints_take, v_l2Has, decide_eq_true hp]
      · simp (disch := first | omega | assumption) only [br_t, br_f, br_tf, br_ft, br_nb, s_ofN, br_lt, br_inR, idx1, br_isI, s_getI, v_l1In, feed_bool, feed_done, decide_eq_false hc]
    · rw [eh_spec_GensOk_0]
      simp (disch := omega) only [s_ofN, br_nlt, s_le]
  · rw [e_spec_GensOk]
    exact hJ
theorem c_impl_GensOk (g : Bool) (xs : List Int) (hb : xs.length < 4611686018427387904) : Cm 109 [.sl (some g) 1 xs.length (ints xs)] (.bool (gensOkF xs), [.undef]) := by
  unfold gensOkF
  rw [← if_and]
  refine Cm.go k_impl_GensOk [.undef] 0 (h_impl_GensOk_0 g xs.length (ints xs) xs.length (0 : Nat)) ?_ fun J hJ => ?_
  · refine WP.scan (H := fun i : Nat => h_impl_GensOk_0 g xs.length (ints xs) xs.length (i : Nat)) (gensP xs) (fun i r hi hp ih => WP.go _ ih fun J hJ => ?_) (fun i hi hp => WP.fin fun J => ?_) (WP.fin fun J => ?_)
    · rw [eh_impl_GensOk_0]
      unfold gensP at hp
      rw [getD_get' hi, Bool.and_eq_true, decide_eq_true_eq, Bool.not_eq_true', decide_eq_false_iff_not] at hp
      simp (disch := first | omega | assumption | (simp; omega)) only [br_t, br_f, br_tf, br_ft, br_nb, s_ofN, br_lt, br_rng, br_inR, idx1, br_isI, s_getI, v_impl_from, feed_bool, feed_done, decide_eq_true hp.1, s_nsub0, s_toN0, n_mul1, n_0mul, List.drop_zero, ints_take, v_Contains, decide_eq_false hp.2, s_inc]
      exact hJ
    · rw [eh_impl_GensOk_0]
      unfold gensP at hp
      rw [getD_get' hi] at hp
      by_cases hc : 1 ≤ xs[i] ∧ xs[i] ≤ 100000
      · rw [decide_eq_true hc, Bool.true_and, Bool.not_eq_false', decide_eq_true_eq] at hp
        simp (disch := first | omega | assumption | (simp; omega)) only [br_t, br_f, br_tf, br_ft, br_nb, s_ofN, br_lt, br_rng, br_inR, idx1, br_isI, s_getI, v_impl_from, feed_bool, feed_done, decide_eq_true hc, s_nsub0, s_toN0, n_mul1, n_0mul, List.drop_zero, ints_take, v_Contains, decide_eq_true hp]
      · simp (disch := first | omega | assumption) only [br_t, br_f, br_tf, br_ft, br_nb, s_ofN, br_lt, br_inR, idx1, br_isI, s_getI, v_impl_from, feed_bool, feed_done, decide_eq_false hc]
    · rw [eh_impl_GensOk_0]
      simp (disch := omega) only [s_ofN, br_nlt, s_le]
  · rw [e_impl_GensOk]
    exact hJ
def imageP (xs : List Int) (i : Nat) : Bool := decide (0 ≤ xs.getD i 0 ∧ xs.getD i 0 ≤ 200)
def imageOkF (xs : List Int) : Bool := (List.range xs.length).all (imageP xs) && decide ((xs.length : Int) = 8)
theorem c_spec_ImageOk (g : Bool) (xs : List Int) (hb : xs.length < 4611686018427387904) : Cm 87 [.sl (some g) 1 xs.length (ints xs)] (.bool (imageOkF xs), [.undef]) := by
  unfold imageOkF
  rw [← if_and]
  refine Cm.go k_spec_ImageOk [.undef] 0 (h_spec_ImageOk_0 g xs.length (ints xs) (0 : Nat)) ?_ fun J hJ => ?_
  · refine WP.scan (H := fun i : Nat => h_spec_ImageOk_0 g xs.length (ints xs) (i : Nat)) (imageP xs) (fun i r hi hp ih => WP.go _ ih fun J hJ => ?_) (fun i hi hp => WP.fin fun J => ?_) (WP.fin fun J => ?_)
    · rw [eh_spec_ImageOk_0]
      unfold imageP at hp
      rw [getD_get' hi] at hp
      simp (disch := first | omega | assumption) only [br_t, br_f, br_tf, br_ft, br_nb, s_ofN, br_lt, br_inR, idx1, br_isI, s_getI, v_l1In, feed_bool, feed_done, hp, s_inc]
      exact hJ
    · rw [eh_spec_ImageOk_0]
      unfold imageP at hp
      rw [getD_get' hi] at hp
      simp (disch := first | omega | assumption) only [br_t, br_f, br_tf, br_ft, br_nb, s_ofN, br_lt, br_inR, idx1, br_isI, s_getI, v_l1In, feed_bool, feed_done, hp]
    · rw [eh_spec_ImageOk_0]
      simp (disch := omega) only [s_ofN, br_nlt, s_eq]
      rfl
  · rw [e_spec_ImageOk]
    exact hJ
theorem c_ImageOk_1 (a : Int) : Cm 108 [.int .i64 a] (.bool (!decide (0 ≤ a ∧ a ≤ 200)), [.undef]) := by
  refine Cm.fin k_impl_ImageOk_1 fun J => ?_
  rw [e_impl_ImageOk_1]
  simp only [v_impl_from, feed_bool, feed_done, br_ft]
theorem v_ImageOk_1 (a : Int) (t : Tel Rz) : cvP 108 [.int .i64 a] t = feed t [.bool (!decide (0 ≤ a ∧ a ≤ 200))] := cvP_eq (c_ImageOk_1 a) (by kernel_rfl) t
def badAt (n : Nat) (p : Nat → Bool) : Int := match (List.range n).find? (fun i => !p i) with | some i => (i : Int) | none => -1
theorem badAt_le (n : Nat) (p : Nat → Bool) : decide (0 ≤ badAt n p) = !(List.range n).all p := by
  unfold badAt
  rw [find_all _ _ (fun i => Int.natCast_nonneg i)]
  simp
theorem c_IndexImage (g : Bool) (xs : List Int) (hb : xs.length < 4611686018427387904) : Cm 121 [.sl (some g) 1 xs.length (ints xs), .fn 108 []] (.int .i64 (badAt xs.length (imageP xs)), [.undef, .undef]) := by
  have e : ((.int .i64 (badAt xs.length (imageP xs)), [.undef, .undef]) : Rz) = (match (List.range xs.length).find? (fun i => !imageP xs i) with | some i => ((.int .i64 (i : Int), [.undef, .undef]) : Rz) | none => (.int .i64 (-1), [.undef, .undef])) := by
    unfold badAt
    split <;> rfl
  rw [e]
  refine Cm.go k_slices_IndexFuncint_intImage [.undef, .undef] 0 (h_slices_IndexFuncint_intImage_0 g xs.length (ints xs) xs.length (0 : Nat)) ?_ fun J hJ => ?_
  · refine WP.find (H := fun i : Nat => h_slices_IndexFuncint_intImage_0 g xs.length (ints xs) xs.length (i : Nat)) _ (fun i r hi hp ih => WP.go _ ih fun J hJ => ?_) (fun i hi hp => WP.fin fun J => ?_) (WP.fin fun J => ?_)
    · rw [eh_slices_IndexFuncint_intImage_0]
      unfold imageP at hp
      rw [getD_get' hi] at hp
      simp (disch := first | omega | assumption) only [br_t, br_f, br_tf, br_ft, br_nb, s_ofN, br_lt, br_inR, idx1, br_isI, s_getI, v_ImageOk_1, feed_bool, feed_done, hp, s_inc]
      exact hJ
    · rw [eh_slices_IndexFuncint_intImage_0]
      unfold imageP at hp
      rw [getD_get' hi] at hp
      simp (disch := first | omega | assumption) only [br_t, br_f, br_tf, br_ft, s_ofN, br_lt, br_inR, idx1, br_isI, s_getI, v_ImageOk_1, feed_bool, feed_done, hp]
    · rw [eh_slices_IndexFuncint_intImage_0]
      simp (disch := omega) only [s_ofN, br_nlt]
  · rw [e_slices_IndexFuncint_intImage]
    exact hJ
theorem c_ContainsImage (g : Bool) (xs : List Int) (hb : xs.length < 4611686018427387904) : Cm 107 [.sl (some g) 1 xs.length (ints xs), .fn 108 []] (.bool (!(List.range xs.length).all (imageP xs)), [.undef, .undef]) := by
  refine Cm.fin k_slices_ContainsFuncint_intImage fun J => ?_
  rw [e_slices_ContainsFuncint_intImage]
  have := cvP_eq (c_IndexImage g xs hb) (by kernel_rfl)
  simp only [this, feed_done, s_le]
  rw [← badAt_le]
  rfl
theorem c_impl_ImageOk (g : Bool) (xs : List Int) (hb : xs.length < 4611686018427387904) : Cm 93 [.sl (some g) 1 xs.length (ints xs)] (.bool (imageOkF xs), [.undef]) := by
  refine Cm.fin k_impl_ImageOk fun J => ?_
  rw [e_impl_ImageOk]
  have := cvP_eq (c_ContainsImage g xs hb) (by kernel_rfl)
  unfold imageOkF
  by_cases h : (xs.length : Int) = 8
  · simp (disch := first | omega | assumption) only [s_ofN, br_eq, this, br_ft]
    rw [decide_eq_true h, Bool.and_true]
    show some (D.bool (!!_), _) = _
    rw [Bool.not_not]
  · simp (disch := first | omega | assumption) only [s_ofN, br_neq]
    rw [decide_eq_false h, Bool.and_false]
section
variable (t : Tel Rz)
theorem v_spec_GensOk (g : Bool) (xs : List Int) (n : Nat) (hn : n = xs.length) (hb : xs.length < 4611686018427387904) : cvP 103 [.sl (some g) 1 n (ints xs)] t = feed t [.bool (gensOkF xs)] := by subst hn; exact cvP_eq (c_spec_GensOk g xs hb) (by kernel_rfl) t
theorem v_impl_GensOk (g : Bool) (xs : List Int) (n : Nat) (hn : n = xs.length) (hb : xs.length < 4611686018427387904) : cvP 109 [.sl (some g) 1 n (ints xs)] t = feed t [.bool (gensOkF xs)] := by subst hn; exact cvP_eq (c_impl_GensOk g xs hb) (by kernel_rfl) t
theorem v_spec_MarksOk (g : Bool) (xs : List Int) (n : Nat) (hn : n = xs.length) (hb : xs.length < 4611686018427387904) : cvP 102 [.sl (some g) 1 n (ints xs)] t = feed t [.bool (marksOkF xs)] := by subst hn; exact cvP_eq (c_spec_MarksOk g xs hb) (by kernel_rfl) t
theorem v_impl_MarksOk (g : Bool) (xs : List Int) (n : Nat) (hn : n = xs.length) (hb : xs.length < 4611686018427387904) : cvP 112 [.sl (some g) 1 n (ints xs)] t = feed t [.bool (marksOkF xs)] := by subst hn; exact cvP_eq (c_impl_MarksOk g xs hb) (by kernel_rfl) t
end
end Go.Proofs.Ytkejckoefjonjaa
namespace Go.Proofs.Ytkejckoefjonjaa
set_option maxRecDepth 100000
section
variable (pr : Prims) (cv : Cv Rz) (J : Nat → St → Option Rz)
def h_slices_EqualFuncint_int_int_int_0 (g0 : Bool) (n1 : Nat) (c2 : List D) (g3 : Bool) (n4 : Nat) (c5 : List D) (i6 : Int) (i7 : Int) : St := (St.mk [(1, (.sl (some g0) 1 n1 c2)), (2, (.fn 114 [])), (15, (.sl (some g3) 1 n4 c5)), (16, (.int .i64 i6)), (17, (.int .i64 i7))] [] [] 0)
theorem k_slices_EqualFuncint_int_int_int : Told cfg Try.prog 115 Try.f115 := ⟨by kernel_rfl, Try.func115, by kernel_rfl⟩
theorem e_slices_EqualFuncint_int_int_int (g0 : Bool) (n0 : Nat) (c0 : List D) (g1 : Bool) (n1 : Nat) (c1 : List D) : RunJ pr cv J 115 Try.f115 [(.sl (some g0) 1 n0 c0), (.sl (some g1) 1 n1 c1), (.fn 114 [])] =
    (br (br (pr.eq (pr.ofN n0) (pr.ofN n1)) false true) (some ((.bool false), [.undef, .undef, .undef])) (J 0 (h_slices_EqualFuncint_int_int_int_0 g1 n1 c1 g0 n0 c0 (pr.ofN n0) 0))) := by kernel_rfl
theorem eh_slices_EqualFuncint_int_int_int_0 (g0 : Bool) (n1 : Nat) (c2 : List D) (g3 : Bool) (n4 : Nat) (c5 : List D) (i6 : Int) (i7 : Int) : HeadJ pr cv J 115 Try.f115 [.undef, .undef, .undef] 0 (h_slices_EqualFuncint_int_int_int_0 g0 n1 c2 g3 n4 c5 i6 i7) =
    (br (pr.lt i7 i6) (br (pr.inR i7 n4) (br (br (pr.isL 1 c5 (pr.idx 0 i7 1)) true false) (br (pr.inR i7 n1) (br (br (pr.isL 1 c2 (pr.idx 0 i7 1)) true false) (cv 114 [(.sl (some (pr.getG c5 (pr.idx 0 i7 1))) 1 (pr.getN c5 (pr.idx 0 i7 1)) (pr.getC c5 (pr.idx 0 i7 1))), (.sl (some (pr.getG c2 (pr.idx 0 i7 1))) 1 (pr.getN c2 (pr.idx 0 i7 1)) (pr.getC c2 (pr.idx 0 i7 1)))] (.bool (fun vb0 => (.done (br (br vb0 false true) (some ((.bool false), [.undef, .undef, .undef])) (J 0 (h_slices_EqualFuncint_int_int_int_0 g0 n1 c2 g3 n4 c5 i6 (pr.ar .add .i64 i7 1)))))))) none) none) none) none) (some ((.bool true), [.undef, .undef, .undef]))) := by kernel_rfl
theorem k_impl_four : Told cfg Try.prog 142 Try.f142 := ⟨by kernel_rfl, Try.func142, by kernel_rfl⟩
theorem e_impl_four (a0 : Int) : RunJ pr cv J 142 Try.f142 [(.int .i64 a0)] =
    (br (br (pr.lt 8 0) false true) (br (br (pr.lt 16 0) false true) (br (br (pr.lt 24 0) false true) (some ((.sl none 1 4 [(.int .u8 (pr.wrap .u8 a0)), (.int .u8 (pr.wrap .u8 (pr.ar .shr .i64 a0 8))), (.int .u8 (pr.wrap .u8 (pr.ar .shr .i64 a0 16))), (.int .u8 (pr.wrap .u8 (pr.ar .shr .i64 a0 24)))]), [.undef])) none) none) none) := by kernel_rfl
end
theorem all_eq {α : Type} [DecidableEq α] (d : α) : ∀ (xs ys : List α), xs.length = ys.length → ((List.range xs.length).all fun i => decide (xs.getD i d = ys.getD i d)) = decide (xs = ys) := by
  intro xs ys hl
  rw [Bool.eq_iff_iff, List.all_eq_true, decide_eq_true_eq]
  constructor
  · intro h
    apply List.ext_getElem hl
    intro i hi hi'
    have := h i (List.mem_range.2 hi)
    rwa [decide_eq_true_eq, getD_get' hi, getD_get' hi'] at this
  · intro h
    subst h
    intro i _
    simp
theorem all_eq_min {α : Type} [DecidableEq α] (d : α) (xs ys : List α) : (((List.range (min xs.length ys.length)).all fun i => decide (xs.getD i d = ys.getD i d)) && decide ((xs.length : Int) = (ys.length : Int))) = decide (xs = ys) := by
  by_cases h : xs.length = ys.length
  · rw [← h, Nat.min_self, all_eq d xs ys h]
    simp
  · have : xs ≠ ys := fun e => h (e ▸ rfl)
    have h' : ¬ (xs.length : Int) = (ys.length : Int) := by omega
    rw [decide_eq_false h', decide_eq_false this, Bool.and_false]
theorem c_l5Same (g h : Bool) (xs ys : List Int) (hx : xs.length < 4611686018427387904) (hy : ys.length < 4611686018427387904) : Cm 106 [.sl (some g) 1 xs.length (ints xs), .sl (some h) 1 ys.length (ints ys)] (.bool (decide (xs = ys)), [.undef, .undef]) := by
  rw [← all_eq_min 0, ← if_and]
  refine Cm.go k_spec_l5Same [.undef, .undef] 0 (h_spec_l5Same_0 g xs.length (ints xs) h ys.length (ints ys) (0 : Nat)) ?_ fun J hJ => ?_
  · refine WP.scan (H := fun i : Nat => h_spec_l5Same_0 g xs.length (ints xs) h ys.length (ints ys) (i : Nat)) _ (fun i r hi hp ih => WP.go _ ih fun J hJ => ?_) (fun i hi hp => WP.fin fun J => ?_) (WP.fin fun J => ?_)
    · rw [eh_spec_l5Same_0]
      have h1 : i < xs.length := by omega
      have h2 : i < ys.length := by omega
      rw [getD_get' h1, getD_get' h2, decide_eq_true_eq] at hp
      simp (disch := first | omega | assumption) only [br_t, br_f, br_tf, br_ft, br_nb, s_ofN, br_lt, br_inR, idx1, br_isI, s_getI, br_eq, s_inc]
      exact hJ
    · rw [eh_spec_l5Same_0]
      have h1 : i < xs.length := by omega
      have h2 : i < ys.length := by omega
      rw [getD_get' h1, getD_get' h2, decide_eq_false_iff_not] at hp
      simp (disch := first | omega | assumption) only [br_t, br_f, br_tf, br_ft, br_nb, s_ofN, br_lt, br_inR, idx1, br_isI, s_getI, br_neq]
    · rw [eh_spec_l5Same_0]
      by_cases h1 : min xs.length ys.length < xs.length
      · simp (disch := omega) only [s_ofN, br_lt, br_nlt, s_eq]
        rfl
      · simp (disch := omega) only [s_ofN, br_nlt, s_eq]
        rfl
  · rw [e_spec_l5Same]
    exact hJ
theorem c_Equal (g h : Bool) (xs ys : List Int) (hx : xs.length < 4611686018427387904) (hy : ys.length < 4611686018427387904) : Cm 114 [.sl (some g) 1 xs.length (ints xs), .sl (some h) 1 ys.length (ints ys)] (.bool (decide (xs = ys)), [.undef, .undef]) := by
  by_cases hl : xs.length = ys.length
  · rw [← all_eq 0 xs ys hl, ← if_bool]
    refine Cm.go k_slices_Equalint_int [.undef, .undef] 0 (h_slices_Equalint_int_0 g xs.length (ints xs) h ys.length (ints ys) xs.length (0 : Nat)) ?_ fun J hJ => ?_
    · refine WP.scan (H := fun i : Nat => h_slices_Equalint_int_0 g xs.length (ints xs) h ys.length (ints ys) xs.length (i : Nat)) _ (fun i r hi hp ih => WP.go _ ih fun J hJ => ?_) (fun i hi hp => WP.fin fun J => ?_) (WP.fin fun J => ?_)
      · rw [eh_slices_Equalint_int_0]
        have h2 : i < ys.length := by omega
        rw [getD_get' hi, getD_get' h2, decide_eq_true_eq] at hp
        simp (disch := first | omega | assumption) only [br_t, br_f, br_tf, br_ft, br_nb, s_ofN, br_lt, br_inR, idx1, br_isI, s_getI, br_eq, s_inc]
        exact hJ
      · rw [eh_slices_Equalint_int_0]
        have h2 : i < ys.length := by omega
        rw [getD_get' hi, getD_get' h2, decide_eq_false_iff_not] at hp
        simp (disch := first | omega | assumption) only [br_t, br_f, br_tf, br_ft, br_nb, s_ofN, br_lt, br_inR, idx1, br_isI, s_getI, br_neq]
      · rw [eh_slices_Equalint_int_0]
        simp (disch := omega) only [s_ofN, br_nlt]
    · rw [e_slices_Equalint_int]
      simp (disch := omega) only [s_ofN, br_eq, br_ft, br_nb, br_t, br_f]
      exact hJ
  · have hne : xs ≠ ys := fun e => hl (e ▸ rfl)
    refine Cm.fin k_slices_Equalint_int fun J => ?_
    rw [e_slices_Equalint_int, decide_eq_false hne]
    simp (disch := omega) only [s_ofN, br_neq, br_ft, br_nb, br_t, br_f]
section
variable (t : Tel Rz)
theorem v_l5Same (g h : Bool) (xs ys : List Int) (n k : Nat) (hn : n = xs.length) (hk : k = ys.length) (hx : xs.length < 4611686018427387904) (hy : ys.length < 4611686018427387904) : cvP 106 [.sl (some g) 1 n (ints xs), .sl (some h) 1 k (ints ys)] t = feed t [.bool (decide (xs = ys))] := by subst hn hk; exact cvP_eq (c_l5Same g h xs ys hx hy) (by kernel_rfl) t
theorem v_Equal (g h : Bool) (xs ys : List Int) (n k : Nat) (hn : n = xs.length) (hk : k = ys.length) (hx : xs.length < 4611686018427387904) (hy : ys.length < 4611686018427387904) : cvP 114 [.sl (some g) 1 n (ints xs), .sl (some h) 1 k (ints ys)] t = feed t [.bool (decide (xs = ys))] := by subst hn hk; exact cvP_eq (c_Equal g h xs ys hx hy) (by kernel_rfl) t
end
theorem c_EqualFunc (g h : Bool) (xs ys : List (List Int)) (hx : OkR xs) (hy : OkR ys) : Cm 115 [sR (some g) xs, sR (some h) ys, .fn 114 []] (.bool (decide (xs = ys)), [.undef, .undef, .undef]) := by
  by_cases hl : xs.length = ys.length
  · rw [← all_eq [] xs ys hl, ← if_bool]
    refine Cm.go k_slices_EqualFuncint_int_int_int [.undef, .undef, .undef] 0 (h_slices_EqualFuncint_int_int_int_0 h ys.length (rows (some h) ys) g xs.length (rows (some g) xs) xs.length (0 : Nat)) ?_ fun J hJ => ?_
    · refine WP.scan (H := fun i : Nat => h_slices_EqualFuncint_int_int_int_0 h ys.length (rows (some h) ys) g xs.length (rows (some g) xs) xs.length (i : Nat)) _ (fun i r hi hp ih => WP.go _ ih fun J hJ => ?_) (fun i hi hp => WP.fin fun J => ?_) (WP.fin fun J => ?_)
      · have b1 := hx.1
        have h2 : i < ys.length := by omega
        have b2 := hx.2 _ (List.getElem_mem hi)
        have b3 := hy.2 _ (List.getElem_mem h2)
        rw [eh_slices_EqualFuncint_int_int_int_0]
        rw [getD_get' hi, getD_get' h2] at hp
        simp (disch := first | omega | assumption) only [br_t, br_f, br_tf, br_ft, br_nb, s_ofN, br_lt, br_inR, idx1, br_isL, s_getG, s_getN, s_getC, v_Equal, feed_bool, feed_done, hp, s_inc]
        exact hJ
      · have b1 := hx.1
        have h2 : i < ys.length := by omega
        have b2 := hx.2 _ (List.getElem_mem hi)
        have b3 := hy.2 _ (List.getElem_mem h2)
        rw [eh_slices_EqualFuncint_int_int_int_0]
        rw [getD_get' hi, getD_get' h2] at hp
        simp (disch := first | omega | assumption) only [br_t, br_f, br_tf, br_ft, br_nb, s_ofN, br_lt, br_inR, idx1, br_isL, s_getG, s_getN, s_getC, v_Equal, feed_bool, feed_done, hp]
      · rw [eh_slices_EqualFuncint_int_int_int_0]
        simp (disch := omega) only [s_ofN, br_nlt]
    · rw [e_slices_EqualFuncint_int_int_int]
      simp (disch := omega) only [s_ofN, br_eq, br_ft, br_nb, br_t, br_f]
      exact hJ
  · have hne : xs ≠ ys := fun e => hl (e ▸ rfl)
    refine Cm.fin k_slices_EqualFuncint_int_int_int fun J => ?_
    rw [e_slices_EqualFuncint_int_int_int, decide_eq_false hne]
    simp (disch := omega) only [s_ofN, br_neq, br_ft, br_nb, br_t, br_f]
def marksAt (xss : List (List Int)) (i : Nat) : Bool := marksOkF (xss.getD i [])
def marksAllF (xss : List (List Int)) : Bool := (List.range xss.length).all (marksAt xss)
theorem c_marksAll_1 (g : Bool) (xs : List Int) (hb : xs.length < 4611686018427387904) : Cm 111 [.sl (some g) 1 xs.length (ints xs)] (.bool (!marksOkF xs), [.undef]) := by
  refine Cm.fin k_impl_marksAll_1 fun J => ?_
  rw [e_impl_marksAll_1]
  simp (disch := first | rfl | assumption) only [v_impl_MarksOk, feed_bool, feed_done, br_ft]
theorem v_marksAll_1 (g : Bool) (xs : List Int) (n : Nat) (hn : n = xs.length) (hb : xs.length < 4611686018427387904) (t : Tel Rz) : cvP 111 [.sl (some g) 1 n (ints xs)] t = feed t [.bool (!marksOkF xs)] := by subst hn; exact cvP_eq (c_marksAll_1 g xs hb) (by kernel_rfl) t
theorem c_IndexMarks (g : Bool) (xss : List (List Int)) (hb : OkR xss) : Cm 123 [sR (some g) xss, .fn 111 []] (.int .i64 (badAt xss.length (marksAt xss)), [.undef, .undef]) := by
  have e : ((.int .i64 (badAt xss.length (marksAt xss)), [.undef, .undef]) : Rz) = (match (List.range xss.length).find? (fun i => !marksAt xss i) with | some i => ((.int .i64 (i : Int), [.undef, .undef]) : Rz) | none => (.int .i64 (-1), [.undef, .undef])) := by
    unfold badAt
    cases (List.range xss.length).find? (fun i => !marksAt xss i) <;> rfl
  rw [e]
  have b1 := hb.1
  refine Cm.go k_slices_IndexFuncint_intMarks [.undef, .undef] 0 (h_slices_IndexFuncint_intMarks_0 g xss.length (rows (some g) xss) xss.length (0 : Nat)) ?_ fun J hJ => ?_
  · refine WP.find (H := fun i : Nat => h_slices_IndexFuncint_intMarks_0 g xss.length (rows (some g) xss) xss.length (i : Nat)) _ (fun i r hi hp ih => WP.go _ ih fun J hJ => ?_) (fun i hi hp => WP.fin fun J => ?_) (WP.fin fun J => ?_)
    · have b2 := hb.2 _ (List.getElem_mem hi)
      rw [eh_slices_IndexFuncint_intMarks_0]
      unfold marksAt at hp
      rw [getD_get' hi] at hp
      simp (disch := first | omega | assumption) only [br_t, br_f, br_tf, br_ft, s_ofN, br_lt, br_inR, idx1, br_isL, s_getG, s_getN, s_getC, v_marksAll_1, feed_bool, feed_done, hp, s_inc]
      exact hJ
    · have b2 := hb.2 _ (List.getElem_mem hi)
      rw [eh_slices_IndexFuncint_intMarks_0]
      unfold marksAt at hp
      rw [getD_get' hi] at hp
      simp (disch := first | omega | assumption) only [br_t, br_f, br_tf, br_ft, s_ofN, br_lt, br_inR, idx1, br_isL, s_getG, s_getN, s_getC, v_marksAll_1, feed_bool, feed_done, hp]
    · rw [eh_slices_IndexFuncint_intMarks_0]
      simp (disch := omega) only [s_ofN, br_nlt]
  · rw [e_slices_IndexFuncint_intMarks]
    exact hJ
theorem c_ContainsMarks (g : Bool) (xss : List (List Int)) (hb : OkR xss) : Cm 110 [sR (some g) xss, .fn 111 []] (.bool (!marksAllF xss), [.undef, .undef]) := by
  refine Cm.fin k_slices_ContainsFuncint_intMarks fun J => ?_
  rw [e_slices_ContainsFuncint_intMarks]
  have := cvP_eq (c_IndexMarks g xss hb) (by kernel_rfl)
  simp only [this, feed_done, s_le]
  unfold marksAllF
  rw [← badAt_le]
  rfl
theorem c_marksAll (g : Bool) (xss : List (List Int)) (hb : OkR xss) : Cm 95 [sR (some g) xss] (.bool (((xss.length : Int) == 3) && marksAllF xss), [.undef]) := by
  refine Cm.fin k_impl_marksAll fun J => ?_
  rw [e_impl_marksAll]
  have := cvP_eq (c_ContainsMarks g xss hb) (by kernel_rfl)
  simp only [this, s_ofN, s_eq]
  cases (xss.length : Int) == 3 with
  | true =>
    show some (D.bool (br (!marksAllF xss) false true), _) = _
    rw [br_ft, Bool.not_not]
    rfl
  | false => rfl
def metaOkF (m : MMeta) : Bool := marksAllF m.bits && (gensOkF m.gens && (decide (0 < (m.gens.length : Int)) && (((m.bits.length : Int) == 3) && (decide (0 ≤ m.last ∧ m.last ≤ 200) && !(m.old && m.held)))))
theorem c_spec_MetaOk (g : Bool) (m : MMeta) (hb : OkMeta m) : Cm 88 [.agg (eMeta (some g) m)] (.bool (metaOkF m), [.undef]) := by
  unfold metaOkF
  rw [← if_and]
  have b0 := hb.gens
  have b1 := hb.bits.1
  refine Cm.go k_spec_MetaOk [.undef] 0 (h_spec_MetaOk_0 (0 : Nat) g m.gens.length (ints m.gens) g m.bits.length (rows (some g) m.bits) m.fine m.old m.held m.last) ?_ fun J hJ => ?_
  · refine WP.scan (H := fun i : Nat => h_spec_MetaOk_0 (i : Nat) g m.gens.length (ints m.gens) g m.bits.length (rows (some g) m.bits) m.fine m.old m.held m.last) (marksAt m.bits) (fun i r hi hp ih => WP.go _ ih fun J hJ => ?_) (fun i hi hp => WP.fin fun J => ?_) (WP.fin fun J => ?_)
    · have b2 := hb.bits.2 _ (List.getElem_mem hi)
      rw [eh_spec_MetaOk_0]
      unfold marksAt at hp
      rw [getD_get' hi] at hp
      simp (disch := first | omega | assumption) only [br_t, br_f, br_tf, br_ft, br_nb, s_ofN, br_lt, br_inR, idx1, br_isL, s_getG, s_getN, s_getC, v_spec_MarksOk, feed_bool, feed_done, hp, s_inc]
      exact hJ
    · have b2 := hb.bits.2 _ (List.getElem_mem hi)
      rw [eh_spec_MetaOk_0]
      unfold marksAt at hp
      rw [getD_get' hi] at hp
      simp (disch := first | omega | assumption) only [br_t, br_f, br_tf, br_ft, br_nb, s_ofN, br_lt, br_inR, idx1, br_isL, s_getG, s_getN, s_getC, v_spec_MarksOk, feed_bool, feed_done, hp]
    · rw [eh_spec_MetaOk_0]
      simp (disch := first | omega | assumption) only [s_ofN, br_nlt, v_spec_GensOk, feed_bool, feed_done, v_l1In]
      simp only [s_lt, s_eq]
      generalize gensOkF m.gens = a
      generalize decide (0 < (m.gens.length : Int)) = b
      generalize ((m.bits.length : Int) == 3) = c
      generalize decide (0 ≤ m.last ∧ m.last ≤ 200) = d
      generalize m.old = e
      generalize m.held = f
      cases a <;> cases b <;> cases c <;> cases d <;> cases e <;> cases f <;> rfl
  · rw [e_spec_MetaOk]
    exact hJ
theorem c_impl_MetaOk (g : Bool) (m : MMeta) (hb : OkMeta m) : Cm 94 [.agg (eMeta (some g) m)] (.bool (metaOkF m), [.undef]) := by
  have b0 := hb.gens
  have hm := cvP_eq (c_marksAll g m.bits hb.bits) (by kernel_rfl)
  refine Cm.fin k_impl_MetaOk fun J => ?_
  rw [e_impl_MetaOk]
  simp (disch := first | omega | assumption) only [s_ofN, v_impl_GensOk, hm, feed_bool, feed_done, v_impl_from, s_lt]
  unfold metaOkF
  generalize gensOkF m.gens = a
  generalize decide (0 < (m.gens.length : Int)) = b
  generalize ((m.bits.length : Int) == 3) = c
  generalize decide (0 ≤ m.last ∧ m.last ≤ 200) = d
  generalize m.old = e
  generalize m.held = f
  generalize marksAllF m.bits = k
  show (br a (br b (br (c && k) _ _) _) _) = _
  cases a <;> cases b <;> cases c <;> cases d <;> cases e <;> cases f <;> cases k <;> rfl
section
variable (t : Tel Rz)
theorem v_spec_MetaOk (g : Bool) (m : MMeta) (hb : OkMeta m) : cvP 88 [.agg (eMeta (some g) m)] t = feed t [.bool (metaOkF m)] := cvP_eq (c_spec_MetaOk g m hb) (by kernel_rfl) t
theorem v_impl_MetaOk (g : Bool) (m : MMeta) (hb : OkMeta m) : cvP 94 [.agg (eMeta (some g) m)] t = feed t [.bool (metaOkF m)] := cvP_eq (c_impl_MetaOk g m hb) (by kernel_rfl) t
end
def sameF (m k : MMeta) : Bool := decide (m.gens = k.gens) && (decide (m.bits = k.bits) && ((m.fine == k.fine) && ((m.old == k.old) && ((m.held == k.held) && (m.last == k.last)))))
theorem c_impl_SameMeta (g h : Bool) (m k : MMeta) (hm : OkMeta m) (hk : OkMeta k) : Cm 97 [.agg (eMeta (some g) m), .agg (eMeta (some h) k)] (.bool (sameF m k), [.undef, .undef]) := by
  have b0 := hm.gens
  have b1 := hk.gens
  have he := cvP_eq (c_EqualFunc g h m.bits k.bits hm.bits hk.bits) (by kernel_rfl)
  refine Cm.fin k_impl_SameMeta fun J => ?_
  rw [e_impl_SameMeta]
  simp (disch := first | omega | assumption) only [v_Equal, he, feed_bool, feed_done, s_beq, s_eq]
  unfold sameF
  generalize decide (m.gens = k.gens) = a
  generalize decide (m.bits = k.bits) = b
  generalize (m.fine == k.fine) = c
  generalize (m.old == k.old) = d
  generalize (m.held == k.held) = e
  generalize (m.last == k.last) = f
  show (br a (br b _ _) _) = _
  cases a <;> cases b <;> cases c <;> cases d <;> cases e <;> cases f <;> rfl
theorem c_spec_SameMeta (g h : Bool) (m k : MMeta) (hm : OkMeta m) (hk : OkMeta k) : Cm 91 [.agg (eMeta (some g) m), .agg (eMeta (some h) k)] (.bool (sameF m k), [.undef, .undef]) := by
  have b0 := hm.gens
  have b1 := hk.gens
  have b2 := hm.bits.1
  have fin : sameF m k = false → (m.bits.length = k.bits.length → (decide (m.gens = k.gens) && ((m.fine == k.fine) && ((m.old == k.old) && ((m.held == k.held) && (m.last == k.last))))) = false) → Cm 91 [.agg (eMeta (some g) m), .agg (eMeta (some h) k)] (.bool (sameF m k), [.undef, .undef]) := by
    intro hs hq
    rw [hs]
    refine Cm.fin k_spec_SameMeta fun J => ?_
    rw [e_spec_SameMeta]
    by_cases hl : m.bits.length = k.bits.length
    · have hq := hq hl
      simp (disch := first | omega | assumption) only [v_l5Same, feed_bool, feed_done, s_beq, s_ofN, br_eq, br_ft, br_nb, br_t, br_f]
      simp only [s_eq]
      revert hq
      generalize decide (m.gens = k.gens) = a
      generalize (m.fine == k.fine) = c
      generalize (m.old == k.old) = d
      generalize (m.held == k.held) = e
      generalize (m.last == k.last) = f
      cases a <;> cases c <;> cases d <;> cases e <;> cases f <;> first | (intro _; rfl) | (intro hq; exact absurd hq (by decide))
    · simp (disch := first | omega | assumption) only [s_ofN, br_neq, br_ft, br_nb, br_t, br_f]
  by_cases hl : m.bits.length = k.bits.length
  · cases hq : (decide (m.gens = k.gens) && ((m.fine == k.fine) && ((m.old == k.old) && ((m.held == k.held) && (m.last == k.last))))) with
    | false =>
      refine fin ?_ fun _ => hq
      revert hq
      unfold sameF
      generalize decide (m.gens = k.gens) = a
      generalize decide (m.bits = k.bits) = b
      generalize ((m.fine == k.fine) && ((m.old == k.old) && ((m.held == k.held) && (m.last == k.last)))) = c
      cases a <;> cases b <;> cases c <;> simp
    | true =>
      have hs : sameF m k = decide (m.bits = k.bits) := by
        revert hq
        unfold sameF
        generalize decide (m.gens = k.gens) = a
        generalize decide (m.bits = k.bits) = b
        generalize ((m.fine == k.fine) && ((m.old == k.old) && ((m.held == k.held) && (m.last == k.last)))) = c
        cases a <;> cases b <;> cases c <;> simp
      simp only [Bool.and_eq_true] at hq
      rw [hs, ← all_eq [] _ _ hl, ← if_bool]
      refine Cm.go k_spec_SameMeta [.undef, .undef] 0 (h_spec_SameMeta_0 (0 : Nat) g m.gens.length (ints m.gens) g m.bits.length (rows (some g) m.bits) m.fine m.old m.held m.last h k.gens.length (ints k.gens) h k.bits.length (rows (some h) k.bits) k.fine k.old k.held k.last) ?_ fun J hJ => ?_
      · refine WP.scan (H := fun i : Nat => h_spec_SameMeta_0 (i : Nat) g m.gens.length (ints m.gens) g m.bits.length (rows (some g) m.bits) m.fine m.old m.held m.last h k.gens.length (ints k.gens) h k.bits.length (rows (some h) k.bits) k.fine k.old k.held k.last) _ (fun i r hi hp ih => WP.go _ ih fun J hJ => ?_) (fun i hi hp => WP.fin fun J => ?_) (WP.fin fun J => ?_)
        · have h2 : i < k.bits.length := by omega
          have b3 := hm.bits.2 _ (List.getElem_mem hi)
          have b4 := hk.bits.2 _ (List.getElem_mem h2)
          rw [eh_spec_SameMeta_0]
          rw [getD_get' hi, getD_get' h2] at hp
          simp (disch := first | omega | assumption) only [br_t, br_f, br_tf, br_ft, br_nb, s_ofN, br_lt, br_inR, idx1, br_isL, s_getG, s_getN, s_getC, v_l5Same, feed_bool, feed_done, hp, s_inc]
          exact hJ
        · have h2 : i < k.bits.length := by omega
          have b3 := hm.bits.2 _ (List.getElem_mem hi)
          have b4 := hk.bits.2 _ (List.getElem_mem h2)
          rw [eh_spec_SameMeta_0]
          rw [getD_get' hi, getD_get' h2] at hp
          simp (disch := first | omega | assumption) only [br_t, br_f, br_tf, br_ft, br_nb, s_ofN, br_lt, br_inR, idx1, br_isL, s_getG, s_getN, s_getC, v_l5Same, feed_bool, feed_done, hp]
        · rw [eh_spec_SameMeta_0]
          simp (disch := omega) only [s_ofN, br_nlt]
      · rw [e_spec_SameMeta]
        simp (disch := first | omega | assumption) only [v_l5Same, feed_bool, feed_done, s_beq, s_ofN, s_eq, hq.1, hq.2.1, hq.2.2.1, hq.2.2.2.1, hq.2.2.2.2, br_ft, br_nb, br_t]
        have e1 : ((m.bits.length : Int) == (k.bits.length : Int)) = true := by simp [hl]
        rw [e1]
        exact hJ
  · refine fin ?_ fun h => absurd h hl
    have : m.bits ≠ k.bits := fun e => hl (e ▸ rfl)
    unfold sameF
    rw [decide_eq_false this, Bool.false_and, Bool.and_false]
end Go.Proofs.Ytkejckoefjonjaa
namespace Go.Proofs.Ytkejckoefjonjaa
set_option maxRecDepth 100000
section
variable (pr : Prims) (cv : Cv Rz) (J : Nat → St → Option Rz)
def h_spec_PutNum_0 (i0 : Int) (n1 : Nat) (c2 : List D) : St := (St.mk [(0, (.int .i64 i0)), (3, (.ref 10003 [] 0 none))] [(10003, [(.sl none 1 n1 c2)])] [] 0)
theorem k_spec_PutNum : Told cfg Try.prog 137 Try.f137 := ⟨by kernel_rfl, Try.func137, by kernel_rfl⟩
theorem e_spec_PutNum (a0 : Int) : RunJ pr cv J 137 Try.f137 [(.int .i64 a0)] =
    (cv 36 [(.int .i64 a0), (.int .i64 0), (.int .i64 2147483647)] (.bool (fun vb0 => (.done (br (br vb0 false true) (some ((.sl none 1 0 []), [.undef])) (J 0 (h_spec_PutNum_0 a0 0 []))))))) := by kernel_rfl
theorem eh_spec_PutNum_0 (i0 : Int) (n1 : Nat) (c2 : List D) : HeadJ pr cv J 137 Try.f137 [.undef] 0 (h_spec_PutNum_0 i0 n1 c2) =
    let y1 : List D := [(.int .u8 (pr.wrap .u8 (pr.ar .add .i64 (pr.ar .rem .i64 i0 128) 128)))]
    (br (pr.lt 127 i0) (br (br (pr.eq 128 0) false true) (br (br (pr.flat y1) (pr.fits (n1 + 1) 1) false) (br (br (pr.eq 128 0) false true) (J 0 (h_spec_PutNum_0 (pr.ar .quo .i64 i0 128) (n1 + 1) (List.append c2 y1))) none) none) none) (br (br (pr.flat [(.int .u8 (pr.wrap .u8 i0))]) (pr.fits (n1 + 1) 1) false) (some ((.sl none 1 (n1 + 1) (List.append c2 [(.int .u8 (pr.wrap .u8 i0))])), [.undef])) none)) := by kernel_rfl
def h_impl_PutNum_0 (i0 : Int) (n1 : Nat) (c2 : List D) : St := (St.mk [(0, (.int .i64 i0)), (3, (.ref 10003 [] 0 none))] [(10003, [(.sl none 1 n1 c2)])] [] 0)
theorem k_impl_PutNum : Told cfg Try.prog 147 Try.f147 := ⟨by kernel_rfl, Try.func147, by kernel_rfl⟩
theorem e_impl_PutNum (a0 : Int) : RunJ pr cv J 147 Try.f147 [(.int .i64 a0)] =
    let y1 : Option (D × List D) := (some ((.sl none 1 0 []), [.undef]))
    (br (pr.lt a0 0) y1 (br (pr.lt 2147483647 a0) y1 (J 0 (h_impl_PutNum_0 a0 0 [])))) := by kernel_rfl
theorem eh_impl_PutNum_0 (i0 : Int) (n1 : Nat) (c2 : List D) : HeadJ pr cv J 147 Try.f147 [.undef] 0 (h_impl_PutNum_0 i0 n1 c2) =
    let y1 : List D := [(.int .u8 (pr.wrap .u8 (pr.ar .add .i64 (pr.ar .rem .i64 i0 128) 128)))]
    (br (pr.lt 127 i0) (br (br (pr.eq 128 0) false true) (br (br (pr.flat y1) (pr.fits (Nat.succ n1) 1) false) (br (br (pr.eq 128 0) false true) (J 0 (h_impl_PutNum_0 (pr.ar .quo .i64 i0 128) (Nat.succ n1) (List.append c2 y1))) none) none) none) (br (br (pr.flat [(.int .u8 (pr.wrap .u8 i0))]) (pr.fits (Nat.succ n1) 1) false) (some ((.sl none 1 (Nat.succ n1) (List.append c2 [(.int .u8 (pr.wrap .u8 i0))])), [.undef])) none)) := by kernel_rfl
def h_spec_GetNum_0 (g0 : Bool) (n1 : Nat) (c2 : List D) (i3 : Int) (i4 : Int) (i5 : Int) : St := (St.mk [(0, (.sl (some g0) 1 n1 c2)), (1, (.int .i64 i3)), (7, (.int .i64 i4)), (8, (.int .i64 i5))] [] [] 0)
theorem k_spec_GetNum : Told cfg Try.prog 136 Try.f136 := ⟨by kernel_rfl, Try.func136, by kernel_rfl⟩
theorem e_spec_GetNum (g0 : Bool) (n0 : Nat) (c0 : List D) (a1 : Int) : RunJ pr cv J 136 Try.f136 [(.sl (some g0) 1 n0 c0), (.int .i64 a1)] =
    (J 0 (h_spec_GetNum_0 g0 n0 c0 a1 0 0)) := by kernel_rfl
theorem eh_spec_GetNum_0 (g0 : Bool) (n1 : Nat) (c2 : List D) (i3 : Int) (i4 : Int) (i5 : Int) : HeadJ pr cv J 136 Try.f136 [.undef, .undef] 0 (h_spec_GetNum_0 g0 n1 c2 i3 i4 i5) =
    let y1 : Option (D × List D) := (some ((.tup [(.int .i64 0), (.int .i64 0), (.bool false)]), [.undef, .undef]))
    let y2 : Int := (pr.wrap .i64 (pr.getI c2 (pr.idx 0 (pr.ar .add .i64 i3 i5) 1)))
    let y3 : Int := (pr.ar .or .i64 i4 (pr.ar .shl .i64 (pr.ar .rem .i64 y2 128) (pr.ar .mul .i64 7 i5)))
    let y4 : D := (.int .i64 y3)
    let y5 : Option (D × List D) := (br (pr.lt 2147483647 y3) y1 (some ((.tup [y4, (.int .i64 (pr.ar .add .i64 (pr.ar .add .i64 i3 i5) 1)), (.bool true)]), [.undef, .undef])))
    (br (pr.lt i5 5) (br (pr.lt i3 0) y1 (br (pr.le (pr.ar .sub .i64 (pr.ofN n1) i5) i3) y1 (br (pr.inR (pr.ar .add .i64 i3 i5) n1) (br (br (pr.isI .u8 c2 (pr.idx 0 (pr.ar .add .i64 i3 i5) 1)) true false) (br (br (pr.eq 128 0) false true) (br (br (pr.lt (pr.ar .mul .i64 7 i5) 0) false true) (br (pr.lt y2 128) (br (pr.lt 0 i5) (br (pr.eq y2 0) y1 y5) y5) (J 0 (h_spec_GetNum_0 g0 n1 c2 i3 y3 (pr.ar .add .i64 i5 1)))) none) none) none) none))) y1) := by kernel_rfl
def h_impl_GetNum_0 (g0 : Bool) (n1 : Nat) (c2 : List D) (i3 : Int) (i4 : Int) (i5 : Int) (i6 : Int) : St := (St.mk [(0, (.sl (some g0) 1 n1 c2)), (1, (.int .i64 i3)), (7, (.int .i64 i4)), (8, (.int .i64 i5)), (9, (.int .i64 i6))] [] [] 0)
theorem k_impl_GetNum : Told cfg Try.prog 143 Try.f143 := ⟨by kernel_rfl, Try.func143, by kernel_rfl⟩
theorem e_impl_GetNum (g0 : Bool) (n0 : Nat) (c0 : List D) (a1 : Int) : RunJ pr cv J 143 Try.f143 [(.sl (some g0) 1 n0 c0), (.int .i64 a1)] =
    (br (pr.lt a1 0) (some ((.tup [(.int .i64 0), (.int .i64 0), (.bool false)]), [.undef, .undef])) (J 0 (h_impl_GetNum_0 g0 n0 c0 a1 0 1 0))) := by kernel_rfl
theorem eh_impl_GetNum_0 (g0 : Bool) (n1 : Nat) (c2 : List D) (i3 : Int) (i4 : Int) (i5 : Int) (i6 : Int) : HeadJ pr cv J 143 Try.f143 [.undef, .undef] 0 (h_impl_GetNum_0 g0 n1 c2 i3 i4 i5 i6) =
    let y1 : Int := (pr.wrap .i64 (pr.getI c2 (pr.idx 0 (pr.ar .add .i64 i3 i6) 1)))
    let y2 : Int := (pr.ar .add .i64 i4 (pr.ar .mul .i64 (pr.ar .rem .i64 y1 128) i5))
    let y3 : Option (D × List D) := (some ((.tup [(.int .i64 0), (.int .i64 0), (.bool false)]), [.undef, .undef]))
    let y4 : D := (.int .i64 y2)
    let y5 : Option (D × List D) := (some ((.tup [y4, (.int .i64 (pr.ar .add .i64 (pr.ar .add .i64 i3 i6) 1)), (.bool true)]), [.undef, .undef]))
    (br (pr.lt i6 5) (br (pr.lt i3 (pr.ar .sub .i64 (pr.ofN n1) i6)) (br (pr.inR (pr.ar .add .i64 i3 i6) n1) (br (br (pr.isI .u8 c2 (pr.idx 0 (pr.ar .add .i64 i3 i6) 1)) true false) (br (br (pr.eq 128 0) false true) (br (pr.le 128 y1) (J 0 (h_impl_GetNum_0 g0 n1 c2 i3 y2 (pr.ar .mul .i64 i5 128) (pr.ar .add .i64 i6 1))) (br (pr.lt 2147483647 y2) y3 (br (pr.eq y1 0) (br (pr.lt 0 i6) y3 y5) y5))) none) none) none) y3) y3) := by kernel_rfl
theorem k_spec_l4Sum : Told cfg Try.prog 131 Try.f131 := ⟨by kernel_rfl, Try.func131, by kernel_rfl⟩
theorem e_spec_l4Sum (a0 : Int) : RunJ pr cv J 131 Try.f131 [(.int .i64 a0)] =
    (br (br (pr.lt 8 0) false true) (br (br (pr.lt 16 0) false true) (br (br (pr.lt 24 0) false true) (some ((.sl none 1 4 [(.int .u8 (pr.wrap .u8 (pr.ar .and .i64 a0 255))), (.int .u8 (pr.wrap .u8 (pr.ar .and .i64 (pr.ar .shr .i64 a0 8) 255))), (.int .u8 (pr.wrap .u8 (pr.ar .and .i64 (pr.ar .shr .i64 a0 16) 255))), (.int .u8 (pr.wrap .u8 (pr.ar .and .i64 (pr.ar .shr .i64 a0 24) 255)))]), [.undef])) none) none) none) := by kernel_rfl
end
theorem s_quoN {a b : Nat} (h : a < 9223372036854775808) : std.ar .quo .i64 (a : Int) (b : Int) = ((a / b : Nat) : Int) := by
  have e : (a : Int).tdiv (b : Int) = ((a / b : Nat) : Int) := rfl
  have := Nat.div_le_self a b
  show IntKind.i64.wrap ((a : Int).tdiv (b : Int)) = _
  rw [e]
  generalize a / b = q at this
  rw [wrap64 (by omega) (by omega)]
theorem s_addN {a b : Nat} (h : a + b < 9223372036854775808) : std.ar .add .i64 (a : Int) (b : Int) = ((a + b : Nat) : Int) := by
  rw [s_add (by omega) (by omega)]
  omega
theorem s_mulN {a b : Nat} (h : a * b < 9223372036854775808) : std.ar .mul .i64 (a : Int) (b : Int) = ((a * b : Nat) : Int) := by
  have e : (a : Int) * (b : Int) = ((a * b : Nat) : Int) := by simp
  show IntKind.i64.wrap ((a : Int) * (b : Int)) = _
  rw [e, wrap64 (by omega) (by omega)]
theorem s_wrap64N {a : Nat} (h : a < 9223372036854775808) : std.wrap .i64 (a : Int) = (a : Int) := wrap64 (by omega) (by omega)
theorem s_orN {a b : Nat} (ha : a < 4611686018427387904) (hb : b < 4611686018427387904) : std.ar .or .i64 (a : Int) (b : Int) = ((a ||| b : Nat) : Int) := by
  show IntKind.i64.wrap ((BitVec.ofInt 64 (a : Int) ||| BitVec.ofInt 64 (b : Int)).toNat : Int) = _
  have h : (a ||| b) < 2 ^ 62 := Nat.or_lt_two_pow (by omega) (by omega)
  have e : (BitVec.ofInt 64 (a : Int) ||| BitVec.ofInt 64 (b : Int)).toNat = a ||| b := by
    rw [BitVec.toNat_or, BitVec.ofInt_natCast, BitVec.ofInt_natCast, BitVec.toNat_ofNat, BitVec.toNat_ofNat, Nat.mod_eq_of_lt (by omega), Nat.mod_eq_of_lt (by omega)]
  rw [e, wrap64 (by omega) (by omega)]
theorem s_andN {a b : Nat} (ha : a < 4611686018427387904) (hb : b < 4611686018427387904) : std.ar .and .i64 (a : Int) (b : Int) = ((a &&& b : Nat) : Int) := by
  show IntKind.i64.wrap ((BitVec.ofInt 64 (a : Int) &&& BitVec.ofInt 64 (b : Int)).toNat : Int) = _
  have h : (a &&& b) ≤ b := Nat.and_le_right
  have e : (BitVec.ofInt 64 (a : Int) &&& BitVec.ofInt 64 (b : Int)).toNat = a &&& b := by
    rw [BitVec.toNat_and, BitVec.ofInt_natCast, BitVec.ofInt_natCast, BitVec.toNat_ofNat, BitVec.toNat_ofNat, Nat.mod_eq_of_lt (by omega), Nat.mod_eq_of_lt (by omega)]
  rw [e, wrap64 (by omega) (by omega)]
theorem s_shlN {a k : Nat} (hk : k ≤ 64) (h : a * 2 ^ k < 9223372036854775808) : std.ar .shl .i64 (a : Int) (k : Int) = ((a * 2 ^ k : Nat) : Int) := by
  show IntKind.i64.wrap ((a : Int) * 2 ^ (min ((k : Int).toNat) 64)) = _
  have e : min ((k : Int).toNat) 64 = k := by omega
  have e2 : (a : Int) * 2 ^ k = ((a * 2 ^ k : Nat) : Int) := by simp
  rw [e, e2, wrap64 (by omega) (by omega)]
theorem s_shrN (a : Nat) {k : Nat} (hk : k ≤ 64) : std.ar .shr .i64 (a : Int) (k : Int) = ((a / 2 ^ k : Nat) : Int) := by
  show (a : Int).fdiv (2 ^ (min ((k : Int).toNat) 64)) = _
  have e : min ((k : Int).toNat) 64 = k := by omega
  have e2 : ((2 : Int) ^ k) = ((2 ^ k : Nat) : Int) := by simp
  rw [e, e2, ← Int.ofNat_fdiv]
theorem or_add {a x k : Nat} (h : a < 2 ^ k) : a ||| x * 2 ^ k = a + x * 2 ^ k := by
  rw [Nat.or_comm, Nat.mul_comm x, ← Nat.two_pow_add_eq_or_of_lt h, Nat.add_comm]
theorem s_byteN (x : Nat) : D.int .u8 (std.wrap .u8 (x : Int)) = byteD (UInt8.ofNat x) := by
  show D.int .u8 (IntKind.u8.wrap (x : Int)) = _
  simp only [byteD, IntKind.wrap, IntKind.bits, IntKind.signed]
  simp
theorem br_flat8 {R : Type} {x y : R} (xs : List UInt8) : br (std.flat (bytes xs)) x y = x := by
  have : std.flat (bytes xs) = true := by
    show (bytes xs).all flatC = true
    rw [List.all_eq_true]
    intro d hd
    obtain ⟨a, _, rfl⟩ := List.mem_map.1 hd
    rfl
  rw [this, br_t]
theorem bytes1 (x : UInt8) : [byteD x] = bytes [x] := rfl
theorem bytes_app (xs ys : List UInt8) : List.append (bytes xs) (bytes ys) = bytes (xs ++ ys) := by simp [bytes]
def putL (n : Nat) : List UInt8 := if h : n < 128 then [UInt8.ofNat n] else UInt8.ofNat (n % 128 + 128) :: putL (n / 128)
termination_by n
decreasing_by omega
theorem putL_length : ∀ (k n : Nat), n < 128 ^ (k + 1) → (putL n).length ≤ k + 1
  | 0, n, h => by
    rw [putL, dif_pos (by omega)]
    simp
  | k + 1, n, h => by
    rw [putL]
    split
    · simp
    · have : n / 128 < 128 ^ (k + 1) := by
        apply Nat.div_lt_of_lt_mul
        rw [Nat.pow_succ] at h
        omega
      have := putL_length k (n / 128) this
      simp only [List.length_cons]
      omega
def putF (a : Int) : List UInt8 := if 0 ≤ a ∧ a ≤ 2147483647 then putL a.toNat else []
theorem putF_length (a : Int) : (putF a).length ≤ 5 := by
  unfold putF
  split
  · exact putL_length 4 _ (by omega)
  · simp
theorem w_spec_PutNum : ∀ (k n : Nat) (acc : List UInt8), n < 128 ^ (k + 1) → n < 2147483648 → acc.length + (putL n).length < 1000000 → WP 137 Try.f137 [.undef] 0 (h_spec_PutNum_0 (n : Int) acc.length (bytes acc)) (.sl none 1 (acc ++ putL n).length (bytes (acc ++ putL n)), [.undef])
  | k, n, acc, hk, hn, hl => by
    by_cases h : n < 128
    · refine WP.fin fun J => ?_
      rw [eh_spec_PutNum_0, putL, dif_pos h]
      rw [putL, dif_pos h] at hl
      simp only [List.length_singleton] at hl
      simp (disch := omega) only [br_nlt, s_byteN, bytes1, br_flat8, br_fits, br_t, bytes_app, br_tf, br_same]
      simp
    · cases k with
      | zero => omega
      | succ k =>
        have e : acc ++ putL n = (acc ++ [UInt8.ofNat (n % 128 + 128)]) ++ putL (n / 128) := by
          conv => lhs; rw [putL, dif_neg h]
          simp
        have hlen : (putL n).length = (putL (n / 128)).length + 1 := by
          conv => lhs; rw [putL, dif_neg h]
          simp
        have hd : n / 128 < 128 ^ (k + 1) := by
          apply Nat.div_lt_of_lt_mul
          rw [Nat.pow_succ] at hk
          omega
        have ih := w_spec_PutNum k (n / 128) (acc ++ [UInt8.ofNat (n % 128 + 128)]) hd (by omega) (by simp only [List.length_append, List.length_singleton]; omega)
        rw [e]
        refine WP.go _ ih fun J hJ => ?_
        rw [eh_spec_PutNum_0]
        have r1 : std.ar .rem .i64 (n : Int) 128 = ((n % 128 : Nat) : Int) := rfl
        have r2 : std.ar .add .i64 ((n % 128 : Nat) : Int) 128 = ((n % 128 + 128 : Nat) : Int) := s_addN (b := 128) (by omega)
        have r3 : std.ar .quo .i64 (n : Int) 128 = ((n / 128 : Nat) : Int) := s_quoN (b := 128) (by omega)
        simp (disch := omega) only [br_lt, br_neq, br_ft, br_nb, br_t, br_f, r1, r2, r3, s_byteN, bytes1, br_flat8, br_fits, bytes_app]
        have e2 : (acc ++ [UInt8.ofNat (n % 128 + 128)]).length = acc.length + 1 := by simp
        rw [e2] at hJ
        exact hJ
theorem c_spec_PutNum (a : Int) : Cm 137 [.int .i64 a] (.sl none 1 (putF a).length (bytes (putF a)), [.undef]) := by
  by_cases h : 0 ≤ a ∧ a ≤ 2147483647
  · obtain ⟨n, rfl⟩ : ∃ n : Nat, a = n := ⟨a.toNat, by omega⟩
    have e : putF (n : Int) = putL n := by unfold putF; rw [if_pos h]; rfl
    rw [e]
    have hl := putL_length 4 n (by omega)
    refine Cm.go k_spec_PutNum [.undef] 0 (h_spec_PutNum_0 (n : Int) 0 []) (w_spec_PutNum 4 n [] (by omega) (by omega) (by simp; omega)) fun J hJ => ?_
    rw [e_spec_PutNum]
    simp only [v_l1In, feed_bool, feed_done, decide_eq_true h, br_ft, br_nb, br_t, br_f]
    exact hJ
  · have e : putF a = [] := by unfold putF; rw [if_neg h]
    rw [e]
    refine Cm.fin k_spec_PutNum fun J => ?_
    rw [e_spec_PutNum]
    simp only [v_l1In, feed_bool, feed_done, decide_eq_false h, br_ft, br_nb, br_t, br_f]
    rfl
theorem w_impl_PutNum : ∀ (k n : Nat) (acc : List UInt8), n < 128 ^ (k + 1) → n < 2147483648 → acc.length + (putL n).length < 1000000 → WP 147 Try.f147 [.undef] 0 (h_impl_PutNum_0 (n : Int) acc.length (bytes acc)) (.sl none 1 (acc ++ putL n).length (bytes (acc ++ putL n)), [.undef])
  | k, n, acc, hk, hn, hl => by
    by_cases h : n < 128
    · refine WP.fin fun J => ?_
      rw [eh_impl_PutNum_0, putL, dif_pos h]
      rw [putL, dif_pos h] at hl
      simp only [List.length_singleton] at hl
      simp (disch := omega) only [br_nlt, s_byteN, bytes1, br_flat8, br_fits, br_t, bytes_app, br_tf, br_same]
      simp
    · cases k with
      | zero => omega
      | succ k =>
        have e : acc ++ putL n = (acc ++ [UInt8.ofNat (n % 128 + 128)]) ++ putL (n / 128) := by
          conv => lhs; rw [putL, dif_neg h]
          simp
        have hlen : (putL n).length = (putL (n / 128)).length + 1 := by
          conv => lhs; rw [putL, dif_neg h]
          simp
        have hd : n / 128 < 128 ^ (k + 1) := by
          apply Nat.div_lt_of_lt_mul
          rw [Nat.pow_succ] at hk
          omega
        have ih := w_impl_PutNum k (n / 128) (acc ++ [UInt8.ofNat (n % 128 + 128)]) hd (by omega) (by simp only [List.length_append, List.length_singleton]; omega)
        rw [e]
        refine WP.go _ ih fun J hJ => ?_
        rw [eh_impl_PutNum_0]
        have r1 : std.ar .rem .i64 (n : Int) 128 = ((n % 128 : Nat) : Int) := rfl
        have r2 : std.ar .add .i64 ((n % 128 : Nat) : Int) 128 = ((n % 128 + 128 : Nat) : Int) := s_addN (b := 128) (by omega)
        have r3 : std.ar .quo .i64 (n : Int) 128 = ((n / 128 : Nat) : Int) := s_quoN (b := 128) (by omega)
        simp (disch := omega) only [br_lt, br_neq, br_ft, br_nb, br_t, br_f, r1, r2, r3, s_byteN, bytes1, br_flat8, br_fits, bytes_app]
        have e2 : (acc ++ [UInt8.ofNat (n % 128 + 128)]).length = acc.length + 1 := by simp
        rw [e2] at hJ
        exact hJ
theorem c_impl_PutNum (a : Int) : Cm 147 [.int .i64 a] (.sl none 1 (putF a).length (bytes (putF a)), [.undef]) := by
  by_cases h : 0 ≤ a ∧ a ≤ 2147483647
  · obtain ⟨n, rfl⟩ : ∃ n : Nat, a = n := ⟨a.toNat, by omega⟩
    have e : putF (n : Int) = putL n := by unfold putF; rw [if_pos h]; rfl
    rw [e]
    have hl := putL_length 4 n (by omega)
    refine Cm.go k_impl_PutNum [.undef] 0 (h_impl_PutNum_0 (n : Int) 0 []) (w_impl_PutNum 4 n [] (by omega) (by omega) (by simp; omega)) fun J hJ => ?_
    rw [e_impl_PutNum]
    simp (disch := omega) only [br_nlt]
    exact hJ
  · have e : putF a = [] := by unfold putF; rw [if_neg h]
    rw [e]
    refine Cm.fin k_impl_PutNum fun J => ?_
    rw [e_impl_PutNum]
    by_cases h0 : a < 0
    · simp (disch := omega) only [br_lt]
      rfl
    · simp (disch := omega) only [br_nlt, br_lt]
      rfl
section
variable (t : Tel Rz)
theorem v_spec_PutNum (a : Int) : cvP 137 [.int .i64 a] t = feed t [.sl none 1 (putF a).length (bytes (putF a))] := cvP_eq (c_spec_PutNum a) (by kernel_rfl) t
theorem v_impl_PutNum (a : Int) : cvP 147 [.int .i64 a] t = feed t [.sl none 1 (putF a).length (bytes (putF a))] := cvP_eq (c_impl_PutNum a) (by kernel_rfl) t
end
def fourL (a : Nat) : List UInt8 := [UInt8.ofNat a, UInt8.ofNat (a / 256), UInt8.ofNat (a / 65536), UInt8.ofNat (a / 16777216)]
theorem c_four (a : Nat) (h : a < 4611686018427387904) : Cm 142 [.int .i64 (a : Int)] (.sl none 1 4 (bytes (fourL a)), [.undef]) := by
  refine Cm.fin k_impl_four fun J => ?_
  rw [e_impl_four]
  have r1 : std.ar .shr .i64 (a : Int) 8 = ((a / 256 : Nat) : Int) := s_shrN a (k := 8) (by omega)
  have r2 : std.ar .shr .i64 (a : Int) 16 = ((a / 65536 : Nat) : Int) := s_shrN a (k := 16) (by omega)
  have r3 : std.ar .shr .i64 (a : Int) 24 = ((a / 16777216 : Nat) : Int) := s_shrN a (k := 24) (by omega)
  simp (disch := omega) only [br_nlt, br_ft, br_nb, br_t, br_f, r1, r2, r3, s_byteN]
  rfl
theorem byte255 (x : Nat) : UInt8.ofNat (x &&& 255) = UInt8.ofNat x := by
  apply UInt8.toNat_inj.1
  have : x &&& 255 = x % 256 := Nat.and_two_pow_sub_one_eq_mod x 8
  rw [this]
  simp
theorem c_l4Sum (a : Nat) (h : a < 4611686018427387904) : Cm 131 [.int .i64 (a : Int)] (.sl none 1 4 (bytes (fourL a)), [.undef]) := by
  refine Cm.fin k_spec_l4Sum fun J => ?_
  rw [e_spec_l4Sum]
  have r1 : std.ar .shr .i64 (a : Int) 8 = ((a / 256 : Nat) : Int) := s_shrN a (k := 8) (by omega)
  have r2 : std.ar .shr .i64 (a : Int) 16 = ((a / 65536 : Nat) : Int) := s_shrN a (k := 16) (by omega)
  have r3 : std.ar .shr .i64 (a : Int) 24 = ((a / 16777216 : Nat) : Int) := s_shrN a (k := 24) (by omega)
  have q : ∀ x : Nat, x < 4611686018427387904 → std.ar .and .i64 (x : Int) 255 = ((x &&& 255 : Nat) : Int) := fun x hx => s_andN (b := 255) hx (by omega)
  simp (disch := omega) only [br_nlt, br_ft, br_nb, br_t, br_f, r1, r2, r3, q, s_byteN, byte255]
  rfl
def noNum : Int × Int × Bool := (0, 0, false)
def getL (b : List UInt8) (p : Nat) : Nat → Nat → Nat → Int × Int × Bool
  | 0, _, _ => noNum
  | k + 1, i, acc =>
    if h : p + i < b.length then
      if 128 ≤ b[p + i].toNat then getL b p k (i + 1) (acc + b[p + i].toNat % 128 * 128 ^ i)
      else if 2147483647 < acc + b[p + i].toNat % 128 * 128 ^ i ∨ (b[p + i].toNat = 0 ∧ 0 < i) then noNum
      else (((acc + b[p + i].toNat % 128 * 128 ^ i : Nat) : Int), ((p + i + 1 : Nat) : Int), true)
    else noNum
def getF (b : List UInt8) (a : Int) : Int × Int × Bool := if a < 0 then noNum else getL b a.toNat 5 0 0
abbrev rzNum (x : Int × Int × Bool) : Rz := (.tup [.int .i64 x.1, .int .i64 x.2.1, .bool x.2.2], [.undef, .undef])
theorem pow128 (i : Nat) : 128 ^ i = 2 ^ (7 * i) := by rw [Nat.pow_mul]
theorem w_impl_GetNum (g : Bool) (b : List UInt8) (p : Nat) (hb : b.length < 4611686018427387904) : ∀ (k i acc : Nat), i + k = 5 → acc < 128 ^ i → WP 143 Try.f143 [.undef, .undef] 0 (h_impl_GetNum_0 g b.length (bytes b) (p : Int) (acc : Int) ((128 ^ i : Nat) : Int) (i : Int)) (rzNum (getL b p k i acc))
  | 0, i, acc, hi, ha => by
    obtain rfl : i = 5 := by omega
    refine WP.fin fun J => ?_
    rw [eh_impl_GetNum_0]
    simp (disch := omega) only [br_nlt]
    rfl
  | k + 1, i, acc, hi, ha => by
    have hpw : 128 ^ i ≤ 268435456 := by
      have : 128 ^ i ≤ 128 ^ 4 := Nat.pow_le_pow_right (by omega) (by omega)
      omega
    have hs : std.ar .sub .i64 (std.ofN b.length) (i : Int) = (b.length : Int) - (i : Int) := s_sub (by simp only [s_ofN]; omega) (by simp only [s_ofN]; omega)
    by_cases h : p + i < b.length
    · have hd : b[p + i].toNat < 256 := b[p + i].toNat_lt
      have hm : b[p + i].toNat % 128 < 128 := Nat.mod_lt _ (by omega)
      have hx : b[p + i].toNat % 128 * 128 ^ i ≤ 127 * 128 ^ i := Nat.mul_le_mul_right _ (by omega)
      have r0 : std.ar .add .i64 (p : Int) (i : Int) = ((p + i : Nat) : Int) := s_addN (by omega)
      have r1 : std.getI (bytes b) (p + i) = (b[p + i].toNat : Int) := s_getI8 h
      have r2 : std.wrap .i64 (b[p + i].toNat : Int) = (b[p + i].toNat : Int) := s_wrap64N (by omega)
      have r3 : std.ar .rem .i64 (b[p + i].toNat : Int) 128 = ((b[p + i].toNat % 128 : Nat) : Int) := rfl
      have r4 : std.ar .mul .i64 ((b[p + i].toNat % 128 : Nat) : Int) ((128 ^ i : Nat) : Int) = ((b[p + i].toNat % 128 * 128 ^ i : Nat) : Int) := s_mulN (by omega)
      have r5 : std.ar .add .i64 (acc : Int) ((b[p + i].toNat % 128 * 128 ^ i : Nat) : Int) = ((acc + b[p + i].toNat % 128 * 128 ^ i : Nat) : Int) := s_addN (by omega)
      by_cases hc : 128 ≤ b[p + i].toNat
      · have e : getL b p (k + 1) i acc = getL b p k (i + 1) (acc + b[p + i].toNat % 128 * 128 ^ i) := by
          rw [getL, dif_pos h, if_pos hc]
        rw [e]
        have ih := w_impl_GetNum g b p hb k (i + 1) (acc + b[p + i].toNat % 128 * 128 ^ i) (by omega) (by rw [Nat.pow_succ]; omega)
        refine WP.go _ ih fun J hJ => ?_
        rw [eh_impl_GetNum_0]
        have r6 : std.ar .mul .i64 ((128 ^ i : Nat) : Int) 128 = ((128 ^ i * 128 : Nat) : Int) := s_mulN (b := 128) (by omega)
        simp (disch := first | omega | assumption) only [hs, r0, idx1, r1, r2, r3, r4, r5, br_lt, br_inR, br_isI8, br_neq, br_tf, br_ft, br_nb, br_t, br_f, br_le, r6, s_inc]
        rw [← Nat.pow_succ]
        exact hJ
      · have r7 : std.ar .add .i64 ((p + i : Nat) : Int) 1 = ((p + i + 1 : Nat) : Int) := s_inc (by omega)
        refine WP.fin fun J => ?_
        rw [eh_impl_GetNum_0, getL, dif_pos h, if_neg hc]
        simp (disch := first | omega | assumption) only [hs, r0, idx1, r1, r2, r3, r4, r5, br_lt, br_inR, br_isI8, br_neq, br_tf, br_ft, br_nb, br_t, br_f, br_nle, r7]
        by_cases h1 : 2147483647 < acc + b[p + i].toNat % 128 * 128 ^ i
        · rw [if_pos (Or.inl h1), br_lt (by omega)]
          rfl
        · rw [br_nlt (by omega)]
          by_cases h2 : b[p + i].toNat = 0
          · rw [br_eq (by omega)]
            by_cases h3 : 0 < i
            · rw [if_pos (Or.inr ⟨h2, h3⟩), br_lt (by omega)]
              rfl
            · rw [if_neg (by omega), br_nlt (by omega)]
          · rw [if_neg (by omega), br_neq (by omega)]
    · refine WP.fin fun J => ?_
      rw [eh_impl_GetNum_0, getL, dif_neg h]
      simp (disch := omega) only [hs, br_lt, br_nlt]
      rfl
theorem w_spec_GetNum (g : Bool) (b : List UInt8) (p : Nat) (hb : b.length < 4611686018427387904) : ∀ (k i acc : Nat), i + k = 5 → acc < 128 ^ i → WP 136 Try.f136 [.undef, .undef] 0 (h_spec_GetNum_0 g b.length (bytes b) (p : Int) (acc : Int) (i : Int)) (rzNum (getL b p k i acc))
  | 0, i, acc, hi, ha => by
    obtain rfl : i = 5 := by omega
    refine WP.fin fun J => ?_
    rw [eh_spec_GetNum_0]
    simp (disch := omega) only [br_nlt]
    rfl
  | k + 1, i, acc, hi, ha => by
    have hpw : 128 ^ i ≤ 268435456 := by
      have : 128 ^ i ≤ 128 ^ 4 := Nat.pow_le_pow_right (by omega) (by omega)
      omega
    have hs : std.ar .sub .i64 (std.ofN b.length) (i : Int) = (b.length : Int) - (i : Int) := s_sub (by simp only [s_ofN]; omega) (by simp only [s_ofN]; omega)
    by_cases h : p + i < b.length
    · have hd : b[p + i].toNat < 256 := b[p + i].toNat_lt
      have hm : b[p + i].toNat % 128 < 128 := Nat.mod_lt _ (by omega)
      have hx : b[p + i].toNat % 128 * 128 ^ i ≤ 127 * 128 ^ i := Nat.mul_le_mul_right _ (by omega)
      have r0 : std.ar .add .i64 (p : Int) (i : Int) = ((p + i : Nat) : Int) := s_addN (by omega)
      have r1 : std.getI (bytes b) (p + i) = (b[p + i].toNat : Int) := s_getI8 h
      have r2 : std.wrap .i64 (b[p + i].toNat : Int) = (b[p + i].toNat : Int) := s_wrap64N (by omega)
      have r3 : std.ar .rem .i64 (b[p + i].toNat : Int) 128 = ((b[p + i].toNat % 128 : Nat) : Int) := rfl
      have r4 : std.ar .mul .i64 7 (i : Int) = ((7 * i : Nat) : Int) := s_mulN (a := 7) (by omega)
      have r5 : std.ar .shl .i64 ((b[p + i].toNat % 128 : Nat) : Int) ((7 * i : Nat) : Int) = ((b[p + i].toNat % 128 * 128 ^ i : Nat) : Int) := by
        rw [pow128]
        exact s_shlN (by omega) (by rw [← pow128]; omega)
      have r6 : std.ar .or .i64 (acc : Int) ((b[p + i].toNat % 128 * 128 ^ i : Nat) : Int) = ((acc + b[p + i].toNat % 128 * 128 ^ i : Nat) : Int) := by
        rw [s_orN (by omega) (by omega), pow128, or_add (by rw [← pow128]; exact ha)]
      by_cases hc : 128 ≤ b[p + i].toNat
      · have e : getL b p (k + 1) i acc = getL b p k (i + 1) (acc + b[p + i].toNat % 128 * 128 ^ i) := by
          rw [getL, dif_pos h, if_pos hc]
        rw [e]
        have ih := w_spec_GetNum g b p hb k (i + 1) (acc + b[p + i].toNat % 128 * 128 ^ i) (by omega) (by rw [Nat.pow_succ]; omega)
        refine WP.go _ ih fun J hJ => ?_
        rw [eh_spec_GetNum_0]
        simp (disch := first | omega | assumption) only [hs, r0, idx1, r1, r2, r3, r4, r5, r6, br_lt, br_nlt, br_nle, br_inR, br_isI8, br_neq, br_tf, br_ft, br_nb, br_t, br_f, s_inc]
        exact hJ
      · have r7 : std.ar .add .i64 ((p + i : Nat) : Int) 1 = ((p + i + 1 : Nat) : Int) := s_inc (by omega)
        refine WP.fin fun J => ?_
        rw [eh_spec_GetNum_0, getL, dif_pos h, if_neg hc]
        have hc2 : (b[p + i].toNat : Int) < 128 := by omega
        by_cases h1 : 2147483647 < acc + b[p + i].toNat % 128 * 128 ^ i
        · have h1' : (2147483647 : Int) < ((acc + b[p + i].toNat % 128 * 128 ^ i : Nat) : Int) := by omega
          rw [if_pos (Or.inl h1)]
          simp (disch := first | omega | assumption) only [hs, r0, idx1, r1, r2, r3, r4, r5, r6, br_lt hc2, br_lt h1', br_nlt, br_nle, br_inR, br_isI8, br_neq, br_tf, br_ft, br_nb, br_t, br_f, r7, br_same]
          rfl
        · have h1' : ((acc + b[p + i].toNat % 128 * 128 ^ i : Nat) : Int) ≤ 2147483647 := by omega
          have h0 : (i : Int) < 5 := by omega
          by_cases h2 : b[p + i].toNat = 0
          · have h2' : (b[p + i].toNat : Int) = 0 := by omega
            by_cases h3 : 0 < i
            · have h3' : (0 : Int) < (i : Int) := by omega
              rw [if_pos (Or.inr ⟨h2, h3⟩)]
              simp (disch := first | omega | assumption) only [hs, r0, idx1, r1, r2, r3, r4, r5, r6, br_lt h0, br_lt hc2, br_lt h3', br_eq h2', br_nlt, br_nle, br_inR, br_isI8, br_neq, br_tf, br_ft, br_nb, br_t, br_f, r7]
              rfl
            · have h3' : (i : Int) ≤ 0 := by omega
              rw [if_neg (by omega)]
              simp (disch := first | omega | assumption) only [hs, r0, idx1, r1, r2, r3, r4, r5, r6, br_lt h0, br_lt hc2, br_nlt h3', br_nlt h1', br_nlt, br_nle, br_inR, br_isI8, br_neq, br_tf, br_ft, br_nb, br_t, br_f, r7]
          · have h2' : (b[p + i].toNat : Int) ≠ 0 := by omega
            rw [if_neg (by omega)]
            simp (disch := first | omega | assumption) only [hs, r0, idx1, r1, r2, r3, r4, r5, r6, br_lt h0, br_lt hc2, br_neq h2', br_nlt h1', br_nlt, br_nle, br_inR, br_isI8, br_neq, br_tf, br_ft, br_nb, br_t, br_f, r7, br_same]
    · refine WP.fin fun J => ?_
      rw [eh_spec_GetNum_0, getL, dif_neg h]
      simp (disch := omega) only [hs, br_lt, br_nlt, br_le]
      rfl
theorem c_impl_GetNum (g : Bool) (b : List UInt8) (a : Int) (hb : b.length < 4611686018427387904) : Cm 143 [.sl (some g) 1 b.length (bytes b), .int .i64 a] (rzNum (getF b a)) := by
  unfold getF
  by_cases h : a < 0
  · rw [if_pos h]
    refine Cm.fin k_impl_GetNum fun J => ?_
    rw [e_impl_GetNum]
    simp (disch := omega) only [br_lt]
    rfl
  · rw [if_neg h]
    obtain ⟨p, rfl⟩ : ∃ n : Nat, a = n := ⟨a.toNat, by omega⟩
    refine Cm.go k_impl_GetNum [.undef, .undef] 0 _ (w_impl_GetNum g b p hb 5 0 0 rfl (by omega)) fun J hJ => ?_
    rw [e_impl_GetNum]
    simp (disch := omega) only [br_nlt]
    exact hJ
theorem c_spec_GetNum (g : Bool) (b : List UInt8) (a : Int) (hb : b.length < 4611686018427387904) : Cm 136 [.sl (some g) 1 b.length (bytes b), .int .i64 a] (rzNum (getF b a)) := by
  unfold getF
  by_cases h : a < 0
  · rw [if_pos h]
    refine Cm.go k_spec_GetNum [.undef, .undef] 0 (h_spec_GetNum_0 g b.length (bytes b) a 0 0) (WP.fin fun J => ?_) fun J hJ => ?_
    · rw [eh_spec_GetNum_0]
      simp (disch := omega) only [br_lt]
      rfl
    · rw [e_spec_GetNum]
      exact hJ
  · rw [if_neg h]
    obtain ⟨p, rfl⟩ : ∃ n : Nat, a = n := ⟨a.toNat, by omega⟩
    refine Cm.go k_spec_GetNum [.undef, .undef] 0 _ (w_spec_GetNum g b p hb 5 0 0 rfl (by omega)) fun J hJ => ?_
    rw [e_spec_GetNum]
    exact hJ
section
variable (t : Tel Rz)
theorem v_impl_GetNum (g : Bool) (b : List UInt8) (a : Int) (hb : b.length < 4611686018427387904) : cvP 143 [.sl (some g) 1 b.length (bytes b), .int .i64 a] t = feed t [.int .i64 (getF b a).1, .int .i64 (getF b a).2.1, .bool (getF b a).2.2] := cvP_eq (c_impl_GetNum g b a hb) (by kernel_rfl) t
theorem v_spec_GetNum (g : Bool) (b : List UInt8) (a : Int) (hb : b.length < 4611686018427387904) : cvP 136 [.sl (some g) 1 b.length (bytes b), .int .i64 a] t = feed t [.int .i64 (getF b a).1, .int .i64 (getF b a).2.1, .bool (getF b a).2.2] := cvP_eq (c_spec_GetNum g b a hb) (by kernel_rfl) t
end
end Go.Proofs.Ytkejckoefjonjaa
namespace Go.Proofs.Ytkejckoefjonjaa
set_option maxRecDepth 100000
section
variable (pr : Prims) (cv : Cv Rz) (J : Nat → St → Option Rz)
theorem k_spec_l4Num : Told cfg Try.prog 129 Try.f129 := ⟨by kernel_rfl, Try.func129, by kernel_rfl⟩
theorem e_spec_l4Num (n0 : Nat) (c0 : List D) (a1 : Int) (a2 : Bool) : RunJ pr cv J 129 Try.f129 [(.pbox [(.sl (some false) 1 n0 c0), (.int .i64 a1), (.bool a2)])] =
    let y1 : Option (D × List D) := (some ((.int .i64 0), [(.pbox [(.sl (some false) 1 n0 c0), (.int .i64 a1), (.bool false)])]))
    (cv 136 [(.sl (some false) 1 n0 c0), (.int .i64 a1)] (.int (fun vx0 => (.int (fun vx1 => (.bool (fun vb2 => (.done (br (br vb2 false true) y1 (br (br a2 false true) y1 (some ((.int .i64 vx0), [(.pbox [(.sl (some false) 1 n0 c0), (.int .i64 vx1), (.bool a2)])])))))))))))) := by kernel_rfl
theorem k_impl_reader_num : Told cfg Try.prog 140 Try.f140 := ⟨by kernel_rfl, Try.func140, by kernel_rfl⟩
theorem e_impl_reader_num (n0 : Nat) (c0 : List D) (a1 : Int) (a2 : Bool) : RunJ pr cv J 140 Try.f140 [(.pbox [(.sl (some false) 1 n0 c0), (.int .i64 a1), (.bool a2)])] =
    (br (br a2 false true) (some ((.int .i64 0), [(.pbox [(.sl (some false) 1 n0 c0), (.int .i64 a1), (.bool a2)])])) (cv 143 [(.sl (some false) 1 n0 c0), (.int .i64 a1)] (.int (fun vx0 => (.int (fun vx1 => (.bool (fun vb2 => (.done (some ((.int .i64 vx0), [(.pbox [(.sl (some false) 1 n0 c0), (.int .i64 vx1), (.bool vb2)])]))))))))))) := by kernel_rfl
def h_spec_l5Nums_0 (i0 : Int) (i1 : Int) (n2 : Nat) (c3 : List D) (i4 : Int) (b5 : Bool) (n6 : Nat) (c7 : List D) : St := (St.mk [(0, (.ptr 28 [] 0)), (3, (.ref 10003 [] 0 none)), (4, (.int .i64 i0)), (5, (.int .i64 i1))] [(28, [(.sl (some false) 1 n2 c3), (.int .i64 i4), (.bool b5)]), (10003, [(.sl none 1 n6 c7)])] [] 0)
theorem k_spec_l5Nums : Told cfg Try.prog 128 Try.f128 := ⟨by kernel_rfl, Try.func128, by kernel_rfl⟩
theorem e_spec_l5Nums (n0 : Nat) (c0 : List D) (a1 : Int) (a2 : Bool) : RunJ pr cv J 128 Try.f128 [(.pbox [(.sl (some false) 1 n0 c0), (.int .i64 a1), (.bool a2)])] =
    (br (br (br (pr.nl c0) true false) true false) (cv 129 [(.pbox [(.sl (some false) 1 n0 c0), (.int .i64 a1), (.bool a2)])] (.int (fun vx0 => (.slx (fun vb1 => (fun vn2 => (fun vc3 => (.int (fun vx4 => (.bool (fun vb5 => (.done (br (br (br (pr.nl vc3) true false) true false) (J 0 (h_spec_l5Nums_0 vx0 0 vn2 vc3 vx4 vb5 0 [])) none))))))))))))) none) := by kernel_rfl
theorem eh_spec_l5Nums_0 (i0 : Int) (i1 : Int) (n2 : Nat) (c3 : List D) (i4 : Int) (b5 : Bool) (n6 : Nat) (c7 : List D) : HeadJ pr cv J 128 Try.f128 [(.pbox [])] 0 (h_spec_l5Nums_0 i0 i1 n2 c3 i4 b5 n6 c7) =
    let y1 : List D := [(.pbox [(.sl (some false) 1 n2 c3), (.int .i64 i4), (.bool b5)])]
    let y2 : Option (D × List D) := (some ((.sl none 1 n6 c7), y1))
    (br (pr.lt i1 i0) (br b5 (br (br (br (pr.nl c3) true false) true false) (cv 129 y1 (.int (fun vx0 => (.slx (fun vb1 => (fun vn2 => (fun vc3 => (.int (fun vx4 => (.bool (fun vb5 => (.done (br (br (br (pr.nl vc3) true false) true false) (br (br (pr.flat [(.int .i64 vx0)]) (pr.fits (n6 + 1) 8) false) (J 0 (h_spec_l5Nums_0 i0 (pr.ar .add .i64 i1 1) vn2 vc3 vx4 vb5 (n6 + 1) (List.append c7 [(.int .i64 vx0)]))) none) none))))))))))))) none) y2) y2) := by kernel_rfl
def h_impl_reader_list_0 (i0 : Int) (i1 : Int) (n2 : Nat) (c3 : List D) (i4 : Int) (b5 : Bool) (n6 : Nat) (c7 : List D) : St := (St.mk [(0, (.ptr 28 [] 0)), (3, (.ref 10003 [] 0 none)), (4, (.int .i64 i0)), (5, (.int .i64 i1))] [(28, [(.sl (some false) 1 n2 c3), (.int .i64 i4), (.bool b5)]), (10003, [(.sl none 1 n6 c7)])] [] 0)
theorem k_impl_reader_list : Told cfg Try.prog 139 Try.f139 := ⟨by kernel_rfl, Try.func139, by kernel_rfl⟩
theorem e_impl_reader_list (n0 : Nat) (c0 : List D) (a1 : Int) (a2 : Bool) : RunJ pr cv J 139 Try.f139 [(.pbox [(.sl (some false) 1 n0 c0), (.int .i64 a1), (.bool a2)])] =
    (br (br (br (pr.nl c0) true false) true false) (cv 140 [(.pbox [(.sl (some false) 1 n0 c0), (.int .i64 a1), (.bool a2)])] (.int (fun vx0 => (.slx (fun vb1 => (fun vn2 => (fun vc3 => (.int (fun vx4 => (.bool (fun vb5 => (.done (br (br (br (pr.nl vc3) true false) true false) (J 0 (h_impl_reader_list_0 vx0 0 vn2 vc3 vx4 vb5 0 [])) none))))))))))))) none) := by kernel_rfl
theorem eh_impl_reader_list_0 (i0 : Int) (i1 : Int) (n2 : Nat) (c3 : List D) (i4 : Int) (b5 : Bool) (n6 : Nat) (c7 : List D) : HeadJ pr cv J 139 Try.f139 [(.pbox [])] 0 (h_impl_reader_list_0 i0 i1 n2 c3 i4 b5 n6 c7) =
    let y1 : List D := [(.pbox [(.sl (some false) 1 n2 c3), (.int .i64 i4), (.bool b5)])]
    let y2 : Option (D × List D) := (some ((.sl none 1 n6 c7), y1))
    (br (pr.lt i1 i0) (br b5 (br (br (br (pr.nl c3) true false) true false) (cv 140 y1 (.int (fun vx0 => (.slx (fun vb1 => (fun vn2 => (fun vc3 => (.int (fun vx4 => (.bool (fun vb5 => (.done (br (br (br (pr.nl vc3) true false) true false) (br (br (pr.flat [(.int .i64 vx0)]) (pr.fits (n6 + 1) 8) false) (J 0 (h_impl_reader_list_0 i0 (pr.ar .add .i64 i1 1) vn2 vc3 vx4 vb5 (n6 + 1) (List.append c7 [(.int .i64 vx0)]))) none) none))))))))))))) none) y2) y2) := by kernel_rfl
end
theorem feed_slx {R : Type} (f : Bool → Nat → List D → Tel R) (g : Bool) (s n : Nat) (cs l : List D) : feed (.slx f) (.sl (some g) s n cs :: l) = feed (f g n cs) l := rfl
theorem getL_bound (b : List UInt8) (p : Nat) : ∀ k i acc, 0 ≤ (getL b p k i acc).1 ∧ (getL b p k i acc).1 ≤ 2147483647
  | 0, _, _ => by simp [getL, noNum]
  | k + 1, i, acc => by
    rw [getL]
    split
    · split
      · exact getL_bound b p k _ _
      · split
        · simp [noNum]
        · simp only
          omega
    · simp [noNum]
theorem getF_bound (b : List UInt8) (a : Int) : 0 ≤ (getF b a).1 ∧ (getF b a).1 ≤ 2147483647 := by
  unfold getF
  split
  · simp [noNum]
  · exact getL_bound b _ _ _ _
theorem getL_next (b : List UInt8) (p : Nat) : ∀ k i acc, (getL b p k i acc).2.2 = true → (p : Int) < (getL b p k i acc).2.1 ∧ (getL b p k i acc).2.1 ≤ b.length
  | 0, _, _, h => by simp [getL, noNum] at h
  | k + 1, i, acc, h => by
    rw [getL] at h ⊢
    split at h
    · rename_i h1
      rw [dif_pos h1]
      split at h
      · rename_i h2
        rw [if_pos h2]
        exact getL_next b p k _ _ h
      · rename_i h2
        rw [if_neg h2]
        split at h
        · simp [noNum] at h
        · rename_i h3
          rw [if_neg h3]
          simp only
          omega
    · simp [noNum] at h
theorem getF_next (b : List UInt8) (a : Int) (h : (getF b a).2.2 = true) : 0 ≤ a ∧ a < (getF b a).2.1 ∧ (getF b a).2.1 ≤ b.length := by
  unfold getF at h ⊢
  split at h
  · simp [noNum] at h
  · rename_i h1
    rw [if_neg h1]
    have := getL_next b a.toNat _ _ _ h
    omega
abbrev curD (b : List UInt8) (c : Int × Bool) : D := .pbox [s8 (some false) b, .int .i64 c.1, .bool c.2]
def numS (b : List UInt8) (c : Int × Bool) : Int × (Int × Bool) := if (getF b c.1).2.2 && c.2 then ((getF b c.1).1, ((getF b c.1).2.1, true)) else (0, (c.1, false))
def numI (b : List UInt8) (c : Int × Bool) : Int × (Int × Bool) := if c.2 then ((getF b c.1).1, ((getF b c.1).2.1, (getF b c.1).2.2)) else (0, c)
theorem numS_bound (b : List UInt8) (c : Int × Bool) : 0 ≤ (numS b c).1 ∧ (numS b c).1 ≤ 2147483647 := by
  have := getF_bound b c.1
  unfold numS
  split <;> simp [this]
theorem numI_bound (b : List UInt8) (c : Int × Bool) : 0 ≤ (numI b c).1 ∧ (numI b c).1 ≤ 2147483647 := by
  have := getF_bound b c.1
  unfold numI
  split <;> simp [this]
theorem c_spec_num (b : List UInt8) (c : Int × Bool) (hb : b.length < 4611686018427387904) : Cm 129 [curD b c] (.int .i64 (numS b c).1, [curD b (numS b c).2]) := by
  obtain ⟨p, k⟩ := c
  refine Cm.fin k_spec_l4Num fun J => ?_
  rw [e_spec_l4Num]
  simp (disch := assumption) only [v_spec_GetNum, feed_int, feed_bool, feed_done]
  unfold numS
  cases (getF b p).2.2 <;> cases k <;> rfl
theorem c_impl_num (b : List UInt8) (c : Int × Bool) (hb : b.length < 4611686018427387904) : Cm 140 [curD b c] (.int .i64 (numI b c).1, [curD b (numI b c).2]) := by
  obtain ⟨p, k⟩ := c
  refine Cm.fin k_impl_reader_num fun J => ?_
  rw [e_impl_reader_num]
  simp (disch := assumption) only [v_impl_GetNum, feed_int, feed_bool, feed_done]
  unfold numI
  cases k <;> rfl
section
variable (t : Tel Rz)
theorem v_spec_num (b : List UInt8) (p : Int) (k : Bool) (hb : b.length < 4611686018427387904) : cvP 129 [.pbox [.sl (some false) 1 b.length (bytes b), .int .i64 p, .bool k]] t = feed t [.int .i64 (numS b (p, k)).1, .sl (some false) 1 b.length (bytes b), .int .i64 (numS b (p, k)).2.1, .bool (numS b (p, k)).2.2] := cvP_eq (c_spec_num b (p, k) hb) (by kernel_rfl) t
theorem v_impl_num (b : List UInt8) (p : Int) (k : Bool) (hb : b.length < 4611686018427387904) : cvP 140 [.pbox [.sl (some false) 1 b.length (bytes b), .int .i64 p, .bool k]] t = feed t [.int .i64 (numI b (p, k)).1, .sl (some false) 1 b.length (bytes b), .int .i64 (numI b (p, k)).2.1, .bool (numI b (p, k)).2.2] := cvP_eq (c_impl_num b (p, k) hb) (by kernel_rfl) t
end
def goL (num : List UInt8 → Int × Bool → Int × (Int × Bool)) (b : List UInt8) : Nat → Int × Bool → List Int → List Int × (Int × Bool)
  | 0, c, out => (out, c)
  | k + 1, c, out => if c.2 then goL num b k (num b c).2 (out ++ [(num b c).1]) else (out, c)
def listF (num : List UInt8 → Int × Bool → Int × (Int × Bool)) (b : List UInt8) (c : Int × Bool) : List Int × (Int × Bool) := goL num b (num b c).1.toNat (num b c).2 []
theorem flatJ1 {R : Type} {x y : R} (a : Int) : br (std.flat [.int .i64 a]) x y = x := rfl
theorem ints_app1 (xs : List Int) (a : Int) : List.append (ints xs) [.int .i64 a] = ints (xs ++ [a]) := by simp [ints]
theorem w_spec_list (b : List UInt8) (hb : b.length < 4611686018427387904) (n : Nat) (hn : n ≤ 2147483647) : ∀ (k i : Nat) (c : Int × Bool) (out : List Int), i + k = n → out.length ≤ i → WP 128 Try.f128 [.pbox []] 0 (h_spec_l5Nums_0 (n : Int) (i : Int) b.length (bytes b) c.1 c.2 out.length (ints out)) (.sl none 1 (goL numS b k c out).1.length (ints (goL numS b k c out).1), [curD b (goL numS b k c out).2])
  | 0, i, c, out, hi, ho => by
    refine WP.fin fun J => ?_
    rw [eh_spec_l5Nums_0]
    simp (disch := omega) only [br_nlt]
    rfl
  | k + 1, i, c, out, hi, ho => by
    obtain ⟨p, q⟩ := c
    cases q with
    | false =>
      refine WP.fin fun J => ?_
      rw [eh_spec_l5Nums_0]
      simp (disch := omega) only [br_lt, br_f]
      rfl
    | true =>
      have e : goL numS b (k + 1) (p, true) out = goL numS b k (numS b (p, true)).2 (out ++ [(numS b (p, true)).1]) := by rw [goL, if_pos rfl]
      rw [e]
      have ih := w_spec_list b hb n hn k (i + 1) (numS b (p, true)).2 (out ++ [(numS b (p, true)).1]) (by omega) (by simp only [List.length_append, List.length_singleton]; omega)
      refine WP.go _ ih fun J hJ => ?_
      rw [eh_spec_l5Nums_0]
      simp (disch := first | omega | assumption) only [br_lt, br_t, s_nl8, br_tf, v_spec_num, feed_int, feed_slx, feed_bool, feed_done, flatJ1, br_fits, ints_app1, s_inc]
      have e2 : (out ++ [(numS b (p, true)).1]).length = out.length + 1 := by simp
      rw [e2] at hJ
      exact hJ
theorem c_spec_list (b : List UInt8) (c : Int × Bool) (hb : b.length < 4611686018427387904) : Cm 128 [curD b c] (.sl none 1 (listF numS b c).1.length (ints (listF numS b c).1), [curD b (listF numS b c).2]) := by
  obtain ⟨p, q⟩ := c
  have hn := numS_bound b (p, q)
  have en : (((numS b (p, q)).1.toNat : Nat) : Int) = (numS b (p, q)).1 := by omega
  refine Cm.go k_spec_l5Nums [.pbox []] 0 _ (w_spec_list b hb (numS b (p, q)).1.toNat (by omega) (numS b (p, q)).1.toNat 0 (numS b (p, q)).2 [] (by omega) (by simp)) fun J hJ => ?_
  rw [e_spec_l5Nums]
  simp (disch := first | omega | assumption) only [br_t, s_nl8, br_tf, v_spec_num, feed_int, feed_slx, feed_bool, feed_done]
  rw [en] at hJ
  exact hJ
theorem v_spec_list (b : List UInt8) (p : Int) (k : Bool) (hb : b.length < 4611686018427387904) (t : Tel Rz) : cvP 128 [.pbox [.sl (some false) 1 b.length (bytes b), .int .i64 p, .bool k]] t = feed t [.sl none 1 (listF numS b (p, k)).1.length (ints (listF numS b (p, k)).1), .sl (some false) 1 b.length (bytes b), .int .i64 (listF numS b (p, k)).2.1, .bool (listF numS b (p, k)).2.2] := cvP_eq (c_spec_list b (p, k) hb) (by kernel_rfl) t
theorem w_impl_list (b : List UInt8) (hb : b.length < 4611686018427387904) (n : Nat) (hn : n ≤ 2147483647) : ∀ (k i : Nat) (c : Int × Bool) (out : List Int), i + k = n → out.length ≤ i → WP 139 Try.f139 [.pbox []] 0 (h_impl_reader_list_0 (n : Int) (i : Int) b.length (bytes b) c.1 c.2 out.length (ints out)) (.sl none 1 (goL numI b k c out).1.length (ints (goL numI b k c out).1), [curD b (goL numI b k c out).2])
  | 0, i, c, out, hi, ho => by
    refine WP.fin fun J => ?_
    rw [eh_impl_reader_list_0]
    simp (disch := omega) only [br_nlt]
    rfl
  | k + 1, i, c, out, hi, ho => by
    obtain ⟨p, q⟩ := c
    cases q with
    | false =>
      refine WP.fin fun J => ?_
      rw [eh_impl_reader_list_0]
      simp (disch := omega) only [br_lt, br_f]
      rfl
    | true =>
      have e : goL numI b (k + 1) (p, true) out = goL numI b k (numI b (p, true)).2 (out ++ [(numI b (p, true)).1]) := by rw [goL, if_pos rfl]
      rw [e]
      have ih := w_impl_list b hb n hn k (i + 1) (numI b (p, true)).2 (out ++ [(numI b (p, true)).1]) (by omega) (by simp only [List.length_append, List.length_singleton]; omega)
      refine WP.go _ ih fun J hJ => ?_
      rw [eh_impl_reader_list_0]
      simp (disch := first | omega | assumption) only [br_lt, br_t, s_nl8, br_tf, v_impl_num, feed_int, feed_slx, feed_bool, feed_done, flatJ1, br_fits, ints_app1, s_inc]
      have e2 : (out ++ [(numI b (p, true)).1]).length = out.length + 1 := by simp
      rw [e2] at hJ
      exact hJ
theorem c_impl_list (b : List UInt8) (c : Int × Bool) (hb : b.length < 4611686018427387904) : Cm 139 [curD b c] (.sl none 1 (listF numI b c).1.length (ints (listF numI b c).1), [curD b (listF numI b c).2]) := by
  obtain ⟨p, q⟩ := c
  have hn := numI_bound b (p, q)
  have en : (((numI b (p, q)).1.toNat : Nat) : Int) = (numI b (p, q)).1 := by omega
  refine Cm.go k_impl_reader_list [.pbox []] 0 _ (w_impl_list b hb (numI b (p, q)).1.toNat (by omega) (numI b (p, q)).1.toNat 0 (numI b (p, q)).2 [] (by omega) (by simp)) fun J hJ => ?_
  rw [e_impl_reader_list]
  simp (disch := first | omega | assumption) only [br_t, s_nl8, br_tf, v_impl_num, feed_int, feed_slx, feed_bool, feed_done]
  rw [en] at hJ
  exact hJ
theorem v_impl_list (b : List UInt8) (p : Int) (k : Bool) (hb : b.length < 4611686018427387904) (t : Tel Rz) : cvP 139 [.pbox [.sl (some false) 1 b.length (bytes b), .int .i64 p, .bool k]] t = feed t [.sl none 1 (listF numI b (p, k)).1.length (ints (listF numI b (p, k)).1), .sl (some false) 1 b.length (bytes b), .int .i64 (listF numI b (p, k)).2.1, .bool (listF numI b (p, k)).2.2] := cvP_eq (c_impl_list b (p, k) hb) (by kernel_rfl) t
end Go.Proofs.Ytkejckoefjonjaa
