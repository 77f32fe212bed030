/- Reading a pattern: both readers. -/
import Derived.Test.YtmabfdnconccnaaGreatDoorTxtRexS
namespace Go.Proofs.YtmabfdnconccnaaGreatDoor
open Go Go.Ev
theorem deep_loop {ks : List Tr} (hl : ks.length ≤ 1048576) (a0 : Int) {L : Nat → Nat → Int → Int → Option (Sum Int Int)}
    (hx : Evt fun n => ∀ m (i : Nat) (a : Int) (h : i < ks.length), L n (m + 1) i a = L n m (IntKind.wrap .i64 ((i : Int) + 1)) (cond (decide (a < deepT ks[i])) (deepT ks[i]) a))
    (he : ∀ n m a, L n (m + 1) (ks.length : Int) a = some (.inl a)) : Evt fun n => L n n 0 a0 = some (.inl (deepL a0 ks)) := by
  have := loop_up (len := ks.length) (L := fun n m i a => L n m (i : Int) a) (fun i a => deepL a0 ks = deepL a (ks.drop i)) (fun x => x = .inl (deepL a0 ks)) ?_ ?_
  · exact this.mono fun n h => by
      obtain ⟨x, h1, h2⟩ := h a0 (by simp)
      rw [← h2]; exact h1
  · refine hx.mono fun n h m i a hi hinv => .inr ⟨cond (decide (a < deepT ks[i])) (deepT ks[i]) a, ?_, ?_⟩
    · have h := h m i a hi
      rw [← wrap_next hi (by omega)]; exact h
    · rw [hinv, List.drop_eq_getElem_cons hi, deepL]
  · refine Evt.of fun n m a hinv => ⟨_, he n m a, ?_⟩
    rw [hinv, List.drop_eq_nil_of_le (Nat.le_refl _), deepL]
theorem deepT_un (t : Tr) : deepT t = IntKind.wrap .i64 (deepL 0 (kidsT t) + 1) := by
  cases t
  rw [deepT]
  rfl
theorem eqMax (n : Nat) (a b : Int) : F_sl1Max (n + 1) a b = some (cond (decide (a < b)) b a) := by
  rw [eq_sl1Max]
  by_cases h : b < a
  · rw [decide_eq_true h, decide_eq_false (by omega)]; rfl
  · rw [decide_eq_false h]
    by_cases k : a < b
    · rw [decide_eq_true k]; rfl
    · rw [decide_eq_false k, show a = b by omega]; rfl
theorem sp_deep {t : Tr} (h : SmT t) : (Evt fun n => F_irexDeep n (unT t).1 (unT t).2.1 (unT t).2.2.1 (unT t).2.2.2.1 (unT t).2.2.2.2 = some (deepT t)) ∧
    (Evt fun n => F_sl3Deep n (unT t).1 (unT t).2.1 (unT t).2.2.1 (unT t).2.2.2.1 (unT t).2.2.2.2 = some (deepT t)) := by
  induction h with
  | mk hl hk ih =>
    rename_i t
    constructor
    · have k := deep_loop (ks := kidsT t) (by omega) 0 (L := fun n m i a => L_irexDeep_0 n m i a (kidsT t) (kidsT t).length) ((Evt.all (kidsT t) fun x hx => (ih x hx).1).mono fun n h m i a hi => by
        rw [eqL_irexDeep_0, lt_dec hi, TZ_at hi]
        simp only [cond_true, Option.bind_some, h _ (List.getElem_mem hi)]) (fun n m a => by rw [eqL_irexDeep_0, lt_nd]; rfl)
      refine k.nm fun n e => ?_
      rw [eq_irexDeep, deepT_un, show L_irexDeep_0 n n 0 0 (unT t).2.2.2.2 (unT t).2.2.2.2.length = _ from e]
      rfl
    · have k := deep_loop (ks := kidsT t) (by omega) 0 (L := fun n m i a => L_sl3Deep_0 n m (unT t).1 (unT t).2.1 (unT t).2.2.1 (unT t).2.2.2.1 (kidsT t) i a) (((Evt.all (kidsT t) fun x hx => (ih x hx).2).and (Evt.ge 1)).mono fun n ⟨h, hn⟩ m i a hi => by
        obtain ⟨n, rfl⟩ : ∃ q, n = q + 1 := ⟨n - 1, by omega⟩
        rw [eqL_sl3Deep_0, lt_dec hi, TZ_at hi]
        simp only [cond_true, Option.bind_some, h _ (List.getElem_mem hi), eqMax]) (fun n m a => by rw [eqL_sl3Deep_0, lt_nd]; rfl)
      refine k.nm fun n e => ?_
      rw [eq_sl3Deep, deepT_un, show L_sl3Deep_0 n n (unT t).1 (unT t).2.1 (unT t).2.2.1 (unT t).2.2.2.1 (unT t).2.2.2.2 0 0 = _ from e]
      rfl
theorem rex_run (s : Bytes) (hs : s.length ≤ 60) : ∃ r, iP 1000 .pat s false = some r :=
  iP_all 1000 .pat s false (by simp only [need]; omega) hs trivial trivial
theorem rexF_of {s : Bytes} (hs : s.length ≤ 60) {r} (h : iP 1000 .pat s false = some r) : rexF s = if r.2.2 = false ∧ r.2.1 = [] ∧ deepT (mkT r.1) ≤ 12 then (r.1.1, (r.1.2.1, (r.1.2.2.1, (r.1.2.2.2.1, (r.1.2.2.2.2, true))))) else (0, (0, ([], (false, ([], false))))) := by
  unfold rexF
  rw [if_pos hs, h]
theorem rexF_long {s : Bytes} (hs : ¬ s.length ≤ 60) : rexF s = (0, (0, ([], (false, ([], false))))) := by
  unfold rexF
  rw [if_neg hs]
theorem sp_iRexParse (s : Bytes) : Evt fun n => F_iRexParse n s = some (rexF s) := by
  by_cases hs : s.length ≤ 60
  · obtain ⟨r, h⟩ := rex_run s hs
    have k1 : Evt fun n => F_irexReader_pattern n s false = some (flat r) := impl_all _ _ _ _ _ h hs trivial trivial
    have hsm := (iP_ok _ _ _ _ _ h hs trivial trivial).1
    have k2 := (sp_deep (SmT_mk hsm)).1
    rw [unT_mkT] at k2
    refine (k1.and k2).nm fun n ⟨e1, e2⟩ => ?_
    rw [eq_iRexParse, decide_eq_false (by omega), e1, rexF_of hs h]
    simp only [cond_false, Option.bind_some, flat, e2, bo_dec]
    by_cases c : r.2.2 = false ∧ r.2.1 = [] ∧ deepT (mkT r.1) ≤ 12
    · rw [if_pos c, c.1, c.2.1, bo_f (P := 12 < deepT (mkT r.1)) (by omega)]
      rfl
    · rw [if_neg c]
      cases hb : r.2.2
      · simp only [cond_false]
        cases hr : r.2.1 with
        | nil =>
          rw [bo_t (P := 12 < deepT (mkT r.1)) (by
            rcases Classical.em (12 < deepT (mkT r.1)) with q | q
            · exact q
            · exact absurd ⟨hb, hr, by omega⟩ c)]
          rfl
        | cons a l => rfl
      · rfl
  · refine Evt.succ (Evt.of fun n => ?_)
    rw [eq_iRexParse, decide_eq_true (by omega), rexF_long hs]
    rfl
theorem sp_sRexParse (s : Bytes) : Evt fun n => F_sRexParse n s = some (rexF s) := by
  by_cases hs : s.length ≤ 60
  · obtain ⟨r, h⟩ := rex_run s hs
    obtain ⟨t, a, bad, hsy, k1⟩ := spec_all _ _ _ _ h 0 s 0 hs (Nat.zero_le _) rfl (by omega) trivial trivial
    have hsm := (iP_ok _ _ _ _ _ h hs trivial trivial).1
    have k2 := (sp_deep (SmT_mk hsm)).2
    rw [unT_mkT] at k2
    have k1 : Evt fun n => F_sl3Pattern n s 0 false 0 = some (flatS t s a bad) := k1
    rcases hsy with ⟨rfl, rfl, hb, k', rfl, hk', hd'⟩ | ⟨rfl, hdoom⟩
    · refine (k1.and k2).nm fun n ⟨e1, e2⟩ => ?_
      rw [eq_sRexParse, decide_eq_false (by omega), e1, rexF_of hs h]
      simp only [cond_false, Option.bind_some, flatS, e2, bo_dec, bo_bne]
      by_cases c : r.2.2 = false ∧ r.2.1 = [] ∧ deepT (mkT r.1) ≤ 12
      · have : k' = s.length := by
          have := congrArg List.length (hd'.trans c.2.1)
          simp at this
          omega
        rw [if_pos c, bo_f (P := 12 < deepT (mkT r.1)) (by omega), bo_f (P := ¬ _ = _) (by omega)]
        rfl
      · rw [if_neg c]
        by_cases hr : r.2.1 = []
        · rw [bo_t (P := 12 < deepT (mkT r.1)) (by
            rcases Classical.em (12 < deepT (mkT r.1)) with q | q
            · exact q
            · exact absurd ⟨hb, hr, by omega⟩ c)]
          cases bo (¬ (k' : Int) = (s.length : Int)) <;> rfl
        · have : k' ≠ s.length := by
            intro q
            apply hr
            rw [← hd', q, List.drop_eq_nil_of_le (Nat.le_refl _)]
          rw [bo_t (P := ¬ _ = _) (by omega)]
          rfl
    · refine k1.nm fun n e1 => ?_
      have hb : r.2.2 = true := by
        rcases hdoom with q | q
        · exact q
        · exact absurd q (by omega)
      rw [eq_sRexParse, decide_eq_false (by omega), e1, rexF_of hs h, if_neg (by rw [hb]; simp)]
      rfl
  · refine Evt.succ (Evt.of fun n => ?_)
    rw [eq_sRexParse, decide_eq_true (by omega), rexF_long hs]
    rfl
end Go.Proofs.YtmabfdnconccnaaGreatDoor
