/- Who leads, whether all are even, whether no two lead one term. -/
import Derived.Test.YtmabfdnconccnaaGreatDoorTxtOk6
namespace Go.Proofs.YtmabfdnconccnaaGreatDoor
open Go Go.Ev
noncomputable def stepB (l : List PeerT) (i : Nat) (b : Int) : Int :=
  match l[i]? with
  | none => b
  | some p => cond (bo (p.2.2.2.2.2.2.2.2.2.2.2.2.1 = 2 ∧ (b < 0 ∨ ∃ q, atZ l b = some q ∧ q.2.1 < p.2.1))) (i : Int) b
noncomputable def bestF (l : List PeerT) : Nat → Int
  | 0 => -1
  | k + 1 => stepB l k (bestF l k)
theorem bestF_in (l : List PeerT) : ∀ k, bestF l k < 0 ∨ ∃ j : Nat, j < k ∧ bestF l k = j
  | 0 => .inl (by simp [bestF])
  | k + 1 => by
    rw [bestF, stepB]
    have h := bestF_in l k
    split
    · rcases h with h | ⟨j, h, e⟩
      · exact .inl h
      · exact .inr ⟨j, by omega, e⟩
    · cases bo _
      · rcases h with h | ⟨j, h, e⟩
        · exact .inl h
        · exact .inr ⟨j, by omega, e⟩
      · exact .inr ⟨k, by omega, rfl⟩
theorem best_loop {l : List PeerT} (hl : l.length ≤ 1048576) {L : Nat → Nat → Int → Int → Option (Sum Int Int)}
    (hx : ∀ n m (i : Nat) (b : Int) (h : i < l.length), (b < 0 ∨ ∃ j : Nat, j < i ∧ b = j) → L n (m + 1) i b = L n m (IntKind.wrap .i64 ((i : Int) + 1)) (stepB l i b))
    (he : ∀ n m b, L n (m + 1) (l.length : Int) b = some (.inl b)) : Evt fun n => L n n 0 (-1) = some (.inl (bestF l l.length)) := by
  have := loop_up (len := l.length) (L := fun n m i b => L n m (i : Int) b) (fun i b => b = bestF l i) (fun x => x = .inl (bestF l l.length)) ?_ ?_
  · exact this.mono fun n h => by
      obtain ⟨x, h1, h2⟩ := h (-1) rfl
      rw [← h2]; exact h1
  · refine Evt.of fun n m i b hi hinv => .inr ⟨stepB l i b, ?_, by rw [hinv, bestF]⟩
    have h := hx n m i b hi (by rw [hinv]; exact bestF_in l i)
    rw [← wrap_next hi (by omega)]; exact h
  · exact Evt.of fun n m b hinv => ⟨_, he n m b, by rw [hinv]⟩
theorem stepB_at {l : List PeerT} {i : Nat} (h : i < l.length) (b : Int) : stepB l i b = cond (bo (l[i].2.2.2.2.2.2.2.2.2.2.2.2.1 = 2 ∧ (b < 0 ∨ ∃ q, atZ l b = some q ∧ q.2.1 < l[i].2.1))) (i : Int) b := by
  unfold stepB
  rw [List.getElem?_eq_getElem h]
theorem sp_sLeader (x0 : t_s) (x1 : t_s) (x2 : t_iis) (x3 : t_iis) (x4 : Int) (x5 : t_q0) (x6 : t_q1) (x7 : Int) (x8 : Bytes) (x9 : t_i) (x10 : t_i) (x11 : t_iis) (h : smWorld x0 x1 x2 x3 x4 x5 x6 x7 x8 x9 x10 x11) : Evt fun n => F_sLeader n x0 x1 x2 x3 x4 x5 x6 x7 x8 x9 x10 x11 = some (cond (bo (WorldW x0 x1 x2 x3 x4 x5 x6 x7 x8 x9 x10 x11)) (bestF x5 x5.length) (-1)) := by
  have hw := sp_sWorldOk x0 x1 x2 x3 x4 x5 x6 x7 x8 x9 x10 x11 h
  obtain ⟨hp, ⟨h5, h5'⟩, -⟩ := h
  by_cases hg : WorldW x0 x1 x2 x3 x4 x5 x6 x7 x8 x9 x10 x11
  · have h4 : (x5.length : Int) = x4 := hg.2.2.1
    have k := best_loop h5 (L := fun n m i b => L_sLeader_0 n m x0 x1 x2 x3 x4 x5 x6 x7 x8 x9 x10 x11 i b) (fun n m i b hi hb => by
      rw [eqL_sLeader_0, decide_eq_true (by omega), atZ_at hi, stepB_at hi]
      simp only [cond_true, Option.bind_some, bo_beq, bo_dec]
      by_cases r : x5[i].2.2.2.2.2.2.2.2.2.2.2.2.1 = 2
      · rw [bo_t r]
        rcases hb with hb | ⟨j, hj, rfl⟩
        · rw [bo_t hb, bo_t ⟨r, .inl hb⟩]; rfl
        · rw [bo_f (by omega : ¬ (j : Int) < 0), atZ_at (show j < x5.length by omega)]
          simp only [cond_true, cond_false, Option.bind_some]
          by_cases q : x5[j].2.1 < x5[i].2.1
          · rw [bo_t q, bo_t ⟨r, .inr ⟨_, rfl, q⟩⟩]; rfl
          · rw [bo_f q, bo_f]
            · rfl
            · rintro ⟨-, h | ⟨x, hx, hq⟩⟩
              · omega
              · cases hx; exact q hq
      · rw [bo_f r, bo_f (P := _ ∧ _) fun k => r k.1]; rfl) (fun n m b => by rw [eqL_sLeader_0, decide_eq_false (by omega)]; rfl)
    refine (hw.and k).nm fun n ⟨e, e1⟩ => ?_
    rw [eq_sLeader, e, show L_sLeader_0 n n x0 x1 x2 x3 x4 x5 x6 x7 x8 x9 x10 x11 0 (-1) = _ from e1, bo_t hg]
    rfl
  · refine hw.nm fun n e => ?_
    rw [eq_sLeader, e, bo_f hg]
    rfl
theorem sp_iLeader (x0 : t_s) (x1 : t_s) (x2 : t_iis) (x3 : t_iis) (x4 : Int) (x5 : t_q0) (x6 : t_q1) (x7 : Int) (x8 : Bytes) (x9 : t_i) (x10 : t_i) (x11 : t_iis) (h : smWorld x0 x1 x2 x3 x4 x5 x6 x7 x8 x9 x10 x11) : Evt fun n => F_iLeader n x0 x1 x2 x3 x4 x5 x6 x7 x8 x9 x10 x11 = some (cond (bo (WorldW x0 x1 x2 x3 x4 x5 x6 x7 x8 x9 x10 x11)) (bestF x5 x5.length) (-1)) := by
  have hw := sp_iWorldOk x0 x1 x2 x3 x4 x5 x6 x7 x8 x9 x10 x11 h
  obtain ⟨hp, ⟨h5, h5'⟩, -⟩ := h
  have k := best_loop h5 (L := fun n m i b => L_iLeader_0 n m x0 x1 x2 x3 x4 x5 x6 x7 x8 x9 x10 x11 i b x5 x5.length) (fun n m i b hi hb => by
      rw [eqL_iLeader_0, lt_dec hi, atZ_at hi, stepB_at hi]
      simp only [cond_true, Option.bind_some, bo_beq, bo_dec]
      by_cases r : x5[i].2.2.2.2.2.2.2.2.2.2.2.2.1 = 2
      · rw [bo_t r]
        rcases hb with hb | ⟨j, hj, rfl⟩
        · rw [bo_t hb, bo_t ⟨r, .inl hb⟩]; rfl
        · rw [bo_f (by omega : ¬ (j : Int) < 0), atZ_at (show j < x5.length by omega)]
          simp only [cond_true, cond_false, Option.bind_some]
          by_cases q : x5[j].2.1 < x5[i].2.1
          · rw [bo_t q, bo_t ⟨r, .inr ⟨_, rfl, q⟩⟩]; rfl
          · rw [bo_f q, bo_f]
            · rfl
            · rintro ⟨-, h | ⟨x, hx, hq⟩⟩
              · omega
              · cases hx; exact q hq
      · rw [bo_f r, bo_f (P := _ ∧ _) fun k => r k.1]; rfl) (fun n m b => by rw [eqL_iLeader_0, lt_nd]; rfl)
  refine (hw.and k).nm fun n ⟨e, e1⟩ => ?_
  rw [eq_iLeader, e, show L_iLeader_0 n n x0 x1 x2 x3 x4 x5 x6 x7 x8 x9 x10 x11 0 (-1) x5 x5.length = _ from e1]
  cases bo (WorldW x0 x1 x2 x3 x4 x5 x6 x7 x8 x9 x10 x11) <;> rfl
end Go.Proofs.YtmabfdnconccnaaGreatDoor
