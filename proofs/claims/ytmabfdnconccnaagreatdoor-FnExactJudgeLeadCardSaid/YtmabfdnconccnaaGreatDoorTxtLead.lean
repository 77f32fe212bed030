/- Who leads, whether all are even, whether no two lead one term. -/
import Derived.Test.YtmabfdnconccnaaGreatDoorTxtOk6
namespace Go.Proofs.YtmabfdnconccnaaGreatDoor
open Go Go.Ev
def TwoAt (l : List PeerT) (i k : Nat) : Prop := ∀ (hi : i < l.length) (hk : k < l.length), ¬ (l[i].2.2.2.2.2.2.2.2.2.2.2.2.1 = 2 ∧ l[k].2.2.2.2.2.2.2.2.2.2.2.2.1 = 2 ∧ l[i].2.1 = l[k].2.1)
theorem TwoAt_at {l : List PeerT} {i k : Nat} (hi : i < l.length) (hk : k < l.length) : TwoAt l i k ↔ ¬ (l[i].2.2.2.2.2.2.2.2.2.2.2.2.1 = 2 ∧ l[k].2.2.2.2.2.2.2.2.2.2.2.2.1 = 2 ∧ l[i].2.1 = l[k].2.1) := ⟨fun h => h hi hk, fun h _ _ => h⟩
def JudgeL (l : List PeerT) : Prop := ∀ i, i < l.length → ∀ k, k < i → TwoAt l i k
theorem sp_sJudgeLead (x0 : t_s) (x1 : t_s) (x2 : t_iis) (x3 : t_iis) (x4 : Int) (x5 : t_q0) (x6 : t_q1) (x7 : Int) (x8 : Bytes) (x9 : t_i) (x10 : t_i) (x11 : t_iis) (h : smWorld x0 x1 x2 x3 x4 x5 x6 x7 x8 x9 x10 x11) : Evt fun n => F_sJudgeLead n x0 x1 x2 x3 x4 x5 x6 x7 x8 x9 x10 x11 = some (bo (WorldW x0 x1 x2 x3 x4 x5 x6 x7 x8 x9 x10 x11 ∧ JudgeL x5)) := by
  have hw := sp_sWorldOk x0 x1 x2 x3 x4 x5 x6 x7 x8 x9 x10 x11 h
  obtain ⟨hp, ⟨h5, h5'⟩, -⟩ := h
  by_cases hg : WorldW x0 x1 x2 x3 x4 x5 x6 x7 x8 x9 x10 x11
  · have h4 : (x5.length : Int) = x4 := hg.2.2.1
    have k2 : Evt fun n => ∀ i (hi : i < x5.length), L_sJudgeLead_2 n n x0 x1 x2 x3 x4 x5 x6 x7 x8 x9 x10 x11 0 (i : Int) = some (cond (bo (∀ k, k < i → TwoAt x5 i k)) (.inl (x0, (x1, (x2, (x3, (x4, (x5, (x6, (x7, (x8, (x9, (x10, (x11, (i : Int)))))))))))))) (.inr false)) := Evt.lt fun i hi => rng_loop (len := i) (by omega) (L := fun n m k => L_sJudgeLead_2 n m x0 x1 x2 x3 x4 x5 x6 x7 x8 x9 x10 x11 k (i : Int)) (Evt.of fun n m k hk => by
      have hk' : k < x5.length := by omega
      rw [eqL_sJudgeLead_2, lt_dec hk, atZ_at hi, atZ_at hk']
      simp only [cond_true, Option.bind_some, bo_beq, bo_andr]
      exact bo_sw (by rw [TwoAt_at hi hk'])) (fun n m => by rw [eqL_sJudgeLead_2, lt_nd]; rfl)
    have k := rng_loop h5 (q := fun i => ∀ k, k < i → TwoAt x5 i k) (r := false) (b := ()) (L := fun n m i => L_sJudgeLead_0 n m x0 x1 x2 x3 x4 x5 x6 x7 x8 x9 x10 x11 i) (k2.mono fun n h m i hi => by
      rw [eqL_sJudgeLead_0, decide_eq_true (by omega), h i hi]
      simp only [cond_true, Option.bind_some, bo_sum]) (fun n m => by rw [eqL_sJudgeLead_0, decide_eq_false (by omega)]; rfl)
    refine (hw.and k).nm fun n ⟨e, e1⟩ => ?_
    rw [eq_sJudgeLead, e, show L_sJudgeLead_0 n n x0 x1 x2 x3 x4 x5 x6 x7 x8 x9 x10 x11 0 = _ from e1]
    simp only [Option.bind_some, bo_sum, bo_not, bo_tf, bo_nand]
    refine bo_congr ?_
    unfold JudgeL
    simp
  · refine hw.nm fun n e => ?_
    rw [eq_sJudgeLead, e, bo_f hg, bo_f fun k => hg k.1]
    rfl
theorem sp_iJudgeLead (x0 : t_s) (x1 : t_s) (x2 : t_iis) (x3 : t_iis) (x4 : Int) (x5 : t_q0) (x6 : t_q1) (x7 : Int) (x8 : Bytes) (x9 : t_i) (x10 : t_i) (x11 : t_iis) (h : smWorld x0 x1 x2 x3 x4 x5 x6 x7 x8 x9 x10 x11) : Evt fun n => F_iJudgeLead n x0 x1 x2 x3 x4 x5 x6 x7 x8 x9 x10 x11 = some (bo (WorldW x0 x1 x2 x3 x4 x5 x6 x7 x8 x9 x10 x11 ∧ JudgeL x5)) := by
  have hw := sp_iWorldOk x0 x1 x2 x3 x4 x5 x6 x7 x8 x9 x10 x11 h
  obtain ⟨hp, ⟨h5, h5'⟩, -⟩ := h
  have k2 : Evt fun n => ∀ i (hi : i < x5.length), L_iJudgeLead_2 n n x5[i].1 x5[i].2.1 x5[i].2.2.1 x5[i].2.2.2.1 x5[i].2.2.2.2.1 x5[i].2.2.2.2.2.1 x5[i].2.2.2.2.2.2.1 x5[i].2.2.2.2.2.2.2.1 x5[i].2.2.2.2.2.2.2.2.1 x5[i].2.2.2.2.2.2.2.2.2.1 x5[i].2.2.2.2.2.2.2.2.2.2.1 x5[i].2.2.2.2.2.2.2.2.2.2.2.1 x5[i].2.2.2.2.2.2.2.2.2.2.2.2.1 x5[i].2.2.2.2.2.2.2.2.2.2.2.2.2.1 x5[i].2.2.2.2.2.2.2.2.2.2.2.2.2.2.1 x5[i].2.2.2.2.2.2.2.2.2.2.2.2.2.2.2.1 x5[i].2.2.2.2.2.2.2.2.2.2.2.2.2.2.2.2.1 x5[i].2.2.2.2.2.2.2.2.2.2.2.2.2.2.2.2.2.1 x5[i].2.2.2.2.2.2.2.2.2.2.2.2.2.2.2.2.2.2.1 x5[i].2.2.2.2.2.2.2.2.2.2.2.2.2.2.2.2.2.2.2.1 x5[i].2.2.2.2.2.2.2.2.2.2.2.2.2.2.2.2.2.2.2.2.1 x5[i].2.2.2.2.2.2.2.2.2.2.2.2.2.2.2.2.2.2.2.2.2.1 x5[i].2.2.2.2.2.2.2.2.2.2.2.2.2.2.2.2.2.2.2.2.2.2.1 x5[i].2.2.2.2.2.2.2.2.2.2.2.2.2.2.2.2.2.2.2.2.2.2.2.1 x5[i].2.2.2.2.2.2.2.2.2.2.2.2.2.2.2.2.2.2.2.2.2.2.2.2.1 x5[i].2.2.2.2.2.2.2.2.2.2.2.2.2.2.2.2.2.2.2.2.2.2.2.2.2 x0 x1 x2 x3 x4 x5 x6 x7 x8 x9 x10 x11 0 (((x5.drop 0).take ((Int.toNat (i : Int)) - 0)) : List PeerT) x5 x5.length (i : Int) (((x5.drop 0).take ((Int.toNat (i : Int)) - 0)).length : Int) = some (cond (bo (∀ k, k < i → TwoAt x5 i k)) (.inl (x0, (x1, (x2, (x3, (x4, (x5, (x6, (x7, (x8, (x9, (x10, (x11, (x5, ((x5.length : Int), (i : Int)))))))))))))))) (.inr false)) := Evt.lt fun i hi => by
    have el : ((x5.drop 0).take ((Int.toNat (i : Int)) - 0)).length = i := by simp; omega
    have := rng_loop (len := i) (by omega) (q := fun k => TwoAt x5 i k) (r := false) (b := (x0, (x1, (x2, (x3, (x4, (x5, (x6, (x7, (x8, (x9, (x10, (x11, (x5, ((x5.length : Int), (i : Int)))))))))))))))) (L := fun n m k => L_iJudgeLead_2 n m x5[i].1 x5[i].2.1 x5[i].2.2.1 x5[i].2.2.2.1 x5[i].2.2.2.2.1 x5[i].2.2.2.2.2.1 x5[i].2.2.2.2.2.2.1 x5[i].2.2.2.2.2.2.2.1 x5[i].2.2.2.2.2.2.2.2.1 x5[i].2.2.2.2.2.2.2.2.2.1 x5[i].2.2.2.2.2.2.2.2.2.2.1 x5[i].2.2.2.2.2.2.2.2.2.2.2.1 x5[i].2.2.2.2.2.2.2.2.2.2.2.2.1 x5[i].2.2.2.2.2.2.2.2.2.2.2.2.2.1 x5[i].2.2.2.2.2.2.2.2.2.2.2.2.2.2.1 x5[i].2.2.2.2.2.2.2.2.2.2.2.2.2.2.2.1 x5[i].2.2.2.2.2.2.2.2.2.2.2.2.2.2.2.2.1 x5[i].2.2.2.2.2.2.2.2.2.2.2.2.2.2.2.2.2.1 x5[i].2.2.2.2.2.2.2.2.2.2.2.2.2.2.2.2.2.2.1 x5[i].2.2.2.2.2.2.2.2.2.2.2.2.2.2.2.2.2.2.2.1 x5[i].2.2.2.2.2.2.2.2.2.2.2.2.2.2.2.2.2.2.2.2.1 x5[i].2.2.2.2.2.2.2.2.2.2.2.2.2.2.2.2.2.2.2.2.2.1 x5[i].2.2.2.2.2.2.2.2.2.2.2.2.2.2.2.2.2.2.2.2.2.2.1 x5[i].2.2.2.2.2.2.2.2.2.2.2.2.2.2.2.2.2.2.2.2.2.2.2.1 x5[i].2.2.2.2.2.2.2.2.2.2.2.2.2.2.2.2.2.2.2.2.2.2.2.2.1 x5[i].2.2.2.2.2.2.2.2.2.2.2.2.2.2.2.2.2.2.2.2.2.2.2.2.2 x0 x1 x2 x3 x4 x5 x6 x7 x8 x9 x10 x11 k (((x5.drop 0).take ((Int.toNat (i : Int)) - 0)) : List PeerT) x5 x5.length (i : Int) (((x5.drop 0).take ((Int.toNat (i : Int)) - 0)).length : Int)) (Evt.of fun n m k hk => by
      have hk' : k < x5.length := by omega
      have eg : ((x5.drop 0).take ((Int.toNat (i : Int)) - 0))[k]'(by omega) = x5[k] := by simp
      rw [eqL_iJudgeLead_2, el, lt_dec hk, atZ_at (show k < ((x5.drop 0).take ((Int.toNat (i : Int)) - 0)).length by omega), eg]
      simp only [cond_true, Option.bind_some, bo_beq, bo_andr]
      exact bo_sw (by rw [TwoAt_at hi hk'])) (fun n m => by rw [eqL_iJudgeLead_2, el, lt_nd]; rfl)
    exact this
  have k := rng_loop h5 (q := fun i => ∀ k, k < i → TwoAt x5 i k) (r := false) (b := ()) (L := fun n m i => L_iJudgeLead_0 n m x0 x1 x2 x3 x4 x5 x6 x7 x8 x9 x10 x11 i x5 x5.length) (k2.mono fun n h m i hi => by
      rw [eqL_iJudgeLead_0, lt_dec hi, atZ_at hi]
      simp only [cond_true, Option.bind_some, h i hi, bo_sum]
      rw [decide_eq_true (by omega)]
      rfl) (fun n m => by rw [eqL_iJudgeLead_0, lt_nd]; rfl)
  refine (hw.and k).nm fun n ⟨e, e1⟩ => ?_
  rw [eq_iJudgeLead, e, show L_iJudgeLead_0 n n x0 x1 x2 x3 x4 x5 x6 x7 x8 x9 x10 x11 0 x5 x5.length = _ from e1]
  simp only [Option.bind_some, bo_sum, bo_not, bo_tf, bo_nand]
  refine bo_congr ?_
  unfold JudgeL
  simp
end Go.Proofs.YtmabfdnconccnaaGreatDoor
