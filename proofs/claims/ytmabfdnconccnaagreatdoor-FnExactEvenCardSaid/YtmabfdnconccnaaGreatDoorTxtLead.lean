/- Who leads, whether all are even, whether no two lead one term. -/
import Derived.Test.YtmabfdnconccnaaGreatDoorTxtOk6
namespace Go.Proofs.YtmabfdnconccnaaGreatDoor
open Go Go.Ev
def EvenAt (l : List PeerT) (i k : Nat) : Prop := ∀ (hi : i < l.length), At l[i].2.2.2.2.2.2.2.2.2.2.2.2.2.2.2.1 (fun m => m = lastW l[i]) k ∧ At l (fun q => q.2.2.2.2.2.2.2.2.2.2.2.2.2.2.2.2.1 = l[i].2.2.2.2.2.2.2.2.2.2.2.2.2.2.2.2.1) k
def EvenW (l : List PeerT) (i : Nat) : Prop := ∀ (hi : i < l.length), l[i].2.2.2.2.2.2.2.2.2.2.2.2.1 = 2 ∧ ∀ k, k < l.length → EvenAt l i k
theorem world_match {x0 : t_s} {x1 : t_s} {x2 : t_iis} {x3 : t_iis} {x4 : Int} {x5 : t_q0} {x6 : t_q1} {x7 : Int} {x8 : Bytes} {x9 : t_i} {x10 : t_i} {x11 : t_iis} (hg : WorldW x0 x1 x2 x3 x4 x5 x6 x7 x8 x9 x10 x11) {i : Nat} (hi : i < x5.length) : (x5[i].2.2.2.2.2.2.2.2.2.2.2.2.2.2.2.1).length = x5.length := by
  have h4 : (x5.length : Int) = x4 := hg.2.2.1
  have hP := (hg.2.2.2.2.2.2.2.2.1 i hi hi).2
  have := hP.2.2.2.2.2.2.2.1
  omega
theorem sp_sEven (x0 : t_s) (x1 : t_s) (x2 : t_iis) (x3 : t_iis) (x4 : Int) (x5 : t_q0) (x6 : t_q1) (x7 : Int) (x8 : Bytes) (x9 : t_i) (x10 : t_i) (x11 : t_iis) (x12 : Int) (h : smWorld x0 x1 x2 x3 x4 x5 x6 x7 x8 x9 x10 x11) : Evt fun n => F_sEven n x0 x1 x2 x3 x4 x5 x6 x7 x8 x9 x10 x11 x12 = some (bo (WorldW x0 x1 x2 x3 x4 x5 x6 x7 x8 x9 x10 x11 ∧ In x12 0 (IntKind.wrap .i64 (x4 - 1)) ∧ EvenW x5 x12.toNat)) := by
  have hw := sp_sWorldOk x0 x1 x2 x3 x4 x5 x6 x7 x8 x9 x10 x11 h
  obtain ⟨hp, ⟨h5, h5'⟩, -⟩ := h
  by_cases hg : WorldW x0 x1 x2 x3 x4 x5 x6 x7 x8 x9 x10 x11 ∧ In x12 0 (IntKind.wrap .i64 (x4 - 1))
  · obtain ⟨hg, hi⟩ := hg
    have h4 : (x5.length : Int) = x4 := hg.2.2.1
    have h4' : In x4 1 5 := hg.2.1
    have hwr : IntKind.wrap .i64 (x4 - 1) = x4 - 1 := by unfold In at h4'; rw [IntKind.wrap_i64]; omega
    rw [hwr] at hi ⊢
    unfold In at hi
    obtain ⟨i, rfl⟩ : ∃ i : Nat, x12 = i := ⟨x12.toNat, by omega⟩
    have hi' : i < x5.length := by omega
    have hm := world_match hg hi'
    have k := rng_loop h5 (q := fun k => EvenAt x5 i k) (r := false) (b := x5[i]) (L := fun n m k => L_sl28Even_0 n m x5[i].1 x5[i].2.1 x5[i].2.2.1 x5[i].2.2.2.1 x5[i].2.2.2.2.1 x5[i].2.2.2.2.2.1 x5[i].2.2.2.2.2.2.1 x5[i].2.2.2.2.2.2.2.1 x5[i].2.2.2.2.2.2.2.2.1 x5[i].2.2.2.2.2.2.2.2.2.1 x5[i].2.2.2.2.2.2.2.2.2.2.1 x5[i].2.2.2.2.2.2.2.2.2.2.2.1 x5[i].2.2.2.2.2.2.2.2.2.2.2.2.1 x5[i].2.2.2.2.2.2.2.2.2.2.2.2.2.1 x5[i].2.2.2.2.2.2.2.2.2.2.2.2.2.2.1 x5[i].2.2.2.2.2.2.2.2.2.2.2.2.2.2.2.1 x5[i].2.2.2.2.2.2.2.2.2.2.2.2.2.2.2.2.1 x5[i].2.2.2.2.2.2.2.2.2.2.2.2.2.2.2.2.2.1 x5[i].2.2.2.2.2.2.2.2.2.2.2.2.2.2.2.2.2.2.1 x5[i].2.2.2.2.2.2.2.2.2.2.2.2.2.2.2.2.2.2.2.1 x5[i].2.2.2.2.2.2.2.2.2.2.2.2.2.2.2.2.2.2.2.2.1 x5[i].2.2.2.2.2.2.2.2.2.2.2.2.2.2.2.2.2.2.2.2.2.1 x5[i].2.2.2.2.2.2.2.2.2.2.2.2.2.2.2.2.2.2.2.2.2.2.1 x5[i].2.2.2.2.2.2.2.2.2.2.2.2.2.2.2.2.2.2.2.2.2.2.2.1 x5[i].2.2.2.2.2.2.2.2.2.2.2.2.2.2.2.2.2.2.2.2.2.2.2.2.1 x5[i].2.2.2.2.2.2.2.2.2.2.2.2.2.2.2.2.2.2.2.2.2.2.2.2.2 x0 x1 x2 x3 x4 x5 x6 x7 x8 x9 x10 x11 k (lastW x5[i])) (Evt.of fun n m k hk => by
      rw [eqL_sl28Even_0, decide_eq_true (by omega), atZ_at (show k < (x5[i].2.2.2.2.2.2.2.2.2.2.2.2.2.2.2.1).length by omega), atZ_at hk]
      simp only [cond_true, Option.bind_some, bo_bne, bo_orr]
      refine bo_sw ?_
      unfold EvenAt
      constructor
      · intro h _
        exact ⟨(At_at (by omega)).2 (by grind), (At_at hk).2 (by grind)⟩
      · intro h
        have h1 := (At_at (by omega)).1 (h hi').1
        have h2 := (At_at hk).1 (h hi').2
        grind) (fun n m => by rw [eqL_sl28Even_0, decide_eq_false (by omega)]; rfl)
    have k3 : Evt fun n => F_sl28Even n x0 x1 x2 x3 x4 x5 x6 x7 x8 x9 x10 x11 (i : Int) = some (bo (EvenW x5 i)) := (k.and (sp_sLastOf x5[i].2.2.2.1 x5[i].2.2.2.2.1 x5[i].2.2.2.2.2.1 ((h5' _ (List.getElem_mem hi')).1.1))).nm fun n ⟨e1, e2⟩ => by
      rw [eq_sl28Even, atZ_at hi']
      simp only [Option.bind_some, e2]
      rw [show L_sl28Even_0 n n x5[i].1 x5[i].2.1 x5[i].2.2.1 x5[i].2.2.2.1 x5[i].2.2.2.2.1 x5[i].2.2.2.2.2.1 x5[i].2.2.2.2.2.2.1 x5[i].2.2.2.2.2.2.2.1 x5[i].2.2.2.2.2.2.2.2.1 x5[i].2.2.2.2.2.2.2.2.2.1 x5[i].2.2.2.2.2.2.2.2.2.2.1 x5[i].2.2.2.2.2.2.2.2.2.2.2.1 x5[i].2.2.2.2.2.2.2.2.2.2.2.2.1 x5[i].2.2.2.2.2.2.2.2.2.2.2.2.2.1 x5[i].2.2.2.2.2.2.2.2.2.2.2.2.2.2.1 x5[i].2.2.2.2.2.2.2.2.2.2.2.2.2.2.2.1 x5[i].2.2.2.2.2.2.2.2.2.2.2.2.2.2.2.2.1 x5[i].2.2.2.2.2.2.2.2.2.2.2.2.2.2.2.2.2.1 x5[i].2.2.2.2.2.2.2.2.2.2.2.2.2.2.2.2.2.2.1 x5[i].2.2.2.2.2.2.2.2.2.2.2.2.2.2.2.2.2.2.2.1 x5[i].2.2.2.2.2.2.2.2.2.2.2.2.2.2.2.2.2.2.2.2.1 x5[i].2.2.2.2.2.2.2.2.2.2.2.2.2.2.2.2.2.2.2.2.2.1 x5[i].2.2.2.2.2.2.2.2.2.2.2.2.2.2.2.2.2.2.2.2.2.2.1 x5[i].2.2.2.2.2.2.2.2.2.2.2.2.2.2.2.2.2.2.2.2.2.2.2.1 x5[i].2.2.2.2.2.2.2.2.2.2.2.2.2.2.2.2.2.2.2.2.2.2.2.2.1 x5[i].2.2.2.2.2.2.2.2.2.2.2.2.2.2.2.2.2.2.2.2.2.2.2.2.2 x0 x1 x2 x3 x4 x5 x6 x7 x8 x9 x10 x11 0 (lastF x5[i].2.2.2.1 x5[i].2.2.2.2.1 x5[i].2.2.2.2.2.1).1 = _ from e1]
      simp only [Option.bind_some, bo_sum, bo_beq, bo_and]
      refine bo_congr ?_
      unfold EvenW
      exact ⟨fun h _ => ⟨h.2, h.1⟩, fun h => ⟨(h hi').2, (h hi').1⟩⟩
    refine ((hw.and k3).and (sp_sl1In i 0 (x4 - 1))).nm fun n ⟨⟨e1, e2⟩, e3⟩ => ?_
    rw [eq_sEven, e1, hwr]
    simp only [Option.bind_some, e2, e3, bo_and, Int.toNat_natCast]
  · refine (hw.and (sp_sl1In x12 0 (IntKind.wrap .i64 (x4 - 1)))).nm fun n ⟨e1, e2⟩ => ?_
    rw [eq_sEven, e1]
    simp only [Option.bind_some, e2, bo_andr]
    rw [bo_f hg, bo_f fun k => hg ⟨k.1, k.2.1⟩]
    rfl
theorem sp_iEven (x0 : t_s) (x1 : t_s) (x2 : t_iis) (x3 : t_iis) (x4 : Int) (x5 : t_q0) (x6 : t_q1) (x7 : Int) (x8 : Bytes) (x9 : t_i) (x10 : t_i) (x11 : t_iis) (x12 : Int) (h : smWorld x0 x1 x2 x3 x4 x5 x6 x7 x8 x9 x10 x11) : Evt fun n => F_iEven n x0 x1 x2 x3 x4 x5 x6 x7 x8 x9 x10 x11 x12 = some (bo (WorldW x0 x1 x2 x3 x4 x5 x6 x7 x8 x9 x10 x11 ∧ In x12 0 (IntKind.wrap .i64 (x4 - 1)) ∧ EvenW x5 x12.toNat)) := by
  have hw := sp_iWorldOk x0 x1 x2 x3 x4 x5 x6 x7 x8 x9 x10 x11 h
  obtain ⟨hp, ⟨h5, h5'⟩, -⟩ := h
  by_cases hg : WorldW x0 x1 x2 x3 x4 x5 x6 x7 x8 x9 x10 x11 ∧ In x12 0 (IntKind.wrap .i64 (x4 - 1))
  · obtain ⟨hg, hi⟩ := hg
    have h4 : (x5.length : Int) = x4 := hg.2.2.1
    have h4' : In x4 1 5 := hg.2.1
    have hwr : IntKind.wrap .i64 (x4 - 1) = x4 - 1 := by unfold In at h4'; rw [IntKind.wrap_i64]; omega
    rw [hwr] at hi ⊢
    unfold In at hi
    obtain ⟨i, rfl⟩ : ∃ i : Nat, x12 = i := ⟨x12.toNat, by omega⟩
    have hi' : i < x5.length := by omega
    have hm := world_match hg hi'
    have k := rng_loop h5 (q := fun k => EvenAt x5 i k) (r := false) (b := ()) (L := fun n m k => L_iEven_0 n m x5[i].1 x5[i].2.1 x5[i].2.2.1 x5[i].2.2.2.1 x5[i].2.2.2.2.1 x5[i].2.2.2.2.2.1 x5[i].2.2.2.2.2.2.1 x5[i].2.2.2.2.2.2.2.1 x5[i].2.2.2.2.2.2.2.2.1 x5[i].2.2.2.2.2.2.2.2.2.1 x5[i].2.2.2.2.2.2.2.2.2.2.1 x5[i].2.2.2.2.2.2.2.2.2.2.2.1 x5[i].2.2.2.2.2.2.2.2.2.2.2.2.1 x5[i].2.2.2.2.2.2.2.2.2.2.2.2.2.1 x5[i].2.2.2.2.2.2.2.2.2.2.2.2.2.2.1 x5[i].2.2.2.2.2.2.2.2.2.2.2.2.2.2.2.1 x5[i].2.2.2.2.2.2.2.2.2.2.2.2.2.2.2.2.1 x5[i].2.2.2.2.2.2.2.2.2.2.2.2.2.2.2.2.2.1 x5[i].2.2.2.2.2.2.2.2.2.2.2.2.2.2.2.2.2.2.1 x5[i].2.2.2.2.2.2.2.2.2.2.2.2.2.2.2.2.2.2.2.1 x5[i].2.2.2.2.2.2.2.2.2.2.2.2.2.2.2.2.2.2.2.2.1 x5[i].2.2.2.2.2.2.2.2.2.2.2.2.2.2.2.2.2.2.2.2.2.1 x5[i].2.2.2.2.2.2.2.2.2.2.2.2.2.2.2.2.2.2.2.2.2.2.1 x5[i].2.2.2.2.2.2.2.2.2.2.2.2.2.2.2.2.2.2.2.2.2.2.2.1 x5[i].2.2.2.2.2.2.2.2.2.2.2.2.2.2.2.2.2.2.2.2.2.2.2.2.1 x5[i].2.2.2.2.2.2.2.2.2.2.2.2.2.2.2.2.2.2.2.2.2.2.2.2.2 x0 x1 x2 x3 x4 x5 x6 x7 x8 x9 x10 x11 k (lastW x5[i]) x5[i].2.2.2.2.2.2.2.2.2.2.2.2.2.2.2.1 (x5[i].2.2.2.2.2.2.2.2.2.2.2.2.2.2.2.1).length) (Evt.of fun n m k hk => by
      rw [eqL_iEven_0, decide_eq_true (by omega), atZ_at (show k < (x5[i].2.2.2.2.2.2.2.2.2.2.2.2.2.2.2.1).length by omega), atZ_at hk]
      simp only [cond_true, Option.bind_some, bo_bne, bo_orr]
      refine bo_sw ?_
      unfold EvenAt
      constructor
      · intro h _
        exact ⟨(At_at (by omega)).2 (by grind), (At_at hk).2 (by grind)⟩
      · intro h
        have h1 := (At_at (by omega)).1 (h hi').1
        have h2 := (At_at hk).1 (h hi').2
        grind) (fun n m => by rw [eqL_iEven_0, decide_eq_false (by omega)]; rfl)
    refine (((hw.and k).and (sp_iin i 0 (x4 - 1))).and (sp_iLastOf x5[i].2.2.2.1 x5[i].2.2.2.2.1 x5[i].2.2.2.2.2.1 ((h5' _ (List.getElem_mem hi')).1.1))).nm fun n ⟨⟨⟨e1, e2⟩, e3⟩, e4⟩ => ?_
    rw [eq_iEven, e1, hwr, atZ_at hi']
    simp only [Option.bind_some, e3, e4]
    rw [show L_iEven_0 n n x5[i].1 x5[i].2.1 x5[i].2.2.1 x5[i].2.2.2.1 x5[i].2.2.2.2.1 x5[i].2.2.2.2.2.1 x5[i].2.2.2.2.2.2.1 x5[i].2.2.2.2.2.2.2.1 x5[i].2.2.2.2.2.2.2.2.1 x5[i].2.2.2.2.2.2.2.2.2.1 x5[i].2.2.2.2.2.2.2.2.2.2.1 x5[i].2.2.2.2.2.2.2.2.2.2.2.1 x5[i].2.2.2.2.2.2.2.2.2.2.2.2.1 x5[i].2.2.2.2.2.2.2.2.2.2.2.2.2.1 x5[i].2.2.2.2.2.2.2.2.2.2.2.2.2.2.1 x5[i].2.2.2.2.2.2.2.2.2.2.2.2.2.2.2.1 x5[i].2.2.2.2.2.2.2.2.2.2.2.2.2.2.2.2.1 x5[i].2.2.2.2.2.2.2.2.2.2.2.2.2.2.2.2.2.1 x5[i].2.2.2.2.2.2.2.2.2.2.2.2.2.2.2.2.2.2.1 x5[i].2.2.2.2.2.2.2.2.2.2.2.2.2.2.2.2.2.2.2.1 x5[i].2.2.2.2.2.2.2.2.2.2.2.2.2.2.2.2.2.2.2.2.1 x5[i].2.2.2.2.2.2.2.2.2.2.2.2.2.2.2.2.2.2.2.2.2.1 x5[i].2.2.2.2.2.2.2.2.2.2.2.2.2.2.2.2.2.2.2.2.2.2.1 x5[i].2.2.2.2.2.2.2.2.2.2.2.2.2.2.2.2.2.2.2.2.2.2.2.1 x5[i].2.2.2.2.2.2.2.2.2.2.2.2.2.2.2.2.2.2.2.2.2.2.2.2.1 x5[i].2.2.2.2.2.2.2.2.2.2.2.2.2.2.2.2.2.2.2.2.2.2.2.2.2 x0 x1 x2 x3 x4 x5 x6 x7 x8 x9 x10 x11 0 (lastF x5[i].2.2.2.1 x5[i].2.2.2.2.1 x5[i].2.2.2.2.2.1).1 x5[i].2.2.2.2.2.2.2.2.2.2.2.2.2.2.2.1 (x5[i].2.2.2.2.2.2.2.2.2.2.2.2.2.2.2.1).length = _ from e2]
    simp only [Option.bind_some, bo_sum, bo_bne, bo_not, bo_or, bo_tf, bo_nand, Int.toNat_natCast]
    refine bo_congr ?_
    have : EvenW x5 i ↔ x5[i].2.2.2.2.2.2.2.2.2.2.2.2.1 = 2 ∧ ∀ k, k < x5.length → EvenAt x5 i k := ⟨fun h => h hi', fun h _ => h⟩
    rw [this]
    clear e1 e2 e3 e4 k hw h5 h5' hm hp
    grind
  · refine (hw.and (sp_iin x12 0 (IntKind.wrap .i64 (x4 - 1)))).nm fun n ⟨e1, e2⟩ => ?_
    rw [eq_iEven, e1, bo_f (P := _ ∧ _ ∧ _) fun k => hg ⟨k.1, k.2.1⟩]
    simp only [Option.bind_some, e2, bo_not, bo_orr]
    rw [bo_t (P := _ ∨ _) (by grind)]
    rfl
end Go.Proofs.YtmabfdnconccnaaGreatDoor
