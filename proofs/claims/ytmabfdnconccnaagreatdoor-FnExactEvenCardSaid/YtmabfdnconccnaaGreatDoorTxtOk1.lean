/- What is right: names, programs. -/
import Derived.Test.YtmabfdnconccnaaGreatDoorTxtRexP
import Derived.Test.YtmabfdnconccnaaGreatDoorTxtDec
import Derived.Test.YtmabfdnconccnaaGreatDoorEv4
namespace Go.Proofs.YtmabfdnconccnaaGreatDoor
open Go Go.Ev
theorem sp_iin (x lo hi : Int) : Evt fun n => F_iin n x lo hi = some (bo (In x lo hi)) := by
  refine Evt.succ (Evt.of fun n => ?_)
  rw [eq_iin]
  simp only [bo_dec, bo_and, Option.bind_some, In]
theorem sp_sl1In (x lo hi : Int) : Evt fun n => F_sl1In n x lo hi = some (bo (In x lo hi)) := by
  refine Evt.succ (Evt.of fun n => ?_)
  rw [eq_sl1In]
  simp only [bo_dec, bo_and, Option.bind_some, In]
theorem sp_sl7Letter (b : UInt8) : Evt fun n => F_sl7Letter n b = some (bo (Letter b)) := by
  refine Evt.succ (Evt.of fun n => ?_)
  rw [eq_sl7Letter]
  unfold Letter
  ((try simp only [bo_dec, bo_beq, bo_bne, bo_not, Option.bind_some, Option.bind_none, bo_bind, bo_sum, cond_true, cond_false, bo_tf, bo_ft, Bool.not_true, Bool.not_false]); (try simp only [bo_ite]); (repeat' split); all_goals first | rfl | (refine bo_congr ?_; grind) | (refine bo_some_t ?_; grind) | (refine bo_some_f ?_; grind) | (exfalso; grind))
theorem sp_sl7Within (l : t_s) (s : Bytes) (hl : l.length ≤ 1048576) : Evt fun n => F_sl7Within n l s = some (bo (s ∈ l)) := by
  have h := any_loop hl (p := fun x => x = s) (r := fun _ => true) (b := ()) (L := fun n m i => L_sl7Within_0 n m i s l) (Evt.of fun n m i hi => by
    rw [eqL_sl7Within_0, lt_dec hi, atZ_at hi]
    simp only [cond_true, Option.bind_some, bo_beq]) (fun n m => by rw [eqL_sl7Within_0, lt_nd]; rfl)
  refine h.nm fun n h => ?_
  rw [eq_sl7Within]
  rcases h with ⟨⟨x, hx, rfl⟩, i, e⟩ | ⟨hx, e⟩
  · rw [e, bo_t hx]; rfl
  · rw [e, bo_f fun h => hx s h rfl]; rfl
theorem sp_slices_Contains (l : t_s) (s : Bytes) (hl : l.length ≤ 1048576) : Evt fun n => F_slices_Contains_string_string n l s = some (bo (s ∈ l)) := by
  have h := any_loop hl (p := fun x => s = x) (r := fun i => i) (b := ()) (L := fun n m i => L_slices_Index_string_string_0 n m i l s (l.length : Int)) (Evt.of fun n m i hi => by
    rw [eqL_slices_Index_string_string_0, lt_dec hi, atZ_at hi]
    simp only [cond_true, Option.bind_some, bo_beq]) (fun n m => by rw [eqL_slices_Index_string_string_0, lt_nd]; rfl)
  refine Evt.succ (h.nm fun n h => ?_)
  rw [eq_slices_Contains_string_string, eq_slices_Index_string_string]
  rcases h with ⟨⟨x, hx, rfl⟩, i, e⟩ | ⟨hx, e⟩
  · rw [e, bo_t hx]
    simp only [Option.bind_some, sumE_r, bo_dec, idx_pos]
  · rw [e, bo_f fun h => hx s h rfl]
    simp only [Option.bind_some, sumE_l, bo_dec, idx_neg]
theorem sp_sl7Calls : Evt fun n => F_sl7Calls n = some callsL := Evt.succ (Evt.of fun n => eq_sl7Calls n)
theorem sp_icalls : Evt fun n => F_icalls n = some callsL := Evt.succ (Evt.of fun n => eq_icalls n)
theorem sp_sKeyword (s : Bytes) : Evt fun n => F_sKeyword n s = some (bo (Key s)) := by
  refine (((sp_sl7Within kws s (by decide)).and (sp_sl7Within callsL s (by decide))).and sp_sl7Calls).nm fun n ⟨⟨e1, e2⟩, e3⟩ => ?_
  have e1 : F_sl7Within n [[66, 69, 71, 73, 78], [112, 114, 105, 110, 116], [105, 102], [101, 108, 115, 101], [119, 104, 105, 108, 101], [110, 101, 120, 116], [100, 101, 108, 101, 116, 101], [78, 82], [78, 70]] s = some (bo (s ∈ kws)) := e1
  rw [eq_sKeyword, e1]
  simp only [e2, e3, Option.bind_some, bo_or]
  rfl
theorem sp_iKeyword (s : Bytes) : Evt fun n => F_iKeyword n s = some (bo (Key s)) := by
  refine ((sp_slices_Contains callsL s (by decide)).and sp_icalls).nm fun n ⟨e2, e3⟩ => ?_
  rw [eq_iKeyword]
  simp only [e2, e3, Option.bind_some, bo_or, bo_beq]
  refine bo_congr ?_
  unfold Key kws
  simp only [List.mem_cons, List.mem_nil_iff, or_false, or_assoc]
theorem sp_sl9Name (s : Bytes) (hs : s.length ≤ 1048576) : Evt fun n => F_sl9Name n s = some (bo (NameOk s)) := by
  have h := all_loop hs (p := Letter) (r := false) (b := s) (L := fun n m i => L_sl9Name_0 n m i s) ((Evt.all s fun b _ => sp_sl7Letter b).mono fun n h m i hi => by
    rw [eqL_sl9Name_0, lt_dec hi, nthZ_at hi]
    simp only [cond_true, Option.bind_some, u8_id, h _ (List.getElem_mem hi), bo_not]
    exact bo_sw (by simp)) (fun n m => by rw [eqL_sl9Name_0, lt_nd]; rfl)
  refine ((h.and (sp_sKeyword s)).and (sp_sl1In s.length 1 8)).nm fun n ⟨⟨e1, e2⟩, e3⟩ => ?_
  rw [eq_sl9Name, e1]
  simp only [e2, e3, Option.bind_some, bo_sum]
  unfold NameOk In
  ((try simp only [bo_dec, bo_beq, bo_bne, bo_not, Option.bind_some, Option.bind_none, bo_bind, bo_sum, cond_true, cond_false, bo_tf, bo_ft, Bool.not_true, Bool.not_false]); (try simp only [bo_ite]); (repeat' split); all_goals first | rfl | (refine bo_congr ?_; grind) | (refine bo_some_t ?_; grind) | (refine bo_some_f ?_; grind) | (exfalso; grind))
theorem sp_iisLetter (b : UInt8) : Evt fun n => F_iisLetter n b = some (bo (Letter b)) := by
  refine Evt.succ (Evt.of fun n => ?_)
  rw [eq_iisLetter]
  unfold Letter
  ((try simp only [bo_dec, bo_beq, bo_bne, bo_not, Option.bind_some, Option.bind_none, bo_bind, bo_sum, cond_true, cond_false, bo_tf, bo_ft, Bool.not_true, Bool.not_false]); (try simp only [bo_ite]); (repeat' split); all_goals first | rfl | (refine bo_congr ?_; grind) | (refine bo_some_t ?_; grind) | (refine bo_some_f ?_; grind) | (exfalso; grind))
theorem sp_ilettersAt (s : Bytes) (k : Nat) (hk : k ≤ s.length) (hs : s.length ≤ 1048576) : Evt fun n => F_ilettersAt n s (k : Int) = some (((s.drop k).takeWhile fun b => bo (Letter b)).length : Int) := by
  have e0 : ∀ i : Nat, i ≤ s.length → IntKind.wrap .i64 ((k : Int) + (i : Int)) = ((k + i : Nat) : Int) := fun i hi => by rw [IntKind.wrap_i64]; omega
  have h := cnt_loop (l := s.drop k) (β := Int) (by simp; omega) (p := fun b => bo (Letter b)) (L := fun n m i => L_ilettersAt_0 n m i k s) ((Evt.all s fun b _ => sp_iisLetter b).mono fun n h m i hi => by
    have hi' : k + i < s.length := by simp at hi; omega
    rw [eqL_ilettersAt_0, e0 i (by omega), lt_dec hi', nthZ_at hi']
    simp only [cond_true, Option.bind_some, u8_id, h _ (List.getElem_mem hi'), List.getElem_drop]) (fun n m => by
      have e1 : (k + (s.drop k).length) = s.length := by simp; omega
      rw [eqL_ilettersAt_0, e0 _ (by simp), e1, lt_nd]; rfl)
  refine h.nm fun n h => ?_
  rw [eq_ilettersAt]
  rw [show L_ilettersAt_0 n n (0 : Int) k s = _ from h]
  rfl
theorem sp_iisName (s : Bytes) (hs : s.length ≤ 1048576) : Evt fun n => F_iisName n s = some (bo (NameOk s)) := by
  refine (((sp_ilettersAt s 0 (Nat.zero_le _) hs).and (sp_iKeyword s)).and (sp_iin s.length 1 8)).nm fun n ⟨⟨e1, e2⟩, e3⟩ => ?_
  have e1 : F_ilettersAt n s 0 = some ((s.takeWhile fun b => bo (Letter b)).length : Int) := e1
  have e4 : (((s.takeWhile fun b => bo (Letter b)).length : Int) = (s.length : Int)) ↔ ∀ b ∈ s, Letter b := by
    rw [Int.ofNat_inj, tw_all]
    simp only [bo_eq]
  rw [eq_iisName, e1]
  simp only [e2, e3, Option.bind_some, bo_beq, e4]
  unfold NameOk In
  ((try simp only [bo_dec, bo_beq, bo_bne, bo_not, Option.bind_some, Option.bind_none, bo_bind, bo_sum, cond_true, cond_false, bo_tf, bo_ft, Bool.not_true, Bool.not_false]); (try simp only [bo_ite]); (repeat' split); all_goals first | rfl | (refine bo_congr ?_; grind) | (refine bo_some_t ?_; grind) | (refine bo_some_f ?_; grind) | (exfalso; grind))
theorem OrdAt_zero (l : List Bytes) : OrdAt l 0 := fun _ h => absurd h (Nat.lt_irrefl _)
theorem OrdAt_pos {l : List Bytes} {i : Nat} (h0 : 0 < i) (h : i < l.length) : OrdAt l i ↔ Op.bytesLess (l[i - 1]'(by omega)) l[i] = true := ⟨fun k => k h h0, fun k _ _ => k⟩
theorem sp_inamesOk (l : t_s) (hl : l.length ≤ 1048576) (hs : ∀ s ∈ l, s.length ≤ 1048576) : Evt fun n => F_inamesOk n l = some (bo ((∀ s ∈ l, NameOk s) ∧ (∀ i, i < l.length → OrdAt l i) ∧ l.length ≤ 8)) := by
  have h := rng_loop hl (q := fun i => At l NameOk i ∧ OrdAt l i) (r := false) (b := l) (L := fun n m i => L_inamesOk_0 n m i l l (l.length : Int)) ((Evt.all l fun s h => sp_iisName s (hs s h)).mono fun n h m i hi => by
    rw [eqL_inamesOk_0, lt_dec hi, atZ_at hi]
    simp only [cond_true, Option.bind_some, h _ (List.getElem_mem hi), At_at hi]
    rcases Nat.eq_zero_or_pos i with rfl | h0
    · rw [decide_eq_false (by omega)]
      simp only [cond_false, bo_not]
      exact bo_sw (by simp [OrdAt_zero])
    · rw [decide_eq_true (by omega), atZ_pred h0 hi hl]
      simp only [cond_true, Option.bind_some]
      rw [bo_of (Op.bytesLess _ _)]
      simp only [bo_not, bo_orr]
      exact bo_sw (by rw [OrdAt_pos h0 hi]; grind)) (fun n m => by rw [eqL_inamesOk_0, lt_nd]; rfl)
  refine h.nm fun n h => ?_
  rw [eq_inamesOk, show L_inamesOk_0 n n (0 : Int) l l (l.length : Int) = _ from h]
  simp only [Option.bind_some, bo_sum, bo_dec, bo_and]
  refine bo_congr ?_
  rw [← At_all]
  grind
end Go.Proofs.YtmabfdnconccnaaGreatDoor
