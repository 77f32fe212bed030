/- What is right: values, states. -/
import Derived.Test.YtmabfdnconccnaaGreatDoorTxtOk2
namespace Go.Proofs.YtmabfdnconccnaaGreatDoor
open Go Go.Ev
theorem eq_Compare (n : Nat) (a b : Bytes) : F_strings_Compare (n + 1) a b = some (Lib.compareBytes a b) := by kernel_rfl
theorem compare_less : ∀ a b : Bytes, Lib.compareBytes a b < 0 ↔ Op.bytesLess a b = true
  | [], [] => by simp [Lib.compareBytes, Op.bytesLess]
  | [], _ :: _ => by simp [Lib.compareBytes, Op.bytesLess]
  | _ :: _, [] => by simp [Lib.compareBytes, Op.bytesLess]
  | a :: x, b :: y => by
    rw [Lib.compareBytes, Op.bytesLess]
    by_cases h : a < b
    · simp [h]
    · rw [if_neg h]
      by_cases k : b < a
      · rw [if_pos k]
        have : a ≠ b := by rintro rfl; exact h k
        simp [h, this]
      · rw [if_neg k, compare_less x y]
        have : a = b := by
          have h := UInt8.not_lt.1 h
          have k := UInt8.not_lt.1 k
          exact UInt8.le_antisymm k h
        simp [h, this]
theorem sp_sValOk (k x : Int) (s : Bytes) : Evt fun n => F_sValOk n k x s = some (bo (ValOk k x s)) := by
  by_cases hs : s.length ≤ 300
  · refine (((sp_sl1In k 0 3).and (sp_sDecOk x)).and (sp_sDecLooks s hs)).nm fun n ⟨⟨e1, e2⟩, e3⟩ => ?_
    rw [eq_sValOk, e1]
    simp only [e2, e3, Option.bind_some]
    rw [bo_of (declF s).2]
    have e : declF s = (x, true) ↔ (declF s).1 = x ∧ (declF s).2 = true := by rw [Prod.ext_iff]
    unfold ValOk In
    rw [e]
    ((try simp only [bo_dec, bo_beq, bo_bne, bo_not, Option.bind_some, Option.bind_none, bo_bind, bo_sum, cond_true, cond_false, bo_tf, bo_ft, Bool.not_true, Bool.not_false]); (try simp only [bo_ite]); (repeat' split); all_goals first | rfl | (refine bo_congr ?_; grind) | (refine bo_some_t ?_; grind) | (refine bo_some_f ?_; grind) | (exfalso; grind))
  · refine ((sp_sl1In k 0 3).and (sp_sDecOk x)).nm fun n ⟨e1, e2⟩ => ?_
    rw [eq_sValOk, e1, bo_f (P := ValOk k x s) (by unfold ValOk; omega), decide_eq_true (by omega)]
    simp only [e2, Option.bind_some, bo_not]
    ((try simp only [bo_dec, bo_beq, bo_bne, bo_not, Option.bind_some, Option.bind_none, bo_bind, bo_sum, cond_true, cond_false, bo_tf, bo_ft, Bool.not_true, Bool.not_false]); (try simp only [bo_ite]); (repeat' split); all_goals first | rfl | (refine bo_congr ?_; grind) | (refine bo_some_t ?_; grind) | (refine bo_some_f ?_; grind) | (exfalso; grind))
theorem sp_iValOk (k x : Int) (s : Bytes) : Evt fun n => F_iValOk n k x s = some (bo (ValOk k x s)) := by
  by_cases hs : s.length ≤ 300
  · refine ((sp_iDecOk x).and (sp_iDecLooks s hs)).nm fun n ⟨e2, e3⟩ => ?_
    rw [eq_iValOk, e2]
    simp only [e3, Option.bind_some]
    rw [bo_of (declF s).2]
    have e : declF s = (x, true) ↔ (declF s).1 = x ∧ (declF s).2 = true := by rw [Prod.ext_iff]
    unfold ValOk
    rw [e]
    ((try simp only [bo_dec, bo_beq, bo_bne, bo_not, Option.bind_some, Option.bind_none, bo_bind, bo_sum, cond_true, cond_false, bo_tf, bo_ft, Bool.not_true, Bool.not_false]); (try simp only [bo_ite]); (repeat' split); all_goals first | rfl | (refine bo_congr ?_; grind) | (refine bo_some_t ?_; grind) | (refine bo_some_f ?_; grind) | (exfalso; grind))
  · refine (sp_iDecOk x).nm fun n e2 => ?_
    rw [eq_iValOk, e2, bo_f (P := ValOk k x s) (by unfold ValOk; omega), decide_eq_true (by omega)]
    simp only [Option.bind_some, bo_not]
    ((try simp only [bo_dec, bo_beq, bo_bne, bo_not, Option.bind_some, Option.bind_none, bo_bind, bo_sum, cond_true, cond_false, bo_tf, bo_ft, Bool.not_true, Bool.not_false]); (try simp only [bo_ite]); (repeat' split); all_goals first | rfl | (refine bo_congr ?_; grind) | (refine bo_some_t ?_; grind) | (refine bo_some_f ?_; grind) | (exfalso; grind))
theorem CellOk_zero {l : t_isiis} {cells : Int} (h : 0 < l.length) : CellOk l cells 0 ↔ 0 ≤ l[0].1 ∧ l[0].1 < cells ∧ l[0].2.1.length ≤ 300 ∧ ValOk l[0].2.2.1 l[0].2.2.2.1 l[0].2.2.2.2 := by
  unfold CellOk
  exact ⟨fun k => ⟨(k h).1, (k h).2.1, (k h).2.2.1, (k h).2.2.2.1⟩, fun k _ => ⟨k.1, k.2.1, k.2.2.1, k.2.2.2, fun h => absurd h (Nat.lt_irrefl _)⟩⟩
theorem CellOk_pos {l : t_isiis} {cells : Int} {i : Nat} (h0 : 0 < i) (h : i < l.length) : CellOk l cells i ↔ 0 ≤ l[i].1 ∧ l[i].1 < cells ∧ l[i].2.1.length ≤ 300 ∧ ValOk l[i].2.2.1 l[i].2.2.2.1 l[i].2.2.2.2 ∧ CellLess (l[i - 1]'(by omega)).1 (l[i - 1]'(by omega)).2.1 l[i].1 l[i].2.1 := by
  unfold CellOk
  exact ⟨fun k => ⟨(k h).1, (k h).2.1, (k h).2.2.1, (k h).2.2.2.1, (k h).2.2.2.2 h0⟩, fun k _ => ⟨k.1, k.2.1, k.2.2.1, k.2.2.2.1, fun _ => k.2.2.2.2⟩⟩
theorem sp_sl11Less (a : Int) (s : Bytes) (p q : Int) (r : Bytes) (b : Int) (t : Bytes) : Evt fun n => F_sl11Less n a s p q r b t = some (bo (CellLess a s b t)) := by
  refine Evt.succ (Evt.of fun n => ?_)
  rw [eq_sl11Less, bo_of (Op.bytesLess s t)]
  unfold CellLess
  ((try simp only [bo_dec, bo_beq, bo_bne, bo_not, Option.bind_some, Option.bind_none, bo_bind, bo_sum, cond_true, cond_false, bo_tf, bo_ft, Bool.not_true, Bool.not_false]); (try simp only [bo_ite]); (repeat' split); all_goals first | rfl | (refine bo_congr ?_; grind) | (refine bo_some_t ?_; grind) | (refine bo_some_f ?_; grind) | (exfalso; grind))
theorem sp_icellBefore (a : Int) (s : Bytes) (p q : Int) (r : Bytes) (b : Int) (t : Bytes) (p' q' : Int) (r' : Bytes) : Evt fun n => ∃ v, F_icellBefore n a s p q r b t p' q' r' = some v ∧ (0 ≤ v ↔ ¬ CellLess a s b t) := by
  refine Evt.succ (Evt.succ (Evt.of fun n => ?_))
  rw [eq_icellBefore, eq_Compare]
  unfold CellLess
  have := compare_less s t
  by_cases h : a < b
  · rw [decide_eq_true h]
    exact ⟨-1, rfl, by simp [h]⟩
  · rw [decide_eq_false h]
    by_cases k : b < a
    · rw [decide_eq_true k]
      exact ⟨1, rfl, by simp [h]; omega⟩
    · rw [decide_eq_false k]
      obtain rfl : a = b := by omega
      refine ⟨_, rfl, ?_⟩
      rw [← this]
      omega
theorem sp_sStateOk (vs : t_iis) (cs : t_isiis) (nr err vars cells : Int) (h1 : vs.length ≤ 1048576) (h2 : cs.length ≤ 1048576) : Evt fun n => F_sStateOk n vs cs nr err vars cells = some (bo (StateOk vs cs nr err vars cells)) := by
  have k1 := all_loop h1 (p := fun v => ValOk v.1 v.2.1 v.2.2) (r := false) (b := (vs, (cs, (nr, (err, (cells, vars)))))) (L := fun n m i => L_sStateOk_0 n m vs cs nr err i cells vars) ((Evt.all vs fun v _ => sp_sValOk v.1 v.2.1 v.2.2).mono fun n h m i hi => by
    rw [eqL_sStateOk_0, lt_dec hi, atZ_at hi]
    simp only [cond_true, Option.bind_some, h _ (List.getElem_mem hi), bo_not]
    exact bo_sw (by simp)) (fun n m => by rw [eqL_sStateOk_0, lt_nd]; rfl)
  have k2 := rng_loop h2 (q := CellOk cs cells) (r := false) (b := (vs, (cs, (nr, (err, vars))))) (L := fun n m i => L_sStateOk_2 n m vs cs nr err i cells vars) (((Evt.all cs fun v _ => sp_sValOk v.2.2.1 v.2.2.2.1 v.2.2.2.2).and (Evt.lt (len := cs.length) fun i hi => sp_sl11Less (cs[i - 1]'(by omega)).1 (cs[i - 1]'(by omega)).2.1 (cs[i - 1]'(by omega)).2.2.1 (cs[i - 1]'(by omega)).2.2.2.1 (cs[i - 1]'(by omega)).2.2.2.2 cs[i].1 cs[i].2.1)).mono fun n ⟨h, h'⟩ m i hi => by
    rw [eqL_sStateOk_2, lt_dec hi, atZ_at hi]
    simp only [cond_true, Option.bind_some, h _ (List.getElem_mem hi), bo_dec, bo_not]
    rcases Nat.eq_zero_or_pos i with rfl | h0
    · rw [CellOk_zero hi, bo_f (P := (0 : Int) < ((0 : Nat) : Int)) (by omega)]
      simp only [cond_false, bo_orr]
      exact bo_sw (by grind)
    · rw [CellOk_pos h0 hi, bo_t (P := (0 : Int) < (i : Int)) (by omega), atZ_pred h0 hi h2]
      simp only [cond_true, Option.bind_some, h' i hi, bo_not, bo_orr]
      exact bo_sw (by grind)) (fun n m => by rw [eqL_sStateOk_2, lt_nd]; rfl)
  refine ((k1.and k2).and ((sp_sl1In nr 0 1000000).and (sp_sl1In err 0 7))).nm fun n ⟨⟨e1, e2⟩, e3, e4⟩ => ?_
  rw [eq_sStateOk, show L_sStateOk_0 n n vs cs nr err 0 cells vars = _ from e1]
  simp only [Option.bind_some, bo_sum, show L_sStateOk_2 n n vs cs nr err 0 cells vars = _ from e2, e3, e4]
  unfold StateOk
  ((try simp only [bo_dec, bo_beq, bo_bne, bo_not, Option.bind_some, Option.bind_none, bo_bind, bo_sum, cond_true, cond_false, bo_tf, bo_ft, Bool.not_true, Bool.not_false]); (try simp only [bo_ite]); (repeat' split); all_goals first | rfl | (refine bo_congr ?_; grind) | (refine bo_some_t ?_; grind) | (refine bo_some_f ?_; grind) | (exfalso; grind))
theorem sp_iStateOk (vs : t_iis) (cs : t_isiis) (nr err vars cells : Int) (h1 : vs.length ≤ 1048576) (h2 : cs.length ≤ 1048576) : Evt fun n => F_iStateOk n vs cs nr err vars cells = some (bo (StateOk vs cs nr err vars cells)) := by
  have k0 : Evt fun n => ∀ v ∈ vs, F_iStateOk_1 n v.1 v.2.1 v.2.2 = some (bo (¬ ValOk v.1 v.2.1 v.2.2)) := Evt.all vs fun v _ => (sp_iValOk v.1 v.2.1 v.2.2).nm fun n e => by
    rw [eq_iStateOk_1, e]
    simp only [Option.bind_some, bo_not]
  have h := any_loop h1 (p := fun v => ¬ ValOk v.1 v.2.1 v.2.2) (r := fun i => i) (b := ()) (L := fun n m i => L_slices_IndexFunc_impl_Val_impl_Val_0 n m i vs (vs.length : Int)) (k0.mono fun n h m i hi => by
      rw [eqL_slices_IndexFunc_impl_Val_impl_Val_0, lt_dec hi, atZ_at hi]
      simp only [cond_true, Option.bind_some, h _ (List.getElem_mem hi)]) (fun n m => by rw [eqL_slices_IndexFunc_impl_Val_impl_Val_0, lt_nd]; rfl)
  have k1 : Evt fun n => F_slices_ContainsFunc_impl_Val_impl_Val n vs = some (bo (∃ v ∈ vs, ¬ ValOk v.1 v.2.1 v.2.2)) := Evt.succ (h.nm fun n h => by
      rw [eq_slices_ContainsFunc_impl_Val_impl_Val, eq_slices_IndexFunc_impl_Val_impl_Val]
      refine any_res1 (l := vs) (p := fun v => ¬ ValOk v.1 v.2.1 v.2.2) ?_
      rcases h with ⟨h, i, e⟩ | ⟨h, e⟩
      · exact .inl ⟨h, i, by rw [e]; rfl⟩
      · exact .inr ⟨h, by rw [e]; rfl⟩)
  have k2 := rng_loop h2 (q := CellOk cs cells) (r := false) (b := ()) (L := fun n m i => L_iStateOk_0 n m vs cs nr err i cells cs (cs.length : Int)) (((Evt.all cs fun v _ => sp_iValOk v.2.2.1 v.2.2.2.1 v.2.2.2.2).and (Evt.lt (len := cs.length) fun i hi => sp_icellBefore (cs[i - 1]'(by omega)).1 (cs[i - 1]'(by omega)).2.1 (cs[i - 1]'(by omega)).2.2.1 (cs[i - 1]'(by omega)).2.2.2.1 (cs[i - 1]'(by omega)).2.2.2.2 cs[i].1 cs[i].2.1 cs[i].2.2.1 cs[i].2.2.2.1 cs[i].2.2.2.2)).mono fun n ⟨h, h'⟩ m i hi => by
    rw [eqL_iStateOk_0, lt_dec hi, atZ_at hi]
    simp only [cond_true, Option.bind_some, h _ (List.getElem_mem hi), bo_dec, bo_not]
    rcases Nat.eq_zero_or_pos i with rfl | h0
    · rw [CellOk_zero hi, bo_f (P := (0 : Int) < ((0 : Nat) : Int)) (by omega)]
      simp only [cond_false, bo_orr]
      exact bo_sw (by grind)
    · obtain ⟨v, e, hv⟩ := h' i hi
      rw [CellOk_pos h0 hi, bo_t (P := (0 : Int) < (i : Int)) (by omega), atZ_pred h0 hi h2]
      simp only [cond_true, Option.bind_some, e, hv, bo_orr]
      exact bo_sw (by grind)) (fun n m => by rw [eqL_iStateOk_0, lt_nd]; rfl)
  refine ((k1.and k2).and ((sp_iin nr 0 1000000).and (sp_iin err 0 7))).nm fun n ⟨⟨e1, e2⟩, e3, e4⟩ => ?_
  rw [eq_iStateOk, e1]
  simp only [Option.bind_some, show L_iStateOk_0 n n vs cs nr err 0 cells cs cs.length = _ from e2, e3, e4]
  unfold StateOk
  ((try simp only [bo_dec, bo_beq, bo_bne, bo_not, Option.bind_some, Option.bind_none, bo_bind, bo_sum, cond_true, cond_false, bo_tf, bo_ft, Bool.not_true, Bool.not_false]); (try simp only [bo_ite]); (repeat' split); all_goals first | rfl | (refine bo_congr ?_; grind) | (refine bo_some_t ?_; grind) | (refine bo_some_f ?_; grind) | (exfalso; grind))
end Go.Proofs.YtmabfdnconccnaaGreatDoor
