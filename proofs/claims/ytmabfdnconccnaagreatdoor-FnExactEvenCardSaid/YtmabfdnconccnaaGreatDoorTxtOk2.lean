/- What is right: operations and programs. -/
import Derived.Test.YtmabfdnconccnaaGreatDoorTxtOk1
namespace Go.Proofs.YtmabfdnconccnaaGreatDoor
open Go Go.Ev
theorem sp_sDecOk (x : Int) : Evt fun n => F_sDecOk n x = some (bo (DecB x)) := by
  refine (sp_sl1In x (-9000000000000) 9000000000000).nm fun n e => ?_
  rw [eq_sDecOk, e]
  rfl
theorem sp_iDecOk (x : Int) : Evt fun n => F_iDecOk n x = some (bo (DecB x)) := by
  refine (sp_iin x (-9000000000000) 9000000000000).nm fun n e => ?_
  rw [eq_iDecOk, e]
  rfl
theorem sp_sl13Op (c k : Int) (s : Bytes) (n0 vars cells : Int) (hs : s.length ≤ 1048576) (h0 : 1 ≤ n0 ∧ n0 ≤ 1048576) : Evt fun n => F_sl13Op n c k s n0 vars cells = some (bo (OpWd c k s n0 vars cells)) := by
  refine ((((sp_sDecOk k).and (sp_sRexParse s)).and (sp_sl7Calls.and (sp_sl7Within callsL s (by decide)))).and (((sp_sl1In k 1 3).and (sp_sl1In k 0 (n0 - 1))).and ((sp_sl1In k 0 1).and (sp_sl1In c 1 36)))).nm fun n ⟨⟨⟨e1, e2⟩, e3, e4⟩, ⟨e5, e6⟩, e7, e8⟩ => ?_
  have hw : IntKind.wrap .i64 (n0 - 1) = n0 - 1 := by rw [IntKind.wrap_i64]; omega
  rw [eq_sl13Op, hw]
  simp only [e1, e2, e3, e4, e5, e6, e7, e8, Option.bind_some, bo_dec, bo_beq, bo_and]
  rw [bo_of (rexF s).2.2.2.2.2]
  simp only [bo_and, Option.bind_some, bo_cc]
  refine bo_congr ?_
  unfold OpWd In
  by_cases h : 1 ≤ c ∧ c ≤ 36
  · obtain rfl | rfl | rfl | rfl | rfl | rfl | rfl | rfl | rfl | rfl | rfl | rfl | rfl | rfl | rfl | rfl | rfl | rfl | rfl | rfl | rfl | rfl | rfl | rfl | rfl | rfl | rfl | rfl | rfl | rfl | rfl | rfl | rfl | rfl | rfl | rfl : c = 1 ∨ c = 2 ∨ c = 3 ∨ c = 4 ∨ c = 5 ∨ c = 6 ∨ c = 7 ∨ c = 8 ∨ c = 9 ∨ c = 10 ∨ c = 11 ∨ c = 12 ∨ c = 13 ∨ c = 14 ∨ c = 15 ∨ c = 16 ∨ c = 17 ∨ c = 18 ∨ c = 19 ∨ c = 20 ∨ c = 21 ∨ c = 22 ∨ c = 23 ∨ c = 24 ∨ c = 25 ∨ c = 26 ∨ c = 27 ∨ c = 28 ∨ c = 29 ∨ c = 30 ∨ c = 31 ∨ c = 32 ∨ c = 33 ∨ c = 34 ∨ c = 35 ∨ c = 36 := by omega
    all_goals simp
    all_goals grind
  · have : c ≠ 1 ∧ c ≠ 2 ∧ c ≠ 3 ∧ c ≠ 4 ∧ c ≠ 5 ∧ c ≠ 6 ∧ c ≠ 7 ∧ c ≠ 8 ∧ c ≠ 9 ∧ c ≠ 10 ∧ c ≠ 11 ∧ c ≠ 12 ∧ c ≠ 13 ∧ c ≠ 14 ∧ c ≠ 15 ∧ c ≠ 16 ∧ c ≠ 17 ∧ c ≠ 18 ∧ c ≠ 19 ∧ c ≠ 20 ∧ c ≠ 21 ∧ c ≠ 22 ∧ c ≠ 23 ∧ c ≠ 24 ∧ c ≠ 25 ∧ c ≠ 26 ∧ c ≠ 27 ∧ c ≠ 28 ∧ c ≠ 29 ∧ c ≠ 30 ∧ c ≠ 31 ∧ c ≠ 32 ∧ c ≠ 33 ∧ c ≠ 34 ∧ c ≠ 35 ∧ c ≠ 36 := by omega
    simp [this]
    omega
theorem sp_iisRex (s : Bytes) (hs : s.length ≤ 1048576) : Evt fun n => F_iisRex n s = some (bo ((rexF s).2.2.2.2.2 = true)) := by
  refine (sp_iRexParse s).nm fun n e => ?_
  rw [eq_iisRex, e, ← bo_of]
  rfl
def opForm (c : Int) : Bytes :=
  if c = 1 then [100] else if c = 2 ∨ c = 24 ∨ c = 25 then [115] else if c = 29 then [110, 115] else if c = 3 ∨ c = 4 ∨ c = 5 ∨ c = 6 ∨ c = 7 ∨ c = 8 ∨ c = 35 ∨ c = 30 ∨ c = 31 ∨ c = 33 then [110] else []
theorem sp_iopName (c : Int) : Evt fun n => (In c 1 36 ∧ ∃ nm, nm ≠ [] ∧ F_iopName n c = some (nm, opForm c)) ∨ (¬ In c 1 36 ∧ F_iopName n c = some ([], [])) := by
  refine (sp_iin c 1 36).nm fun n e => ?_
  have hw : IntKind.wrap .i64 ((37 : Int) - 1) = 36 := by rw [IntKind.wrap_i64]; omega
  rw [eq_iopName, hw, e]
  by_cases h : In c 1 36
  · left
    rw [bo_t h]
    refine ⟨h, ?_⟩
    unfold In at h
    obtain rfl | rfl | rfl | rfl | rfl | rfl | rfl | rfl | rfl | rfl | rfl | rfl | rfl | rfl | rfl | rfl | rfl | rfl | rfl | rfl | rfl | rfl | rfl | rfl | rfl | rfl | rfl | rfl | rfl | rfl | rfl | rfl | rfl | rfl | rfl | rfl : c = 1 ∨ c = 2 ∨ c = 3 ∨ c = 4 ∨ c = 5 ∨ c = 6 ∨ c = 7 ∨ c = 8 ∨ c = 9 ∨ c = 10 ∨ c = 11 ∨ c = 12 ∨ c = 13 ∨ c = 14 ∨ c = 15 ∨ c = 16 ∨ c = 17 ∨ c = 18 ∨ c = 19 ∨ c = 20 ∨ c = 21 ∨ c = 22 ∨ c = 23 ∨ c = 24 ∨ c = 25 ∨ c = 26 ∨ c = 27 ∨ c = 28 ∨ c = 29 ∨ c = 30 ∨ c = 31 ∨ c = 32 ∨ c = 33 ∨ c = 34 ∨ c = 35 ∨ c = 36 := by omega
    all_goals exact ⟨_, by decide, rfl⟩
  · right
    rw [bo_f h]
    exact ⟨h, rfl⟩
theorem sp_iopRight (c k : Int) (s : Bytes) (n0 vars cells : Int) (hs : s.length ≤ 1048576) (h0 : 1 ≤ n0 ∧ n0 ≤ 1048576) : Evt fun n => F_iopRight n c k s n0 vars cells = some (bo (OpWd c k s n0 vars cells)) := by
  refine ((((sp_iDecOk k).and (sp_iisRex s hs)).and (sp_icalls.and (sp_slices_Contains callsL s (by decide)))).and (((sp_iin k 1 3).and (sp_iin k 0 (n0 - 1))).and ((sp_iin k 0 1).and (sp_iopName c)))).nm fun n ⟨⟨⟨e1, e2⟩, e3, e4⟩, ⟨e5, e6⟩, e7, e8⟩ => ?_
  have hw : IntKind.wrap .i64 (n0 - 1) = n0 - 1 := by rw [IntKind.wrap_i64]; omega
  rw [eq_iopRight, hw]
  rcases e8 with ⟨h, nm, hn, e8⟩ | ⟨h, e8⟩
  · rw [e8]
    have hn' : (nm == ([] : Bytes)) = false := by rw [bo_beq, bo_f hn]
    simp only [e1, e2, e3, e4, e5, e6, e7, Option.bind_some, hn', cond_false]
    unfold In at h
    obtain rfl | rfl | rfl | rfl | rfl | rfl | rfl | rfl | rfl | rfl | rfl | rfl | rfl | rfl | rfl | rfl | rfl | rfl | rfl | rfl | rfl | rfl | rfl | rfl | rfl | rfl | rfl | rfl | rfl | rfl | rfl | rfl | rfl | rfl | rfl | rfl : c = 1 ∨ c = 2 ∨ c = 3 ∨ c = 4 ∨ c = 5 ∨ c = 6 ∨ c = 7 ∨ c = 8 ∨ c = 9 ∨ c = 10 ∨ c = 11 ∨ c = 12 ∨ c = 13 ∨ c = 14 ∨ c = 15 ∨ c = 16 ∨ c = 17 ∨ c = 18 ∨ c = 19 ∨ c = 20 ∨ c = 21 ∨ c = 22 ∨ c = 23 ∨ c = 24 ∨ c = 25 ∨ c = 26 ∨ c = 27 ∨ c = 28 ∨ c = 29 ∨ c = 30 ∨ c = 31 ∨ c = 32 ∨ c = 33 ∨ c = 34 ∨ c = 35 ∨ c = 36 := by omega
    all_goals simp [opForm, bo_beq, bo_bne, bo_dec, bo_not, bo_F, bo_T, bo_and, bo_orr, bo_tf, bo_ft, bo_nand, OpWd, In]
    all_goals first
      | (refine bo_congr' ?_; grind)
      | (by_cases hk : k = 0 <;> by_cases hq : s = [] <;> simp [hk, hq, bo_T, bo_F])
  · rw [e8]
    have : ¬ OpWd c k s n0 vars cells := by
      unfold In at h
      unfold OpWd
      grind
    rw [bo_f this]
    rfl
theorem sp_sOpsOk (l : t_iis) (vars cells : Int) (hl : l.length ≤ 1048576) (hs : ∀ o ∈ l, o.2.2.length ≤ 1048576) : Evt fun n => F_sOpsOk n l vars cells = some (bo (OpsWd l vars cells)) := by
  by_cases h0 : 0 < l.length
  · have h := all_loop hl (p := fun o => OpWd o.1 o.2.1 o.2.2 l.length vars cells) (r := false) (b := ()) (L := fun n m i => L_sOpsOk_0 n m i cells vars l.length l) ((Evt.all l fun o h => sp_sl13Op o.1 o.2.1 o.2.2 l.length vars cells (hs o h) (by omega)).mono fun n h m i hi => by
      rw [eqL_sOpsOk_0, lt_dec hi, atZ_at hi]
      simp only [cond_true, Option.bind_some, h _ (List.getElem_mem hi), bo_not]
      exact bo_sw (by simp)) (fun n m => by rw [eqL_sOpsOk_0, lt_nd]; rfl)
    refine (h.and (sp_sl1In l.length 1 1500)).nm fun n ⟨h, e⟩ => ?_
    rw [eq_sOpsOk, e, atZ_last h0 hl, show L_sOpsOk_0 n n (0 : Int) cells vars l.length l = _ from h]
    simp only [Option.bind_some, bo_sum, bo_bne]
    unfold OpsWd In
    have hf : (∀ h : 0 < l.length, (l[l.length - 1]'(by omega)).1 = 36) ↔ (l[l.length - 1]'(by omega)).1 = 36 := ⟨fun k => k h0, fun k _ => k⟩
    rw [hf]
    ((try simp only [bo_dec, bo_beq, bo_bne, bo_not, Option.bind_some, Option.bind_none, bo_bind, bo_sum, cond_true, cond_false, bo_tf, bo_ft, Bool.not_true, Bool.not_false]); (try simp only [bo_ite]); (repeat' split); all_goals first | rfl | (refine bo_congr ?_; grind) | (refine bo_some_t ?_; grind) | (refine bo_some_f ?_; grind) | (exfalso; grind))
  · refine (sp_sl1In l.length 1 1500).nm fun n e => ?_
    rw [eq_sOpsOk, e, bo_f (P := In _ _ _) (by unfold In; omega), bo_f (P := OpsWd _ _ _) (by unfold OpsWd; omega)]
    rfl
theorem sp_iOpsOk (l : t_iis) (vars cells : Int) (hl : l.length ≤ 1048576) (hs : ∀ o ∈ l, o.2.2.length ≤ 1048576) : Evt fun n => F_iOpsOk n l vars cells = some (bo (OpsWd l vars cells)) := by
  by_cases h0 : 0 < l.length
  · have h1 : Evt fun n => ∀ o ∈ l, F_iOpsOk_1 n l vars cells o.1 o.2.1 o.2.2 = some (bo (¬ OpWd o.1 o.2.1 o.2.2 l.length vars cells), (l, (vars, cells))) := Evt.all l fun o h => (sp_iopRight o.1 o.2.1 o.2.2 l.length vars cells (hs o h) (by omega)).nm fun n e => by
      rw [eq_iOpsOk_1, e]
      simp only [Option.bind_some, bo_not]
    have h := any_loop hl (p := fun o => ¬ OpWd o.1 o.2.1 o.2.2 l.length vars cells) (r := fun i => (i, (l, (vars, cells)))) (b := (l, (vars, cells))) (L := fun n m i => L_slices_IndexFunc_impl_Op_impl_Op_0 n m l vars cells i l (l.length : Int)) (h1.mono fun n h m i hi => by
      rw [eqL_slices_IndexFunc_impl_Op_impl_Op_0, lt_dec hi, atZ_at hi]
      simp only [cond_true, Option.bind_some, h _ (List.getElem_mem hi)]) (fun n m => by rw [eqL_slices_IndexFunc_impl_Op_impl_Op_0, lt_nd]; rfl)
    have h2 : Evt fun n => F_slices_ContainsFunc_impl_Op_impl_Op n l vars cells l = some (bo (∃ o ∈ l, ¬ OpWd o.1 o.2.1 o.2.2 l.length vars cells), (l, (vars, cells))) := Evt.succ (h.nm fun n h => by
      rw [eq_slices_ContainsFunc_impl_Op_impl_Op, eq_slices_IndexFunc_impl_Op_impl_Op]
      refine any_res (l := l) (p := fun o => ¬ OpWd o.1 o.2.1 o.2.2 l.length vars cells) (c := (l, (vars, cells))) ?_
      rcases h with ⟨h, i, e⟩ | ⟨h, e⟩
      · exact .inl ⟨h, i, by rw [e]; rfl⟩
      · exact .inr ⟨h, by rw [e]; rfl⟩)
    refine (h2.and (sp_iin l.length 1 1500)).nm fun n ⟨h, e⟩ => ?_
    rw [eq_iOpsOk, e, atZ_last h0 hl, h]
    simp only [Option.bind_some, bo_bne]
    unfold OpsWd In
    have hf : (∀ h : 0 < l.length, (l[l.length - 1]'(by omega)).1 = 36) ↔ (l[l.length - 1]'(by omega)).1 = 36 := ⟨fun k => k h0, fun k _ => k⟩
    rw [hf]
    ((try simp only [bo_dec, bo_beq, bo_bne, bo_not, Option.bind_some, Option.bind_none, bo_bind, bo_sum, cond_true, cond_false, bo_tf, bo_ft, Bool.not_true, Bool.not_false]); (try simp only [bo_ite]); (repeat' split); all_goals first | rfl | (refine bo_congr ?_; grind) | (refine bo_some_t ?_; grind) | (refine bo_some_f ?_; grind) | (exfalso; grind))
  · refine (sp_iin l.length 1 1500).nm fun n e => ?_
    rw [eq_iOpsOk, e, bo_f (P := In _ _ _) (by unfold In; omega), bo_f (P := OpsWd _ _ _) (by unfold OpsWd; omega)]
    rfl
def smProg (vars cells : t_s) (start main : t_iis) : Prop :=
  (vars.length ≤ 1048576 ∧ ∀ s ∈ vars, s.length ≤ 1048576) ∧ (cells.length ≤ 1048576 ∧ ∀ s ∈ cells, s.length ≤ 1048576) ∧ (start.length ≤ 1048576 ∧ ∀ o ∈ start, o.2.2.length ≤ 1048576) ∧ (main.length ≤ 1048576 ∧ ∀ o ∈ main, o.2.2.length ≤ 1048576)
theorem sp_iProgOk (a b : t_s) (c d : t_iis) (h : smProg a b c d) : Evt fun n => F_iProgOk n a b c d = some (bo (ProgOk a b c d)) := by
  obtain ⟨⟨h1, h2⟩, ⟨h3, h4⟩, ⟨h5, h6⟩, ⟨h7, h8⟩⟩ := h
  have k1 : Evt fun n => ∀ s ∈ a, F_iProgOk_1 n a b c d s = some (bo (s ∈ b), (a, (b, (c, d)))) := Evt.all a fun s _ => (sp_slices_Contains b s h3).nm fun n e => by
    rw [eq_iProgOk_1, e]
    rfl
  have h := any_loop h1 (p := fun s => s ∈ b) (r := fun i => (i, (a, (b, (c, d))))) (b := (a, (b, (c, d)))) (L := fun n m i => L_slices_IndexFunc_string_string_0 n m a b c d i a (a.length : Int)) (k1.mono fun n h m i hi => by
      rw [eqL_slices_IndexFunc_string_string_0, lt_dec hi, atZ_at hi]
      simp only [cond_true, Option.bind_some, h _ (List.getElem_mem hi)]) (fun n m => by rw [eqL_slices_IndexFunc_string_string_0, lt_nd]; rfl)
  have k2 : Evt fun n => F_slices_ContainsFunc_string_string n a b c d a = some (bo (∃ s ∈ a, s ∈ b), (a, (b, (c, d)))) := Evt.succ (h.nm fun n h => by
      rw [eq_slices_ContainsFunc_string_string, eq_slices_IndexFunc_string_string]
      refine any_res (l := a) (p := fun s => s ∈ b) (c := (a, (b, (c, d)))) ?_
      rcases h with ⟨h, i, e⟩ | ⟨h, e⟩
      · exact .inl ⟨h, i, by rw [e]; rfl⟩
      · exact .inr ⟨h, by rw [e]; rfl⟩)
  refine (((sp_inamesOk a h1 h2).and (sp_inamesOk b h3 h4)).and (k2.and ((sp_iOpsOk c a.length b.length h5 h6).and (sp_iOpsOk d a.length b.length h7 h8)))).nm fun n ⟨⟨e1, e2⟩, e3, e4, e5⟩ => ?_
  rw [eq_iProgOk, e1, e2, e3]
  simp only [Option.bind_some, e4, e5]
  unfold ProgOk
  ((try simp only [bo_dec, bo_beq, bo_bne, bo_not, Option.bind_some, Option.bind_none, bo_bind, bo_sum, cond_true, cond_false, bo_tf, bo_ft, Bool.not_true, Bool.not_false]); (try simp only [bo_ite]); (repeat' split); all_goals first | rfl | (refine bo_congr ?_; grind) | (refine bo_some_t ?_; grind) | (refine bo_some_f ?_; grind) | (exfalso; grind))
theorem sp_sProgOk (a b : t_s) (c d : t_iis) (h : smProg a b c d) : Evt fun n => F_sProgOk n a b c d = some (bo (ProgOk a b c d)) := by
  obtain ⟨⟨h1, h2⟩, ⟨h3, h4⟩, ⟨h5, h6⟩, ⟨h7, h8⟩⟩ := h
  have k1 := rng_loop h1 (q := fun i => At a NameOk i ∧ At a (fun s => s ∉ b) i ∧ OrdAt a i) (r := false) (b := (a, (b, (c, d)))) (L := fun n m i => L_sProgOk_0 n m a b c d i) (((Evt.all a fun s h => sp_sl9Name s (h2 s h)).and (Evt.all a fun s _ => sp_sl7Within b s h3)).mono fun n ⟨h, h'⟩ m i hi => by
    rw [eqL_sProgOk_0, lt_dec hi, atZ_at hi]
    simp only [cond_true, Option.bind_some, h _ (List.getElem_mem hi), h' _ (List.getElem_mem hi), At_at hi]
    rcases Nat.eq_zero_or_pos i with rfl | h0
    · rw [decide_eq_false (by omega)]
      simp only [cond_false, bo_not, bo_orr]
      exact bo_sw (by have := OrdAt_zero a; grind)
    · rw [decide_eq_true (by omega), atZ_pred h0 hi h1]
      simp only [cond_true, Option.bind_some]
      rw [bo_of (Op.bytesLess _ _)]
      simp only [bo_not, bo_orr]
      exact bo_sw (by rw [OrdAt_pos h0 hi]; grind)) (fun n m => by rw [eqL_sProgOk_0, lt_nd]; rfl)
  have k2 := rng_loop h3 (q := fun i => At b NameOk i ∧ OrdAt b i) (r := false) (b := (a, (b, (c, d)))) (L := fun n m i => L_sProgOk_2 n m a b c d i) ((Evt.all b fun s h => sp_sl9Name s (h4 s h)).mono fun n h m i hi => by
    rw [eqL_sProgOk_2, lt_dec hi, atZ_at hi]
    simp only [cond_true, Option.bind_some, h _ (List.getElem_mem hi), At_at hi]
    rcases Nat.eq_zero_or_pos i with rfl | h0
    · rw [decide_eq_false (by omega)]
      simp only [cond_false, bo_not]
      exact bo_sw (by simp [OrdAt_zero])
    · rw [decide_eq_true (by omega), atZ_pred h0 hi h3]
      simp only [cond_true, Option.bind_some]
      rw [bo_of (Op.bytesLess _ _)]
      simp only [bo_not, bo_orr]
      exact bo_sw (by rw [OrdAt_pos h0 hi]; grind)) (fun n m => by rw [eqL_sProgOk_2, lt_nd]; rfl)
  refine ((k1.and k2).and ((sp_sOpsOk c a.length b.length h5 h6).and (sp_sOpsOk d a.length b.length h7 h8))).nm fun n ⟨⟨e1, e2⟩, e4, e5⟩ => ?_
  rw [eq_sProgOk, show L_sProgOk_0 n n a b c d 0 = _ from e1]
  simp only [Option.bind_some, bo_sum, show L_sProgOk_2 n n a b c d 0 = _ from e2, e4, e5, bo_dec, bo_and]
  unfold ProgOk
  have q1 : (∀ i, i < a.length → At a NameOk i ∧ At a (fun s => s ∉ b) i ∧ OrdAt a i) ↔ (∀ s ∈ a, NameOk s) ∧ (∀ s ∈ a, s ∉ b) ∧ (∀ i, i < a.length → OrdAt a i) := by
    rw [← At_all, ← At_all]
    grind
  have q2 : (∀ i, i < b.length → At b NameOk i ∧ OrdAt b i) ↔ (∀ s ∈ b, NameOk s) ∧ (∀ i, i < b.length → OrdAt b i) := by
    rw [← At_all]
    grind
  rw [q1, q2]
  ((try simp only [bo_dec, bo_beq, bo_bne, bo_not, Option.bind_some, Option.bind_none, bo_bind, bo_sum, cond_true, cond_false, bo_tf, bo_ft, Bool.not_true, Bool.not_false]); (try simp only [bo_ite]); (repeat' split); all_goals first | rfl | (refine bo_congr ?_; grind) | (refine bo_some_t ?_; grind) | (refine bo_some_f ?_; grind) | (exfalso; grind))
end Go.Proofs.YtmabfdnconccnaaGreatDoor
