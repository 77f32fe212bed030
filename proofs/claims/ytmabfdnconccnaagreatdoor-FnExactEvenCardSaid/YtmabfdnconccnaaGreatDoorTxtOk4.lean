/- What is right: commands, machines, logs, messages. -/
import Derived.Test.YtmabfdnconccnaaGreatDoorTxtOk3
namespace Go.Proofs.YtmabfdnconccnaaGreatDoor
open Go Go.Ev
theorem eq_ContainsNl (n : Nat) (s : Bytes) : F_strings_Contains (n + 1) s [10] = some (decide (0 ≤ Lib.indexByte s 10)) := by kernel_rfl
theorem indexByte_mem : ∀ (s : Bytes) (c : UInt8), -1 ≤ Lib.indexByte s c ∧ (0 ≤ Lib.indexByte s c ↔ c ∈ s)
  | [], c => by simp [Lib.indexByte]
  | b :: s, c => by
    have h := indexByte_mem s c
    rw [Lib.indexByte]
    by_cases e : b = c
    · subst e; simp
    · rw [if_neg (by simpa using e)]
      have e' : ¬ c = b := fun k => e k.symm
      by_cases k : Lib.indexByte s c = -1
      · rw [if_pos (by simp [k])]
        have : ¬ c ∈ s := by rw [← h.2]; omega
        simp [this, e']
      · rw [if_neg (by simp [k])]
        have : c ∈ s := by rw [← h.2]; omega
        simp [this]
        omega
theorem sp_sl9Line (s : Bytes) (hs : s.length ≤ 1048576) : Evt fun n => F_sl9Line n s = some (bo (∀ b ∈ s, b.toNat ≠ 10)) := by
  have h := all_loop hs (p := fun b => b.toNat ≠ 10) (r := false) (b := ()) (L := fun n m i => L_sl9Line_0 n m i s) (Evt.of fun n m i hi => by
    rw [eqL_sl9Line_0, lt_dec hi, nthZ_at hi]
    simp only [cond_true, Option.bind_some, bo_beq]
    exact bo_sw (by omega)) (fun n m => by rw [eqL_sl9Line_0, lt_nd]; rfl)
  refine h.nm fun n h => ?_
  rw [eq_sl9Line, show L_sl9Line_0 n n 0 s = _ from h]
  simp only [Option.bind_some, bo_sum, bo_tf]
theorem sp_ilineOk (s : Bytes) : Evt fun n => F_ilineOk n s = some (bo (s.length ≤ 60 ∧ ∀ b ∈ s, b.toNat ≠ 10)) := by
  refine Evt.succ (Evt.succ (Evt.of fun n => ?_))
  rw [eq_ilineOk, eq_ContainsNl]
  have h := (indexByte_mem s 10).2
  have k : (10 : UInt8) ∈ s ↔ ¬ ∀ b ∈ s, b.toNat ≠ 10 := by
    constructor
    · exact fun h k => k 10 h rfl
    · intro h
      simp only [ne_eq, Classical.not_forall, Classical.not_not] at h
      obtain ⟨b, hb, e⟩ := h
      have : b = 10 := UInt8.toNat_inj.1 e
      rwa [← this]
  have hk : (0 ≤ Lib.indexByte s 10) = ¬ ∀ b ∈ s, b.toNat ≠ 10 := propext (h.trans k)
  simp only [bo_dec, hk, Option.bind_some]
  ((try simp only [bo_dec, bo_beq, bo_bne, bo_not, Option.bind_some, Option.bind_none, bo_bind, bo_sum, cond_true, cond_false, bo_tf, bo_ft, Bool.not_true, Bool.not_false]); (try simp only [bo_ite]); (repeat' split); all_goals first | rfl | (refine bo_congr ?_; grind) | (refine bo_some_t ?_; grind) | (refine bo_some_f ?_; grind) | (exfalso; grind))
theorem sp_sCmdOk (w q : Int) (s : Bytes) (hs : s.length ≤ 1048576) : Evt fun n => F_sCmdOk n w q s = some (bo (CmdOk w q s)) := by
  refine (((sp_sl1In w 0 2).and (sp_sl1In q 1 100000)).and (sp_sl9Line s hs)).nm fun n ⟨⟨e1, e2⟩, e3⟩ => ?_
  rw [eq_sCmdOk]
  simp only [e1, e2, e3, Option.bind_some]
  unfold CmdOk In
  ((try simp only [bo_dec, bo_beq, bo_bne, bo_not, Option.bind_some, Option.bind_none, bo_bind, bo_sum, cond_true, cond_false, bo_tf, bo_ft, Bool.not_true, Bool.not_false]); (try simp only [bo_ite]); (repeat' split); all_goals first | rfl | (refine bo_congr ?_; grind) | (refine bo_some_t ?_; grind) | (refine bo_some_f ?_; grind) | (exfalso; grind))
theorem sp_iCmdOk (w q : Int) (s : Bytes) : Evt fun n => F_iCmdOk n w q s = some (bo (CmdOk w q s)) := by
  refine (((sp_iin w 0 2).and (sp_iin q 1 100000)).and (sp_ilineOk s)).nm fun n ⟨⟨e1, e2⟩, e3⟩ => ?_
  rw [eq_iCmdOk]
  simp only [e1, e2, e3, Option.bind_some]
  unfold CmdOk In
  ((try simp only [bo_dec, bo_beq, bo_bne, bo_not, Option.bind_some, Option.bind_none, bo_bind, bo_sum, cond_true, cond_false, bo_tf, bo_ft, Bool.not_true, Bool.not_false]); (try simp only [bo_ite]); (repeat' split); all_goals first | rfl | (refine bo_congr ?_; grind) | (refine bo_some_t ?_; grind) | (refine bo_some_f ?_; grind) | (exfalso; grind))
theorem lastF_pos {a b : Int} {l : t_iiis} (h : 0 < l.length) : lastF a b l = (IntKind.wrap .i64 (a + l.length), (l[l.length - 1]'(by omega)).1) := by
  unfold lastF
  rw [List.getLast?_eq_getElem?, List.getElem?_eq_getElem (by omega)]
theorem sp_sLastOf (a b : Int) (l : t_iiis) (hl : l.length ≤ 1048576) : Evt fun n => F_sLastOf n a b l = some (lastF a b l) := by
  refine Evt.succ (Evt.of fun n => ?_)
  rw [eq_sLastOf]
  rcases Nat.eq_zero_or_pos l.length with h | h
  · obtain rfl := List.eq_nil_of_length_eq_zero h
    rfl
  · rw [lastF_pos h, atZ_last h hl, bo_beq, bo_f (by omega)]
    rfl
theorem sp_iLastOf (a b : Int) (l : t_iiis) (hl : l.length ≤ 1048576) : Evt fun n => F_iLastOf n a b l = some (lastF a b l) := by
  refine Evt.succ (Evt.of fun n => ?_)
  rw [eq_iLastOf]
  rcases Nat.eq_zero_or_pos l.length with h | h
  · obtain rfl := List.eq_nil_of_length_eq_zero h
    rfl
  · rw [lastF_pos h, atZ_last h hl, bo_beq, bo_f (by omega)]
    rfl
def smLog (l : t_iiis) : Prop := l.length ≤ 1048576 ∧ ∀ e ∈ l, e.2.2.2.length ≤ 1048576
theorem ents_loop {l : t_iiis} (hl : l.length ≤ 1048576) (t0 : Int) {L : Nat → Nat → Int → Int → Option (Sum Unit Bool)}
    (hx : Evt fun n => ∀ m (i : Nat) (t : Int) (h : i < l.length), L n (m + 1) i t = cond (bo (In l[i].1 t 300 ∧ CmdOk l[i].2.1 l[i].2.2.1 l[i].2.2.2)) (L n m (IntKind.wrap .i64 ((i : Int) + 1)) l[i].1) (some (.inr false)))
    (he : ∀ n m t, L n (m + 1) (l.length : Int) t = some (.inl ())) : Evt fun n => L n n 0 t0 = some (cond (bo (EntsOk t0 l)) (.inl ()) (.inr false)) := by
  have := loop_up (len := l.length) (L := fun n m i t => L n m (i : Int) t) (fun i t => EntsOk t0 l ↔ EntsOk t (l.drop i)) (fun x => x = cond (bo (EntsOk t0 l)) (.inl ()) (.inr false)) ?_ ?_
  · exact this.mono fun n h => by
      obtain ⟨x, h1, h2⟩ := h t0 (by simp)
      rw [← h2]; exact h1
  · refine hx.mono fun n h m i t hi hinv => ?_
    have h := h m i t hi
    rw [List.drop_eq_getElem_cons hi, EntsOk] at hinv
    by_cases hq : In l[i].1 t 300 ∧ CmdOk l[i].2.1 l[i].2.2.1 l[i].2.2.2
    · right
      rw [bo_t hq] at h
      exact ⟨l[i].1, by rw [← wrap_next hi (by omega)]; exact h, hinv.trans ⟨fun k => k.2.2, fun k => ⟨hq.1, hq.2, k⟩⟩⟩
    · left
      rw [bo_f hq] at h
      exact ⟨_, h, by rw [bo_f (fun k => hq ⟨(hinv.1 k).1, (hinv.1 k).2.1⟩)]; rfl⟩
  · refine Evt.of fun n m t hinv => ⟨_, he n m t, ?_⟩
    rw [List.drop_eq_nil_of_le (Nat.le_refl _), EntsOk] at hinv
    rw [bo_t (hinv.2 trivial)]; rfl
theorem sp_sLogOk (a t : Int) (l : t_iiis) (hl : smLog l) : Evt fun n => F_sLogOk n a t l = some (bo (LogOk a t l)) := by
  have k := ents_loop hl.1 t (L := fun n m i t' => L_sLogOk_0 n m a t l i t') ((Evt.all l fun e h => sp_sCmdOk e.2.1 e.2.2.1 e.2.2.2 (hl.2 e h)).and (Evt.ge 1) |>.mono fun n ⟨h, hn⟩ m i t' hi => by
    obtain ⟨n, rfl⟩ : ∃ k, n = k + 1 := ⟨n - 1, by omega⟩
    have h2 : F_sl1In (n + 1) l[i].1 t' 300 = some (bo (In l[i].1 t' 300)) := by
      rw [eq_sl1In]; simp only [bo_dec, bo_and, Option.bind_some, In]
    rw [eqL_sLogOk_0, lt_dec hi, atZ_at hi]
    simp only [cond_true, Option.bind_some, h2, h _ (List.getElem_mem hi), bo_not, bo_orr]
    exact bo_sw (by grind)) (fun n m t' => by rw [eqL_sLogOk_0, lt_nd]; rfl)
  refine ((k.and (sp_sl1In a 0 300)).and (sp_sl1In t 0 300)).nm fun n ⟨⟨e1, e2⟩, e3⟩ => ?_
  by_cases h : In a 0 300
  · have hw : IntKind.wrap .i64 ((300 : Int) - a) = 300 - a := by unfold In at h; rw [IntKind.wrap_i64]; omega
    rw [eq_sLogOk, e2, hw]
    simp only [Option.bind_some, e3, show L_sLogOk_0 n n a t l 0 t = _ from e1]
    unfold LogOk
    ((try simp only [bo_dec, bo_beq, bo_bne, bo_not, Option.bind_some, Option.bind_none, bo_bind, bo_sum, cond_true, cond_false, bo_tf, bo_ft, Bool.not_true, Bool.not_false]); (try simp only [bo_ite]); (repeat' split); all_goals first | rfl | (refine bo_congr ?_; grind) | (refine bo_some_t ?_; grind) | (refine bo_some_f ?_; grind) | (exfalso; grind))
  · rw [eq_sLogOk, e2, bo_f h, bo_f (P := LogOk a t l) (fun k => h k.1)]
    rfl
theorem sp_iisIndex (x : Int) : Evt fun n => F_iisIndex n x = some (bo (In x 0 300)) := by
  refine (sp_iin x 0 300).nm fun n e => ?_
  rw [eq_iisIndex, e]; rfl
theorem sp_iisVote (x : Int) : Evt fun n => F_iisVote n x = some (bo (In x (-1) 4)) := by
  refine (sp_iin x (-1) 4).nm fun n e => ?_
  rw [eq_iisVote, e]; rfl
theorem sp_iLogOk (a t : Int) (l : t_iiis) (hl : smLog l) : Evt fun n => F_iLogOk n a t l = some (bo (LogOk a t l)) := by
  have k := ents_loop hl.1 t (L := fun n m i t' => L_iLogOk_0 n m i t' l l.length) ((Evt.all l fun e h => sp_iCmdOk e.2.1 e.2.2.1 e.2.2.2).and (Evt.ge 1) |>.mono fun n ⟨h, hn⟩ m i t' hi => by
    obtain ⟨n, rfl⟩ : ∃ k, n = k + 1 := ⟨n - 1, by omega⟩
    have h2 : F_iin (n + 1) l[i].1 t' 300 = some (bo (In l[i].1 t' 300)) := by
      rw [eq_iin]; simp only [bo_dec, bo_and, Option.bind_some, In]
    rw [eqL_iLogOk_0, lt_dec hi, atZ_at hi]
    simp only [cond_true, Option.bind_some, h2, h _ (List.getElem_mem hi), bo_not, bo_orr]
    exact bo_sw (by grind)) (fun n m t' => by rw [eqL_iLogOk_0, lt_nd]; rfl)
  refine ((k.and (sp_iisIndex a)).and (sp_iisIndex t)).nm fun n ⟨⟨e1, e2⟩, e3⟩ => ?_
  have := hl.1
  by_cases h : In a 0 300
  · have hw : IntKind.wrap .i64 (a + (l.length : Int)) = a + l.length := by unfold In at h; rw [IntKind.wrap_i64]; omega
    rw [eq_iLogOk, e2, hw]
    simp only [Option.bind_some, e3, show L_iLogOk_0 n n 0 t l l.length = _ from e1]
    unfold LogOk
    ((try simp only [bo_dec, bo_beq, bo_bne, bo_not, Option.bind_some, Option.bind_none, bo_bind, bo_sum, cond_true, cond_false, bo_tf, bo_ft, Bool.not_true, Bool.not_false]); (try simp only [bo_ite]); (repeat' split); all_goals first | rfl | (refine bo_congr ?_; grind) | (refine bo_some_t ?_; grind) | (refine bo_some_f ?_; grind) | (exfalso; grind))
  · rw [eq_iLogOk, e2, bo_f h, bo_f (P := LogOk a t l) (fun k => h k.1)]
    rfl
theorem sp_sMachOk (a b : t_s) (c d : t_iis) (vs : t_iis) (cs : t_isiis) (nr err : Int) (dn : t_i) (out : Bytes) (h : smProg a b c d) (h1 : vs.length ≤ 1048576) (h2 : cs.length ≤ 1048576) (h3 : dn.length ≤ 1048576) :
    Evt fun n => F_sMachOk n a b c d vs cs nr err dn out = some (bo (MachOk a b c d vs cs nr err dn out)) := by
  have k := all_loop h3 (p := fun x => In x 0 100000) (r := false) (b := (vs, (cs, (nr, (err, (dn, (out, (a, (b, (c, d)))))))))) (L := fun n m i => L_sMachOk_0 n m vs cs nr err dn out a b c d i) ((Evt.all dn fun x _ => sp_sl1In x 0 100000).mono fun n h m i hi => by
    rw [eqL_sMachOk_0, lt_dec hi, atZ_at hi]
    simp only [cond_true, Option.bind_some, h _ (List.getElem_mem hi), bo_not]
    exact bo_sw (by simp)) (fun n m => by rw [eqL_sMachOk_0, lt_nd]; rfl)
  refine ((k.and (sp_sProgOk a b c d h)).and (sp_sStateOk vs cs nr err a.length b.length h1 h2)).nm fun n ⟨⟨e1, e2⟩, e3⟩ => ?_
  rw [eq_sMachOk, show L_sMachOk_0 n n vs cs nr err dn out a b c d 0 = _ from e1]
  simp only [Option.bind_some, bo_sum, e2, e3]
  unfold MachOk
  ((try simp only [bo_dec, bo_beq, bo_bne, bo_not, Option.bind_some, Option.bind_none, bo_bind, bo_sum, cond_true, cond_false, bo_tf, bo_ft, Bool.not_true, Bool.not_false]); (try simp only [bo_ite]); (repeat' split); all_goals first | rfl | (refine bo_congr ?_; grind) | (refine bo_some_t ?_; grind) | (refine bo_some_f ?_; grind) | (exfalso; grind))
theorem sp_iMachOk (a b : t_s) (c d : t_iis) (vs : t_iis) (cs : t_isiis) (nr err : Int) (dn : t_i) (out : Bytes) (h : smProg a b c d) (h1 : vs.length ≤ 1048576) (h2 : cs.length ≤ 1048576) (h3 : dn.length ≤ 1048576) :
    Evt fun n => F_iMachOk n a b c d vs cs nr err dn out = some (bo (MachOk a b c d vs cs nr err dn out)) := by
  have k0 : Evt fun n => ∀ v ∈ dn, F_iMachOk_1 n v = some (bo (¬ In v 0 100000)) := Evt.all dn fun v _ => (sp_iin v 0 100000).nm fun n e => by
    rw [eq_iMachOk_1, e]
    simp only [Option.bind_some, bo_not]
  have h' := any_loop h3 (p := fun v => ¬ In v 0 100000) (r := fun i => i) (b := ()) (L := fun n m i => L_slices_IndexFunc_int_int_0 n m i dn (dn.length : Int)) (k0.mono fun n h m i hi => by
      rw [eqL_slices_IndexFunc_int_int_0, lt_dec hi, atZ_at hi]
      simp only [cond_true, Option.bind_some, h _ (List.getElem_mem hi)]) (fun n m => by rw [eqL_slices_IndexFunc_int_int_0, lt_nd]; rfl)
  have k1 : Evt fun n => F_slices_ContainsFunc_int_int n dn = some (bo (∃ v ∈ dn, ¬ In v 0 100000)) := Evt.succ (h'.nm fun n h => by
      rw [eq_slices_ContainsFunc_int_int, eq_slices_IndexFunc_int_int]
      refine any_res1 (l := dn) (p := fun v => ¬ In v 0 100000) ?_
      rcases h with ⟨h, i, e⟩ | ⟨h, e⟩
      · exact .inl ⟨h, i, by rw [e]; rfl⟩
      · exact .inr ⟨h, by rw [e]; rfl⟩)
  refine ((k1.and (sp_iProgOk a b c d h)).and (sp_iStateOk vs cs nr err a.length b.length h1 h2)).nm fun n ⟨⟨e1, e2⟩, e3⟩ => ?_
  rw [eq_iMachOk, e2]
  simp only [Option.bind_some, e1, e3]
  unfold MachOk
  ((try simp only [bo_dec, bo_beq, bo_bne, bo_not, Option.bind_some, Option.bind_none, bo_bind, bo_sum, cond_true, cond_false, bo_tf, bo_ft, Bool.not_true, Bool.not_false]); (try simp only [bo_ite]); (repeat' split); all_goals first | rfl | (refine bo_congr ?_; grind) | (refine bo_some_t ?_; grind) | (refine bo_some_f ?_; grind) | (exfalso; grind))
theorem sp_sHardOk (a b : t_s) (c d : t_iis) (tm vt ba bt : Int) (l : t_iiis) (vs : t_iis) (cs : t_isiis) (nr err : Int) (dn : t_i) (out : Bytes) (h : smProg a b c d) (hl : smLog l) (h1 : vs.length ≤ 1048576) (h2 : cs.length ≤ 1048576) (h3 : dn.length ≤ 1048576) :
    Evt fun n => F_sHardOk n a b c d tm vt ba bt l vs cs nr err dn out = some (bo (HardOk a b c d tm vt ba bt l vs cs nr err dn out)) := by
  refine (((sp_sMachOk a b c d vs cs nr err dn out h h1 h2 h3).and (sp_sLogOk ba bt l hl)).and ((sp_sLastOf ba bt l hl.1).and ((sp_sl1In tm 0 300).and (sp_sl1In vt (-1) 4)))).nm fun n ⟨⟨e1, e2⟩, e3, e4, e5⟩ => ?_
  rw [eq_sHardOk, e3]
  simp only [Option.bind_some, e1, e2, e4, e5]
  unfold HardOk
  ((try simp only [bo_dec, bo_beq, bo_bne, bo_not, Option.bind_some, Option.bind_none, bo_bind, bo_sum, cond_true, cond_false, bo_tf, bo_ft, Bool.not_true, Bool.not_false]); (try simp only [bo_ite]); (repeat' split); all_goals first | rfl | (refine bo_congr ?_; grind) | (refine bo_some_t ?_; grind) | (refine bo_some_f ?_; grind) | (exfalso; grind))
theorem sp_iHardOk (a b : t_s) (c d : t_iis) (tm vt ba bt : Int) (l : t_iiis) (vs : t_iis) (cs : t_isiis) (nr err : Int) (dn : t_i) (out : Bytes) (h : smProg a b c d) (hl : smLog l) (h1 : vs.length ≤ 1048576) (h2 : cs.length ≤ 1048576) (h3 : dn.length ≤ 1048576) :
    Evt fun n => F_iHardOk n a b c d tm vt ba bt l vs cs nr err dn out = some (bo (HardOk a b c d tm vt ba bt l vs cs nr err dn out)) := by
  refine (((sp_iMachOk a b c d vs cs nr err dn out h h1 h2 h3).and (sp_iLogOk ba bt l hl)).and ((sp_iLastOf ba bt l hl.1).and ((sp_iisIndex tm).and (sp_iisVote vt)))).nm fun n ⟨⟨e1, e2⟩, e3, e4, e5⟩ => ?_
  rw [eq_iHardOk, e3]
  simp only [Option.bind_some, e1, e2, e4, e5]
  unfold HardOk
  ((try simp only [bo_dec, bo_beq, bo_bne, bo_not, Option.bind_some, Option.bind_none, bo_bind, bo_sum, cond_true, cond_false, bo_tf, bo_ft, Bool.not_true, Bool.not_false]); (try simp only [bo_ite]); (repeat' split); all_goals first | rfl | (refine bo_congr ?_; grind) | (refine bo_some_t ?_; grind) | (refine bo_some_f ?_; grind) | (exfalso; grind))
end Go.Proofs.YtmabfdnconccnaaGreatDoor
