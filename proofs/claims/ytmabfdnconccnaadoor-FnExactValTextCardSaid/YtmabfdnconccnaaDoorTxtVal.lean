/- What the texts of values come to. -/
import Derived.Test.YtmabfdnconccnaaDoorLaw
import Derived.Test.YtmabfdnconccnaaDoorEv3
namespace Go.Proofs.YtmabfdnconccnaaDoor
open Go Go.Ev

theorem sp_sl2Digits {k : Nat} (hk : k ≤ 9223372036854775807) : Evt fun n => F_sl2Digits n (k : Int) = some (Lib.decDigits k) := by
  refine Evt.succ ((Evt.ge (k + 1)).mono fun n hn => ?_)
  rw [eq_sl2Digits]
  by_cases h0 : k = 0
  · subst h0
    rw [decide_eq_true (by omega), Lib.decDigits_one (by omega)]
    rfl
  · have h := digits_loop (L := fun m x acc => L_sl2Digits_0 n m x acc) (fun m k acc h1 h2 => by
      rw [eqL_sl2Digits_0, decide_eq_true (by omega), Nat.ble_eq_true_of_le h2]; rfl) (fun m acc => by rw [eqL_sl2Digits_0]; rfl) k n [] (by omega) (by simp [mx]; omega)
    rw [decide_eq_false (by omega)]
    simp only [cond_false, h, Option.bind_some, sumE, List.append_nil, dd, if_neg h0]

theorem eq_Itoa (n : Nat) (x : Int) : F_strconv_Itoa (n + 1) x = some (Lib.itoa x) := by kernel_rfl

/-- Blanks of naught behind are cut. -/
def trimZ : Bytes → Bytes := fun l => (l.reverse.dropWhile (· == 48)).reverse

theorem trimZ_snoc (l : Bytes) (b : UInt8) : trimZ (l ++ [b]) = if b = 48 then trimZ l else l ++ [b] := by
  unfold trimZ
  simp only [List.reverse_append, List.reverse_cons, List.reverse_nil, List.nil_append, List.singleton_append, List.dropWhile_cons]
  by_cases h : b = 48
  · simp [h]
  · simp [h]

theorem trimZ_len (l : Bytes) : (trimZ l).length ≤ l.length := by
  unfold trimZ
  simp only [List.length_reverse]
  have := (List.dropWhile_sublist (l := l.reverse) (p := (· == 48))).length_le
  simpa using this

theorem nthZ_last (l : Bytes) (b : UInt8) (h : l.length + 1 ≤ 1000000) : nthZ (l ++ [b]) (IntKind.wrap .i64 (((l ++ [b]).length : Int) - (1 : Int))) = some b := by
  have e : IntKind.wrap .i64 (((l ++ [b]).length : Int) - (1 : Int)) = (l.length : Int) := by
    simp only [List.length_append, List.length_cons, List.length_nil]
    rw [IntKind.wrap_i64]; omega
  rw [e]
  unfold nthZ nth
  rw [decide_eq_true (by omega)]
  simp

theorem last_wrap (l : Bytes) (b : UInt8) (h : l.length + 1 ≤ 1000000) : IntKind.wrap .i64 (((l ++ [b]).length : Int) - (1 : Int)) = (l.length : Int) := by
  simp only [List.length_append, List.length_cons, List.length_nil]
  rw [IntKind.wrap_i64]; omega

theorem snoc_of {l : Bytes} (h : l ≠ []) : ∃ l' b, l = l' ++ [b] := ⟨l.dropLast, l.getLast h, (List.dropLast_concat_getLast h).symm⟩

theorem trim_impl (n : Nat) : ∀ (k : Nat) (l : Bytes) (m : Nat), l.length = k → k < m → k ≤ 1000000 → L_strings_trimRightByte_0 n m l 48 = some (.inl (trimZ l))
  | 0, l, m, hl, hm, _ => by
    obtain ⟨m, rfl⟩ : ∃ m', m = m' + 1 := ⟨m - 1, by omega⟩
    obtain rfl := List.length_eq_zero_iff.1 hl
    rw [eqL_strings_trimRightByte_0]
    rfl
  | k + 1, l, m, hl, hm, hk => by
    obtain ⟨m, rfl⟩ : ∃ m', m = m' + 1 := ⟨m - 1, by omega⟩
    obtain ⟨l', b, rfl⟩ := snoc_of (l := l) (by intro e; rw [e] at hl; cases hl)
    simp only [List.length_append, List.length_cons, List.length_nil] at hl
    rw [eqL_strings_trimRightByte_0, decide_eq_true (by simp only [List.length_append, List.length_cons, List.length_nil]; omega), nthZ_last l' b (by omega), last_wrap l' b (by omega), trimZ_snoc]
    simp only [cond_true, Option.bind_some]
    by_cases hb : b = 48
    · subst hb
      rw [show ((((48 : UInt8)).toNat : Int) == (((48 : UInt8)).toNat : Int)) = true from rfl, decide_eq_true (by simp only [List.length_append, List.length_cons, List.length_nil]; omega)]
      simp only [cond_true, if_true]
      have e : (l' ++ [(48 : UInt8)]).take ((Int.toNat (l'.length : Int)) - 0) = l' := by simp
      rw [e]
      exact trim_impl n k l' m (by omega) (by omega) (by omega)
    · have e : (((b).toNat : Int) == (((48 : UInt8)).toNat : Int)) = false := by
        rw [beq_eq_false_iff_ne]
        intro h
        exact hb (UInt8.toNat_inj.1 (by omega))
      rw [e, if_neg hb]
      rfl

theorem trim_spec (n : Nat) (a : Int) (q : Bytes) : ∀ (k : Nat) (l : Bytes) (m : Nat), l.length = k → k < m → k ≤ 1000000 → (∃ b ∈ l, b ≠ 48) → L_sDecText_0 n m l a q = some (.inl (a, (trimZ l, q)))
  | 0, l, m, hl, hm, _, hz => by
    obtain rfl := List.length_eq_zero_iff.1 hl
    obtain ⟨b, hb, -⟩ := hz
    cases hb
  | k + 1, l, m, hl, hm, hk, hz => by
    obtain ⟨m, rfl⟩ : ∃ m', m = m' + 1 := ⟨m - 1, by omega⟩
    obtain ⟨l', b, rfl⟩ := snoc_of (l := l) (by intro e; rw [e] at hl; cases hl)
    simp only [List.length_append, List.length_cons, List.length_nil] at hl
    rw [eqL_sDecText_0, nthZ_last l' b (by omega), last_wrap l' b (by omega), trimZ_snoc]
    simp only [Option.bind_some]
    by_cases hb : b = 48
    · subst hb
      rw [show ((((48 : UInt8)).toNat : Int) == (48 : Int)) = true from rfl, decide_eq_true (by simp only [List.length_append, List.length_cons, List.length_nil]; omega)]
      simp only [cond_true, if_true]
      have e : (l' ++ [(48 : UInt8)]).take ((Int.toNat (l'.length : Int)) - 0) = l' := by simp
      rw [e]
      refine trim_spec n a q k l' m (by omega) (by omega) (by omega) ?_
      obtain ⟨c, hc, hne⟩ := hz
      rcases List.mem_append.1 hc with hc | hc
      · exact ⟨c, hc, hne⟩
      · exact absurd (by simpa using hc) hne
    · have e : (((b).toNat : Int) == (48 : Int)) = false := by
        rw [beq_eq_false_iff_ne]
        intro h
        exact hb (UInt8.toNat_inj.1 (show b.toNat = 48 by omega))
      rw [e, if_neg hb]
      rfl

theorem dec_step {k : Nat} (h : ¬ k < 10) : Lib.decDigits k = Lib.decDigits (k / 10) ++ [UInt8.ofNat (48 + k % 10)] := by
  rw [Lib.decDigits, dif_neg h]

theorem seven {k : Nat} (h : 1000000 ≤ k) (h2 : k < 2000000) : ∃ l, Lib.decDigits k = 49 :: l ∧ l.length = 6 ∧ (k ≠ 1000000 → ∃ b ∈ l, b ≠ 48) := by
  refine ⟨[UInt8.ofNat (48 + k / 10 / 10 / 10 / 10 / 10 % 10), UInt8.ofNat (48 + k / 10 / 10 / 10 / 10 % 10), UInt8.ofNat (48 + k / 10 / 10 / 10 % 10), UInt8.ofNat (48 + k / 10 / 10 % 10), UInt8.ofNat (48 + k / 10 % 10), UInt8.ofNat (48 + k % 10)], ?_, rfl, fun hne => ?_⟩
  · rw [dec_step (k := k) (by omega), dec_step (k := k / 10) (by omega), dec_step (k := k / 10 / 10) (by omega), dec_step (k := k / 10 / 10 / 10) (by omega), dec_step (k := k / 10 / 10 / 10 / 10) (by omega), dec_step (k := k / 10 / 10 / 10 / 10 / 10) (by omega)]
    have e : k / 10 / 10 / 10 / 10 / 10 / 10 = 1 := by omega
    rw [e, Lib.decDigits_one (by omega)]
    rfl
  · apply Classical.byContradiction
    intro hn
    have hall : ∀ x, x < 10 → UInt8.ofNat (48 + x) = 48 → x = 0 := fun x hx he => by
      have := congrArg UInt8.toNat he
      simp only [UInt8.toNat_ofNat', UInt8.reduceToNat] at this
      omega
    have hz : ∀ b ∈ [UInt8.ofNat (48 + k / 10 / 10 / 10 / 10 / 10 % 10), UInt8.ofNat (48 + k / 10 / 10 / 10 / 10 % 10), UInt8.ofNat (48 + k / 10 / 10 / 10 % 10), UInt8.ofNat (48 + k / 10 / 10 % 10), UInt8.ofNat (48 + k / 10 % 10), UInt8.ofNat (48 + k % 10)], b = 48 := fun b hb => Classical.byContradiction fun h => hn ⟨b, hb, h⟩
    simp only [List.mem_cons, List.mem_nil_iff, or_false, forall_eq_or_imp, forall_eq] at hz
    obtain ⟨z5, z4, z3, z2, z1, z0⟩ := hz
    have y5 := hall _ (by omega) z5
    have y4 := hall _ (by omega) z4
    have y3 := hall _ (by omega) z3
    have y2 := hall _ (by omega) z2
    have y1 := hall _ (by omega) z1
    have y0 := hall _ (by omega) z0
    omega

/-- A number in millionths, in digits. -/
def decB (k : Nat) : Bytes := if k % 1000000 = 0 then Lib.decDigits (k / 1000000) else (Lib.decDigits (k / 1000000) ++ [46]) ++ trimZ ((Lib.decDigits (1000000 + k % 1000000)).drop 1)
def decT (a : Int) : Bytes := if a < -9000000000000 ∨ 9000000000000 < a then [] else if a < 0 then 45 :: decB a.natAbs else decB a.natAbs

theorem sp_sl1In (x lo hi : Int) : Evt fun n => F_sl1In n x lo hi = some (decide (lo ≤ x) && decide (x ≤ hi)) := by
  refine Evt.succ (Evt.of fun n => ?_)
  rw [eq_sl1In]
  cases decide (lo ≤ x) <;> rfl
theorem sp_iin (x lo hi : Int) : Evt fun n => F_iin n x lo hi = some (decide (lo ≤ x) && decide (x ≤ hi)) := by
  refine Evt.succ (Evt.of fun n => ?_)
  rw [eq_iin]
  cases decide (lo ≤ x) <;> rfl
theorem sp_sDecOk (x : Int) : Evt fun n => F_sDecOk n x = some (decide (-9000000000000 ≤ x) && decide (x ≤ 9000000000000)) :=
  Evt.succ ((sp_sl1In x _ _).mono fun n h => by rw [eq_sDecOk, h]; rfl)
theorem sp_iDecOk (x : Int) : Evt fun n => F_iDecOk n x = some (decide (-9000000000000 ≤ x) && decide (x ≤ 9000000000000)) :=
  Evt.succ ((sp_iin x _ _).mono fun n h => by rw [eq_iDecOk, h]; rfl)
theorem sp_sl1Abs {x : Int} (h0 : -9000000000000 ≤ x) : Evt fun n => F_sl1Abs n x = some (x.natAbs : Int) := by
  refine Evt.succ (Evt.of fun n => ?_)
  rw [eq_sl1Abs]
  by_cases h : x < 0
  · rw [decide_eq_true h]
    have hw : IntKind.wrap .i64 ((0 : Int) - x) = (x.natAbs : Int) := by rw [IntKind.wrap_i64]; omega
    rw [hw]; rfl
  · rw [decide_eq_false h]
    have hw : x = (x.natAbs : Int) := by omega
    simp only [cond_false]
    rw [← hw]

theorem decDigits_len {k : Nat} (h : k ≤ 9223372036854775807) : (Lib.decDigits k).length ≤ 21 := by
  have := Lib.itoa_length_le (k : Int) (by omega) (by omega)
  rwa [itoa_pos] at this

theorem w64 {k : Nat} (h : k ≤ 9223372036854775807) : IntKind.wrap .i64 ((k : Nat) : Int) = (k : Int) := by rw [IntKind.wrap_i64]; omega

theorem sp_TrimRight {l : Bytes} (hl : l.length = 6) : Evt fun n => F_strings_TrimRight n l ([48] : Bytes) = some (trimZ l) := by
  have h1 : Evt fun n => F_strings_trimRightByte n l 48 = some (trimZ l) := by
    refine Evt.succ ((Evt.ge 8).mono fun n hn => ?_)
    rw [eq_strings_trimRightByte]
    have := trim_impl n 6 l n hl (by omega) (by omega)
    have e : UInt8.ofNat (Int.toNat (((48 : UInt8)).toNat : Int)) = 48 := rfl
    rw [e, this]
    rfl
  refine Evt.succ (h1.mono fun n h => ?_)
  rw [eq_strings_TrimRight]
  have e : (l == ([] : Bytes)) = false := by
    cases l with
    | nil => cases hl
    | cons _ _ => rfl
  have g1 : (([48] : Bytes) == ([] : Bytes)) = false := rfl
  have g2 : ((([48] : Bytes).length : Int) == (1 : Int)) = true := rfl
  have g3 : nthZ ([48] : Bytes) (0 : Int) = some 48 := rfl
  have g4 : (decide (((48 : UInt8).toNat : Int) < (128 : Int))) = true := by decide
  have g5 : UInt8.ofNat (Int.toNat (((48 : UInt8)).toNat : Int)) = 48 := rfl
  rw [e, g1]
  simp only [cond_false, Option.bind_some]
  rw [g2]
  simp only [cond_true]
  rw [g3]
  simp only [Option.bind_some]
  rw [g4]
  simp only [cond_true]
  rw [g5, h]
  rfl

theorem b_ok {n : Nat} (h : n ≤ 1000) : Nat.ble n mx = true := Nat.ble_eq_true_of_le (by unfold mx; omega)

theorem tail_cut {l : Bytes} : ((49 :: l : Bytes).drop 1).take ((49 :: l : Bytes).length - 1) = l := by simp

theorem sp_sDecText (a : Int) : Evt fun n => F_sDecText n a = some (decT a) := by
  by_cases hok : -9000000000000 ≤ a ∧ a ≤ 9000000000000
  · have hk : a.natAbs ≤ 9000000000000 := by omega
    refine Evt.succ (((((sp_sDecOk a).and (sp_sl1Abs hok.1)).and ((sp_sl2Digits (k := a.natAbs / 1000000) (by omega)).and (sp_sl2Digits (k := 1000000 + a.natAbs % 1000000) (by omega)))).and (Evt.ge 8)).mono fun n ⟨⟨⟨e1, e2⟩, e3, e4⟩, hn⟩ => ?_)
    rw [eq_sDecText, e1, decide_eq_true hok.1, decide_eq_true hok.2]
    simp only [Option.bind_some, Bool.and_self, Bool.not_true, cond_false, e2]
    have d1 : Int.tdiv (a.natAbs : Int) (1000000 : Int) = ((a.natAbs / 1000000 : Nat) : Int) := rfl
    have d2 : Int.tmod (a.natAbs : Int) (1000000 : Int) = ((a.natAbs % 1000000 : Nat) : Int) := rfl
    have d3 : ((1000000 : Int) + ((a.natAbs % 1000000 : Nat) : Int)) = ((1000000 + a.natAbs % 1000000 : Nat) : Int) := by omega
    rw [d1, d2, w64 (by omega), d3, w64 (by omega), e3]
    simp only [Option.bind_some, e4]
    have b1 := decDigits_len (k := a.natAbs / 1000000) (by omega)
    have hT : decT a = if a < 0 then 45 :: decB a.natAbs else decB a.natAbs := by unfold decT; rw [if_neg (by omega)]
    rw [hT]
    unfold decB
    by_cases hr : a.natAbs % 1000000 = 0
    · rw [decide_eq_false (by omega), if_pos hr]
      simp only [cond_false]
      by_cases hs : a < 0
      · rw [decide_eq_true hs, if_pos hs, b_ok (by omega)]; rfl
      · rw [decide_eq_false hs, if_neg hs]; rfl
    · rw [decide_eq_true (by omega), if_neg hr]
      obtain ⟨l, s1, s2, s3⟩ := seven (k := 1000000 + a.natAbs % 1000000) (by omega) (by omega)
      rw [s1]
      simp only [cond_true]
      rw [decide_eq_true (by simp only [List.length_cons]; omega), tail_cut, trim_spec n a _ 6 l n s2 (by omega) (by omega) (s3 (by omega))]
      simp only [cond_true, Option.bind_some, sumE]
      have b2 := trimZ_len l
      rw [b_ok (by omega), b_ok (by simp only [List.length_append, List.length_cons, List.length_nil]; omega)]
      simp only [cond_true, List.drop_succ_cons, List.drop_zero]
      by_cases hs : a < 0
      · rw [decide_eq_true hs, if_pos hs, b_ok (by simp only [List.length_append, List.length_cons, List.length_nil]; omega)]; rfl
      · rw [decide_eq_false hs, if_neg hs]; rfl
  · refine Evt.succ ((sp_sDecOk a).mono fun n e1 => ?_)
    rw [eq_sDecText, e1]
    have e : (decide (-9000000000000 ≤ a) && decide (a ≤ 9000000000000)) = false := by
      simp only [Bool.and_eq_false_iff, decide_eq_false_iff_not]; omega
    rw [e, decT, if_pos (by omega)]
    rfl

/-- The digits and what stands behind the point: the program's own way. -/
theorem dec_body (n : Nat) (k : Nat) (hk : k ≤ 9000000000000) (pre : Bytes) (hp : pre.length ≤ 1)
    (e3 : F_strconv_Itoa n ((k / 1000000 : Nat) : Int) = some (Lib.decDigits (k / 1000000))) (e4 : F_strconv_Itoa n ((1000000 + k % 1000000 : Nat) : Int) = some (Lib.decDigits (1000000 + k % 1000000)))
    (e5 : F_strings_TrimRight n ((Lib.decDigits (1000000 + k % 1000000)).drop 1) [48] = some (trimZ ((Lib.decDigits (1000000 + k % 1000000)).drop 1))) :
    ((F_strconv_Itoa n ((IntKind.wrap .i64 (Int.tdiv (k : Int) (1000000 : Int))) : Int)).bind fun (y1 : Bytes) => cond (Nat.ble (pre.length + y1.length) mx) (cond (decide ((0 : Int) < (Int.tmod (k : Int) (1000000 : Int)))) ((F_strconv_Itoa n ((IntKind.wrap .i64 ((1000000 : Int) + (Int.tmod (k : Int) (1000000 : Int)))) : Int)).bind fun (y2 : Bytes) => cond (decide ((0 : Int) ≤ (1 : Int) ∧ (1 : Int) ≤ (y2.length : Int))) ((F_strings_TrimRight n (((y2.drop 1).take (y2.length - 1)) : Bytes) ([48] : Bytes)).bind fun (y3 : Bytes) => cond (Nat.ble (1 + y3.length) mx) (cond (Nat.ble ((pre ++ y1).length + (([46] : Bytes) ++ y3).length) mx) (some (((pre ++ y1) ++ (([46] : Bytes) ++ y3)) : Bytes)) (none)) (none)) (none)) (some ((pre ++ y1) : Bytes))) (none)) = some (pre ++ decB k) := by
  have d1 : Int.tdiv (k : Int) (1000000 : Int) = ((k / 1000000 : Nat) : Int) := rfl
  have d2 : Int.tmod (k : Int) (1000000 : Int) = ((k % 1000000 : Nat) : Int) := rfl
  have d3 : ((1000000 : Int) + ((k % 1000000 : Nat) : Int)) = ((1000000 + k % 1000000 : Nat) : Int) := by omega
  have b1 := decDigits_len (k := k / 1000000) (by omega)
  rw [d1, d2, w64 (by omega), d3, w64 (by omega), e3]
  simp only [Option.bind_some, e4]
  rw [b_ok (by omega)]
  unfold decB
  by_cases hr : k % 1000000 = 0
  · rw [decide_eq_false (by omega), if_pos hr]; rfl
  · rw [decide_eq_true (by omega), if_neg hr]
    obtain ⟨l, s1, s2, s3⟩ := seven (k := 1000000 + k % 1000000) (by omega) (by omega)
    rw [s1] at e5 ⊢
    simp only [List.drop_succ_cons, List.drop_zero] at e5 ⊢
    simp only [cond_true]
    have e6 : l.take ((49 :: l : Bytes).length - 1) = l := by simp
    rw [decide_eq_true (by simp only [List.length_cons]; omega), e6, e5]
    simp only [cond_true, Option.bind_some]
    have b2 := trimZ_len l
    rw [b_ok (by omega), b_ok (by simp only [List.length_append, List.length_cons, List.length_nil]; omega)]
    simp only [cond_true, List.append_assoc]

theorem sp_iDecText (a : Int) : Evt fun n => F_iDecText n a = some (decT a) := by
  by_cases hok : -9000000000000 ≤ a ∧ a ≤ 9000000000000
  · have hk : a.natAbs ≤ 9000000000000 := by omega
    obtain ⟨l, s1, s2, s3⟩ := seven (k := 1000000 + a.natAbs % 1000000) (by omega) (by omega)
    have ht := sp_TrimRight (l := (Lib.decDigits (1000000 + a.natAbs % 1000000)).drop 1) (by rw [s1]; exact s2)
    refine Evt.succ ((((sp_iDecOk a).and ht).and (Evt.ge 8)).mono fun n ⟨⟨e1, e5⟩, hn⟩ => ?_)
    obtain ⟨n, rfl⟩ : ∃ n', n = n' + 1 := ⟨n - 1, by omega⟩
    have e3 : F_strconv_Itoa (n + 1) ((a.natAbs / 1000000 : Nat) : Int) = some (Lib.decDigits (a.natAbs / 1000000)) := by rw [eq_Itoa, itoa_pos]
    have e4 : F_strconv_Itoa (n + 1) ((1000000 + a.natAbs % 1000000 : Nat) : Int) = some (Lib.decDigits (1000000 + a.natAbs % 1000000)) := by rw [eq_Itoa, itoa_pos]
    rw [eq_iDecText, e1, decide_eq_true hok.1, decide_eq_true hok.2]
    simp only [Option.bind_some, Bool.and_self, Bool.not_true, cond_false]
    have hT : decT a = if a < 0 then 45 :: decB a.natAbs else decB a.natAbs := by unfold decT; rw [if_neg (by omega)]
    rw [hT]
    by_cases hs : a < 0
    · rw [decide_eq_true hs, if_pos hs]
      have hw : IntKind.wrap .i64 (0 - a) = (a.natAbs : Int) := by rw [IntKind.wrap_i64]; omega
      rw [hw]
      exact dec_body (n + 1) a.natAbs hk [45] (by simp) e3 e4 e5
    · rw [decide_eq_false hs, if_neg hs]
      obtain ⟨k, rfl⟩ : ∃ k : Nat, a = k := ⟨a.natAbs, by omega⟩
      simp only [Int.natAbs_natCast] at e3 e4 e5 hk ⊢
      exact dec_body (n + 1) k hk [] (by simp) e3 e4 e5
  · refine Evt.succ ((sp_iDecOk a).mono fun n e1 => ?_)
    rw [eq_iDecText, e1]
    have e : (decide (-9000000000000 ≤ a) && decide (a ≤ 9000000000000)) = false := by
      simp only [Bool.and_eq_false_iff, decide_eq_false_iff_not]; omega
    rw [e, decT, if_pos (by omega)]
    rfl

def toTextF (x0 x1 : Int) (x2 : Bytes) : Bytes := if x0 = 1 then decT x1 else x2
theorem sp_sToText (x0 x1 : Int) (x2 : Bytes) : Evt fun n => F_sToText n x0 x1 x2 = some (toTextF x0 x1 x2) := by
  refine Evt.succ ((sp_sDecText x1).mono fun n h => ?_)
  rw [eq_sToText, h, toTextF]
  by_cases h1 : x0 = 1
  · subst h1; rfl
  · have e : (x0 == (1 : Int)) = false := by simpa using h1
    rw [e, if_neg h1]; rfl
theorem sp_iToText (x0 x1 : Int) (x2 : Bytes) : Evt fun n => F_iToText n x0 x1 x2 = some (toTextF x0 x1 x2) := by
  refine Evt.succ ((sp_iDecText x1).mono fun n h => ?_)
  rw [eq_iToText, h, toTextF]
  by_cases h1 : x0 = 1
  · subst h1; rfl
  · have e : (x0 == (1 : Int)) = false := by simpa using h1
    rw [e, if_neg h1]; rfl

def valTextF (x0 x1 : Int) (x2 : Bytes) : Bytes := if x0 = 1 then toTextF x0 x1 x2 else if x0 = 3 then toTextF x0 x1 x2 else if x0 = 2 then ([60] ++ x2) ++ [62] else [110, 111, 110, 101]
theorem val_fin (x0 x1 : Int) (x2 : Bytes) (hl : x2.length ≤ 1048576) {X : Option Bytes} (hX : X = some (toTextF x0 x1 x2)) :
    (cond (x0 == (1 : Int)) (X.bind fun (y0 : Bytes) => some (y0 : Bytes)) (cond (x0 == (3 : Int)) (X.bind fun (y0 : Bytes) => some (y0 : Bytes)) (cond (x0 == (2 : Int)) (cond (Nat.ble (1 + x2.length) mx) (cond (Nat.ble ((([60] : Bytes) ++ x2).length + 1) mx) (some (((([60] : Bytes) ++ x2) ++ ([62] : Bytes)) : Bytes)) (none)) (none)) (some (([110, 111, 110, 101] : Bytes) : Bytes)))) : Option Bytes) = some (valTextF x0 x1 x2) := by
  subst hX
  rw [Nat.ble_eq_true_of_le (by unfold mx; omega), Nat.ble_eq_true_of_le (by simp only [List.length_append, List.length_cons, List.length_nil]; unfold mx; omega)]
  unfold valTextF
  by_cases h1 : x0 = 1
  · subst h1; rfl
  · have e : (x0 == (1 : Int)) = false := by simpa using h1
    rw [e, if_neg h1]
    by_cases h3 : x0 = 3
    · subst h3; rfl
    · have e3 : (x0 == (3 : Int)) = false := by simpa using h3
      rw [e3, if_neg h3]
      by_cases h2 : x0 = 2
      · subst h2; rfl
      · have e2 : (x0 == (2 : Int)) = false := by simpa using h2
        rw [e2, if_neg h2]; rfl
theorem sp_sValText (x0 x1 : Int) (x2 : Bytes) (hl : x2.length ≤ 1048576) : Evt fun n => F_sValText n x0 x1 x2 = some (valTextF x0 x1 x2) :=
  Evt.succ ((sp_sToText x0 x1 x2).mono fun n h => by rw [eq_sValText]; exact val_fin x0 x1 x2 hl h)
theorem sp_iValText (x0 x1 : Int) (x2 : Bytes) (hl : x2.length ≤ 1048576) : Evt fun n => F_iValText n x0 x1 x2 = some (valTextF x0 x1 x2) :=
  Evt.succ ((sp_iToText x0 x1 x2).mono fun n h => by rw [eq_iValText]; exact val_fin x0 x1 x2 hl h)

end Go.Proofs.YtmabfdnconccnaaDoor
