/- Numbers in a text: both readers. -/
import Derived.Test.YtmabfdnconccnaaGreatDoorTxtRexI
import Derived.Test.YtmabfdnconccnaaGreatDoorEv4
namespace Go.Proofs.YtmabfdnconccnaaGreatDoor
open Go Go.Ev
theorem Wadd (a b : Nat) (h : a + b ≤ 4000000000) : IntKind.wrap .i64 ((a : Int) + (b : Int)) = ((a + b : Nat) : Int) := by rw [IntKind.wrap_i64]; omega
theorem Wadd1 (a : Nat) (h : a ≤ 4000000000) : IntKind.wrap .i64 ((a : Int) + (1 : Int)) = ((a + 1 : Nat) : Int) := by rw [IntKind.wrap_i64]; omega
theorem W1add (a : Nat) (h : a ≤ 4000000000) : IntKind.wrap .i64 ((1 : Int) + (a : Int)) = ((1 + a : Nat) : Int) := by rw [IntKind.wrap_i64]; omega
theorem beqI {a b : Nat} (h : a = b) : ((a : Int) == (b : Int)) = true := by rw [h]; simp
theorem beqN {a b : Nat} (h : ¬ a = b) : ((a : Int) == (b : Int)) = false := by
  rw [beq_eq_false_iff_ne]
  omega
theorem beqJ {a : Nat} {b : Int} (h : (a : Int) = b) : ((a : Int) == b) = true := by rw [h]; simp
theorem beqM {a : Nat} {b : Int} (h : ¬ (a : Int) = b) : ((a : Int) == b) = false := by
  rw [beq_eq_false_iff_ne]
  exact h
def isB (c x : UInt8) : Bool := decide (x.toNat = c.toNat)
theorem tl_loop (n : Nat) (c : UInt8) : ∀ (l : Bytes) (m : Nat), l.length < m → L_strings_trimLeftByte_0 n m l c = some (.inl (l.dropWhile (isB c)))
  | [], m, h => by
    obtain ⟨m, rfl⟩ : ∃ m', m = m' + 1 := ⟨m - 1, by omega⟩
    rw [eqL_strings_trimLeftByte_0]
    rfl
  | a :: l, m, h => by
    obtain ⟨m, rfl⟩ : ∃ m', m = m' + 1 := ⟨m - 1, by omega⟩
    simp only [List.length_cons] at h
    have e0 : nthZ (a :: l) (0 : Int) = some a := rfl
    have e1 : ((a :: l).drop 1).take ((a :: l).length - 1) = l := by simp
    rw [eqL_strings_trimLeftByte_0, e0, decide_eq_true (by simp only [List.length_cons]; omega), List.dropWhile_cons]
    simp only [cond_true, Option.bind_some, u8_id, e1]
    by_cases hc : a.toNat = c.toNat
    · rw [beqI hc, decide_eq_true (by simp only [List.length_cons]; omega), if_pos (show isB c a = true from decide_eq_true hc)]
      exact tl_loop n c l m (by omega)
    · rw [beqN hc, if_neg (by unfold isB; simpa using hc)]
      rfl
theorem sp_trimLeftB (s : Bytes) (c : UInt8) : Evt fun n => F_strings_trimLeftByte n s c = some (s.dropWhile (isB c)) := by
  refine (Evt.ge (s.length + 1)).nm fun n hn => ?_
  rw [eq_strings_trimLeftByte, u8_id, tl_loop n c s n (by omega)]
  rfl
theorem sp_TrimLeft (s : Bytes) (c : UInt8) (hc : c.toNat < 128) : Evt fun n => F_strings_TrimLeft n s [c] = some (s.dropWhile (isB c)) := by
  refine (sp_trimLeftB s c).nm fun n e => ?_
  have e0 : nthZ ([c] : Bytes) (0 : Int) = some c := rfl
  have e1 : (([c] : Bytes) == []) = false := rfl
  have e2 : ((([c] : Bytes).length : Int) == (1 : Int)) = true := rfl
  rw [eq_strings_TrimLeft, e0, e1, e2]
  cases s with
  | nil => rfl
  | cons a l =>
    have e3 : ((a :: l : Bytes) == []) = false := rfl
    rw [e3]
    simp only [cond_false, cond_true, Option.bind_some, u8_id, e]
    rw [decide_eq_true (by omega)]
    rfl
def trR (c : UInt8) (l : Bytes) : Bytes := (l.reverse.dropWhile (isB c)).reverse
theorem trR_snoc (c : UInt8) (l : Bytes) (b : UInt8) : trR c (l ++ [b]) = if b.toNat = c.toNat then trR c l else l ++ [b] := by
  unfold trR
  simp only [List.reverse_append, List.reverse_cons, List.reverse_nil, List.nil_append, List.singleton_append, List.dropWhile_cons]
  by_cases h : b.toNat = c.toNat
  · rw [if_pos h, if_pos (show isB c b = true from decide_eq_true h)]
  · rw [if_neg h, if_neg (by unfold isB; simpa using h)]
    simp
theorem tr_loop (n : Nat) (c : UInt8) : ∀ (k : Nat) (l : Bytes) (m : Nat), l.length = k → k < m → k ≤ 1000000 → L_strings_trimRightByte_0 n m l c = some (.inl (trR c l))
  | 0, l, m, hl, hm, _ => by
    obtain ⟨m, rfl⟩ : ∃ m', m = m' + 1 := ⟨m - 1, by omega⟩
    obtain rfl := List.length_eq_zero_iff.1 hl
    rw [eqL_strings_trimRightByte_0]
    rfl
  | k + 1, l, m, hl, hm, hk => by
    obtain ⟨m, rfl⟩ : ∃ m', m = m' + 1 := ⟨m - 1, by omega⟩
    obtain ⟨l', b, rfl⟩ : ∃ l' b, l = l' ++ [b] := by
      have hne : l ≠ [] := by intro e; rw [e] at hl; cases hl
      exact ⟨l.dropLast, l.getLast hne, (List.dropLast_concat_getLast hne).symm⟩
    simp only [List.length_append, List.length_cons, List.length_nil] at hl
    have hw : IntKind.wrap .i64 (((l' ++ [b]).length : Int) - (1 : Int)) = (l'.length : Int) := by
      simp only [List.length_append, List.length_cons, List.length_nil]
      rw [IntKind.wrap_i64]; omega
    have hn : nthZ (l' ++ [b]) (l'.length : Int) = some b := by
      rw [nthZ_at (by simp)]
      simp
    rw [eqL_strings_trimRightByte_0, decide_eq_true (by simp only [List.length_append, List.length_cons, List.length_nil]; omega), hw, hn, trR_snoc]
    simp only [cond_true, Option.bind_some, u8_id]
    by_cases hb : b.toNat = c.toNat
    · have e : (l' ++ [b]).take ((Int.toNat (l'.length : Int)) - 0) = l' := by simp
      rw [beqI hb, if_pos hb, decide_eq_true (by simp only [List.length_append, List.length_cons, List.length_nil]; omega), e]
      exact tr_loop n c k l' m (by omega) (by omega) (by omega)
    · rw [beqN hb, if_neg hb]
      rfl
theorem dw_all {p : UInt8 → Bool} : ∀ l : Bytes, (∀ x ∈ l.dropWhile p, p x = true) ↔ ∀ x ∈ l, p x = true
  | [] => Iff.rfl
  | a :: l => by
    rw [List.dropWhile_cons]
    by_cases h : p a = true
    · rw [if_pos h, dw_all l]
      constructor
      · intro k x hx
        rcases List.mem_cons.1 hx with rfl | hx
        · exact h
        · exact k x hx
      · exact fun k x hx => k x (by simp [hx])
    · rw [if_neg h]
theorem dw_nil {p : UInt8 → Bool} : ∀ l : Bytes, l.dropWhile p = [] ↔ ∀ x ∈ l, p x = true
  | [] => by simp
  | a :: l => by
    rw [List.dropWhile_cons]
    by_cases h : p a = true
    · rw [if_pos h, dw_nil l]
      constructor
      · intro k x hx
        rcases List.mem_cons.1 hx with rfl | hx
        · exact h
        · exact k x hx
      · exact fun k x hx => k x (by simp [hx])
    · rw [if_neg h]
      constructor
      · intro k; cases k
      · exact fun k => absurd (k a (by simp)) h
theorem sp_Trim (s : Bytes) (hs : s.length ≤ 1000000) : Evt fun n => (F_strings_Trim n s [32]).bind (fun y => some (!(y == ([] : Bytes)))) = some (!bo (∀ c ∈ s, c.toNat = 32)) := by
  have h1 : Evt fun n => F_strings_trimRightByte n s 32 = some (trR 32 s) := (Evt.ge (s.length + 1)).nm fun n hn => by
    rw [eq_strings_trimRightByte, u8_id, tr_loop n 32 _ s n rfl (by omega) hs]
    rfl
  refine (h1.and (sp_trimLeftB (trR 32 s) 32)).nm fun n ⟨e, e'⟩ => ?_
  have e0 : nthZ ([32] : Bytes) (0 : Int) = some 32 := rfl
  have e1 : (([32] : Bytes) == []) = false := rfl
  have e2 : ((([32] : Bytes).length : Int) == (1 : Int)) = true := rfl
  have e4 : decide (((32 : UInt8).toNat : Int) < (128 : Int)) = true := by decide
  rw [eq_strings_Trim, e0, e1, e2]
  cases s with
  | nil => rw [bo_t (by simp)]; rfl
  | cons a l =>
    have e3 : ((a :: l : Bytes) == []) = false := rfl
    have e5 : ((trR 32 (a :: l)).dropWhile (isB 32) = []) ↔ ∀ c ∈ (a :: l), c.toNat = 32 := by
      rw [dw_nil]
      unfold trR
      have : (∀ x ∈ ((a :: l).reverse.dropWhile (isB 32)).reverse, isB 32 x = true) ↔ ∀ x ∈ (a :: l).reverse.dropWhile (isB 32), isB 32 x = true := by simp only [List.mem_reverse]
      rw [this, dw_all]
      simp only [List.mem_reverse]
      have e32 : isB 32 = is32 := rfl
      rw [e32]
      simp only [is32, decide_eq_true_eq]
    rw [e3]
    simp only [cond_false, cond_true, Option.bind_some, u8_id, e, e', e4]
    rw [bo_beq, propext e5]
theorem sp_idigitsAt (s : Bytes) (k : Nat) (hk : k ≤ s.length) (hs : s.length ≤ 1048576) : Evt fun n => F_idigitsAt n s (k : Int) = some (((s.drop k).takeWhile dig).length : Int) := by
  have e0 : ∀ i : Nat, i ≤ s.length → IntKind.wrap .i64 ((k : Int) + (i : Int)) = ((k + i : Nat) : Int) := fun i hi => by rw [IntKind.wrap_i64]; omega
  have h := cnt_loop (l := s.drop k) (β := Int) (by simp; omega) (p := dig) (L := fun n m i => L_idigitsAt_0 n m i k s) (Evt.of fun n m i hi => by
    have hi' : k + i < s.length := by simp at hi; omega
    rw [eqL_idigitsAt_0, e0 i (by omega), lt_dec hi', nthZ_at hi']
    simp only [cond_true, Option.bind_some, List.getElem_drop]
    unfold dig
    by_cases h1 : 48 ≤ (s[k + i]).toNat
    · rw [decide_eq_true (show (48 : Int) ≤ ((s[k + i]).toNat : Int) by omega)]
      by_cases h2 : (s[k + i]).toNat ≤ 57
      · rw [decide_eq_true (show ((s[k + i]).toNat : Int) ≤ (57 : Int) by omega), decide_eq_true ⟨h1, h2⟩]
        rfl
      · rw [decide_eq_false (show ¬ ((s[k + i]).toNat : Int) ≤ (57 : Int) by omega), decide_eq_false (p := 48 ≤ (s[k + i]).toNat ∧ (s[k + i]).toNat ≤ 57) (fun h => h2 h.2)]
        rfl
    · rw [decide_eq_false (show ¬ (48 : Int) ≤ ((s[k + i]).toNat : Int) by omega), decide_eq_false (p := 48 ≤ (s[k + i]).toNat ∧ (s[k + i]).toNat ≤ 57) (fun h => h1 h.1)]
      rfl) (fun n m => by
      have e1 : (k + (s.drop k).length) = s.length := by simp; omega
      rw [eqL_idigitsAt_0, e0 _ (by simp), e1, lt_nd]; rfl)
  refine h.nm fun n h => ?_
  rw [eq_idigitsAt]
  rw [show L_idigitsAt_0 n n (0 : Int) k s = _ from h]
  rfl
theorem eq_Atoi (n : Nat) (s : Bytes) : F_strconv_Atoi (n + 1) s = cond (Nat.ble s.length 18) ((Lib.atoi s).map fun x => (x, false)) none := by kernel_rfl
theorem eta_some {α β : Type} (p : α × β) : (some p).bind (fun y => some (y.1, y.2)) = some p := by cases p; rfl
def xOf (w q : Bytes) : Nat := valN w * 1000000 + frU 100000 q
theorem xOf_eq (w q : Bytes) : valN w * 1000000 + frU 100000 q = xOf w q := by unfold xOf; exact Eq.refl _
theorem ble_mx {n : Nat} (h : n ≤ 4000000000) : Nat.ble n mx = true := Nat.ble_eq_true_of_le (by unfold mx; omega)
theorem sp_iright0 (k : Nat) : Evt fun n => F_iright n (k : Int) = some (if 9000000000000 < k then ((0 : Int), false) else ((k : Int), true)) := by
  have h1 : Evt fun n => F_iDecOk n (k : Int) = some (decide (k ≤ 9000000000000)) := Evt.succ (Evt.succ (Evt.of fun n => by
    rw [eq_iDecOk, eq_iin, decide_eq_true (by omega)]
    simp only [cond_true, Option.bind_some]
    congr 1
    rw [bo_dec, bo_dec]
    exact bo_congr' (by omega)))
  refine h1.nm fun n e => ?_
  rw [eq_iright, e]
  simp only [Option.bind_some]
  by_cases h : 9000000000000 < k
  · rw [if_pos h, decide_eq_false (by omega)]; rfl
  · rw [if_neg h, decide_eq_true (by omega)]; rfl
theorem sp_imil (w q : Bytes) (hw : ∀ c ∈ w, dig c = true) (hq : ∀ c ∈ q, dig c = true) (hl : q.length ≤ 1000) : Evt fun n => F_imillionths n w q = some (if 9000000000000 < xOf w q then ((0 : Int), false) else ((xOf w q : Int), true)) := by
  refine (((sp_TrimLeft w 48 (by decide)).and (sp_iright0 (xOf w q))).and (Evt.ge 1)).nm fun n ⟨⟨e1, e2⟩, hn⟩ => ?_
  have d0 : w.dropWhile (isB 48) = w.dropWhile is48 := rfl
  rw [eq_imillionths, e1, d0]
  simp only [Option.bind_some]
  rw [ble_mx (by omega), decide_eq_true (by refine ⟨by omega, ?_⟩; simp only [List.length_append, List.length_cons, List.length_nil]; omega)]
  simp only [cond_true]
  by_cases h : 7 < (w.dropWhile is48).length
  · have := drop0_big w hw h
    rw [decide_eq_true (by omega), if_pos (by unfold xOf; omega)]
    rfl
  · obtain ⟨n, rfl⟩ : ∃ m, n = m + 1 := ⟨n - 1, by omega⟩
    have h6 : ((q ++ ([48, 48, 48, 48, 48, 48] : Bytes)).take (6 - 0)).length = 6 := by simp
    have hz : (q ++ ([48, 48, 48, 48, 48, 48] : Bytes)).take (6 - 0) = (q ++ zeros 6).take 6 := rfl
    rw [decide_eq_false (by omega), ble_mx (by omega), ble_mx (by rw [h6]; simp only [List.length_append, List.length_cons, List.length_nil]; omega), eq_Atoi, hz, atoi_val w q hw hq]
    rw [show Nat.ble ((([48] : Bytes) ++ w.dropWhile is48) ++ (q ++ zeros 6).take 6).length 18 = true from Nat.ble_eq_true_of_le (by
      rw [← hz, List.length_append, h6]; simp only [List.length_append, List.length_cons, List.length_nil]; omega)]
    simp only [cond_true, cond_false, Option.map_some, Option.bind_some]
    rw [xOf_eq, e2]
    exact eta_some _
theorem take_tw {p : UInt8 → Bool} (l : Bytes) : l.take (l.takeWhile p).length = l.takeWhile p := by
  induction l with
  | nil => rfl
  | cons a l ih =>
    rw [List.takeWhile_cons]
    by_cases h : p a = true
    · rw [if_pos h, List.length_cons, List.take_succ_cons, ih]
    · rw [if_neg h]; rfl
theorem tw_dw_len {p : UInt8 → Bool} (l : Bytes) : (l.takeWhile p).length + (l.dropWhile p).length = l.length := by
  have := congrArg List.length (List.takeWhile_append_dropWhile (p := p) (l := l))
  rwa [List.length_append] at this
def fracF (s : Bytes) (j : Nat) : Bytes := match s.drop j with
  | c :: t => if c.toNat = 46 then t.takeWhile dig else []
  | [] => []
theorem tailF_eq (s : Bytes) (k : Nat) (neg : Bool) : tailF s k neg =
    (let w := (s.drop k).takeWhile dig
     let q := fracF s (k + w.length)
     if w = [] ∧ q = [] then (0, 0) else if 9000000000000 < xOf w q then (0, 0) else (cond neg (-(xOf w q : Int)) (xOf w q : Int), ((k + w.length + (if q = [] then 0 else 1 + q.length) : Nat) : Int))) := by
  simp only [← xOf_eq]
  exact Eq.refl _
theorem fracF_dot {s : Bytes} {j : Nat} (h : j < s.length) (hc : (s[j]).toNat = 46) : fracF s j = (s.drop (j + 1)).takeWhile dig := by
  unfold fracF
  rw [List.drop_eq_getElem_cons h]
  simp only [if_pos hc]
theorem fracF_no {s : Bytes} {j : Nat} (h : ∀ h : j < s.length, ¬ (s[j]).toNat = 46) : fracF s j = [] := by
  unfold fracF
  by_cases hj : j < s.length
  · rw [List.drop_eq_getElem_cons hj]
    simp only [if_neg (h hj)]
  · rw [List.drop_eq_nil_of_le (by omega)]
theorem fracF_dig (s : Bytes) (j : Nat) : ∀ c ∈ fracF s j, dig c = true := by
  by_cases h : ∃ h : j < s.length, (s[j]).toNat = 46
  · obtain ⟨h, hc⟩ := h
    rw [fracF_dot h hc]
    exact tw_dig _
  · rw [fracF_no (fun hj hc => h ⟨hj, hc⟩)]
    intro c hc; cases hc
theorem tw_room (s : Bytes) (k : Nat) (hk : k ≤ s.length) : k + ((s.drop k).takeWhile dig).length ≤ s.length := by
  have := tw_le dig (s.drop k)
  simp at this
  omega
theorem nil_len (l : Bytes) : (l == ([] : Bytes)) = decide (l = []) := by
  cases l <;> rfl
theorem tail_I {s : Bytes} (hs : s.length ≤ 300) {n : Nat}
    (hD : ∀ k, k < s.length + 1 → F_idigitsAt n s (k : Int) = some (((s.drop k).takeWhile dig).length : Int))
    (hM : ∀ k, k < s.length + 1 → F_imillionths n ((s.drop k).takeWhile dig) [] = some (if 9000000000000 < xOf ((s.drop k).takeWhile dig) [] then ((0 : Int), false) else ((xOf ((s.drop k).takeWhile dig) [] : Int), true)))
    (hM2 : ∀ k, k < s.length + 1 → F_imillionths n ((s.drop k).takeWhile dig) (fracF s (k + ((s.drop k).takeWhile dig).length)) = some (if 9000000000000 < xOf ((s.drop k).takeWhile dig) (fracF s (k + ((s.drop k).takeWhile dig).length)) then ((0 : Int), false) else ((xOf ((s.drop k).takeWhile dig) (fracF s (k + ((s.drop k).takeWhile dig).length)) : Int), true)))
    {k : Nat} (hk : k ≤ s.length) (neg : Bool) (fin : Int → Int → Option (Int × Int)) (hfin : ∀ (x k : Nat), x ≤ 9000000000000 → fin x k = some (cond neg (-(x : Int)) (x : Int), (k : Int))) :
    ((F_idigitsAt n s (k : Int)).bind fun (y22 : Int) => cond (decide ((0 : Int) ≤ (k : Int) ∧ (k : Int) ≤ (IntKind.wrap .i64 ((k : Int) + y22)) ∧ (IntKind.wrap .i64 ((k : Int) + y22)) ≤ (s.length : Int)))
      ((cond (decide ((IntKind.wrap .i64 ((k : Int) + y22)) < (s.length : Int))) ((nthZ s (IntKind.wrap .i64 ((k : Int) + y22))).bind fun (y23 : UInt8) => some (((y23).toNat : Int) == (46 : Int))) (some false) : Option Bool).bind fun (y43 : Bool) => cond y43
        ((F_idigitsAt n s (IntKind.wrap .i64 ((IntKind.wrap .i64 ((k : Int) + y22)) + (1 : Int)))).bind fun (y44 : Int) => cond (decide ((0 : Int) < y44))
          (cond (decide ((0 : Int) ≤ (IntKind.wrap .i64 ((IntKind.wrap .i64 ((k : Int) + y22)) + (1 : Int))) ∧ (IntKind.wrap .i64 ((IntKind.wrap .i64 ((k : Int) + y22)) + (1 : Int))) ≤ (IntKind.wrap .i64 ((IntKind.wrap .i64 ((IntKind.wrap .i64 ((k : Int) + y22)) + (1 : Int))) + y44)) ∧ (IntKind.wrap .i64 ((IntKind.wrap .i64 ((IntKind.wrap .i64 ((k : Int) + y22)) + (1 : Int))) + y44)) ≤ (s.length : Int)))
            ((cond (((s.drop (Int.toNat (k : Int))).take ((Int.toNat (IntKind.wrap .i64 ((k : Int) + y22))) - (Int.toNat (k : Int))) : Bytes) == ([] : Bytes)) (some (((s.drop (Int.toNat (IntKind.wrap .i64 ((IntKind.wrap .i64 ((k : Int) + y22)) + (1 : Int))))).take ((Int.toNat (IntKind.wrap .i64 ((IntKind.wrap .i64 ((IntKind.wrap .i64 ((k : Int) + y22)) + (1 : Int))) + y44))) - (Int.toNat (IntKind.wrap .i64 ((IntKind.wrap .i64 ((k : Int) + y22)) + (1 : Int))))) : Bytes) == ([] : Bytes))) (some false) : Option Bool).bind fun (y65 : Bool) => cond y65 (some (((0 : Int), (0 : Int)) : (Int × Int)))
              ((F_imillionths n ((s.drop (Int.toNat (k : Int))).take ((Int.toNat (IntKind.wrap .i64 ((k : Int) + y22))) - (Int.toNat (k : Int)))) ((s.drop (Int.toNat (IntKind.wrap .i64 ((IntKind.wrap .i64 ((k : Int) + y22)) + (1 : Int))))).take ((Int.toNat (IntKind.wrap .i64 ((IntKind.wrap .i64 ((IntKind.wrap .i64 ((k : Int) + y22)) + (1 : Int))) + y44))) - (Int.toNat (IntKind.wrap .i64 ((IntKind.wrap .i64 ((k : Int) + y22)) + (1 : Int))))))).bind fun (y66 : (Int × Bool)) => cond (!y66.2) (some (((0 : Int), (0 : Int)) : (Int × Int))) (fin y66.1 (IntKind.wrap .i64 ((IntKind.wrap .i64 ((k : Int) + y22)) + (IntKind.wrap .i64 ((1 : Int) + y44)))))))
            none)
          ((cond (((s.drop (Int.toNat (k : Int))).take ((Int.toNat (IntKind.wrap .i64 ((k : Int) + y22))) - (Int.toNat (k : Int))) : Bytes) == ([] : Bytes)) (some true) (some false) : Option Bool).bind fun (y65 : Bool) => cond y65 (some (((0 : Int), (0 : Int)) : (Int × Int)))
            ((F_imillionths n ((s.drop (Int.toNat (k : Int))).take ((Int.toNat (IntKind.wrap .i64 ((k : Int) + y22))) - (Int.toNat (k : Int)))) ([] : Bytes)).bind fun (y66 : (Int × Bool)) => cond (!y66.2) (some (((0 : Int), (0 : Int)) : (Int × Int))) (fin y66.1 (IntKind.wrap .i64 ((k : Int) + y22))))))
        ((cond (((s.drop (Int.toNat (k : Int))).take ((Int.toNat (IntKind.wrap .i64 ((k : Int) + y22))) - (Int.toNat (k : Int))) : Bytes) == ([] : Bytes)) (some true) (some false) : Option Bool).bind fun (y64 : Bool) => cond y64 (some (((0 : Int), (0 : Int)) : (Int × Int)))
          ((F_imillionths n ((s.drop (Int.toNat (k : Int))).take ((Int.toNat (IntKind.wrap .i64 ((k : Int) + y22))) - (Int.toNat (k : Int)))) ([] : Bytes)).bind fun (y65 : (Int × Bool)) => cond (!y65.2) (some (((0 : Int), (0 : Int)) : (Int × Int))) (fin y65.1 (IntKind.wrap .i64 ((k : Int) + y22))))))
      none) = some (tailF s k neg) := by
  have hw := tw_room s k hk
  rw [hD k (by omega), tailF_eq]
  simp only [Option.bind_some]
  have m0 := hM k (by omega)
  have m2 := hM2 k (by omega)
  have t1 : (s.drop k).take (((s.drop k).takeWhile dig).length) = (s.drop k).takeWhile dig := take_tw _
  revert hw m0 m2 t1
  generalize (s.drop k).takeWhile dig = w
  intro hw m0 m2 t1
  have a1 : IntKind.wrap .i64 ((k : Int) + (w.length : Int)) = ((k + w.length : Nat) : Int) := Wadd _ _ (by omega)
  have a2 : IntKind.wrap .i64 (((k + w.length : Nat) : Int) + 1) = ((k + w.length + 1 : Nat) : Int) := Wadd1 _ (by omega)
  simp only [a1, a2, Int.toNat_natCast, Nat.add_sub_cancel_left, t1, m0, Option.bind_some, nil_len]
  rw [decide_eq_true (p := (0 : Int) ≤ (k : Int) ∧ _) (by omega)]
  simp only [cond_true]
  have base : fracF s (k + w.length) = [] → ((cond (decide (w = [])) (some true) (some false) : Option Bool).bind fun (y64 : Bool) => cond y64 (some (((0 : Int), (0 : Int)) : (Int × Int)))
      (cond (!(if 9000000000000 < xOf w [] then ((0 : Int), false) else ((xOf w [] : Int), true)).2) (some (((0 : Int), (0 : Int)) : (Int × Int))) (fin (if 9000000000000 < xOf w [] then ((0 : Int), false) else ((xOf w [] : Int), true)).1 ((k + w.length : Nat) : Int)))) =
      some (if w = [] ∧ fracF s (k + w.length) = [] then (0, 0) else if 9000000000000 < xOf w (fracF s (k + w.length)) then (0, 0) else (cond neg (-(xOf w (fracF s (k + w.length)) : Int)) (xOf w (fracF s (k + w.length)) : Int), ((k + w.length + (if fracF s (k + w.length) = [] then 0 else 1 + (fracF s (k + w.length)).length) : Nat) : Int))) := by
    intro hq
    rw [hq]
    by_cases hw0 : w = []
    · rw [decide_eq_true hw0, if_pos (c := w = [] ∧ ([] : Bytes) = []) ⟨hw0, rfl⟩, cond_true, Option.bind_some, cond_true]
    · rw [decide_eq_false hw0, if_neg (c := w = [] ∧ ([] : Bytes) = []) (fun h => hw0 h.1)]
      simp only [cond_false, Option.bind_some]
      by_cases hx : 9000000000000 < xOf w []
      · simp only [if_pos hx, Bool.not_false, cond_true]
      · simp only [if_neg hx, Bool.not_true, cond_false]
        rw [hfin _ _ (Nat.le_of_not_lt hx), if_pos trivial, Nat.add_zero]
  by_cases hd : ∃ h : k + w.length < s.length, (s[k + w.length]).toNat = 46
  · obtain ⟨hlt, hc⟩ := hd
    rw [lt_dec hlt, nthZ_at hlt]
    simp only [cond_true, Option.bind_some]
    rw [beqJ (b := 46) (by omega)]
    simp only [cond_true]
    have hqd := fracF_dot hlt hc
    have hq := tw_room s (k + w.length + 1) (by omega)
    rw [hD _ (by omega)]
    have t2 : (s.drop (k + w.length + 1)).take (((s.drop (k + w.length + 1)).takeWhile dig).length) = (s.drop (k + w.length + 1)).takeWhile dig := take_tw _
    rw [← hqd] at hq t2 ⊢
    revert hq t2 m2 base
    generalize fracF s (k + w.length) = q
    intro m2 base hq t2
    simp only [Option.bind_some]
    have a3 : IntKind.wrap .i64 ((1 : Int) + (q.length : Int)) = ((1 + q.length : Nat) : Int) := W1add _ (by omega)
    have a4 : IntKind.wrap .i64 (((k + w.length : Nat) : Int) + ((1 + q.length : Nat) : Int)) = ((k + w.length + (1 + q.length) : Nat) : Int) := Wadd _ _ (by omega)
    have a5 : IntKind.wrap .i64 (((k + w.length + 1 : Nat) : Int) + (q.length : Int)) = ((k + w.length + 1 + q.length : Nat) : Int) := Wadd _ _ (by omega)
    simp only [a3, a4, a5, Int.toNat_natCast, Nat.add_sub_cancel_left, t2, m2, Option.bind_some]
    by_cases hq0 : q = []
    · have := base hq0
      subst hq0
      rw [decide_eq_false (by simp), cond_false]
      exact this
    · have hlen : 0 < q.length := List.length_pos_iff.2 hq0
      rw [decide_eq_true (p := (0 : Int) < (q.length : Int)) (by omega), decide_eq_true (p := (0 : Int) ≤ ((k + w.length + 1 : Nat) : Int) ∧ _) (by omega), decide_eq_false hq0, if_neg (c := w = [] ∧ q = []) (fun h => hq0 h.2)]
      have e : (cond (decide (w = [])) (some false) (some false) : Option Bool) = some false := by cases decide (w = []) <;> rfl
      simp only [cond_true, e, Option.bind_some, cond_false]
      by_cases hx : 9000000000000 < xOf w q
      · simp only [if_pos hx, Bool.not_false, cond_true]
      · simp only [if_neg hx, if_neg hq0, Bool.not_true, cond_false]
        rw [hfin _ _ (Nat.le_of_not_lt hx)]
  · have hq := fracF_no (s := s) (j := k + w.length) (fun h hc => hd ⟨h, hc⟩)
    have e : (cond (decide (((k + w.length : Nat) : Int) < (s.length : Int))) ((nthZ s ((k + w.length : Nat) : Int)).bind fun (y23 : UInt8) => some (((y23).toNat : Int) == (46 : Int))) (some false) : Option Bool) = some false := by
      by_cases hlt : k + w.length < s.length
      · rw [lt_dec hlt, nthZ_at hlt]
        simp only [cond_true, Option.bind_some]
        rw [beqM (b := 46) (fun hc => hd ⟨hlt, by omega⟩)]
      · rw [decide_eq_false (by omega)]; rfl
    rw [e, Option.bind_some, cond_false]
    exact base hq
theorem frontF_eq (s : Bytes) : frontF s = match s.drop (s.takeWhile is32).length with
  | c :: _ => if c.toNat = 45 then tailF s ((s.takeWhile is32).length + 1) true else if c.toNat = 43 then tailF s ((s.takeWhile is32).length + 1) false else tailF s (s.takeWhile is32).length false
  | [] => tailF s (s.takeWhile is32).length false := rfl
theorem W_neg (x : Nat) (h : x ≤ 9000000000000) : IntKind.wrap .i64 ((0 : Int) - (x : Int)) = -(x : Int) := by rw [IntKind.wrap_i64]; omega
theorem sp_iDecFront (s : Bytes) (hs : s.length ≤ 300) : Evt fun n => F_iDecFront n s = some (frontF s) := by
  have hq : ∀ j, (fracF s j).length ≤ 1000 := fun j => by
    by_cases h : ∃ h : j < s.length, (s[j]).toNat = 46
    · obtain ⟨h, hc⟩ := h
      rw [fracF_dot h hc]
      have := tw_room s (j + 1) (by omega)
      omega
    · rw [fracF_no (fun hj hc => h ⟨hj, hc⟩)]; simp
  have h1 := Evt.lt (len := s.length + 1) fun k hk => sp_idigitsAt s k (by omega) (by omega)
  have h2 := Evt.lt (len := s.length + 1) fun k _ => sp_imil ((s.drop k).takeWhile dig) [] (tw_dig _) (by simp) (by simp)
  have h3 := Evt.lt (len := s.length + 1) fun k _ => sp_imil ((s.drop k).takeWhile dig) (fracF s (k + ((s.drop k).takeWhile dig).length)) (tw_dig _) (fracF_dig _ _) (hq _)
  refine (((sp_TrimLeft s 32 (by decide)).and h1).and (h2.and h3)).nm fun n ⟨⟨e1, hD⟩, hM, hM2⟩ => ?_
  have hp : IntKind.wrap .i64 ((s.length : Int) - ((s.dropWhile (isB 32)).length : Int)) = ((s.takeWhile is32).length : Int) := by
    have h := tw_dw_len (p := isB 32) s
    have e : s.takeWhile (isB 32) = s.takeWhile is32 := rfl
    rw [e] at h
    rw [IntKind.wrap_i64]
    omega
  rw [eq_iDecFront, e1]
  simp only [Option.bind_some, hp]
  have hpl := tw_le is32 s
  rw [frontF_eq]
  revert hpl
  generalize (s.takeWhile is32).length = p
  intro hpl
  by_cases hlt : p < s.length
  · have a1 : IntKind.wrap .i64 ((p : Int) + (1 : Int)) = ((p + 1 : Nat) : Int) := Wadd1 _ (by omega)
    rw [lt_dec hlt, nthZ_at hlt, List.drop_eq_getElem_cons hlt]
    simp only [cond_true, Option.bind_some, a1]
    by_cases h1 : (s[p]).toNat = 45
    · rw [if_pos h1, beqM (a := (s[p]).toNat) (b := 43) (by omega), beqJ (a := (s[p]).toNat) (b := 45) (by omega)]
      simp only [cond_true, cond_false, Option.bind_some]
      exact tail_I hs hD hM hM2 (k := p + 1) (by omega) true (fun x e => some (IntKind.wrap .i64 ((0 : Int) - x), e)) (fun x k hx => by rw [W_neg x hx]; rfl)
    · rw [if_neg h1, beqM (a := (s[p]).toNat) (b := 45) (by omega)]
      by_cases h2 : (s[p]).toNat = 43
      · rw [if_pos h2, beqJ (a := (s[p]).toNat) (b := 43) (by omega)]
        simp only [cond_true, cond_false, Option.bind_some]
        exact tail_I hs hD hM hM2 (k := p + 1) (by omega) false (fun x e => some (x, e)) (fun x k hx => rfl)
      · rw [if_neg h2, beqM (a := (s[p]).toNat) (b := 43) (by omega)]
        simp only [cond_false, Option.bind_some]
        exact tail_I hs hD hM hM2 (k := p) (by omega) false (fun x e => some (x, e)) (fun x k hx => rfl)
  · rw [decide_eq_false (show ¬ ((p : Int) < (s.length : Int)) by omega), List.drop_eq_nil_of_le (show s.length ≤ p by omega)]
    simp only [cond_false, Option.bind_some]
    exact tail_I hs hD hM hM2 (k := p) (by omega) false (fun x e => some (x, e)) (fun x k hx => rfl)
theorem sp_sl2Digit : Evt fun n => ∀ c, F_sl2Digit n c = some (dig c) := Evt.succ (Evt.of fun n c => by
  rw [eq_sl2Digit]
  unfold dig
  by_cases h1 : 48 ≤ c.toNat
  · rw [decide_eq_true (show (48 : Int) ≤ (c.toNat : Int) by omega)]
    simp only [cond_true, Option.bind_some]
    congr 1
    rw [bo_dec, bo_dec]
    exact bo_congr' (by omega)
  · rw [decide_eq_false (show ¬ (48 : Int) ≤ (c.toNat : Int) by omega), decide_eq_false (p := 48 ≤ c.toNat ∧ c.toNat ≤ 57) (fun h => h1 h.1)]
    rfl)
theorem L0_S (n : Nat) {s : Bytes} (hs : s.length ≤ 300) : ∀ (k m i : Nat), s.length - i ≤ k → k < m → i ≤ s.length → L_sDecFront_0 n m (i : Int) s = some (.inl (s, ((i + ((s.drop i).takeWhile is32).length : Nat) : Int))) := by
  intro k
  induction k with
  | zero =>
    intro m i hk hm hi
    obtain ⟨m, rfl⟩ : ∃ m', m = m' + 1 := ⟨m - 1, by omega⟩
    obtain rfl : i = s.length := by omega
    rw [eqL_sDecFront_0, lt_nd, List.drop_eq_nil_of_le (Nat.le_refl _)]
    rfl
  | succ k ih =>
    intro m i hk hm hi
    obtain ⟨m, rfl⟩ : ∃ m', m = m' + 1 := ⟨m - 1, by omega⟩
    by_cases hlt : i < s.length
    · rw [eqL_sDecFront_0, lt_dec hlt, nthZ_at hlt, List.drop_eq_getElem_cons hlt, List.takeWhile_cons]
      simp only [cond_true, Option.bind_some]
      by_cases h : (s[i]).toNat = 32
      · rw [beqJ (a := (s[i]).toNat) (b := 32) (by omega), if_pos (show is32 s[i] = true from decide_eq_true h), Wadd1 i (by omega), cond_true, ih m (i + 1) (by omega) (by omega) (by omega)]
        have e3 : i + 1 + ((s.drop (i + 1)).takeWhile is32).length = i + (s[i] :: (s.drop (i + 1)).takeWhile is32).length := by simp only [List.length_cons]; omega
        rw [e3]
      · rw [beqM (a := (s[i]).toNat) (b := 32) (by omega), if_neg (by unfold is32; simpa using h)]
        rfl
    · obtain rfl : i = s.length := by omega
      rw [eqL_sDecFront_0, lt_nd, List.drop_eq_nil_of_le (Nat.le_refl _)]
      rfl
theorem L2_S {n : Nat} (hd : ∀ c, F_sl2Digit n c = some (dig c)) {s : Bytes} (hs : s.length ≤ 300) (neg : Bool) : ∀ (k m i : Nat) (l : Bytes) (x : Int), s.length - i ≤ k → k < m → i ≤ s.length → l.length ≤ i → PW l x →
    ∃ x', PW (l ++ (s.drop i).takeWhile dig) x' ∧ L_sDecFront_2 n m (l.length : Int) (i : Int) s x neg = some (.inl (((l ++ (s.drop i).takeWhile dig).length : Int), (s, (x', (neg, ((i + ((s.drop i).takeWhile dig).length : Nat) : Int)))))) := by
  intro k
  induction k with
  | zero =>
    intro m i l x hk hm hi hl hx
    obtain ⟨m, rfl⟩ : ∃ m', m = m' + 1 := ⟨m - 1, by omega⟩
    obtain rfl : i = s.length := by omega
    rw [eqL_sDecFront_2, lt_nd, List.drop_eq_nil_of_le (Nat.le_refl _), List.takeWhile_nil, List.append_nil]
    exact ⟨x, hx, rfl⟩
  | succ k ih =>
    intro m i l x hk hm hi hl hx
    obtain ⟨m, rfl⟩ : ∃ m', m = m' + 1 := ⟨m - 1, by omega⟩
    by_cases hlt : i < s.length
    · rw [eqL_sDecFront_2, lt_dec hlt, nthZ_at hlt, List.drop_eq_getElem_cons hlt, List.takeWhile_cons]
      simp only [cond_true, Option.bind_some, u8_id, hd]
      cases h : dig s[i]
      · rw [if_neg (by simp), List.append_nil]
        exact ⟨x, hx, rfl⟩
      · rw [if_pos rfl]
        obtain ⟨x', h1, h2⟩ := ih m (i + 1) (l ++ [s[i]]) _ (by omega) (by omega) (by omega) (by simp; omega) (PW_snoc hx h)
        have e : (l ++ [s[i]]) ++ (s.drop (i + 1)).takeWhile dig = l ++ (s[i] :: (s.drop (i + 1)).takeWhile dig) := by simp
        rw [e] at h1 h2
        have e2 : (((l ++ [s[i]]).length : Nat) : Int) = ((l.length + 1 : Nat) : Int) := by simp
        refine ⟨x', h1, ?_⟩
        rw [e2] at h2
        have e3 : i + 1 + ((s.drop (i + 1)).takeWhile dig).length = i + (s[i] :: (s.drop (i + 1)).takeWhile dig).length := by simp; omega
        rw [e3] at h2
        obtain ⟨hx0, hx1, _, _⟩ := hx
        have hb := (s[i]).toNat_lt
        simp only [Wadd1 _ (show l.length ≤ 4000000000 by omega), Wadd1 _ (show i ≤ 4000000000 by omega), cond_true]
        by_cases hle : x ≤ 9000000000000
        · have c1 : IntKind.wrap .i64 (((s[i]).toNat : Int) - 48) = ((s[i]).toNat : Int) - 48 := by rw [IntKind.wrap_i64]; omega
          have c2 : IntKind.wrap .i64 ((((s[i]).toNat : Int) - 48) * 1000000) = (((s[i]).toNat : Int) - 48) * 1000000 := by rw [IntKind.wrap_i64]; omega
          have c3 : IntKind.wrap .i64 (10 * x) = 10 * x := by rw [IntKind.wrap_i64]; omega
          have c4 : IntKind.wrap .i64 (10 * x + (((s[i]).toNat : Int) - 48) * 1000000) = 10 * x + (((s[i]).toNat : Int) - 48) * 1000000 := by rw [IntKind.wrap_i64]; omega
          rw [if_pos hle] at h2
          rw [decide_eq_true hle, w_u8, c1, c2, c3, c4]
          exact h2
        · rw [if_neg hle] at h2
          rw [decide_eq_false hle]
          exact h2
    · obtain rfl : i = s.length := by omega
      rw [eqL_sDecFront_2, lt_nd, List.drop_eq_nil_of_le (Nat.le_refl _), List.takeWhile_nil, List.append_nil]
      exact ⟨x, hx, rfl⟩
theorem L4_S {n : Nat} (hd : ∀ c, F_sl2Digit n c = some (dig c)) {s : Bytes} (hs : s.length ≤ 300) (neg : Bool) : ∀ (k m i a u : Nat) (x : Int), s.length - i ≤ k → k < m → i ≤ s.length → a ≤ i → u ≤ 100000 → 0 ≤ x → x + (frU u ((s.drop i).takeWhile dig) : Int) ≤ 1000000000000000 →
    L_sDecFront_4 n m (i : Int) (a : Int) (u : Int) s x neg = some (.inl (((i + ((s.drop i).takeWhile dig).length : Nat) : Int), (x + (frU u ((s.drop i).takeWhile dig) : Int), (neg, ((a + ((s.drop i).takeWhile dig).length : Nat) : Int))))) := by
  intro k
  induction k with
  | zero =>
    intro m i a u x hk hm hi ha hu hx hb
    obtain ⟨m, rfl⟩ : ∃ m', m = m' + 1 := ⟨m - 1, by omega⟩
    obtain rfl : i = s.length := by omega
    rw [eqL_sDecFront_4, lt_nd, List.drop_eq_nil_of_le (Nat.le_refl _), List.takeWhile_nil, frU]
    simp
  | succ k ih =>
    intro m i a u x hk hm hi ha hu hx hb
    obtain ⟨m, rfl⟩ : ∃ m', m = m' + 1 := ⟨m - 1, by omega⟩
    by_cases hlt : i < s.length
    · rw [List.drop_eq_getElem_cons hlt, List.takeWhile_cons] at hb ⊢
      rw [eqL_sDecFront_4, lt_dec hlt, nthZ_at hlt]
      simp only [cond_true, Option.bind_some, u8_id, hd]
      cases h : dig s[i]
      · rw [if_neg (by simp), frU]
        simp
      · rw [h, if_pos rfl, frU] at hb
        rw [if_pos rfl, frU]
        simp only [dig, decide_eq_true_eq] at h
        have hm9 : ((s[i]).toNat - 48) * u ≤ 9 * 100000 := Nat.mul_le_mul (by omega) hu
        have ec : (((s[i]).toNat : Int) - 48) = (((s[i]).toNat - 48 : Nat) : Int) := by omega
        have c1 : IntKind.wrap .i64 (((s[i]).toNat : Int) - 48) = (((s[i]).toNat - 48 : Nat) : Int) := by rw [IntKind.wrap_i64]; omega
        have c2 : IntKind.wrap .i64 ((((s[i]).toNat - 48 : Nat) : Int) * (u : Int)) = ((((s[i]).toNat - 48) * u : Nat) : Int) := by
          rw [← Int.natCast_mul, IntKind.wrap_i64]; omega
        have c3 : IntKind.wrap .i64 (x + ((((s[i]).toNat - 48) * u : Nat) : Int)) = x + ((((s[i]).toNat - 48) * u : Nat) : Int) := by rw [IntKind.wrap_i64]; omega
        have c4 : IntKind.wrap .i64 (Int.tdiv (u : Int) 10) = ((u / 10 : Nat) : Int) := by
          rw [show Int.tdiv (u : Int) 10 = ((u / 10 : Nat) : Int) from rfl, IntKind.wrap_i64]; omega
        rw [w_u8, c1, c2, c3, c4, Wadd1 i (by omega), Wadd1 a (by omega), cond_true, ih m (i + 1) (a + 1) (u / 10) _ (by omega) (by omega) (by omega) (by omega) (by omega) (by omega) (by omega)]
        have e3 : i + 1 + ((s.drop (i + 1)).takeWhile dig).length = i + (s[i] :: (s.drop (i + 1)).takeWhile dig).length := by simp; omega
        have e4 : a + 1 + ((s.drop (i + 1)).takeWhile dig).length = a + (s[i] :: (s.drop (i + 1)).takeWhile dig).length := by simp; omega
        have e5 : x + ((((s[i]).toNat - 48) * u : Nat) : Int) + (frU (u / 10) ((s.drop (i + 1)).takeWhile dig) : Int) = x + ((((s[i]).toNat - 48) * u + frU (u / 10) ((s.drop (i + 1)).takeWhile dig) : Nat) : Int) := by omega
        rw [e3, e4, e5]
    · obtain rfl : i = s.length := by omega
      rw [eqL_sDecFront_4, lt_nd, List.drop_eq_nil_of_le (Nat.le_refl _), List.takeWhile_nil, frU]
      simp
theorem fin_S {w q : Bytes} {x : Int} (hx : PW w x) (hq : ∀ c ∈ q, dig c = true) (neg : Bool) (e : Int) (many : Nat) (hm : many = w.length + q.length) :
    ((cond ((many : Int) == (0 : Int)) (some true) (some (decide ((9000000000000 : Int) < x + (frU 100000 q : Int)))) : Option Bool).bind fun (y86 : Bool) => cond y86 (some (((0 : Int), (0 : Int)) : (Int × Int))) (cond neg (some (((IntKind.wrap .i64 ((0 : Int) - (x + (frU 100000 q : Int)))), e) : (Int × Int))) (some ((x + (frU 100000 q : Int), e) : (Int × Int))))) =
    some (if w = [] ∧ q = [] then (0, 0) else if 9000000000000 < xOf w q then (0, 0) else (cond neg (-(xOf w q : Int)) (xOf w q : Int), e)) := by
  have hf : frU 100000 q < 1000000 := frU_le q 5 hq
  obtain ⟨h0, h1, h2, h3⟩ := hx
  by_cases hw : w = [] ∧ q = []
  · obtain ⟨rfl, rfl⟩ := hw
    subst hm
    rw [if_pos ⟨rfl, rfl⟩, beqJ (b := 0) (by simp), cond_true, Option.bind_some, cond_true]
  · have hne : many ≠ 0 := by
      intro h
      apply hw
      exact ⟨List.length_eq_zero_iff.1 (by omega), List.length_eq_zero_iff.1 (by omega)⟩
    rw [if_neg hw, beqM (b := 0) (by omega)]
    simp only [cond_false, Option.bind_some]
    unfold xOf
    rcases Nat.lt_or_ge 9000000000000 (valN w * 1000000) with hv | hv
    · have := h3 hv
      rw [decide_eq_true (by omega), if_pos (Nat.lt_of_lt_of_le hv (Nat.le_add_right _ _)), cond_true]
    · have := h2 hv
      subst this
      by_cases hb : 9000000000000 < valN w * 1000000 + frU 100000 q
      · rw [decide_eq_true (by omega), if_pos hb, cond_true]
      · have e1 : ((valN w : Int) * 1000000 + (frU 100000 q : Int)) = ((valN w * 1000000 + frU 100000 q : Nat) : Int) := by omega
        rw [decide_eq_false (by omega), if_neg hb, e1, W_neg _ (Nat.le_of_not_lt hb)]
        cases neg <;> simp only [cond_true, cond_false]
theorem tail_S {s : Bytes} (hs : s.length ≤ 300) {n : Nat} (hn : 400 ≤ n) (hd : ∀ c, F_sl2Digit n c = some (dig c)) {k : Nat} (hk : k ≤ s.length) (neg : Bool) :
    ((L_sDecFront_2 n n (0 : Int) (k : Int) s (0 : Int) neg).bind fun (y43 : (Sum (Int × (Bytes × (Int × (Bool × Int)))) (Int × Int))) => sumE y43 (fun (z44 : (Int × (Bytes × (Int × (Bool × Int))))) => (cond (decide ((IntKind.wrap .i64 (z44.2.2.2.2 + (1 : Int))) < (z44.2.1.length : Int))) ((nthZ z44.2.1 z44.2.2.2.2).bind fun (y44 : UInt8) => cond (((y44).toNat : Int) == (46 : Int)) ((nthZ z44.2.1 (IntKind.wrap .i64 (z44.2.2.2.2 + (1 : Int)))).bind fun (y45 : UInt8) => (F_sl2Digit n ((UInt8.ofNat (Int.toNat ((y45).toNat : Int))) : UInt8)).bind fun (y46 : Bool) => some y46) (some false)) (some false) : Option Bool).bind fun (y64 : Bool) => cond y64 ((L_sDecFront_4 n n ((IntKind.wrap .i64 (z44.2.2.2.2 + (1 : Int))) : Int) z44.1 (100000 : Int) z44.2.1 z44.2.2.1 z44.2.2.2.1).bind fun (y65 : (Sum (Int × (Int × (Bool × Int))) (Int × Int))) => sumE y65 (fun (z66 : (Int × (Int × (Bool × Int)))) => (cond (z66.2.2.2 == (0 : Int)) (some true) (some (decide ((9000000000000 : Int) < z66.2.1))) : Option Bool).bind fun (y86 : Bool) => cond y86 (some (((0 : Int), (0 : Int)) : (Int × Int))) (cond z66.2.2.1 (some (((IntKind.wrap .i64 ((0 : Int) - z66.2.1)), z66.1) : (Int × Int))) (some ((z66.2.1, z66.1) : (Int × Int))))) (fun (w66 : (Int × Int)) => some (w66 : (Int × Int)))) ((cond (z44.1 == (0 : Int)) (some true) (some (decide ((9000000000000 : Int) < z44.2.2.1))) : Option Bool).bind fun (y85 : Bool) => cond y85 (some (((0 : Int), (0 : Int)) : (Int × Int))) (cond z44.2.2.2.1 (some (((IntKind.wrap .i64 ((0 : Int) - z44.2.2.1)), z44.2.2.2.2) : (Int × Int))) (some ((z44.2.2.1, z44.2.2.2.2) : (Int × Int)))))) (fun (w44 : (Int × Int)) => some (w44 : (Int × Int)))) = some (tailF s k neg) := by
  obtain ⟨x, hx, e2⟩ := L2_S hd hs neg s.length n k [] 0 (by omega) (by omega) hk (by simp) PW_nil
  rw [List.nil_append] at hx e2
  rw [show L_sDecFront_2 n n (0 : Int) (k : Int) s (0 : Int) neg = _ from e2, tailF_eq]
  have hw := tw_room s k hk
  revert hw hx
  generalize (s.drop k).takeWhile dig = w
  intro hx hw
  simp only [Option.bind_some, sumE_l, Wadd1 _ (show k + w.length ≤ 4000000000 by omega)]
  have base : fracF s (k + w.length) = [] → ((cond ((w.length : Int) == (0 : Int)) (some true) (some (decide ((9000000000000 : Int) < x))) : Option Bool).bind fun (y85 : Bool) => cond y85 (some (((0 : Int), (0 : Int)) : (Int × Int))) (cond neg (some (((IntKind.wrap .i64 ((0 : Int) - x)), ((k + w.length : Nat) : Int)) : (Int × Int))) (some ((x, ((k + w.length : Nat) : Int)) : (Int × Int))))) =
      some (if w = [] ∧ fracF s (k + w.length) = [] then (0, 0) else if 9000000000000 < xOf w (fracF s (k + w.length)) then (0, 0) else (cond neg (-(xOf w (fracF s (k + w.length)) : Int)) (xOf w (fracF s (k + w.length)) : Int), ((k + w.length + (if fracF s (k + w.length) = [] then 0 else 1 + (fracF s (k + w.length)).length) : Nat) : Int))) := by
    intro hq
    rw [hq]
    have := fin_S hx (q := []) (by simp) neg ((k + w.length : Nat) : Int) w.length (by simp)
    rw [show (x + (frU 100000 ([] : Bytes) : Int)) = x by simp [frU]] at this
    exact this
  by_cases hd1 : ∃ h : k + w.length + 1 < s.length, (s[k + w.length]).toNat = 46 ∧ dig s[k + w.length + 1] = true
  · obtain ⟨hlt, hc, hg⟩ := hd1
    have hqd := fracF_dot (show k + w.length < s.length by omega) hc
    have hq := tw_room s (k + w.length + 1) (by omega)
    have hqn : fracF s (k + w.length) ≠ [] := by
      rw [hqd, List.drop_eq_getElem_cons hlt, List.takeWhile_cons, if_pos hg]
      simp
    have hqg := fracF_dig s (k + w.length)
    have hf : frU 100000 (fracF s (k + w.length)) < 1000000 := frU_le _ 5 hqg
    rw [lt_dec hlt, nthZ_at (show k + w.length < s.length by omega), nthZ_at hlt]
    simp only [cond_true, Option.bind_some, u8_id, hd, hg]
    rw [beqJ (a := (s[k + w.length]).toNat) (b := 46) (by omega)]
    simp only [cond_true, Option.bind_some]
    have h4 := L4_S hd hs neg s.length n (k + w.length + 1) w.length 100000 x (by omega) (by omega) (by omega) (by omega) (by omega) hx.1 (by rw [← hqd]; have := hx.2.1; omega)
    rw [show L_sDecFront_4 n n ((k + w.length + 1 : Nat) : Int) (w.length : Int) (100000 : Int) s x neg = _ from h4, ← hqd]
    rw [← hqd] at hq
    revert hqn hqg hq
    generalize fracF s (k + w.length) = q
    intro hq hqn hqg
    simp only [Option.bind_some, sumE_l]
    rw [fin_S hx hqg neg _ (w.length + q.length) rfl, if_neg hqn]
    rw [show k + w.length + 1 + q.length = k + w.length + (1 + q.length) by omega]
  · have hq : fracF s (k + w.length) = [] := by
      by_cases hc : ∃ h : k + w.length < s.length, (s[k + w.length]).toNat = 46
      · obtain ⟨h, hc⟩ := hc
        rw [fracF_dot h hc]
        by_cases hlt : k + w.length + 1 < s.length
        · rw [List.drop_eq_getElem_cons hlt, List.takeWhile_cons, if_neg (fun hg => hd1 ⟨hlt, hc, hg⟩)]
        · rw [List.drop_eq_nil_of_le (by omega)]; rfl
      · exact fracF_no (fun h hh => hc ⟨h, hh⟩)
    have e : (cond (decide (((k + w.length + 1 : Nat) : Int) < (s.length : Int))) ((nthZ s ((k + w.length : Nat) : Int)).bind fun (y44 : UInt8) => cond (((y44).toNat : Int) == (46 : Int)) ((nthZ s ((k + w.length + 1 : Nat) : Int)).bind fun (y45 : UInt8) => (F_sl2Digit n ((UInt8.ofNat (Int.toNat ((y45).toNat : Int))) : UInt8)).bind fun (y46 : Bool) => some y46) (some false)) (some false) : Option Bool) = some false := by
      by_cases hlt : k + w.length + 1 < s.length
      · rw [lt_dec hlt, nthZ_at (show k + w.length < s.length by omega), nthZ_at hlt]
        simp only [cond_true, Option.bind_some, u8_id, hd]
        by_cases hc : (s[k + w.length]).toNat = 46
        · rw [beqJ (a := (s[k + w.length]).toNat) (b := 46) (by omega)]
          cases hg : dig s[k + w.length + 1]
          · rfl
          · exact absurd ⟨hlt, hc, hg⟩ hd1
        · rw [beqM (a := (s[k + w.length]).toNat) (b := 46) (by omega)]; rfl
      · rw [decide_eq_false (by omega)]; rfl
    rw [e, Option.bind_some, cond_false]
    exact base hq
theorem sp_sDecFront (s : Bytes) (hs : s.length ≤ 300) : Evt fun n => F_sDecFront n s = some (frontF s) := by
  refine (sp_sl2Digit.and (Evt.ge 400)).nm fun n ⟨hd, hn⟩ => ?_
  have h0 := L0_S n hs s.length n 0 (by omega) (by omega) (by omega)
  rw [List.drop_zero, Nat.zero_add] at h0
  rw [eq_sDecFront, show L_sDecFront_0 n n (0 : Int) s = _ from h0]
  simp only [Option.bind_some, sumE_l]
  have hpl := tw_le is32 s
  rw [frontF_eq]
  revert hpl
  generalize (s.takeWhile is32).length = p
  intro hpl
  by_cases hlt : p < s.length
  · rw [lt_dec hlt, nthZ_at hlt, List.drop_eq_getElem_cons hlt]
    simp only [cond_true, Option.bind_some, Wadd1 _ (show p ≤ 4000000000 by omega)]
    by_cases h1 : (s[p]).toNat = 45
    · rw [if_pos h1, beqJ (a := (s[p]).toNat) (b := 45) (by omega)]
      simp only [cond_true, Option.bind_some]
      rw [tail_S hs hn hd (k := p + 1) (by omega) true]
    · rw [if_neg h1, beqM (a := (s[p]).toNat) (b := 45) (by omega)]
      by_cases h2 : (s[p]).toNat = 43
      · rw [if_pos h2, beqJ (a := (s[p]).toNat) (b := 43) (by omega)]
        simp only [cond_true, cond_false, Option.bind_some]
        rw [tail_S hs hn hd (k := p + 1) (by omega) false]
      · rw [if_neg h2, beqM (a := (s[p]).toNat) (b := 43) (by omega)]
        simp only [cond_false, Option.bind_some]
        rw [tail_S hs hn hd (k := p) (by omega) false]
  · rw [decide_eq_false (show ¬ ((p : Int) < (s.length : Int)) by omega), List.drop_eq_nil_of_le (show s.length ≤ p by omega)]
    simp only [cond_false, Option.bind_some]
    rw [tail_S hs hn hd (k := p) (by omega) false]
theorem tailF_le (s : Bytes) (k : Nat) (hk : k ≤ s.length) (neg : Bool) : ∃ e : Nat, (tailF s k neg).2 = (e : Int) ∧ e ≤ s.length := by
  rw [tailF_eq]
  have hw := tw_room s k hk
  simp only
  split
  · exact ⟨0, rfl, by omega⟩
  split
  · exact ⟨0, rfl, by omega⟩
  refine ⟨_, rfl, ?_⟩
  split
  · omega
  · rename_i hq
    by_cases h : ∃ h : k + ((s.drop k).takeWhile dig).length < s.length, (s[k + ((s.drop k).takeWhile dig).length]).toNat = 46
    · obtain ⟨h, hc⟩ := h
      rw [fracF_dot h hc]
      have := tw_room s (k + ((s.drop k).takeWhile dig).length + 1) (by omega)
      omega
    · exact absurd (fracF_no (fun hj hc => h ⟨hj, hc⟩)) hq
theorem frontF_le (s : Bytes) : ∃ e : Nat, (frontF s).2 = (e : Int) ∧ e ≤ s.length := by
  have hpl := tw_le is32 s
  rw [frontF_eq]
  revert hpl
  generalize (s.takeWhile is32).length = p
  intro hpl
  by_cases hlt : p < s.length
  · rw [List.drop_eq_getElem_cons hlt]
    simp only
    split
    · exact tailF_le s _ (by omega) _
    split
    · exact tailF_le s _ (by omega) _
    · exact tailF_le s _ (by omega) _
  · rw [List.drop_eq_nil_of_le (by omega)]
    exact tailF_le s _ (by omega) _
theorem sp_iDecLooks (s : Bytes) (hs : s.length ≤ 300) : Evt fun n => F_iDecLooks n s = some (declF s) := by
  obtain ⟨e, he, hl⟩ := frontF_le s
  refine ((sp_iDecFront s hs).and (sp_Trim (s.drop e) (by simp; omega))).nm fun n ⟨e1, e2⟩ => ?_
  rw [eq_iDecLooks, e1]
  unfold declF
  simp only [Option.bind_some, he]
  by_cases h0 : e = 0
  · subst h0
    rfl
  · have hs1 : (s.drop (Int.toNat (e : Int))).take (s.length - Int.toNat (e : Int)) = s.drop e := by
      rw [Int.toNat_natCast, List.take_of_length_le (by simp)]
    rw [beqM (b := 0) (by omega), if_neg (by omega), decide_eq_true (by omega), hs1, Int.toNat_natCast]
    simp only [cond_false, cond_true]
    rw [e2]
    cases bo (∀ c ∈ s.drop e, c.toNat = 32) <;> rfl
theorem LL_S (n : Nat) {s : Bytes} (hs : s.length ≤ 300) (x : Int) : ∀ (k m i : Nat), s.length - i ≤ k → k < m → i ≤ s.length → L_sDecLooks_0 n m (i : Int) s x = some (cond (bo (∀ c ∈ s.drop i, c.toNat = 32)) (.inl x) (.inr (0, false))) := by
  intro k
  induction k with
  | zero =>
    intro m i hk hm hi
    obtain ⟨m, rfl⟩ : ∃ m', m = m' + 1 := ⟨m - 1, by omega⟩
    obtain rfl : i = s.length := by omega
    rw [eqL_sDecLooks_0, lt_nd, List.drop_eq_nil_of_le (Nat.le_refl _), bo_t (by simp)]
    rfl
  | succ k ih =>
    intro m i hk hm hi
    obtain ⟨m, rfl⟩ : ∃ m', m = m' + 1 := ⟨m - 1, by omega⟩
    by_cases hlt : i < s.length
    · rw [eqL_sDecLooks_0, lt_dec hlt, nthZ_at hlt, List.drop_eq_getElem_cons hlt]
      simp only [cond_true, Option.bind_some]
      by_cases h : (s[i]).toNat = 32
      · rw [show (((s[i]).toNat : Int) != (32 : Int)) = false by unfold bne; rw [beqJ (a := (s[i]).toNat) (b := 32) (by omega)]; rfl, Wadd1 i (by omega), cond_false, ih m (i + 1) (by omega) (by omega) (by omega)]
        have e3 : (∀ c ∈ s[i] :: s.drop (i + 1), c.toNat = 32) ↔ ∀ c ∈ s.drop (i + 1), c.toNat = 32 := by
          rw [List.forall_mem_cons]
          exact and_iff_right h
        rw [bo_congr' e3]
      · rw [show (((s[i]).toNat : Int) != (32 : Int)) = true by unfold bne; rw [beqM (a := (s[i]).toNat) (b := 32) (by omega)]; rfl, bo_f (fun k => h (k _ (List.mem_cons_self ..)))]
        rfl
    · obtain rfl : i = s.length := by omega
      rw [eqL_sDecLooks_0, lt_nd, List.drop_eq_nil_of_le (Nat.le_refl _), bo_t (by simp)]
      rfl
theorem sp_sDecLooks (s : Bytes) (hs : s.length ≤ 300) : Evt fun n => F_sDecLooks n s = some (declF s) := by
  obtain ⟨e, he, hl⟩ := frontF_le s
  refine ((sp_sDecFront s hs).and (Evt.ge 400)).nm fun n ⟨e1, hn⟩ => ?_
  rw [eq_sDecLooks, e1]
  unfold declF
  simp only [Option.bind_some, he]
  by_cases h0 : e = 0
  · subst h0
    rfl
  · rw [beqM (b := 0) (by omega), if_neg (by omega), cond_false, LL_S n hs _ s.length n e (by omega) (by omega) hl, Int.toNat_natCast]
    cases bo (∀ c ∈ s.drop e, c.toNat = 32) <;> rfl
end Go.Proofs.YtmabfdnconccnaaGreatDoor
