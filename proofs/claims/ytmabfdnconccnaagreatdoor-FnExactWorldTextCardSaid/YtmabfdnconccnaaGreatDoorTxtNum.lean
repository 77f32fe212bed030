/- What the texts of numbers come to. -/
import Derived.Test.YtmabfdnconccnaaGreatDoorLaw
import Derived.Test.YtmabfdnconccnaaGreatDoorEv3
namespace Go.Proofs.YtmabfdnconccnaaGreatDoor
open Go Go.Ev

theorem sp_sl2Digits {k : Nat} (hk : k ≤ 9223372036854775807) : Evt fun n => F_sl2Digits n (k : Int) = some (Lib.decDigits k) := by
  refine Evt.succ ((Evt.ge (k + 1)).mono fun n hn => ?_)
  rw [eq_sl2Digits]
  by_cases h0 : k = 0
  · subst h0
    rw [decide_eq_true (by omega), Lib.decDigits_one (by omega)]
    rfl
  · have h := digits_loop (L := fun m x acc => L_sl2Digits_0 n m x acc) (fun m k acc h1 h2 => by
      rw [eqL_sl2Digits_0, decide_eq_true (by omega), Nat.ble_eq_true_of_le h2]; rfl) (fun m acc => by rw [eqL_sl2Digits_0]; rfl) k n [] (by omega) (by simp [mx]; omega)
    rw [decide_eq_false (by omega)]
    simp only [cond_false, h, Option.bind_some, sumE, List.append_nil, dd, if_neg h0]

theorem sp_sl29Int {x : Int} (hx : inI x) : Evt fun n => F_sl29Int n x = some (Lib.itoa x) := by
  obtain ⟨h1, h2⟩ := hx
  by_cases h0 : x < 0
  · by_cases hm : x = -9223372036854775808
    · refine Evt.succ (Evt.of fun n => ?_)
      subst hm
      rw [eq_sl29Int, itoa_min]
      rfl
    · refine Evt.succ ((sp_sl2Digits (k := x.natAbs) (by omega)).mono fun n h => ?_)
      rw [eq_sl29Int, decide_eq_true h0]
      have e : (x == (-9223372036854775808 : Int)) = false := by simpa using hm
      have hw : IntKind.wrap .i64 ((0 : Int) - x) = ((x.natAbs : Nat) : Int) := by rw [IntKind.wrap_i64]; omega
      have hl := Lib.itoa_length_le x h1 h2
      rw [itoa_negv h0] at hl ⊢
      simp only [List.length_cons] at hl
      rw [e, hw, h]
      simp only [cond_true, cond_false, Option.bind_some]
      rw [Nat.ble_eq_true_of_le (by unfold mx; omega)]
      rfl
  · refine Evt.succ ((sp_sl2Digits (k := x.toNat) (by omega)).mono fun n h => ?_)
    rw [eq_sl29Int, decide_eq_false h0]
    obtain ⟨k, rfl⟩ : ∃ k : Nat, x = k := ⟨x.toNat, by omega⟩
    rw [Int.toNat_natCast] at h
    simp only [cond_false, h, Option.bind_some, itoa_pos]

theorem eq_Itoa (n : Nat) (x : Int) : F_strconv_Itoa (n + 1) x = some (Lib.itoa x) := by kernel_rfl

theorem sp_sl29Nums {l : List Int} (hl : l.length ≤ 1000) (hx : ∀ x ∈ l, inI x) : Evt fun n => F_sl29Nums n l = some (spF l) := by
  have hloop := loop_up (len := l.length) (L := fun n m i (out : Bytes) => L_sl29Nums_0 n m i l out) (fun i out => i ≤ l.length ∧ out = spF (l.take i)) (fun r => r = .inl (spF l)) ?_ ?_
  · refine Evt.succ (hloop.mono fun n h => ?_)
    obtain ⟨r, h1, h2⟩ := h [] ⟨Nat.zero_le _, by simp [spF]⟩
    subst h2
    have h1 : L_sl29Nums_0 n n (0 : Int) l [] = some (.inl (spF l)) := h1
    rw [eq_sl29Nums, h1]
    rfl
  · refine (Evt.all l fun x h => sp_sl29Int (hx x h)).mono fun n h m i out hi hinv => ?_
    obtain ⟨h0, rfl⟩ := hinv
    right
    have hi2 := h _ (List.getElem_mem hi)
    have hb := spF_len (l.take i) (fun x h => hx x (List.mem_of_mem_take h))
    have hb2 := Lib.itoa_length_le l[i] (hx _ (List.getElem_mem hi)).1 (hx _ (List.getElem_mem hi)).2
    simp only [List.length_take] at hb
    refine ⟨spF (l.take i) ++ (32 :: Lib.itoa l[i]), ?_, hi, ?_⟩
    · rw [eqL_sl29Nums_0, decide_eq_true (by omega), atZ_at hi]
      simp only [cond_true, Option.bind_some, hi2]
      rw [Nat.ble_eq_true_of_le (by unfold mx; omega), Nat.ble_eq_true_of_le (by simp; unfold mx; omega), wrap_next hi (by omega)]
      simp only [cond_true, List.append_assoc]
      rfl
    · rw [take_snoc hi, spF_snoc]
  · refine Evt.of fun n m out hinv => ⟨_, ?_, rfl⟩
    obtain ⟨-, rfl⟩ := hinv
    rw [eqL_sl29Nums_0, decide_eq_false (by omega), List.take_length]
    rfl

theorem sp_ispaced {l : List Int} (hl : l.length ≤ 1000) (hx : ∀ x ∈ l, inI x) : Evt fun n => F_ispaced n l = some (spF l) := by
  have hloop := loop_up (len := l.length) (L := fun n m i (out : Bytes) => L_ispaced_0 n m i out l l.length) (fun i out => i ≤ l.length ∧ out = spF (l.take i)) (fun r => r = .inl (spF l)) ?_ ?_
  · refine Evt.succ (hloop.mono fun n h => ?_)
    obtain ⟨r, h1, h2⟩ := h [] ⟨Nat.zero_le _, by simp [spF]⟩
    subst h2
    have h1 : L_ispaced_0 n n (0 : Int) [] l l.length = some (.inl (spF l)) := h1
    rw [eq_ispaced, h1]
    rfl
  · refine (Evt.ge 1).mono fun n hn m i out hi hinv => ?_
    obtain ⟨n, rfl⟩ : ∃ n', n = n' + 1 := ⟨n - 1, by omega⟩
    obtain ⟨h0, rfl⟩ := hinv
    right
    have hb := spF_len (l.take i) (fun x h => hx x (List.mem_of_mem_take h))
    have hb2 := Lib.itoa_length_le l[i] (hx _ (List.getElem_mem hi)).1 (hx _ (List.getElem_mem hi)).2
    simp only [List.length_take] at hb
    refine ⟨spF (l.take i) ++ (32 :: Lib.itoa l[i]), ?_, hi, ?_⟩
    · rw [eqL_ispaced_0, decide_eq_true (by omega), atZ_at hi]
      simp only [cond_true, Option.bind_some, eq_Itoa]
      rw [Nat.ble_eq_true_of_le (by unfold mx; omega), Nat.ble_eq_true_of_le (by simp; unfold mx; omega), wrap_next hi (by omega)]
      rfl
    · rw [take_snoc hi, spF_snoc]
  · refine Evt.of fun n m out hinv => ⟨_, ?_, rfl⟩
    obtain ⟨-, rfl⟩ := hinv
    rw [eqL_ispaced_0, decide_eq_false (by omega), List.take_length]
    rfl

end Go.Proofs.YtmabfdnconccnaaGreatDoor
