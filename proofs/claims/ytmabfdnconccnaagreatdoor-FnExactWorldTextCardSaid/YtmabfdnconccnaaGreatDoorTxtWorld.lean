/- What the texts of worlds come to. -/
import Derived.Test.YtmabfdnconccnaaGreatDoorTxtPeer
namespace Go.Proofs.YtmabfdnconccnaaGreatDoor
open Go Go.Ev

def peerP (p : Int × (Int × (Int × (Int × (Int × (t_iiis × (t_iis × (t_isiis × (Int × (Int × (t_i × (Bytes × (Int × (t_b × (t_i × (t_i × (Int × (t_iis × (t_isiis × (Int × (Int × (t_i × (Bytes × (t_u × (Int × (t_iiiiiiiLiiisEbs)))))))))))))))))))))))))) : Bytes := peerX p.2.1 p.2.2.2.1 p.2.2.2.2.1 p.2.2.2.2.2.1 p.2.2.2.2.2.2.2.2.2.2.2.2.1 p.2.2.2.2.2.2.2.2.2.2.2.2.2.2.2.2.1 p.2.2.2.2.2.2.2.2.2.2.2.2.2.2.2.2.2.2.2.2.2.2.2.2.2.length
def lineF (i : Nat) (p : Int × (Int × (Int × (Int × (Int × (t_iiis × (t_iis × (t_isiis × (Int × (Int × (t_i × (Bytes × (Int × (t_b × (t_i × (t_i × (Int × (t_iis × (t_isiis × (Int × (Int × (t_i × (Bytes × (t_u × (Int × (t_iiiiiiiLiiisEbs)))))))))))))))))))))))))) : Bytes := ((Lib.decDigits i ++ [32]) ++ peerP p) ++ [10]
def linesF (l : List (Int × (Int × (Int × (Int × (Int × (t_iiis × (t_iis × (t_isiis × (Int × (Int × (t_i × (Bytes × (Int × (t_b × (t_i × (t_i × (Int × (t_iis × (t_isiis × (Int × (Int × (t_i × (Bytes × (t_u × (Int × (t_iiiiiiiLiiisEbs))))))))))))))))))))))))))) (k : Nat) : Bytes := (List.range k).flatMap fun i => match l[i]? with | some p => lineF i p | none => []

theorem linesF_succ (l : List (Int × (Int × (Int × (Int × (Int × (t_iiis × (t_iis × (t_isiis × (Int × (Int × (t_i × (Bytes × (Int × (t_b × (t_i × (t_i × (Int × (t_iis × (t_isiis × (Int × (Int × (t_i × (Bytes × (t_u × (Int × (t_iiiiiiiLiiisEbs))))))))))))))))))))))))))) {k : Nat} (h : k < l.length) : linesF l (k + 1) = linesF l k ++ lineF k l[k] := by
  unfold linesF
  rw [List.range_succ, List.flatMap_append]
  simp [h]

theorem roleName_len (k : Int) : (roleName k).length ≤ 7 := by
  unfold roleName
  repeat' split
  all_goals decide

theorem decDigits_len {k : Nat} (h : k ≤ 9223372036854775807) : (Lib.decDigits k).length ≤ 21 := by
  have := Lib.itoa_length_le (k : Int) (by omega) (by omega)
  rwa [itoa_pos] at this

theorem peerP_len (p : Int × (Int × (Int × (Int × (Int × (t_iiis × (t_iis × (t_isiis × (Int × (Int × (t_i × (Bytes × (Int × (t_b × (t_i × (t_i × (Int × (t_iis × (t_isiis × (Int × (Int × (t_i × (Bytes × (t_u × (Int × (t_iiiiiiiLiiisEbs)))))))))))))))))))))))))) (h1 : inI p.2.1) (h3 : inI p.2.2.2.1) (h16 : inI p.2.2.2.2.2.2.2.2.2.2.2.2.2.2.2.2.1) (h25 : p.2.2.2.2.2.2.2.2.2.2.2.2.2.2.2.2.2.2.2.2.2.2.2.2.2.length ≤ maxLen) : (peerP p).length ≤ 120 := by
  have hall : ∀ x ∈ [p.2.1, (lastF p.2.2.2.1 p.2.2.2.2.1 p.2.2.2.2.2.1).1, p.2.2.2.2.2.2.2.2.2.2.2.2.2.2.2.2.1, p.2.2.2.1, (p.2.2.2.2.2.2.2.2.2.2.2.2.2.2.2.2.2.2.2.2.2.2.2.2.2.length : Int)], inI x := by
    intro x hx
    simp only [List.mem_cons, List.mem_nil_iff, or_false] at hx
    rcases hx with rfl | rfl | rfl | rfl | rfl
    · exact h1
    · exact lastF_in h3 _ _
    · exact h16
    · exact h3
    · exact len_inI h25
  have h := spF_len _ hall
  have hr := roleName_len p.2.2.2.2.2.2.2.2.2.2.2.2.1
  simp only [List.length_cons, List.length_nil] at h
  unfold peerP peerX peerT
  rw [List.length_append]
  omega

/-- What is asked of a node's data. -/
def pOk (p : Int × (Int × (Int × (Int × (Int × (t_iiis × (t_iis × (t_isiis × (Int × (Int × (t_i × (Bytes × (Int × (t_b × (t_i × (t_i × (Int × (t_iis × (t_isiis × (Int × (Int × (t_i × (Bytes × (t_u × (Int × (t_iiiiiiiLiiisEbs)))))))))))))))))))))))))) : Prop := inI p.2.1 ∧ inI p.2.2.2.1 ∧ okI c_iiis p.2.2.2.2.2.1 ∧ inI p.2.2.2.2.2.2.2.2.2.2.2.2.2.2.2.2.1 ∧ p.2.2.2.2.2.2.2.2.2.2.2.2.2.2.2.2.2.2.2.2.2.2.2.2.2.length ≤ maxLen

theorem line_len {i : Nat} (hi : i ≤ 1048576) {p : Int × (Int × (Int × (Int × (Int × (t_iiis × (t_iis × (t_isiis × (Int × (Int × (t_i × (Bytes × (Int × (t_b × (t_i × (t_i × (Int × (t_iis × (t_isiis × (Int × (Int × (t_i × (Bytes × (t_u × (Int × (t_iiiiiiiLiiisEbs)))))))))))))))))))))))))} (hp : pOk p) : (lineF i p).length ≤ 143 := by
  have h1 := decDigits_len (k := i) (by omega)
  have h2 := peerP_len p hp.1 hp.2.1 hp.2.2.2.1 hp.2.2.2.2
  unfold lineF
  simp only [List.length_append, List.length_cons, List.length_nil]
  omega

theorem lines_len {l : List (Int × (Int × (Int × (Int × (Int × (t_iiis × (t_iis × (t_isiis × (Int × (Int × (t_i × (Bytes × (Int × (t_b × (t_i × (t_i × (Int × (t_iis × (t_isiis × (Int × (Int × (t_i × (Bytes × (t_u × (Int × (t_iiiiiiiLiiisEbs))))))))))))))))))))))))))} (hl : l.length ≤ 1048576) (hp : ∀ p ∈ l, pOk p) : ∀ k, k ≤ l.length → (linesF l k).length ≤ 143 * k
  | 0, _ => by simp [linesF]
  | k + 1, h => by
    rw [linesF_succ l (by omega), List.length_append]
    have h1 := lines_len hl hp k (by omega)
    have h2 := line_len (i := k) (by omega) (hp _ (List.getElem_mem (show k < l.length by omega)))
    omega

def worldT (l : List (Int × (Int × (Int × (Int × (Int × (t_iiis × (t_iis × (t_isiis × (Int × (Int × (t_i × (Bytes × (Int × (t_b × (t_i × (t_i × (Int × (t_iis × (t_isiis × (Int × (Int × (t_i × (Bytes × (t_u × (Int × (t_iiiiiiiLiiisEbs))))))))))))))))))))))))))) (a b c : Nat) : Bytes := linesF l l.length ++ ([110, 101, 116, 32] ++ (Lib.decDigits a ++ ([32, 100, 111, 110, 101, 32] ++ (Lib.decDigits b ++ ([32, 115, 105, 110, 107, 32] ++ (Lib.decDigits c ++ [10]))))))

theorem ble_ok {n : Nat} (h : n ≤ 1000000000) : Nat.ble n mx = true := Nat.ble_eq_true_of_le (by unfold mx; omega)

theorem sp_sWorldText (x0 : t_s) (x1 : t_s) (x2 : t_iis) (x3 : t_iis) (x4 : Int) (x5 : t_iiiiiLiiisELiisELisiisEiiLiEsiLbELiELiEiLiisELisiisEiiLiEsLuEiLiiiiiiiLiiisEbsE) (x6 : t_iiiiiiiLiiisEbs) (x7 : Int) (x8 : Bytes) (x9 : t_i) (x10 : t_i) (x11 : t_iis) (h5 : x5.length ≤ 1048576) (hp : ∀ p ∈ x5, pOk p) (h6 : x6.length ≤ 1048576) (h8 : x8.length ≤ 1048576) (h11 : x11.length ≤ 1048576) :
    Evt fun n => F_sWorldText n x0 x1 x2 x3 x4 x5 x6 x7 x8 x9 x10 x11 = some (worldT x5 x6.length x11.length x8.length) := by
  have hloop := loop_up (len := x5.length) (L := fun n m i (out : Bytes) => L_sWorldText_0 n m x0 x1 x2 x3 x4 x5 x6 x7 x8 x9 x10 x11 i out) (fun i out => i ≤ x5.length ∧ out = linesF x5 i) (fun r => r = .inl (x0, (x1, (x2, (x3, (x4, (x5, (x6, (x7, (x8, (x9, (x10, (x11, linesF x5 x5.length))))))))))))) ?_ ?_
  · refine Evt.succ (((hloop.and (sp_sl2Digits (k := x6.length) (by omega))).and ((sp_sl2Digits (k := x11.length) (by omega)).and (sp_sl2Digits (k := x8.length) (by omega)))).mono fun n ⟨⟨h, e1⟩, e2, e3⟩ => ?_)
    obtain ⟨r, g1, g2⟩ := h [] ⟨Nat.zero_le _, by simp [linesF]⟩
    subst g2
    have g1 : L_sWorldText_0 n n x0 x1 x2 x3 x4 x5 x6 x7 x8 x9 x10 x11 (0 : Int) [] = some (.inl (x0, (x1, (x2, (x3, (x4, (x5, (x6, (x7, (x8, (x9, (x10, (x11, linesF x5 x5.length))))))))))))) := g1
    have b0 := lines_len h5 hp x5.length (Nat.le_refl _)
    have b1 := decDigits_len (k := x6.length) (by omega)
    have b2 := decDigits_len (k := x11.length) (by omega)
    have b3 := decDigits_len (k := x8.length) (by omega)
    rw [eq_sWorldText, g1]
    simp only [Option.bind_some, sumE, e1, e2, e3]
    simp only [List.length_append, List.length_cons, List.length_nil]
    rw [ble_ok (by omega), ble_ok (by omega), ble_ok (by omega), ble_ok (by omega), ble_ok (by omega), ble_ok (by omega), ble_ok (by omega)]
    simp only [cond_true, worldT, List.append_assoc]
  · refine ((Evt.all x5 fun p h => sp_sPeerText p.1 p.2.1 p.2.2.1 p.2.2.2.1 p.2.2.2.2.1 p.2.2.2.2.2.1 p.2.2.2.2.2.2.1 p.2.2.2.2.2.2.2.1 p.2.2.2.2.2.2.2.2.1 p.2.2.2.2.2.2.2.2.2.1 p.2.2.2.2.2.2.2.2.2.2.1 p.2.2.2.2.2.2.2.2.2.2.2.1 p.2.2.2.2.2.2.2.2.2.2.2.2.1 p.2.2.2.2.2.2.2.2.2.2.2.2.2.1 p.2.2.2.2.2.2.2.2.2.2.2.2.2.2.1 p.2.2.2.2.2.2.2.2.2.2.2.2.2.2.2.1 p.2.2.2.2.2.2.2.2.2.2.2.2.2.2.2.2.1 p.2.2.2.2.2.2.2.2.2.2.2.2.2.2.2.2.2.1 p.2.2.2.2.2.2.2.2.2.2.2.2.2.2.2.2.2.2.1 p.2.2.2.2.2.2.2.2.2.2.2.2.2.2.2.2.2.2.2.1 p.2.2.2.2.2.2.2.2.2.2.2.2.2.2.2.2.2.2.2.2.1 p.2.2.2.2.2.2.2.2.2.2.2.2.2.2.2.2.2.2.2.2.2.1 p.2.2.2.2.2.2.2.2.2.2.2.2.2.2.2.2.2.2.2.2.2.2.1 p.2.2.2.2.2.2.2.2.2.2.2.2.2.2.2.2.2.2.2.2.2.2.2.1 p.2.2.2.2.2.2.2.2.2.2.2.2.2.2.2.2.2.2.2.2.2.2.2.2.1 p.2.2.2.2.2.2.2.2.2.2.2.2.2.2.2.2.2.2.2.2.2.2.2.2.2 (hp p h).1 (hp p h).2.1 (hp p h).2.2.1 (hp p h).2.2.2.1 (hp p h).2.2.2.2).and (Evt.all (List.range x5.length) fun i hi => sp_sl2Digits (k := i) (by have := List.mem_range.1 hi; omega))).mono fun n ⟨h, hd⟩ m i out hi hinv => ?_
    obtain ⟨h0, rfl⟩ := hinv
    right
    have e1 := h _ (List.getElem_mem hi)
    have e2 := hd i (List.mem_range.2 hi)
    have b0 := lines_len h5 hp i h0
    have b1 := decDigits_len (k := i) (by omega)
    have hpi := hp _ (List.getElem_mem hi)
    have b2 := peerP_len x5[i] hpi.1 hpi.2.1 hpi.2.2.2.1 hpi.2.2.2.2
    unfold peerP at b2
    refine ⟨linesF x5 (i + 1), ?_, hi, rfl⟩
    rw [eqL_sWorldText_0, decide_eq_true (by omega), atZ_at hi]
    simp only [cond_true, Option.bind_some, e1, e2]
    simp only [List.length_append, List.length_cons, List.length_nil]
    rw [ble_ok (by omega), ble_ok (by omega), ble_ok (by omega), ble_ok (by omega), wrap_next hi (by omega), linesF_succ x5 hi]
    simp only [cond_true, lineF, peerP, List.append_assoc]
  · refine Evt.of fun n m out hinv => ⟨_, ?_, rfl⟩
    obtain ⟨-, rfl⟩ := hinv
    rw [eqL_sWorldText_0, decide_eq_false (by omega)]
    rfl

theorem sp1 (k : Nat) : spF [(k : Int)] = 32 :: Lib.decDigits k := by simp [spF, itoa_pos]

theorem sp_iWorldText (x0 : t_s) (x1 : t_s) (x2 : t_iis) (x3 : t_iis) (x4 : Int) (x5 : t_iiiiiLiiisELiisELisiisEiiLiEsiLbELiELiEiLiisELisiisEiiLiEsLuEiLiiiiiiiLiiisEbsE) (x6 : t_iiiiiiiLiiisEbs) (x7 : Int) (x8 : Bytes) (x9 : t_i) (x10 : t_i) (x11 : t_iis) (h5 : x5.length ≤ 1048576) (hp : ∀ p ∈ x5, pOk p) (h6 : x6.length ≤ 1048576) (h8 : x8.length ≤ 1048576) (h11 : x11.length ≤ 1048576) :
    Evt fun n => F_iWorldText n x0 x1 x2 x3 x4 x5 x6 x7 x8 x9 x10 x11 = some (worldT x5 x6.length x11.length x8.length) := by
  have hloop := loop_up (len := x5.length) (L := fun n m i (out : Bytes) => L_iWorldText_0 n m x0 x1 x2 x3 x4 x5 x6 x7 x8 x9 x10 x11 i out x5 (x5.length : Int)) (fun i out => i ≤ x5.length ∧ out = linesF x5 i) (fun r => r = .inl (x0, (x1, (x2, (x3, (x4, (x5, (x6, (x7, (x8, (x9, (x10, (x11, linesF x5 x5.length))))))))))))) ?_ ?_
  · have one : ∀ k : Nat, k ≤ 1048576 → Evt fun n => F_ispaced n [(k : Int)] = some (32 :: Lib.decDigits k) := fun k hk => by
      have := sp_ispaced (l := [(k : Int)]) (by simp) (fun x hx => by
        simp only [List.mem_cons, List.mem_nil_iff, or_false] at hx
        subst hx
        exact ⟨by omega, by omega⟩)
      rwa [sp1] at this
    refine Evt.succ (((hloop.and (one x6.length h6)).and ((one x11.length h11).and (one x8.length h8))).mono fun n ⟨⟨h, e1⟩, e2, e3⟩ => ?_)
    obtain ⟨r, g1, g2⟩ := h [] ⟨Nat.zero_le _, by simp [linesF]⟩
    subst g2
    have g1 : L_iWorldText_0 n n x0 x1 x2 x3 x4 x5 x6 x7 x8 x9 x10 x11 (0 : Int) [] x5 (x5.length : Int) = some (.inl (x0, (x1, (x2, (x3, (x4, (x5, (x6, (x7, (x8, (x9, (x10, (x11, linesF x5 x5.length))))))))))))) := g1
    have b0 := lines_len h5 hp x5.length (Nat.le_refl _)
    have b1 := decDigits_len (k := x6.length) (by omega)
    have b2 := decDigits_len (k := x11.length) (by omega)
    have b3 := decDigits_len (k := x8.length) (by omega)
    rw [eq_iWorldText, g1]
    simp only [Option.bind_some, sumE, e1, e2, e3]
    simp only [List.length_append, List.length_cons, List.length_nil]
    rw [ble_ok (by omega), ble_ok (by omega), ble_ok (by omega), ble_ok (by omega), ble_ok (by omega), ble_ok (by omega), ble_ok (by omega)]
    simp only [cond_true, worldT, List.append_assoc, List.cons_append, List.nil_append]
  · refine (((Evt.all x5 fun p h => sp_iPeerText p.1 p.2.1 p.2.2.1 p.2.2.2.1 p.2.2.2.2.1 p.2.2.2.2.2.1 p.2.2.2.2.2.2.1 p.2.2.2.2.2.2.2.1 p.2.2.2.2.2.2.2.2.1 p.2.2.2.2.2.2.2.2.2.1 p.2.2.2.2.2.2.2.2.2.2.1 p.2.2.2.2.2.2.2.2.2.2.2.1 p.2.2.2.2.2.2.2.2.2.2.2.2.1 p.2.2.2.2.2.2.2.2.2.2.2.2.2.1 p.2.2.2.2.2.2.2.2.2.2.2.2.2.2.1 p.2.2.2.2.2.2.2.2.2.2.2.2.2.2.2.1 p.2.2.2.2.2.2.2.2.2.2.2.2.2.2.2.2.1 p.2.2.2.2.2.2.2.2.2.2.2.2.2.2.2.2.2.1 p.2.2.2.2.2.2.2.2.2.2.2.2.2.2.2.2.2.2.1 p.2.2.2.2.2.2.2.2.2.2.2.2.2.2.2.2.2.2.2.1 p.2.2.2.2.2.2.2.2.2.2.2.2.2.2.2.2.2.2.2.2.1 p.2.2.2.2.2.2.2.2.2.2.2.2.2.2.2.2.2.2.2.2.2.1 p.2.2.2.2.2.2.2.2.2.2.2.2.2.2.2.2.2.2.2.2.2.2.1 p.2.2.2.2.2.2.2.2.2.2.2.2.2.2.2.2.2.2.2.2.2.2.2.1 p.2.2.2.2.2.2.2.2.2.2.2.2.2.2.2.2.2.2.2.2.2.2.2.2.1 p.2.2.2.2.2.2.2.2.2.2.2.2.2.2.2.2.2.2.2.2.2.2.2.2.2 (hp p h).1 (hp p h).2.1 (hp p h).2.2.1 (hp p h).2.2.2.1 (hp p h).2.2.2.2)).and (Evt.ge 1)).mono fun n ⟨h, hn⟩ m i out hi hinv => ?_
    obtain ⟨n, rfl⟩ : ∃ n', n = n' + 1 := ⟨n - 1, by omega⟩
    obtain ⟨h0, rfl⟩ := hinv
    right
    have e1 := h _ (List.getElem_mem hi)
    have b0 := lines_len h5 hp i h0
    have b1 := decDigits_len (k := i) (by omega)
    have hpi := hp _ (List.getElem_mem hi)
    have b2 := peerP_len x5[i] hpi.1 hpi.2.1 hpi.2.2.2.1 hpi.2.2.2.2
    unfold peerP at b2
    refine ⟨linesF x5 (i + 1), ?_, hi, rfl⟩
    rw [eqL_iWorldText_0, decide_eq_true (by omega), atZ_at hi]
    simp only [cond_true, Option.bind_some, e1, eq_Itoa, itoa_pos]
    simp only [List.length_append, List.length_cons, List.length_nil]
    rw [ble_ok (by omega), ble_ok (by omega), ble_ok (by omega), ble_ok (by omega), wrap_next hi (by omega), linesF_succ x5 hi]
    simp only [cond_true, lineF, peerP, List.append_assoc]
  · refine Evt.of fun n m out hinv => ⟨_, ?_, rfl⟩
    obtain ⟨-, rfl⟩ := hinv
    rw [eqL_iWorldText_0, decide_eq_false (by omega)]
    rfl

end Go.Proofs.YtmabfdnconccnaaGreatDoor
