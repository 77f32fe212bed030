/- What the texts of nodes come to. -/
import Derived.Test.YtmabfdnconccnaaGreatDoorTxtNum
import Derived.Test.YtmabfdnconccnaaGreatDoorEv3
namespace Go.Proofs.YtmabfdnconccnaaGreatDoor
open Go Go.Ev

theorem wrap_inI (n : Int) : inI (IntKind.wrap .i64 n) := by
  unfold inI; rw [IntKind.wrap_i64]; omega

def lastF (b t : Int) (l : t_iiis) : Int × Int := if l.length = 0 then (b, t) else (IntKind.wrap .i64 (b + (l.length : Int)), (l.getD (l.length - 1) (0, 0, 0, [])).1)

theorem lastF_in {b : Int} (hb : inI b) (t : Int) (l : t_iiis) : inI (lastF b t l).1 := by
  unfold lastF
  split
  · exact hb
  · exact wrap_inI _

theorem last_at (b t : Int) {l : t_iiis} (hl : l.length ≤ maxLen) : (cond ((l.length : Int) == (0 : Int)) (some ((b, t) : (Int × Int))) ((atZ l (IntKind.wrap .i64 ((l.length : Int) - (1 : Int)))).bind fun (y0 : (Int × (Int × (Int × Bytes)))) => some (((IntKind.wrap .i64 (b + (l.length : Int))), y0.1) : (Int × Int))) : Option (Int × Int)) = some (lastF b t l) := by
  unfold maxLen at hl
  by_cases h0 : l.length = 0
  · have e : ((l.length : Int) == (0 : Int)) = true := by simp [h0]
    rw [e, lastF, if_pos h0]
    rfl
  · have e : ((l.length : Int) == (0 : Int)) = false := by
      simp only [beq_eq_false_iff_ne]; omega
    have hw : IntKind.wrap .i64 ((l.length : Int) - (1 : Int)) = ((l.length - 1 : Nat) : Int) := by rw [IntKind.wrap_i64]; omega
    rw [e, hw, atZ_at (show l.length - 1 < l.length by omega), lastF, if_neg h0]
    simp only [cond_false, Option.bind_some]
    rw [List.getD_eq_getElem?_getD, List.getElem?_eq_getElem (show l.length - 1 < l.length by omega)]
    rfl

theorem sp_sLastOf (x0 x1 : Int) (x2 : t_iiis) (h : okI c_iiis x2) : Evt fun n => F_sLastOf n x0 x1 x2 = some (lastF x0 x1 x2) :=
  Evt.succ (Evt.of fun n => by rw [eq_sLastOf]; exact last_at x0 x1 h.1)
theorem sp_iLastOf (x0 x1 : Int) (x2 : t_iiis) (h : okI c_iiis x2) : Evt fun n => F_iLastOf n x0 x1 x2 = some (lastF x0 x1 x2) :=
  Evt.succ (Evt.of fun n => by rw [eq_iLastOf]; exact last_at x0 x1 h.1)

def roleName (k : Int) : Bytes := if k = 1 then [115, 116, 97, 110, 100, 115] else if k = 2 then [108, 101, 97, 100, 115] else [102, 111, 108, 108, 111, 119, 115]
def peerT (role a b c d e : Int) : Bytes := roleName role ++ spF [a, b, c, d, e]

theorem peer_fin (role a b c d e : Int) (ha : inI a) (hb : inI b) (hc : inI c) (hd : inI d) (he : inI e) {X : Option (Int × Int)} {Y : t_i → Option Bytes} {y0 : Int × Int} (hX : X = some y0) (hy : y0.1 = b) (hY : Y [a, b, c, d, e] = some (spF [a, b, c, d, e])) :
    (cond (role == (1 : Int)) (X.bind fun (y0 : (Int × Int)) => (Y ([a, y0.1, c, d, e] : t_i)).bind fun (y1 : Bytes) => cond (Nat.ble (6 + y1.length) mx) (some ((([115, 116, 97, 110, 100, 115] : Bytes) ++ y1) : Bytes)) (none)) (cond (role == (2 : Int)) (X.bind fun (y0 : (Int × Int)) => (Y ([a, y0.1, c, d, e] : t_i)).bind fun (y1 : Bytes) => cond (Nat.ble (5 + y1.length) mx) (some ((([108, 101, 97, 100, 115] : Bytes) ++ y1) : Bytes)) (none)) (X.bind fun (y0 : (Int × Int)) => (Y ([a, y0.1, c, d, e] : t_i)).bind fun (y1 : Bytes) => cond (Nat.ble (7 + y1.length) mx) (some ((([102, 111, 108, 108, 111, 119, 115] : Bytes) ++ y1) : Bytes)) (none))) : Option Bytes) = some (peerT role a b c d e) := by
  have hall : ∀ x ∈ [a, b, c, d, e], inI x := by
    intro x hx
    simp only [List.mem_cons, List.mem_nil_iff, or_false] at hx
    rcases hx with rfl | rfl | rfl | rfl | rfl <;> assumption
  have hlen := spF_len _ hall
  simp only [List.length_cons, List.length_nil] at hlen
  subst hX
  simp only [Option.bind_some, hy, hY]
  rw [Nat.ble_eq_true_of_le (by unfold mx; omega), Nat.ble_eq_true_of_le (by unfold mx; omega), Nat.ble_eq_true_of_le (by unfold mx; omega)]
  unfold peerT roleName
  by_cases h1 : role = 1
  · subst h1; rfl
  · have e1 : (role == (1 : Int)) = false := by simpa using h1
    rw [e1, if_neg h1]
    by_cases h2 : role = 2
    · subst h2; rfl
    · have e2 : (role == (2 : Int)) = false := by simpa using h2
      rw [e2, if_neg h2]
      rfl

def peerX (x1 x3 x4 : Int) (x5 : t_iiis) (x12 x16 : Int) (k : Nat) : Bytes := peerT x12 x1 (lastF x3 x4 x5).1 x16 x3 (k : Int)

theorem len_inI {k : Nat} (h : k ≤ maxLen) : inI (k : Int) := by unfold maxLen at h; exact ⟨by omega, by omega⟩

theorem sp_sPeerText (x0 : Int) (x1 : Int) (x2 : Int) (x3 : Int) (x4 : Int) (x5 : t_iiis) (x6 : t_iis) (x7 : t_isiis) (x8 : Int) (x9 : Int) (x10 : t_i) (x11 : Bytes) (x12 : Int) (x13 : t_b) (x14 : t_i) (x15 : t_i) (x16 : Int) (x17 : t_iis) (x18 : t_isiis) (x19 : Int) (x20 : Int) (x21 : t_i) (x22 : Bytes) (x23 : t_u) (x24 : Int) (x25 : t_iiiiiiiLiiisEbs) (h1 : inI x1) (h3 : inI x3) (h5 : okI c_iiis x5) (h16 : inI x16) (h25 : x25.length ≤ maxLen) : Evt fun n => F_sPeerText n x0 x1 x2 x3 x4 x5 x6 x7 x8 x9 x10 x11 x12 x13 x14 x15 x16 x17 x18 x19 x20 x21 x22 x23 x24 x25 = some (peerX x1 x3 x4 x5 x12 x16 x25.length) := by
  have hall : ∀ x ∈ [x1, (lastF x3 x4 x5).1, x16, x3, (x25.length : Int)], inI x := by
    intro x hx
    simp only [List.mem_cons, List.mem_nil_iff, or_false] at hx
    rcases hx with rfl | rfl | rfl | rfl | rfl
    · exact h1
    · exact lastF_in h3 _ _
    · exact h16
    · exact h3
    · exact len_inI h25
  refine Evt.succ (((sp_sLastOf x3 x4 x5 h5).and (sp_sl29Nums (l := [x1, (lastF x3 x4 x5).1, x16, x3, (x25.length : Int)]) (by simp) hall)).mono fun n ⟨e1, e2⟩ => ?_)
  rw [eq_sPeerText]
  exact peer_fin x12 x1 (lastF x3 x4 x5).1 x16 x3 x25.length h1 (lastF_in h3 _ _) h16 h3 (len_inI h25) e1 rfl e2

theorem sp_iPeerText (x0 : Int) (x1 : Int) (x2 : Int) (x3 : Int) (x4 : Int) (x5 : t_iiis) (x6 : t_iis) (x7 : t_isiis) (x8 : Int) (x9 : Int) (x10 : t_i) (x11 : Bytes) (x12 : Int) (x13 : t_b) (x14 : t_i) (x15 : t_i) (x16 : Int) (x17 : t_iis) (x18 : t_isiis) (x19 : Int) (x20 : Int) (x21 : t_i) (x22 : Bytes) (x23 : t_u) (x24 : Int) (x25 : t_iiiiiiiLiiisEbs) (h1 : inI x1) (h3 : inI x3) (h5 : okI c_iiis x5) (h16 : inI x16) (h25 : x25.length ≤ maxLen) : Evt fun n => F_iPeerText n x0 x1 x2 x3 x4 x5 x6 x7 x8 x9 x10 x11 x12 x13 x14 x15 x16 x17 x18 x19 x20 x21 x22 x23 x24 x25 = some (peerX x1 x3 x4 x5 x12 x16 x25.length) := by
  have hall : ∀ x ∈ [x1, (lastF x3 x4 x5).1, x16, x3, (x25.length : Int)], inI x := by
    intro x hx
    simp only [List.mem_cons, List.mem_nil_iff, or_false] at hx
    rcases hx with rfl | rfl | rfl | rfl | rfl
    · exact h1
    · exact lastF_in h3 _ _
    · exact h16
    · exact h3
    · exact len_inI h25
  refine Evt.succ (((sp_iLastOf x3 x4 x5 h5).and (sp_ispaced (l := [x1, (lastF x3 x4 x5).1, x16, x3, (x25.length : Int)]) (by simp) hall)).mono fun n ⟨e1, e2⟩ => ?_)
  rw [eq_iPeerText]
  exact peer_fin x12 x1 (lastF x3 x4 x5).1 x16 x3 x25.length h1 (lastF_in h3 _ _) h16 h3 (len_inI h25) e1 rfl e2

end Go.Proofs.YtmabfdnconccnaaGreatDoor
