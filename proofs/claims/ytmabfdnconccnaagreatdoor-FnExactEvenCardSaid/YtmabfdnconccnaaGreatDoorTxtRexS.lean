/- The reference's reader of patterns. -/
import Derived.Test.YtmabfdnconccnaaGreatDoorTxtRexI
namespace Go.Proofs.YtmabfdnconccnaaGreatDoor
open Go Go.Ev
def flatS (t : Nd) (S : Bytes) (a : Int) (bad : Bool) : Int × (Int × (Bytes × (Bool × (List Tr × (Bytes × (Int × Bool)))))) := (t.1, (t.2.1, (t.2.2.1, (t.2.2.2.1, (t.2.2.2.2, (S, (a, bad)))))))
def Doom (d : Nat) (st : Bytes × Bool) : Prop := st.2 = true ∨ st.1.length < d
def Sync (d : Nat) (S : Bytes) (r : Nd × (Bytes × Bool)) (t : Nd) (a : Int) (bad : Bool) : Prop :=
  (bad = false ∧ t = r.1 ∧ r.2.2 = false ∧ ∃ k : Nat, a = k ∧ k ≤ S.length ∧ S.drop k = r.2.1) ∨ (bad = true ∧ Doom d r.2)
theorem Doom.mono {d : Nat} {f md s b r} (h : iP f md s b = some r) (hs : s.length ≤ 60) (hp : MdPre md s b) (ho : MdOk md s) (hd : Doom d (s, b)) : Doom d r.2 := by
  obtain ⟨-, h2, h3⟩ := iP_ok _ _ _ _ _ h hs hp ho
  rcases hd with hd | hd
  · exact .inl (h3 hd)
  · refine .inr ?_
    have : r.2.1.length ≤ s.length := by
      cases md <;> simp only [MdLt] at h2 <;> omega
    show r.2.1.length < d
    have hd : s.length < d := hd
    omega
theorem sp_Now (S : Bytes) (k : Nat) (hk : k ≤ S.length) (c : UInt8) : Evt fun n => F_sl3Now n S (k : Int) false c = some (bo (nxt (S.drop k) false = some c), (S, ((k : Int), false))) := by
  refine Evt.succ (Evt.of fun n => ?_)
  rw [eq_sl3Now]
  simp only [Bool.not_false, cond_true]
  by_cases h : k < S.length
  · rw [lt_dec h, nthZ_at h]
    simp only [cond_true, Option.bind_some, bo_beq]
    rw [bo_congr' (show ((S[k].toNat : Int) = (c.toNat : Int)) ↔ nxt (S.drop k) false = some c by
      rw [List.drop_eq_getElem_cons h]
      show _ ↔ some S[k] = some c
      rw [Int.ofNat_inj, UInt8.toNat_inj]
      simp)]
  · rw [decide_eq_false (by omega)]
    obtain rfl : k = S.length := by omega
    rw [List.drop_eq_nil_of_le (Nat.le_refl _)]
    simp only [cond_false, Option.bind_some]
    rw [bo_f (by simp [nxt])]
theorem sp_NowBad (S : Bytes) (a : Int) (c : UInt8) : Evt fun n => F_sl3Now n S a true c = some (false, (S, (a, true))) := by
  refine Evt.succ (Evt.of fun n => ?_)
  rw [eq_sl3Now]
  rfl
def SetSync (S : Bytes) (r : Nd × (Bytes × Bool)) (set : Bytes) (nt : Bool) (o c a : Int) (bad : Bool) : Prop :=
  (bad = false ∧ r.1 = (o, (c, (set, (nt, [])))) ∧ r.2.2 = false ∧ ∃ k : Nat, a = k ∧ k ≤ S.length ∧ S.drop k = r.2.1) ∨ (bad = true ∧ r.2.2 = true)
theorem set2_S (n : Nat) (x0 : Bytes) (x1 : Int) (x2 : Bool) (x3 x4 : Int) (x5 : Bytes) (x6 : Bool) (x7 x8 : Int) (x9 : Bytes) (x10 : Bool) (lo hi : UInt8) (has : List Bool) (x13 : Bool) (x14 : UInt8) (x15 : Bytes) (x16 x17 : Int) (hn : 300 ≤ n) (hl : has.length = 256) :
    L_sl3Set_2 n n x0 x1 x2 x3 x4 x5 x6 x7 x8 x9 x10 (lo.toNat : Int) has x13 x14 x15 x16 x17 (hi.toNat : Int) = some (.inl (x0, (x1, (x2, (x3, (x4, (x5, (x6, (x7, (x8, (x9, (x10, (markL has lo.toNat (hi.toNat + 1 - lo.toNat), (x13, (x14, (x15, (x16, x17))))))))))))))))) := by
  have h1 := lo.toNat_lt
  have h2 := hi.toNat_lt
  refine mark_loop (hi := hi.toNat) (L := fun m j h => L_sl3Set_2 n m x0 x1 x2 x3 x4 x5 x6 x7 x8 x9 x10 j h x13 x14 x15 x16 x17 (hi.toNat : Int)) (out := fun h => (x0, (x1, (x2, (x3, (x4, (x5, (x6, (x7, (x8, (x9, (x10, (h, (x13, (x14, (x15, (x16, x17))))))))))))))))) (by omega) (fun m j h hj hh => ?_) (fun m j h hj => ?_) _ n lo.toNat has rfl (by omega) hl
  · rw [eqL_sl3Set_2, decide_eq_true (by omega), decide_eq_true (by omega), atN_at (by omega), u8_id]
    rfl
  · rw [eqL_sl3Set_2, decide_eq_false (by omega), u8_id]
    rfl
theorem tw_one (c : UInt8) (t : Bytes) (has : List Bool) (b : Bool) (h : ∀ d hi r, t = d :: hi :: r → ¬ (d.toNat = 45 ∧ hi.toNat ≠ 93)) : setB (c :: t.takeWhile ne93) has b = setB (t.takeWhile ne93) (markL has c.toNat 1) b := by
  match t, h with
  | [], _ => exact setB_short _ _ _ _ (by simp)
  | [d], _ => exact setB_short _ _ _ _ (by have := tw_le ne93 [d]; simp only [List.length_cons, List.length_nil] at this; omega)
  | d :: hi :: r, h =>
    have h := h d hi r rfl
    rw [List.takeWhile_cons]
    by_cases h1 : ne93 d = true
    · rw [if_pos h1, List.takeWhile_cons]
      by_cases h2 : ne93 hi = true
      · rw [if_pos h2, setB_one _ _ _ _ _ _ h]
      · rw [if_neg h2]; rfl
    · rw [if_neg h1]; rfl
theorem set0_S (n : Nat) (hn : 300 ≤ n) (S : Bytes) (hS : S.length ≤ 60) (nt : Bool) : ∀ q m (k : Nat) has bad (mn : Nat), S.length - k ≤ q → q < m → has.length = 256 → k ≤ S.length → mn + (S.length - k) ≤ 200 →
    ∃ mn' : Nat, mn ≤ mn' ∧ mn' ≤ 200 ∧ ((S.drop k).takeWhile ne93 = [] → mn' = mn) ∧ ((S.drop k).takeWhile ne93 ≠ [] → mn < mn') ∧
    L_sl3Set_0 n m S (k : Int) bad 0 0 [] false 3 0 [] nt has (mn : Int) = some (.inl (S, (((k + ((S.drop k).takeWhile ne93).length : Nat) : Int), ((setB ((S.drop k).takeWhile ne93) has bad).2, (0, (0, ([], (false, (3, (0, ([], (nt, ((setB ((S.drop k).takeWhile ne93) has bad).1, (mn' : Int)))))))))))))) := by
  intro q
  induction q with
  | zero =>
    intro m k has bad mn hk hm hl hkl hmn
    obtain ⟨m, rfl⟩ : ∃ m', m = m' + 1 := ⟨m - 1, by omega⟩
    obtain rfl : k = S.length := by omega
    refine ⟨mn, Nat.le_refl _, by omega, fun _ => rfl, fun h => absurd (by rw [List.drop_eq_nil_of_le (Nat.le_refl _)]; rfl) h, ?_⟩
    rw [eqL_sl3Set_0, lt_nd, List.drop_eq_nil_of_le (Nat.le_refl _)]
    rfl
  | succ q ih =>
    intro m k has bad mn hk hm hl hkl hmn
    obtain ⟨m, rfl⟩ : ∃ m', m = m' + 1 := ⟨m - 1, by omega⟩
    by_cases hlt : k < S.length
    · have w1 : IntKind.wrap .i64 ((k : Int) + 1) = ((k + 1 : Nat) : Int) := by rw [IntKind.wrap_i64]; omega
      have w2 : IntKind.wrap .i64 (((k + 1 : Nat) : Int) + 1) = ((k + 2 : Nat) : Int) := by rw [IntKind.wrap_i64]; omega
      have w3 : IntKind.wrap .i64 (((k + 1 : Nat) : Int) + 2) = ((k + 3 : Nat) : Int) := by rw [IntKind.wrap_i64]; omega
      have wm : IntKind.wrap .i64 ((mn : Int) + 1) = ((mn + 1 : Nat) : Int) := by rw [IntKind.wrap_i64]; omega
      have e0 : S.drop k = S[k] :: S.drop (k + 1) := List.drop_eq_getElem_cons hlt
      rw [eqL_sl3Set_0, lt_dec hlt, nthZ_at hlt]
      simp only [cond_true, Option.bind_some, w1, w2, w3, w_u8, bo_bne]
      by_cases h93 : S[k].toNat = 93
      · have htw : (S.drop k).takeWhile ne93 = [] := by rw [e0, List.takeWhile_cons, if_neg (by simp [ne93, h93])]
        refine ⟨mn, Nat.le_refl _, by omega, fun _ => rfl, fun h => absurd htw h, ?_⟩
        rw [bo_f (P := ¬ (S[k].toNat : Int) = 93) (by omega), htw]
        rfl
      · have hne : ne93 S[k] = true := by simp [ne93, h93]
        have htw : (S.drop k).takeWhile ne93 = S[k] :: (S.drop (k + 1)).takeWhile ne93 := by rw [e0, List.takeWhile_cons, if_pos hne]
        have hnd : decide ((S[k].toNat : Int) < (S[k].toNat : Int)) = false := decide_eq_false (by omega)
        rw [bo_t (P := ¬ (S[k].toNat : Int) = 93) (by omega)]
        simp only [cond_true, hnd, cond_false]
        have one : ∀ x1 x13 x14, L_sl3Set_2 n n S x1 bad 0 0 [] false 3 0 [] nt (S[k].toNat : Int) has x13 x14 S (k : Int) (mn : Int) (S[k].toNat : Int) = some (.inl (S, (x1, (bad, (0, (0, ([], (false, (3, (0, ([], (nt, (markL has S[k].toNat 1, (x13, (x14, (S, ((k : Int), (mn : Int))))))))))))))))))  := fun x1 x13 x14 => by
          have := set2_S n S x1 bad 0 0 [] false 3 0 [] nt S[k] S[k] has x13 x14 S (k : Int) (mn : Int) hn hl
          rwa [show S[k].toNat + 1 - S[k].toNat = 1 by omega] at this
        have go1 : (∀ d hi r, S.drop (k + 1) = d :: hi :: r → ¬ (d.toNat = 45 ∧ hi.toNat ≠ 93)) → ∃ mn' : Nat, mn ≤ mn' ∧ mn' ≤ 200 ∧ ((S.drop k).takeWhile ne93 = [] → mn' = mn) ∧ ((S.drop k).takeWhile ne93 ≠ [] → mn < mn') ∧
            L_sl3Set_0 n m S ((k + 1 : Nat) : Int) bad 0 0 [] false 3 0 [] nt (markL has S[k].toNat 1) ((mn + 1 : Nat) : Int) = some (.inl (S, (((k + ((S.drop k).takeWhile ne93).length : Nat) : Int), ((setB ((S.drop k).takeWhile ne93) has bad).2, (0, (0, ([], (false, (3, (0, ([], (nt, ((setB ((S.drop k).takeWhile ne93) has bad).1, (mn' : Int)))))))))))))) := fun hcond => by
          obtain ⟨mn', g1, g2, g3, g4, g5⟩ := ih m (k + 1) (markL has S[k].toNat 1) bad (mn + 1) (by omega) (by omega) (by rw [markL_len]; exact hl) (by omega) (by omega)
          refine ⟨mn', by omega, g2, fun h => absurd h (by rw [htw]; simp), fun _ => by omega, ?_⟩
          rw [g5, htw, tw_one _ _ _ _ hcond, List.length_cons, show k + (((S.drop (k + 1)).takeWhile ne93).length + 1) = k + 1 + ((S.drop (k + 1)).takeWhile ne93).length by omega]
        by_cases h2 : k + 2 < S.length
        · have e1 : S.drop (k + 1) = S[k + 1] :: S.drop (k + 2) := List.drop_eq_getElem_cons (by omega)
          have e2 : S.drop (k + 2) = S[k + 2] :: S.drop (k + 3) := List.drop_eq_getElem_cons h2
          rw [lt_dec h2, nthZ_at (show k + 1 < S.length by omega), nthZ_at h2]
          simp only [cond_true, Option.bind_some, bo_beq, one, sumE_l, wm]
          by_cases hd : S[k + 1].toNat = 45
          · rw [bo_t (P := (S[k + 1].toNat : Int) = 45) (by omega)]
            simp only [cond_true]
            by_cases hh : S[k + 2].toNat = 93
            · rw [bo_f (P := ¬ (S[k + 2].toNat : Int) = 93) (by omega)]
              simp only [cond_false]
              refine go1 fun d hi r e => ?_
              rw [e1, e2] at e
              cases e
              exact fun h => h.2 hh
            · rw [bo_t (P := ¬ (S[k + 2].toNat : Int) = 93) (by omega)]
              simp only [cond_true]
              have ht1 : ne93 S[k + 1] = true := by simp [ne93, hd]
              have ht2 : ne93 S[k + 2] = true := by simp [ne93, hh]
              have htw2 : (S.drop k).takeWhile ne93 = S[k] :: S[k + 1] :: S[k + 2] :: (S.drop (k + 3)).takeWhile ne93 := by
                rw [htw, e1, List.takeWhile_cons, if_pos ht1, e2, List.takeWhile_cons, if_pos ht2]
              have hfin : ∀ bd, bd = (bad || decide (S[k + 2].toNat < S[k].toNat)) → ∃ mn' : Nat, mn ≤ mn' ∧ mn' ≤ 200 ∧ ((S.drop k).takeWhile ne93 = [] → mn' = mn) ∧ ((S.drop k).takeWhile ne93 ≠ [] → mn < mn') ∧
                  L_sl3Set_0 n m S ((k + 3 : Nat) : Int) bd 0 0 [] false 3 0 [] nt (markL has S[k].toNat (S[k + 2].toNat + 1 - S[k].toNat)) ((mn + 1 : Nat) : Int) = some (.inl (S, (((k + ((S.drop k).takeWhile ne93).length : Nat) : Int), ((setB ((S.drop k).takeWhile ne93) has bad).2, (0, (0, ([], (false, (3, (0, ([], (nt, ((setB ((S.drop k).takeWhile ne93) has bad).1, (mn' : Int)))))))))))))) := fun bd hbd => by
                obtain ⟨mn', g1, g2, g3, g4, g5⟩ := ih m (k + 3) (markL has S[k].toNat (S[k + 2].toNat + 1 - S[k].toNat)) bd (mn + 1) (by omega) (by omega) (by rw [markL_len]; exact hl) (by omega) (by omega)
                refine ⟨mn', by omega, g2, fun h => absurd h (by rw [htw]; simp), fun _ => by omega, ?_⟩
                rw [g5, htw2, setB_two _ _ _ _ _ _ ⟨hd, hh⟩, hbd]
                simp only [List.length_cons]
                rw [show k + (((S.drop (k + 3)).takeWhile ne93).length + 1 + 1 + 1) = k + 3 + ((S.drop (k + 3)).takeWhile ne93).length by omega]
              by_cases hlt2 : S[k + 2].toNat < S[k].toNat
              · rw [decide_eq_true (show (S[k + 2].toNat : Int) < (S[k].toNat : Int) by omega), set2_S n S _ true 0 0 [] false 3 0 [] nt S[k] S[k + 2] has _ _ S (k : Int) (mn : Int) hn hl]
                simp only [cond_true, Option.bind_some, sumE_l, wm]
                exact hfin true (by rw [decide_eq_true hlt2]; simp)
              · rw [decide_eq_false (show ¬ (S[k + 2].toNat : Int) < (S[k].toNat : Int) by omega), set2_S n S _ bad 0 0 [] false 3 0 [] nt S[k] S[k + 2] has _ _ S (k : Int) (mn : Int) hn hl]
                simp only [cond_false, Option.bind_some, sumE_l, wm]
                exact hfin bad (by rw [decide_eq_false hlt2]; simp)
          · rw [bo_f (P := (S[k + 1].toNat : Int) = 45) (by omega)]
            simp only [cond_false]
            refine go1 fun d hi r e => ?_
            rw [e1, e2] at e
            cases e
            exact fun h => hd h.1
        · rw [decide_eq_false (by omega)]
          simp only [cond_false, Option.bind_some, one, sumE_l, wm]
          refine go1 fun d hi r e => ?_
          have : (S.drop (k + 1)).length = (d :: hi :: r).length := by rw [e]
          simp at this
          omega
    · obtain rfl : k = S.length := by omega
      refine ⟨mn, Nat.le_refl _, by omega, fun _ => rfl, fun h => absurd (by rw [List.drop_eq_nil_of_le (Nat.le_refl _)]; rfl) h, ?_⟩
      rw [eqL_sl3Set_0, lt_nd, List.drop_eq_nil_of_le (Nat.le_refl _)]
      rfl
theorem setS_core (S : Bytes) (k : Nat) (hk : k ≤ S.length) (hS : S.length ≤ 60) (nt : Bool) : ∃ (set : Bytes) (a : Int) (bad : Bool),
    ((((S.drop k).takeWhile ne93).length = (S.drop k).length ∨ (S.drop k).takeWhile ne93 = []) ∧ bad = true ∨
      ¬ (((S.drop k).takeWhile ne93).length = (S.drop k).length ∨ (S.drop k).takeWhile ne93 = []) ∧ set = bytesOf (setB ((S.drop k).takeWhile ne93) has0 false).1 256 ∧ bad = (setB ((S.drop k).takeWhile ne93) has0 false).2 ∧ a = ((k + ((S.drop k).takeWhile ne93).length + 1 : Nat) : Int)) ∧
    Evt fun n => ((L_sl3Set_0 n n S (k : Int) false 0 0 [] false 3 0 [] nt (List.replicate (Int.toNat (256 : Int)) false) 0).bind fun y1 => sumE y1 (fun z2 => (cond (decide ((z2.1.length : Int) ≤ z2.2.1)) (some true) (some (z2.2.2.2.2.2.2.2.2.2.2.2.2 == (0 : Int))) : Option Bool).bind fun y22 => cond y22 ((L_sl3Set_4 n n z2.1 (IntKind.wrap .i64 (z2.2.1 + 1)) true z2.2.2.2.1 z2.2.2.2.2.1 z2.2.2.2.2.2.1 z2.2.2.2.2.2.2.1 z2.2.2.2.2.2.2.2.1 z2.2.2.2.2.2.2.2.2.1 z2.2.2.2.2.2.2.2.2.2.1 z2.2.2.2.2.2.2.2.2.2.2.1 0 [] z2.2.2.2.2.2.2.2.2.2.2.2.1).bind fun y23 => sumE y23 (fun z24 => some (z24.2.2.2.2.2.2.2.1, (z24.2.2.2.2.2.2.2.2.1, (z24.2.2.2.2.2.2.2.2.2.2.2, (z24.2.2.2.2.2.2.2.2.2.2.1, (z24.1, (z24.2.1, z24.2.2.1))))))) (fun w24 => some w24))
      ((L_sl3Set_4 n n z2.1 (IntKind.wrap .i64 (z2.2.1 + 1)) z2.2.2.1 z2.2.2.2.1 z2.2.2.2.2.1 z2.2.2.2.2.2.1 z2.2.2.2.2.2.2.1 z2.2.2.2.2.2.2.2.1 z2.2.2.2.2.2.2.2.2.1 z2.2.2.2.2.2.2.2.2.2.1 z2.2.2.2.2.2.2.2.2.2.2.1 0 [] z2.2.2.2.2.2.2.2.2.2.2.2.1).bind fun y23 => sumE y23 (fun z24 => some (z24.2.2.2.2.2.2.2.1, (z24.2.2.2.2.2.2.2.2.1, (z24.2.2.2.2.2.2.2.2.2.2.2, (z24.2.2.2.2.2.2.2.2.2.2.1, (z24.1, (z24.2.1, z24.2.2.1))))))) (fun w24 => some w24))) (fun w2 => some w2)) = some (3, (0, (set, (nt, (S, (a, bad)))))) := by
  have hfin := setB_len ((S.drop k).takeWhile ne93) has0 false
  have hfin : (setB ((S.drop k).takeWhile ne93) has0 false).1.length = 256 := by rw [hfin, has0_len]
  have htl := tw_le ne93 (S.drop k)
  have hdl : (S.drop k).length = S.length - k := by simp
  have kb : ∀ (a : Int) (bad : Bool), Evt fun n => L_sl3Set_4 n n S a bad 0 0 [] false 3 0 [] nt 0 [] (setB ((S.drop k).takeWhile ne93) has0 false).1 = some (.inl (S, (a, (bad, (0, (0, ([], (false, (3, (0, ([], (nt, bytesOf (setB ((S.drop k).takeWhile ne93) has0 false).1 256))))))))))))  := fun a bad =>
    bytes_loop hfin (L := fun n m i o => L_sl3Set_4 n m S a bad 0 0 [] false 3 0 [] nt i o (setB ((S.drop k).takeWhile ne93) has0 false).1) (out := fun o => (S, (a, (bad, (0, (0, ([], (false, (3, (0, ([], (nt, o))))))))))))
      (fun n m i o hi ho => by
        rw [eqL_sl3Set_4, decide_eq_true (by omega), decide_eq_true (by omega), atN_at (by omega), u8_of i hi]
        simp only [cond_true, Option.bind_some]
        rw [ble_big (by omega), getD_at (show i < (setB ((S.drop k).takeWhile ne93) has0 false).1.length by omega)]
        cases (setB ((S.drop k).takeWhile ne93) has0 false).1[i] <;> simp) (fun n m o => by rw [eqL_sl3Set_4]; rfl)
  have w1 : IntKind.wrap .i64 (((k + ((S.drop k).takeWhile ne93).length : Nat) : Int) + 1) = ((k + ((S.drop k).takeWhile ne93).length + 1 : Nat) : Int) := by rw [IntKind.wrap_i64]; omega
  by_cases h : ((S.drop k).takeWhile ne93).length = (S.drop k).length ∨ (S.drop k).takeWhile ne93 = []
  · refine ⟨bytesOf (setB ((S.drop k).takeWhile ne93) has0 false).1 256, ((k + ((S.drop k).takeWhile ne93).length + 1 : Nat) : Int), true, .inl ⟨h, rfl⟩, ((kb ((k + ((S.drop k).takeWhile ne93).length + 1 : Nat) : Int) true).and (Evt.ge 400)).mono fun n ⟨e4, hn⟩ => ?_⟩
    obtain ⟨mn', g1, g2, g3, g4, g5⟩ := set0_S n (by omega) S hS nt S.length n k has0 false 0 (by omega) (by omega) has0_len hk (by omega)
    rw [show L_sl3Set_0 n n S (k : Int) false 0 0 [] false 3 0 [] nt (List.replicate (Int.toNat 256) false) 0 = _ from g5]
    simp only [Option.bind_some, sumE_l, w1]
    have hc : (cond (decide ((S.length : Int) ≤ ((k + ((S.drop k).takeWhile ne93).length : Nat) : Int))) (some true) (some ((mn' : Int) == (0 : Int))) : Option Bool) = some true := by
      rcases h with h | h
      · rw [decide_eq_true (by omega)]; rfl
      · rw [g3 h]
        cases decide ((S.length : Int) ≤ ((k + ((S.drop k).takeWhile ne93).length : Nat) : Int)) <;> rfl
    rw [hc]
    simp only [Option.bind_some, cond_true]
    rw [e4]
    rfl
  · refine ⟨bytesOf (setB ((S.drop k).takeWhile ne93) has0 false).1 256, ((k + ((S.drop k).takeWhile ne93).length + 1 : Nat) : Int), (setB ((S.drop k).takeWhile ne93) has0 false).2, .inr ⟨h, rfl, rfl, rfl⟩, ((kb ((k + ((S.drop k).takeWhile ne93).length + 1 : Nat) : Int) (setB ((S.drop k).takeWhile ne93) has0 false).2).and (Evt.ge 400)).mono fun n ⟨e4, hn⟩ => ?_⟩
    obtain ⟨mn', g1, g2, g3, g4, g5⟩ := set0_S n (by omega) S hS nt S.length n k has0 false 0 (by omega) (by omega) has0_len hk (by omega)
    rw [show L_sl3Set_0 n n S (k : Int) false 0 0 [] false 3 0 [] nt (List.replicate (Int.toNat 256) false) 0 = _ from g5]
    simp only [Option.bind_some, sumE_l, w1]
    have hne : ¬ ((S.drop k).takeWhile ne93).length = (S.drop k).length := fun q => h (.inl q)
    have hpos := g4 (fun q => h (.inr q))
    have hc : (cond (decide ((S.length : Int) ≤ ((k + ((S.drop k).takeWhile ne93).length : Nat) : Int))) (some true) (some ((mn' : Int) == (0 : Int))) : Option Bool) = some false := by
      rw [decide_eq_false (by omega), bo_beq, bo_f (by omega)]; rfl
    rw [hc]
    simp only [Option.bind_some, cond_false]
    rw [e4]
    rfl
theorem setS_exact (S : Bytes) (k : Nat) (hk : k ≤ S.length) (hS : S.length ≤ 60) : ∃ set nt o c a bad, SetSync S (setR (S.drop k)) set nt o c a bad ∧ Evt fun n => F_sl3Set n S (k : Int) false = some (o, (c, (set, (nt, (S, (a, bad)))))) := by
  have fin : ∀ (j : Nat) (nt : Bool), j ≤ S.length → notB (S.drop k) = (S.drop j, nt) → ∀ set a bad, ((((S.drop j).takeWhile ne93).length = (S.drop j).length ∨ (S.drop j).takeWhile ne93 = []) ∧ bad = true ∨
      ¬ (((S.drop j).takeWhile ne93).length = (S.drop j).length ∨ (S.drop j).takeWhile ne93 = []) ∧ set = bytesOf (setB ((S.drop j).takeWhile ne93) has0 false).1 256 ∧ bad = (setB ((S.drop j).takeWhile ne93) has0 false).2 ∧ a = ((j + ((S.drop j).takeWhile ne93).length + 1 : Nat) : Int)) → SetSync S (setR (S.drop k)) set nt 3 0 a bad := by
    intro j nt hj hnt set a bad h
    have htl := tw_le ne93 (S.drop j)
    have hdl : (S.drop j).length = S.length - j := by simp
    unfold setR SetSync
    rw [hnt]
    simp only
    rcases h with ⟨h, rfl⟩ | ⟨h, e1, e2, e3⟩
    · rw [if_pos h]
      exact .inr ⟨rfl, rfl⟩
    · rw [if_neg h, e1, e2, e3]
      simp only
      cases hb : (setB ((S.drop j).takeWhile ne93) has0 false).2
      · refine .inl ⟨rfl, by simp only, rfl, _, rfl, ?_, ?_⟩
        · have hne : ¬ ((S.drop j).takeWhile ne93).length = (S.drop j).length := fun q => h (.inl q)
          omega
        · rw [List.drop_drop]
          rfl
      · exact .inr ⟨rfl, rfl⟩
  by_cases h : nxt (S.drop k) false = some 94
  · obtain ⟨-, e⟩ := nxt_some h
    have hkl : k < S.length := by
      by_cases h' : k < S.length
      · exact h'
      · rw [List.drop_eq_nil_of_le (by omega)] at h; cases h
    have hnt : notB (S.drop k) = (S.drop (k + 1), true) := by
      have ht : (S.drop k).tail = S.drop (k + 1) := List.tail_drop
      rw [e, ht]
      rfl
    obtain ⟨set, a, bad, h1, h2⟩ := setS_core S (k + 1) (by omega) hS true
    refine ⟨set, true, 3, 0, a, bad, fin (k + 1) true (by omega) hnt set a bad h1, (h2.and (sp_Now S k hk 94)).nm fun n ⟨e1, e2⟩ => ?_⟩
    rw [eq_sl3Set, show F_sl3Now n S (k : Int) false (UInt8.ofNat (Int.toNat 94)) = _ from e2, bo_t h]
    simp only [Option.bind_some, cond_true]
    rw [decide_eq_true (by unfold big; omega), show IntKind.wrap .i64 ((k : Int) + 1) = ((k + 1 : Nat) : Int) by rw [IntKind.wrap_i64]; omega]
    exact e1
  · have hnt : notB (S.drop k) = (S.drop k, false) := by
      cases e : S.drop k with
      | nil => rfl
      | cons c r =>
        rw [e] at h
        show (if c.toNat = 94 then (r, true) else (c :: r, false)) = _
        have hc : c.toNat ≠ 94 := fun q => h (congrArg some (UInt8.toNat_inj.1 q))
        rw [if_neg hc]
    obtain ⟨set, a, bad, h1, h2⟩ := setS_core S k hk hS false
    refine ⟨set, false, 3, 0, a, bad, fin k false hk hnt set a bad h1, (h2.and (sp_Now S k hk 94)).nm fun n ⟨e1, e2⟩ => ?_⟩
    rw [eq_sl3Set, show F_sl3Now n S (k : Int) false (UInt8.ofNat (Int.toNat 94)) = _ from e2, bo_f h]
    simp only [Option.bind_some, cond_false]
    rw [decide_eq_true (by unfold big; omega)]
    exact e1
def SpecAt (md : Md) (d : Nat) (S : Bytes) (k : Nat) (r : Nd × (Bytes × Bool)) : Prop :=
  match md with
  | .pat => ∃ t a bad, Sync d S r t a bad ∧ Evt fun n => F_sl3Pattern n S k false d = some (flatS t S a bad)
  | .part => ∃ t a bad, Sync d S r t a bad ∧ Evt fun n => F_sl3Part n S k false d = some (flatS t S a bad)
  | .piece => ∃ t a bad, Sync d S r t a bad ∧ Evt fun n => F_sl3Piece n S k false d = some (flatS t S a bad)
  | .atom => ∃ t a bad, Sync d S r t a bad ∧ Evt fun n => F_sl3Atom n S k false d = some (flatS t S a bad)
  | .patL ks => ∃ ks' a bad, Sync d S r (rxOr ks') a bad ∧ Ev2 fun n m => L_sl3Pattern_0 n m S k false 0 0 [] false d ks = some (.inl (S, (a, (bad, (0, (0, ([], (false, ks'))))))))
  | .partL ks => ∃ ks' a bad, Sync d S r (rxPart ks') a bad ∧ Ev2 fun n m => L_sl3Part_0 n m S k false 0 0 [] false d ks = some (.inl (S, (a, (bad, (0, (0, ([], (false, ks'))))))))
  | .pieceL t => ∃ t' a bad, Sync d S r t' a bad ∧ Ev2 fun n m => L_sl3Piece_0 n m S k false 0 0 [] false t.1 t.2.1 t.2.2.1 t.2.2.2.1 t.2.2.2.2 = some (.inl (S, (a, (bad, (0, (0, ([], (false, (t'.1, (t'.2.1, (t'.2.2.1, (t'.2.2.2.1, t'.2.2.2.2))))))))))))
theorem or_flatS (ks : List Tr) (S : Bytes) (a : Int) (bad : Bool) : (cond ((ks.length : Int) == (1 : Int)) (cond (decide ((0 : Int) ≤ (0 : Int) ∧ (0 : Int) < (ks.length : Int))) ((TN_Tiisb ks 0).bind fun y2 => some (y2.1, (y2.2.1, (y2.2.2.1, (y2.2.2.2.1, (y2.2.2.2.2, (S, (a, bad)))))))) none) (some ((7 : Int), ((0 : Int), (([] : Bytes), (false, (ks, (S, (a, bad))))))))) = some (flatS (rxOr ks) S a bad) := by
  match ks with
  | [] => rfl
  | [k] => rw [TN_at]; rfl
  | a :: b :: r =>
    rw [bo_beq, bo_f (by simp only [List.length_cons]; omega)]
    rfl
theorem part_flatS (ks : List Tr) (S : Bytes) (a : Int) (bad : Bool) : (cond ((ks.length : Int) == (0 : Int)) (some ((11 : Int), ((0 : Int), (([] : Bytes), (false, (([] : List Tr), (S, (a, bad)))))))) (cond ((ks.length : Int) == (1 : Int)) (cond (decide ((0 : Int) ≤ (0 : Int) ∧ (0 : Int) < (ks.length : Int))) ((TN_Tiisb ks 0).bind fun y2 => some (y2.1, (y2.2.1, (y2.2.2.1, (y2.2.2.2.1, (y2.2.2.2.2, (S, (a, bad)))))))) none) (some ((6 : Int), ((0 : Int), (([] : Bytes), (false, (ks, (S, (a, bad)))))))))) = some (flatS (rxPart ks) S a bad) := by
  match ks with
  | [] => rfl
  | [k] => rw [TN_at]; rfl
  | a :: b :: r =>
    rw [bo_beq, bo_beq, bo_f (P := _ = (0 : Int)) (by simp only [List.length_cons]; omega), bo_f (P := _ = (1 : Int)) (by simp only [List.length_cons]; omega)]
    rfl
theorem wk {k : Nat} (h : k ≤ 1000) : IntKind.wrap .i64 ((k : Int) + (1 : Int)) = ((k + 1 : Nat) : Int) := by rw [IntKind.wrap_i64]; omega
theorem drop_tail {S s : Bytes} {k : Nat} (h : S.drop k = s) : S.drop (k + 1) = s.tail := by rw [← h, List.tail_drop]
theorem drop_lt {S : Bytes} {k : Nat} {c : UInt8} {t : Bytes} (h : S.drop k = c :: t) : ∃ hk : k < S.length, S[k] = c := by
  have hk : k < S.length := by
    by_cases h' : k < S.length
    · exact h'
    · rw [List.drop_eq_nil_of_le (by omega)] at h; cases h
  refine ⟨hk, ?_⟩
  rw [List.drop_eq_getElem_cons hk] at h
  exact (List.cons.inj h).1
theorem nxt_char {s : Bytes} {c d : UInt8} (h : nxt s false = some c) : nxt s false = some d ↔ c.toNat = d.toNat := by
  rw [h]
  constructor
  · intro k; cases k; rfl
  · intro k; exact congrArg some (UInt8.toNat_inj.1 k)
theorem spec_all : ∀ f md s r, iP f md s false = some r → ∀ d (S : Bytes) k, S.length ≤ 60 → k ≤ S.length → S.drop k = s → d + s.length ≤ 60 → MdPre md s false → MdOk md s → SpecAt md d S k r := by
  intro f
  induction f with
  | zero => intro md s r h; simp [iP] at h
  | succ f ih =>
    intro md s r h d S k hS hk hd hdl hpre hok
    have hs : s.length ≤ 60 := by omega
    have hsl : S.length - k = s.length := by rw [← hd]; simp
    cases md with
    | pat =>
      simp only [iP, Option.bind_eq_some_iff] at h
      obtain ⟨x, h1, h2⟩ := h
      obtain ⟨a1, a2, a3⟩ := iP_ok _ _ _ _ _ h1 hs trivial trivial
      simp only [MdLt] at a2
      have hok2 : MdOk (.patL [mkT x.1]) x.2.1 := ⟨by simp; omega, by simpa using SmT_mk a1⟩
      obtain ⟨t, a, bad, hsy, e1⟩ := ih _ _ _ h1 d S k hS hk hd hdl trivial trivial
      rcases hsy with ⟨rfl, rfl, hb, k', rfl, hk', hd'⟩ | ⟨rfl, hdoom⟩
      · rw [hb] at h2
        obtain ⟨ks', a', bad', hsy', e2⟩ := ih _ _ _ h2 d S k' hS hk' hd' (by omega) trivial hok2
        refine ⟨rxOr ks', a', bad', hsy', (e1.and (Ev2.diag e2)).nm fun n ⟨e1, e2⟩ => ?_⟩
        rw [eq_sl3Pattern, e1]
        simp only [Option.bind_some, flatS, TM_mk]
        rw [show L_sl3Pattern_0 n n S k' false 0 0 [] false d [mkT (x.1.1, (x.1.2.1, (x.1.2.2.1, (x.1.2.2.2.1, x.1.2.2.2.2))))] = _ from e2]
        simp only [Option.bind_some, sumE_l]
        exact or_flatS ks' S a' bad'
      · have hdoom' := hdoom.mono h2 (by omega) trivial hok2
        refine ⟨rxOr [mkT t], a, true, .inr ⟨rfl, hdoom'⟩, ((e1.and (sp_NowBad S a 124)).and (Evt.ge 1)).nm fun n ⟨⟨e1, e2⟩, hn⟩ => ?_⟩
        rw [eq_sl3Pattern, e1]
        simp only [Option.bind_some, flatS, TM_mk]
        obtain ⟨m, hm⟩ : ∃ m, n = m + 1 := ⟨n - 1, by omega⟩
        have e3 : L_sl3Pattern_0 n n S a true 0 0 [] false d [mkT (t.1, (t.2.1, (t.2.2.1, (t.2.2.2.1, t.2.2.2.2))))] = some (.inl (S, (a, (true, (0, (0, ([], (false, [mkT t]))))))))  := by
          conv => lhs; arg 2; rw [hm]
          rw [eqL_sl3Pattern_0, show F_sl3Now n S a true (UInt8.ofNat (Int.toNat 124)) = _ from e2]
          rfl
        rw [e3]
        simp only [Option.bind_some, sumE_l]
        exact or_flatS [mkT t] S a true
    | patL ks =>
      have hks := hok.1
      simp only [iP] at h
      split at h
      · rename_i hn
        cases h
        refine ⟨ks, k, false, .inl ⟨rfl, rfl, rfl, k, rfl, hk, hd⟩, Ev2.stop (sp_Now S k hk 124) fun n m e => ?_⟩
        rw [eqL_sl3Pattern_0, c124, e, hd, hn, bo_f (by simp)]
        rfl
      · rename_i c hn
        obtain ⟨-, e⟩ := nxt_some hn
        have hl : s.length = s.tail.length + 1 := by rw [e]; simp
        split at h
        · rename_i hc
          simp only [Option.bind_eq_some_iff] at h
          obtain ⟨x, h1, h2⟩ := h
          obtain ⟨a1, a2, a3⟩ := iP_ok _ _ _ _ _ h1 (by omega) trivial trivial
          simp only [MdLt] at a2
          have hok2 : MdOk (.patL (ks ++ [mkT x.1])) x.2.1 := ⟨by simp; omega, by
            intro k hk
            rcases List.mem_append.1 hk with hk | hk
            · exact hok.2 k hk
            · simp at hk; subst hk; exact SmT_mk a1⟩
          have hnow : nxt (S.drop k) false = some 124 := by rw [hd]; exact (nxt_char (d := 124) hn).2 hc
          obtain ⟨t, a, bad, hsy, e1⟩ := ih _ _ _ h1 d S (k + 1) hS (by omega) (drop_tail hd) (by omega) trivial trivial
          rcases hsy with ⟨rfl, rfl, hb, k', rfl, hk', hd'⟩ | ⟨rfl, hdoom⟩
          · rw [hb] at h2
            obtain ⟨ks', a', bad', hsy', e2⟩ := ih _ _ _ h2 d S k' hS hk' hd' (by omega) trivial hok2
            refine ⟨ks', a', bad', hsy', Ev2.step ((sp_Now S k hk 124).and e1) e2 fun n m ⟨e0, e1⟩ e2 => ?_⟩
            rw [eqL_sl3Pattern_0, c124, e0, bo_t hnow]
            simp only [Option.bind_some, cond_true, wk (show k ≤ 1000 by omega), e1, flatS, TM_mk]
            rw [ble_big (by omega)]
            exact e2
          · have hdoom' := hdoom.mono h2 (by omega) trivial hok2
            have hbad : Ev2 fun n m => L_sl3Pattern_0 n m S a true 0 0 [] false d (ks ++ [mkT t]) = some (.inl (S, (a, (true, (0, (0, ([], (false, ks ++ [mkT t])))))))) := Ev2.stop (sp_NowBad S a 124) fun n m e => by
              rw [eqL_sl3Pattern_0, c124, e]
              rfl
            refine ⟨ks ++ [mkT t], a, true, .inr ⟨rfl, hdoom'⟩, Ev2.step ((sp_Now S k hk 124).and e1) hbad fun n m ⟨e0, e1⟩ e2 => ?_⟩
            rw [eqL_sl3Pattern_0, c124, e0, bo_t hnow]
            simp only [Option.bind_some, cond_true, wk (show k ≤ 1000 by omega), e1, flatS, TM_mk]
            rw [ble_big (by omega)]
            exact e2
        · rename_i hc
          cases h
          refine ⟨ks, k, false, .inl ⟨rfl, rfl, rfl, k, rfl, hk, hd⟩, Ev2.stop (sp_Now S k hk 124) fun n m e => ?_⟩
          rw [eqL_sl3Pattern_0, c124, e, hd, bo_f (fun q => hc ((nxt_char (d := 124) hn).1 q))]
          rfl
    | part =>
      simp only [iP] at h
      obtain ⟨ks', a, bad, hsy, e⟩ := ih (.partL []) _ _ h d S k hS hk hd hdl trivial ⟨by simp; omega, by simp⟩
      refine ⟨rxPart ks', a, bad, hsy, (Ev2.diag e).nm fun n e => ?_⟩
      rw [eq_sl3Part, e]
      simp only [Option.bind_some, sumE_l]
      exact part_flatS ks' S a bad
    | partL ks =>
      have hks := hok.1
      simp only [iP] at h
      split at h
      · rename_i hn
        cases h
        have hnil : s = [] := by
          cases s with
          | nil => rfl
          | cons c t => simp [nxt] at hn
        subst hnil
        refine ⟨ks, k, false, .inl ⟨rfl, rfl, rfl, k, rfl, hk, hd⟩, Ev2.stop (Evt.ge 0) fun n m _ => ?_⟩
        rw [eqL_sl3Part_0, decide_eq_false (by simp at hsl; omega)]
        rfl
      · rename_i c hn
        obtain ⟨-, e⟩ := nxt_some hn
        obtain ⟨hkl, hc0⟩ := drop_lt (hd.trans e)
        split at h
        · rename_i hc
          cases h
          refine ⟨ks, k, false, .inl ⟨rfl, rfl, rfl, k, rfl, hk, hd⟩, Ev2.stop (Evt.ge 0) fun n m _ => ?_⟩
          rw [eqL_sl3Part_0, lt_dec hkl, nthZ_at hkl, hc0]
          simp only [Bool.not_false, cond_true, Option.bind_some, bo_bne]
          rcases hc with hc | hc
          · rw [bo_f (P := ¬ (c.toNat : Int) = 124) (by omega)]; rfl
          · rw [bo_t (P := ¬ (c.toNat : Int) = 124) (by omega), bo_f (P := ¬ (c.toNat : Int) = 41) (by omega)]; rfl
        · rename_i hc
          simp only [Option.bind_eq_some_iff] at h
          obtain ⟨x, h1, h2⟩ := h
          have hpre' : MdPre .piece s false := ⟨by rw [e]; simp, rfl⟩
          obtain ⟨a1, a2, a3⟩ := iP_ok _ _ _ _ _ h1 hs hpre' trivial
          simp only [MdLt] at a2
          have hok2 : MdOk (.partL (ks ++ [mkT x.1])) x.2.1 := ⟨by simp; omega, by
            intro k hk
            rcases List.mem_append.1 hk with hk | hk
            · exact hok.2 k hk
            · simp at hk; subst hk; exact SmT_mk a1⟩
          obtain ⟨t, a, bad, hsy, e1⟩ := ih _ _ _ h1 d S k hS hk hd hdl hpre' trivial
          rcases hsy with ⟨rfl, rfl, hb, k', rfl, hk', hd'⟩ | ⟨rfl, hdoom⟩
          · rw [hb] at h2
            obtain ⟨ks', a', bad', hsy', e2⟩ := ih _ _ _ h2 d S k' hS hk' hd' (by omega) trivial hok2
            refine ⟨ks', a', bad', hsy', Ev2.step e1 e2 fun n m e1 e2 => ?_⟩
            rw [eqL_sl3Part_0, lt_dec hkl, nthZ_at hkl, hc0]
            simp only [Bool.not_false, cond_true, Option.bind_some, bo_bne]
            rw [bo_t (P := ¬ (c.toNat : Int) = 124) (by omega), bo_t (P := ¬ (c.toNat : Int) = 41) (by omega)]
            simp only [Option.bind_some, cond_true, e1, flatS, TM_mk]
            rw [ble_big (by omega)]
            exact e2
          · have hdoom' := hdoom.mono h2 (by omega) trivial hok2
            have hbad : Ev2 fun n m => L_sl3Part_0 n m S a true 0 0 [] false d (ks ++ [mkT t]) = some (.inl (S, (a, (true, (0, (0, ([], (false, ks ++ [mkT t])))))))) := Ev2.stop (Evt.ge 0) fun n m e => by
              rw [eqL_sl3Part_0]
              rfl
            refine ⟨ks ++ [mkT t], a, true, .inr ⟨rfl, hdoom'⟩, Ev2.step e1 hbad fun n m e1 e2 => ?_⟩
            rw [eqL_sl3Part_0, lt_dec hkl, nthZ_at hkl, hc0]
            simp only [Bool.not_false, cond_true, Option.bind_some, bo_bne]
            rw [bo_t (P := ¬ (c.toNat : Int) = 124) (by omega), bo_t (P := ¬ (c.toNat : Int) = 41) (by omega)]
            simp only [Option.bind_some, cond_true, e1, flatS, TM_mk]
            rw [ble_big (by omega)]
            exact e2
    | piece =>
      simp only [iP, Option.bind_eq_some_iff] at h
      obtain ⟨x, h1, h2⟩ := h
      obtain ⟨a1, a2, a3⟩ := iP_ok _ _ _ _ _ h1 hs hpre trivial
      simp only [MdLt] at a2
      obtain ⟨t, a, bad, hsy, e1⟩ := ih _ _ _ h1 d S k hS hk hd hdl hpre trivial
      rcases hsy with ⟨rfl, rfl, hb, k', rfl, hk', hd'⟩ | ⟨rfl, hdoom⟩
      · rw [hb] at h2
        obtain ⟨t', a', bad', hsy', e2⟩ := ih _ _ _ h2 d S k' hS hk' hd' (by omega) trivial a1
        refine ⟨t', a', bad', hsy', (e1.and (Ev2.diag e2)).nm fun n ⟨e1, e2⟩ => ?_⟩
        rw [eq_sl3Piece, e1]
        simp only [Option.bind_some, flatS]
        rw [e2]
        rfl
      · have hdoom' := hdoom.mono h2 (by omega) trivial a1
        have hbad : Ev2 fun n m => L_sl3Piece_0 n m S a true 0 0 [] false t.1 t.2.1 t.2.2.1 t.2.2.2.1 t.2.2.2.2 = some (.inl (S, (a, (true, (0, (0, ([], (false, (t.1, (t.2.1, (t.2.2.1, (t.2.2.2.1, t.2.2.2.2)))))))))))) := Ev2.stop (Evt.ge 0) fun n m e => by
          rw [eqL_sl3Piece_0]
          rfl
        refine ⟨t, a, true, .inr ⟨rfl, hdoom'⟩, (e1.and (Ev2.diag hbad)).nm fun n ⟨e1, e2⟩ => ?_⟩
        rw [eq_sl3Piece, e1]
        simp only [Option.bind_some, flatS]
        rw [e2]
        rfl
    | pieceL t =>
      have base := (sp_Now S k hk 42).and ((sp_Now S k hk 43).and (sp_Now S k hk 63))
      simp only [iP] at h
      split at h
      · rename_i hn
        cases h
        refine ⟨t, k, false, .inl ⟨rfl, rfl, rfl, k, rfl, hk, hd⟩, Ev2.stop base fun n m ⟨e1, e2, e3⟩ => ?_⟩
        rw [eqL_sl3Piece_0]
        simp only [Bool.not_false, cond_true]
        rw [show F_sl3Now n S (k : Int) false (UInt8.ofNat (Int.toNat 42)) = _ from e1, hd, hn, bo_f (by simp)]
        simp only [Option.bind_some, cond_false]
        rw [show F_sl3Now n S (k : Int) false (UInt8.ofNat (Int.toNat 43)) = _ from e2, hd, hn, bo_f (by simp)]
        simp only [Option.bind_some, cond_false]
        rw [show F_sl3Now n S (k : Int) false (UInt8.ofNat (Int.toNat 63)) = _ from e3, hd, hn, bo_f (by simp)]
        rfl
      · rename_i c hn
        obtain ⟨-, e⟩ := nxt_some hn
        have hl : s.length = s.tail.length + 1 := by rw [e]; simp
        have q1 := nxt_char (d := 42) hn
        have q2 := nxt_char (d := 43) hn
        have q3 := nxt_char (d := 63) hn
        rw [← hd] at q1 q2 q3
        split at h
        · rename_i hc
          cases h
          refine ⟨t, k, false, .inl ⟨rfl, rfl, rfl, k, rfl, hk, hd⟩, Ev2.stop base fun n m ⟨e1, e2, e3⟩ => ?_⟩
          have hc' : c.toNat ≠ 42 ∧ c.toNat ≠ 43 ∧ c.toNat ≠ 63 := by
            unfold repOf at hc
            repeat' split at hc
            all_goals omega
          rw [eqL_sl3Piece_0]
          simp only [Bool.not_false, cond_true]
          rw [show F_sl3Now n S (k : Int) false (UInt8.ofNat (Int.toNat 42)) = _ from e1, bo_f (fun q => hc'.1 (q1.1 q))]
          simp only [Option.bind_some, cond_false]
          rw [show F_sl3Now n S (k : Int) false (UInt8.ofNat (Int.toNat 43)) = _ from e2, bo_f (fun q => hc'.2.1 (q2.1 q))]
          simp only [Option.bind_some, cond_false]
          rw [show F_sl3Now n S (k : Int) false (UInt8.ofNat (Int.toNat 63)) = _ from e3, bo_f (fun q => hc'.2.2 (q3.1 q))]
          rfl
        · rename_i hc
          obtain ⟨t', a', bad', hsy', e4⟩ := ih _ _ _ h d S (k + 1) hS (by omega) (drop_tail hd) (by omega) trivial ⟨by simp, by simpa using SmT_mk hok⟩
          refine ⟨t', a', bad', hsy', Ev2.step base e4 fun n m ⟨e1, e2, e3⟩ e4 => ?_⟩
          rw [eqL_sl3Piece_0]
          simp only [Bool.not_false, cond_true]
          rw [show F_sl3Now n S (k : Int) false (UInt8.ofNat (Int.toNat 42)) = _ from e1]
          simp only [Option.bind_some, wk (show k ≤ 1000 by omega), TM_mk]
          by_cases c1 : c.toNat = 42
          · rw [bo_t (q1.2 c1)]
            have : repOf c = 8 := by unfold repOf; rw [if_pos c1]
            rw [this] at e4
            exact e4
          rw [bo_f (fun q => c1 (q1.1 q))]
          simp only [cond_false]
          rw [show F_sl3Now n S (k : Int) false (UInt8.ofNat (Int.toNat 43)) = _ from e2]
          simp only [Option.bind_some, wk (show k ≤ 1000 by omega)]
          by_cases c2 : c.toNat = 43
          · rw [bo_t (q2.2 c2)]
            have : repOf c = 9 := by unfold repOf; rw [if_neg c1, if_pos c2]
            rw [this] at e4
            exact e4
          rw [bo_f (fun q => c2 (q2.1 q))]
          simp only [cond_false]
          rw [show F_sl3Now n S (k : Int) false (UInt8.ofNat (Int.toNat 63)) = _ from e3]
          simp only [Option.bind_some, wk (show k ≤ 1000 by omega)]
          by_cases c3 : c.toNat = 63
          · rw [bo_t (q3.2 c3)]
            have : repOf c = 10 := by unfold repOf; rw [if_neg c1, if_neg c2, if_pos c3]
            rw [this] at e4
            exact e4
          exfalso
          apply hc
          unfold repOf
          rw [if_neg c1, if_neg c2, if_neg c3]
    | atom =>
      obtain ⟨hne, -⟩ := hpre
      have hgo := h
      cases s with
      | nil => exact absurd rfl hne
      | cons c rr =>
        obtain ⟨hkl, hc0⟩ := drop_lt hd
        simp only [List.length_cons] at hs hdl
        have hd1 : S.drop (k + 1) = rr := drop_tail hd
        by_cases hdeep : 40 < d
        · refine ⟨leaf 0 0, k, true, .inr ⟨rfl, Doom.mono hgo (by simpa using hs) ⟨by simp, rfl⟩ trivial (.inr (by simp only [List.length_cons]; omega))⟩, Evt.succ (Evt.of fun n => ?_)⟩
          rw [eq_sl3Atom, decide_eq_false (show ¬ (S.length : Int) ≤ (k : Int) by omega), decide_eq_true (show (40 : Int) < (d : Int) by omega)]
          rfl
        have hatom : ∀ n, F_sl3Atom (n + 1) S k false d = _ := fun n => by
          rw [eq_sl3Atom, decide_eq_false (show ¬ (S.length : Int) ≤ (k : Int) by omega), decide_eq_false (show ¬ (40 : Int) < (d : Int) by omega), nthZ_at hkl, hc0, wk (show k ≤ 1000 by omega)]
        simp only [iP] at h
        split at h
        · rename_i hc
          simp only [Option.bind_eq_some_iff] at h
          obtain ⟨x, h1, h2⟩ := h
          cases h2
          obtain ⟨a1, a2, a3⟩ := iP_ok _ _ _ _ _ h1 (by omega) trivial trivial
          simp only [MdLt] at a2
          obtain ⟨t, a, bad, hsy, e1⟩ := ih _ _ _ h1 (d + 1) S (k + 1) hS (by omega) hd1 (by omega) trivial trivial
          rcases hsy with ⟨rfl, rfl, hb, k', rfl, hk', hd'⟩ | ⟨rfl, hdoom⟩
          · by_cases hcl : nxt x.2.1 false = some 41
            · have hcr : closeR x = (x.1, (x.2.1.tail, false)) := by
                unfold closeR
                rw [hb, hcl]
                rfl
              obtain ⟨-, e2⟩ := nxt_some hcl
              have hk2 : k' < S.length := (drop_lt (hd'.trans e2)).1
              refine ⟨x.1, ((k' + 1 : Nat) : Int), false, .inl ⟨rfl, by rw [hcr], by rw [hcr], k' + 1, rfl, by omega, by rw [hcr]; exact drop_tail hd'⟩, (e1.and (sp_Now S k' hk' 41)).nm fun n ⟨e1, e3⟩ => ?_⟩
              rw [hatom]
              simp only [cond_false, Option.bind_some, bo_beq]
              rw [bo_t (show (c.toNat : Int) = 40 by omega), wk (show d ≤ 1000 by omega)]
              simp only [cond_true, e1, Option.bind_some, flatS]
              rw [show F_sl3Now n S (k' : Int) false (UInt8.ofNat (Int.toNat 41)) = _ from e3, hd', bo_t hcl]
              simp only [Option.bind_some, Bool.not_true, cond_false, wk (show k' ≤ 1000 by omega)]
            · have hcr : (closeR x).2.2 = true := by
                unfold closeR
                rw [hb]
                split
                · rename_i dd hdd
                  split
                  · rename_i hq
                    exact absurd ((nxt_char (d := 41) hdd).2 hq) hcl
                  · rfl
                · rfl
              refine ⟨x.1, ((k' + 1 : Nat) : Int), true, .inr ⟨rfl, .inl hcr⟩, (e1.and (sp_Now S k' hk' 41)).nm fun n ⟨e1, e3⟩ => ?_⟩
              rw [hatom]
              simp only [cond_false, Option.bind_some, bo_beq]
              rw [bo_t (show (c.toNat : Int) = 40 by omega), wk (show d ≤ 1000 by omega)]
              simp only [cond_true, e1, Option.bind_some, flatS]
              rw [show F_sl3Now n S (k' : Int) false (UInt8.ofNat (Int.toNat 41)) = _ from e3, hd', bo_f hcl]
              simp only [Option.bind_some, Bool.not_false, cond_true, wk (show k' ≤ 1000 by omega)]
          · have hdoom' : Doom d (closeR x).2 := by
              unfold closeR
              split
              · rename_i dd hdd
                obtain ⟨hb, e2⟩ := nxt_some hdd
                split
                · rcases hdoom with hq | hq
                  · rw [hb] at hq; cases hq
                  · refine .inr ?_
                    show x.2.1.tail.length < d
                    rw [e2] at hq
                    simp only [List.length_cons] at hq
                    omega
                · exact .inl rfl
              · exact .inl rfl
            refine ⟨t, IntKind.wrap .i64 (a + 1), true, .inr ⟨rfl, hdoom'⟩, (e1.and (sp_NowBad S a 41)).nm fun n ⟨e1, e3⟩ => ?_⟩
            rw [hatom]
            simp only [cond_false, Option.bind_some, bo_beq]
            rw [bo_t (show (c.toNat : Int) = 40 by omega), wk (show d ≤ 1000 by omega)]
            simp only [cond_true, e1, Option.bind_some, flatS]
            rw [show F_sl3Now n S a true (UInt8.ofNat (Int.toNat 41)) = _ from e3]
            rfl
        · rename_i hc
          cases h
          have h40 : bo ((c.toNat : Int) = 40) = false := bo_f (by omega)
          show ∃ t a bad, Sync d S (atomR c rr) t a bad ∧ Evt fun n => F_sl3Atom n S k false d = some (flatS t S a bad)
          unfold atomR
          by_cases c1 : c.toNat = 46
          · rw [if_pos c1]
            refine ⟨leaf 2 0, ((k + 1 : Nat) : Int), false, .inl ⟨rfl, rfl, rfl, k + 1, rfl, by omega, hd1⟩, Evt.succ (Evt.of fun n => ?_)⟩
            rw [hatom]
            simp only [cond_false, Option.bind_some, bo_beq]
            rw [h40, bo_t (show (c.toNat : Int) = 46 by omega)]
            rfl
          rw [if_neg c1]
          have h46 : bo ((c.toNat : Int) = 46) = false := bo_f (by omega)
          by_cases c2 : c.toNat = 94
          · rw [if_pos c2]
            refine ⟨leaf 4 0, ((k + 1 : Nat) : Int), false, .inl ⟨rfl, rfl, rfl, k + 1, rfl, by omega, hd1⟩, Evt.succ (Evt.of fun n => ?_)⟩
            rw [hatom]
            simp only [cond_false, Option.bind_some, bo_beq]
            rw [h40, h46, bo_t (show (c.toNat : Int) = 94 by omega)]
            rfl
          rw [if_neg c2]
          have h94 : bo ((c.toNat : Int) = 94) = false := bo_f (by omega)
          by_cases c3 : c.toNat = 36
          · rw [if_pos c3]
            refine ⟨leaf 5 0, ((k + 1 : Nat) : Int), false, .inl ⟨rfl, rfl, rfl, k + 1, rfl, by omega, hd1⟩, Evt.succ (Evt.of fun n => ?_)⟩
            rw [hatom]
            simp only [cond_false, Option.bind_some, bo_beq]
            rw [h40, h46, h94, bo_t (show (c.toNat : Int) = 36 by omega)]
            rfl
          rw [if_neg c3]
          have h36 : bo ((c.toNat : Int) = 36) = false := bo_f (by omega)
          by_cases c4 : c.toNat = 91
          · rw [if_pos c4]
            obtain ⟨set, nt, o, cc, a, bad, hsy, e1⟩ := setS_exact S (k + 1) (by omega) hS
            rw [hd1] at hsy
            refine ⟨(o, (cc, (set, (nt, [])))), a, bad, ?_, e1.nm fun n e1 => ?_⟩
            · rcases hsy with ⟨h1, h2, h3, h4⟩ | ⟨h1, h2⟩
              · exact .inl ⟨h1, h2.symm, h3, h4⟩
              · exact .inr ⟨h1, .inl h2⟩
            · rw [hatom]
              simp only [cond_false, Option.bind_some, bo_beq]
              rw [h40, h46, h94, h36, bo_t (show (c.toNat : Int) = 91 by omega)]
              simp only [cond_true, cond_false, e1, Option.bind_some, flatS]
          rw [if_neg c4]
          have h91 : bo ((c.toNat : Int) = 91) = false := bo_f (by omega)
          by_cases c5 : c.toNat = 92
          · rw [if_pos c5]
            cases rr with
            | nil =>
              have hkS : k + 1 = S.length := by simp at hsl; omega
              refine ⟨leaf 0 0, ((k + 1 : Nat) : Int), true, .inr ⟨rfl, .inl rfl⟩, Evt.succ (Evt.of fun n => ?_)⟩
              rw [hatom]
              simp only [cond_false, Option.bind_some, bo_beq]
              rw [h40, h46, h94, h36, h91, bo_t (show (c.toNat : Int) = 92 by omega), decide_eq_true (show (S.length : Int) ≤ ((k + 1 : Nat) : Int) by omega)]
              rfl
            | cons dd rr =>
              obtain ⟨hkl2, hc2⟩ := drop_lt hd1
              refine ⟨leaf 1 dd.toNat, ((k + 2 : Nat) : Int), false, .inl ⟨rfl, rfl, rfl, k + 2, rfl, by omega, drop_tail hd1⟩, Evt.succ (Evt.of fun n => ?_)⟩
              rw [hatom]
              simp only [cond_false, Option.bind_some, bo_beq]
              rw [h40, h46, h94, h36, h91, bo_t (show (c.toNat : Int) = 92 by omega), decide_eq_false (show ¬ (S.length : Int) ≤ ((k + 1 : Nat) : Int) by omega), nthZ_at hkl2, hc2, wk (show k + 1 ≤ 1000 by omega)]
              simp only [cond_true, cond_false, Option.bind_some, w_u8, flatS, leaf]
          rw [if_neg c5]
          have h92 : bo ((c.toNat : Int) = 92) = false := bo_f (by omega)
          by_cases c6 : c.toNat = 42 ∨ c.toNat = 43 ∨ c.toNat = 63
          · rw [if_pos c6]
            refine ⟨leaf 1 c.toNat, ((k + 1 : Nat) : Int), true, .inr ⟨rfl, .inl rfl⟩, Evt.succ (Evt.of fun n => ?_)⟩
            rw [hatom]
            simp only [cond_false, Option.bind_some, bo_beq]
            rw [h40, h46, h94, h36, h91, h92]
            simp only [cond_false, w_u8, flatS, leaf]
            rcases c6 with c6 | c6 | c6
            · rw [bo_t (P := (c.toNat : Int) = 42) (by omega)]; rfl
            · rw [bo_f (P := (c.toNat : Int) = 42) (by omega), bo_t (P := (c.toNat : Int) = 43) (by omega)]; rfl
            · rw [bo_f (P := (c.toNat : Int) = 42) (by omega), bo_f (P := (c.toNat : Int) = 43) (by omega), bo_t (P := (c.toNat : Int) = 63) (by omega)]; rfl
          · rw [if_neg c6]
            refine ⟨leaf 1 c.toNat, ((k + 1 : Nat) : Int), false, .inl ⟨rfl, rfl, rfl, k + 1, rfl, by omega, hd1⟩, Evt.succ (Evt.of fun n => ?_)⟩
            rw [hatom]
            simp only [cond_false, Option.bind_some, bo_beq]
            rw [h40, h46, h94, h36, h91, h92, bo_f (P := (c.toNat : Int) = 42) (by omega), bo_f (P := (c.toNat : Int) = 43) (by omega), bo_f (P := (c.toNat : Int) = 63) (by omega)]
            simp only [cond_false, w_u8, flatS, leaf]
end Go.Proofs.YtmabfdnconccnaaGreatDoor
