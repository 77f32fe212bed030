/- The program's reader of patterns. -/
import Derived.Test.YtmabfdnconccnaaGreatDoorLaw
import Derived.Test.YtmabfdnconccnaaGreatDoorEv4
namespace Go.Proofs.YtmabfdnconccnaaGreatDoor
open Go Go.Ev
theorem TM_mk (x : Nd) : TM_Tiisb x = mkT x := rfl
theorem TN_at (ks : List Tr) (i : Nat) : TN_Tiisb ks i = (ks[i]?).map unT := by
  show (nth ks i).map _ = _
  unfold nth
  congr 1
  funext t
  cases t
  rfl
theorem TZ_at {ks : List Tr} {i : Nat} (h : i < ks.length) : TZ_Tiisb ks (i : Int) = some (unT ks[i]) := by
  have : TZ_Tiisb ks (i : Int) = TN_Tiisb ks i := rfl
  rw [this, TN_at, List.getElem?_eq_getElem h]
  rfl
def flat (r : Nd × (Bytes × Bool)) : Int × (Int × (Bytes × (Bool × (List Tr × (Bytes × Bool))))) := (r.1.1, (r.1.2.1, (r.1.2.2.1, (r.1.2.2.2.1, (r.1.2.2.2.2, r.2)))))
theorem sp_next (s : Bytes) (b : Bool) : Evt fun n => F_irexReader_next n s b = some (match nxt s b with | some c => (c, (true, (s, b))) | none => (0, (false, (s, b)))) := by
  refine Evt.succ (Evt.of fun n => ?_)
  rw [eq_irexReader_next]
  cases b
  · cases s with
    | nil => rfl
    | cons c r =>
      have e : nthZ (c :: r) (0 : Int) = some c := rfl
      have e2 : ((c :: r : Bytes) == []) = false := rfl
      rw [e, e2]
      simp only [cond_false, Option.bind_some, u8_id]
      rfl
  · cases h : (s == ([] : Bytes))
    · rfl
    · rfl
theorem tl_eq (s : Bytes) : (s.drop 1).take (s.length - 1) = s.tail := by
  cases s with
  | nil => rfl
  | cons c r => simp
theorem u8_ne (c d : UInt8) : (((c.toNat : Int) != (d.toNat : Int)) = true) ↔ c ≠ d := by
  rw [bne_iff_ne, ne_eq, Int.ofNat_inj, UInt8.toNat_inj]
theorem sp_take (s : Bytes) (b : Bool) (d : UInt8) : Evt fun n => F_irexReader_take n s b d = some (if nxt s b = some d then (true, (s.tail, b)) else (false, (s, b))) := by
  refine (sp_next s b).nm fun n e => ?_
  rw [eq_irexReader_take, e]
  cases h : nxt s b with
  | none => simp
  | some c =>
    obtain ⟨rfl, hs⟩ := nxt_some h
    have hl : 1 ≤ s.length := by rw [hs]; simp
    simp only [Option.bind_some, Bool.not_true, cond_false, tl_eq]
    by_cases e : c = d
    · subst e
      rw [if_pos rfl, show (((c.toNat : Int) != (c.toNat : Int)) = false) by simp]
      simp only [cond_false]
      rw [decide_eq_true (by omega)]
      rfl
    · rw [if_neg (by simpa using e), (u8_ne c d).2 e]
      rfl
theorem sp_repeatOf (c : UInt8) : Evt fun n => F_irepeatOf n c = some (repOf c) := by
  refine Evt.succ (Evt.of fun n => ?_)
  rw [eq_irepeatOf]
  unfold repOf
  simp only [bo_beq]
  by_cases h1 : c.toNat = 42
  · rw [if_pos h1, bo_t (by omega)]; rfl
  rw [if_neg h1, bo_f (P := (c.toNat : Int) = 42) (by omega)]
  by_cases h2 : c.toNat = 43
  · rw [if_pos h2, bo_t (by omega)]; rfl
  rw [if_neg h2, bo_f (P := (c.toNat : Int) = 43) (by omega)]
  by_cases h3 : c.toNat = 63
  · rw [if_pos h3, bo_t (by omega)]; rfl
  rw [if_neg h3, bo_f (P := (c.toNat : Int) = 63) (by omega)]
  rfl
def Ev2 (p : Nat → Nat → Prop) : Prop := ∃ N, ∀ n m, N ≤ n → N ≤ m → p n m
theorem Ev2.diag {p : Nat → Nat → Prop} (h : Ev2 p) : Evt fun n => p n n := by
  obtain ⟨N, h⟩ := h
  exact ⟨N, fun n hn => h n n hn hn⟩
theorem Ev2.step {p : Nat → Prop} {q r : Nat → Nat → Prop} (h : Evt p) (k : Ev2 q) (f : ∀ n m, p n → q n m → r n (m + 1)) : Ev2 r := by
  obtain ⟨N, h⟩ := h
  obtain ⟨M, k⟩ := k
  refine ⟨max N M + 1, fun n m hn hm => ?_⟩
  obtain ⟨m, rfl⟩ : ∃ m', m = m' + 1 := ⟨m - 1, by omega⟩
  exact f n m (h n (by omega)) (k n m (by omega) (by omega))
theorem Ev2.stop {p : Nat → Prop} {r : Nat → Nat → Prop} (h : Evt p) (f : ∀ n m, p n → r n (m + 1)) : Ev2 r := by
  obtain ⟨N, h⟩ := h
  refine ⟨N + 1, fun n m hn hm => ?_⟩
  obtain ⟨m, rfl⟩ : ∃ m', m = m' + 1 := ⟨m - 1, by omega⟩
  exact f n m (h n (by omega))
theorem ble_big {n : Nat} (h : n ≤ 1000) : Nat.ble n big = true := Nat.ble_eq_true_of_le (by unfold big; omega)
theorem eq_IndexByte (n : Nat) (s : Bytes) (c : UInt8) : F_strings_IndexByte (n + 1) s c = some (Lib.indexByte s c) := by kernel_rfl
theorem w_u8 (c : UInt8) : IntKind.wrap .i64 (c.toNat : Int) = (c.toNat : Int) := by have := c.toNat_lt; rw [IntKind.wrap_i64]; omega
theorem set2_I (n : Nat) (x0 : Bytes) (x1 : Bool) (x2 x3 : Int) (x4 : Bytes) (x5 : Bool) (x6 x7 : Int) (x8 : Bytes) (x9 : Bool) (lo hi : UInt8) (has : List Bool) (x12 : Bytes) (x13 : Int) (hn : 300 ≤ n) (hl : has.length = 256) :
    L_irexReader_set_2 n n x0 x1 x2 x3 x4 x5 x6 x7 x8 x9 (lo.toNat : Int) has x12 x13 (hi.toNat : Int) = some (.inl (x0, (x1, (x2, (x3, (x4, (x5, (x6, (x7, (x8, (x9, (markL has lo.toNat (hi.toNat + 1 - lo.toNat), (x12, x13))))))))))))) := by
  have h1 := lo.toNat_lt
  have h2 := hi.toNat_lt
  refine mark_loop (hi := hi.toNat) (L := fun m j h => L_irexReader_set_2 n m x0 x1 x2 x3 x4 x5 x6 x7 x8 x9 j h x12 x13 (hi.toNat : Int)) (out := fun h => (x0, (x1, (x2, (x3, (x4, (x5, (x6, (x7, (x8, (x9, (h, (x12, x13)))))))))))))  (by omega) (fun m j h hj hh => ?_) (fun m j h hj => ?_) _ n lo.toNat has rfl (by omega) hl
  · rw [eqL_irexReader_set_2, decide_eq_true (by omega), decide_eq_true (by omega), atN_at (by omega)]
    rfl
  · rw [eqL_irexReader_set_2, decide_eq_false (by omega)]
    rfl
theorem set0_I (n : Nat) (hn : 300 ≤ n) (rest body : Bytes) (nt : Bool) (hb : ∀ c ∈ body, c.toNat ≠ 93) (hbl : body.length ≤ 100) : ∀ k m (i : Nat) has bad, body.length - i ≤ k → k < m → has.length = 256 → i ≤ body.length →
    L_irexReader_set_0 n m rest bad 0 0 [] false 3 0 [] nt has (i : Int) body = some (.inl (rest, ((setB (body.drop i) has bad).2, (0, (0, ([], (false, (3, (0, ([], (nt, (setB (body.drop i) has bad).1))))))))))) := by
  intro k
  induction k with
  | zero =>
    intro m i has bad hk hm hl hi
    obtain ⟨m, rfl⟩ : ∃ m', m = m' + 1 := ⟨m - 1, by omega⟩
    obtain rfl : i = body.length := by omega
    rw [eqL_irexReader_set_0, lt_nd, List.drop_eq_nil_of_le (Nat.le_refl _)]
    rfl
  | succ k ih =>
    intro m i has bad hk hm hl hi
    obtain ⟨m, rfl⟩ : ∃ m', m = m' + 1 := ⟨m - 1, by omega⟩
    by_cases hlt : i < body.length
    · have w1 : IntKind.wrap .i64 ((i : Int) + 1) = ((i + 1 : Nat) : Int) := by rw [IntKind.wrap_i64]; omega
      have w2 : IntKind.wrap .i64 ((i : Int) + 2) = ((i + 2 : Nat) : Int) := by rw [IntKind.wrap_i64]; omega
      have w3 : IntKind.wrap .i64 (((i + 2 : Nat) : Int) + 1) = ((i + 3 : Nat) : Int) := by rw [IntKind.wrap_i64]; omega
      have e0 : body.drop i = body[i] :: body.drop (i + 1) := List.drop_eq_getElem_cons hlt
      have hset : (has.set body[i].toNat true) = markL has body[i].toNat 1 := rfl
      have one : ∀ x1, L_irexReader_set_2 n n rest x1 0 0 [] false 3 0 [] nt (body[i].toNat : Int) has body (i : Int) (body[i].toNat : Int) = some (.inl (rest, (x1, (0, (0, ([], (false, (3, (0, ([], (nt, (markL has body[i].toNat 1, (body, (i : Int)))))))))))))) := fun x1 => by
        have := set2_I n rest x1 0 0 [] false 3 0 [] nt body[i] body[i] has body (i : Int) hn hl
        rwa [show body[i].toNat + 1 - body[i].toNat = 1 by omega] at this
      rw [eqL_irexReader_set_0, lt_dec hlt, nthZ_at hlt]
      simp only [cond_true, Option.bind_some, w1, w2, w_u8]
      by_cases h2 : i + 2 < body.length
      · have e1 : body.drop (i + 1) = body[i + 1] :: body.drop (i + 2) := List.drop_eq_getElem_cons (by omega)
        have e2 : body.drop (i + 2) = body[i + 2] :: body.drop (i + 3) := List.drop_eq_getElem_cons h2
        rw [lt_dec h2, nthZ_at (show i + 1 < body.length by omega), nthZ_at h2]
        simp only [cond_true, Option.bind_some, bo_beq]
        by_cases hd : body[i + 1].toNat = 45
        · have hh := hb _ (List.getElem_mem h2)
          rw [bo_t (by omega), e0, e1, e2, setB_two _ _ _ _ _ _ ⟨hd, hh⟩]
          simp only [cond_true]
          have hd2 : decide ((body[i + 2].toNat : Int) < (body[i].toNat : Int)) = decide (body[i + 2].toNat < body[i].toNat) := by
            rw [bo_dec, bo_dec]; exact bo_congr' (by omega)
          rw [set2_I n rest true 0 0 [] false 3 0 [] nt body[i] body[i + 2] has body _ hn hl, set2_I n rest _ 0 0 [] false 3 0 [] nt body[i] body[i + 2] has body _ hn hl]
          simp only [Option.bind_some, sumE_l, w3]
          rw [ih m (i + 3) _ true (by omega) (by omega) (by rw [markL_len]; exact hl) (by omega), ih m (i + 3) _ (decide _) (by omega) (by omega) (by rw [markL_len]; exact hl) (by omega), hd2]
          cases bad <;> rfl
        · rw [bo_f (by omega), one]
          simp only [cond_false, Option.bind_some, sumE_l, w1]
          rw [ih m (i + 1) _ bad (by omega) (by omega) (by rw [markL_len]; exact hl) (by omega), e0, e1, e2, setB_one _ _ _ _ _ _ (fun h => hd h.1)]
      · rw [decide_eq_false (by omega), one]
        simp only [cond_false, Option.bind_some, sumE_l, w1]
        rw [ih m (i + 1) _ bad (by omega) (by omega) (by rw [markL_len]; exact hl) (by omega), e0, setB_short _ _ _ _ (by simp; omega)]
    · obtain rfl : i = body.length := by omega
      rw [eqL_irexReader_set_0, lt_nd, List.drop_eq_nil_of_le (Nat.le_refl _)]
      rfl
theorem setB_len : ∀ (l : Bytes) (has : List Bool) (b : Bool), (setB l has b).1.length = has.length
  | [], _, _ => rfl
  | [lo], has, b => by simp only [setB, markL_len]
  | [lo, d], has, b => by rw [setB, setB_len [d], markL_len]
  | lo :: d :: hi :: r, has, b => by
    rw [setB]
    split
    · rw [setB_len r, markL_len]
    · rw [setB_len (d :: hi :: r), markL_len]
theorem sp_takeHat (s : Bytes) : Evt fun n => F_irexReader_take n s false 94 = some ((notB s).2, ((notB s).1, false)) := by
  refine (sp_take s false 94).mono fun n e => ?_
  rw [e]
  cases s with
  | nil => rfl
  | cons c r =>
    show some (if some c = some (94 : UInt8) then (true, (r, false)) else (false, (c :: r, false))) = some ((if c.toNat = 94 then (r, true) else (c :: r, false)).2, ((if c.toNat = 94 then (r, true) else (c :: r, false)).1, false))
    by_cases h : c.toNat = 94
    · have : c = 94 := UInt8.toNat_inj.1 h
      subst this
      rfl
    · rw [if_neg (fun k => h (by cases k; rfl)), if_neg h]
theorem setI_exact (s : Bytes) (hs : s.length ≤ 60) : Evt fun n => F_irexReader_set n s false = some ((setR s).1.1, ((setR s).1.2.1, ((setR s).1.2.2.1, ((setR s).1.2.2.2.1, (setR s).2)))) := by
  have hl1 := notB_len s
  have hib := ib_tw (notB s).1
  have htl := tw_le ne93 (notB s).1
  by_cases h : ((notB s).1.takeWhile ne93).length = (notB s).1.length ∨ (notB s).1.takeWhile ne93 = []
  · refine ((sp_takeHat s).and (Evt.ge 1)).nm fun n ⟨e, hn⟩ => ?_
    obtain ⟨n, rfl⟩ : ∃ m, n = m + 1 := ⟨n - 1, by omega⟩
    rw [eq_irexReader_set, show F_irexReader_take (n + 1) s false (UInt8.ofNat (Int.toNat 94)) = _ from e]
    simp only [Option.bind_some]
    rw [show F_strings_IndexByte (n + 1) (notB s).1 (UInt8.ofNat (Int.toNat 93)) = _ from eq_IndexByte n (notB s).1 93, hib]
    simp only [Option.bind_some]
    have hlt : (if ((notB s).1.takeWhile ne93).length = (notB s).1.length then (-1 : Int) else (((notB s).1.takeWhile ne93).length : Int)) < 1 := by
      rcases h with h | h
      · rw [if_pos h]; omega
      · rw [h]; split <;> simp
    rw [decide_eq_true hlt]
    unfold setR
    simp only
    rw [if_pos h]
    rfl
  · have hne : ¬ ((notB s).1.takeWhile ne93).length = (notB s).1.length := fun k => h (.inl k)
    have hpos : 0 < ((notB s).1.takeWhile ne93).length := List.length_pos_iff.2 fun k => h (.inr k)
    have hfin := setB_len ((notB s).1.takeWhile ne93) has0 false
    have hfin : (setB ((notB s).1.takeWhile ne93) has0 false).1.length = 256 := by rw [hfin, has0_len]
    have kb := bytes_loop hfin (L := fun n m i o => L_irexReader_set_4 n m ((notB s).1.drop (((notB s).1.takeWhile ne93).length + 1)) (setB ((notB s).1.takeWhile ne93) has0 false).2 0 0 [] false 3 0 [] (notB s).2 i o (setB ((notB s).1.takeWhile ne93) has0 false).1 256) (out := fun o => ((notB s).1.drop (((notB s).1.takeWhile ne93).length + 1), ((setB ((notB s).1.takeWhile ne93) has0 false).2, (0, (0, ([], (false, (3, (0, ([], ((notB s).2, o)))))))))))
      (fun n m i o hi ho => by
        rw [eqL_irexReader_set_4, decide_eq_true (by omega), decide_eq_true (by omega), atN_at (by omega), u8_of i hi]
        simp only [cond_true, Option.bind_some]
        rw [ble_big (by omega), getD_at (show i < (setB ((notB s).1.takeWhile ne93) has0 false).1.length by omega)]
        cases (setB ((notB s).1.takeWhile ne93) has0 false).1[i] <;> simp) (fun n m o => by rw [eqL_irexReader_set_4]; rfl)
    refine ((sp_takeHat s).and (kb.and (Evt.ge 400))).nm fun n ⟨e, e4, hn⟩ => ?_
    obtain ⟨n, rfl⟩ : ∃ m, n = m + 1 := ⟨n - 1, by omega⟩
    rw [eq_irexReader_set, show F_irexReader_take (n + 1) s false (UInt8.ofNat (Int.toNat 94)) = _ from e]
    simp only [Option.bind_some]
    rw [show F_strings_IndexByte (n + 1) (notB s).1 (UInt8.ofNat (Int.toNat 93)) = _ from eq_IndexByte n (notB s).1 93, hib, if_neg hne]
    simp only [Option.bind_some]
    have w1 : IntKind.wrap .i64 ((((notB s).1.takeWhile ne93).length : Int) + 1) = ((((notB s).1.takeWhile ne93).length + 1 : Nat) : Int) := by rw [IntKind.wrap_i64]; omega
    rw [w1, decide_eq_false (by omega), decide_eq_true (by omega), decide_eq_true (by omega), decide_eq_true (by unfold big; omega)]
    simp only [cond_true, cond_false, Int.toNat_natCast, Nat.sub_zero, tw_take]
    have hdt : (((notB s).1.drop (((notB s).1.takeWhile ne93).length + 1)).take ((notB s).1.length - (((notB s).1.takeWhile ne93).length + 1))) = (notB s).1.drop (((notB s).1.takeWhile ne93).length + 1) := List.take_of_length_le (by simp)
    rw [hdt]
    have k0 := set0_I (n + 1) (by omega) ((notB s).1.drop (((notB s).1.takeWhile ne93).length + 1)) ((notB s).1.takeWhile ne93) (notB s).2 (tw_ne _) (by omega) ((notB s).1.takeWhile ne93).length (n + 1) 0 has0 false (by omega) (by omega) has0_len (by omega)
    rw [List.drop_zero] at k0
    rw [show L_irexReader_set_0 (n + 1) (n + 1) ((notB s).1.drop (((notB s).1.takeWhile ne93).length + 1)) false 0 0 [] false 3 0 [] (notB s).2 (List.replicate (Int.toNat 256) false) 0 ((notB s).1.takeWhile ne93) = _ from k0]
    simp only [Option.bind_some, sumE_l, hfin]
    rw [show L_irexReader_set_4 (n + 1) (n + 1) _ _ 0 0 [] false 3 0 [] _ 0 [] _ ((256 : Nat) : Int) = _ from e4]
    unfold setR
    simp only
    rw [if_neg h]
    rfl
def ImplAt (md : Md) (s : Bytes) (b : Bool) (r : Nd × (Bytes × Bool)) : Prop :=
  match md with
  | .pat => Evt fun n => F_irexReader_pattern n s b = some (flat r)
  | .part => Evt fun n => F_irexReader_part n s b = some (flat r)
  | .piece => Evt fun n => F_irexReader_piece n s b = some (flat r)
  | .atom => Evt fun n => F_irexReader_atom n s b = some (flat r)
  | .patL ks => Ev2 fun n m => ∃ ks' s' b', L_irexReader_pattern_0 n m s b 0 0 [] false ks = some (.inl (s', (b', (0, (0, ([], (false, ks'))))))) ∧ (rxOr ks', (s', b')) = r
  | .partL ks => Ev2 fun n m => ∃ ks' s' b', L_irexReader_part_0 n m s b 0 0 [] false ks = some (.inl (s', (b', (0, (0, ([], (false, ks'))))))) ∧ (rxPart ks', (s', b')) = r
  | .pieceL t => Ev2 fun n m => L_irexReader_piece_0 n m s b 0 0 [] false t.1 t.2.1 t.2.2.1 t.2.2.2.1 t.2.2.2.2 = some (.inr (flat r))
theorem or_flat (ks : List Tr) (st : Bytes × Bool) : (cond ((ks.length : Int) == (1 : Int)) (cond (decide ((0 : Int) ≤ (0 : Int) ∧ (0 : Int) < (ks.length : Int))) ((TN_Tiisb ks 0).bind fun y2 => some (y2.1, (y2.2.1, (y2.2.2.1, (y2.2.2.2.1, (y2.2.2.2.2, (st.1, st.2))))))) none) (some ((7 : Int), ((0 : Int), (([] : Bytes), (false, (ks, (st.1, st.2)))))))) = some (flat (rxOr ks, st)) := by
  match ks with
  | [] => rfl
  | [k] => rw [TN_at]; rfl
  | a :: b :: r =>
    rw [bo_beq, bo_f (by simp only [List.length_cons]; omega)]
    rfl
theorem part_flat (ks : List Tr) (st : Bytes × Bool) : (cond ((ks.length : Int) == (0 : Int)) (some ((11 : Int), ((0 : Int), (([] : Bytes), (false, (([] : List Tr), (st.1, st.2))))))) (cond ((ks.length : Int) == (1 : Int)) (cond (decide ((0 : Int) ≤ (0 : Int) ∧ (0 : Int) < (ks.length : Int))) ((TN_Tiisb ks 0).bind fun y2 => some (y2.1, (y2.2.1, (y2.2.2.1, (y2.2.2.2.1, (y2.2.2.2.2, (st.1, st.2))))))) none) (some ((6 : Int), ((0 : Int), (([] : Bytes), (false, (ks, (st.1, st.2))))))))) = some (flat (rxPart ks, st)) := by
  match ks with
  | [] => rfl
  | [k] => rw [TN_at]; rfl
  | a :: b :: r =>
    rw [bo_beq, bo_beq, bo_f (P := _ = (0 : Int)) (by simp only [List.length_cons]; omega), bo_f (P := _ = (1 : Int)) (by simp only [List.length_cons]; omega)]
    rfl
theorem c124 : (UInt8.ofNat (Int.toNat 124) : UInt8) = 124 := rfl
theorem nxt_124 {s : Bytes} {b : Bool} {c : UInt8} (h : nxt s b = some c) (k : c.toNat = 124) : nxt s b = some 124 := by
  rw [h]; exact congrArg some (UInt8.toNat_inj.1 k)
theorem impl_all : ∀ f md s b r, iP f md s b = some r → s.length ≤ 60 → MdPre md s b → MdOk md s → ImplAt md s b r := by
  intro f
  induction f with
  | zero => intro md s b r h; simp [iP] at h
  | succ f ih =>
    intro md s b r h hs hpre hok
    cases md with
    | pat =>
      simp only [iP, Option.bind_eq_some_iff] at h
      obtain ⟨x, h1, h2⟩ := h
      obtain ⟨a1, a2, a3⟩ := iP_ok _ _ _ _ _ h1 hs trivial trivial
      simp only [MdLt] at a2
      have k1 := ih _ _ _ _ h1 hs trivial trivial
      have k2 := ih _ _ _ _ h2 (by omega) trivial ⟨by simp; omega, by simpa using SmT_mk a1⟩
      refine ((show Evt _ from k1).and (Ev2.diag k2)).nm fun n ⟨e1, ks', s', b', e2, e3⟩ => ?_
      subst e3
      rw [eq_irexReader_pattern, e1]
      simp only [Option.bind_some, flat, TM_mk]
      rw [show L_irexReader_pattern_0 n n x.2.1 x.2.2 0 0 [] false [mkT (x.1.1, (x.1.2.1, (x.1.2.2.1, (x.1.2.2.2.1, x.1.2.2.2.2))))] = _ from e2]
      simp only [Option.bind_some, sumE_l]
      exact or_flat ks' (s', b')
    | patL ks =>
      simp only [iP] at h
      split at h
      · rename_i hn
        cases h
        refine Ev2.stop (sp_take s b 124) fun n m e => ⟨ks, s, b, ?_, rfl⟩
        rw [eqL_irexReader_pattern_0, c124, e, hn]
        rfl
      · rename_i c hn
        obtain ⟨rfl, e⟩ := nxt_some hn
        have hl : s.length = s.tail.length + 1 := by rw [e]; simp
        split at h
        · rename_i hc
          simp only [Option.bind_eq_some_iff] at h
          obtain ⟨x, h1, h2⟩ := h
          obtain ⟨a1, a2, a3⟩ := iP_ok _ _ _ _ _ h1 (by omega) trivial trivial
          simp only [MdLt] at a2
          have hks := hok.1
          have k1 := ih _ _ _ _ h1 (by omega) trivial trivial
          have k2 := ih _ _ _ _ h2 (by omega) trivial ⟨by simp; omega, by
            intro k hk
            rcases List.mem_append.1 hk with hk | hk
            · exact hok.2 k hk
            · simp at hk; subst hk; exact SmT_mk a1⟩
          refine Ev2.step ((show Evt _ from k1).and (sp_take s false 124)) k2 fun n m ⟨e1, e2⟩ ⟨ks', s', b', e3, e4⟩ => ⟨ks', s', b', ?_, e4⟩
          rw [eqL_irexReader_pattern_0, c124, e2, if_pos (nxt_124 hn hc)]
          simp only [Option.bind_some, cond_true, e1, flat, TM_mk]
          rw [ble_big (by omega)]
          exact e3
        · rename_i hc
          cases h
          refine Ev2.stop (sp_take s false 124) fun n m e => ⟨ks, s, false, ?_, rfl⟩
          rw [eqL_irexReader_pattern_0, c124, e, if_neg (by rw [hn]; intro k; cases k; exact hc rfl)]
          rfl
    | part =>
      simp only [iP] at h
      have k := ih (.partL []) _ _ _ h hs trivial ⟨by simp; omega, by simp⟩
      refine (Ev2.diag k).nm fun n ⟨ks', s', b', e2, e3⟩ => ?_
      subst e3
      rw [eq_irexReader_part, e2]
      simp only [Option.bind_some, sumE_l]
      exact part_flat ks' (s', b')
    | partL ks =>
      simp only [iP] at h
      split at h
      · rename_i hn
        cases h
        refine Ev2.stop (sp_next s b) fun n m e => ⟨ks, s, b, ?_, rfl⟩
        rw [eqL_irexReader_part_0, e, hn]
        rfl
      · rename_i c hn
        obtain ⟨rfl, e⟩ := nxt_some hn
        split at h
        · rename_i hc
          cases h
          refine Ev2.stop (sp_next s false) fun n m e => ⟨ks, s, false, ?_, rfl⟩
          rw [eqL_irexReader_part_0, e, hn]
          simp only [Option.bind_some, Bool.not_true, cond_false, bo_beq]
          rcases hc with hc | hc
          · rw [bo_t (by omega)]; rfl
          · rw [bo_f (by omega), bo_t (by omega)]; rfl
        · rename_i hc
          simp only [Option.bind_eq_some_iff] at h
          obtain ⟨x, h1, h2⟩ := h
          have hpre' : MdPre .piece s false := ⟨by rw [e]; simp, rfl⟩
          obtain ⟨a1, a2, a3⟩ := iP_ok _ _ _ _ _ h1 hs hpre' trivial
          simp only [MdLt] at a2
          have hks := hok.1
          have k1 := ih _ _ _ _ h1 hs hpre' trivial
          have k2 := ih _ _ _ _ h2 (by omega) trivial ⟨by simp; omega, by
            intro k hk
            rcases List.mem_append.1 hk with hk | hk
            · exact hok.2 k hk
            · simp at hk; subst hk; exact SmT_mk a1⟩
          refine Ev2.step ((show Evt _ from k1).and (sp_next s false)) k2 fun n m ⟨e1, e2⟩ ⟨ks', s', b', e3, e4⟩ => ⟨ks', s', b', ?_, e4⟩
          rw [eqL_irexReader_part_0, e2, hn]
          simp only [Option.bind_some, Bool.not_true, cond_false, bo_beq]
          rw [bo_f (P := (c.toNat : Int) = 124) (by omega), bo_f (P := (c.toNat : Int) = 41) (by omega)]
          simp only [cond_false, e1, Option.bind_some, flat, TM_mk]
          rw [ble_big (by omega)]
          exact e3
    | piece =>
      simp only [iP, Option.bind_eq_some_iff] at h
      obtain ⟨x, h1, h2⟩ := h
      obtain ⟨a1, a2, a3⟩ := iP_ok _ _ _ _ _ h1 hs hpre trivial
      simp only [MdLt] at a2
      have k1 := ih _ _ _ _ h1 hs hpre trivial
      have k2 := ih _ _ _ _ h2 (by omega) trivial a1
      refine ((show Evt _ from k1).and (Ev2.diag k2)).nm fun n ⟨e1, e2⟩ => ?_
      rw [eq_irexReader_piece, e1]
      simp only [Option.bind_some, flat]
      rw [e2]
      rfl
    | pieceL t =>
      simp only [iP] at h
      split at h
      · rename_i hn
        cases h
        refine Ev2.stop (sp_next s b) fun n m e => ?_
        rw [eqL_irexReader_piece_0, e, hn]
        rfl
      · rename_i c hn
        obtain ⟨rfl, e⟩ := nxt_some hn
        have hl : s.length = s.tail.length + 1 := by rw [e]; simp
        split at h
        · rename_i hc
          cases h
          refine Ev2.stop ((sp_next s false).and (sp_repeatOf c)) fun n m ⟨e, e2⟩ => ?_
          rw [eqL_irexReader_piece_0, e, hn]
          simp only [Option.bind_some, Bool.not_true, cond_false, u8_id, e2, hc]
          rfl
        · rename_i hc
          have k2 := ih _ _ _ _ h (by omega) trivial ⟨by simp, by simpa using SmT_mk hok⟩
          refine Ev2.step ((sp_next s false).and (sp_repeatOf c)) k2 fun n m ⟨e, e2⟩ e3 => ?_
          rw [eqL_irexReader_piece_0, e, hn]
          simp only [Option.bind_some, Bool.not_true, cond_false, u8_id, e2, bo_beq, bo_f hc, tl_eq, TM_mk]
          rw [decide_eq_true (by omega)]
          exact e3
    | atom =>
      obtain ⟨hne, rfl⟩ := hpre
      cases s with
      | nil => exact absurd rfl hne
      | cons c rr =>
        simp only [List.length_cons] at hs
        have hn : nxt (c :: rr) false = some c := rfl
        simp only [iP] at h
        split at h
        · rename_i hc
          simp only [Option.bind_eq_some_iff] at h
          obtain ⟨x, h1, h2⟩ := h
          have k1 := ih _ _ _ _ h1 (by omega) trivial trivial
          cases h2
          refine (((show Evt _ from k1).and (sp_next (c :: rr) false)).and (sp_take x.2.1 x.2.2 41)).nm fun n ⟨⟨e1, e2⟩, e3⟩ => ?_
          rw [eq_irexReader_atom, e2, hn]
          simp only [Option.bind_some, tl_eq, List.tail_cons, bo_beq]
          rw [decide_eq_true (by simp only [List.length_cons]; omega), bo_t (by omega)]
          simp only [cond_true, e1, Option.bind_some, flat]
          rw [show F_irexReader_take n x.2.1 x.2.2 (UInt8.ofNat (Int.toNat 41)) = _ from e3]
          unfold closeR
          cases hx : nxt x.2.1 x.2.2 with
          | none => rfl
          | some d =>
            by_cases hd : d.toNat = 41
            · have : d = 41 := UInt8.toNat_inj.1 hd
              subst this
              rfl
            · have : ¬ (some d = some (41 : UInt8)) := by intro k; cases k; exact hd rfl
              rw [if_neg this]
              simp only [hd, if_false]
              rfl
        · rename_i hc
          cases h
          have base := sp_next (c :: rr) false
          have h40 : bo ((c.toNat : Int) = 40) = false := bo_f (by omega)
          show Evt fun n => F_irexReader_atom n (c :: rr) false = some (flat (atomR c rr))
          unfold atomR
          by_cases c1 : c.toNat = 46
          · rw [if_pos c1]
            refine base.nm fun n e2 => ?_
            rw [eq_irexReader_atom, e2, hn]
            simp only [Option.bind_some, tl_eq, List.tail_cons, bo_beq, h40, bo_t (show (c.toNat : Int) = 46 by omega)]
            rw [decide_eq_true (by simp only [List.length_cons]; omega)]
            rfl
          rw [if_neg c1]
          have h46 : bo ((c.toNat : Int) = 46) = false := bo_f (by omega)
          by_cases c2 : c.toNat = 94
          · rw [if_pos c2]
            refine base.nm fun n e2 => ?_
            rw [eq_irexReader_atom, e2, hn]
            simp only [Option.bind_some, tl_eq, List.tail_cons, bo_beq, h40, h46, bo_t (show (c.toNat : Int) = 94 by omega)]
            rw [decide_eq_true (by simp only [List.length_cons]; omega)]
            rfl
          rw [if_neg c2]
          have h94 : bo ((c.toNat : Int) = 94) = false := bo_f (by omega)
          by_cases c3 : c.toNat = 36
          · rw [if_pos c3]
            refine base.nm fun n e2 => ?_
            rw [eq_irexReader_atom, e2, hn]
            simp only [Option.bind_some, tl_eq, List.tail_cons, bo_beq, h40, h46, h94, bo_t (show (c.toNat : Int) = 36 by omega)]
            rw [decide_eq_true (by simp only [List.length_cons]; omega)]
            rfl
          rw [if_neg c3]
          have h36 : bo ((c.toNat : Int) = 36) = false := bo_f (by omega)
          by_cases c4 : c.toNat = 91
          · rw [if_pos c4]
            refine (base.and (setI_exact rr (by omega))).nm fun n ⟨e2, e3⟩ => ?_
            rw [eq_irexReader_atom, e2, hn]
            simp only [Option.bind_some, tl_eq, List.tail_cons, bo_beq, h40, h46, h94, h36, bo_t (show (c.toNat : Int) = 91 by omega)]
            rw [decide_eq_true (by simp only [List.length_cons]; omega)]
            simp only [cond_true, cond_false, e3, Option.bind_some]
            have hk : (setR rr).1.2.2.2.2 = [] := by
              unfold setR
              simp only
              split <;> rfl
            unfold flat
            rw [hk]
          rw [if_neg c4]
          have h91 : bo ((c.toNat : Int) = 91) = false := bo_f (by omega)
          by_cases c5 : c.toNat = 92
          · rw [if_pos c5]
            cases rr with
            | nil =>
              refine (base.and (sp_next [] false)).nm fun n ⟨e2, e3⟩ => ?_
              rw [eq_irexReader_atom, e2, hn]
              simp only [Option.bind_some, tl_eq, List.tail_cons, bo_beq, h40, h46, h94, h36, h91, bo_t (show (c.toNat : Int) = 92 by omega), e3]
              rfl
            | cons d rr =>
              refine (base.and (sp_next (d :: rr) false)).nm fun n ⟨e2, e3⟩ => ?_
              rw [eq_irexReader_atom, e2, hn]
              simp only [Option.bind_some, tl_eq, List.tail_cons, bo_beq, h40, h46, h94, h36, h91, bo_t (show (c.toNat : Int) = 92 by omega), e3]
              rw [decide_eq_true (by simp only [List.length_cons]; omega), show nxt (d :: rr) false = some d from rfl]
              simp only [cond_true, cond_false, Option.bind_some, Bool.not_true]
              rw [decide_eq_true (by simp only [List.length_cons]; omega), show IntKind.wrap .i64 (d.toNat : Int) = (d.toNat : Int) by have := d.toNat_lt; rw [IntKind.wrap_i64]; omega]
              rfl
          rw [if_neg c5]
          have h92 : bo ((c.toNat : Int) = 92) = false := bo_f (by omega)
          refine base.nm fun n e2 => ?_
          rw [eq_irexReader_atom, e2, hn]
          simp only [Option.bind_some, tl_eq, List.tail_cons, bo_beq, h40, h46, h94, h36, h91, h92]
          rw [decide_eq_true (by simp only [List.length_cons]; omega)]
          by_cases c6 : c.toNat = 42
          · rw [if_pos (.inl c6), bo_t (by omega)]; rfl
          by_cases c7 : c.toNat = 43
          · rw [if_pos (.inr (.inl c7)), bo_f (P := (c.toNat : Int) = 42) (by omega), bo_t (by omega)]; rfl
          by_cases c8 : c.toNat = 63
          · rw [if_pos (.inr (.inr c8)), bo_f (P := (c.toNat : Int) = 42) (by omega), bo_f (P := (c.toNat : Int) = 43) (by omega), bo_t (by omega)]; rfl
          rw [if_neg (by omega), bo_f (P := (c.toNat : Int) = 42) (by omega), bo_f (P := (c.toNat : Int) = 43) (by omega), bo_f (P := (c.toNat : Int) = 63) (by omega), show IntKind.wrap .i64 (c.toNat : Int) = (c.toNat : Int) by have := c.toNat_lt; rw [IntKind.wrap_i64]; omega]
          rfl
end Go.Proofs.YtmabfdnconccnaaGreatDoor
