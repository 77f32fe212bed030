/- Sizes, copies and comparisons of a law's data. -/
import Derived.Test.YtmabfdnconccnaaGreatDoorEq
namespace Go.Proofs.YtmabfdnconccnaaGreatDoor
open Go Go.Ev
theorem sp_szStringS (x0 : t_s) (ho : okI c_s x0) : Evt fun n => ∀ x1 : Int, 0 ≤ x1 → x1 ≤ 1048576 → ∃ v : Int, F_szStringS n x0 x1 = some v ∧ v ≤ 1048576 ∧ (0 ≤ v → smI c_s x0) := by
  by_cases hlen : x0.length ≤ 1048576
  · have hloop := sz_loop (sm := fun x => smL (elemTs c_s) x) (l := x0) hlen (L := fun n m i left => L_szStringS_0 n m i x0 left) ?_ (fun n m left => by rw [eqL_szStringS_0]; simp)
    · refine Evt.succ (hloop.mono fun n h x1 hl0 hl1 => ?_)
      rw [eq_szStringS, len_wrap (cur := x1) (k := x0.length) hl0 hl1 ho.1]
      by_cases c : (x1 - (x0.length : Int)) < 0
      · rw [decide_eq_true c]; exact ⟨-1, rfl, by omega, fun h => absurd h (by omega)⟩
      rw [decide_eq_false c]
      obtain ⟨r, e, k1, k2⟩ := h (x1 - (x0.length : Int)) (by omega) (by omega)
      simp only [cond_false, e, Option.bind_some]
      cases r with
      | inl v => exact ⟨v, rfl, (k1 v rfl).2.1, fun _ => And.intro hlen (k1 v rfl).2.2⟩
      | inr v => exact ⟨v, rfl, by rw [k2 v rfl]; omega, fun h => absurd h (by rw [k2 v rfl]; omega)⟩
    · refine Evt.of fun n m i x left hi h0 h1 => ?_
      obtain ⟨hlt, rfl⟩ := List.getElem?_eq_some_iff.1 hi
      have hx := ho.2 _ (List.getElem_mem hlt)
      refine ⟨left - (x0[i].length : Int), ?_, by omega, fun h => show x0[i].length ≤ 1048576 by omega⟩
      rw [eqL_szStringS_0, decide_eq_true (by omega), atZ_at hlt]
      simp only [cond_true, Option.bind_some, len_wrap h0 h1 hx]
  · refine Evt.succ (Evt.of fun n x1 hl0 hl1 => ?_)
    rw [eq_szStringS, len_wrap (cur := x1) (k := x0.length) hl0 hl1 ho.1, decide_eq_true (by omega)]
    exact ⟨-1, rfl, by omega, fun h => absurd h (by omega)⟩
theorem sp_szOp (x0 : Int) (x1 : Int) (x2 : Bytes) (ho : okL (.cons (.int .i64) (.cons (.int .i64) (.one .str))) (x0, (x1, x2))) : Evt fun n => ∀ x3 : Int, 0 ≤ x3 → x3 ≤ 1048576 → ∃ v : Int, F_szOp n x0 x1 x2 x3 = some v ∧ v ≤ 1048576 ∧ (0 ≤ v → smL (.cons (.int .i64) (.cons (.int .i64) (.one .str))) (x0, (x1, x2))) := by
  obtain ⟨o0, o1, o2⟩ := ho
  refine Evt.succ (Evt.of fun n x3 hl0 hl1 => ?_)
  rw [eq_szOp]
  rw [len_wrap (cur := x3) (k := x2.length) (by omega) (by omega) o2]
  obtain ⟨v0, ev0⟩ : ∃ v : Int, v = x3 - (x2.length : Int) := ⟨_, rfl⟩
  rw [← ev0]
  by_cases cv0 : v0 < 0
  · rw [decide_eq_true cv0]; exact ⟨-1, rfl, by omega, fun h => absurd h (by omega)⟩
  rw [decide_eq_false cv0]; simp only [cond_false]
  have t2 : x2.length ≤ 1048576 := by omega
  exact ⟨v0, rfl, by omega, fun _ => (And.intro trivial (And.intro trivial t2))⟩
theorem sp_szOpS (x0 : t_iis) (ho : okI c_iis x0) : Evt fun n => ∀ x1 : Int, 0 ≤ x1 → x1 ≤ 1048576 → ∃ v : Int, F_szOpS n x0 x1 = some v ∧ v ≤ 1048576 ∧ (0 ≤ v → smI c_iis x0) := by
  by_cases hlen : x0.length ≤ 1048576
  · have hloop := sz_loop (sm := fun x => smL (elemTs c_iis) x) (l := x0) hlen (L := fun n m i left => L_szOpS_0 n m i left x0) ?_ (fun n m left => by rw [eqL_szOpS_0]; simp)
    · refine Evt.succ (hloop.mono fun n h x1 hl0 hl1 => ?_)
      rw [eq_szOpS, len_wrap (cur := x1) (k := x0.length) hl0 hl1 ho.1]
      by_cases c : (x1 - (x0.length : Int)) < 0
      · rw [decide_eq_true c]; exact ⟨-1, rfl, by omega, fun h => absurd h (by omega)⟩
      rw [decide_eq_false c]
      obtain ⟨r, e, k1, k2⟩ := h (x1 - (x0.length : Int)) (by omega) (by omega)
      simp only [cond_false, e, Option.bind_some]
      cases r with
      | inl v => exact ⟨v, rfl, (k1 v rfl).2.1, fun _ => And.intro hlen (k1 v rfl).2.2⟩
      | inr v => exact ⟨v, rfl, by rw [k2 v rfl]; omega, fun h => absurd h (by rw [k2 v rfl]; omega)⟩
    · refine (Evt.all x0 fun x hx => sp_szOp x.1 x.2.1 x.2.2 (ho.2 x hx)).mono fun n h m i x left hi h0 h1 => ?_
      obtain ⟨hlt, rfl⟩ := List.getElem?_eq_some_iff.1 hi
      obtain ⟨v, e, k1, k2⟩ := h _ (List.getElem_mem hlt) left h0 h1
      refine ⟨v, ?_, k1, k2⟩
      rw [eqL_szOpS_0, decide_eq_true (by omega), atZ_at hlt]
      simp only [cond_true, Option.bind_some, e]
  · refine Evt.succ (Evt.of fun n x1 hl0 hl1 => ?_)
    rw [eq_szOpS, len_wrap (cur := x1) (k := x0.length) hl0 hl1 ho.1, decide_eq_true (by omega)]
    exact ⟨-1, rfl, by omega, fun h => absurd h (by omega)⟩
theorem sp_szProg (x0 : t_s) (x1 : t_s) (x2 : t_iis) (x3 : t_iis) (ho : okL (.cons c_s (.cons c_s (.cons c_iis (.one c_iis)))) (x0, (x1, (x2, x3)))) : Evt fun n => ∀ x4 : Int, 0 ≤ x4 → x4 ≤ 1048576 → ∃ v : Int, F_szProg n x0 x1 x2 x3 x4 = some v ∧ v ≤ 1048576 ∧ (0 ≤ v → smL (.cons c_s (.cons c_s (.cons c_iis (.one c_iis)))) (x0, (x1, (x2, x3)))) := by
  obtain ⟨o0, o1, o2, o3⟩ := ho
  refine Evt.succ (((((sp_szStringS x0 o0).and (sp_szStringS x1 o1)).and (sp_szOpS x2 o2)).and (sp_szOpS x3 o3)).mono fun n ⟨⟨⟨h0, h1⟩, h2⟩, h3⟩ x4 hl0 hl1 => ?_)
  rw [eq_szProg]
  obtain ⟨v0, ev0, lv0, sv0⟩ := h0 x4 (by omega) (by omega)
  rw [ev0]; simp only [Option.bind_some]
  by_cases cv0 : v0 < 0
  · rw [decide_eq_true cv0]; exact ⟨-1, rfl, by omega, fun h => absurd h (by omega)⟩
  rw [decide_eq_false cv0]; simp only [cond_false]
  have t0 := sv0 (by omega)
  obtain ⟨v1, ev1, lv1, sv1⟩ := h1 v0 (by omega) (by omega)
  rw [ev1]; simp only [Option.bind_some]
  by_cases cv1 : v1 < 0
  · rw [decide_eq_true cv1]; exact ⟨-1, rfl, by omega, fun h => absurd h (by omega)⟩
  rw [decide_eq_false cv1]; simp only [cond_false]
  have t1 := sv1 (by omega)
  obtain ⟨v2, ev2, lv2, sv2⟩ := h2 v1 (by omega) (by omega)
  rw [ev2]; simp only [Option.bind_some]
  by_cases cv2 : v2 < 0
  · rw [decide_eq_true cv2]; exact ⟨-1, rfl, by omega, fun h => absurd h (by omega)⟩
  rw [decide_eq_false cv2]; simp only [cond_false]
  have t2 := sv2 (by omega)
  obtain ⟨v3, ev3, lv3, sv3⟩ := h3 v2 (by omega) (by omega)
  rw [ev3]; simp only [Option.bind_some]
  by_cases cv3 : v3 < 0
  · rw [decide_eq_true cv3]; exact ⟨-1, rfl, by omega, fun h => absurd h (by omega)⟩
  rw [decide_eq_false cv3]; simp only [cond_false]
  have t3 := sv3 (by omega)
  exact ⟨v3, rfl, by omega, fun _ => (And.intro t0 (And.intro t1 (And.intro t2 t3)))⟩
theorem sp_szCmd (x0 : Int) (x1 : Int) (x2 : Bytes) (ho : okL (.cons (.int .i64) (.cons (.int .i64) (.one .str))) (x0, (x1, x2))) : Evt fun n => ∀ x3 : Int, 0 ≤ x3 → x3 ≤ 1048576 → ∃ v : Int, F_szCmd n x0 x1 x2 x3 = some v ∧ v ≤ 1048576 ∧ (0 ≤ v → smL (.cons (.int .i64) (.cons (.int .i64) (.one .str))) (x0, (x1, x2))) := by
  obtain ⟨o0, o1, o2⟩ := ho
  refine Evt.succ (Evt.of fun n x3 hl0 hl1 => ?_)
  rw [eq_szCmd]
  rw [len_wrap (cur := x3) (k := x2.length) (by omega) (by omega) o2]
  obtain ⟨v0, ev0⟩ : ∃ v : Int, v = x3 - (x2.length : Int) := ⟨_, rfl⟩
  rw [← ev0]
  by_cases cv0 : v0 < 0
  · rw [decide_eq_true cv0]; exact ⟨-1, rfl, by omega, fun h => absurd h (by omega)⟩
  rw [decide_eq_false cv0]; simp only [cond_false]
  have t2 : x2.length ≤ 1048576 := by omega
  exact ⟨v0, rfl, by omega, fun _ => (And.intro trivial (And.intro trivial t2))⟩
theorem sp_szEntry (x0 : Int) (x1 : Int) (x2 : Int) (x3 : Bytes) (ho : okL (.cons (.int .i64) (.cons (.int .i64) (.cons (.int .i64) (.one .str)))) (x0, (x1, (x2, x3)))) : Evt fun n => ∀ x4 : Int, 0 ≤ x4 → x4 ≤ 1048576 → ∃ v : Int, F_szEntry n x0 x1 x2 x3 x4 = some v ∧ v ≤ 1048576 ∧ (0 ≤ v → smL (.cons (.int .i64) (.cons (.int .i64) (.cons (.int .i64) (.one .str)))) (x0, (x1, (x2, x3)))) := by
  obtain ⟨o0, o1, o2, o3⟩ := ho
  refine Evt.succ ((sp_szCmd x1 x2 x3 (And.intro o1 (And.intro o2 o3))).mono fun n h0 x4 hl0 hl1 => ?_)
  rw [eq_szEntry]
  obtain ⟨v0, ev0, lv0, sv0⟩ := h0 x4 (by omega) (by omega)
  rw [ev0]; simp only [Option.bind_some]
  by_cases cv0 : v0 < 0
  · rw [decide_eq_true cv0]; exact ⟨-1, rfl, by omega, fun h => absurd h (by omega)⟩
  rw [decide_eq_false cv0]; simp only [cond_false]
  obtain ⟨t1, t2, t3⟩ := sv0 (by omega)
  exact ⟨v0, rfl, by omega, fun _ => (And.intro trivial (And.intro t1 (And.intro t2 t3)))⟩
theorem sp_szEntryS (x0 : t_iiis) (ho : okI c_iiis x0) : Evt fun n => ∀ x1 : Int, 0 ≤ x1 → x1 ≤ 1048576 → ∃ v : Int, F_szEntryS n x0 x1 = some v ∧ v ≤ 1048576 ∧ (0 ≤ v → smI c_iiis x0) := by
  by_cases hlen : x0.length ≤ 1048576
  · have hloop := sz_loop (sm := fun x => smL (elemTs c_iiis) x) (l := x0) hlen (L := fun n m i left => L_szEntryS_0 n m i left x0) ?_ (fun n m left => by rw [eqL_szEntryS_0]; simp)
    · refine Evt.succ (hloop.mono fun n h x1 hl0 hl1 => ?_)
      rw [eq_szEntryS, len_wrap (cur := x1) (k := x0.length) hl0 hl1 ho.1]
      by_cases c : (x1 - (x0.length : Int)) < 0
      · rw [decide_eq_true c]; exact ⟨-1, rfl, by omega, fun h => absurd h (by omega)⟩
      rw [decide_eq_false c]
      obtain ⟨r, e, k1, k2⟩ := h (x1 - (x0.length : Int)) (by omega) (by omega)
      simp only [cond_false, e, Option.bind_some]
      cases r with
      | inl v => exact ⟨v, rfl, (k1 v rfl).2.1, fun _ => And.intro hlen (k1 v rfl).2.2⟩
      | inr v => exact ⟨v, rfl, by rw [k2 v rfl]; omega, fun h => absurd h (by rw [k2 v rfl]; omega)⟩
    · refine (Evt.all x0 fun x hx => sp_szEntry x.1 x.2.1 x.2.2.1 x.2.2.2 (ho.2 x hx)).mono fun n h m i x left hi h0 h1 => ?_
      obtain ⟨hlt, rfl⟩ := List.getElem?_eq_some_iff.1 hi
      obtain ⟨v, e, k1, k2⟩ := h _ (List.getElem_mem hlt) left h0 h1
      refine ⟨v, ?_, k1, k2⟩
      rw [eqL_szEntryS_0, decide_eq_true (by omega), atZ_at hlt]
      simp only [cond_true, Option.bind_some, e]
  · refine Evt.succ (Evt.of fun n x1 hl0 hl1 => ?_)
    rw [eq_szEntryS, len_wrap (cur := x1) (k := x0.length) hl0 hl1 ho.1, decide_eq_true (by omega)]
    exact ⟨-1, rfl, by omega, fun h => absurd h (by omega)⟩
theorem sp_szLog (x0 : Int) (x1 : Int) (x2 : t_iiis) (ho : okL (.cons (.int .i64) (.cons (.int .i64) (.one c_iiis))) (x0, (x1, x2))) : Evt fun n => ∀ x3 : Int, 0 ≤ x3 → x3 ≤ 1048576 → ∃ v : Int, F_szLog n x0 x1 x2 x3 = some v ∧ v ≤ 1048576 ∧ (0 ≤ v → smL (.cons (.int .i64) (.cons (.int .i64) (.one c_iiis))) (x0, (x1, x2))) := by
  obtain ⟨o0, o1, o2⟩ := ho
  refine Evt.succ ((sp_szEntryS x2 o2).mono fun n h0 x3 hl0 hl1 => ?_)
  rw [eq_szLog]
  obtain ⟨v0, ev0, lv0, sv0⟩ := h0 x3 (by omega) (by omega)
  rw [ev0]; simp only [Option.bind_some]
  by_cases cv0 : v0 < 0
  · rw [decide_eq_true cv0]; exact ⟨-1, rfl, by omega, fun h => absurd h (by omega)⟩
  rw [decide_eq_false cv0]; simp only [cond_false]
  have t2 := sv0 (by omega)
  exact ⟨v0, rfl, by omega, fun _ => (And.intro trivial (And.intro trivial t2))⟩
theorem sp_szVal (x0 : Int) (x1 : Int) (x2 : Bytes) (ho : okL (.cons (.int .i64) (.cons (.int .i64) (.one .str))) (x0, (x1, x2))) : Evt fun n => ∀ x3 : Int, 0 ≤ x3 → x3 ≤ 1048576 → ∃ v : Int, F_szVal n x0 x1 x2 x3 = some v ∧ v ≤ 1048576 ∧ (0 ≤ v → smL (.cons (.int .i64) (.cons (.int .i64) (.one .str))) (x0, (x1, x2))) := by
  obtain ⟨o0, o1, o2⟩ := ho
  refine Evt.succ (Evt.of fun n x3 hl0 hl1 => ?_)
  rw [eq_szVal]
  rw [len_wrap (cur := x3) (k := x2.length) (by omega) (by omega) o2]
  obtain ⟨v0, ev0⟩ : ∃ v : Int, v = x3 - (x2.length : Int) := ⟨_, rfl⟩
  rw [← ev0]
  by_cases cv0 : v0 < 0
  · rw [decide_eq_true cv0]; exact ⟨-1, rfl, by omega, fun h => absurd h (by omega)⟩
  rw [decide_eq_false cv0]; simp only [cond_false]
  have t2 : x2.length ≤ 1048576 := by omega
  exact ⟨v0, rfl, by omega, fun _ => (And.intro trivial (And.intro trivial t2))⟩
theorem sp_szValS (x0 : t_iis) (ho : okI c_iis x0) : Evt fun n => ∀ x1 : Int, 0 ≤ x1 → x1 ≤ 1048576 → ∃ v : Int, F_szValS n x0 x1 = some v ∧ v ≤ 1048576 ∧ (0 ≤ v → smI c_iis x0) := by
  by_cases hlen : x0.length ≤ 1048576
  · have hloop := sz_loop (sm := fun x => smL (elemTs c_iis) x) (l := x0) hlen (L := fun n m i left => L_szValS_0 n m i left x0) ?_ (fun n m left => by rw [eqL_szValS_0]; simp)
    · refine Evt.succ (hloop.mono fun n h x1 hl0 hl1 => ?_)
      rw [eq_szValS, len_wrap (cur := x1) (k := x0.length) hl0 hl1 ho.1]
      by_cases c : (x1 - (x0.length : Int)) < 0
      · rw [decide_eq_true c]; exact ⟨-1, rfl, by omega, fun h => absurd h (by omega)⟩
      rw [decide_eq_false c]
      obtain ⟨r, e, k1, k2⟩ := h (x1 - (x0.length : Int)) (by omega) (by omega)
      simp only [cond_false, e, Option.bind_some]
      cases r with
      | inl v => exact ⟨v, rfl, (k1 v rfl).2.1, fun _ => And.intro hlen (k1 v rfl).2.2⟩
      | inr v => exact ⟨v, rfl, by rw [k2 v rfl]; omega, fun h => absurd h (by rw [k2 v rfl]; omega)⟩
    · refine (Evt.all x0 fun x hx => sp_szVal x.1 x.2.1 x.2.2 (ho.2 x hx)).mono fun n h m i x left hi h0 h1 => ?_
      obtain ⟨hlt, rfl⟩ := List.getElem?_eq_some_iff.1 hi
      obtain ⟨v, e, k1, k2⟩ := h _ (List.getElem_mem hlt) left h0 h1
      refine ⟨v, ?_, k1, k2⟩
      rw [eqL_szValS_0, decide_eq_true (by omega), atZ_at hlt]
      simp only [cond_true, Option.bind_some, e]
  · refine Evt.succ (Evt.of fun n x1 hl0 hl1 => ?_)
    rw [eq_szValS, len_wrap (cur := x1) (k := x0.length) hl0 hl1 ho.1, decide_eq_true (by omega)]
    exact ⟨-1, rfl, by omega, fun h => absurd h (by omega)⟩
theorem sp_szCell (x0 : Int) (x1 : Bytes) (x2 : Int) (x3 : Int) (x4 : Bytes) (ho : okL (.cons (.int .i64) (.cons .str (.cons (.int .i64) (.cons (.int .i64) (.one .str))))) (x0, (x1, (x2, (x3, x4))))) : Evt fun n => ∀ x5 : Int, 0 ≤ x5 → x5 ≤ 1048576 → ∃ v : Int, F_szCell n x0 x1 x2 x3 x4 x5 = some v ∧ v ≤ 1048576 ∧ (0 ≤ v → smL (.cons (.int .i64) (.cons .str (.cons (.int .i64) (.cons (.int .i64) (.one .str))))) (x0, (x1, (x2, (x3, x4))))) := by
  obtain ⟨o0, o1, o2, o3, o4⟩ := ho
  refine Evt.succ ((sp_szVal x2 x3 x4 (And.intro o2 (And.intro o3 o4))).mono fun n h0 x5 hl0 hl1 => ?_)
  rw [eq_szCell]
  rw [len_wrap (cur := x5) (k := x1.length) (by omega) (by omega) o1]
  obtain ⟨v0, ev0⟩ : ∃ v : Int, v = x5 - (x1.length : Int) := ⟨_, rfl⟩
  rw [← ev0]
  by_cases cv0 : v0 < 0
  · rw [decide_eq_true cv0]; exact ⟨-1, rfl, by omega, fun h => absurd h (by omega)⟩
  rw [decide_eq_false cv0]; simp only [cond_false]
  have t1 : x1.length ≤ 1048576 := by omega
  obtain ⟨v1, ev1, lv1, sv1⟩ := h0 v0 (by omega) (by omega)
  rw [ev1]; simp only [Option.bind_some]
  by_cases cv1 : v1 < 0
  · rw [decide_eq_true cv1]; exact ⟨-1, rfl, by omega, fun h => absurd h (by omega)⟩
  rw [decide_eq_false cv1]; simp only [cond_false]
  obtain ⟨t2, t3, t4⟩ := sv1 (by omega)
  exact ⟨v1, rfl, by omega, fun _ => (And.intro trivial (And.intro t1 (And.intro t2 (And.intro t3 t4))))⟩
theorem sp_szCellS (x0 : t_isiis) (ho : okI c_isiis x0) : Evt fun n => ∀ x1 : Int, 0 ≤ x1 → x1 ≤ 1048576 → ∃ v : Int, F_szCellS n x0 x1 = some v ∧ v ≤ 1048576 ∧ (0 ≤ v → smI c_isiis x0) := by
  by_cases hlen : x0.length ≤ 1048576
  · have hloop := sz_loop (sm := fun x => smL (elemTs c_isiis) x) (l := x0) hlen (L := fun n m i left => L_szCellS_0 n m i left x0) ?_ (fun n m left => by rw [eqL_szCellS_0]; simp)
    · refine Evt.succ (hloop.mono fun n h x1 hl0 hl1 => ?_)
      rw [eq_szCellS, len_wrap (cur := x1) (k := x0.length) hl0 hl1 ho.1]
      by_cases c : (x1 - (x0.length : Int)) < 0
      · rw [decide_eq_true c]; exact ⟨-1, rfl, by omega, fun h => absurd h (by omega)⟩
      rw [decide_eq_false c]
      obtain ⟨r, e, k1, k2⟩ := h (x1 - (x0.length : Int)) (by omega) (by omega)
      simp only [cond_false, e, Option.bind_some]
      cases r with
      | inl v => exact ⟨v, rfl, (k1 v rfl).2.1, fun _ => And.intro hlen (k1 v rfl).2.2⟩
      | inr v => exact ⟨v, rfl, by rw [k2 v rfl]; omega, fun h => absurd h (by rw [k2 v rfl]; omega)⟩
    · refine (Evt.all x0 fun x hx => sp_szCell x.1 x.2.1 x.2.2.1 x.2.2.2.1 x.2.2.2.2 (ho.2 x hx)).mono fun n h m i x left hi h0 h1 => ?_
      obtain ⟨hlt, rfl⟩ := List.getElem?_eq_some_iff.1 hi
      obtain ⟨v, e, k1, k2⟩ := h _ (List.getElem_mem hlt) left h0 h1
      refine ⟨v, ?_, k1, k2⟩
      rw [eqL_szCellS_0, decide_eq_true (by omega), atZ_at hlt]
      simp only [cond_true, Option.bind_some, e]
  · refine Evt.succ (Evt.of fun n x1 hl0 hl1 => ?_)
    rw [eq_szCellS, len_wrap (cur := x1) (k := x0.length) hl0 hl1 ho.1, decide_eq_true (by omega)]
    exact ⟨-1, rfl, by omega, fun h => absurd h (by omega)⟩
theorem sp_szState (x0 : t_iis) (x1 : t_isiis) (x2 : Int) (x3 : Int) (ho : okL (.cons c_iis (.cons c_isiis (.cons (.int .i64) (.one (.int .i64))))) (x0, (x1, (x2, x3)))) : Evt fun n => ∀ x4 : Int, 0 ≤ x4 → x4 ≤ 1048576 → ∃ v : Int, F_szState n x0 x1 x2 x3 x4 = some v ∧ v ≤ 1048576 ∧ (0 ≤ v → smL (.cons c_iis (.cons c_isiis (.cons (.int .i64) (.one (.int .i64))))) (x0, (x1, (x2, x3)))) := by
  obtain ⟨o0, o1, o2, o3⟩ := ho
  refine Evt.succ (((sp_szValS x0 o0).and (sp_szCellS x1 o1)).mono fun n ⟨h0, h1⟩ x4 hl0 hl1 => ?_)
  rw [eq_szState]
  obtain ⟨v0, ev0, lv0, sv0⟩ := h0 x4 (by omega) (by omega)
  rw [ev0]; simp only [Option.bind_some]
  by_cases cv0 : v0 < 0
  · rw [decide_eq_true cv0]; exact ⟨-1, rfl, by omega, fun h => absurd h (by omega)⟩
  rw [decide_eq_false cv0]; simp only [cond_false]
  have t0 := sv0 (by omega)
  obtain ⟨v1, ev1, lv1, sv1⟩ := h1 v0 (by omega) (by omega)
  rw [ev1]; simp only [Option.bind_some]
  by_cases cv1 : v1 < 0
  · rw [decide_eq_true cv1]; exact ⟨-1, rfl, by omega, fun h => absurd h (by omega)⟩
  rw [decide_eq_false cv1]; simp only [cond_false]
  have t1 := sv1 (by omega)
  exact ⟨v1, rfl, by omega, fun _ => (And.intro t0 (And.intro t1 (And.intro trivial trivial)))⟩
theorem sp_szIntS (x0 : t_i) (ho : okI c_i x0) : Evt fun n => ∀ x1 : Int, 0 ≤ x1 → x1 ≤ 1048576 → ∃ v : Int, F_szIntS n x0 x1 = some v ∧ v ≤ 1048576 ∧ (0 ≤ v → smI c_i x0) := by
  refine Evt.succ (Evt.of fun n x1 hl0 hl1 => ?_)
  rw [eq_szIntS, len_wrap (cur := x1) (k := x0.length) hl0 hl1 ho.1]
  by_cases c : (x1 - (x0.length : Int)) < 0
  · rw [decide_eq_true c]; exact ⟨-1, rfl, by omega, fun h => absurd h (by omega)⟩
  rw [decide_eq_false c]
  exact ⟨_, rfl, by omega, fun _ => And.intro (show x0.length ≤ 1048576 by omega) (fun _ _ => trivial)⟩
theorem sp_szMach (x0 : t_iis) (x1 : t_isiis) (x2 : Int) (x3 : Int) (x4 : t_i) (x5 : Bytes) (ho : okL (.cons c_iis (.cons c_isiis (.cons (.int .i64) (.cons (.int .i64) (.cons c_i (.one .str)))))) (x0, (x1, (x2, (x3, (x4, x5)))))) : Evt fun n => ∀ x6 : Int, 0 ≤ x6 → x6 ≤ 1048576 → ∃ v : Int, F_szMach n x0 x1 x2 x3 x4 x5 x6 = some v ∧ v ≤ 1048576 ∧ (0 ≤ v → smL (.cons c_iis (.cons c_isiis (.cons (.int .i64) (.cons (.int .i64) (.cons c_i (.one .str)))))) (x0, (x1, (x2, (x3, (x4, x5)))))) := by
  obtain ⟨o0, o1, o2, o3, o4, o5⟩ := ho
  refine Evt.succ (((sp_szState x0 x1 x2 x3 (And.intro o0 (And.intro o1 (And.intro o2 o3)))).and (sp_szIntS x4 o4)).mono fun n ⟨h0, h1⟩ x6 hl0 hl1 => ?_)
  rw [eq_szMach]
  obtain ⟨v0, ev0, lv0, sv0⟩ := h0 x6 (by omega) (by omega)
  rw [ev0]; simp only [Option.bind_some]
  by_cases cv0 : v0 < 0
  · rw [decide_eq_true cv0]; exact ⟨-1, rfl, by omega, fun h => absurd h (by omega)⟩
  rw [decide_eq_false cv0]; simp only [cond_false]
  obtain ⟨t0, t1, t2, t3⟩ := sv0 (by omega)
  obtain ⟨v1, ev1, lv1, sv1⟩ := h1 v0 (by omega) (by omega)
  rw [ev1]; simp only [Option.bind_some]
  by_cases cv1 : v1 < 0
  · rw [decide_eq_true cv1]; exact ⟨-1, rfl, by omega, fun h => absurd h (by omega)⟩
  rw [decide_eq_false cv1]; simp only [cond_false]
  have t4 := sv1 (by omega)
  rw [len_wrap (cur := v1) (k := x5.length) (by omega) (by omega) o5]
  obtain ⟨v2, ev2⟩ : ∃ v : Int, v = v1 - (x5.length : Int) := ⟨_, rfl⟩
  rw [← ev2]
  by_cases cv2 : v2 < 0
  · rw [decide_eq_true cv2]; exact ⟨-1, rfl, by omega, fun h => absurd h (by omega)⟩
  rw [decide_eq_false cv2]; simp only [cond_false]
  have t5 : x5.length ≤ 1048576 := by omega
  exact ⟨v2, rfl, by omega, fun _ => (And.intro t0 (And.intro t1 (And.intro t2 (And.intro t3 (And.intro t4 t5)))))⟩
theorem sp_szHard (x0 : Int) (x1 : Int) (x2 : Int) (x3 : Int) (x4 : t_iiis) (x5 : t_iis) (x6 : t_isiis) (x7 : Int) (x8 : Int) (x9 : t_i) (x10 : Bytes) (ho : okL (.cons (.int .i64) (.cons (.int .i64) (.cons (.int .i64) (.cons (.int .i64) (.cons c_iiis (.cons c_iis (.cons c_isiis (.cons (.int .i64) (.cons (.int .i64) (.cons c_i (.one .str))))))))))) (x0, (x1, (x2, (x3, (x4, (x5, (x6, (x7, (x8, (x9, x10))))))))))) : Evt fun n => ∀ x11 : Int, 0 ≤ x11 → x11 ≤ 1048576 → ∃ v : Int, F_szHard n x0 x1 x2 x3 x4 x5 x6 x7 x8 x9 x10 x11 = some v ∧ v ≤ 1048576 ∧ (0 ≤ v → smL (.cons (.int .i64) (.cons (.int .i64) (.cons (.int .i64) (.cons (.int .i64) (.cons c_iiis (.cons c_iis (.cons c_isiis (.cons (.int .i64) (.cons (.int .i64) (.cons c_i (.one .str))))))))))) (x0, (x1, (x2, (x3, (x4, (x5, (x6, (x7, (x8, (x9, x10))))))))))) := by
  obtain ⟨o0, o1, o2, o3, o4, o5, o6, o7, o8, o9, o10⟩ := ho
  refine Evt.succ (((sp_szLog x2 x3 x4 (And.intro o2 (And.intro o3 o4))).and (sp_szMach x5 x6 x7 x8 x9 x10 (And.intro o5 (And.intro o6 (And.intro o7 (And.intro o8 (And.intro o9 o10))))))).mono fun n ⟨h0, h1⟩ x11 hl0 hl1 => ?_)
  rw [eq_szHard]
  obtain ⟨v0, ev0, lv0, sv0⟩ := h0 x11 (by omega) (by omega)
  rw [ev0]; simp only [Option.bind_some]
  by_cases cv0 : v0 < 0
  · rw [decide_eq_true cv0]; exact ⟨-1, rfl, by omega, fun h => absurd h (by omega)⟩
  rw [decide_eq_false cv0]; simp only [cond_false]
  obtain ⟨t2, t3, t4⟩ := sv0 (by omega)
  obtain ⟨v1, ev1, lv1, sv1⟩ := h1 v0 (by omega) (by omega)
  rw [ev1]; simp only [Option.bind_some]
  by_cases cv1 : v1 < 0
  · rw [decide_eq_true cv1]; exact ⟨-1, rfl, by omega, fun h => absurd h (by omega)⟩
  rw [decide_eq_false cv1]; simp only [cond_false]
  obtain ⟨t5, t6, t7, t8, t9, t10⟩ := sv1 (by omega)
  exact ⟨v1, rfl, by omega, fun _ => (And.intro trivial (And.intro trivial (And.intro t2 (And.intro t3 (And.intro t4 (And.intro t5 (And.intro t6 (And.intro t7 (And.intro t8 (And.intro t9 t10))))))))))⟩
theorem sp_szBoolS (x0 : t_b) (ho : okI c_b x0) : Evt fun n => ∀ x1 : Int, 0 ≤ x1 → x1 ≤ 1048576 → ∃ v : Int, F_szBoolS n x0 x1 = some v ∧ v ≤ 1048576 ∧ (0 ≤ v → smI c_b x0) := by
  refine Evt.succ (Evt.of fun n x1 hl0 hl1 => ?_)
  rw [eq_szBoolS, len_wrap (cur := x1) (k := x0.length) hl0 hl1 ho.1]
  by_cases c : (x1 - (x0.length : Int)) < 0
  · rw [decide_eq_true c]; exact ⟨-1, rfl, by omega, fun h => absurd h (by omega)⟩
  rw [decide_eq_false c]
  exact ⟨_, rfl, by omega, fun _ => And.intro (show x0.length ≤ 1048576 by omega) (fun _ _ => trivial)⟩
theorem sp_szByteS (x0 : t_u) (ho : okI c_u x0) : Evt fun n => ∀ x1 : Int, 0 ≤ x1 → x1 ≤ 1048576 → ∃ v : Int, F_szByteS n x0 x1 = some v ∧ v ≤ 1048576 ∧ (0 ≤ v → smI c_u x0) := by
  refine Evt.succ (Evt.of fun n x1 hl0 hl1 => ?_)
  rw [eq_szByteS, len_wrap (cur := x1) (k := x0.length) hl0 hl1 ho.1]
  by_cases c : (x1 - (x0.length : Int)) < 0
  · rw [decide_eq_true c]; exact ⟨-1, rfl, by omega, fun h => absurd h (by omega)⟩
  rw [decide_eq_false c]
  exact ⟨_, rfl, by omega, fun _ => And.intro (show x0.length ≤ 1048576 by omega) (fun _ _ => trivial)⟩
theorem sp_szDisk (x0 : t_u) (x1 : Int) (ho : okL (.cons c_u (.one (.int .i64))) (x0, x1)) : Evt fun n => ∀ x2 : Int, 0 ≤ x2 → x2 ≤ 1048576 → ∃ v : Int, F_szDisk n x0 x1 x2 = some v ∧ v ≤ 1048576 ∧ (0 ≤ v → smL (.cons c_u (.one (.int .i64))) (x0, x1)) := by
  obtain ⟨o0, o1⟩ := ho
  refine Evt.succ ((sp_szByteS x0 o0).mono fun n h0 x2 hl0 hl1 => ?_)
  rw [eq_szDisk]
  obtain ⟨v0, ev0, lv0, sv0⟩ := h0 x2 (by omega) (by omega)
  rw [ev0]; simp only [Option.bind_some]
  by_cases cv0 : v0 < 0
  · rw [decide_eq_true cv0]; exact ⟨-1, rfl, by omega, fun h => absurd h (by omega)⟩
  rw [decide_eq_false cv0]; simp only [cond_false]
  have t0 := sv0 (by omega)
  exact ⟨v0, rfl, by omega, fun _ => (And.intro t0 trivial)⟩
theorem sp_szRpc (x0 : Int) (x1 : Int) (x2 : Int) (x3 : Int) (x4 : Int) (x5 : Int) (x6 : Int) (x7 : t_iiis) (x8 : Bool) (x9 : Bytes) (ho : okL (.cons (.int .i64) (.cons (.int .i64) (.cons (.int .i64) (.cons (.int .i64) (.cons (.int .i64) (.cons (.int .i64) (.cons (.int .i64) (.cons c_iiis (.cons .bool (.one .str)))))))))) (x0, (x1, (x2, (x3, (x4, (x5, (x6, (x7, (x8, x9)))))))))) : Evt fun n => ∀ x10 : Int, 0 ≤ x10 → x10 ≤ 1048576 → ∃ v : Int, F_szRpc n x0 x1 x2 x3 x4 x5 x6 x7 x8 x9 x10 = some v ∧ v ≤ 1048576 ∧ (0 ≤ v → smL (.cons (.int .i64) (.cons (.int .i64) (.cons (.int .i64) (.cons (.int .i64) (.cons (.int .i64) (.cons (.int .i64) (.cons (.int .i64) (.cons c_iiis (.cons .bool (.one .str)))))))))) (x0, (x1, (x2, (x3, (x4, (x5, (x6, (x7, (x8, x9)))))))))) := by
  obtain ⟨o0, o1, o2, o3, o4, o5, o6, o7, o8, o9⟩ := ho
  refine Evt.succ ((sp_szEntryS x7 o7).mono fun n h0 x10 hl0 hl1 => ?_)
  rw [eq_szRpc]
  obtain ⟨v0, ev0, lv0, sv0⟩ := h0 x10 (by omega) (by omega)
  rw [ev0]; simp only [Option.bind_some]
  by_cases cv0 : v0 < 0
  · rw [decide_eq_true cv0]; exact ⟨-1, rfl, by omega, fun h => absurd h (by omega)⟩
  rw [decide_eq_false cv0]; simp only [cond_false]
  have t7 := sv0 (by omega)
  rw [len_wrap (cur := v0) (k := x9.length) (by omega) (by omega) o9]
  obtain ⟨v1, ev1⟩ : ∃ v : Int, v = v0 - (x9.length : Int) := ⟨_, rfl⟩
  rw [← ev1]
  by_cases cv1 : v1 < 0
  · rw [decide_eq_true cv1]; exact ⟨-1, rfl, by omega, fun h => absurd h (by omega)⟩
  rw [decide_eq_false cv1]; simp only [cond_false]
  have t9 : x9.length ≤ 1048576 := by omega
  exact ⟨v1, rfl, by omega, fun _ => (And.intro trivial (And.intro trivial (And.intro trivial (And.intro trivial (And.intro trivial (And.intro trivial (And.intro trivial (And.intro t7 (And.intro trivial t9)))))))))⟩
theorem sp_szRpcS (x0 : t_q1) (ho : okI c_q1 x0) : Evt fun n => ∀ x1 : Int, 0 ≤ x1 → x1 ≤ 1048576 → ∃ v : Int, F_szRpcS n x0 x1 = some v ∧ v ≤ 1048576 ∧ (0 ≤ v → smI c_q1 x0) := by
  by_cases hlen : x0.length ≤ 1048576
  · have hloop := sz_loop (sm := fun x => smL (elemTs c_q1) x) (l := x0) hlen (L := fun n m i left => L_szRpcS_0 n m i left x0) ?_ (fun n m left => by rw [eqL_szRpcS_0]; simp)
    · refine Evt.succ (hloop.mono fun n h x1 hl0 hl1 => ?_)
      rw [eq_szRpcS, len_wrap (cur := x1) (k := x0.length) hl0 hl1 ho.1]
      by_cases c : (x1 - (x0.length : Int)) < 0
      · rw [decide_eq_true c]; exact ⟨-1, rfl, by omega, fun h => absurd h (by omega)⟩
      rw [decide_eq_false c]
      obtain ⟨r, e, k1, k2⟩ := h (x1 - (x0.length : Int)) (by omega) (by omega)
      simp only [cond_false, e, Option.bind_some]
      cases r with
      | inl v => exact ⟨v, rfl, (k1 v rfl).2.1, fun _ => And.intro hlen (k1 v rfl).2.2⟩
      | inr v => exact ⟨v, rfl, by rw [k2 v rfl]; omega, fun h => absurd h (by rw [k2 v rfl]; omega)⟩
    · refine (Evt.all x0 fun x hx => sp_szRpc x.1 x.2.1 x.2.2.1 x.2.2.2.1 x.2.2.2.2.1 x.2.2.2.2.2.1 x.2.2.2.2.2.2.1 x.2.2.2.2.2.2.2.1 x.2.2.2.2.2.2.2.2.1 x.2.2.2.2.2.2.2.2.2 (ho.2 x hx)).mono fun n h m i x left hi h0 h1 => ?_
      obtain ⟨hlt, rfl⟩ := List.getElem?_eq_some_iff.1 hi
      obtain ⟨v, e, k1, k2⟩ := h _ (List.getElem_mem hlt) left h0 h1
      refine ⟨v, ?_, k1, k2⟩
      rw [eqL_szRpcS_0, decide_eq_true (by omega), atZ_at hlt]
      simp only [cond_true, Option.bind_some, e]
  · refine Evt.succ (Evt.of fun n x1 hl0 hl1 => ?_)
    rw [eq_szRpcS, len_wrap (cur := x1) (k := x0.length) hl0 hl1 ho.1, decide_eq_true (by omega)]
    exact ⟨-1, rfl, by omega, fun h => absurd h (by omega)⟩
theorem sp_szPeer (x0 : Int) (x1 : Int) (x2 : Int) (x3 : Int) (x4 : Int) (x5 : t_iiis) (x6 : t_iis) (x7 : t_isiis) (x8 : Int) (x9 : Int) (x10 : t_i) (x11 : Bytes) (x12 : Int) (x13 : t_b) (x14 : t_i) (x15 : t_i) (x16 : Int) (x17 : t_iis) (x18 : t_isiis) (x19 : Int) (x20 : Int) (x21 : t_i) (x22 : Bytes) (x23 : t_u) (x24 : Int) (x25 : t_q1) (ho : okL (.cons (.int .i64) (.cons (.int .i64) (.cons (.int .i64) (.cons (.int .i64) (.cons (.int .i64) (.cons c_iiis (.cons c_iis (.cons c_isiis (.cons (.int .i64) (.cons (.int .i64) (.cons c_i (.cons .str (.cons (.int .i64) (.cons c_b (.cons c_i (.cons c_i (.cons (.int .i64) (.cons c_iis (.cons c_isiis (.cons (.int .i64) (.cons (.int .i64) (.cons c_i (.cons .str (.cons c_u (.cons (.int .i64) (.one c_q1)))))))))))))))))))))))))) (x0, (x1, (x2, (x3, (x4, (x5, (x6, (x7, (x8, (x9, (x10, (x11, (x12, (x13, (x14, (x15, (x16, (x17, (x18, (x19, (x20, (x21, (x22, (x23, (x24, x25)))))))))))))))))))))))))) : Evt fun n => ∀ x26 : Int, 0 ≤ x26 → x26 ≤ 1048576 → ∃ v : Int, F_szPeer n x0 x1 x2 x3 x4 x5 x6 x7 x8 x9 x10 x11 x12 x13 x14 x15 x16 x17 x18 x19 x20 x21 x22 x23 x24 x25 x26 = some v ∧ v ≤ 1048576 ∧ (0 ≤ v → smL (.cons (.int .i64) (.cons (.int .i64) (.cons (.int .i64) (.cons (.int .i64) (.cons (.int .i64) (.cons c_iiis (.cons c_iis (.cons c_isiis (.cons (.int .i64) (.cons (.int .i64) (.cons c_i (.cons .str (.cons (.int .i64) (.cons c_b (.cons c_i (.cons c_i (.cons (.int .i64) (.cons c_iis (.cons c_isiis (.cons (.int .i64) (.cons (.int .i64) (.cons c_i (.cons .str (.cons c_u (.cons (.int .i64) (.one c_q1)))))))))))))))))))))))))) (x0, (x1, (x2, (x3, (x4, (x5, (x6, (x7, (x8, (x9, (x10, (x11, (x12, (x13, (x14, (x15, (x16, (x17, (x18, (x19, (x20, (x21, (x22, (x23, (x24, x25)))))))))))))))))))))))))) := by
  obtain ⟨o0, o1, o2, o3, o4, o5, o6, o7, o8, o9, o10, o11, o12, o13, o14, o15, o16, o17, o18, o19, o20, o21, o22, o23, o24, o25⟩ := ho
  refine Evt.succ ((((((((sp_szHard x1 x2 x3 x4 x5 x6 x7 x8 x9 x10 x11 (And.intro o1 (And.intro o2 (And.intro o3 (And.intro o4 (And.intro o5 (And.intro o6 (And.intro o7 (And.intro o8 (And.intro o9 (And.intro o10 o11))))))))))).and (sp_szBoolS x13 o13)).and (sp_szIntS x14 o14)).and (sp_szIntS x15 o15)).and (sp_szMach x17 x18 x19 x20 x21 x22 (And.intro o17 (And.intro o18 (And.intro o19 (And.intro o20 (And.intro o21 o22))))))).and (sp_szDisk x23 x24 (And.intro o23 o24))).and (sp_szRpcS x25 o25)).mono fun n ⟨⟨⟨⟨⟨⟨h0, h1⟩, h2⟩, h3⟩, h4⟩, h5⟩, h6⟩ x26 hl0 hl1 => ?_)
  rw [eq_szPeer]
  obtain ⟨v0, ev0, lv0, sv0⟩ := h0 x26 (by omega) (by omega)
  rw [ev0]; simp only [Option.bind_some]
  by_cases cv0 : v0 < 0
  · rw [decide_eq_true cv0]; exact ⟨-1, rfl, by omega, fun h => absurd h (by omega)⟩
  rw [decide_eq_false cv0]; simp only [cond_false]
  obtain ⟨t1, t2, t3, t4, t5, t6, t7, t8, t9, t10, t11⟩ := sv0 (by omega)
  obtain ⟨v1, ev1, lv1, sv1⟩ := h1 v0 (by omega) (by omega)
  rw [ev1]; simp only [Option.bind_some]
  by_cases cv1 : v1 < 0
  · rw [decide_eq_true cv1]; exact ⟨-1, rfl, by omega, fun h => absurd h (by omega)⟩
  rw [decide_eq_false cv1]; simp only [cond_false]
  have t13 := sv1 (by omega)
  obtain ⟨v2, ev2, lv2, sv2⟩ := h2 v1 (by omega) (by omega)
  rw [ev2]; simp only [Option.bind_some]
  by_cases cv2 : v2 < 0
  · rw [decide_eq_true cv2]; exact ⟨-1, rfl, by omega, fun h => absurd h (by omega)⟩
  rw [decide_eq_false cv2]; simp only [cond_false]
  have t14 := sv2 (by omega)
  obtain ⟨v3, ev3, lv3, sv3⟩ := h3 v2 (by omega) (by omega)
  rw [ev3]; simp only [Option.bind_some]
  by_cases cv3 : v3 < 0
  · rw [decide_eq_true cv3]; exact ⟨-1, rfl, by omega, fun h => absurd h (by omega)⟩
  rw [decide_eq_false cv3]; simp only [cond_false]
  have t15 := sv3 (by omega)
  obtain ⟨v4, ev4, lv4, sv4⟩ := h4 v3 (by omega) (by omega)
  rw [ev4]; simp only [Option.bind_some]
  by_cases cv4 : v4 < 0
  · rw [decide_eq_true cv4]; exact ⟨-1, rfl, by omega, fun h => absurd h (by omega)⟩
  rw [decide_eq_false cv4]; simp only [cond_false]
  obtain ⟨t17, t18, t19, t20, t21, t22⟩ := sv4 (by omega)
  obtain ⟨v5, ev5, lv5, sv5⟩ := h5 v4 (by omega) (by omega)
  rw [ev5]; simp only [Option.bind_some]
  by_cases cv5 : v5 < 0
  · rw [decide_eq_true cv5]; exact ⟨-1, rfl, by omega, fun h => absurd h (by omega)⟩
  rw [decide_eq_false cv5]; simp only [cond_false]
  obtain ⟨t23, t24⟩ := sv5 (by omega)
  obtain ⟨v6, ev6, lv6, sv6⟩ := h6 v5 (by omega) (by omega)
  rw [ev6]; simp only [Option.bind_some]
  by_cases cv6 : v6 < 0
  · rw [decide_eq_true cv6]; exact ⟨-1, rfl, by omega, fun h => absurd h (by omega)⟩
  rw [decide_eq_false cv6]; simp only [cond_false]
  have t25 := sv6 (by omega)
  exact ⟨v6, rfl, by omega, fun _ => (And.intro trivial (And.intro t1 (And.intro t2 (And.intro t3 (And.intro t4 (And.intro t5 (And.intro t6 (And.intro t7 (And.intro t8 (And.intro t9 (And.intro t10 (And.intro t11 (And.intro trivial (And.intro t13 (And.intro t14 (And.intro t15 (And.intro trivial (And.intro t17 (And.intro t18 (And.intro t19 (And.intro t20 (And.intro t21 (And.intro t22 (And.intro t23 (And.intro t24 t25)))))))))))))))))))))))))⟩
theorem sp_szPeerS (x0 : t_q0) (ho : okI c_q0 x0) : Evt fun n => ∀ x1 : Int, 0 ≤ x1 → x1 ≤ 1048576 → ∃ v : Int, F_szPeerS n x0 x1 = some v ∧ v ≤ 1048576 ∧ (0 ≤ v → smI c_q0 x0) := by
  by_cases hlen : x0.length ≤ 1048576
  · have hloop := sz_loop (sm := fun x => smL (elemTs c_q0) x) (l := x0) hlen (L := fun n m i left => L_szPeerS_0 n m i left x0) ?_ (fun n m left => by rw [eqL_szPeerS_0]; simp)
    · refine Evt.succ (hloop.mono fun n h x1 hl0 hl1 => ?_)
      rw [eq_szPeerS, len_wrap (cur := x1) (k := x0.length) hl0 hl1 ho.1]
      by_cases c : (x1 - (x0.length : Int)) < 0
      · rw [decide_eq_true c]; exact ⟨-1, rfl, by omega, fun h => absurd h (by omega)⟩
      rw [decide_eq_false c]
      obtain ⟨r, e, k1, k2⟩ := h (x1 - (x0.length : Int)) (by omega) (by omega)
      simp only [cond_false, e, Option.bind_some]
      cases r with
      | inl v => exact ⟨v, rfl, (k1 v rfl).2.1, fun _ => And.intro hlen (k1 v rfl).2.2⟩
      | inr v => exact ⟨v, rfl, by rw [k2 v rfl]; omega, fun h => absurd h (by rw [k2 v rfl]; omega)⟩
    · refine (Evt.all x0 fun x hx => sp_szPeer x.1 x.2.1 x.2.2.1 x.2.2.2.1 x.2.2.2.2.1 x.2.2.2.2.2.1 x.2.2.2.2.2.2.1 x.2.2.2.2.2.2.2.1 x.2.2.2.2.2.2.2.2.1 x.2.2.2.2.2.2.2.2.2.1 x.2.2.2.2.2.2.2.2.2.2.1 x.2.2.2.2.2.2.2.2.2.2.2.1 x.2.2.2.2.2.2.2.2.2.2.2.2.1 x.2.2.2.2.2.2.2.2.2.2.2.2.2.1 x.2.2.2.2.2.2.2.2.2.2.2.2.2.2.1 x.2.2.2.2.2.2.2.2.2.2.2.2.2.2.2.1 x.2.2.2.2.2.2.2.2.2.2.2.2.2.2.2.2.1 x.2.2.2.2.2.2.2.2.2.2.2.2.2.2.2.2.2.1 x.2.2.2.2.2.2.2.2.2.2.2.2.2.2.2.2.2.2.1 x.2.2.2.2.2.2.2.2.2.2.2.2.2.2.2.2.2.2.2.1 x.2.2.2.2.2.2.2.2.2.2.2.2.2.2.2.2.2.2.2.2.1 x.2.2.2.2.2.2.2.2.2.2.2.2.2.2.2.2.2.2.2.2.2.1 x.2.2.2.2.2.2.2.2.2.2.2.2.2.2.2.2.2.2.2.2.2.2.1 x.2.2.2.2.2.2.2.2.2.2.2.2.2.2.2.2.2.2.2.2.2.2.2.1 x.2.2.2.2.2.2.2.2.2.2.2.2.2.2.2.2.2.2.2.2.2.2.2.2.1 x.2.2.2.2.2.2.2.2.2.2.2.2.2.2.2.2.2.2.2.2.2.2.2.2.2 (ho.2 x hx)).mono fun n h m i x left hi h0 h1 => ?_
      obtain ⟨hlt, rfl⟩ := List.getElem?_eq_some_iff.1 hi
      obtain ⟨v, e, k1, k2⟩ := h _ (List.getElem_mem hlt) left h0 h1
      refine ⟨v, ?_, k1, k2⟩
      rw [eqL_szPeerS_0, decide_eq_true (by omega), atZ_at hlt]
      simp only [cond_true, Option.bind_some, e]
  · refine Evt.succ (Evt.of fun n x1 hl0 hl1 => ?_)
    rw [eq_szPeerS, len_wrap (cur := x1) (k := x0.length) hl0 hl1 ho.1, decide_eq_true (by omega)]
    exact ⟨-1, rfl, by omega, fun h => absurd h (by omega)⟩
theorem sp_szSink (x0 : Int) (x1 : Bytes) (ho : okL (.cons (.int .i64) (.one .str)) (x0, x1)) : Evt fun n => ∀ x2 : Int, 0 ≤ x2 → x2 ≤ 1048576 → ∃ v : Int, F_szSink n x0 x1 x2 = some v ∧ v ≤ 1048576 ∧ (0 ≤ v → smL (.cons (.int .i64) (.one .str)) (x0, x1)) := by
  obtain ⟨o0, o1⟩ := ho
  refine Evt.succ (Evt.of fun n x2 hl0 hl1 => ?_)
  rw [eq_szSink]
  rw [len_wrap (cur := x2) (k := x1.length) (by omega) (by omega) o1]
  obtain ⟨v0, ev0⟩ : ∃ v : Int, v = x2 - (x1.length : Int) := ⟨_, rfl⟩
  rw [← ev0]
  by_cases cv0 : v0 < 0
  · rw [decide_eq_true cv0]; exact ⟨-1, rfl, by omega, fun h => absurd h (by omega)⟩
  rw [decide_eq_false cv0]; simp only [cond_false]
  have t1 : x1.length ≤ 1048576 := by omega
  exact ⟨v0, rfl, by omega, fun _ => (And.intro trivial t1)⟩
theorem sp_szCmdS (x0 : t_iis) (ho : okI c_iis x0) : Evt fun n => ∀ x1 : Int, 0 ≤ x1 → x1 ≤ 1048576 → ∃ v : Int, F_szCmdS n x0 x1 = some v ∧ v ≤ 1048576 ∧ (0 ≤ v → smI c_iis x0) := by
  by_cases hlen : x0.length ≤ 1048576
  · have hloop := sz_loop (sm := fun x => smL (elemTs c_iis) x) (l := x0) hlen (L := fun n m i left => L_szCmdS_0 n m i left x0) ?_ (fun n m left => by rw [eqL_szCmdS_0]; simp)
    · refine Evt.succ (hloop.mono fun n h x1 hl0 hl1 => ?_)
      rw [eq_szCmdS, len_wrap (cur := x1) (k := x0.length) hl0 hl1 ho.1]
      by_cases c : (x1 - (x0.length : Int)) < 0
      · rw [decide_eq_true c]; exact ⟨-1, rfl, by omega, fun h => absurd h (by omega)⟩
      rw [decide_eq_false c]
      obtain ⟨r, e, k1, k2⟩ := h (x1 - (x0.length : Int)) (by omega) (by omega)
      simp only [cond_false, e, Option.bind_some]
      cases r with
      | inl v => exact ⟨v, rfl, (k1 v rfl).2.1, fun _ => And.intro hlen (k1 v rfl).2.2⟩
      | inr v => exact ⟨v, rfl, by rw [k2 v rfl]; omega, fun h => absurd h (by rw [k2 v rfl]; omega)⟩
    · refine (Evt.all x0 fun x hx => sp_szCmd x.1 x.2.1 x.2.2 (ho.2 x hx)).mono fun n h m i x left hi h0 h1 => ?_
      obtain ⟨hlt, rfl⟩ := List.getElem?_eq_some_iff.1 hi
      obtain ⟨v, e, k1, k2⟩ := h _ (List.getElem_mem hlt) left h0 h1
      refine ⟨v, ?_, k1, k2⟩
      rw [eqL_szCmdS_0, decide_eq_true (by omega), atZ_at hlt]
      simp only [cond_true, Option.bind_some, e]
  · refine Evt.succ (Evt.of fun n x1 hl0 hl1 => ?_)
    rw [eq_szCmdS, len_wrap (cur := x1) (k := x0.length) hl0 hl1 ho.1, decide_eq_true (by omega)]
    exact ⟨-1, rfl, by omega, fun h => absurd h (by omega)⟩
theorem sp_szWorld (x0 : t_s) (x1 : t_s) (x2 : t_iis) (x3 : t_iis) (x4 : Int) (x5 : t_q0) (x6 : t_q1) (x7 : Int) (x8 : Bytes) (x9 : t_i) (x10 : t_i) (x11 : t_iis) (ho : okL (.cons c_s (.cons c_s (.cons c_iis (.cons c_iis (.cons (.int .i64) (.cons c_q0 (.cons c_q1 (.cons (.int .i64) (.cons .str (.cons c_i (.cons c_i (.one c_iis)))))))))))) (x0, (x1, (x2, (x3, (x4, (x5, (x6, (x7, (x8, (x9, (x10, x11)))))))))))) : Evt fun n => ∀ x12 : Int, 0 ≤ x12 → x12 ≤ 1048576 → ∃ v : Int, F_szWorld n x0 x1 x2 x3 x4 x5 x6 x7 x8 x9 x10 x11 x12 = some v ∧ v ≤ 1048576 ∧ (0 ≤ v → smL (.cons c_s (.cons c_s (.cons c_iis (.cons c_iis (.cons (.int .i64) (.cons c_q0 (.cons c_q1 (.cons (.int .i64) (.cons .str (.cons c_i (.cons c_i (.one c_iis)))))))))))) (x0, (x1, (x2, (x3, (x4, (x5, (x6, (x7, (x8, (x9, (x10, x11)))))))))))) := by
  obtain ⟨o0, o1, o2, o3, o4, o5, o6, o7, o8, o9, o10, o11⟩ := ho
  refine Evt.succ ((((((((sp_szProg x0 x1 x2 x3 (And.intro o0 (And.intro o1 (And.intro o2 o3)))).and (sp_szPeerS x5 o5)).and (sp_szRpcS x6 o6)).and (sp_szSink x7 x8 (And.intro o7 o8))).and (sp_szIntS x9 o9)).and (sp_szIntS x10 o10)).and (sp_szCmdS x11 o11)).mono fun n ⟨⟨⟨⟨⟨⟨h0, h1⟩, h2⟩, h3⟩, h4⟩, h5⟩, h6⟩ x12 hl0 hl1 => ?_)
  rw [eq_szWorld]
  obtain ⟨v0, ev0, lv0, sv0⟩ := h0 x12 (by omega) (by omega)
  rw [ev0]; simp only [Option.bind_some]
  by_cases cv0 : v0 < 0
  · rw [decide_eq_true cv0]; exact ⟨-1, rfl, by omega, fun h => absurd h (by omega)⟩
  rw [decide_eq_false cv0]; simp only [cond_false]
  obtain ⟨t0, t1, t2, t3⟩ := sv0 (by omega)
  obtain ⟨v1, ev1, lv1, sv1⟩ := h1 v0 (by omega) (by omega)
  rw [ev1]; simp only [Option.bind_some]
  by_cases cv1 : v1 < 0
  · rw [decide_eq_true cv1]; exact ⟨-1, rfl, by omega, fun h => absurd h (by omega)⟩
  rw [decide_eq_false cv1]; simp only [cond_false]
  have t5 := sv1 (by omega)
  obtain ⟨v2, ev2, lv2, sv2⟩ := h2 v1 (by omega) (by omega)
  rw [ev2]; simp only [Option.bind_some]
  by_cases cv2 : v2 < 0
  · rw [decide_eq_true cv2]; exact ⟨-1, rfl, by omega, fun h => absurd h (by omega)⟩
  rw [decide_eq_false cv2]; simp only [cond_false]
  have t6 := sv2 (by omega)
  obtain ⟨v3, ev3, lv3, sv3⟩ := h3 v2 (by omega) (by omega)
  rw [ev3]; simp only [Option.bind_some]
  by_cases cv3 : v3 < 0
  · rw [decide_eq_true cv3]; exact ⟨-1, rfl, by omega, fun h => absurd h (by omega)⟩
  rw [decide_eq_false cv3]; simp only [cond_false]
  obtain ⟨t7, t8⟩ := sv3 (by omega)
  obtain ⟨v4, ev4, lv4, sv4⟩ := h4 v3 (by omega) (by omega)
  rw [ev4]; simp only [Option.bind_some]
  by_cases cv4 : v4 < 0
  · rw [decide_eq_true cv4]; exact ⟨-1, rfl, by omega, fun h => absurd h (by omega)⟩
  rw [decide_eq_false cv4]; simp only [cond_false]
  have t9 := sv4 (by omega)
  obtain ⟨v5, ev5, lv5, sv5⟩ := h5 v4 (by omega) (by omega)
  rw [ev5]; simp only [Option.bind_some]
  by_cases cv5 : v5 < 0
  · rw [decide_eq_true cv5]; exact ⟨-1, rfl, by omega, fun h => absurd h (by omega)⟩
  rw [decide_eq_false cv5]; simp only [cond_false]
  have t10 := sv5 (by omega)
  obtain ⟨v6, ev6, lv6, sv6⟩ := h6 v5 (by omega) (by omega)
  rw [ev6]; simp only [Option.bind_some]
  by_cases cv6 : v6 < 0
  · rw [decide_eq_true cv6]; exact ⟨-1, rfl, by omega, fun h => absurd h (by omega)⟩
  rw [decide_eq_false cv6]; simp only [cond_false]
  have t11 := sv6 (by omega)
  exact ⟨v6, rfl, by omega, fun _ => (And.intro t0 (And.intro t1 (And.intro t2 (And.intro t3 (And.intro trivial (And.intro t5 (And.intro t6 (And.intro t7 (And.intro t8 (And.intro t9 (And.intro t10 t11)))))))))))⟩
theorem sp_toStringS (x0 : t_s) (hs : smI c_s x0) : Evt fun n => F_toStringS n x0 = some x0 := by
  have hlen : x0.length ≤ 1048576 := hs.1
  have hloop := to_loop (a := x0) (d := ([] : Bytes)) hlen (L := fun n m i out => L_toStringS_0 n m i x0 out) ?_ (fun n m out => by rw [eqL_toStringS_0]; simp)
  · refine Evt.succ (hloop.mono fun n h => ?_)
    rw [eq_toStringS, decide_eq_true (by unfold big; omega)]
    simp only [cond_true, Int.toNat_natCast, h, Option.bind_some, sumE]
  · refine Evt.of fun n m i out hi hout => ?_
    rw [eqL_toStringS_0, decide_eq_true (by omega), atZ_at hi]
    simp only [cond_true, Option.bind_some]
    rw [decide_eq_true (by omega), atN_at (l := out) (by omega)]
    simp only [cond_true, Option.bind_some, Int.toNat_natCast, UInt8.ofNat_toNat]
theorem sp_toOp (x0 : Int) (x1 : Int) (x2 : Bytes) (hs : smL (.cons (.int .i64) (.cons (.int .i64) (.one .str))) (x0, (x1, x2))) : Evt fun n => F_toOp n x0 x1 x2 = some (x0, (x1, x2)) := by
  exact Evt.succ (Evt.of fun n => by rw [eq_toOp])
theorem sp_toOpS (x0 : t_iis) (hs : smI c_iis x0) : Evt fun n => F_toOpS n x0 = some x0 := by
  have hlen : x0.length ≤ 1048576 := hs.1
  have hloop := to_loop (a := x0) (d := ((0 : Int), ((0 : Int), ([] : Bytes)))) hlen (L := fun n m i out => L_toOpS_0 n m i x0 out) ?_ (fun n m out => by rw [eqL_toOpS_0]; simp)
  · refine Evt.succ (hloop.mono fun n h => ?_)
    rw [eq_toOpS, decide_eq_true (by unfold big; omega)]
    simp only [cond_true, Int.toNat_natCast, h, Option.bind_some, sumE]
  · refine (Evt.all x0 fun x hx => sp_toOp x.1 x.2.1 x.2.2 (hs.2 x hx)).mono fun n h m i out hi hout => ?_
    have hx := h _ (List.getElem_mem hi)
    rw [eqL_toOpS_0, decide_eq_true (by omega), atZ_at hi]
    simp only [cond_true, Option.bind_some, hx]
    rw [decide_eq_true (by omega), atN_at (l := out) (by omega)]
    simp only [cond_true, Option.bind_some, Int.toNat_natCast]
theorem sp_toProg (x0 : t_s) (x1 : t_s) (x2 : t_iis) (x3 : t_iis) (hs : smL (.cons c_s (.cons c_s (.cons c_iis (.one c_iis)))) (x0, (x1, (x2, x3)))) : Evt fun n => F_toProg n x0 x1 x2 x3 = some (x0, (x1, (x2, x3))) := by
  obtain ⟨s0, s1, s2, s3⟩ := hs
  refine Evt.succ (((((sp_toStringS x0 s0).and (sp_toStringS x1 s1)).and (sp_toOpS x2 s2)).and (sp_toOpS x3 s3)).mono fun n ⟨⟨⟨h0, h1⟩, h2⟩, h3⟩ => ?_)
  rw [eq_toProg]
  simp only [h0, h1, h2, h3, Option.bind_some]
theorem sp_toCmd (x0 : Int) (x1 : Int) (x2 : Bytes) (hs : smL (.cons (.int .i64) (.cons (.int .i64) (.one .str))) (x0, (x1, x2))) : Evt fun n => F_toCmd n x0 x1 x2 = some (x0, (x1, x2)) := by
  exact Evt.succ (Evt.of fun n => by rw [eq_toCmd])
theorem sp_toEntry (x0 : Int) (x1 : Int) (x2 : Int) (x3 : Bytes) (hs : smL (.cons (.int .i64) (.cons (.int .i64) (.cons (.int .i64) (.one .str)))) (x0, (x1, (x2, x3)))) : Evt fun n => F_toEntry n x0 x1 x2 x3 = some (x0, (x1, (x2, x3))) := by
  obtain ⟨s0, s1, s2, s3⟩ := hs
  refine Evt.succ ((sp_toCmd x1 x2 x3 (And.intro s1 (And.intro s2 s3))).mono fun n h0 => ?_)
  rw [eq_toEntry]
  simp only [h0, Option.bind_some]
theorem sp_toEntryS (x0 : t_iiis) (hs : smI c_iiis x0) : Evt fun n => F_toEntryS n x0 = some x0 := by
  have hlen : x0.length ≤ 1048576 := hs.1
  have hloop := to_loop (a := x0) (d := ((0 : Int), ((0 : Int), ((0 : Int), ([] : Bytes))))) hlen (L := fun n m i out => L_toEntryS_0 n m i x0 out) ?_ (fun n m out => by rw [eqL_toEntryS_0]; simp)
  · refine Evt.succ (hloop.mono fun n h => ?_)
    rw [eq_toEntryS, decide_eq_true (by unfold big; omega)]
    simp only [cond_true, Int.toNat_natCast, h, Option.bind_some, sumE]
  · refine (Evt.all x0 fun x hx => sp_toEntry x.1 x.2.1 x.2.2.1 x.2.2.2 (hs.2 x hx)).mono fun n h m i out hi hout => ?_
    have hx := h _ (List.getElem_mem hi)
    rw [eqL_toEntryS_0, decide_eq_true (by omega), atZ_at hi]
    simp only [cond_true, Option.bind_some, hx]
    rw [decide_eq_true (by omega), atN_at (l := out) (by omega)]
    simp only [cond_true, Option.bind_some, Int.toNat_natCast]
theorem sp_toLog (x0 : Int) (x1 : Int) (x2 : t_iiis) (hs : smL (.cons (.int .i64) (.cons (.int .i64) (.one c_iiis))) (x0, (x1, x2))) : Evt fun n => F_toLog n x0 x1 x2 = some (x0, (x1, x2)) := by
  obtain ⟨s0, s1, s2⟩ := hs
  refine Evt.succ ((sp_toEntryS x2 s2).mono fun n h0 => ?_)
  rw [eq_toLog]
  simp only [h0, Option.bind_some]
theorem sp_toVal (x0 : Int) (x1 : Int) (x2 : Bytes) (hs : smL (.cons (.int .i64) (.cons (.int .i64) (.one .str))) (x0, (x1, x2))) : Evt fun n => F_toVal n x0 x1 x2 = some (x0, (x1, x2)) := by
  exact Evt.succ (Evt.of fun n => by rw [eq_toVal])
theorem sp_toValS (x0 : t_iis) (hs : smI c_iis x0) : Evt fun n => F_toValS n x0 = some x0 := by
  have hlen : x0.length ≤ 1048576 := hs.1
  have hloop := to_loop (a := x0) (d := ((0 : Int), ((0 : Int), ([] : Bytes)))) hlen (L := fun n m i out => L_toValS_0 n m i x0 out) ?_ (fun n m out => by rw [eqL_toValS_0]; simp)
  · refine Evt.succ (hloop.mono fun n h => ?_)
    rw [eq_toValS, decide_eq_true (by unfold big; omega)]
    simp only [cond_true, Int.toNat_natCast, h, Option.bind_some, sumE]
  · refine (Evt.all x0 fun x hx => sp_toVal x.1 x.2.1 x.2.2 (hs.2 x hx)).mono fun n h m i out hi hout => ?_
    have hx := h _ (List.getElem_mem hi)
    rw [eqL_toValS_0, decide_eq_true (by omega), atZ_at hi]
    simp only [cond_true, Option.bind_some, hx]
    rw [decide_eq_true (by omega), atN_at (l := out) (by omega)]
    simp only [cond_true, Option.bind_some, Int.toNat_natCast]
theorem sp_toCell (x0 : Int) (x1 : Bytes) (x2 : Int) (x3 : Int) (x4 : Bytes) (hs : smL (.cons (.int .i64) (.cons .str (.cons (.int .i64) (.cons (.int .i64) (.one .str))))) (x0, (x1, (x2, (x3, x4))))) : Evt fun n => F_toCell n x0 x1 x2 x3 x4 = some (x0, (x1, (x2, (x3, x4)))) := by
  obtain ⟨s0, s1, s2, s3, s4⟩ := hs
  refine Evt.succ ((sp_toVal x2 x3 x4 (And.intro s2 (And.intro s3 s4))).mono fun n h0 => ?_)
  rw [eq_toCell]
  simp only [h0, Option.bind_some]
theorem sp_toCellS (x0 : t_isiis) (hs : smI c_isiis x0) : Evt fun n => F_toCellS n x0 = some x0 := by
  have hlen : x0.length ≤ 1048576 := hs.1
  have hloop := to_loop (a := x0) (d := ((0 : Int), (([] : Bytes), ((0 : Int), ((0 : Int), ([] : Bytes)))))) hlen (L := fun n m i out => L_toCellS_0 n m i x0 out) ?_ (fun n m out => by rw [eqL_toCellS_0]; simp)
  · refine Evt.succ (hloop.mono fun n h => ?_)
    rw [eq_toCellS, decide_eq_true (by unfold big; omega)]
    simp only [cond_true, Int.toNat_natCast, h, Option.bind_some, sumE]
  · refine (Evt.all x0 fun x hx => sp_toCell x.1 x.2.1 x.2.2.1 x.2.2.2.1 x.2.2.2.2 (hs.2 x hx)).mono fun n h m i out hi hout => ?_
    have hx := h _ (List.getElem_mem hi)
    rw [eqL_toCellS_0, decide_eq_true (by omega), atZ_at hi]
    simp only [cond_true, Option.bind_some, hx]
    rw [decide_eq_true (by omega), atN_at (l := out) (by omega)]
    simp only [cond_true, Option.bind_some, Int.toNat_natCast]
theorem sp_toState (x0 : t_iis) (x1 : t_isiis) (x2 : Int) (x3 : Int) (hs : smL (.cons c_iis (.cons c_isiis (.cons (.int .i64) (.one (.int .i64))))) (x0, (x1, (x2, x3)))) : Evt fun n => F_toState n x0 x1 x2 x3 = some (x0, (x1, (x2, x3))) := by
  obtain ⟨s0, s1, s2, s3⟩ := hs
  refine Evt.succ (((sp_toValS x0 s0).and (sp_toCellS x1 s1)).mono fun n ⟨h0, h1⟩ => ?_)
  rw [eq_toState]
  simp only [h0, h1, Option.bind_some]
theorem sp_toIntS (x0 : t_i) (hs : smI c_i x0) : Evt fun n => F_toIntS n x0 = some x0 := by
  have hlen : x0.length ≤ 1048576 := hs.1
  have hloop := to_loop (a := x0) (d := (0 : Int)) hlen (L := fun n m i out => L_toIntS_0 n m i x0 out) ?_ (fun n m out => by rw [eqL_toIntS_0]; simp)
  · refine Evt.succ (hloop.mono fun n h => ?_)
    rw [eq_toIntS, decide_eq_true (by unfold big; omega)]
    simp only [cond_true, Int.toNat_natCast, h, Option.bind_some, sumE]
  · refine Evt.of fun n m i out hi hout => ?_
    rw [eqL_toIntS_0, decide_eq_true (by omega), atZ_at hi]
    simp only [cond_true, Option.bind_some]
    rw [decide_eq_true (by omega), atN_at (l := out) (by omega)]
    simp only [cond_true, Option.bind_some, Int.toNat_natCast, UInt8.ofNat_toNat]
theorem sp_toMach (x0 : t_iis) (x1 : t_isiis) (x2 : Int) (x3 : Int) (x4 : t_i) (x5 : Bytes) (hs : smL (.cons c_iis (.cons c_isiis (.cons (.int .i64) (.cons (.int .i64) (.cons c_i (.one .str)))))) (x0, (x1, (x2, (x3, (x4, x5)))))) : Evt fun n => F_toMach n x0 x1 x2 x3 x4 x5 = some (x0, (x1, (x2, (x3, (x4, x5))))) := by
  obtain ⟨s0, s1, s2, s3, s4, s5⟩ := hs
  refine Evt.succ (((sp_toState x0 x1 x2 x3 (And.intro s0 (And.intro s1 (And.intro s2 s3)))).and (sp_toIntS x4 s4)).mono fun n ⟨h0, h1⟩ => ?_)
  rw [eq_toMach]
  simp only [h0, h1, Option.bind_some]
theorem sp_toHard (x0 : Int) (x1 : Int) (x2 : Int) (x3 : Int) (x4 : t_iiis) (x5 : t_iis) (x6 : t_isiis) (x7 : Int) (x8 : Int) (x9 : t_i) (x10 : Bytes) (hs : smL (.cons (.int .i64) (.cons (.int .i64) (.cons (.int .i64) (.cons (.int .i64) (.cons c_iiis (.cons c_iis (.cons c_isiis (.cons (.int .i64) (.cons (.int .i64) (.cons c_i (.one .str))))))))))) (x0, (x1, (x2, (x3, (x4, (x5, (x6, (x7, (x8, (x9, x10))))))))))) : Evt fun n => F_toHard n x0 x1 x2 x3 x4 x5 x6 x7 x8 x9 x10 = some (x0, (x1, (x2, (x3, (x4, (x5, (x6, (x7, (x8, (x9, x10)))))))))) := by
  obtain ⟨s0, s1, s2, s3, s4, s5, s6, s7, s8, s9, s10⟩ := hs
  refine Evt.succ (((sp_toLog x2 x3 x4 (And.intro s2 (And.intro s3 s4))).and (sp_toMach x5 x6 x7 x8 x9 x10 (And.intro s5 (And.intro s6 (And.intro s7 (And.intro s8 (And.intro s9 s10))))))).mono fun n ⟨h0, h1⟩ => ?_)
  rw [eq_toHard]
  simp only [h0, h1, Option.bind_some]
theorem sp_toBoolS (x0 : t_b) (hs : smI c_b x0) : Evt fun n => F_toBoolS n x0 = some x0 := by
  have hlen : x0.length ≤ 1048576 := hs.1
  have hloop := to_loop (a := x0) (d := false) hlen (L := fun n m i out => L_toBoolS_0 n m i x0 out) ?_ (fun n m out => by rw [eqL_toBoolS_0]; simp)
  · refine Evt.succ (hloop.mono fun n h => ?_)
    rw [eq_toBoolS, decide_eq_true (by unfold big; omega)]
    simp only [cond_true, Int.toNat_natCast, h, Option.bind_some, sumE]
  · refine Evt.of fun n m i out hi hout => ?_
    rw [eqL_toBoolS_0, decide_eq_true (by omega), atZ_at hi]
    simp only [cond_true, Option.bind_some]
    rw [decide_eq_true (by omega), atN_at (l := out) (by omega)]
    simp only [cond_true, Option.bind_some, Int.toNat_natCast, UInt8.ofNat_toNat]
theorem sp_toByteS (x0 : t_u) (hs : smI c_u x0) : Evt fun n => F_toByteS n x0 = some x0 := by
  have hlen : x0.length ≤ 1048576 := hs.1
  have hloop := to_loop (a := x0) (d := (0 : UInt8)) hlen (L := fun n m i out => L_toByteS_0 n m i x0 out) ?_ (fun n m out => by rw [eqL_toByteS_0]; simp)
  · refine Evt.succ (hloop.mono fun n h => ?_)
    rw [eq_toByteS, decide_eq_true (by unfold big; omega)]
    simp only [cond_true, Int.toNat_natCast, h, Option.bind_some, sumE]
  · refine Evt.of fun n m i out hi hout => ?_
    rw [eqL_toByteS_0, decide_eq_true (by omega), atZ_at hi]
    simp only [cond_true, Option.bind_some]
    rw [decide_eq_true (by omega), atN_at (l := out) (by omega)]
    simp only [cond_true, Option.bind_some, Int.toNat_natCast, UInt8.ofNat_toNat]
theorem sp_toDisk (x0 : t_u) (x1 : Int) (hs : smL (.cons c_u (.one (.int .i64))) (x0, x1)) : Evt fun n => F_toDisk n x0 x1 = some (x0, x1) := by
  obtain ⟨s0, s1⟩ := hs
  refine Evt.succ ((sp_toByteS x0 s0).mono fun n h0 => ?_)
  rw [eq_toDisk]
  simp only [h0, Option.bind_some]
theorem sp_toRpc (x0 : Int) (x1 : Int) (x2 : Int) (x3 : Int) (x4 : Int) (x5 : Int) (x6 : Int) (x7 : t_iiis) (x8 : Bool) (x9 : Bytes) (hs : smL (.cons (.int .i64) (.cons (.int .i64) (.cons (.int .i64) (.cons (.int .i64) (.cons (.int .i64) (.cons (.int .i64) (.cons (.int .i64) (.cons c_iiis (.cons .bool (.one .str)))))))))) (x0, (x1, (x2, (x3, (x4, (x5, (x6, (x7, (x8, x9)))))))))) : Evt fun n => F_toRpc n x0 x1 x2 x3 x4 x5 x6 x7 x8 x9 = some (x0, (x1, (x2, (x3, (x4, (x5, (x6, (x7, (x8, x9))))))))) := by
  obtain ⟨s0, s1, s2, s3, s4, s5, s6, s7, s8, s9⟩ := hs
  refine Evt.succ ((sp_toEntryS x7 s7).mono fun n h0 => ?_)
  rw [eq_toRpc]
  simp only [h0, Option.bind_some]
theorem sp_toRpcS (x0 : t_q1) (hs : smI c_q1 x0) : Evt fun n => F_toRpcS n x0 = some x0 := by
  have hlen : x0.length ≤ 1048576 := hs.1
  have hloop := to_loop (a := x0) (d := ((0 : Int), ((0 : Int), ((0 : Int), ((0 : Int), ((0 : Int), ((0 : Int), ((0 : Int), (([] : t_iiis), (false, ([] : Bytes))))))))))) hlen (L := fun n m i out => L_toRpcS_0 n m i x0 out) ?_ (fun n m out => by rw [eqL_toRpcS_0]; simp)
  · refine Evt.succ (hloop.mono fun n h => ?_)
    rw [eq_toRpcS, decide_eq_true (by unfold big; omega)]
    simp only [cond_true, Int.toNat_natCast, h, Option.bind_some, sumE]
  · refine (Evt.all x0 fun x hx => sp_toRpc x.1 x.2.1 x.2.2.1 x.2.2.2.1 x.2.2.2.2.1 x.2.2.2.2.2.1 x.2.2.2.2.2.2.1 x.2.2.2.2.2.2.2.1 x.2.2.2.2.2.2.2.2.1 x.2.2.2.2.2.2.2.2.2 (hs.2 x hx)).mono fun n h m i out hi hout => ?_
    have hx := h _ (List.getElem_mem hi)
    rw [eqL_toRpcS_0, decide_eq_true (by omega), atZ_at hi]
    simp only [cond_true, Option.bind_some, hx]
    rw [decide_eq_true (by omega), atN_at (l := out) (by omega)]
    simp only [cond_true, Option.bind_some, Int.toNat_natCast]
theorem sp_toPeer (x0 : Int) (x1 : Int) (x2 : Int) (x3 : Int) (x4 : Int) (x5 : t_iiis) (x6 : t_iis) (x7 : t_isiis) (x8 : Int) (x9 : Int) (x10 : t_i) (x11 : Bytes) (x12 : Int) (x13 : t_b) (x14 : t_i) (x15 : t_i) (x16 : Int) (x17 : t_iis) (x18 : t_isiis) (x19 : Int) (x20 : Int) (x21 : t_i) (x22 : Bytes) (x23 : t_u) (x24 : Int) (x25 : t_q1) (hs : smL (.cons (.int .i64) (.cons (.int .i64) (.cons (.int .i64) (.cons (.int .i64) (.cons (.int .i64) (.cons c_iiis (.cons c_iis (.cons c_isiis (.cons (.int .i64) (.cons (.int .i64) (.cons c_i (.cons .str (.cons (.int .i64) (.cons c_b (.cons c_i (.cons c_i (.cons (.int .i64) (.cons c_iis (.cons c_isiis (.cons (.int .i64) (.cons (.int .i64) (.cons c_i (.cons .str (.cons c_u (.cons (.int .i64) (.one c_q1)))))))))))))))))))))))))) (x0, (x1, (x2, (x3, (x4, (x5, (x6, (x7, (x8, (x9, (x10, (x11, (x12, (x13, (x14, (x15, (x16, (x17, (x18, (x19, (x20, (x21, (x22, (x23, (x24, x25)))))))))))))))))))))))))) : Evt fun n => F_toPeer n x0 x1 x2 x3 x4 x5 x6 x7 x8 x9 x10 x11 x12 x13 x14 x15 x16 x17 x18 x19 x20 x21 x22 x23 x24 x25 = some (x0, (x1, (x2, (x3, (x4, (x5, (x6, (x7, (x8, (x9, (x10, (x11, (x12, (x13, (x14, (x15, (x16, (x17, (x18, (x19, (x20, (x21, (x22, (x23, (x24, x25))))))))))))))))))))))))) := by
  obtain ⟨s0, s1, s2, s3, s4, s5, s6, s7, s8, s9, s10, s11, s12, s13, s14, s15, s16, s17, s18, s19, s20, s21, s22, s23, s24, s25⟩ := hs
  refine Evt.succ ((((((((sp_toHard x1 x2 x3 x4 x5 x6 x7 x8 x9 x10 x11 (And.intro s1 (And.intro s2 (And.intro s3 (And.intro s4 (And.intro s5 (And.intro s6 (And.intro s7 (And.intro s8 (And.intro s9 (And.intro s10 s11))))))))))).and (sp_toBoolS x13 s13)).and (sp_toIntS x14 s14)).and (sp_toIntS x15 s15)).and (sp_toMach x17 x18 x19 x20 x21 x22 (And.intro s17 (And.intro s18 (And.intro s19 (And.intro s20 (And.intro s21 s22))))))).and (sp_toDisk x23 x24 (And.intro s23 s24))).and (sp_toRpcS x25 s25)).mono fun n ⟨⟨⟨⟨⟨⟨h0, h1⟩, h2⟩, h3⟩, h4⟩, h5⟩, h6⟩ => ?_)
  rw [eq_toPeer]
  simp only [h0, h1, h2, h3, h4, h5, h6, Option.bind_some]
theorem sp_toPeerS (x0 : t_q0) (hs : smI c_q0 x0) : Evt fun n => F_toPeerS n x0 = some x0 := by
  have hlen : x0.length ≤ 1048576 := hs.1
  have hloop := to_loop (a := x0) (d := ((0 : Int), ((0 : Int), ((0 : Int), ((0 : Int), ((0 : Int), (([] : t_iiis), (([] : t_iis), (([] : t_isiis), ((0 : Int), ((0 : Int), (([] : t_i), (([] : Bytes), ((0 : Int), (([] : t_b), (([] : t_i), (([] : t_i), ((0 : Int), (([] : t_iis), (([] : t_isiis), ((0 : Int), ((0 : Int), (([] : t_i), (([] : Bytes), (([] : t_u), ((0 : Int), ([] : t_q1))))))))))))))))))))))))))) hlen (L := fun n m i out => L_toPeerS_0 n m i x0 out) ?_ (fun n m out => by rw [eqL_toPeerS_0]; simp)
  · refine Evt.succ (hloop.mono fun n h => ?_)
    rw [eq_toPeerS, decide_eq_true (by unfold big; omega)]
    simp only [cond_true, Int.toNat_natCast, h, Option.bind_some, sumE]
  · refine (Evt.all x0 fun x hx => sp_toPeer x.1 x.2.1 x.2.2.1 x.2.2.2.1 x.2.2.2.2.1 x.2.2.2.2.2.1 x.2.2.2.2.2.2.1 x.2.2.2.2.2.2.2.1 x.2.2.2.2.2.2.2.2.1 x.2.2.2.2.2.2.2.2.2.1 x.2.2.2.2.2.2.2.2.2.2.1 x.2.2.2.2.2.2.2.2.2.2.2.1 x.2.2.2.2.2.2.2.2.2.2.2.2.1 x.2.2.2.2.2.2.2.2.2.2.2.2.2.1 x.2.2.2.2.2.2.2.2.2.2.2.2.2.2.1 x.2.2.2.2.2.2.2.2.2.2.2.2.2.2.2.1 x.2.2.2.2.2.2.2.2.2.2.2.2.2.2.2.2.1 x.2.2.2.2.2.2.2.2.2.2.2.2.2.2.2.2.2.1 x.2.2.2.2.2.2.2.2.2.2.2.2.2.2.2.2.2.2.1 x.2.2.2.2.2.2.2.2.2.2.2.2.2.2.2.2.2.2.2.1 x.2.2.2.2.2.2.2.2.2.2.2.2.2.2.2.2.2.2.2.2.1 x.2.2.2.2.2.2.2.2.2.2.2.2.2.2.2.2.2.2.2.2.2.1 x.2.2.2.2.2.2.2.2.2.2.2.2.2.2.2.2.2.2.2.2.2.2.1 x.2.2.2.2.2.2.2.2.2.2.2.2.2.2.2.2.2.2.2.2.2.2.2.1 x.2.2.2.2.2.2.2.2.2.2.2.2.2.2.2.2.2.2.2.2.2.2.2.2.1 x.2.2.2.2.2.2.2.2.2.2.2.2.2.2.2.2.2.2.2.2.2.2.2.2.2 (hs.2 x hx)).mono fun n h m i out hi hout => ?_
    have hx := h _ (List.getElem_mem hi)
    rw [eqL_toPeerS_0, decide_eq_true (by omega), atZ_at hi]
    simp only [cond_true, Option.bind_some, hx]
    rw [decide_eq_true (by omega), atN_at (l := out) (by omega)]
    simp only [cond_true, Option.bind_some, Int.toNat_natCast]
theorem sp_toSink (x0 : Int) (x1 : Bytes) (hs : smL (.cons (.int .i64) (.one .str)) (x0, x1)) : Evt fun n => F_toSink n x0 x1 = some (x0, x1) := by
  exact Evt.succ (Evt.of fun n => by rw [eq_toSink])
theorem sp_toCmdS (x0 : t_iis) (hs : smI c_iis x0) : Evt fun n => F_toCmdS n x0 = some x0 := by
  have hlen : x0.length ≤ 1048576 := hs.1
  have hloop := to_loop (a := x0) (d := ((0 : Int), ((0 : Int), ([] : Bytes)))) hlen (L := fun n m i out => L_toCmdS_0 n m i x0 out) ?_ (fun n m out => by rw [eqL_toCmdS_0]; simp)
  · refine Evt.succ (hloop.mono fun n h => ?_)
    rw [eq_toCmdS, decide_eq_true (by unfold big; omega)]
    simp only [cond_true, Int.toNat_natCast, h, Option.bind_some, sumE]
  · refine (Evt.all x0 fun x hx => sp_toCmd x.1 x.2.1 x.2.2 (hs.2 x hx)).mono fun n h m i out hi hout => ?_
    have hx := h _ (List.getElem_mem hi)
    rw [eqL_toCmdS_0, decide_eq_true (by omega), atZ_at hi]
    simp only [cond_true, Option.bind_some, hx]
    rw [decide_eq_true (by omega), atN_at (l := out) (by omega)]
    simp only [cond_true, Option.bind_some, Int.toNat_natCast]
theorem sp_toWorld (x0 : t_s) (x1 : t_s) (x2 : t_iis) (x3 : t_iis) (x4 : Int) (x5 : t_q0) (x6 : t_q1) (x7 : Int) (x8 : Bytes) (x9 : t_i) (x10 : t_i) (x11 : t_iis) (hs : smL (.cons c_s (.cons c_s (.cons c_iis (.cons c_iis (.cons (.int .i64) (.cons c_q0 (.cons c_q1 (.cons (.int .i64) (.cons .str (.cons c_i (.cons c_i (.one c_iis)))))))))))) (x0, (x1, (x2, (x3, (x4, (x5, (x6, (x7, (x8, (x9, (x10, x11)))))))))))) : Evt fun n => F_toWorld n x0 x1 x2 x3 x4 x5 x6 x7 x8 x9 x10 x11 = some (x0, (x1, (x2, (x3, (x4, (x5, (x6, (x7, (x8, (x9, (x10, x11))))))))))) := by
  obtain ⟨s0, s1, s2, s3, s4, s5, s6, s7, s8, s9, s10, s11⟩ := hs
  refine Evt.succ ((((((((sp_toProg x0 x1 x2 x3 (And.intro s0 (And.intro s1 (And.intro s2 s3)))).and (sp_toPeerS x5 s5)).and (sp_toRpcS x6 s6)).and (sp_toSink x7 x8 (And.intro s7 s8))).and (sp_toIntS x9 s9)).and (sp_toIntS x10 s10)).and (sp_toCmdS x11 s11)).mono fun n ⟨⟨⟨⟨⟨⟨h0, h1⟩, h2⟩, h3⟩, h4⟩, h5⟩, h6⟩ => ?_)
  rw [eq_toWorld]
  simp only [h0, h1, h2, h3, h4, h5, h6, Option.bind_some]
theorem sp_eqStringS (x0 : t_s) (hs : smI c_s x0) : Evt fun n => F_eqStringS n x0 x0 = some true := by
  have hlen : x0.length ≤ 1048576 := hs.1
  have hloop := eq_loop (len := x0.length) hlen (L := fun n m i => L_eqStringS_0 n m i x0 x0) ?_ (fun n m => by rw [eqL_eqStringS_0]; simp)
  · refine Evt.succ (hloop.mono fun n h => ?_)
    rw [eq_eqStringS]
    simp only [bne_self_eq_false, cond_false, h, Option.bind_some, sumE]
  · refine Evt.of fun n m i hi => ?_
    rw [eqL_eqStringS_0, decide_eq_true (by omega), atZ_at hi]
    simp
theorem sp_eqOp (x0 : Int) (x1 : Int) (x2 : Bytes) (hs : smL (.cons (.int .i64) (.cons (.int .i64) (.one .str))) (x0, (x1, x2))) : Evt fun n => F_eqOp n x0 x1 x2 x0 x1 x2 = some true := by
  exact Evt.succ (Evt.of fun n => by rw [eq_eqOp]; simp)
theorem sp_eqOpS (x0 : t_iis) (hs : smI c_iis x0) : Evt fun n => F_eqOpS n x0 x0 = some true := by
  have hlen : x0.length ≤ 1048576 := hs.1
  have hloop := eq_loop (len := x0.length) hlen (L := fun n m i => L_eqOpS_0 n m i x0 x0) ?_ (fun n m => by rw [eqL_eqOpS_0]; simp)
  · refine Evt.succ (hloop.mono fun n h => ?_)
    rw [eq_eqOpS]
    simp only [bne_self_eq_false, cond_false, h, Option.bind_some, sumE]
  · refine (Evt.all x0 fun x hx => sp_eqOp x.1 x.2.1 x.2.2 (hs.2 x hx)).mono fun n h m i hi => ?_
    have hx := h _ (List.getElem_mem hi)
    rw [eqL_eqOpS_0, decide_eq_true (by omega), atZ_at hi]
    simp only [cond_true, Option.bind_some, hx, Bool.not_true, cond_false]
theorem sp_eqProg (x0 : t_s) (x1 : t_s) (x2 : t_iis) (x3 : t_iis) (hs : smL (.cons c_s (.cons c_s (.cons c_iis (.one c_iis)))) (x0, (x1, (x2, x3)))) : Evt fun n => F_eqProg n x0 x1 x2 x3 x0 x1 x2 x3 = some true := by
  obtain ⟨s0, s1, s2, s3⟩ := hs
  refine Evt.succ (((((sp_eqStringS x0 s0).and (sp_eqStringS x1 s1)).and (sp_eqOpS x2 s2)).and (sp_eqOpS x3 s3)).mono fun n ⟨⟨⟨h0, h1⟩, h2⟩, h3⟩ => ?_)
  rw [eq_eqProg]
  simp [h0, h1, h2, h3]
theorem sp_eqCmd (x0 : Int) (x1 : Int) (x2 : Bytes) (hs : smL (.cons (.int .i64) (.cons (.int .i64) (.one .str))) (x0, (x1, x2))) : Evt fun n => F_eqCmd n x0 x1 x2 x0 x1 x2 = some true := by
  exact Evt.succ (Evt.of fun n => by rw [eq_eqCmd]; simp)
theorem sp_eqEntry (x0 : Int) (x1 : Int) (x2 : Int) (x3 : Bytes) (hs : smL (.cons (.int .i64) (.cons (.int .i64) (.cons (.int .i64) (.one .str)))) (x0, (x1, (x2, x3)))) : Evt fun n => F_eqEntry n x0 x1 x2 x3 x0 x1 x2 x3 = some true := by
  obtain ⟨s0, s1, s2, s3⟩ := hs
  refine Evt.succ ((sp_eqCmd x1 x2 x3 (And.intro s1 (And.intro s2 s3))).mono fun n h0 => ?_)
  rw [eq_eqEntry]
  simp [h0]
theorem sp_eqEntryS (x0 : t_iiis) (hs : smI c_iiis x0) : Evt fun n => F_eqEntryS n x0 x0 = some true := by
  have hlen : x0.length ≤ 1048576 := hs.1
  have hloop := eq_loop (len := x0.length) hlen (L := fun n m i => L_eqEntryS_0 n m i x0 x0) ?_ (fun n m => by rw [eqL_eqEntryS_0]; simp)
  · refine Evt.succ (hloop.mono fun n h => ?_)
    rw [eq_eqEntryS]
    simp only [bne_self_eq_false, cond_false, h, Option.bind_some, sumE]
  · refine (Evt.all x0 fun x hx => sp_eqEntry x.1 x.2.1 x.2.2.1 x.2.2.2 (hs.2 x hx)).mono fun n h m i hi => ?_
    have hx := h _ (List.getElem_mem hi)
    rw [eqL_eqEntryS_0, decide_eq_true (by omega), atZ_at hi]
    simp only [cond_true, Option.bind_some, hx, Bool.not_true, cond_false]
theorem sp_eqLog (x0 : Int) (x1 : Int) (x2 : t_iiis) (hs : smL (.cons (.int .i64) (.cons (.int .i64) (.one c_iiis))) (x0, (x1, x2))) : Evt fun n => F_eqLog n x0 x1 x2 x0 x1 x2 = some true := by
  obtain ⟨s0, s1, s2⟩ := hs
  refine Evt.succ ((sp_eqEntryS x2 s2).mono fun n h0 => ?_)
  rw [eq_eqLog]
  simp [h0]
theorem sp_eqVal (x0 : Int) (x1 : Int) (x2 : Bytes) (hs : smL (.cons (.int .i64) (.cons (.int .i64) (.one .str))) (x0, (x1, x2))) : Evt fun n => F_eqVal n x0 x1 x2 x0 x1 x2 = some true := by
  exact Evt.succ (Evt.of fun n => by rw [eq_eqVal]; simp)
theorem sp_eqValS (x0 : t_iis) (hs : smI c_iis x0) : Evt fun n => F_eqValS n x0 x0 = some true := by
  have hlen : x0.length ≤ 1048576 := hs.1
  have hloop := eq_loop (len := x0.length) hlen (L := fun n m i => L_eqValS_0 n m i x0 x0) ?_ (fun n m => by rw [eqL_eqValS_0]; simp)
  · refine Evt.succ (hloop.mono fun n h => ?_)
    rw [eq_eqValS]
    simp only [bne_self_eq_false, cond_false, h, Option.bind_some, sumE]
  · refine (Evt.all x0 fun x hx => sp_eqVal x.1 x.2.1 x.2.2 (hs.2 x hx)).mono fun n h m i hi => ?_
    have hx := h _ (List.getElem_mem hi)
    rw [eqL_eqValS_0, decide_eq_true (by omega), atZ_at hi]
    simp only [cond_true, Option.bind_some, hx, Bool.not_true, cond_false]
theorem sp_eqCell (x0 : Int) (x1 : Bytes) (x2 : Int) (x3 : Int) (x4 : Bytes) (hs : smL (.cons (.int .i64) (.cons .str (.cons (.int .i64) (.cons (.int .i64) (.one .str))))) (x0, (x1, (x2, (x3, x4))))) : Evt fun n => F_eqCell n x0 x1 x2 x3 x4 x0 x1 x2 x3 x4 = some true := by
  obtain ⟨s0, s1, s2, s3, s4⟩ := hs
  refine Evt.succ ((sp_eqVal x2 x3 x4 (And.intro s2 (And.intro s3 s4))).mono fun n h0 => ?_)
  rw [eq_eqCell]
  simp [h0]
theorem sp_eqCellS (x0 : t_isiis) (hs : smI c_isiis x0) : Evt fun n => F_eqCellS n x0 x0 = some true := by
  have hlen : x0.length ≤ 1048576 := hs.1
  have hloop := eq_loop (len := x0.length) hlen (L := fun n m i => L_eqCellS_0 n m i x0 x0) ?_ (fun n m => by rw [eqL_eqCellS_0]; simp)
  · refine Evt.succ (hloop.mono fun n h => ?_)
    rw [eq_eqCellS]
    simp only [bne_self_eq_false, cond_false, h, Option.bind_some, sumE]
  · refine (Evt.all x0 fun x hx => sp_eqCell x.1 x.2.1 x.2.2.1 x.2.2.2.1 x.2.2.2.2 (hs.2 x hx)).mono fun n h m i hi => ?_
    have hx := h _ (List.getElem_mem hi)
    rw [eqL_eqCellS_0, decide_eq_true (by omega), atZ_at hi]
    simp only [cond_true, Option.bind_some, hx, Bool.not_true, cond_false]
theorem sp_eqState (x0 : t_iis) (x1 : t_isiis) (x2 : Int) (x3 : Int) (hs : smL (.cons c_iis (.cons c_isiis (.cons (.int .i64) (.one (.int .i64))))) (x0, (x1, (x2, x3)))) : Evt fun n => F_eqState n x0 x1 x2 x3 x0 x1 x2 x3 = some true := by
  obtain ⟨s0, s1, s2, s3⟩ := hs
  refine Evt.succ (((sp_eqValS x0 s0).and (sp_eqCellS x1 s1)).mono fun n ⟨h0, h1⟩ => ?_)
  rw [eq_eqState]
  simp [h0, h1]
theorem sp_eqIntS (x0 : t_i) (hs : smI c_i x0) : Evt fun n => F_eqIntS n x0 x0 = some true := by
  have hlen : x0.length ≤ 1048576 := hs.1
  have hloop := eq_loop (len := x0.length) hlen (L := fun n m i => L_eqIntS_0 n m i x0 x0) ?_ (fun n m => by rw [eqL_eqIntS_0]; simp)
  · refine Evt.succ (hloop.mono fun n h => ?_)
    rw [eq_eqIntS]
    simp only [bne_self_eq_false, cond_false, h, Option.bind_some, sumE]
  · refine Evt.of fun n m i hi => ?_
    rw [eqL_eqIntS_0, decide_eq_true (by omega), atZ_at hi]
    simp
theorem sp_eqMach (x0 : t_iis) (x1 : t_isiis) (x2 : Int) (x3 : Int) (x4 : t_i) (x5 : Bytes) (hs : smL (.cons c_iis (.cons c_isiis (.cons (.int .i64) (.cons (.int .i64) (.cons c_i (.one .str)))))) (x0, (x1, (x2, (x3, (x4, x5)))))) : Evt fun n => F_eqMach n x0 x1 x2 x3 x4 x5 x0 x1 x2 x3 x4 x5 = some true := by
  obtain ⟨s0, s1, s2, s3, s4, s5⟩ := hs
  refine Evt.succ (((sp_eqState x0 x1 x2 x3 (And.intro s0 (And.intro s1 (And.intro s2 s3)))).and (sp_eqIntS x4 s4)).mono fun n ⟨h0, h1⟩ => ?_)
  rw [eq_eqMach]
  simp [h0, h1]
theorem sp_eqHard (x0 : Int) (x1 : Int) (x2 : Int) (x3 : Int) (x4 : t_iiis) (x5 : t_iis) (x6 : t_isiis) (x7 : Int) (x8 : Int) (x9 : t_i) (x10 : Bytes) (hs : smL (.cons (.int .i64) (.cons (.int .i64) (.cons (.int .i64) (.cons (.int .i64) (.cons c_iiis (.cons c_iis (.cons c_isiis (.cons (.int .i64) (.cons (.int .i64) (.cons c_i (.one .str))))))))))) (x0, (x1, (x2, (x3, (x4, (x5, (x6, (x7, (x8, (x9, x10))))))))))) : Evt fun n => F_eqHard n x0 x1 x2 x3 x4 x5 x6 x7 x8 x9 x10 x0 x1 x2 x3 x4 x5 x6 x7 x8 x9 x10 = some true := by
  obtain ⟨s0, s1, s2, s3, s4, s5, s6, s7, s8, s9, s10⟩ := hs
  refine Evt.succ (((sp_eqLog x2 x3 x4 (And.intro s2 (And.intro s3 s4))).and (sp_eqMach x5 x6 x7 x8 x9 x10 (And.intro s5 (And.intro s6 (And.intro s7 (And.intro s8 (And.intro s9 s10))))))).mono fun n ⟨h0, h1⟩ => ?_)
  rw [eq_eqHard]
  simp [h0, h1]
theorem sp_eqBoolS (x0 : t_b) (hs : smI c_b x0) : Evt fun n => F_eqBoolS n x0 x0 = some true := by
  have hlen : x0.length ≤ 1048576 := hs.1
  have hloop := eq_loop (len := x0.length) hlen (L := fun n m i => L_eqBoolS_0 n m i x0 x0) ?_ (fun n m => by rw [eqL_eqBoolS_0]; simp)
  · refine Evt.succ (hloop.mono fun n h => ?_)
    rw [eq_eqBoolS]
    simp only [bne_self_eq_false, cond_false, h, Option.bind_some, sumE]
  · refine Evt.of fun n m i hi => ?_
    rw [eqL_eqBoolS_0, decide_eq_true (by omega), atZ_at hi]
    simp
theorem sp_eqByteS (x0 : t_u) (hs : smI c_u x0) : Evt fun n => F_eqByteS n x0 x0 = some true := by
  have hlen : x0.length ≤ 1048576 := hs.1
  have hloop := eq_loop (len := x0.length) hlen (L := fun n m i => L_eqByteS_0 n m i x0 x0) ?_ (fun n m => by rw [eqL_eqByteS_0]; simp)
  · refine Evt.succ (hloop.mono fun n h => ?_)
    rw [eq_eqByteS]
    simp only [bne_self_eq_false, cond_false, h, Option.bind_some, sumE]
  · refine Evt.of fun n m i hi => ?_
    rw [eqL_eqByteS_0, decide_eq_true (by omega), atZ_at hi]
    simp
theorem sp_eqDisk (x0 : t_u) (x1 : Int) (hs : smL (.cons c_u (.one (.int .i64))) (x0, x1)) : Evt fun n => F_eqDisk n x0 x1 x0 x1 = some true := by
  obtain ⟨s0, s1⟩ := hs
  refine Evt.succ ((sp_eqByteS x0 s0).mono fun n h0 => ?_)
  rw [eq_eqDisk]
  simp [h0]
theorem sp_eqRpc (x0 : Int) (x1 : Int) (x2 : Int) (x3 : Int) (x4 : Int) (x5 : Int) (x6 : Int) (x7 : t_iiis) (x8 : Bool) (x9 : Bytes) (hs : smL (.cons (.int .i64) (.cons (.int .i64) (.cons (.int .i64) (.cons (.int .i64) (.cons (.int .i64) (.cons (.int .i64) (.cons (.int .i64) (.cons c_iiis (.cons .bool (.one .str)))))))))) (x0, (x1, (x2, (x3, (x4, (x5, (x6, (x7, (x8, x9)))))))))) : Evt fun n => F_eqRpc n x0 x1 x2 x3 x4 x5 x6 x7 x8 x9 x0 x1 x2 x3 x4 x5 x6 x7 x8 x9 = some true := by
  obtain ⟨s0, s1, s2, s3, s4, s5, s6, s7, s8, s9⟩ := hs
  refine Evt.succ ((sp_eqEntryS x7 s7).mono fun n h0 => ?_)
  rw [eq_eqRpc]
  simp [h0]
theorem sp_eqRpcS (x0 : t_q1) (hs : smI c_q1 x0) : Evt fun n => F_eqRpcS n x0 x0 = some true := by
  have hlen : x0.length ≤ 1048576 := hs.1
  have hloop := eq_loop (len := x0.length) hlen (L := fun n m i => L_eqRpcS_0 n m i x0 x0) ?_ (fun n m => by rw [eqL_eqRpcS_0]; simp)
  · refine Evt.succ (hloop.mono fun n h => ?_)
    rw [eq_eqRpcS]
    simp only [bne_self_eq_false, cond_false, h, Option.bind_some, sumE]
  · refine (Evt.all x0 fun x hx => sp_eqRpc x.1 x.2.1 x.2.2.1 x.2.2.2.1 x.2.2.2.2.1 x.2.2.2.2.2.1 x.2.2.2.2.2.2.1 x.2.2.2.2.2.2.2.1 x.2.2.2.2.2.2.2.2.1 x.2.2.2.2.2.2.2.2.2 (hs.2 x hx)).mono fun n h m i hi => ?_
    have hx := h _ (List.getElem_mem hi)
    rw [eqL_eqRpcS_0, decide_eq_true (by omega), atZ_at hi]
    simp only [cond_true, Option.bind_some, hx, Bool.not_true, cond_false]
theorem sp_eqPeer (x0 : Int) (x1 : Int) (x2 : Int) (x3 : Int) (x4 : Int) (x5 : t_iiis) (x6 : t_iis) (x7 : t_isiis) (x8 : Int) (x9 : Int) (x10 : t_i) (x11 : Bytes) (x12 : Int) (x13 : t_b) (x14 : t_i) (x15 : t_i) (x16 : Int) (x17 : t_iis) (x18 : t_isiis) (x19 : Int) (x20 : Int) (x21 : t_i) (x22 : Bytes) (x23 : t_u) (x24 : Int) (x25 : t_q1) (hs : smL (.cons (.int .i64) (.cons (.int .i64) (.cons (.int .i64) (.cons (.int .i64) (.cons (.int .i64) (.cons c_iiis (.cons c_iis (.cons c_isiis (.cons (.int .i64) (.cons (.int .i64) (.cons c_i (.cons .str (.cons (.int .i64) (.cons c_b (.cons c_i (.cons c_i (.cons (.int .i64) (.cons c_iis (.cons c_isiis (.cons (.int .i64) (.cons (.int .i64) (.cons c_i (.cons .str (.cons c_u (.cons (.int .i64) (.one c_q1)))))))))))))))))))))))))) (x0, (x1, (x2, (x3, (x4, (x5, (x6, (x7, (x8, (x9, (x10, (x11, (x12, (x13, (x14, (x15, (x16, (x17, (x18, (x19, (x20, (x21, (x22, (x23, (x24, x25)))))))))))))))))))))))))) : Evt fun n => F_eqPeer n x0 x1 x2 x3 x4 x5 x6 x7 x8 x9 x10 x11 x12 x13 x14 x15 x16 x17 x18 x19 x20 x21 x22 x23 x24 x25 x0 x1 x2 x3 x4 x5 x6 x7 x8 x9 x10 x11 x12 x13 x14 x15 x16 x17 x18 x19 x20 x21 x22 x23 x24 x25 = some true := by
  obtain ⟨s0, s1, s2, s3, s4, s5, s6, s7, s8, s9, s10, s11, s12, s13, s14, s15, s16, s17, s18, s19, s20, s21, s22, s23, s24, s25⟩ := hs
  refine Evt.succ ((((((((sp_eqHard x1 x2 x3 x4 x5 x6 x7 x8 x9 x10 x11 (And.intro s1 (And.intro s2 (And.intro s3 (And.intro s4 (And.intro s5 (And.intro s6 (And.intro s7 (And.intro s8 (And.intro s9 (And.intro s10 s11))))))))))).and (sp_eqBoolS x13 s13)).and (sp_eqIntS x14 s14)).and (sp_eqIntS x15 s15)).and (sp_eqMach x17 x18 x19 x20 x21 x22 (And.intro s17 (And.intro s18 (And.intro s19 (And.intro s20 (And.intro s21 s22))))))).and (sp_eqDisk x23 x24 (And.intro s23 s24))).and (sp_eqRpcS x25 s25)).mono fun n ⟨⟨⟨⟨⟨⟨h0, h1⟩, h2⟩, h3⟩, h4⟩, h5⟩, h6⟩ => ?_)
  rw [eq_eqPeer]
  simp [h0, h1, h2, h3, h4, h5, h6]
theorem sp_eqPeerS (x0 : t_q0) (hs : smI c_q0 x0) : Evt fun n => F_eqPeerS n x0 x0 = some true := by
  have hlen : x0.length ≤ 1048576 := hs.1
  have hloop := eq_loop (len := x0.length) hlen (L := fun n m i => L_eqPeerS_0 n m i x0 x0) ?_ (fun n m => by rw [eqL_eqPeerS_0]; simp)
  · refine Evt.succ (hloop.mono fun n h => ?_)
    rw [eq_eqPeerS]
    simp only [bne_self_eq_false, cond_false, h, Option.bind_some, sumE]
  · refine (Evt.all x0 fun x hx => sp_eqPeer x.1 x.2.1 x.2.2.1 x.2.2.2.1 x.2.2.2.2.1 x.2.2.2.2.2.1 x.2.2.2.2.2.2.1 x.2.2.2.2.2.2.2.1 x.2.2.2.2.2.2.2.2.1 x.2.2.2.2.2.2.2.2.2.1 x.2.2.2.2.2.2.2.2.2.2.1 x.2.2.2.2.2.2.2.2.2.2.2.1 x.2.2.2.2.2.2.2.2.2.2.2.2.1 x.2.2.2.2.2.2.2.2.2.2.2.2.2.1 x.2.2.2.2.2.2.2.2.2.2.2.2.2.2.1 x.2.2.2.2.2.2.2.2.2.2.2.2.2.2.2.1 x.2.2.2.2.2.2.2.2.2.2.2.2.2.2.2.2.1 x.2.2.2.2.2.2.2.2.2.2.2.2.2.2.2.2.2.1 x.2.2.2.2.2.2.2.2.2.2.2.2.2.2.2.2.2.2.1 x.2.2.2.2.2.2.2.2.2.2.2.2.2.2.2.2.2.2.2.1 x.2.2.2.2.2.2.2.2.2.2.2.2.2.2.2.2.2.2.2.2.1 x.2.2.2.2.2.2.2.2.2.2.2.2.2.2.2.2.2.2.2.2.2.1 x.2.2.2.2.2.2.2.2.2.2.2.2.2.2.2.2.2.2.2.2.2.2.1 x.2.2.2.2.2.2.2.2.2.2.2.2.2.2.2.2.2.2.2.2.2.2.2.1 x.2.2.2.2.2.2.2.2.2.2.2.2.2.2.2.2.2.2.2.2.2.2.2.2.1 x.2.2.2.2.2.2.2.2.2.2.2.2.2.2.2.2.2.2.2.2.2.2.2.2.2 (hs.2 x hx)).mono fun n h m i hi => ?_
    have hx := h _ (List.getElem_mem hi)
    rw [eqL_eqPeerS_0, decide_eq_true (by omega), atZ_at hi]
    simp only [cond_true, Option.bind_some, hx, Bool.not_true, cond_false]
theorem sp_eqSink (x0 : Int) (x1 : Bytes) (hs : smL (.cons (.int .i64) (.one .str)) (x0, x1)) : Evt fun n => F_eqSink n x0 x1 x0 x1 = some true := by
  exact Evt.succ (Evt.of fun n => by rw [eq_eqSink]; simp)
theorem sp_eqCmdS (x0 : t_iis) (hs : smI c_iis x0) : Evt fun n => F_eqCmdS n x0 x0 = some true := by
  have hlen : x0.length ≤ 1048576 := hs.1
  have hloop := eq_loop (len := x0.length) hlen (L := fun n m i => L_eqCmdS_0 n m i x0 x0) ?_ (fun n m => by rw [eqL_eqCmdS_0]; simp)
  · refine Evt.succ (hloop.mono fun n h => ?_)
    rw [eq_eqCmdS]
    simp only [bne_self_eq_false, cond_false, h, Option.bind_some, sumE]
  · refine (Evt.all x0 fun x hx => sp_eqCmd x.1 x.2.1 x.2.2 (hs.2 x hx)).mono fun n h m i hi => ?_
    have hx := h _ (List.getElem_mem hi)
    rw [eqL_eqCmdS_0, decide_eq_true (by omega), atZ_at hi]
    simp only [cond_true, Option.bind_some, hx, Bool.not_true, cond_false]
theorem sp_eqWorld (x0 : t_s) (x1 : t_s) (x2 : t_iis) (x3 : t_iis) (x4 : Int) (x5 : t_q0) (x6 : t_q1) (x7 : Int) (x8 : Bytes) (x9 : t_i) (x10 : t_i) (x11 : t_iis) (hs : smL (.cons c_s (.cons c_s (.cons c_iis (.cons c_iis (.cons (.int .i64) (.cons c_q0 (.cons c_q1 (.cons (.int .i64) (.cons .str (.cons c_i (.cons c_i (.one c_iis)))))))))))) (x0, (x1, (x2, (x3, (x4, (x5, (x6, (x7, (x8, (x9, (x10, x11)))))))))))) : Evt fun n => F_eqWorld n x0 x1 x2 x3 x4 x5 x6 x7 x8 x9 x10 x11 x0 x1 x2 x3 x4 x5 x6 x7 x8 x9 x10 x11 = some true := by
  obtain ⟨s0, s1, s2, s3, s4, s5, s6, s7, s8, s9, s10, s11⟩ := hs
  refine Evt.succ ((((((((sp_eqProg x0 x1 x2 x3 (And.intro s0 (And.intro s1 (And.intro s2 s3)))).and (sp_eqPeerS x5 s5)).and (sp_eqRpcS x6 s6)).and (sp_eqSink x7 x8 (And.intro s7 s8))).and (sp_eqIntS x9 s9)).and (sp_eqIntS x10 s10)).and (sp_eqCmdS x11 s11)).mono fun n ⟨⟨⟨⟨⟨⟨h0, h1⟩, h2⟩, h3⟩, h4⟩, h5⟩, h6⟩ => ?_)
  rw [eq_eqWorld]
  simp [h0, h1, h2, h3, h4, h5, h6]
end Go.Proofs.YtmabfdnconccnaaGreatDoor
