/- Sizes, copies and comparisons of a law's data. -/
import Derived.Test.YtmabfdnconccnaaDoorEq
namespace Go.Proofs.YtmabfdnconccnaaDoor
open Go Go.Ev
theorem sp_szVal (x0 : Int) (x1 : Int) (x2 : Bytes) (ho : okL (.cons (.int .i64) (.cons (.int .i64) (.one .str))) (x0, (x1, x2))) : Evt fun n => ∀ x3 : Int, 0 ≤ x3 → x3 ≤ 1048576 → ∃ v : Int, F_szVal n x0 x1 x2 x3 = some v ∧ v ≤ 1048576 ∧ (0 ≤ v → smL (.cons (.int .i64) (.cons (.int .i64) (.one .str))) (x0, (x1, x2))) := by
  obtain ⟨o0, o1, o2⟩ := ho
  refine Evt.succ (Evt.of fun n x3 hl0 hl1 => ?_)
  rw [eq_szVal]
  rw [len_wrap (cur := x3) (k := x2.length) (by omega) (by omega) o2]
  obtain ⟨v0, ev0⟩ : ∃ v : Int, v = x3 - (x2.length : Int) := ⟨_, rfl⟩
  rw [← ev0]
  by_cases cv0 : v0 < 0
  · rw [decide_eq_true cv0]; exact ⟨-1, rfl, by omega, fun h => absurd h (by omega)⟩
  rw [decide_eq_false cv0]; simp only [cond_false]
  have t2 : x2.length ≤ 1048576 := by omega
  exact ⟨v0, rfl, by omega, fun _ => (And.intro trivial (And.intro trivial t2))⟩
theorem sp_toVal (x0 : Int) (x1 : Int) (x2 : Bytes) (hs : smL (.cons (.int .i64) (.cons (.int .i64) (.one .str))) (x0, (x1, x2))) : Evt fun n => F_toVal n x0 x1 x2 = some (x0, (x1, x2)) := by
  exact Evt.succ (Evt.of fun n => by rw [eq_toVal])
end Go.Proofs.YtmabfdnconccnaaDoor
