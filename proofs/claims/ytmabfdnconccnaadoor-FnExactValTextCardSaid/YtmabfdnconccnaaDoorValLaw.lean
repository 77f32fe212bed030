/- The law of ValText comes to true. -/
import Derived.Test.YtmabfdnconccnaaDoorTxtVal
namespace Go.Proofs.YtmabfdnconccnaaDoor
open Go Go.Ev

theorem sp_FnExactValText (x0 : Int) (x1 : Int) (x2 : Bytes) (h0 : okI (.int .i64) x0) (h1 : okI (.int .i64) x1) (h2 : okI .str x2) : Evt fun n => F_FnExactValText n x0 x1 x2 = some true := by
  have hsz := sp_szVal x0 x1 x2 (And.intro h0 (And.intro h1 h2))
  by_cases hsm : smL (.cons (.int .i64) (.cons (.int .i64) (.one .str))) (x0, (x1, x2))
  · have hsm' := hsm
    obtain ⟨s0, s1, s2⟩ := hsm'
    refine Evt.succ ((((hsz.and (sp_toVal x0 x1 x2 hsm)).and (sp_sValText x0 x1 x2 s2)).and (sp_iValText x0 x1 x2 s2)).mono fun n ⟨⟨⟨e1, e2⟩, e3⟩, e4⟩ => ?_)
    obtain ⟨v, e, -, -⟩ := e1 1048576 (by omega) (by omega)
    rw [eq_FnExactValText, e]
    simp only [Option.bind_some, e2, e3, e4]
    cases decide (v < 0) <;> simp
  · refine Evt.succ (hsz.mono fun n e1 => ?_)
    obtain ⟨v, e, -, hs⟩ := e1 1048576 (by omega) (by omega)
    have hv : v < 0 := by
      rcases Int.lt_or_le v 0 with h | h
      · exact h
      · exact absurd (hs h) hsm
    rw [eq_FnExactValText, e]
    simp only [Option.bind_some]
    rw [decide_eq_true hv]
    rfl

end Go.Proofs.YtmabfdnconccnaaDoor
