/- The law of RpcText comes to true. -/
import Derived.Test.YtmabfdnconccnaaDoorTxt
namespace Go.Proofs.YtmabfdnconccnaaDoor
open Go Go.Ev

theorem sp_FnExactRpcText (x0 x1 x2 x3 x4 x5 x6 : Int) (x7 : t_iiis) (x8 : Bool) (x9 : Bytes) (h0 : inI x0) (h1 : inI x1) (h2 : inI x2) (h3 : inI x3) (h4 : inI x4) (h5 : inI x5) (h6 : inI x6) (h7 : okI c_iiis x7) (h9 : okI .str x9) :
    Evt fun n => F_FnExactRpcText n x0 x1 x2 x3 x4 x5 x6 x7 x8 x9 = some true := by
  have hsz := sp_szRpc x0 x1 x2 x3 x4 x5 x6 x7 x8 x9 (And.intro h0 (And.intro h1 (And.intro h2 (And.intro h3 (And.intro h4 (And.intro h5 (And.intro h6 (And.intro h7 (And.intro trivial h9)))))))))
  by_cases hsm : smL (.cons (.int .i64) (.cons (.int .i64) (.cons (.int .i64) (.cons (.int .i64) (.cons (.int .i64) (.cons (.int .i64) (.cons (.int .i64) (.cons c_iiis (.cons .bool (.one .str)))))))))) (x0, (x1, (x2, (x3, (x4, (x5, (x6, (x7, (x8, x9)))))))))
  · refine Evt.succ ((((hsz.and (sp_toRpc x0 x1 x2 x3 x4 x5 x6 x7 x8 x9 hsm)).and (sp_sRpcText x0 x1 x2 x3 x4 x5 x6 x7 x8 x9 h1 h2 h3 h4)).and ((sp_iRpcText x0 x1 x2 x3 x4 x5 x6 x7 x8 x9 h1 h2 h3 h4).and (sp_eqRpc x0 x1 x2 x3 x4 x5 x6 x7 x8 x9 hsm))).mono fun n ⟨⟨⟨e1, e2⟩, e3⟩, e4, e5⟩ => ?_)
    obtain ⟨v, e, -, -⟩ := e1 1048576 (by omega) (by omega)
    rw [eq_FnExactRpcText, e]
    simp only [Option.bind_some, e2, e3, e4, e5]
    cases decide (v < 0) <;> simp
  · refine Evt.succ (hsz.mono fun n e1 => ?_)
    obtain ⟨v, e, -, hs⟩ := e1 1048576 (by omega) (by omega)
    have hv : v < 0 := by
      rcases Int.lt_or_le v 0 with h | h
      · exact h
      · exact absurd (hs h) hsm
    rw [eq_FnExactRpcText, e]
    simp only [Option.bind_some]
    rw [decide_eq_true hv]
    rfl

end Go.Proofs.YtmabfdnconccnaaDoor
