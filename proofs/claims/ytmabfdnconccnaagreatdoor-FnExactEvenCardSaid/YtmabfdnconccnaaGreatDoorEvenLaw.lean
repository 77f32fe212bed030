/- The law of Even comes to true. -/
import Derived.Test.YtmabfdnconccnaaGreatDoorTxtSm
namespace Go.Proofs.YtmabfdnconccnaaGreatDoor
open Go Go.Ev
theorem sp_FnExactEven (x0 : t_s) (x1 : t_s) (x2 : t_iis) (x3 : t_iis) (x4 : Int) (x5 : t_q0) (x6 : t_q1) (x7 : Int) (x8 : Bytes) (x9 : t_i) (x10 : t_i) (x11 : t_iis) (x12 : Int) (h0 : okI c_s x0) (h1 : okI c_s x1) (h2 : okI c_iis x2) (h3 : okI c_iis x3) (h4 : okI (.int .i64) x4) (h5 : okI c_q0 x5) (h6 : okI c_q1 x6) (h7 : okI (.int .i64) x7) (h8 : okI .str x8) (h9 : okI c_i x9) (h10 : okI c_i x10) (h11 : okI c_iis x11) (_h12 : okI (.int .i64) x12) : Evt fun n => F_FnExactEven n x0 x1 x2 x3 x4 x5 x6 x7 x8 x9 x10 x11 x12 = some true := by
  have hsz := sp_szWorld x0 x1 x2 x3 x4 x5 x6 x7 x8 x9 x10 x11 (And.intro h0 (And.intro h1 (And.intro h2 (And.intro h3 (And.intro h4 (And.intro h5 (And.intro h6 (And.intro h7 (And.intro h8 (And.intro h9 (And.intro h10 h11)))))))))))
  by_cases hsm : smL (.cons c_s (.cons c_s (.cons c_iis (.cons c_iis (.cons (.int .i64) (.cons c_q0 (.cons c_q1 (.cons (.int .i64) (.cons .str (.cons c_i (.cons c_i (.one c_iis)))))))))))) (x0, (x1, (x2, (x3, (x4, (x5, (x6, (x7, (x8, (x9, (x10, x11)))))))))))
  · have hsm' := hsm
    obtain ⟨s0, s1, s2, s3, s4, s5, s6, s7, s8, s9, s10, s11⟩ := hsm'
    refine Evt.succ ((((hsz.and (sp_toWorld x0 x1 x2 x3 x4 x5 x6 x7 x8 x9 x10 x11 hsm)).and (sp_sEven x0 x1 x2 x3 x4 x5 x6 x7 x8 x9 x10 x11 x12 (smW_of hsm))).and ((sp_iEven x0 x1 x2 x3 x4 x5 x6 x7 x8 x9 x10 x11 x12 (smW_of hsm)).and (sp_eqWorld x0 x1 x2 x3 x4 x5 x6 x7 x8 x9 x10 x11 hsm))).mono fun n ⟨⟨⟨e1, e2⟩, e3⟩, e4, e5⟩ => ?_)
    obtain ⟨v, e, -, -⟩ := e1 1048576 (by omega) (by omega)
    rw [eq_FnExactEven, e]
    simp only [Option.bind_some, e2, e3, e4, e5]
    cases decide (v < 0) <;> simp
  · refine Evt.succ (hsz.mono fun n e1 => ?_)
    obtain ⟨v, e, -, hs⟩ := e1 1048576 (by omega) (by omega)
    have hv : v < 0 := by
      rcases Int.lt_or_le v 0 with h | h
      · exact h
      · exact absurd (hs h) hsm
    rw [eq_FnExactEven, e]
    simp only [Option.bind_some]
    rw [decide_eq_true hv]
    rfl
end Go.Proofs.YtmabfdnconccnaaGreatDoor
