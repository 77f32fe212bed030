/- The law of PeerText comes to true. -/
import Derived.Test.YtmabfdnconccnaaDoorTxtPeer
namespace Go.Proofs.YtmabfdnconccnaaDoor
open Go Go.Ev

theorem sp_FnExactPeerText (x0 : Int) (x1 : Int) (x2 : Int) (x3 : Int) (x4 : Int) (x5 : t_iiis) (x6 : t_iis) (x7 : t_isiis) (x8 : Int) (x9 : Int) (x10 : t_i) (x11 : Bytes) (x12 : Int) (x13 : t_b) (x14 : t_i) (x15 : t_i) (x16 : Int) (x17 : t_iis) (x18 : t_isiis) (x19 : Int) (x20 : Int) (x21 : t_i) (x22 : Bytes) (x23 : t_u) (x24 : Int) (x25 : t_iiiiiiiLiiisEbs) (h0 : okI (.int .i64) x0) (h1 : okI (.int .i64) x1) (h2 : okI (.int .i64) x2) (h3 : okI (.int .i64) x3) (h4 : okI (.int .i64) x4) (h5 : okI c_iiis x5) (h6 : okI c_iis x6) (h7 : okI c_isiis x7) (h8 : okI (.int .i64) x8) (h9 : okI (.int .i64) x9) (h10 : okI c_i x10) (h11 : okI .str x11) (h12 : okI (.int .i64) x12) (h13 : okI c_b x13) (h14 : okI c_i x14) (h15 : okI c_i x15) (h16 : okI (.int .i64) x16) (h17 : okI c_iis x17) (h18 : okI c_isiis x18) (h19 : okI (.int .i64) x19) (h20 : okI (.int .i64) x20) (h21 : okI c_i x21) (h22 : okI .str x22) (h23 : okI c_u x23) (h24 : okI (.int .i64) x24) (h25 : okI c_iiiiiiiLiiisEbs x25) : Evt fun n => F_FnExactPeerText n x0 x1 x2 x3 x4 x5 x6 x7 x8 x9 x10 x11 x12 x13 x14 x15 x16 x17 x18 x19 x20 x21 x22 x23 x24 x25 = some true := by
  have hsz := sp_szPeer x0 x1 x2 x3 x4 x5 x6 x7 x8 x9 x10 x11 x12 x13 x14 x15 x16 x17 x18 x19 x20 x21 x22 x23 x24 x25 (And.intro h0 (And.intro h1 (And.intro h2 (And.intro h3 (And.intro h4 (And.intro h5 (And.intro h6 (And.intro h7 (And.intro h8 (And.intro h9 (And.intro h10 (And.intro h11 (And.intro h12 (And.intro h13 (And.intro h14 (And.intro h15 (And.intro h16 (And.intro h17 (And.intro h18 (And.intro h19 (And.intro h20 (And.intro h21 (And.intro h22 (And.intro h23 (And.intro h24 h25)))))))))))))))))))))))))
  by_cases hsm : smL (.cons (.int .i64) (.cons (.int .i64) (.cons (.int .i64) (.cons (.int .i64) (.cons (.int .i64) (.cons c_iiis (.cons c_iis (.cons c_isiis (.cons (.int .i64) (.cons (.int .i64) (.cons c_i (.cons .str (.cons (.int .i64) (.cons c_b (.cons c_i (.cons c_i (.cons (.int .i64) (.cons c_iis (.cons c_isiis (.cons (.int .i64) (.cons (.int .i64) (.cons c_i (.cons .str (.cons c_u (.cons (.int .i64) (.one c_iiiiiiiLiiisEbs)))))))))))))))))))))))))) (x0, (x1, (x2, (x3, (x4, (x5, (x6, (x7, (x8, (x9, (x10, (x11, (x12, (x13, (x14, (x15, (x16, (x17, (x18, (x19, (x20, (x21, (x22, (x23, (x24, x25)))))))))))))))))))))))))
  · have hsm' := hsm
    obtain ⟨s0, s1, s2, s3, s4, s5, s6, s7, s8, s9, s10, s11, s12, s13, s14, s15, s16, s17, s18, s19, s20, s21, s22, s23, s24, s25⟩ := hsm'
    refine Evt.succ ((((hsz.and (sp_toPeer x0 x1 x2 x3 x4 x5 x6 x7 x8 x9 x10 x11 x12 x13 x14 x15 x16 x17 x18 x19 x20 x21 x22 x23 x24 x25 hsm)).and (sp_sPeerText x0 x1 x2 x3 x4 x5 x6 x7 x8 x9 x10 x11 x12 x13 x14 x15 x16 x17 x18 x19 x20 x21 x22 x23 x24 x25 h1 h3 h5 h16 h25.1)).and ((sp_iPeerText x0 x1 x2 x3 x4 x5 x6 x7 x8 x9 x10 x11 x12 x13 x14 x15 x16 x17 x18 x19 x20 x21 x22 x23 x24 x25 h1 h3 h5 h16 h25.1).and (sp_eqPeer x0 x1 x2 x3 x4 x5 x6 x7 x8 x9 x10 x11 x12 x13 x14 x15 x16 x17 x18 x19 x20 x21 x22 x23 x24 x25 hsm))).mono fun n ⟨⟨⟨e1, e2⟩, e3⟩, e4, e5⟩ => ?_)
    obtain ⟨v, e, -, -⟩ := e1 1048576 (by omega) (by omega)
    rw [eq_FnExactPeerText, e]
    simp only [Option.bind_some, e2, e3, e4, e5]
    cases decide (v < 0) <;> simp
  · refine Evt.succ (hsz.mono fun n e1 => ?_)
    obtain ⟨v, e, -, hs⟩ := e1 1048576 (by omega) (by omega)
    have hv : v < 0 := by
      rcases Int.lt_or_le v 0 with h | h
      · exact h
      · exact absurd (hs h) hsm
    rw [eq_FnExactPeerText, e]
    simp only [Option.bind_some]
    rw [decide_eq_true hv]
    rfl

end Go.Proofs.YtmabfdnconccnaaDoor
