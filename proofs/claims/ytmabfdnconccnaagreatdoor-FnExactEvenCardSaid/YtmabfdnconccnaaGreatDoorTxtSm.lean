/- Worlds of a size that is drawn. -/
import Derived.Test.YtmabfdnconccnaaGreatDoorTxtLead
namespace Go.Proofs.YtmabfdnconccnaaGreatDoor
open Go Go.Ev
theorem smW_of {x0 : t_s} {x1 : t_s} {x2 : t_iis} {x3 : t_iis} {x4 : Int} {x5 : t_q0} {x6 : t_q1} {x7 : Int} {x8 : Bytes} {x9 : t_i} {x10 : t_i} {x11 : t_iis} (h : smL (.cons c_s (.cons c_s (.cons c_iis (.cons c_iis (.cons (.int .i64) (.cons c_q0 (.cons c_q1 (.cons (.int .i64) (.cons .str (.cons c_i (.cons c_i (.one c_iis)))))))))))) (x0, (x1, (x2, (x3, (x4, (x5, (x6, (x7, (x8, (x9, (x10, x11)))))))))))) : smWorld x0 x1 x2 x3 x4 x5 x6 x7 x8 x9 x10 x11 := by
  obtain ⟨s0, s1, s2, s3, -, s5, s6, -, -, s9, s10, s11⟩ := h
  refine ⟨⟨⟨s0.1, s0.2⟩, ⟨s1.1, s1.2⟩, ⟨s2.1, fun o ho => (s2.2 o ho).2.2⟩, ⟨s3.1, fun o ho => (s3.2 o ho).2.2⟩⟩, ⟨s5.1, fun p hp => ?_⟩, ⟨s6.1, fun r hr => ?_⟩, s9.1, s10.1, ⟨s11.1, fun c hc => (s11.2 c hc).2.2⟩⟩
  · obtain ⟨-, -, -, -, -, p5, p6, p7, -, -, p10, -, -, -, p14, p15, -, p17, p18, -, -, p21, -, -, -, p25⟩ := s5.2 p hp
    refine ⟨⟨p5.1, fun e he => (p5.2 e he).2.2.2⟩, p6.1, p7.1, p10.1, p14.1, p15.1, p17.1, p18.1, p21.1, p25.1, fun r hr => ?_⟩
    obtain ⟨-, -, -, -, -, -, -, r7, -, -⟩ := p25.2 r hr
    exact ⟨r7.1, fun e he => (r7.2 e he).2.2.2⟩
  · obtain ⟨-, -, -, -, -, -, -, r7, -, -⟩ := s6.2 r hr
    exact ⟨r7.1, fun e he => (r7.2 e he).2.2.2⟩
end Go.Proofs.YtmabfdnconccnaaGreatDoor
