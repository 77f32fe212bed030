/- The law of JudgeSink comes to true. -/
import Derived.Test.YtfpfjmahdneehaaGreatDoorTxt2
namespace Go.Proofs.YtfpfjmahdneehaaGreatDoor
open Go Go.Ev
theorem aEe (g:af) (i:af) (j:ae) (k:ae) (m:Int) (p:cu) (q:bw) (r:Int) (s:O) (t:ah) (b:ah) (d:ae) (h0:dL cD g) (h1:dL cD i) (h2:dL aK j) (h3:dL aK k) (h4:dL (.int .i64) m) (h5:dL fy p) (h6:dL eh q) (h7:dL (.int .i64) r) (h8:dL .str s) (h9:dL bf t) (ad:dL bf b) (ag:dL aK d):W fun n=>OI n g i j k m p q r s t b d=some true:=by
 have u:=ayY g i j k m p q r s t b d (And.intro h0 (And.intro h1 (And.intro h2 (And.intro h3 (And.intro h4 (And.intro h5 (And.intro h6 (And.intro h7 (And.intro h8 (And.intro h9 (And.intro ad ag)))))))))));by_cases f:ch (.cons cD (.cons cD (.cons aK (.cons aK (.cons (.int .i64) (.cons fy (.cons eh (.cons (.int .i64) (.cons .str (.cons bf (.cons bf (.one aK)))))))))))) (g,i,j,k,m,p,q,r,s,t,b,d)
 ·have z:=f
  obtain⟨s0,s1,s2,s3,s4,s5,s6,s7,s8,s9,ay,az⟩:=z;refine W.succ ((((u.and (azQ g i j k m p q r s t b d f)).and (aEc g i j k m p q r s t b d (VQ f))).and ((aEd g i j k m p q r s t b d (VQ f)).and (aAi g i j k m p q r s t b d f))).mono fun n ⟨⟨⟨e1,e2⟩,e3⟩,e4,e5⟩=> ?_)
  obtain⟨v,e, -, -⟩:=e1 1048576 (by omega) (by omega)
  rw [Pg,e];simp only [Z,e2,e3,e4,e5];cases decide (v<0)<;>simp
 ·refine W.succ (u.mono fun n e1=> ?_)
  obtain⟨v,e, -,hs⟩:=e1 1048576 (by omega) (by omega)
  have hv:v<0:=by
   rcases Int.lt_or_le v 0 with h|h
   ·exact h
   ·exact absurd (hs h) f
  rw [Pg,e];simp only [Z];rw [ez hv];rfl
end Go.Proofs.YtfpfjmahdneehaaGreatDoor
