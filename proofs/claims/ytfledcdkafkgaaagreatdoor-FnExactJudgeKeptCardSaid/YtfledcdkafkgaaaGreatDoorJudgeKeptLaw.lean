/- The law of JudgeKept comes to true. -/
import Derived.Test.YtfledcdkafkgaaaGreatDoorTxt2
open And renaming intro->À
namespace Go.Proofs.YtfledcdkafkgaaaGreatDoor
open Go Go.Ev
theorem aFP (g:af) (i:af) (j:ae) (k:ae) (m:Int) (p:ck) (q:bp) (r:Int) (s:O) (t:ag) (b:ag) (d:ae) (h0:dG cE g) (h1:dG cE i) (h2:dG aN j) (h3:dG aN k) (h4:dG (.int .i64) m) (h5:dG gb p) (h6:dG eD q) (h7:dG (.int .i64) r) (h8:dG .str s) (h9:dG bh t) (ad:dG bh b) (ah:dG aN d):W fun n=>Uu n g i j k m p q r s t b d=some true:=by
 have u:=aAj g i j k m p q r s t b d (À h0 (À h1 (À h2 (À h3 (À h4 (À h5 (À h6 (À h7 (À h8 (À h9 (À ad ah)))))))))));by_cases f:cA (.cons cE (.cons cE (.cons aN (.cons aN (.cons (.int .i64) (.cons gb (.cons eD (.cons (.int .i64) (.cons .str (.cons bh (.cons bh (.one aN)))))))))))) (g,i,j,k,m,p,q,r,s,t,b,d)
 .have z:=f
  obtain⟨s0,s1,s2,s3,s4,s5,s6,s7,s8,s9,ay,az⟩:=z;refine W.succ ((((u.and (aAB g i j k m p q r s t b d f)).and (aFN g i j k m p q r s t b d (abA f))).and ((aFO g i j k m p q r s t b d (abA f)).and (aAT g i j k m p q r s t b d f))).mono fun n ⟨⟨⟨e1,e2⟩,e3⟩,e4,e5⟩=> ?_)
  obtain⟨v,e, -, -⟩:=e1 1048576 ž ž
  dsimp only at e
  rw [Xf,e];simp only [Z,e2,e3,e4,e5];cases decide (v<0)<;>simp
 .refine W.succ (u.mono fun n e1=> ?_)
  obtain⟨v,e, -,hs⟩:=e1 1048576 ž ž
  dsimp only at e
  have hv:v<0:=by
   rcases Int.lt_or_le v 0 with h|h
   .exact h
   .exact absurd (hs h) f
  rw [Xf,e];simp only [Z];rw [hC hv];rfl
end Go.Proofs.YtfledcdkafkgaaaGreatDoor
