/- The law of JudgeOnce comes to true. -/
import Derived.Test.YtfpfjmahdneehaaGreatDoorTxt2
open And renaming intro->À
namespace Go.Proofs.YtfpfjmahdneehaaGreatDoor
open Go Go.Ev
theorem aEe (g:af) (i:af) (j:ae) (k:ae) (m:Int) (p:cj) (q:bn) (r:Int) (s:O) (t:ah) (b:ah) (d:ae) (h0:dM cE g) (h1:dM cE i) (h2:dM aL j) (h3:dM aL k) (h4:dM (.int .i64) m) (h5:dM fz p) (h6:dM ej q) (h7:dM (.int .i64) r) (h8:dM .str s) (h9:dM bh t) (ad:dM bh b) (ag:dM aL d):W fun n=>Po n g i j k m p q r s t b d=some true:=by
 have u:=ayZ g i j k m p q r s t b d (À h0 (À h1 (À h2 (À h3 (À h4 (À h5 (À h6 (À h7 (À h8 (À h9 (À ad ag)))))))))));by_cases f:cp (.cons cE (.cons cE (.cons aL (.cons aL (.cons (.int .i64) (.cons fz (.cons ej (.cons (.int .i64) (.cons .str (.cons bh (.cons bh (.one aL)))))))))))) (g,i,j,k,m,p,q,r,s,t,b,d)
 .have z:=f
  obtain⟨s0,s1,s2,s3,s4,s5,s6,s7,s8,s9,ay,az⟩:=z;refine W.succ ((((u.and (azR g i j k m p q r s t b d f)).and (aEc g i j k m p q r s t b d (VW f))).and ((aEd g i j k m p q r s t b d (VW f)).and (aAj g i j k m p q r s t b d f))).mono fun n ⟨⟨⟨e1,e2⟩,e3⟩,e4,e5⟩=> ?_)
  obtain⟨v,e, -, -⟩:=e1 1048576 (by omega) (by omega)
  rw [Si,e];simp only [Z,e2,e3,e4,e5];cases decide (v<0)<;>simp
 .refine W.succ (u.mono fun n e1=> ?_)
  obtain⟨v,e, -,hs⟩:=e1 1048576 (by omega) (by omega)
  have hv:v<0:=by
   rcases Int.lt_or_le v 0 with h|h
   .exact h
   .exact absurd (hs h) f
  rw [Si,e];simp only [Z];rw [hJ hv];rfl
end Go.Proofs.YtfpfjmahdneehaaGreatDoor
