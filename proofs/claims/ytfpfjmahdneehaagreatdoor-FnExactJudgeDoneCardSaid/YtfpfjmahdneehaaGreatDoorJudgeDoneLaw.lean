/- The law of JudgeDone comes to true. -/
import Derived.Test.YtfpfjmahdneehaaGreatDoorTxt2
open And renaming intro->À
namespace Go.Proofs.YtfpfjmahdneehaaGreatDoor
open Go Go.Ev
theorem aFL (g:af) (i:af) (j:ae) (k:ae) (m:Int) (p:bZ) (q:bh) (r:Int) (s:O) (t:ag) (b:ag) (d:ae) (h0:dM cE g) (h1:dM cE i) (h2:dM aL j) (h3:dM aL k) (h4:dM (.int .i64) m) (h5:dM fC p) (h6:dM ei q) (h7:dM (.int .i64) r) (h8:dM .str s) (h9:dM bn t) (ad:dM bn b) (ah:dM aL d):W fun n=>Qt n g i j k m p q r s t b d=some true:=by
 have u:=aAV g i j k m p q r s t b d (À h0 (À h1 (À h2 (À h3 (À h4 (À h5 (À h6 (À h7 (À h8 (À h9 (À ad ah)))))))))));by_cases f:cr (.cons cE (.cons cE (.cons aL (.cons aL (.cons (.int .i64) (.cons fC (.cons ei (.cons (.int .i64) (.cons .str (.cons bn (.cons bn (.one aL)))))))))))) (g,i,j,k,m,p,q,r,s,t,b,d)
 .have z:=f
  obtain⟨s0,s1,s2,s3,s4,s5,s6,s7,s8,s9,ay,az⟩:=z;refine W.succ ((((u.and (aBn g i j k m p q r s t b d f)).and (aFJ g i j k m p q r s t b d (Xk f))).and ((aFK g i j k m p q r s t b d (Xk f)).and (aBF g i j k m p q r s t b d f))).mono fun n ⟨⟨⟨e1,e2⟩,e3⟩,e4,e5⟩=> ?_)
  obtain⟨v,e, -, -⟩:=e1 1048576 (by omega) (by omega)
  rw [Tp,e];simp only [Z,e2,e3,e4,e5];cases decide (v<0)<;>simp
 .refine W.succ (u.mono fun n e1=> ?_)
  obtain⟨v,e, -,hs⟩:=e1 1048576 (by omega) (by omega)
  have hv:v<0:=by
   rcases Int.lt_or_le v 0 with h|h
   .exact h
   .exact absurd (hs h) f
  rw [Tp,e];simp only [Z];rw [hJ hv];rfl
end Go.Proofs.YtfpfjmahdneehaaGreatDoor
