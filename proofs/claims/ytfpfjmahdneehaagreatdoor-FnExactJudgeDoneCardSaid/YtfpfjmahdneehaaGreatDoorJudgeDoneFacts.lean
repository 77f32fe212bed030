/- The closed cells of the row of FnExactJudgeDone are what the program forces. -/
import Derived.Test.YtfpfjmahdneehaaGreatDoorRows
import Derived.Test.YtfpfjmahdneehaaGreatDoorEv4
import Derived.JoinedOf
import Derived.KernelRfl
namespace Go.Proofs.YtfpfjmahdneehaaGreatDoor
open Go Go.Ev Go.Proofs.Tryz
theorem aFM {a b:Bool} (d:a=true) (f:b=true):(a&&b)=true:=by rw [d,f];rfl
theorem Dg:ns prog 5=[5,6,15,40,41,82,16,42,83,137,87,140,44,85,138,181,213,182,214,19,84,86,139,17,43,18,20,8,23,54,55,101,24,56,102,153,106,156,58,104,154,189,224,190,225,27,103,105,155,25,57,26,28,13,21,45,88,141,46,142,89,183,90,143,184,185,215,252,295,338,253,365,216,149,47,48,49,91,92,144,51,96,93,145,186,217,254,296,187,50,95,94,22,52,97,98,150,146,147,152,188,218,219,220,221,255,297,298,222,256,258,257,299,339,300,301,302,263,260,259,303,261,304,262,223,264,305,265,266,306,341,367,391,417,369,368,392,340,366,388,413,389,414,415,390,416,267,307,268,308,342,343,344,345,269,309,148,53,99,100,151,38,78,134,135,180,136,14,29,59,107,157,60,191,226,192,197,110,159,109,108,158,111,161,162,194,195,196,227,270,310,346,347,370,311,393,399,275,323,371,271,160,193,61,112,62,113,114,163,164,69,123,170,203,231,276,277,278,324,115,165,198,228,199,200,229,272,312,315,317,318,349,320,350,374,351,375,400,313,314,348,372,394,418,428,429,373,395,419,396,397,329,355,378,402,403,412,421,422,404,405,423,424,430,431,420,398,325,273,316,319,321,352,376,201,230,274,322,120,169,166,66,121,116,117,65,119,168,167,202,63,118,64,67,122,68,31,71,124,125,171,204,205,172,175,207,206,208,209,232,233,247,279,240,236,281,330,235,234,280,282,331,326,327,328,353,354,377,401,237,238,283,239,210,241,243,285,242,284,244,287,332,356,379,357,380,286,288,246,289,334,360,385,409,411,410,427,361,386,333,358,381,359,382,406,407,426,441,425,432,438,447,433,442,434,443,444,435,445,446,448,436,437,439,440,383,408,384,245,248,290,291,249,292,335,336,363,362,364,387,337,294,293,173,72,126,174,127,39,79,80,81,10,32,73,74,128,33,75,129,176,133,179,77,131,177,211,250,212,251,36,130,132,178,34,76,35,37]:=by kernel_rfl
theorem LM:prog.unfollowed 5=true:=by
 rw [yR,uY,Dg];kernel_rfl
theorem aFN:prog.recurses 5=true:=by
 rw [aaR,Fi,<-yR,LM];rfl
theorem aFO:(Rows.fnExactJudgeDoneRow.inPlace==prog.inPlace 5)=true:=by
 rw [aaS,Fj,Dg];kernel_rfl
theorem aFP:(Rows.fnExactJudgeDoneRow.named==prog.varsNamed 5)=true:=by
 rw [aaT,Fk,Dg];kernel_rfl
theorem aFQ:prog.goes 5=false:=by
 rw [aaQ,Fh,Dg];kernel_rfl
theorem aFR:false=Rows.fnExactJudgeDoneRow.goesBy prog:=by
 unfold OpenClaim.goesBy Program.goesAt Program.goesFrom;rw [show Rows.fnExactJudgeDoneRow.func= "loop.example/g00289/laws.FnExactJudgeDone" from rfl,show Rows.fnExactJudgeDoneRow.start=.entering from rfl,show prog.funcNamed "loop.example/g00289/laws.FnExactJudgeDone" =some 5 by kernel_rfl,Option.any_some,aFQ]
 rfl
set_option maxHeartbeats 8000000 in
theorem closed:joinedFacts prog 5 f5 Rows.fnExactJudgeDoneSpec Rows.fnExactJudgeDoneRow=true:=by
 unfold joinedFacts;repeat' (with_reducible refine aFM ?_ ?_)
 all_goals first|with_reducible exact aFO|with_reducible exact aFP|(with_reducible rw [LM];done)|(with_reducible rw [LM];rfl)|(with_reducible rw [aFN];rfl)|(as_aux_lemma=>kernel_rfl)
end Go.Proofs.YtfpfjmahdneehaaGreatDoor
