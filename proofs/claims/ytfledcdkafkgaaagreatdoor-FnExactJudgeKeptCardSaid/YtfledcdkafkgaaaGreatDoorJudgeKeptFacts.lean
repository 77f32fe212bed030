/- The closed cells of the row of FnExactJudgeKept are what the program forces. -/
import Derived.Test.YtfledcdkafkgaaaGreatDoorRows
import Derived.Test.YtfledcdkafkgaaaGreatDoorEv5
import Derived.JoinedOf
import Derived.KernelRfl
namespace Go.Proofs.YtfledcdkafkgaaaGreatDoor
open Go Go.Ev Go.Proofs.Tryz
theorem aFQ {a b:Bool} (d:a=true) (f:b=true):(a&&b)=true:=by rw [d,f];rfl
theorem PN:oy prog 3=[3,5,12,42,43,85,13,44,86,146,90,149,46,88,147,197,250,198,251,16,87,89,148,14,45,15,17,7,20,57,58,104,21,59,105,158,109,161,61,107,159,212,260,213,261,24,106,108,160,22,60,23,25,6,18,47,91,150,48,151,92,199,93,152,200,201,252,286,326,375,287,410,253,241,49,50,51,54,94,99,53,98,95,153,202,254,288,327,203,52,97,96,19,56,101,138,189,190,242,238,239,244,278,302,303,304,305,344,385,386,306,345,347,346,387,418,388,389,390,352,349,348,391,350,392,351,307,353,393,354,355,394,420,446,466,486,448,447,467,419,445,463,482,464,483,484,465,485,356,395,357,396,421,422,423,424,358,397,240,102,154,204,205,255,206,256,257,289,155,103,156,207,191,157,208,210,259,209,258,290,328,376,211,55,100,80,137,186,187,237,188,8,26,62,110,162,63,214,262,215,220,113,164,112,111,163,114,166,167,217,218,219,263,291,329,377,378,411,330,437,443,296,342,412,292,165,216,64,115,65,116,117,168,169,72,126,175,226,267,297,298,299,343,118,170,221,264,222,223,265,293,331,334,336,337,381,339,382,415,383,416,444,332,333,379,413,438,460,480,481,414,439,461,440,441,401,427,450,469,470,479,487,488,471,472,489,490,494,495,462,442,380,294,335,338,340,384,417,224,266,295,341,123,174,171,69,124,119,120,68,122,173,172,225,66,121,67,70,125,71,27,74,128,143,193,194,245,279,280,246,249,282,281,283,284,308,309,323,359,316,312,361,402,311,310,360,362,403,398,399,400,425,426,449,468,313,314,363,315,285,317,319,365,318,364,320,367,404,428,451,429,452,366,368,322,369,406,432,457,476,478,477,493,433,458,405,430,453,431,454,473,474,492,505,491,496,502,511,497,506,498,507,508,499,509,510,512,500,501,503,504,455,475,456,321,324,370,371,325,372,407,408,435,434,436,459,409,374,373,247,129,177,227,228,268,269,300,230,179,270,271,272,229,130,178,231,273,195,248,180,232,274,181,233,275,301,234,73,127,176,82,140,141,142,9,28,75,76,131,29,77,132,182,136,185,79,134,183,235,276,236,277,32,133,135,184,30,78,31,33]:=Ž
theorem PQ:prog.unfollowed 3=true:=by
 rw [Be,wW,PN];kernel_rfl
theorem aFR:prog.recurses 3=true:=by
 rw [ajI,ea,<-Be,PQ];rfl
theorem aFS:(Rows.fnExactJudgeKeptRow.inPlace==prog.inPlace 3)=true:=by
 rw [ajJ,Iq,PN];kernel_rfl
theorem aFT:(Rows.fnExactJudgeKeptRow.named==prog.varsNamed 3)=true:=by
 rw [ajK,Ir,PN];kernel_rfl
theorem aFU:prog.goes 3=false:=ajL Ž _
theorem aFV:false=Rows.fnExactJudgeKeptRow.goesBy prog:=by
 unfold OpenClaim.goesBy Program.goesAt Program.goesFrom;rw [show Rows.fnExactJudgeKeptRow.func= "loop.example/g00289/laws.FnExactJudgeKept" from rfl,show Rows.fnExactJudgeKeptRow.start=.entering from rfl,show prog.funcNamed "loop.example/g00289/laws.FnExactJudgeKept" =some 3 by kernel_rfl,Option.any_some,aFU]
 rfl
set_option maxHeartbeats 8000000 in
theorem closed:joinedFacts prog 3 f3 Rows.fnExactJudgeKeptSpec Rows.fnExactJudgeKeptRow=true:=by
 unfold joinedFacts;repeat' (with_reducible refine aFQ ?_ ?_)
 all_goals first|with_reducible exact aFS|with_reducible exact aFT|(with_reducible rw [PQ];done)|(with_reducible rw [PQ];rfl)|(with_reducible rw [aFR];rfl)|(as_aux_lemma=>kernel_rfl)
end Go.Proofs.YtfledcdkafkgaaaGreatDoor
