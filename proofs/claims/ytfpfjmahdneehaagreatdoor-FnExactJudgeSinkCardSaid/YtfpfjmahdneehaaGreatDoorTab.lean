/- Entries of the functions, and the closed facts about them. -/
import Derived.Test.YtfpfjmahdneehaaGreatDoorEv4
import Derived.Test.YtfpfjmahdneehaaGreatDoorProg
import Derived.KernelRfl
namespace Go.Proofs.YtfpfjmahdneehaaGreatDoor
open Go Go.Ev Go.Proofs.Tryz
@[reducible] def cD:CT:=(.sl (.one .str))
@[reducible] def hY:CT:=(.sl (.one .bool))
@[reducible] def eX:CT:=(.sl (.one (.int .u8)))
@[reducible] def bf:CT:=(.sl (.one (.int .i64)))
@[reducible] def aK:CT:=(.sl (.cons (.int .i64) (.cons (.int .i64) (.one .str))))
@[reducible] def qj:CT:=(.tree (.cons (.int .i64) (.cons (.int .i64) (.cons .str (.one .bool)))))
@[reducible] def cW:CT:=(.sl (.cons (.int .i64) (.cons (.int .i64) (.cons (.int .i64) (.one .str)))))
@[reducible] def bN:CT:=(.sl (.cons (.int .i64) (.cons .str (.cons (.int .i64) (.cons (.int .i64) (.one .str))))))
@[reducible] def Eu:CT:=(.sl (.cons (.int .i64) (.cons (.int .i64) (.cons .str (.cons .bool (.cons (.int .i64) (.one (.int .i64))))))))
@[reducible] def eh:CT:=(.sl (.cons (.int .i64) (.cons (.int .i64) (.cons (.int .i64) (.cons (.int .i64) (.cons (.int .i64) (.cons (.int .i64) (.cons (.int .i64) (.cons cW (.cons .bool (.one .str)))))))))))
@[reducible] def fy:CT:=(.sl (.cons (.int .i64) (.cons (.int .i64) (.cons (.int .i64) (.cons (.int .i64) (.cons (.int .i64) (.cons cW (.cons aK (.cons bN (.cons (.int .i64) (.cons (.int .i64) (.cons bf (.cons .str (.cons (.int .i64) (.cons hY (.cons bf (.cons bf (.cons (.int .i64) (.cons aK (.cons bN (.cons (.int .i64) (.cons (.int .i64) (.cons bf (.cons .str (.cons eX (.cons (.int .i64) (.one eh)))))))))))))))))))))))))))
abbrev ah:Type:=List Int
abbrev cg:Type:=List Bool
abbrev af:Type:=List O
abbrev bX:Type:=List UInt8
abbrev eu:Type:=Int×(Int×O)
abbrev ae:Type:=List eu
abbrev Ou:Type:=Int×eu
abbrev Ov:Type:=Int×(Int×O×Bool)
abbrev aY:Type:=List Ou
abbrev rR:Type:=Int×(O×eu)
abbrev aS:Type:=List (RT Ov)
abbrev ai:Type:=List rR
abbrev Zv:Type:=Int×(Int×O×Bool×Int×Int)
abbrev bY:Type:=List Zv
abbrev Ew:Type:=Int×(Int×Int×Int×Int×Int×Int×aY×Bool×O)
abbrev bw:Type:=List Ew
abbrev qk:Type:=Int×(Int×Int×Int×Int×aY×ae×ai×Int×Int×ah×O×Int×cg×ah×ah×Int×ae×ai×Int×Int×ah×O×bX×Int×bw)
abbrev cu:Type:=List qk
def fN (xs:aS) (i:Int):Option (Int×Int×O×Bool×aS):=py qj xs i
def lQ (xs:aS) (i:Nat):Option (Int×Int×O×Bool×aS):=jN qj xs i
def kM (e:Int×Int×O×Bool×aS):RT Ov:=tu (Ye qj) e
@[reducible] def kI:CK:=.int .i64
@[reducible] def kU:CK:=.int .u8
@[reducible] def kB:CK:=.bool
@[reducible] def kS:CK:=.str
@[reducible] def vI:bh:=.one kI
@[reducible] def vU:bh:=.one kU
@[reducible] def vB:bh:=.one kB
@[reducible] def vS:bh:=.one kS
@[reducible] def Ow:CK:=.sh qj
@[reducible] def Ox:CK:=.sh hY
@[reducible] def mU:CK:=.sh bf
@[reducible] def uH:CK:=.sh cW
@[reducible] def gw:CK:=.sh aK
@[reducible] def uI:CK:=.sh Eu
@[reducible] def rS:CK:=.sh bN
@[reducible] def Ex:CK:=.sh eh
@[reducible] def Oy:CK:=.sh fy
@[reducible] def uJ:CK:=.sh cD
@[reducible] def oC:CK:=.sh eX
@[reducible] def Oz:CK:=.own qj
@[reducible] def rT:CK:=.own hY
@[reducible] def je:CK:=.own bf
@[reducible] def uK:CK:=.own cW
@[reducible] def fX:CK:=.own aK
@[reducible] def Zw:CK:=.own Eu
@[reducible] def oD:CK:=.own bN
@[reducible] def Ey:CK:=.own eh
@[reducible] def OA:CK:=.own fy
@[reducible] def kN:CK:=.own cD
@[reducible] def Ez:CK:=.own eX
@[reducible] def kO:bh:=.one Ow
@[reducible] def mV:bh:=.one Ox
@[reducible] def ew:bh:=.one mU
@[reducible] def iE:bh:=.one uH
@[reducible] def cf:bh:=.one gw
@[reducible] def fh:bh:=.one uI
@[reducible] def gx:bh:=.one rS
@[reducible] def jf:bh:=.one Ex
@[reducible] def kP:bh:=.one Oy
@[reducible] def fY:bh:=.one uJ
@[reducible] def ql:bh:=.one oC
@[reducible] def qm:bh:=.one Oz
@[reducible] def jg:bh:=.one rT
@[reducible] def eQ:bh:=.one je
@[reducible] def OC:bh:=.one uK
@[reducible] def kj:bh:=.one fX
@[reducible] def fZ:bh:=.one Zw
@[reducible] def oE:bh:=.one oD
@[reducible] def OD:bh:=.one Ey
@[reducible] def OE:bh:=.one OA
@[reducible] def qn:bh:=.one kN
@[reducible] def ga:bh:=.one Ez
@[reducible] def q0:List CK:=[uJ,uJ,gw,gw,kI,Oy,Ex,kI,kS,mU,mU,gw]
@[reducible] def q1:List CK:=[kI,kI,kI,kI,kI,uH,gw,rS,kI,kI,mU,kS,kI,Ox,mU,mU,kI,gw,rS,kI,kI,mU,kS,oC,kI,Ex]
@[reducible] def q2:List CK:=[uJ,uJ,gw,gw]
@[reducible] def q3:List CK:=[fX,oD,kI,kI,kN,kN,kS,kN,kS,kI,kB]
@[reducible] def q4:List CK:=[gw,rS,kI,kI,mU,kS]
@[reducible] def q5:List CK:=[gw,rS,kI,kI]
@[reducible] def q6:List CK:=[kI,kI,kS,kB,.nl]
@[reducible] def q7:List CK:=[fX,oD,kI,kI,je,kS]
@[reducible] def q8:List CK:=[fX,oD,kI,kI,kS,kS,fX,kI]
@[reducible] def q9:List CK:=[kI,kI,kS,kB,Ow]
@[reducible] def iF:List CK:=[fX,oD,kI,kI]
@[reducible] def oF:List CK:=[kI,kI,kI,kI,kI,kI,kI,uH,kB,kS]
@[reducible] def rU:List CK:=[kI,kI,kI,kI,uH,gw,rS,kI,kI,mU,kS]
@[reducible] def km:List CK:=[kI,kI,kS,kB,Oz]
@[reducible] def iG:List CK:=[kI,kS,kI,kI,kS]
@[reducible] def mW:List CK:=[kI,kI,uH]
@[reducible] def yi:List CK:=[.nl,.nl,kI,kI,.nl,kS]
@[reducible] def lR:List CK:=[.pb 5001 0,fX]
@[reducible] def rV:List CK:=[kI,kI,kI,kS]
@[reducible] def yj:List CK:=[kI,kI,kS,kB,kI,kI]
def eM:List (TypeId×TyI):=[
 (3,⟨.int .i64,1,8,[.i .i64 0],some (.one (.int .i64)),false⟩),
 (4,⟨.bool,1,1,[.b false],some (.one .bool),false⟩),
 (5,⟨.int .u8,1,1,[.i .u8 0],some (.one (.int .u8)),false⟩),
 (9,⟨.str,1,16,[.s []],some (.one .str),false⟩),
 (22,⟨.slice 9,1,24,[.nl],some (.one cD),false⟩),
 (23,⟨.slice 146,1,24,[.nl],some (.one aK),false⟩),
 (25,⟨.struct [(0,22),(1,22),(2,23),(3,23)],4,96,[.nl,.nl,.nl,.nl],some (.cons cD (.cons cD (.cons aK (.one aK)))),false⟩),
 (26,⟨.slice 106,1,24,[.nl],some (.one fy),false⟩),
 (27,⟨.slice 109,1,24,[.nl],some (.one eh),false⟩),
 (29,⟨.struct [(0,3),(1,9)],2,24,[.i .i64 0,.s []],some (.cons (.int .i64) (.one .str)),true⟩),
 (30,⟨.slice 3,1,24,[.nl],some (.one bf),false⟩),
 (31,⟨.slice 111,1,24,[.nl],some (.one aK),false⟩),
 (33,⟨.struct [(0,25),(4,3),(5,26),(6,27),(7,29),(9,30),(10,30),(11,31)],12,248,[.nl,.nl,.nl,.nl,.i .i64 0,.nl,.nl,.i .i64 0,.s [],.nl,.nl,.nl],some (.cons cD (.cons cD (.cons aK (.cons aK (.cons (.int .i64) (.cons fy (.cons eh (.cons (.int .i64) (.cons .str (.cons bf (.cons bf (.one aK)))))))))))),false⟩),
 (36,⟨.slice 166,1,24,[.nl],some (.one aK),false⟩),
 (38,⟨.struct [(0,22),(1,22),(2,36),(3,36)],4,96,[.nl,.nl,.nl,.nl],some (.cons cD (.cons cD (.cons aK (.one aK)))),false⟩),
 (39,⟨.slice 86,1,24,[.nl],some (.one fy),false⟩),
 (40,⟨.slice 119,1,24,[.nl],some (.one eh),false⟩),
 (41,⟨.struct [(0,3),(1,9)],2,24,[.i .i64 0,.s []],some (.cons (.int .i64) (.one .str)),true⟩),
 (42,⟨.slice 75,1,24,[.nl],some (.one aK),false⟩),
 (44,⟨.struct [(0,38),(4,3),(5,39),(6,40),(7,41),(9,30),(10,30),(11,42)],12,248,[.nl,.nl,.nl,.nl,.i .i64 0,.nl,.nl,.i .i64 0,.s [],.nl,.nl,.nl],some (.cons cD (.cons cD (.cons aK (.cons aK (.cons (.int .i64) (.cons fy (.cons eh (.cons (.int .i64) (.cons .str (.cons bf (.cons bf (.one aK)))))))))))),false⟩),
 (54,⟨.slice 140,1,24,[.nl],some (.one aK),false⟩),
 (55,⟨.slice 143,1,24,[.nl],some (.one bN),false⟩),
 (57,⟨.struct [(0,54),(1,55),(2,3),(3,3)],4,64,[.nl,.nl,.i .i64 0,.i .i64 0],some (.cons aK (.cons bN (.cons (.int .i64) (.one (.int .i64))))),false⟩),
 (59,⟨.struct [(0,57),(4,30),(5,9)],6,104,[.nl,.nl,.i .i64 0,.i .i64 0,.nl,.s []],some (.cons aK (.cons bN (.cons (.int .i64) (.cons (.int .i64) (.cons bf (.one .str)))))),false⟩),
 (75,⟨.struct [(0,3),(1,3),(2,9)],3,32,[.i .i64 0,.i .i64 0,.s []],some (.cons (.int .i64) (.cons (.int .i64) (.one .str))),true⟩),
 (76,⟨.slice 89,1,24,[.nl],some (.one cW),false⟩),
 (78,⟨.struct [(0,3),(1,3),(2,76)],3,40,[.i .i64 0,.i .i64 0,.nl],some (.cons (.int .i64) (.cons (.int .i64) (.one cW))),false⟩),
 (80,⟨.struct [(0,3),(1,3),(2,78),(5,59)],11,160,[.i .i64 0,.i .i64 0,.i .i64 0,.i .i64 0,.nl,.nl,.nl,.i .i64 0,.i .i64 0,.nl,.s []],some (.cons (.int .i64) (.cons (.int .i64) (.cons (.int .i64) (.cons (.int .i64) (.cons cW (.cons aK (.cons bN (.cons (.int .i64) (.cons (.int .i64) (.cons bf (.one .str))))))))))),false⟩),
 (81,⟨.slice 4,1,24,[.nl],some (.one hY),false⟩),
 (82,⟨.slice 5,1,24,[.nl],some (.one eX),false⟩),
 (84,⟨.struct [(0,82),(1,3)],2,32,[.nl,.i .i64 0],some (.cons eX (.one (.int .i64))),false⟩),
 (86,⟨.struct [(0,3),(1,80),(12,3),(13,81),(14,30),(15,30),(16,3),(17,59),(23,84),(25,40)],26,416,[.i .i64 0,.i .i64 0,.i .i64 0,.i .i64 0,.i .i64 0,.nl,.nl,.nl,.i .i64 0,.i .i64 0,.nl,.s [],.i .i64 0,.nl,.nl,.nl,.i .i64 0,.nl,.nl,.i .i64 0,.i .i64 0,.nl,.s [],.nl,.i .i64 0,.nl],some (.cons (.int .i64) (.cons (.int .i64) (.cons (.int .i64) (.cons (.int .i64) (.cons (.int .i64) (.cons cW (.cons aK (.cons bN (.cons (.int .i64) (.cons (.int .i64) (.cons bf (.cons .str (.cons (.int .i64) (.cons hY (.cons bf (.cons bf (.cons (.int .i64) (.cons aK (.cons bN (.cons (.int .i64) (.cons (.int .i64) (.cons bf (.cons .str (.cons eX (.cons (.int .i64) (.one eh)))))))))))))))))))))))))),false⟩),
 (89,⟨.struct [(0,3),(1,75)],4,40,[.i .i64 0,.i .i64 0,.i .i64 0,.s []],some (.cons (.int .i64) (.cons (.int .i64) (.cons (.int .i64) (.one .str)))),true⟩),
 (93,⟨.slice 192,1,24,[.nl],some (.one cW),false⟩),
 (95,⟨.struct [(0,3),(1,3),(2,93)],3,40,[.i .i64 0,.i .i64 0,.nl],some (.cons (.int .i64) (.cons (.int .i64) (.one cW))),false⟩),
 (96,⟨.slice 258,1,24,[.nl],some (.one aK),false⟩),
 (97,⟨.slice 261,1,24,[.nl],some (.one bN),false⟩),
 (99,⟨.struct [(0,96),(1,97),(2,3),(3,3)],4,64,[.nl,.nl,.i .i64 0,.i .i64 0],some (.cons aK (.cons bN (.cons (.int .i64) (.one (.int .i64))))),false⟩),
 (101,⟨.struct [(0,99),(4,30),(5,9)],6,104,[.nl,.nl,.i .i64 0,.i .i64 0,.nl,.s []],some (.cons aK (.cons bN (.cons (.int .i64) (.cons (.int .i64) (.cons bf (.one .str)))))),false⟩),
 (103,⟨.struct [(0,3),(1,3),(2,95),(5,101)],11,160,[.i .i64 0,.i .i64 0,.i .i64 0,.i .i64 0,.nl,.nl,.nl,.i .i64 0,.i .i64 0,.nl,.s []],some (.cons (.int .i64) (.cons (.int .i64) (.cons (.int .i64) (.cons (.int .i64) (.cons cW (.cons aK (.cons bN (.cons (.int .i64) (.cons (.int .i64) (.cons bf (.one .str))))))))))),false⟩),
 (104,⟨.struct [(0,82),(1,3)],2,32,[.nl,.i .i64 0],some (.cons eX (.one (.int .i64))),false⟩),
 (106,⟨.struct [(0,3),(1,103),(12,3),(13,81),(14,30),(15,30),(16,3),(17,101),(23,104),(25,27)],26,416,[.i .i64 0,.i .i64 0,.i .i64 0,.i .i64 0,.i .i64 0,.nl,.nl,.nl,.i .i64 0,.i .i64 0,.nl,.s [],.i .i64 0,.nl,.nl,.nl,.i .i64 0,.nl,.nl,.i .i64 0,.i .i64 0,.nl,.s [],.nl,.i .i64 0,.nl],some (.cons (.int .i64) (.cons (.int .i64) (.cons (.int .i64) (.cons (.int .i64) (.cons (.int .i64) (.cons cW (.cons aK (.cons bN (.cons (.int .i64) (.cons (.int .i64) (.cons bf (.cons .str (.cons (.int .i64) (.cons hY (.cons bf (.cons bf (.cons (.int .i64) (.cons aK (.cons bN (.cons (.int .i64) (.cons (.int .i64) (.cons bf (.cons .str (.cons eX (.cons (.int .i64) (.one eh)))))))))))))))))))))))))),false⟩),
 (109,⟨.struct [(0,3),(1,3),(2,3),(3,3),(4,3),(5,3),(6,3),(7,93),(8,4),(9,9)],10,104,[.i .i64 0,.i .i64 0,.i .i64 0,.i .i64 0,.i .i64 0,.i .i64 0,.i .i64 0,.nl,.b false,.s []],some (.cons (.int .i64) (.cons (.int .i64) (.cons (.int .i64) (.cons (.int .i64) (.cons (.int .i64) (.cons (.int .i64) (.cons (.int .i64) (.cons cW (.cons .bool (.one .str)))))))))),false⟩),
 (111,⟨.struct [(0,3),(1,3),(2,9)],3,32,[.i .i64 0,.i .i64 0,.s []],some (.cons (.int .i64) (.cons (.int .i64) (.one .str))),true⟩),
 (119,⟨.struct [(0,3),(1,3),(2,3),(3,3),(4,3),(5,3),(6,3),(7,76),(8,4),(9,9)],10,104,[.i .i64 0,.i .i64 0,.i .i64 0,.i .i64 0,.i .i64 0,.i .i64 0,.i .i64 0,.nl,.b false,.s []],some (.cons (.int .i64) (.cons (.int .i64) (.cons (.int .i64) (.cons (.int .i64) (.cons (.int .i64) (.cons (.int .i64) (.cons (.int .i64) (.cons cW (.cons .bool (.one .str)))))))))),false⟩),
 (140,⟨.struct [(0,3),(1,3),(2,9)],3,32,[.i .i64 0,.i .i64 0,.s []],some (.cons (.int .i64) (.cons (.int .i64) (.one .str))),true⟩),
 (143,⟨.struct [(0,3),(1,9),(2,140)],5,56,[.i .i64 0,.s [],.i .i64 0,.i .i64 0,.s []],some (.cons (.int .i64) (.cons .str (.cons (.int .i64) (.cons (.int .i64) (.one .str))))),true⟩),
 (146,⟨.struct [(0,3),(1,3),(2,9)],3,32,[.i .i64 0,.i .i64 0,.s []],some (.cons (.int .i64) (.cons (.int .i64) (.one .str))),true⟩),
 (166,⟨.struct [(0,3),(1,3),(2,9)],3,32,[.i .i64 0,.i .i64 0,.s []],some (.cons (.int .i64) (.cons (.int .i64) (.one .str))),true⟩),
 (192,⟨.struct [(0,3),(1,111)],4,40,[.i .i64 0,.i .i64 0,.i .i64 0,.s []],some (.cons (.int .i64) (.cons (.int .i64) (.cons (.int .i64) (.one .str)))),true⟩),
 (197,⟨.ptr,1,8,[.nilp],none,false⟩),
 (200,⟨.struct [(0,57),(4,22),(5,22),(6,9),(7,22),(8,9),(9,3),(10,4)],11,184,[.nl,.nl,.i .i64 0,.i .i64 0,.nl,.nl,.s [],.nl,.s [],.i .i64 0,.b false],some (.cons aK (.cons bN (.cons (.int .i64) (.cons (.int .i64) (.cons cD (.cons cD (.cons .str (.cons cD (.cons .str (.cons (.int .i64) (.one .bool))))))))))),false⟩),
 (219,⟨.struct [(0,57),(4,9),(5,9),(6,54),(7,3)],8,128,[.nl,.nl,.i .i64 0,.i .i64 0,.s [],.s [],.nl,.i .i64 0],some (.cons aK (.cons bN (.cons (.int .i64) (.cons (.int .i64) (.cons .str (.cons .str (.cons aK (.one (.int .i64))))))))),false⟩),
 (230,⟨.slice 232,1,24,[.nl],some (.one qj),false⟩),
 (232,⟨.struct [(0,3),(1,3),(2,9),(3,4),(4,230)],5,64,[.i .i64 0,.i .i64 0,.s [],.b false,.nl],some (.cons (.int .i64) (.cons (.int .i64) (.cons .str (.cons .bool (.one qj))))),false⟩),
 (239,⟨.struct [(0,197),(1,54)],2,32,[.nilp,.nl],none,false⟩),
 (258,⟨.struct [(0,3),(1,3),(2,9)],3,32,[.i .i64 0,.i .i64 0,.s []],some (.cons (.int .i64) (.cons (.int .i64) (.one .str))),true⟩),
 (261,⟨.struct [(0,3),(1,9),(2,258)],5,56,[.i .i64 0,.s [],.i .i64 0,.i .i64 0,.s []],some (.cons (.int .i64) (.cons .str (.cons (.int .i64) (.cons (.int .i64) (.one .str))))),true⟩),
 (264,⟨.struct [(0,9),(1,3),(2,4)],3,32,[.s [],.i .i64 0,.b false],some (.cons .str (.cons (.int .i64) (.one .bool))),true⟩),
 (303,⟨.struct [(0,9),(1,4)],2,24,[.s [],.b false],some (.cons .str (.one .bool)),true⟩),
 (308,⟨.int .u64,1,8,[.i .u64 0],some (.one (.int .u64)),false⟩),
 (341,⟨.slice 360,1,24,[.nl],some (.one Eu),false⟩),
 (347,⟨.iface,1,16,[.er false],none,false⟩),
 (360,⟨.struct [(0,3),(1,3),(2,9),(3,4),(4,3),(5,3)],6,56,[.i .i64 0,.i .i64 0,.s [],.b false,.i .i64 0,.i .i64 0],some (.cons (.int .i64) (.cons (.int .i64) (.cons .str (.cons .bool (.cons (.int .i64) (.one (.int .i64))))))),true⟩),
 (361,⟨.int .u64,1,8,[.i .u64 0],some (.one (.int .u64)),false⟩)]
def T (t:TypeId):Option TyI:=rC t eM
noncomputable def OG:Entry:=au 3 f3 [.agg q0] vB
noncomputable def Zx:Entry:=au 6 f6 [.agg q0,vI] vI
noncomputable def Zy:Entry:=au 15 f15 [.agg q2,vI] vI
noncomputable def Zz:Entry:=bJ 40 f40 [fY,vI] vI [(0,lq [(5,vI),(0,fY),(1,vI)] [] [1])]
noncomputable def ZA:Entry:=bJ 41 f41 [cf,vI] vI [(0,lq [(5,vI),(1,vI),(0,cf)] [] [1])]
noncomputable def ZB:Entry:=au 82 f82 [.agg [kI,kI,kS],vI] vI
noncomputable def ZC:Entry:=bJ 16 f16 [kP,vI] vI [(0,lq [(5,vI),(1,vI),(0,kP)] [] [1])]
noncomputable def ZD:Entry:=au 42 f42 [.agg q1,vI] vI
noncomputable def ZE:Entry:=au 83 f83 [.agg rU,vI] vI
noncomputable def ZF:Entry:=au 137 f137 [.agg mW,vI] vI
noncomputable def ZG:Entry:=bJ 87 f87 [iE,vI] vI [(0,lq [(5,vI),(1,vI),(0,iE)] [] [1])]
noncomputable def ZH:Entry:=au 140 f140 [.agg rV,vI] vI
noncomputable def ZI:Entry:=au 44 f44 [.agg [kI,kI,kS],vI] vI
noncomputable def ZJ:Entry:=au 85 f85 [.agg q4,vI] vI
noncomputable def ZK:Entry:=au 138 f138 [.agg q5,vI] vI
noncomputable def ZL:Entry:=bJ 181 f181 [cf,vI] vI [(0,lq [(5,vI),(1,vI),(0,cf)] [] [1])]
noncomputable def ZM:Entry:=au 213 f213 [.agg [kI,kI,kS],vI] vI
noncomputable def ZN:Entry:=bJ 182 f182 [gx,vI] vI [(0,lq [(5,vI),(1,vI),(0,gx)] [] [1])]
noncomputable def ZO:Entry:=au 214 f214 [.agg iG,vI] vI
noncomputable def ZP:Entry:=au 19 f19 [ew,vI] vI
noncomputable def ZQ:Entry:=au 84 f84 [mV,vI] vI
noncomputable def ZR:Entry:=au 86 f86 [.agg [oC,kI],vI] vI
noncomputable def ZS:Entry:=au 139 f139 [ql,vI] vI
noncomputable def ZT:Entry:=bJ 17 f17 [jf,vI] vI [(0,lq [(5,vI),(1,vI),(0,jf)] [] [1])]
noncomputable def ZU:Entry:=au 43 f43 [.agg oF,vI] vI
noncomputable def ZV:Entry:=au 18 f18 [.agg [kI,kS],vI] vI
noncomputable def ZW:Entry:=bJ 20 f20 [cf,vI] vI [(0,lq [(5,vI),(1,vI),(0,cf)] [] [1])]
noncomputable def ZX:Entry:=au 8 f8 [.agg q0] (.agg [kN,kN,fX,fX,kI,OA,Ey,kI,kS,je,je,fX])
noncomputable def ZY:Entry:=au 23 f23 [.agg q2] (.agg [kN,kN,fX,fX])
noncomputable def ZZ:Entry:=bJ 54 f54 [fY] qn [(0,lq [(4,vI),(0,fY),(3,qn)] [] [3])]
noncomputable def aaA:Entry:=bJ 55 f55 [cf] kj [(0,lq [(4,vI),(0,cf),(3,kj)] [] [3])]
noncomputable def aaB:Entry:=au 101 f101 [.agg [kI,kI,kS]] (.agg [kI,kI,kS])
noncomputable def aaC:Entry:=bJ 24 f24 [kP] OE [(0,lq [(4,vI),(0,kP),(3,OE)] [] [3])]
noncomputable def aaD:Entry:=au 56 f56 [.agg q1] (.agg [kI,kI,kI,kI,kI,uK,fX,oD,kI,kI,je,kS,kI,rT,je,je,kI,fX,oD,kI,kI,je,kS,Ez,kI,Ey])
noncomputable def aaE:Entry:=au 102 f102 [.agg rU] (.agg [kI,kI,kI,kI,uK,fX,oD,kI,kI,je,kS])
noncomputable def aaF:Entry:=au 153 f153 [.agg mW] (.agg [kI,kI,uK])
noncomputable def aaG:Entry:=bJ 106 f106 [iE] OC [(0,lq [(4,vI),(0,iE),(3,OC)] [] [3])]
noncomputable def aaH:Entry:=au 156 f156 [.agg rV] (.agg rV)
noncomputable def aaI:Entry:=au 58 f58 [.agg [kI,kI,kS]] (.agg [kI,kI,kS])
noncomputable def aaJ:Entry:=au 104 f104 [.agg q4] (.agg q7)
noncomputable def aaK:Entry:=au 154 f154 [.agg q5] (.agg iF)
noncomputable def aaL:Entry:=bJ 189 f189 [cf] kj [(0,lq [(4,vI),(0,cf),(3,kj)] [] [3])]
noncomputable def aaM:Entry:=au 224 f224 [.agg [kI,kI,kS]] (.agg [kI,kI,kS])
noncomputable def aaN:Entry:=bJ 190 f190 [gx] oE [(0,lq [(4,vI),(0,gx),(3,oE)] [] [3])]
noncomputable def aaO:Entry:=au 225 f225 [.agg iG] (.agg iG)
noncomputable def aaP:Entry:=bJ 27 f27 [ew] eQ [(0,lq [(4,vI),(0,ew),(3,eQ)] [] [3])]
noncomputable def aaQ:Entry:=bJ 103 f103 [mV] jg [(0,lq [(4,vI),(0,mV),(3,jg)] [] [3])]
noncomputable def aaR:Entry:=au 105 f105 [.agg [oC,kI]] (.agg [Ez,kI])
noncomputable def aaS:Entry:=bJ 155 f155 [ql] ga [(0,lq [(4,vI),(0,ql),(3,ga)] [] [3])]
noncomputable def aaT:Entry:=bJ 25 f25 [jf] OD [(0,lq [(4,vI),(0,jf),(3,OD)] [] [3])]
noncomputable def aaU:Entry:=au 57 f57 [.agg oF] (.agg [kI,kI,kI,kI,kI,kI,kI,uK,kB,kS])
noncomputable def aaV:Entry:=au 26 f26 [.agg [kI,kS]] (.agg [kI,kS])
noncomputable def aaW:Entry:=bJ 28 f28 [cf] kj [(0,lq [(4,vI),(0,cf),(3,kj)] [] [3])]
noncomputable def aaX:Entry:=au 7 f7 [.agg q0] vB
noncomputable def aaY:Entry:=dt 21 f21 [.agg q0] vB [(0,lq [(3,vI),(1,.one (.pb 1 0))] [(1,q0)] [1]),(2,lq [(4,vI),(1,.one (.pb 1 0))] [(1,q0)] [1]),(4,lr [(5,vI),(1,.one (.pb 1 0))] [(1,q0)] [])] [6]
noncomputable def aaZ:Entry:=dt 45 f45 [.agg q2] vB [(0,lq [(3,vI),(1,.one (.pb 1 0))] [(1,q2)] [1]),(2,lq [(4,vI),(1,.one (.pb 1 0))] [(1,q2)] [1])] [9,4]
noncomputable def abA:Entry:=bJ 88 f88 [vS] vB [(0,lq [(3,vI),(0,vS)] [] [0])]
noncomputable def abB:Entry:=au 141 f141 [vU] vB
noncomputable def abC:Entry:=au 46 f46 [vI,vI,vI] vB
noncomputable def abD:Entry:=au 142 f142 [vS] vB
noncomputable def abE:Entry:=bJ 89 f89 [fY,vS] vB [(0,lq [(5,vI),(1,vS),(0,fY)] [] [])]
noncomputable def abF:Entry:=au 183 f183 [] qn
noncomputable def abG:Entry:=bJ 90 f90 [cf,vI,vI] vB [(0,lq [(8,vI),(2,vI),(1,vI),(7,vI),(0,cf)] [] [])]
noncomputable def abH:Entry:=au 143 f143 [.agg [kI,kI,kS],vI,vI,vI] vB
noncomputable def abI:Entry:=au 184 f184 [vI] vB
noncomputable def abJ:Entry:=au 185 f185 [vS] (.aO [.agg km,vB])
noncomputable def abK:Entry:=bU 215 f215 [.one (.pb 5000 0),vI] [(5000,[kS,kI,kB])] (.agg km) [[kS,kI,kB]] [(0,lp ⟨[(1,vI),(0,.one (.pb 5000 0)),(5,qm),(4,.one (.pb 4 0))],[(5000,[kS,kI,kB]),(4,q6)]⟩ ⟨[(4,.one (.pb 4 0)),(5,qm)],[(5000,[kS,kI,kB]),(4,q6)]⟩)] []
noncomputable def abL:Entry:=bU 252 f252 [.one (.pb 5000 0),vI] [(5000,[kS,kI,kB])] (.agg km) [[kS,kI,kB]] [(0,lp ⟨[(1,vI),(0,.one (.pb 5000 0)),(5,qm),(4,.one (.pb 4 0))],[(5000,[kS,kI,kB]),(4,q6)]⟩ ⟨[(4,.one (.pb 4 0)),(5,qm)],[(5000,[kS,kI,kB]),(4,q6)]⟩)] [2]
noncomputable def abM:Entry:=bU 295 f295 [.one (.pb 5000 0),vI] [(5000,[kS,kI,kB])] (.agg km) [[kS,kI,kB]] [(0,lq [(4,.one (.pb 4 0)),(5,.one (.pb 5 0)),(0,.one (.pb 5000 0))] [(5000,[kS,kI,kB]),(4,q6),(5,km)] [4,5])] []
noncomputable def abN:Entry:=bU 338 f338 [.one (.pb 5000 0),vI] [(5000,[kS,kI,kB])] (.agg km) [[kS,kI,kB]] [] []
noncomputable def abO:Entry:=bU 253 f253 [.one (.pb 5000 0),vU] [(5000,[kS,kI,kB])] vB [[kS,kI,kB]] [] []
noncomputable def abP:Entry:=bU 365 f365 [.one (.pb 5000 0)] [(5000,[kS,kI,kB])] (.agg q6) [[kS,kI,kB]] [(2,lq [(8,vI),(4,jg),(0,.one (.pb 5000 0)),(2,.one (.pb 2 0)),(3,.one (.pb 3 0)),(43,vB),(42,vU),(37,vS),(41,vI),(40,.one (.pb 5000 1)),(39,.one (.pb 5000 0)),(38,.one (.pb 5000 0)),(36,.one (.pb 5000 0)),(35,.one (.pb 5000 0)),(34,.one (.pb 5000 0)),(5,vI),(7,vI)] [(5000,[kS,kI,kB]),(2,q6),(3,q6)] [4,0,2,3,43,42,37,41,40,39,38,36,35,34,5]),(0,lp ⟨[(4,jg),(5,vI),(0,.one (.pb 5000 0)),(2,.one (.pb 2 0)),(3,.one (.pb 3 0))],[(5000,[kS,kI,kB]),(2,q6),(3,q6)]⟩ ⟨[(4,jg),(2,.one (.pb 2 0)),(3,.one (.pb 3 0)),(0,.one (.pb 5000 0)),(5,vI)],[(5000,[kS,kI,kB]),(2,q6),(3,q6)]⟩),(4,lp ⟨[(10,vI),(9,ga),(4,jg),(2,.one (.pb 2 0)),(3,.one (.pb 3 0))],[(5000,[kS,kI,kB]),(2,q6),(3,q6)]⟩ ⟨[(2,.one (.pb 2 0)),(3,.one (.pb 3 0)),(9,ga)],[(5000,[kS,kI,kB]),(2,q6),(3,q6)]⟩)] [11,7]
noncomputable def abQ:Entry:=bJ 216 f216 [.agg q9] vI [(0,lr [(4,vI),(1,.one (.pb 1 0)),(3,vI)] [(1,q9)] [3])]
noncomputable def abR:Entry:=au 149 f149 [vI,vI] vI
noncomputable def abS:Entry:=au 47 f47 [.agg [kI,kS]] vB
noncomputable def abT:Entry:=bJ 48 f48 [ew] vB [(0,lq [(3,vI),(0,ew)] [] [0])]
noncomputable def abU:Entry:=dt 49 f49 [.agg q2,.agg q1,vI] vB [(0,lp ⟨[(9,vI),(7,vI),(4,.one (.pb 4 0)),(2,vI),(3,.one (.pb 3 0))],[(4,q1),(3,q2)]⟩ ⟨[(4,.one (.pb 4 0)),(2,vI),(3,.one (.pb 3 0)),(7,vI)],[(4,q1),(3,q2)]⟩),(2,lq [(10,vI),(4,.one (.pb 4 0)),(2,vI),(3,.one (.pb 3 0)),(7,vI)] [(4,q1),(3,q2)] [4,3,7])] [12,7]
noncomputable def abV:Entry:=au 91 f91 [.agg q2,.agg rU] vB
noncomputable def abW:Entry:=au 92 f92 [.agg mW] (.aO [vI,vI])
noncomputable def abX:Entry:=dt 144 f144 [.agg mW] vB [(0,lr [(4,vI),(1,.one (.pb 1 0)),(3,vI)] [(1,mW)] [])] [7]
noncomputable def abY:Entry:=au 51 f51 [.agg [kI,kI,kS]] vB
noncomputable def abZ:Entry:=bJ 96 f96 [vS] vB [(0,lq [(3,vI),(0,vS)] [] [])]
noncomputable def acA:Entry:=bJ 93 f93 [.agg q2,.agg q4] vB [(0,lq [(5,vI),(3,.one (.pb 3 0)),(2,.one (.pb 2 0))] [(3,q4),(2,q2)] [3,2])]
noncomputable def acB:Entry:=dt 145 f145 [.agg q5,vI,vI] vB [(0,lq [(7,vI),(3,.one (.pb 3 0)),(2,vI),(1,vI)] [(3,q5)] [3,2,1]),(2,lq [(8,vI),(3,.one (.pb 3 0)),(2,vI),(1,vI)] [(3,q5)] [3,1])] [10]
noncomputable def acC:Entry:=au 186 f186 [.agg [kI,kI,kS]] vB
noncomputable def acD:Entry:=bJ 217 f217 [vS] (.aO [vI,vB]) [(0,lq [(5,vI),(0,vS),(4,vI)] [] [4])]
noncomputable def acE:Entry:=dt 254 f254 [vS] (.aO [vI,vI]) [(0,lp ⟨[(4,vI),(0,vS)],[]⟩ ⟨[(0,vS),(4,vI)],[]⟩),(2,lp ⟨[(7,vI),(4,vI),(0,vS),(6,vI),(5,vB)],[]⟩ ⟨[(7,vI),(0,vS),(6,vI),(5,vB),(4,vI)],[]⟩),(4,lp ⟨[(4,vI),(7,vI),(8,vI),(0,vS),(6,vI),(5,vB)],[]⟩ ⟨[(4,vI),(6,vI),(5,vB),(7,vI)],[]⟩)] [16,8,2]
noncomputable def acF:Entry:=au 296 f296 [vU] vB
noncomputable def acG:Entry:=au 187 f187 [.agg iG,vI,vS] vB
noncomputable def acH:Entry:=au 50 f50 [.agg oF,vI] vB
noncomputable def acI:Entry:=dt 95 f95 [iE,vI] vB [(0,lq [(5,vI),(0,iE),(1,vI)] [] [0])] [4]
noncomputable def acJ:Entry:=au 94 f94 [.agg [oC,kI]] vB
noncomputable def acK:Entry:=bJ 22 f22 [.agg q2,cf] (.agg q7) [(0,lp ⟨[(6,vI),(5,.one (.pb 5 0)),(1,cf),(2,.one (.pb 2 0)),(4,.one (.pb 4 0))],[(5,q7),(2,q2),(4,yi)]⟩ ⟨[(4,.one (.pb 4 0)),(5,.one (.pb 5 0))],[(4,yi),(5,q7)]⟩)]
noncomputable def acL:Entry:=au 52 f52 [.agg q2] (.agg q7)
noncomputable def acM:Entry:=au 97 f97 [.agg q2] (.aO [.agg iF,vS])
noncomputable def acN:Entry:=au 98 f98 [vI] (.agg [fX,.nl,kI,kI])
noncomputable def acO:Entry:=au 150 f150 [vI,vI] vI
noncomputable def acP:Entry:=au 146 f146 [.agg q5] (.agg iF)
noncomputable def acQ:Entry:=bU 147 f147 [.one (.pb 5000 0),cf] [(5000,q3)] (.aO []) [q3] [(0,lp ⟨[(0,.one (.pb 5000 0)),(6,vI),(5,vI),(1,cf),(4,.one (.pb 11 0))],[(5000,q3),(11,[.pb 5000 0,fX])]⟩ ⟨[],[(5000,q3)]⟩)] []
noncomputable def acR:Entry:=bU 152 f152 [.one (.pb 5000 0),vI] [(5000,q3)] (.aO []) [q3] [] []
noncomputable def acS:Entry:=bU 188 f188 [.one (.pb 5000 0),.agg [kI,kI,kS],vI] [(5001,q3),(5000,lR)] (.aO [vI,vB]) [q3,lR] [] []
noncomputable def acT:Entry:=au 218 f218 [.agg [kI,kI,kS]] vI
noncomputable def acU:Entry:=au 219 f219 [.agg [kI,kI,kS]] vB
noncomputable def acV:Entry:=bU 220 f220 [.one (.pb 5000 0),vS] [(5000,q3)] (.aO []) [q3] [] []
noncomputable def acW:Entry:=au 221 f221 [.agg [kI,kI,kS]] vS
noncomputable def acX:Entry:=bJ 255 f255 [vI] vS [(0,lp ⟨[(6,vS),(0,vI),(4,vS)],[]⟩ ⟨[(0,vI),(6,vS),(4,vS)],[]⟩)]
noncomputable def acY:Entry:=au 297 f297 [vI] vI
noncomputable def acZ:Entry:=bJ 298 f298 [vI] vS [(0,lq [(0,vI),(3,vS)] [] [3])]
noncomputable def adA:Entry:=bU 222 f222 [.one (.pb 5000 0),.agg [kI,kI,kS],cf] [(5001,q3),(5000,lR)] (.aO []) [q3,lR] [] []
noncomputable def adB:Entry:=bU 256 f256 [.one (.pb 5000 0),.agg [kI,kI,kS]] [(5001,q3),(5000,lR)] (.aO []) [q3,lR] [] []
noncomputable def adC:Entry:=au 258 f258 [.agg [kI,kI,kS]] vI
noncomputable def adD:Entry:=bU 257 f257 [.one (.pb 5000 0),vI,vI,vI] [(5000,q3)] (.agg [kI,kI,kS]) [q3] [] []
noncomputable def adE:Entry:=au 299 f299 [vI,vI] (.aO [vI,vB])
noncomputable def adF:Entry:=au 339 f339 [vI] (.aO [vI,vB])
noncomputable def adG:Entry:=au 263 f263 [vI] (.agg [kI,kI,kS])
noncomputable def adH:Entry:=au 300 f300 [vI,vI] (.aO [vI,vB])
noncomputable def adI:Entry:=au 301 f301 [vI,vI] (.aO [vI,vB])
noncomputable def adJ:Entry:=au 302 f302 [vI,vI] (.aO [vI,vB])
noncomputable def adK:Entry:=au 260 f260 [.agg [kI,kI,kS]] vS
noncomputable def adL:Entry:=au 259 f259 [.agg q5,vI,vS] (.agg [kI,kI,kS])
noncomputable def adM:Entry:=dt 303 f303 [.agg q5,vI,vS] vI [(0,lr [(7,vI),(2,vS),(3,.one (.pb 3 0)),(1,vI)] [(3,q5)] [])] [4]
noncomputable def adN:Entry:=bU 261 f261 [.one (.pb 5000 0),vI,vS,.agg [kI,kI,kS]] [(5001,q3),(5000,lR)] (.aO []) [q3,lR] [] []
noncomputable def adO:Entry:=dt 304 f304 [.agg q5,vI,vS,.agg [kI,kI,kS]] (.aO [.agg iF,vB]) [(0,lp ⟨[(11,vI),(8,.one (.pb 8 0)),(10,.one (.pb 10 0)),(4,.one (.pb 4 0)),(7,.one (.pb 7 0)),(2,vS),(1,vI)],[(8,[.nl,.nl,kI,kI]),(10,iF),(4,q5),(7,[kI,kI,kS])]⟩ ⟨[(8,.one (.pb 8 0)),(10,.one (.pb 10 0)),(11,vI),(4,.one (.pb 4 0)),(7,.one (.pb 7 0)),(2,vS),(1,vI)],[(8,[.nl,.nl,kI,kI]),(10,iF),(4,q5),(7,[kI,kI,kS])]⟩)] [9]
noncomputable def adP:Entry:=au 262 f262 [.agg q5,vI,vS] (.agg iF)
noncomputable def adQ:Entry:=bU 223 f223 [.one (.pb 5000 0),.agg [kI,kI,kS],cf] [(5001,q3),(5000,lR)] (.aO []) [q3,lR] [] []
noncomputable def adR:Entry:=bU 264 f264 [.one (.pb 5000 0),.agg [kI,kI,kS]] [(5000,q3)] (.agg [kI,kI,kS]) [q3] [] []
noncomputable def adS:Entry:=au 305 f305 [vS] (.agg [kI,kI,kS])
noncomputable def adT:Entry:=bU 265 f265 [.one (.pb 5000 0),.agg [kI,kI,kS],.agg [kI,kI,kS]] [(5000,q3)] (.agg [kI,kI,kS]) [q3] [] []
noncomputable def adU:Entry:=au 266 f266 [vS,vS] (.agg [kI,kI,kS])
noncomputable def adV:Entry:=au 306 f306 [.agg q9,vS] vB
noncomputable def adW:Entry:=au 341 f341 [.agg q9] fZ
noncomputable def adX:Entry:=au 367 f367 [.agg q9] vB
noncomputable def adY:Entry:=bJ 391 f391 [.agg q9] vB [(0,lq [(3,vI),(1,.one (.pb 1 0))] [(1,q9)] [1])]
noncomputable def adZ:Entry:=bJ 417 f417 [vS] vB [(0,lq [(3,vI),(0,vS)] [] [])]
noncomputable def aeA:Entry:=bJ 369 f369 [fZ,.agg q9] fZ [(1,lr [(6,vI),(3,.one (.pb 3 0)),(0,fZ)] [(3,q9)] [0])]
noncomputable def aeB:Entry:=au 368 f368 [fZ,vI] fZ
noncomputable def aeC:Entry:=bJ 392 f392 [fZ,kO] fZ [(0,lq [(6,vI),(5,eQ),(1,kO),(0,fZ)] [] [5,1,0]),(2,lq [(8,vI),(0,fZ),(5,eQ)] [] [0])]
noncomputable def aeD:Entry:=bJ 340 f340 [fh,vS] (.aO [vI,vI,vB]) [(0,lq [(7,vI),(1,vS),(0,fh)] [] [])]
noncomputable def aeE:Entry:=bJ 366 f366 [fh,vS,vI] vI [(0,lq [(7,eQ),(9,vI),(1,vS),(0,fh),(8,vI)] [] [8]),(2,lp ⟨[(11,vI),(7,eQ),(10,eQ),(9,vI),(1,vS),(0,fh),(8,vI)],[]⟩ ⟨[(1,vS),(0,fh),(8,vI),(9,vI),(10,eQ)],[]⟩)]
noncomputable def aeF:Entry:=dt 388 f388 [fh] vB [(0,lq [(4,vI),(3,vI),(0,fh)] [] [3])] [5]
noncomputable def aeG:Entry:=au 413 f413 [.agg yj,vI] vB
noncomputable def aeH:Entry:=bJ 389 f389 [fh,ew,vB,vB] eQ [(0,lq [(10,vI),(3,vB),(2,vB),(1,ew),(9,jg),(0,fh)] [] [9])]
noncomputable def aeI:Entry:=Yq 414 f414 [fh,jg,vI,vB,vB] jg [(0,lq [(3,vB),(4,vB),(0,fh),(1,jg),(10,eQ)] [] [1])] [4] 1
noncomputable def aeJ:Entry:=bJ 415 f415 [mV] eQ [(0,lq [(4,vI),(3,eQ),(0,mV)] [] [3])]
noncomputable def aeK:Entry:=au 390 f390 [.agg yj,vU] vB
noncomputable def aeL:Entry:=bJ 416 f416 [vS,vU] vB [(0,lq [(5,vI),(1,vU),(0,vS)] [] [])]
noncomputable def aeM:Entry:=au 267 f267 [vB] (.agg [kI,kI,kS])
noncomputable def aeN:Entry:=au 307 f307 [vB] vI
noncomputable def aeO:Entry:=au 268 f268 [vS,cf] (.agg [kI,kI,kS])
noncomputable def aeP:Entry:=au 308 f308 [vS,cf] (.agg [kI,kI,kS])
noncomputable def aeQ:Entry:=au 342 f342 [vI] vI
noncomputable def aeR:Entry:=bJ 343 f343 [vS,vS] vI [(0,lq [(5,vI),(1,vS),(0,vS)] [] [])]
noncomputable def aeS:Entry:=dt 344 f344 [vS,vU,vU] vS [(0,lq [(8,vI),(2,vU),(1,vU),(7,ga)] [] [7])] [5]
noncomputable def aeT:Entry:=au 345 f345 [cf] vS
noncomputable def aeU:Entry:=au 269 f269 [vI,.agg [kI,kI,kS],.agg [kI,kI,kS]] (.agg [kI,kI,kS])
noncomputable def aeV:Entry:=au 309 f309 [.agg [kI,kI,kS],.agg [kI,kI,kS]] vI
noncomputable def aeW:Entry:=bU 148 f148 [.one (.pb 5000 0),.agg q5] [(5000,q3)] (.aO [.agg iF,vS]) [[.undef,.undef,kI,kI,kN,kN,kS,kN,kS,kI,kB]] [] []
noncomputable def aeX:Entry:=au 53 f53 [.agg q2,.agg q4,.agg [kI,kI,kS]] (.agg q7)
noncomputable def aeY:Entry:=au 99 f99 [.agg q4] (.agg q7)
noncomputable def aeZ:Entry:=au 100 f100 [.agg q2,.agg q5,vS] (.aO [.agg iF,vS])
noncomputable def afA:Entry:=dt 151 f151 [vS] qn [(0,lq [(5,vI),(4,vI),(0,vS),(3,qn)] [] [3])] [6]
noncomputable def afB:Entry:=au 9 f9 [.agg q0] vB
noncomputable def afC:Entry:=dt 29 f29 [.agg q0] vB [(0,lq [(38,vI),(1,.one (.pb 1 0)),(36,kP),(37,vI)] [(1,q0)] [1])] [9,6]
noncomputable def afD:Entry:=dt 59 f59 [.agg q2] vB [] [1]
noncomputable def afE:Entry:=dt 107 f107 [fY] vB [(0,lq [(7,vI),(0,fY),(5,fY),(6,vI)] [] [0])] [4]
noncomputable def afF:Entry:=au 157 f157 [vS] vB
noncomputable def afG:Entry:=au 60 f60 [vI,vI,vI] vB
noncomputable def afH:Entry:=dt 191 f191 [vS,vI] vI [(0,lq [(5,vI),(1,vI),(0,vS)] [] [5])] [2]
noncomputable def afI:Entry:=au 226 f226 [vU] vB
noncomputable def afJ:Entry:=au 192 f192 [vS] vB
noncomputable def afK:Entry:=au 197 f197 [] qn
noncomputable def afL:Entry:=au 110 f110 [fY,vS] vB
noncomputable def afM:Entry:=bJ 159 f159 [fY,vS] vI [(0,lq [(8,vI),(0,fY),(1,vS),(7,vI)] [] [])]
noncomputable def afN:Entry:=bU 108 f108 [fY,.one (.fn 109 [] [.pb 5000 0])] [(5000,q2)] vB [q2] [] []
noncomputable def afO:Entry:=bU 158 f158 [fY,.one (.fn 109 [] [.pb 5000 0])] [(5000,q2)] vI [q2] [(0,lq [(8,vI),(0,fY),(1,.one (.fn 109 [] [.pb 5000 0])),(7,vI)] [(5000,q2)] [])] []
noncomputable def afP:Entry:=bU 109 f109 [vS,.one (.pb 5000 0)] [(5000,q2)] vB [q2] [] []
noncomputable def afQ:Entry:=au 111 f111 [cf,vI,vI] vB
noncomputable def afR:Entry:=bU 160 f160 [cf,.one (.fn 161 [] [.pb 5000 0,.pb 5001 0,.pb 5002 0])] [(5000,[gw]),(5001,[kI]),(5002,[kI])] vB [[gw],[kI],[kI]] [] []
noncomputable def afS:Entry:=bU 193 f193 [cf,.one (.fn 161 [] [.pb 5000 0,.pb 5001 0,.pb 5002 0])] [(5000,[gw]),(5001,[kI]),(5002,[kI])] vI [[gw],[kI],[kI]] [(0,lq [(8,vI),(0,cf),(1,.one (.fn 161 [] [.pb 5000 0,.pb 5001 0,.pb 5002 0])),(7,vI)] [(5000,[gw]),(5001,[kI]),(5002,[kI])] [])] []
noncomputable def afT:Entry:=bU 161 f161 [.agg [kI,kI,kS],.one (.pb 5000 0),.one (.pb 5001 0),.one (.pb 5002 0)] [(5000,[gw]),(5001,[kI]),(5002,[kI])] vB [[gw],[kI],[kI]] [] []
noncomputable def afU:Entry:=au 162 f162 [.agg [kI,kI,kS],vI,vI,vI] vB
noncomputable def afV:Entry:=au 194 f194 [vI] (.aO [vS,vS])
noncomputable def afW:Entry:=au 195 f195 [vI] vB
noncomputable def afX:Entry:=au 196 f196 [vS] vB
noncomputable def afY:Entry:=au 227 f227 [vS] (.aO [.agg km,vB])
noncomputable def afZ:Entry:=bU 270 f270 [.one (.pb 5000 0)] [(5000,[kS,kB])] (.agg km) [[kS,kB]] [(0,lp ⟨[(0,.one (.pb 5000 0)),(3,qm),(2,.one (.pb 2 0))],[(5000,[kS,kB]),(2,q6)]⟩ ⟨[(2,.one (.pb 2 0)),(3,qm)],[(5000,[kS,kB]),(2,q6)]⟩)] []
noncomputable def agA:Entry:=bU 310 f310 [.one (.pb 5000 0)] [(5000,[kS,kB])] (.agg km) [[kS,kB]] [(0,lq [(2,.one (.pb 2 0)),(3,qm),(0,.one (.pb 5000 0))] [(5000,[kS,kB]),(2,q6)] [2,3])] [3]
noncomputable def agB:Entry:=bU 346 f346 [.one (.pb 5000 0)] [(5000,[kS,kB])] (.aO [vU,vB]) [[kS,kB]] [] []
noncomputable def agC:Entry:=bU 347 f347 [.one (.pb 5000 0)] [(5000,[kS,kB])] (.agg km) [[kS,kB]] [(0,lp ⟨[(2,.one (.pb 2 0)),(3,.one (.pb 3 0)),(0,.one (.pb 5000 0))],[(5000,[kS,kB]),(2,q6),(3,km)]⟩ ⟨[],[(5000,[.undef,.undef])]⟩)] [3]
noncomputable def agD:Entry:=bU 370 f370 [.one (.pb 5000 0)] [(5000,[kS,kB])] (.agg km) [[kS,kB]] [] []
noncomputable def agE:Entry:=bU 311 f311 [.one (.pb 5000 0),vU] [(5000,[kS,kB])] vB [[kS,kB]] [] []
noncomputable def agF:Entry:=bU 393 f393 [.one (.pb 5000 0)] [(5000,[kS,kB])] (.agg q6) [[kS,kB]] [(2,lq [(10,vI),(6,jg),(0,.one (.pb 5000 0)),(5,vS),(2,.one (.pb 2 0)),(3,.one (.pb 3 0)),(7,vI),(9,vI)] [(5000,[kS,kB]),(2,q6),(3,q6)] [6,0,5,2,3,7]),(0,lp ⟨[(6,jg),(7,vI),(0,.one (.pb 5000 0)),(5,vS),(2,.one (.pb 2 0)),(3,.one (.pb 3 0))],[(5000,[kS,kB]),(2,q6),(3,q6)]⟩ ⟨[(2,.one (.pb 2 0)),(3,.one (.pb 3 0)),(6,jg)],[(5000,[kS,kB]),(2,q6),(3,q6)]⟩),(4,lp ⟨[(102,vI),(11,ga),(100,jg),(2,.one (.pb 2 0)),(3,.one (.pb 3 0)),(101,vI)],[(5000,[kS,kB]),(2,q6),(3,q6)]⟩ ⟨[(2,.one (.pb 2 0)),(3,.one (.pb 3 0)),(11,ga)],[(5000,[kS,kB]),(2,q6),(3,q6)]⟩)] [13]
noncomputable def EA:Entry:={f:=399,fn:=f399,ins:=[vS,vU],bx:=[],outs:=vI,bM:=[],loops:=[],cN:=[],bG:=[.int .i64],bW:=some primIndexByte}
noncomputable def agG:Entry:=au 371 f371 [vU] vI
noncomputable def agH:Entry:=bJ 271 f271 [.agg q9] vI [(0,lq [(9,vI),(3,vI),(7,kO),(8,vI)] [] [3])]
noncomputable def agI:Entry:=au 61 f61 [.agg [kI,kS]] vB
noncomputable def agJ:Entry:=au 112 f112 [vI] vB
noncomputable def agK:Entry:=au 62 f62 [.agg q2,.agg q1,vI] vB
noncomputable def agL:Entry:=au 113 f113 [.agg q2,.agg rU] vB
noncomputable def agM:Entry:=au 114 f114 [.agg mW] (.aO [vI,vI])
noncomputable def agN:Entry:=au 163 f163 [vI] vB
noncomputable def agO:Entry:=dt 164 f164 [.agg mW] vB [(0,lq [(30,vI),(3,vI),(28,iE),(29,vI)] [] [])] [7]
noncomputable def agP:Entry:=au 69 f69 [.agg [kI,kI,kS]] vB
noncomputable def agQ:Entry:=au 123 f123 [vS] vB
noncomputable def EB:Entry:={f:=170,fn:=f170,ins:=[vS,vS],bx:=[],outs:=vB,bM:=[],loops:=[],cN:=[],bG:=[.bool],bW:=some primContainsG}
noncomputable def agR:Entry:=au 115 f115 [.agg q2,.agg q4] vB
noncomputable def agS:Entry:=dt 165 f165 [.agg q5,vI,vI] vB [(0,lr [(40,vI),(3,.one (.pb 3 0)),(2,vI),(38,gx),(39,vI)] [(3,q5)] [])] [6]
noncomputable def agT:Entry:=au 198 f198 [cf,.one (.fn 199 [] [])] vB
noncomputable def agU:Entry:=bJ 228 f228 [cf,.one (.fn 199 [] [])] vI [(0,lq [(8,vI),(0,cf),(1,.one (.fn 199 [] [])),(7,vI)] [] [])]
noncomputable def agV:Entry:=au 199 f199 [.agg [kI,kI,kS]] vB
noncomputable def agW:Entry:=au 200 f200 [.agg [kI,kI,kS]] vB
noncomputable def agX:Entry:=au 229 f229 [vS] (.aO [vI,vB])
noncomputable def agY:Entry:=au 272 f272 [vS] (.aO [vI,vI])
noncomputable def agZ:Entry:=au 312 f312 [vS,vS] vS
noncomputable def ahA:Entry:=dt 315 f315 [vS,vU] vS [(0,lq [(0,vS),(1,vU)] [] [0])] [1]
noncomputable def ahB:Entry:=dt 313 f313 [vS,vI] vI [(0,lq [(5,vI),(1,vI),(0,vS)] [] [5])] [2]
noncomputable def ahC:Entry:=au 314 f314 [vS,vS] (.aO [vI,vB])
noncomputable def EC:Entry:={f:=348,fn:=f348,ins:=[vS],bx:=[],outs:=.aO [vI,.one .er],bM:=[],loops:=[],cN:=[],bG:=[.int .i64,.bool],bW:=some primAtoi}
noncomputable def ahD:Entry:=au 325 f325 [vI] (.aO [vI,vB])
noncomputable def ahE:Entry:=au 273 f273 [vS,vS] vS
noncomputable def ahF:Entry:=dt 316 f316 [vS,vU] vS [(0,lq [(0,vS),(1,vU)] [] [0])] [1]
noncomputable def ahG:Entry:=au 201 f201 [.agg iG,.agg iG] vI
noncomputable def ED:Entry:={f:=230,fn:=f230,ins:=[vS,vS],bx:=[],outs:=vI,bM:=[],loops:=[],cN:=[],bG:=[.int .i64],bW:=some primCompare}
noncomputable def ahH:Entry:=au 120 f120 [ew,.one (.fn 166 [] [])] vB
noncomputable def ahI:Entry:=bJ 169 f169 [ew,.one (.fn 166 [] [])] vI [(0,lq [(8,vI),(0,ew),(1,.one (.fn 166 [] [])),(7,vI)] [] [])]
noncomputable def ahJ:Entry:=au 166 f166 [vI] vB
noncomputable def ahK:Entry:=dt 66 f66 [ew,vI,vI,vI] vB [] [1]
noncomputable def ahL:Entry:=bU 120 f120 [ew,.one (.fn 121 [] [.pb 5000 0,.pb 5001 0])] [(5000,[kI]),(5001,[kI])] vB [[kI],[kI]] [] []
noncomputable def ahM:Entry:=bU 169 f169 [ew,.one (.fn 121 [] [.pb 5000 0,.pb 5001 0])] [(5000,[kI]),(5001,[kI])] vI [[kI],[kI]] [(0,lq [(8,vI),(0,ew),(1,.one (.fn 121 [] [.pb 5000 0,.pb 5001 0])),(7,vI)] [(5000,[kI]),(5001,[kI])] [])] []
noncomputable def ahN:Entry:=bU 121 f121 [vI,.one (.pb 5000 0),.one (.pb 5001 0)] [(5000,[kI]),(5001,[kI])] vB [[kI],[kI]] [] []
noncomputable def ahO:Entry:=au 116 f116 [.agg [oC,kI]] vB
noncomputable def ahP:Entry:=bU 63 f63 [jf,.one (.fn 117 [] [.pb 5000 0,.pb 5001 0])] [(5000,[kI]),(5001,q1)] vB [[kI],q1] [] []
noncomputable def ahQ:Entry:=bU 118 f118 [jf,.one (.fn 117 [] [.pb 5000 0,.pb 5001 0])] [(5000,[kI]),(5001,q1)] vI [[kI],q1] [(0,lq [(8,vI),(0,jf),(1,.one (.fn 117 [] [.pb 5000 0,.pb 5001 0])),(7,vI)] [(5000,[kI]),(5001,q1)] [])] []
noncomputable def ahR:Entry:=bU 117 f117 [.agg oF,.one (.pb 5000 0),.one (.pb 5001 0)] [(5000,[kI]),(5001,q1)] vB [[kI],q1] [] []
noncomputable def ahS:Entry:=au 65 f65 [.agg oF,vI] vB
noncomputable def ahT:Entry:=dt 119 f119 [iE,vI] vB [] [1]
noncomputable def ahU:Entry:=bU 167 f167 [iE,.one (.fn 168 [] [.pb 5000 0])] [(5000,[kI])] vB [[kI]] [] []
noncomputable def ahV:Entry:=bU 202 f202 [iE,.one (.fn 168 [] [.pb 5000 0])] [(5000,[kI])] vI [[kI]] [(0,lq [(8,vI),(0,iE),(1,.one (.fn 168 [] [.pb 5000 0])),(7,vI)] [(5000,[kI])] [])] []
noncomputable def ahW:Entry:=bU 168 f168 [.agg rV,.one (.pb 5000 0)] [(5000,[kI])] vB [[kI]] [] []
noncomputable def ahX:Entry:=bU 63 f63 [jf,.one (.fn 64 [] [.pb 5000 0])] [(5000,q0)] vB [q0] [] []
noncomputable def ahY:Entry:=bU 118 f118 [jf,.one (.fn 64 [] [.pb 5000 0])] [(5000,q0)] vI [q0] [(0,lq [(8,vI),(0,jf),(1,.one (.fn 64 [] [.pb 5000 0])),(7,vI)] [(5000,q0)] [])] []
noncomputable def ahZ:Entry:=bU 64 f64 [.agg oF,.one (.pb 5000 0)] [(5000,q0)] vB [q0] [] []
noncomputable def aiA:Entry:=au 67 f67 [cf,.one (.fn 68 [] [])] vB
noncomputable def aiB:Entry:=bJ 122 f122 [cf,.one (.fn 68 [] [])] vI [(0,lq [(8,vI),(0,cf),(1,.one (.fn 68 [] [])),(7,vI)] [] [])]
noncomputable def aiC:Entry:=au 68 f68 [.agg [kI,kI,kS]] vB
noncomputable def aiD:Entry:=bJ 31 f31 [.agg q2,cf] (.agg q7) [(0,lp ⟨[(12,vI),(5,.one (.pb 5 0)),(2,.one (.pb 2 0)),(10,cf),(4,.one (.pb 4 0)),(11,vI)],[(5,q7),(2,q2),(4,yi)]⟩ ⟨[(4,.one (.pb 4 0)),(5,.one (.pb 5 0))],[(4,yi),(5,q7)]⟩)]
noncomputable def aiE:Entry:=au 71 f71 [.agg q2] (.agg q7)
noncomputable def aiF:Entry:=au 124 f124 [.agg q2] (.aO [.agg iF,vS])
noncomputable def aiG:Entry:=au 125 f125 [vI] (.agg [fX,.nl,kI,kI])
noncomputable def aiH:Entry:=au 171 f171 [.agg q5] (.agg iF)
noncomputable def EE:Entry:={f:=204,fn:=f204,ins:=[cf],bx:=[],outs:=kj,bM:=[],loops:=[],cN:=[],bG:=[aK],bW:=some (gG aK)}
noncomputable def EF:Entry:={f:=205,fn:=f205,ins:=[gx],bx:=[],outs:=oE,bM:=[],loops:=[],cN:=[],bG:=[bN],bW:=some (gG bN)}
noncomputable def aiI:Entry:=bU 172 f172 [.one (.pb 5000 0),cf] [(5000,q8)] (.aO []) [q8] [(0,lq [(0,.one (.pb 5000 0)),(5,vI),(4,vI),(1,cf)] [(5000,q8)] [])] []
noncomputable def aiJ:Entry:=bU 175 f175 [.one (.pb 5000 0),vI] [(5000,q8)] (.aO []) [q8] [] []
noncomputable def aiK:Entry:=au 207 f207 [.agg [kI,kI,kS]] vI
noncomputable def aiL:Entry:=bU 206 f206 [.one (.pb 5000 0),vI] [(5000,q8)] kj [q8] [] []
noncomputable def aiM:Entry:=au 208 f208 [.agg [kI,kI,kS]] vB
noncomputable def aiN:Entry:=bU 209 f209 [.one (.pb 5000 0),.agg [kI,kI,kS],cf] [(5000,q8)] (.aO []) [q8] [] []
noncomputable def aiO:Entry:=bU 232 f232 [.one (.pb 5000 0),.agg [kI,kI,kS]] [(5000,q8)] (.aO []) [q8] [] []
noncomputable def aiP:Entry:=bU 233 f233 [.one (.pb 5000 0),.agg [kI,kI,kS],.agg [kI,kI,kS]] [(5000,q8)] (.agg [kI,kI,kS]) [q8] [] []
noncomputable def aiQ:Entry:=au 247 f247 [.agg [kI,kI,kS]] vI
noncomputable def aiR:Entry:=au 279 f279 [vI,vI] (.aO [vI,vB])
noncomputable def aiS:Entry:=au 240 f240 [vI] (.agg [kI,kI,kS])
noncomputable def aiT:Entry:=au 236 f236 [.agg [kI,kI,kS]] vS
noncomputable def aiU:Entry:=au 281 f281 [vI] vS
noncomputable def EG:Entry:={f:=329,fn:=f329,ins:=[vI],bx:=[],outs:=vS,bM:=[],loops:=[],cN:=[],bG:=[.str],bW:=some primItoa}
noncomputable def aiV:Entry:=au 330 f330 [vS,vS] vS
noncomputable def aiW:Entry:=au 235 f235 [vS] vS
noncomputable def aiX:Entry:=bU 234 f234 [.one (.pb 5000 0),vI,vS,.agg [kI,kI,kS]] [(5000,q8)] (.aO []) [q8] [] []
noncomputable def aiY:Entry:=au 280 f280 [.agg q5,vI,vS,.agg [kI,kI,kS]] (.aO [.agg iF,vB])
noncomputable def aiZ:Entry:=au 282 f282 [.agg q5,vI,vS] vI
noncomputable def ajA:Entry:=bU 326 f326 [gx,.one (.fn 331 [] [.pb 5000 0,.pb 5001 0])] [(5000,[kI]),(5001,[kS])] vI [[kI],[kS]] [(0,lq [(8,vI),(0,gx),(1,.one (.fn 331 [] [.pb 5000 0,.pb 5001 0])),(7,vI)] [(5000,[kI]),(5001,[kS])] [])] []
noncomputable def ajB:Entry:=bU 331 f331 [.agg iG,.one (.pb 5000 0),.one (.pb 5001 0)] [(5000,[kI]),(5001,[kS])] vB [[kI],[kS]] [] []
noncomputable def ajC:Entry:=bU 326 f326 [gx,.one (.fn 327 [] [.pb 5000 0])] [(5000,iG)] vI [iG] [(0,lq [(8,vI),(0,gx),(1,.one (.fn 327 [] [.pb 5000 0])),(7,vI)] [(5000,iG)] [])] []
noncomputable def ajD:Entry:=bU 327 f327 [.agg iG,.one (.pb 5000 0)] [(5000,iG)] vB [iG] [] []
noncomputable def EH:Entry:={f:=328,fn:=f328,ins:=[oE,vI,oE],bx:=[],outs:=oE,bM:=[],loops:=[],cN:=[],bG:=[bN],bW:=some (rF bN)}
noncomputable def ajE:Entry:=au 237 f237 [.agg q5,vI,vS] (.agg [kI,kI,kS])
noncomputable def ajF:Entry:=au 238 f238 [.agg q5,vI,vS] (.agg iF)
noncomputable def EI:Entry:={f:=283,fn:=f283,ins:=[oE,vI,vI],bx:=[],outs:=oE,bM:=[],loops:=[],cN:=[],bG:=[bN],bW:=some (ui bN)}
noncomputable def ajG:Entry:=bU 239 f239 [.one (.pb 5000 0),vS] [(5000,q8)] (.aO []) [q8] [] []
noncomputable def ajH:Entry:=bU 210 f210 [.one (.pb 5000 0),.agg [kI,kI,kS],kj] [(5000,q8)] (.aO []) [q8] [] []
noncomputable def ajI:Entry:=au 241 f241 [vS] (.agg [kI,kI,kS])
noncomputable def ajJ:Entry:=au 243 f243 [.agg [kI,kI,kS]] vI
noncomputable def ajK:Entry:=au 285 f285 [vI] vI
noncomputable def ajL:Entry:=au 242 f242 [vS,vI] (.agg [kI,kI,kS])
noncomputable def ajM:Entry:=au 284 f284 [vS] (.agg [kI,kI,kS])
noncomputable def EJ:Entry:={f:=244,fn:=f244,ins:=[vS],bx:=[],outs:=qn,bM:=[],loops:=[],cN:=[],bG:=[cD],bW:=some primFields}
noncomputable def ajN:Entry:=au 246 f246 [vS,vS] vB
noncomputable def ajO:Entry:=au 289 f289 [.agg q9,vS] vB
noncomputable def ajP:Entry:=au 334 f334 [.agg q9] fZ
noncomputable def ajQ:Entry:=au 360 f360 [.agg q9] vB
noncomputable def ajR:Entry:=dt 385 f385 [.agg q9,vI] vB [] [21]
noncomputable def ajS:Entry:=bU 410 f410 [kO,.one (.fn 411 [] [.pb 5000 0])] [(5000,[kI])] vB [[kI]] [] []
noncomputable def ajT:Entry:=bU 427 f427 [kO,.one (.fn 411 [] [.pb 5000 0])] [(5000,[kI])] vI [[kI]] [(0,lq [(8,vI),(0,kO),(1,.one (.fn 411 [] [.pb 5000 0])),(7,vI)] [(5000,[kI])] [])] []
noncomputable def ajU:Entry:=bU 411 f411 [.agg q9,.one (.pb 5000 0)] [(5000,[kI])] vB [[kI]] [] []
noncomputable def ajV:Entry:=dt 409 f409 [.agg q9] vB [(0,lq [(7,vI),(1,.one (.pb 1 0)),(6,vI)] [(1,q9)] [1])] [4]
noncomputable def ajW:Entry:=bJ 361 f361 [fZ,.agg q9] fZ [(1,lq [(53,vI),(0,fZ),(51,kO),(52,vI)] [] [0])]
noncomputable def ajX:Entry:=bJ 386 f386 [fZ,kO] fZ [(0,lp ⟨[(18,vI),(5,eQ),(0,fZ),(16,kO),(1,kO),(17,vI)],[]⟩ ⟨[(5,eQ),(1,kO),(0,fZ)],[]⟩),(2,lq [(58,vI),(0,fZ),(56,eQ),(57,vI)] [] [0])]
noncomputable def ajY:Entry:=bJ 333 f333 [fh,vS] (.aO [vI,vI,vB]) [(0,lq [(7,vI),(1,vS),(0,fh)] [] [])]
noncomputable def ajZ:Entry:=bJ 358 f358 [fh] vB [(0,lq [(11,vI),(0,fh),(9,fh),(10,vI)] [] [])]
noncomputable def akA:Entry:=au 381 f381 [.agg yj,vI,vB] vB
noncomputable def akB:Entry:=dt 359 f359 [fh,vS,vI] vI [(0,lq [(2,vI),(1,vS),(0,fh),(7,vI),(8,eQ)] [] []),(2,lp ⟨[(51,vI),(9,eQ),(2,vI),(1,vS),(0,fh),(49,eQ),(45,vB),(44,vI),(43,.one (.al 6272)),(7,vI),(50,vI)],[]⟩ ⟨[(1,vS),(0,fh),(45,vB),(44,vI),(43,eQ),(7,vI),(2,vI),(9,eQ)],[]⟩)] [8]
noncomputable def akC:Entry:=bJ 382 f382 [fh,ew,vB,vB] eQ [(0,lq [(24,vI),(11,.one (.fn 406 [] [.pb 4 0,.pb 9 0,.pb 10 0])),(22,ew),(2,vB),(3,vB),(4,.one (.pb 4 0)),(10,.one (.pb 10 0)),(23,vI)] [(4,[uI]),(9,[rT]),(10,[je])] [11,2,3,4,10]),(2,lp ⟨[(14,vI),(11,.one (.fn 406 [] [.pb 4 0,.pb 9 0,.pb 10 0])),(2,vB),(3,vB),(4,.one (.pb 4 0)),(10,.one (.pb 10 0))],[(4,[uI]),(9,[rT]),(10,[je])]⟩ ⟨[(10,.one (.pb 10 0))],[(10,[je])]⟩)]
noncomputable def akD:Entry:=bU 406 f406 [vI,.one (.pb 5000 0),.one (.pb 5001 0),.one (.pb 5002 0)] [(5000,[uI]),(5001,[rT]),(5002,[je])] (.aO []) [[uI],[rT],[je]] [] []
noncomputable def EK:Entry:={f:=407,fn:=f407,ins:=[eQ],bx:=[],outs:=eQ,bM:=[],loops:=[],cN:=[],bG:=[bf],bW:=some primSortI,back:=some 0}
noncomputable def akE:Entry:=au 383 f383 [ew,vI] vB
noncomputable def akF:Entry:=bJ 408 f408 [ew,vI] vI [(0,lq [(8,vI),(0,ew),(1,vI),(7,vI)] [] [])]
noncomputable def akG:Entry:=au 384 f384 [.agg yj,vU] vB
noncomputable def akH:Entry:=au 245 f245 [vB] (.agg [kI,kI,kS])
noncomputable def akI:Entry:=bJ 248 f248 [vS,kj] (.agg [kI,kI,kS]) [(0,lp ⟨[(1,kj),(4,.one (.pb 4 0)),(0,vS)],[(4,[kI,kI,kS])]⟩ ⟨[(4,.one (.pb 4 0)),(1,kj),(0,vS)],[(4,[kI,kI,kS])]⟩)]
noncomputable def akJ:Entry:=dt 290 f290 [vS,vU,vU] vS [(0,lq [(14,vI),(2,vU),(1,vU),(7,ga),(12,.one (.al 896)),(13,vI)] [] [7])] [5]
noncomputable def EL:Entry:={f:=203,fn:=f203,ins:=[vS,vS],bx:=[],outs:=vI,bM:=[],loops:=[],cN:=[],bG:=[.int .i64],bW:=some primIndex}
noncomputable def akK:Entry:=au 291 f291 [vS,vI,vI] vS
noncomputable def akL:Entry:=au 249 f249 [vI,.agg [kI,kI,kS],.agg [kI,kI,kS]] (.aO [.agg [kI,kI,kS],vI])
noncomputable def akM:Entry:=au 292 f292 [vI,vI,vI] (.aO [vI,vI])
noncomputable def akN:Entry:=au 335 f335 [vI,vI] (.aO [vI,vB])
noncomputable def akO:Entry:=au 336 f336 [vI,vI] (.aO [vI,vB])
noncomputable def akP:Entry:=au 363 f363 [vI] (.one (.int .u64))
noncomputable def EM:Entry:={f:=362,fn:=f362,ins:=[.one (.int .u64),.one (.int .u64)],bx:=[],outs:=.aO [.one (.int .u64),.one (.int .u64)],bM:=[],loops:=[],cN:=[],bG:=[.int .u64,.int .u64],bW:=some primMul64}
noncomputable def akQ:Entry:=dt 364 f364 [.one (.int .u64),.one (.int .u64),.one (.int .u64)] (.aO [.one (.int .u64),.one (.int .u64)]) [(0,lp ⟨[(8,.one (.int .u64)),(2,.one (.int .u64)),(14,.one (.int .u64)),(9,.one (.int .u64)),(10,.one (.int .u64)),(13,.one (.int .u64)),(11,.one (.int .u64)),(16,.one (.int .u64)),(15,.one (.int .u64))],[]⟩ ⟨[(8,.one (.int .u64)),(2,.one (.int .u64)),(14,.one (.int .u64)),(15,.one (.int .u64)),(9,.one (.int .u64)),(10,.one (.int .u64)),(13,.one (.int .u64)),(11,.one (.int .u64))],[]⟩),(2,lp ⟨[(8,.one (.int .u64)),(2,.one (.int .u64)),(14,.one (.int .u64)),(17,.one (.int .u64)),(15,.one (.int .u64)),(9,.one (.int .u64)),(16,.one (.int .u64)),(18,.one (.int .u64)),(10,.one (.int .u64))],[]⟩ ⟨[(8,.one (.int .u64)),(2,.one (.int .u64)),(18,.one (.int .u64)),(14,.one (.int .u64)),(17,.one (.int .u64)),(15,.one (.int .u64))],[]⟩)] [24,17]
noncomputable def akR:Entry:=au 387 f387 [.one (.int .u64)] vI
noncomputable def akS:Entry:=au 412 f412 [.one (.int .u64)] vI
noncomputable def akT:Entry:=au 337 f337 [vI,vI] (.aO [vI,vB])
noncomputable def akU:Entry:=au 294 f294 [.agg [kI,kI,kS],.agg [kI,kI,kS]] vI
noncomputable def akV:Entry:=au 293 f293 [vI,vI] vB
noncomputable def akW:Entry:=bU 173 f173 [.one (.pb 5000 0),.agg q5] [(5000,q8)] (.aO [.agg iF,vS]) [[.undef,.undef,kI,kI,kS,kS,fX,kI]] [] []
noncomputable def akX:Entry:=au 72 f72 [.agg q2,.agg q4,.agg [kI,kI,kS]] (.agg q7)
noncomputable def akY:Entry:=au 126 f126 [.agg q4] (.agg q7)
noncomputable def EN:Entry:={f:=174,fn:=f174,ins:=[ew],bx:=[],outs:=eQ,bM:=[],loops:=[],cN:=[],bG:=[bf],bW:=some (gG bf)}
noncomputable def akZ:Entry:=au 127 f127 [.agg q2,.agg q5,vS] (.aO [.agg iF,vS])
noncomputable def alA:Entry:=au 30 f30 [vS,vS] vB
noncomputable def alB:Entry:=au 70 f70 [vS,vS] vB
noncomputable def alC:Entry:=au 10 f10 [.agg q0,.agg q0] vB
noncomputable def alD:Entry:=au 32 f32 [.agg q2,.agg q2] vB
noncomputable def alE:Entry:=bJ 73 f73 [fY,fY] vB [(0,lq [(5,vI),(1,fY),(0,fY)] [] [])]
noncomputable def alF:Entry:=bJ 74 f74 [cf,cf] vB [(0,lq [(5,vI),(1,cf),(0,cf)] [] [])]
noncomputable def alG:Entry:=au 128 f128 [.agg [kI,kI,kS],.agg [kI,kI,kS]] vB
noncomputable def alH:Entry:=bJ 33 f33 [kP,kP] vB [(0,lq [(5,vI),(1,kP),(0,kP)] [] [])]
noncomputable def alI:Entry:=au 75 f75 [.agg q1,.agg q1] vB
noncomputable def alJ:Entry:=au 129 f129 [.agg rU,.agg rU] vB
noncomputable def alK:Entry:=au 176 f176 [.agg mW,.agg mW] vB
noncomputable def alL:Entry:=bJ 133 f133 [iE,iE] vB [(0,lq [(5,vI),(1,iE),(0,iE)] [] [])]
noncomputable def alM:Entry:=au 179 f179 [.agg rV,.agg rV] vB
noncomputable def alN:Entry:=au 77 f77 [.agg [kI,kI,kS],.agg [kI,kI,kS]] vB
noncomputable def alO:Entry:=au 131 f131 [.agg q4,.agg q4] vB
noncomputable def alP:Entry:=au 177 f177 [.agg q5,.agg q5] vB
noncomputable def alQ:Entry:=bJ 211 f211 [cf,cf] vB [(0,lq [(5,vI),(1,cf),(0,cf)] [] [])]
noncomputable def alR:Entry:=au 250 f250 [.agg [kI,kI,kS],.agg [kI,kI,kS]] vB
noncomputable def alS:Entry:=bJ 212 f212 [gx,gx] vB [(0,lq [(5,vI),(1,gx),(0,gx)] [] [])]
noncomputable def alT:Entry:=au 251 f251 [.agg iG,.agg iG] vB
noncomputable def alU:Entry:=bJ 36 f36 [ew,ew] vB [(0,lq [(5,vI),(1,ew),(0,ew)] [] [])]
noncomputable def alV:Entry:=bJ 130 f130 [mV,mV] vB [(0,lq [(5,vI),(1,mV),(0,mV)] [] [])]
noncomputable def alW:Entry:=au 132 f132 [.agg [oC,kI],.agg [oC,kI]] vB
noncomputable def alX:Entry:=bJ 178 f178 [ql,ql] vB [(0,lq [(5,vI),(1,ql),(0,ql)] [] [])]
noncomputable def alY:Entry:=bJ 34 f34 [jf,jf] vB [(0,lq [(5,vI),(1,jf),(0,jf)] [] [])]
noncomputable def alZ:Entry:=au 76 f76 [.agg oF,.agg oF] vB
noncomputable def amA:Entry:=au 35 f35 [.agg [kI,kS],.agg [kI,kS]] vB
noncomputable def amB:Entry:=bJ 37 f37 [cf,cf] vB [(0,lq [(5,vI),(1,cf),(0,cf)] [] [])]
noncomputable def amC:Entry:=au 4 f4 [.agg q0] vB
noncomputable def amD:Entry:=dt 11 f11 [.agg q0] vB [(0,lp ⟨[(4,vI),(3,.one (.pb 3 0)),(1,.one (.pb 1 0))],[(3,q7),(1,q0)]⟩ ⟨[(1,.one (.pb 1 0))],[(1,q0)]⟩),(2,lr [(5,vI),(1,.one (.pb 1 0))] [(1,q0)] [])] [12,7]
noncomputable def amE:Entry:=dt 12 f12 [.agg q0] vB [(0,lp ⟨[(15,vI),(3,.one (.pb 3 0)),(1,.one (.pb 1 0))],[(3,q7),(1,q0)]⟩ ⟨[(1,.one (.pb 1 0))],[(1,q0)]⟩),(2,lr [(46,vI),(1,.one (.pb 1 0)),(44,cf),(45,vI)] [(1,q0)] [])] [13,7]
noncomputable def amF:Entry:=au 5 f5 [.agg q0] vB
noncomputable def amG:Entry:=dt 13 f13 [.agg q0] vB [(2,lq [(5,vI),(1,.one (.pb 1 0)),(4,.one (.pb 4 0)),(38,vB),(37,vB),(28,.agg q4),(36,.agg q7),(30,.agg q2),(35,cf),(32,cf),(34,vI),(33,.one (.pb 4 16)),(31,.one (.pb 1 11)),(29,.one (.pb 1 0)),(27,.one (.pb 4 17)),(3,vI)] [(1,q0),(4,q1)] [1,38,37,28,36,30,35,32,34,33,31,29,27,3]),(0,lr [(1,.one (.pb 1 0)),(3,vI)] [(1,q0)] [])] [7]
noncomputable def amH:Entry:=au 38 f38 [.agg q4,.agg q4] vB
noncomputable def amI:Entry:=bJ 78 f78 [.agg q4] ga [(0,lp ⟨[(5,vI),(3,.one (.pb 3 0)),(4,ga),(1,.one (.pb 1 0))],[(3,q5),(1,q4)]⟩ ⟨[(3,.one (.pb 3 0)),(1,.one (.pb 1 0)),(4,ga)],[(3,q5),(1,q4)]⟩),(2,lp ⟨[(6,vI),(3,.one (.pb 3 0)),(4,ga),(1,.one (.pb 1 0))],[(3,q5),(1,q4)]⟩ ⟨[(1,.one (.pb 1 0)),(3,.one (.pb 3 0)),(4,ga)],[(1,q4),(3,q5)]⟩),(4,lq [(7,vI),(1,.one (.pb 1 0)),(4,ga)] [(1,q4)] [1,4])]
noncomputable def amJ:Entry:=bJ 134 f134 [vI] ga [(0,lq [(0,vI),(3,ga)] [] [0,3])]
noncomputable def amK:Entry:=au 135 f135 [.agg [kI,kI,kS]] ga
noncomputable def amL:Entry:=au 180 f180 [vI] ga
noncomputable def amM:Entry:=au 136 f136 [vS] ga
noncomputable def amN:Entry:=dt 14 f14 [.agg q0] vB [(2,lq [(6,vI),(1,.one (.pb 1 0)),(5,vI),(4,.one (.pb 4 0)),(35,vB),(34,vB),(25,.agg q4),(33,.agg q7),(27,.agg q2),(32,cf),(29,cf),(31,vI),(30,.one (.pb 4 16)),(28,.one (.pb 1 11)),(26,.one (.pb 1 0)),(24,.one (.pb 4 17)),(11,kP),(12,vI),(13,vI)] [(1,q0),(4,q1)] [1,35,34,25,33,27,32,29,31,30,28,26,24,11,12,13]),(0,lr [(1,.one (.pb 1 0)),(13,vI),(11,kP),(12,vI)] [(1,q0)] [])] [6]
noncomputable def amO:Entry:=au 39 f39 [.agg q4,.agg q4] vB
noncomputable def amP:Entry:=bJ 79 f79 [cf,cf] vB [(0,lq [(13,vI),(1,cf),(0,cf),(12,vI)] [] [])]
noncomputable def amQ:Entry:=bJ 80 f80 [gx,gx] vB [(0,lq [(13,vI),(1,gx),(0,gx),(12,vI)] [] [])]
noncomputable def amR:Entry:=bJ 81 f81 [ew,ew] vB [(0,lq [(13,vI),(1,ew),(0,ew),(12,vI)] [] [])]
noncomputable def EO:List Entry:=[OG,Zx,Zy,Zz,ZA,ZB,ZC,ZD,ZE,ZF,ZG,ZH,ZI,ZJ,ZK,ZL,ZM,ZN,ZO,ZP,ZQ,ZR,ZS,ZT,ZU,ZV,ZW,ZX,ZY,ZZ,aaA,aaB,aaC,aaD,aaE,aaF,aaG,aaH,aaI,aaJ]
noncomputable def EP:List Entry:=[aaK,aaL,aaM,aaN,aaO,aaP,aaQ,aaR,aaS,aaT,aaU,aaV,aaW,aaX,aaY,aaZ,abA,abB,abC,abD,abE,abF,abG,abH,abI,abJ,abK,abL,abM,abN,abO,abP,abQ,abR,abS,abT,abU,abV,abW,abX]
noncomputable def ER:List Entry:=[abY,abZ,acA,acB,acC,acD,acE,acF,acG,acH,acI,acJ,acK,acL,acM,acN,acO,acP,acQ,acR,acS,acT,acU,acV,acW,acX,acY,acZ,adA,adB,adC,adD,adE,adF,adG,adH,adI,adJ,adK,adL]
noncomputable def ES:List Entry:=[adM,adN,adO,adP,adQ,adR,adS,adT,adU,adV,adW,adX,adY,adZ,aeA,aeB,aeC,aeD,aeE,aeF,aeG,aeH,aeI,aeJ,aeK,aeL,aeM,aeN,aeO,aeP,aeQ,aeR,aeS,aeT,aeU,aeV,aeW,aeX,aeY,aeZ]
noncomputable def ET:List Entry:=[afA,afB,afC,afD,afE,afF,afG,afH,afI,afJ,afK,afL,afM,afN,afO,afP,afQ,afR,afS,afT,afU,afV,afW,afX,afY,afZ,agA,agB,agC,agD,agE,agF,EA,agG,agH,agI,agJ,agK,agL,agM]
noncomputable def EU:List Entry:=[agN,agO,agP,agQ,EB,agR,agS,agT,agU,agV,agW,agX,agY,agZ,ahA,ahB,ahC,EC,ahD,ahE,ahF,ahG,ED,ahH,ahI,ahJ,ahK,ahL,ahM,ahN,ahO,ahP,ahQ,ahR,ahS,ahT,ahU,ahV,ahW,ahX]
noncomputable def EV:List Entry:=[ahY,ahZ,aiA,aiB,aiC,aiD,aiE,aiF,aiG,aiH,EE,EF,aiI,aiJ,aiK,aiL,aiM,aiN,aiO,aiP,aiQ,aiR,aiS,aiT,aiU,EG,aiV,aiW,aiX,aiY,aiZ,ajA,ajB,ajC,ajD,EH,ajE,ajF,EI,ajG]
noncomputable def EW:List Entry:=[ajH,ajI,ajJ,ajK,ajL,ajM,EJ,ajN,ajO,ajP,ajQ,ajR,ajS,ajT,ajU,ajV,ajW,ajX,ajY,ajZ,akA,akB,akC,akD,EK,akE,akF,akG,akH,akI,akJ,EL,akK,akL,akM,akN,akO,akP,EM,akQ]
noncomputable def EX:List Entry:=[akR,akS,akT,akU,akV,akW,akX,akY,EN,akZ,alA,alB,alC,alD,alE,alF,alG,alH,alI,alJ,alK,alL,alM,alN,alO,alP,alQ,alR,alS,alT,alU,alV,alW,alX,alY,alZ,amA,amB,amC,amD]
noncomputable def EY:List Entry:=[amE,amF,amG,amH,amI,amJ,amK,amL,amM,amN,amO,amP,amQ,amR]
noncomputable def EZ:List Entry:=EO++EP++ER++ES++ET++EU++EV++EW++EX++EY
noncomputable def tab (e:Nat):Entry:=uc EZ OG e
def amS:List (FuncId×List Nat):=[(3,[0]),(4,[358]),(5,[361]),(6,[1]),(7,[53]),(8,[27]),(9,[161]),(10,[332]),(11,[359]),(12,[360]),(13,[362]),(14,[369]),(15,[2]),(16,[6]),(17,[23]),(18,[25]),(19,[19]),(20,[26]),(21,[54]),(22,[92]),(23,[28]),(24,[32]),(25,[49]),(26,[51]),(27,[45]),(28,[52]),(29,[162]),(30,[330]),(31,[245]),(32,[333]),(33,[337]),(34,[354]),(35,[356]),(36,[350]),(37,[357]),(38,[363]),(39,[370]),(40,[3]),(41,[4]),(42,[7]),(43,[24]),(44,[12]),(45,[55]),(46,[58]),(47,[74]),(48,[75]),(49,[76]),(50,[89]),(51,[80]),(52,[93]),(53,[157]),(54,[29]),(55,[30]),(56,[33]),(57,[50]),(58,[38]),(59,[163]),(60,[166]),(61,[195]),(62,[197]),(63,[231,239]),(64,[241]),(65,[234]),(66,[226]),(67,[242]),(68,[244]),(69,[202]),(70,[331]),(71,[246]),(72,[326]),(73,[334]),(74,[335]),(75,[338]),(76,[355]),(77,[343]),(78,[364]),(79,[371]),(80,[372]),(81,[373]),(82,[5]),(83,[8]),(84,[20]),(85,[13]),(86,[21]),(87,[10]),(88,[56]),(89,[60]),(90,[62]),(91,[77]),(92,[78]),(93,[82]),(94,[91]),(95,[90]),(96,[81]),(97,[94]),(98,[95]),(99,[158]),(100,[159]),(101,[31]),(102,[34]),(103,[46]),(104,[39]),(105,[47]),(106,[36]),(107,[164]),(108,[173]),(109,[175]),(110,[171]),(111,[176]),(112,[196]),(113,[198]),(114,[199]),(115,[205]),(116,[230]),(117,[233]),(118,[232,240]),(119,[235]),(120,[223,227]),(121,[229]),(122,[243]),(123,[203]),(124,[247]),(125,[248]),(126,[327]),(127,[329]),(128,[336]),(129,[339]),(130,[351]),(131,[344]),(132,[352]),(133,[341]),(134,[365]),(135,[366]),(136,[368]),(137,[9]),(138,[14]),(139,[22]),(140,[11]),(141,[57]),(142,[59]),(143,[63]),(144,[79]),(145,[83]),(146,[97]),(147,[98]),(148,[156]),(149,[73]),(150,[96]),(151,[160]),(152,[99]),(153,[35]),(154,[40]),(155,[48]),(156,[37]),(157,[165]),(158,[174]),(159,[172]),(160,[177]),(161,[179]),(162,[180]),(163,[200]),(164,[201]),(165,[206]),(166,[225]),(167,[236]),(168,[238]),(169,[224,228]),(170,[204]),(171,[249]),(172,[252]),(173,[325]),(174,[328]),(175,[253]),(176,[340]),(177,[345]),(178,[353]),(179,[342]),(180,[367]),(181,[15]),(182,[17]),(183,[61]),(184,[64]),(185,[65]),(186,[84]),(187,[88]),(188,[100]),(189,[41]),(190,[43]),(191,[167]),(192,[169]),(193,[178]),(194,[181]),(195,[182]),(196,[183]),(197,[170]),(198,[207]),(199,[209]),(200,[210]),(201,[221]),(202,[237]),(203,[311]),(204,[250]),(205,[251]),(206,[255]),(207,[254]),(208,[256]),(209,[257]),(210,[280]),(211,[346]),(212,[348]),(213,[16]),(214,[18]),(215,[66]),(216,[72]),(217,[85]),(218,[101]),(219,[102]),(220,[103]),(221,[104]),(222,[108]),(223,[124]),(224,[42]),(225,[44]),(226,[168]),(227,[184]),(228,[208]),(229,[211]),(230,[222]),(232,[258]),(233,[259]),(234,[268]),(235,[267]),(236,[263]),(237,[276]),(238,[277]),(239,[279]),(240,[262]),(241,[281]),(242,[284]),(243,[282]),(244,[286]),(245,[308]),(246,[287]),(247,[260]),(248,[309]),(249,[313]),(250,[347]),(251,[349]),(252,[67]),(253,[70]),(254,[86]),(255,[105]),(256,[109]),(257,[111]),(258,[110]),(259,[119]),(260,[118]),(261,[121]),(262,[123]),(263,[114]),(264,[125]),(265,[127]),(266,[128]),(267,[146]),(268,[148]),(269,[154]),(270,[185]),(271,[194]),(272,[212]),(273,[219]),(279,[261]),(280,[269]),(281,[264]),(282,[270]),(283,[278]),(284,[285]),(285,[283]),(289,[288]),(290,[310]),(291,[312]),(292,[314]),(293,[324]),(294,[323]),(295,[68]),(296,[87]),(297,[106]),(298,[107]),(299,[112]),(300,[115]),(301,[116]),(302,[117]),(303,[120]),(304,[122]),(305,[126]),(306,[129]),(307,[147]),(308,[149]),(309,[155]),(310,[186]),(311,[190]),(312,[213]),(313,[215]),(314,[216]),(315,[214]),(316,[220]),(325,[218]),(326,[271,273]),(327,[274]),(328,[275]),(329,[265]),(330,[266]),(331,[272]),(333,[298]),(334,[289]),(335,[315]),(336,[316]),(337,[322]),(338,[69]),(339,[113]),(340,[137]),(341,[130]),(342,[150]),(343,[151]),(344,[152]),(345,[153]),(346,[187]),(347,[188]),(348,[217]),(358,[299]),(359,[301]),(360,[290]),(361,[296]),(362,[318]),(363,[317]),(364,[319]),(365,[71]),(366,[138]),(367,[131]),(368,[135]),(369,[134]),(370,[189]),(371,[193]),(381,[300]),(382,[302]),(383,[305]),(384,[307]),(385,[291]),(386,[297]),(387,[320]),(388,[139]),(389,[141]),(390,[144]),(391,[132]),(392,[136]),(393,[191]),(399,[192]),(406,[303]),(407,[304]),(408,[306]),(409,[295]),(410,[292]),(411,[294]),(412,[321]),(413,[140]),(414,[142]),(415,[143]),(416,[145]),(417,[133]),(427,[293])]
def gV (f:FuncId):List Nat:=MK f amS
noncomputable def cF (e n:Nat):xO (MZ (tab e)) (Option (bL (tab e).bG)):=cur (MZ (tab e)) (D T tab gV n e)
noncomputable def cL (e id n m:Nat):xO (MY (xQ id (tab e).loops).1) (Option (Sum (bL (xQ id (tab e).loops).2.2) (bL (tab e).bG))):=cur _ (Yb T (pI tab gV (D T tab gV n)) (tab e) n id (xQ id (tab e).loops) m)
abbrev yk:Nat:=0
theorem OH:dG prog EO:=dG.of (by kernel_rfl) (by kernel_rfl)
theorem amT:dG prog EP:=dG.of (by kernel_rfl) (by kernel_rfl)
theorem amU:dG prog ER:=dG.of (by kernel_rfl) (by kernel_rfl)
theorem amV:dG prog ES:=dG.of (by kernel_rfl) (by kernel_rfl)
theorem amW:dG prog ET:=dG.of (by kernel_rfl) (by kernel_rfl)
theorem amX:dG prog EU:=dG.of (by kernel_rfl) (by kernel_rfl)
theorem amY:dG prog EV:=dG.of (by kernel_rfl) (by kernel_rfl)
theorem amZ:dG prog EW:=dG.of (by kernel_rfl) (by kernel_rfl)
theorem anA:dG prog EX:=dG.of (by kernel_rfl) (by kernel_rfl)
theorem anB:dG prog EY:=dG.of (by kernel_rfl) (by kernel_rfl)
theorem anC:ub prog eM=true:=by kernel_rfl
theorem anD:dG prog EZ:=((((((((OH.app amT).app amU).app amV).app amW).app amX).app amY).app amZ).app anA).app anB
end Go.Proofs.YtfpfjmahdneehaaGreatDoor
