/- Entries of the functions, and the closed facts about them. -/
import Derived.Test.YtfpfjmahdneehaaGreatDoorEv4
import Derived.Test.YtfpfjmahdneehaaGreatDoorProg
import Derived.KernelRfl
namespace Go.Proofs.YtfpfjmahdneehaaGreatDoor
open Go Go.Ev Go.Proofs.Tryz
@[reducible] def cE:CT:=(.sl (.one .str))
@[reducible] def ia:CT:=(.sl (.one .bool))
@[reducible] def eY:CT:=(.sl (.one (.int .u8)))
@[reducible] def bh:CT:=(.sl (.one (.int .i64)))
@[reducible] def aL:CT:=(.sl (.cons (.int .i64) (.cons (.int .i64) (.one .str))))
@[reducible] def qk:CT:=(.tree (.cons (.int .i64) (.cons (.int .i64) (.cons .str (.one .bool)))))
@[reducible] def cY:CT:=(.sl (.cons (.int .i64) (.cons (.int .i64) (.cons (.int .i64) (.one .str)))))
@[reducible] def bP:CT:=(.sl (.cons (.int .i64) (.cons .str (.cons (.int .i64) (.cons (.int .i64) (.one .str))))))
@[reducible] def EC:CT:=(.sl (.cons (.int .i64) (.cons (.int .i64) (.cons .str (.cons .bool (.cons (.int .i64) (.one (.int .i64))))))))
@[reducible] def ej:CT:=(.sl (.cons (.int .i64) (.cons (.int .i64) (.cons (.int .i64) (.cons (.int .i64) (.cons (.int .i64) (.cons (.int .i64) (.cons (.int .i64) (.cons cY (.cons .bool (.one .str)))))))))))
@[reducible] def fz:CT:=(.sl (.cons (.int .i64) (.cons (.int .i64) (.cons (.int .i64) (.cons (.int .i64) (.cons (.int .i64) (.cons cY (.cons aL (.cons bP (.cons (.int .i64) (.cons (.int .i64) (.cons bh (.cons .str (.cons (.int .i64) (.cons ia (.cons bh (.cons bh (.cons (.int .i64) (.cons aL (.cons bP (.cons (.int .i64) (.cons (.int .i64) (.cons bh (.cons .str (.cons eY (.cons (.int .i64) (.one ej)))))))))))))))))))))))))))
abbrev ah:Type:=List Int
abbrev ch:Type:=List Bool
abbrev af:Type:=List O
abbrev bY:Type:=List UInt8
abbrev eA:Type:=Int×(Int×O)
abbrev ae:Type:=List eA
abbrev OD:Type:=Int×eA
abbrev OE:Type:=Int×(Int×O×Bool)
abbrev aZ:Type:=List OD
abbrev rS:Type:=Int×(O×eA)
abbrev aT:Type:=List (RT OE)
abbrev ai:Type:=List rS
abbrev Zy:Type:=Int×(Int×O×Bool×Int×Int)
abbrev bZ:Type:=List Zy
abbrev ED:Type:=Int×(Int×Int×Int×Int×Int×Int×aZ×Bool×O)
abbrev bn:Type:=List ED
abbrev ql:Type:=Int×(Int×Int×Int×Int×aZ×ae×ai×Int×Int×ah×O×Int×ch×ah×ah×Int×ae×ai×Int×Int×ah×O×bY×Int×bn)
abbrev cj:Type:=List ql
def fO (xs:aT) (i:Int):Option (Int×Int×O×Bool×aT):=pz qk xs i
def lS (xs:aT) (i:Nat):Option (Int×Int×O×Bool×aT):=jO qk xs i
def kO (e:Int×Int×O×Bool×aT):RT OE:=tw (Yh qk) e
@[reducible] def kI:CK:=.int .i64
@[reducible] def kU:CK:=.int .u8
@[reducible] def kB:CK:=.bool
@[reducible] def kS:CK:=.str
@[reducible] def vI:bk:=.one kI
@[reducible] def vU:bk:=.one kU
@[reducible] def vB:bk:=.one kB
@[reducible] def vS:bk:=.one kS
@[reducible] def OG:CK:=.sh qk
@[reducible] def OH:CK:=.sh ia
@[reducible] def mX:CK:=.sh bh
@[reducible] def uJ:CK:=.sh cY
@[reducible] def gy:CK:=.sh aL
@[reducible] def uK:CK:=.sh EC
@[reducible] def rT:CK:=.sh bP
@[reducible] def EE:CK:=.sh ej
@[reducible] def OI:CK:=.sh fz
@[reducible] def uL:CK:=.sh cE
@[reducible] def oC:CK:=.sh eY
@[reducible] def OJ:CK:=.own qk
@[reducible] def rU:CK:=.own ia
@[reducible] def jf:CK:=.own bh
@[reducible] def uM:CK:=.own cY
@[reducible] def fZ:CK:=.own aL
@[reducible] def Zz:CK:=.own EC
@[reducible] def oD:CK:=.own bP
@[reducible] def EF:CK:=.own ej
@[reducible] def OK:CK:=.own fz
@[reducible] def kP:CK:=.own cE
@[reducible] def EG:CK:=.own eY
@[reducible] def kQ:bk:=.one OG
@[reducible] def mY:bk:=.one OH
@[reducible] def eB:bk:=.one mX
@[reducible] def iE:bk:=.one uJ
@[reducible] def cg:bk:=.one gy
@[reducible] def fi:bk:=.one uK
@[reducible] def gz:bk:=.one rT
@[reducible] def jg:bk:=.one EE
@[reducible] def kR:bk:=.one OI
@[reducible] def ga:bk:=.one uL
@[reducible] def qm:bk:=.one oC
@[reducible] def qn:bk:=.one OJ
@[reducible] def jh:bk:=.one rU
@[reducible] def eQ:bk:=.one jf
@[reducible] def OL:bk:=.one uM
@[reducible] def kn:bk:=.one fZ
@[reducible] def gb:bk:=.one Zz
@[reducible] def oE:bk:=.one oD
@[reducible] def OM:bk:=.one EF
@[reducible] def OO:bk:=.one OK
@[reducible] def qo:bk:=.one kP
@[reducible] def gf:bk:=.one EG
@[reducible] def q0:List CK:=[uL,uL,gy,gy,kI,OI,EE,kI,kS,mX,mX,gy]
@[reducible] def q1:List CK:=[kI,kI,kI,kI,kI,uJ,gy,rT,kI,kI,mX,kS,kI,OH,mX,mX,kI,gy,rT,kI,kI,mX,kS,oC,kI,EE]
@[reducible] def q2:List CK:=[uL,uL,gy,gy]
@[reducible] def q3:List CK:=[fZ,oD,kI,kI,kP,kP,kS,kP,kS,kI,kB]
@[reducible] def q4:List CK:=[gy,rT,kI,kI,mX,kS]
@[reducible] def q5:List CK:=[gy,rT,kI,kI]
@[reducible] def q6:List CK:=[kI,kI,kS,kB,.nl]
@[reducible] def q7:List CK:=[fZ,oD,kI,kI,jf,kS]
@[reducible] def q8:List CK:=[fZ,oD,kI,kI,kS,kS,fZ,kI]
@[reducible] def q9:List CK:=[kI,kI,kS,kB,OG]
@[reducible] def iF:List CK:=[fZ,oD,kI,kI]
@[reducible] def oF:List CK:=[kI,kI,kI,kI,kI,kI,kI,uJ,kB,kS]
@[reducible] def rV:List CK:=[kI,kI,kI,kI,uJ,gy,rT,kI,kI,mX,kS]
@[reducible] def kq:List CK:=[kI,kI,kS,kB,OJ]
@[reducible] def iG:List CK:=[kI,kS,kI,kI,kS]
@[reducible] def mZ:List CK:=[kI,kI,uJ]
@[reducible] def yt:List CK:=[.nl,.nl,kI,kI,.nl,kS]
@[reducible] def lT:List CK:=[.pb 5001 0,fZ]
@[reducible] def rW:List CK:=[kI,kI,kI,kS]
@[reducible] def yu:List CK:=[kI,kI,kS,kB,kI,kI]
def eM:List (TypeId×TyI):=[
 (3,⟨.int .i64,1,8,[.i .i64 0],some (.one (.int .i64)),false⟩),
 (4,⟨.bool,1,1,[.b false],some (.one .bool),false⟩),
 (5,⟨.int .u8,1,1,[.i .u8 0],some (.one (.int .u8)),false⟩),
 (9,⟨.str,1,16,[.s []],some (.one .str),false⟩),
 (22,⟨.slice 9,1,24,[.nl],some (.one cE),false⟩),
 (23,⟨.slice 146,1,24,[.nl],some (.one aL),false⟩),
 (25,⟨.struct [(0,22),(1,22),(2,23),(3,23)],4,96,[.nl,.nl,.nl,.nl],some (.cons cE (.cons cE (.cons aL (.one aL)))),false⟩),
 (26,⟨.slice 106,1,24,[.nl],some (.one fz),false⟩),
 (27,⟨.slice 109,1,24,[.nl],some (.one ej),false⟩),
 (29,⟨.struct [(0,3),(1,9)],2,24,[.i .i64 0,.s []],some (.cons (.int .i64) (.one .str)),true⟩),
 (30,⟨.slice 3,1,24,[.nl],some (.one bh),false⟩),
 (31,⟨.slice 111,1,24,[.nl],some (.one aL),false⟩),
 (33,⟨.struct [(0,25),(4,3),(5,26),(6,27),(7,29),(9,30),(10,30),(11,31)],12,248,[.nl,.nl,.nl,.nl,.i .i64 0,.nl,.nl,.i .i64 0,.s [],.nl,.nl,.nl],some (.cons cE (.cons cE (.cons aL (.cons aL (.cons (.int .i64) (.cons fz (.cons ej (.cons (.int .i64) (.cons .str (.cons bh (.cons bh (.one aL)))))))))))),false⟩),
 (36,⟨.slice 166,1,24,[.nl],some (.one aL),false⟩),
 (38,⟨.struct [(0,22),(1,22),(2,36),(3,36)],4,96,[.nl,.nl,.nl,.nl],some (.cons cE (.cons cE (.cons aL (.one aL)))),false⟩),
 (39,⟨.slice 86,1,24,[.nl],some (.one fz),false⟩),
 (40,⟨.slice 119,1,24,[.nl],some (.one ej),false⟩),
 (41,⟨.struct [(0,3),(1,9)],2,24,[.i .i64 0,.s []],some (.cons (.int .i64) (.one .str)),true⟩),
 (42,⟨.slice 75,1,24,[.nl],some (.one aL),false⟩),
 (44,⟨.struct [(0,38),(4,3),(5,39),(6,40),(7,41),(9,30),(10,30),(11,42)],12,248,[.nl,.nl,.nl,.nl,.i .i64 0,.nl,.nl,.i .i64 0,.s [],.nl,.nl,.nl],some (.cons cE (.cons cE (.cons aL (.cons aL (.cons (.int .i64) (.cons fz (.cons ej (.cons (.int .i64) (.cons .str (.cons bh (.cons bh (.one aL)))))))))))),false⟩),
 (54,⟨.slice 140,1,24,[.nl],some (.one aL),false⟩),
 (55,⟨.slice 143,1,24,[.nl],some (.one bP),false⟩),
 (57,⟨.struct [(0,54),(1,55),(2,3),(3,3)],4,64,[.nl,.nl,.i .i64 0,.i .i64 0],some (.cons aL (.cons bP (.cons (.int .i64) (.one (.int .i64))))),false⟩),
 (59,⟨.struct [(0,57),(4,30),(5,9)],6,104,[.nl,.nl,.i .i64 0,.i .i64 0,.nl,.s []],some (.cons aL (.cons bP (.cons (.int .i64) (.cons (.int .i64) (.cons bh (.one .str)))))),false⟩),
 (75,⟨.struct [(0,3),(1,3),(2,9)],3,32,[.i .i64 0,.i .i64 0,.s []],some (.cons (.int .i64) (.cons (.int .i64) (.one .str))),true⟩),
 (76,⟨.slice 89,1,24,[.nl],some (.one cY),false⟩),
 (78,⟨.struct [(0,3),(1,3),(2,76)],3,40,[.i .i64 0,.i .i64 0,.nl],some (.cons (.int .i64) (.cons (.int .i64) (.one cY))),false⟩),
 (80,⟨.struct [(0,3),(1,3),(2,78),(5,59)],11,160,[.i .i64 0,.i .i64 0,.i .i64 0,.i .i64 0,.nl,.nl,.nl,.i .i64 0,.i .i64 0,.nl,.s []],some (.cons (.int .i64) (.cons (.int .i64) (.cons (.int .i64) (.cons (.int .i64) (.cons cY (.cons aL (.cons bP (.cons (.int .i64) (.cons (.int .i64) (.cons bh (.one .str))))))))))),false⟩),
 (81,⟨.slice 4,1,24,[.nl],some (.one ia),false⟩),
 (82,⟨.slice 5,1,24,[.nl],some (.one eY),false⟩),
 (84,⟨.struct [(0,82),(1,3)],2,32,[.nl,.i .i64 0],some (.cons eY (.one (.int .i64))),false⟩),
 (86,⟨.struct [(0,3),(1,80),(12,3),(13,81),(14,30),(15,30),(16,3),(17,59),(23,84),(25,40)],26,416,[.i .i64 0,.i .i64 0,.i .i64 0,.i .i64 0,.i .i64 0,.nl,.nl,.nl,.i .i64 0,.i .i64 0,.nl,.s [],.i .i64 0,.nl,.nl,.nl,.i .i64 0,.nl,.nl,.i .i64 0,.i .i64 0,.nl,.s [],.nl,.i .i64 0,.nl],some (.cons (.int .i64) (.cons (.int .i64) (.cons (.int .i64) (.cons (.int .i64) (.cons (.int .i64) (.cons cY (.cons aL (.cons bP (.cons (.int .i64) (.cons (.int .i64) (.cons bh (.cons .str (.cons (.int .i64) (.cons ia (.cons bh (.cons bh (.cons (.int .i64) (.cons aL (.cons bP (.cons (.int .i64) (.cons (.int .i64) (.cons bh (.cons .str (.cons eY (.cons (.int .i64) (.one ej)))))))))))))))))))))))))),false⟩),
 (89,⟨.struct [(0,3),(1,75)],4,40,[.i .i64 0,.i .i64 0,.i .i64 0,.s []],some (.cons (.int .i64) (.cons (.int .i64) (.cons (.int .i64) (.one .str)))),true⟩),
 (93,⟨.slice 192,1,24,[.nl],some (.one cY),false⟩),
 (95,⟨.struct [(0,3),(1,3),(2,93)],3,40,[.i .i64 0,.i .i64 0,.nl],some (.cons (.int .i64) (.cons (.int .i64) (.one cY))),false⟩),
 (96,⟨.slice 258,1,24,[.nl],some (.one aL),false⟩),
 (97,⟨.slice 261,1,24,[.nl],some (.one bP),false⟩),
 (99,⟨.struct [(0,96),(1,97),(2,3),(3,3)],4,64,[.nl,.nl,.i .i64 0,.i .i64 0],some (.cons aL (.cons bP (.cons (.int .i64) (.one (.int .i64))))),false⟩),
 (101,⟨.struct [(0,99),(4,30),(5,9)],6,104,[.nl,.nl,.i .i64 0,.i .i64 0,.nl,.s []],some (.cons aL (.cons bP (.cons (.int .i64) (.cons (.int .i64) (.cons bh (.one .str)))))),false⟩),
 (103,⟨.struct [(0,3),(1,3),(2,95),(5,101)],11,160,[.i .i64 0,.i .i64 0,.i .i64 0,.i .i64 0,.nl,.nl,.nl,.i .i64 0,.i .i64 0,.nl,.s []],some (.cons (.int .i64) (.cons (.int .i64) (.cons (.int .i64) (.cons (.int .i64) (.cons cY (.cons aL (.cons bP (.cons (.int .i64) (.cons (.int .i64) (.cons bh (.one .str))))))))))),false⟩),
 (104,⟨.struct [(0,82),(1,3)],2,32,[.nl,.i .i64 0],some (.cons eY (.one (.int .i64))),false⟩),
 (106,⟨.struct [(0,3),(1,103),(12,3),(13,81),(14,30),(15,30),(16,3),(17,101),(23,104),(25,27)],26,416,[.i .i64 0,.i .i64 0,.i .i64 0,.i .i64 0,.i .i64 0,.nl,.nl,.nl,.i .i64 0,.i .i64 0,.nl,.s [],.i .i64 0,.nl,.nl,.nl,.i .i64 0,.nl,.nl,.i .i64 0,.i .i64 0,.nl,.s [],.nl,.i .i64 0,.nl],some (.cons (.int .i64) (.cons (.int .i64) (.cons (.int .i64) (.cons (.int .i64) (.cons (.int .i64) (.cons cY (.cons aL (.cons bP (.cons (.int .i64) (.cons (.int .i64) (.cons bh (.cons .str (.cons (.int .i64) (.cons ia (.cons bh (.cons bh (.cons (.int .i64) (.cons aL (.cons bP (.cons (.int .i64) (.cons (.int .i64) (.cons bh (.cons .str (.cons eY (.cons (.int .i64) (.one ej)))))))))))))))))))))))))),false⟩),
 (109,⟨.struct [(0,3),(1,3),(2,3),(3,3),(4,3),(5,3),(6,3),(7,93),(8,4),(9,9)],10,104,[.i .i64 0,.i .i64 0,.i .i64 0,.i .i64 0,.i .i64 0,.i .i64 0,.i .i64 0,.nl,.b false,.s []],some (.cons (.int .i64) (.cons (.int .i64) (.cons (.int .i64) (.cons (.int .i64) (.cons (.int .i64) (.cons (.int .i64) (.cons (.int .i64) (.cons cY (.cons .bool (.one .str)))))))))),false⟩),
 (111,⟨.struct [(0,3),(1,3),(2,9)],3,32,[.i .i64 0,.i .i64 0,.s []],some (.cons (.int .i64) (.cons (.int .i64) (.one .str))),true⟩),
 (119,⟨.struct [(0,3),(1,3),(2,3),(3,3),(4,3),(5,3),(6,3),(7,76),(8,4),(9,9)],10,104,[.i .i64 0,.i .i64 0,.i .i64 0,.i .i64 0,.i .i64 0,.i .i64 0,.i .i64 0,.nl,.b false,.s []],some (.cons (.int .i64) (.cons (.int .i64) (.cons (.int .i64) (.cons (.int .i64) (.cons (.int .i64) (.cons (.int .i64) (.cons (.int .i64) (.cons cY (.cons .bool (.one .str)))))))))),false⟩),
 (140,⟨.struct [(0,3),(1,3),(2,9)],3,32,[.i .i64 0,.i .i64 0,.s []],some (.cons (.int .i64) (.cons (.int .i64) (.one .str))),true⟩),
 (143,⟨.struct [(0,3),(1,9),(2,140)],5,56,[.i .i64 0,.s [],.i .i64 0,.i .i64 0,.s []],some (.cons (.int .i64) (.cons .str (.cons (.int .i64) (.cons (.int .i64) (.one .str))))),true⟩),
 (146,⟨.struct [(0,3),(1,3),(2,9)],3,32,[.i .i64 0,.i .i64 0,.s []],some (.cons (.int .i64) (.cons (.int .i64) (.one .str))),true⟩),
 (166,⟨.struct [(0,3),(1,3),(2,9)],3,32,[.i .i64 0,.i .i64 0,.s []],some (.cons (.int .i64) (.cons (.int .i64) (.one .str))),true⟩),
 (192,⟨.struct [(0,3),(1,111)],4,40,[.i .i64 0,.i .i64 0,.i .i64 0,.s []],some (.cons (.int .i64) (.cons (.int .i64) (.cons (.int .i64) (.one .str)))),true⟩),
 (197,⟨.ptr,1,8,[.eT],none,false⟩),
 (200,⟨.struct [(0,57),(4,22),(5,22),(6,9),(7,22),(8,9),(9,3),(10,4)],11,184,[.nl,.nl,.i .i64 0,.i .i64 0,.nl,.nl,.s [],.nl,.s [],.i .i64 0,.b false],some (.cons aL (.cons bP (.cons (.int .i64) (.cons (.int .i64) (.cons cE (.cons cE (.cons .str (.cons cE (.cons .str (.cons (.int .i64) (.one .bool))))))))))),false⟩),
 (219,⟨.struct [(0,57),(4,9),(5,9),(6,54),(7,3)],8,128,[.nl,.nl,.i .i64 0,.i .i64 0,.s [],.s [],.nl,.i .i64 0],some (.cons aL (.cons bP (.cons (.int .i64) (.cons (.int .i64) (.cons .str (.cons .str (.cons aL (.one (.int .i64))))))))),false⟩),
 (230,⟨.slice 232,1,24,[.nl],some (.one qk),false⟩),
 (232,⟨.struct [(0,3),(1,3),(2,9),(3,4),(4,230)],5,64,[.i .i64 0,.i .i64 0,.s [],.b false,.nl],some (.cons (.int .i64) (.cons (.int .i64) (.cons .str (.cons .bool (.one qk))))),false⟩),
 (239,⟨.struct [(0,197),(1,54)],2,32,[.eT,.nl],none,false⟩),
 (258,⟨.struct [(0,3),(1,3),(2,9)],3,32,[.i .i64 0,.i .i64 0,.s []],some (.cons (.int .i64) (.cons (.int .i64) (.one .str))),true⟩),
 (261,⟨.struct [(0,3),(1,9),(2,258)],5,56,[.i .i64 0,.s [],.i .i64 0,.i .i64 0,.s []],some (.cons (.int .i64) (.cons .str (.cons (.int .i64) (.cons (.int .i64) (.one .str))))),true⟩),
 (264,⟨.struct [(0,9),(1,3),(2,4)],3,32,[.s [],.i .i64 0,.b false],some (.cons .str (.cons (.int .i64) (.one .bool))),true⟩),
 (303,⟨.struct [(0,9),(1,4)],2,24,[.s [],.b false],some (.cons .str (.one .bool)),true⟩),
 (308,⟨.int .u64,1,8,[.i .u64 0],some (.one (.int .u64)),false⟩),
 (341,⟨.slice 360,1,24,[.nl],some (.one EC),false⟩),
 (347,⟨.iface,1,16,[.er false],none,false⟩),
 (360,⟨.struct [(0,3),(1,3),(2,9),(3,4),(4,3),(5,3)],6,56,[.i .i64 0,.i .i64 0,.s [],.b false,.i .i64 0,.i .i64 0],some (.cons (.int .i64) (.cons (.int .i64) (.cons .str (.cons .bool (.cons (.int .i64) (.one (.int .i64))))))),true⟩),
 (361,⟨.int .u64,1,8,[.i .u64 0],some (.one (.int .u64)),false⟩)]
def T (t:TypeId):Option TyI:=rD t eM
noncomputable def OP:Entry:=aw 3 f3 [.agg q0] vB
noncomputable def ZA:Entry:=aw 6 f6 [.agg q0,vI] vI
noncomputable def ZB:Entry:=aw 15 f15 [.agg q2,vI] vI
noncomputable def ZC:Entry:=bK 40 f40 [ga,vI] vI [(0,lq [(5,vI),(0,ga),(1,vI)] [] [1])]
noncomputable def ZD:Entry:=bK 41 f41 [cg,vI] vI [(0,lq [(5,vI),(1,vI),(0,cg)] [] [1])]
noncomputable def ZE:Entry:=aw 82 f82 [.agg [kI,kI,kS],vI] vI
noncomputable def ZF:Entry:=bK 16 f16 [kR,vI] vI [(0,lq [(5,vI),(1,vI),(0,kR)] [] [1])]
noncomputable def ZG:Entry:=aw 42 f42 [.agg q1,vI] vI
noncomputable def ZH:Entry:=aw 83 f83 [.agg rV,vI] vI
noncomputable def ZI:Entry:=aw 137 f137 [.agg mZ,vI] vI
noncomputable def ZJ:Entry:=bK 87 f87 [iE,vI] vI [(0,lq [(5,vI),(1,vI),(0,iE)] [] [1])]
noncomputable def ZK:Entry:=aw 140 f140 [.agg rW,vI] vI
noncomputable def ZL:Entry:=aw 44 f44 [.agg [kI,kI,kS],vI] vI
noncomputable def ZM:Entry:=aw 85 f85 [.agg q4,vI] vI
noncomputable def ZN:Entry:=aw 138 f138 [.agg q5,vI] vI
noncomputable def ZO:Entry:=bK 181 f181 [cg,vI] vI [(0,lq [(5,vI),(1,vI),(0,cg)] [] [1])]
noncomputable def ZP:Entry:=aw 213 f213 [.agg [kI,kI,kS],vI] vI
noncomputable def ZQ:Entry:=bK 182 f182 [gz,vI] vI [(0,lq [(5,vI),(1,vI),(0,gz)] [] [1])]
noncomputable def ZR:Entry:=aw 214 f214 [.agg iG,vI] vI
noncomputable def ZS:Entry:=aw 19 f19 [eB,vI] vI
noncomputable def ZT:Entry:=aw 84 f84 [mY,vI] vI
noncomputable def ZU:Entry:=aw 86 f86 [.agg [oC,kI],vI] vI
noncomputable def ZV:Entry:=aw 139 f139 [qm,vI] vI
noncomputable def ZW:Entry:=bK 17 f17 [jg,vI] vI [(0,lq [(5,vI),(1,vI),(0,jg)] [] [1])]
noncomputable def ZX:Entry:=aw 43 f43 [.agg oF,vI] vI
noncomputable def ZY:Entry:=aw 18 f18 [.agg [kI,kS],vI] vI
noncomputable def ZZ:Entry:=bK 20 f20 [cg,vI] vI [(0,lq [(5,vI),(1,vI),(0,cg)] [] [1])]
noncomputable def aaA:Entry:=aw 8 f8 [.agg q0] (.agg [kP,kP,fZ,fZ,kI,OK,EF,kI,kS,jf,jf,fZ])
noncomputable def aaB:Entry:=aw 23 f23 [.agg q2] (.agg [kP,kP,fZ,fZ])
noncomputable def aaC:Entry:=bK 54 f54 [ga] qo [(0,lq [(4,vI),(0,ga),(3,qo)] [] [3])]
noncomputable def aaD:Entry:=bK 55 f55 [cg] kn [(0,lq [(4,vI),(0,cg),(3,kn)] [] [3])]
noncomputable def aaE:Entry:=aw 101 f101 [.agg [kI,kI,kS]] (.agg [kI,kI,kS])
noncomputable def aaF:Entry:=bK 24 f24 [kR] OO [(0,lq [(4,vI),(0,kR),(3,OO)] [] [3])]
noncomputable def aaG:Entry:=aw 56 f56 [.agg q1] (.agg [kI,kI,kI,kI,kI,uM,fZ,oD,kI,kI,jf,kS,kI,rU,jf,jf,kI,fZ,oD,kI,kI,jf,kS,EG,kI,EF])
noncomputable def aaH:Entry:=aw 102 f102 [.agg rV] (.agg [kI,kI,kI,kI,uM,fZ,oD,kI,kI,jf,kS])
noncomputable def aaI:Entry:=aw 153 f153 [.agg mZ] (.agg [kI,kI,uM])
noncomputable def aaJ:Entry:=bK 106 f106 [iE] OL [(0,lq [(4,vI),(0,iE),(3,OL)] [] [3])]
noncomputable def aaK:Entry:=aw 156 f156 [.agg rW] (.agg rW)
noncomputable def aaL:Entry:=aw 58 f58 [.agg [kI,kI,kS]] (.agg [kI,kI,kS])
noncomputable def aaM:Entry:=aw 104 f104 [.agg q4] (.agg q7)
noncomputable def aaN:Entry:=aw 154 f154 [.agg q5] (.agg iF)
noncomputable def aaO:Entry:=bK 189 f189 [cg] kn [(0,lq [(4,vI),(0,cg),(3,kn)] [] [3])]
noncomputable def aaP:Entry:=aw 224 f224 [.agg [kI,kI,kS]] (.agg [kI,kI,kS])
noncomputable def aaQ:Entry:=bK 190 f190 [gz] oE [(0,lq [(4,vI),(0,gz),(3,oE)] [] [3])]
noncomputable def aaR:Entry:=aw 225 f225 [.agg iG] (.agg iG)
noncomputable def aaS:Entry:=bK 27 f27 [eB] eQ [(0,lq [(4,vI),(0,eB),(3,eQ)] [] [3])]
noncomputable def aaT:Entry:=bK 103 f103 [mY] jh [(0,lq [(4,vI),(0,mY),(3,jh)] [] [3])]
noncomputable def aaU:Entry:=aw 105 f105 [.agg [oC,kI]] (.agg [EG,kI])
noncomputable def aaV:Entry:=bK 155 f155 [qm] gf [(0,lq [(4,vI),(0,qm),(3,gf)] [] [3])]
noncomputable def aaW:Entry:=bK 25 f25 [jg] OM [(0,lq [(4,vI),(0,jg),(3,OM)] [] [3])]
noncomputable def aaX:Entry:=aw 57 f57 [.agg oF] (.agg [kI,kI,kI,kI,kI,kI,kI,uM,kB,kS])
noncomputable def aaY:Entry:=aw 26 f26 [.agg [kI,kS]] (.agg [kI,kS])
noncomputable def aaZ:Entry:=bK 28 f28 [cg] kn [(0,lq [(4,vI),(0,cg),(3,kn)] [] [3])]
noncomputable def abA:Entry:=aw 7 f7 [.agg q0] vB
noncomputable def abB:Entry:=du 21 f21 [.agg q0] vB [(0,lq [(3,vI),(1,.one (.pb 1 0))] [(1,q0)] [1]),(2,lq [(4,vI),(1,.one (.pb 1 0))] [(1,q0)] [1]),(4,lr [(5,vI),(1,.one (.pb 1 0))] [(1,q0)] [])] [6]
noncomputable def abC:Entry:=du 45 f45 [.agg q2] vB [(0,lq [(3,vI),(1,.one (.pb 1 0))] [(1,q2)] [1]),(2,lq [(4,vI),(1,.one (.pb 1 0))] [(1,q2)] [1])] [9,4]
noncomputable def abD:Entry:=bK 88 f88 [vS] vB [(0,lq [(3,vI),(0,vS)] [] [0])]
noncomputable def abE:Entry:=aw 141 f141 [vU] vB
noncomputable def abF:Entry:=aw 46 f46 [vI,vI,vI] vB
noncomputable def abG:Entry:=aw 142 f142 [vS] vB
noncomputable def abH:Entry:=bK 89 f89 [ga,vS] vB [(0,lq [(5,vI),(1,vS),(0,ga)] [] [])]
noncomputable def abI:Entry:=aw 183 f183 [] qo
noncomputable def abJ:Entry:=bK 90 f90 [cg,vI,vI] vB [(0,lq [(8,vI),(2,vI),(1,vI),(7,vI),(0,cg)] [] [])]
noncomputable def abK:Entry:=aw 143 f143 [.agg [kI,kI,kS],vI,vI,vI] vB
noncomputable def abL:Entry:=aw 184 f184 [vI] vB
noncomputable def abM:Entry:=aw 185 f185 [vS] (.aP [.agg kq,vB])
noncomputable def abN:Entry:=bW 215 f215 [.one (.pb 5000 0),vI] [(5000,[kS,kI,kB])] (.agg kq) [[kS,kI,kB]] [(0,lp ⟨[(1,vI),(0,.one (.pb 5000 0)),(5,qn),(4,.one (.pb 4 0))],[(5000,[kS,kI,kB]),(4,q6)]⟩ ⟨[(4,.one (.pb 4 0)),(5,qn)],[(5000,[kS,kI,kB]),(4,q6)]⟩)] []
noncomputable def abO:Entry:=bW 252 f252 [.one (.pb 5000 0),vI] [(5000,[kS,kI,kB])] (.agg kq) [[kS,kI,kB]] [(0,lp ⟨[(1,vI),(0,.one (.pb 5000 0)),(5,qn),(4,.one (.pb 4 0))],[(5000,[kS,kI,kB]),(4,q6)]⟩ ⟨[(4,.one (.pb 4 0)),(5,qn)],[(5000,[kS,kI,kB]),(4,q6)]⟩)] [2]
noncomputable def abP:Entry:=bW 295 f295 [.one (.pb 5000 0),vI] [(5000,[kS,kI,kB])] (.agg kq) [[kS,kI,kB]] [(0,lq [(4,.one (.pb 4 0)),(5,.one (.pb 5 0)),(0,.one (.pb 5000 0))] [(5000,[kS,kI,kB]),(4,q6),(5,kq)] [4,5])] []
noncomputable def abQ:Entry:=bW 338 f338 [.one (.pb 5000 0),vI] [(5000,[kS,kI,kB])] (.agg kq) [[kS,kI,kB]] [] []
noncomputable def abR:Entry:=bW 253 f253 [.one (.pb 5000 0),vU] [(5000,[kS,kI,kB])] vB [[kS,kI,kB]] [] []
noncomputable def abS:Entry:=bW 365 f365 [.one (.pb 5000 0)] [(5000,[kS,kI,kB])] (.agg q6) [[kS,kI,kB]] [(2,lq [(8,vI),(4,jh),(0,.one (.pb 5000 0)),(2,.one (.pb 2 0)),(3,.one (.pb 3 0)),(43,vB),(42,vU),(37,vS),(41,vI),(40,.one (.pb 5000 1)),(39,.one (.pb 5000 0)),(38,.one (.pb 5000 0)),(36,.one (.pb 5000 0)),(35,.one (.pb 5000 0)),(34,.one (.pb 5000 0)),(5,vI),(7,vI)] [(5000,[kS,kI,kB]),(2,q6),(3,q6)] [4,0,2,3,43,42,37,41,40,39,38,36,35,34,5]),(0,lp ⟨[(4,jh),(5,vI),(0,.one (.pb 5000 0)),(2,.one (.pb 2 0)),(3,.one (.pb 3 0))],[(5000,[kS,kI,kB]),(2,q6),(3,q6)]⟩ ⟨[(4,jh),(2,.one (.pb 2 0)),(3,.one (.pb 3 0)),(0,.one (.pb 5000 0)),(5,vI)],[(5000,[kS,kI,kB]),(2,q6),(3,q6)]⟩),(4,lp ⟨[(10,vI),(9,gf),(4,jh),(2,.one (.pb 2 0)),(3,.one (.pb 3 0))],[(5000,[kS,kI,kB]),(2,q6),(3,q6)]⟩ ⟨[(2,.one (.pb 2 0)),(3,.one (.pb 3 0)),(9,gf)],[(5000,[kS,kI,kB]),(2,q6),(3,q6)]⟩)] [11,7]
noncomputable def abT:Entry:=bK 216 f216 [.agg q9] vI [(0,lr [(4,vI),(1,.one (.pb 1 0)),(3,vI)] [(1,q9)] [3])]
noncomputable def abU:Entry:=aw 149 f149 [vI,vI] vI
noncomputable def abV:Entry:=aw 47 f47 [.agg [kI,kS]] vB
noncomputable def abW:Entry:=bK 48 f48 [eB] vB [(0,lq [(3,vI),(0,eB)] [] [0])]
noncomputable def abX:Entry:=du 49 f49 [.agg q2,.agg q1,vI] vB [(0,lp ⟨[(9,vI),(7,vI),(4,.one (.pb 4 0)),(2,vI),(3,.one (.pb 3 0))],[(4,q1),(3,q2)]⟩ ⟨[(4,.one (.pb 4 0)),(2,vI),(3,.one (.pb 3 0)),(7,vI)],[(4,q1),(3,q2)]⟩),(2,lq [(10,vI),(4,.one (.pb 4 0)),(2,vI),(3,.one (.pb 3 0)),(7,vI)] [(4,q1),(3,q2)] [4,3,7])] [12,7]
noncomputable def abY:Entry:=aw 91 f91 [.agg q2,.agg rV] vB
noncomputable def abZ:Entry:=aw 92 f92 [.agg mZ] (.aP [vI,vI])
noncomputable def acA:Entry:=du 144 f144 [.agg mZ] vB [(0,lr [(4,vI),(1,.one (.pb 1 0)),(3,vI)] [(1,mZ)] [])] [7]
noncomputable def acB:Entry:=aw 51 f51 [.agg [kI,kI,kS]] vB
noncomputable def acC:Entry:=bK 96 f96 [vS] vB [(0,lq [(3,vI),(0,vS)] [] [])]
noncomputable def acD:Entry:=bK 93 f93 [.agg q2,.agg q4] vB [(0,lq [(5,vI),(3,.one (.pb 3 0)),(2,.one (.pb 2 0))] [(3,q4),(2,q2)] [3,2])]
noncomputable def acE:Entry:=du 145 f145 [.agg q5,vI,vI] vB [(0,lq [(7,vI),(3,.one (.pb 3 0)),(2,vI),(1,vI)] [(3,q5)] [3,2,1]),(2,lq [(8,vI),(3,.one (.pb 3 0)),(2,vI),(1,vI)] [(3,q5)] [3,1])] [10]
noncomputable def acF:Entry:=aw 186 f186 [.agg [kI,kI,kS]] vB
noncomputable def acG:Entry:=bK 217 f217 [vS] (.aP [vI,vB]) [(0,lq [(5,vI),(0,vS),(4,vI)] [] [4])]
noncomputable def acH:Entry:=du 254 f254 [vS] (.aP [vI,vI]) [(0,lp ⟨[(4,vI),(0,vS)],[]⟩ ⟨[(0,vS),(4,vI)],[]⟩),(2,lp ⟨[(7,vI),(4,vI),(0,vS),(6,vI),(5,vB)],[]⟩ ⟨[(7,vI),(0,vS),(6,vI),(5,vB),(4,vI)],[]⟩),(4,lp ⟨[(4,vI),(7,vI),(8,vI),(0,vS),(6,vI),(5,vB)],[]⟩ ⟨[(4,vI),(6,vI),(5,vB),(7,vI)],[]⟩)] [16,8,2]
noncomputable def acI:Entry:=aw 296 f296 [vU] vB
noncomputable def acJ:Entry:=aw 187 f187 [.agg iG,vI,vS] vB
noncomputable def acK:Entry:=aw 50 f50 [.agg oF,vI] vB
noncomputable def acL:Entry:=du 95 f95 [iE,vI] vB [(0,lq [(5,vI),(0,iE),(1,vI)] [] [0])] [4]
noncomputable def acM:Entry:=aw 94 f94 [.agg [oC,kI]] vB
noncomputable def acN:Entry:=bK 22 f22 [.agg q2,cg] (.agg q7) [(0,lp ⟨[(6,vI),(5,.one (.pb 5 0)),(1,cg),(2,.one (.pb 2 0)),(4,.one (.pb 4 0))],[(5,q7),(2,q2),(4,yt)]⟩ ⟨[(4,.one (.pb 4 0)),(5,.one (.pb 5 0))],[(4,yt),(5,q7)]⟩)]
noncomputable def acO:Entry:=aw 52 f52 [.agg q2] (.agg q7)
noncomputable def acP:Entry:=aw 97 f97 [.agg q2] (.aP [.agg iF,vS])
noncomputable def acQ:Entry:=aw 98 f98 [vI] (.agg [fZ,.nl,kI,kI])
noncomputable def acR:Entry:=aw 150 f150 [vI,vI] vI
noncomputable def acS:Entry:=aw 146 f146 [.agg q5] (.agg iF)
noncomputable def acT:Entry:=bW 147 f147 [.one (.pb 5000 0),cg] [(5000,q3)] (.aP []) [q3] [(0,lp ⟨[(0,.one (.pb 5000 0)),(6,vI),(5,vI),(1,cg),(4,.one (.pb 11 0))],[(5000,q3),(11,[.pb 5000 0,fZ])]⟩ ⟨[],[(5000,q3)]⟩)] []
noncomputable def acU:Entry:=bW 152 f152 [.one (.pb 5000 0),vI] [(5000,q3)] (.aP []) [q3] [] []
noncomputable def acV:Entry:=bW 188 f188 [.one (.pb 5000 0),.agg [kI,kI,kS],vI] [(5001,q3),(5000,lT)] (.aP [vI,vB]) [q3,lT] [] []
noncomputable def acW:Entry:=aw 218 f218 [.agg [kI,kI,kS]] vI
noncomputable def acX:Entry:=aw 219 f219 [.agg [kI,kI,kS]] vB
noncomputable def acY:Entry:=bW 220 f220 [.one (.pb 5000 0),vS] [(5000,q3)] (.aP []) [q3] [] []
noncomputable def acZ:Entry:=aw 221 f221 [.agg [kI,kI,kS]] vS
noncomputable def adA:Entry:=bK 255 f255 [vI] vS [(0,lp ⟨[(6,vS),(0,vI),(4,vS)],[]⟩ ⟨[(0,vI),(6,vS),(4,vS)],[]⟩)]
noncomputable def adB:Entry:=aw 297 f297 [vI] vI
noncomputable def adC:Entry:=bK 298 f298 [vI] vS [(0,lq [(0,vI),(3,vS)] [] [3])]
noncomputable def adD:Entry:=bW 222 f222 [.one (.pb 5000 0),.agg [kI,kI,kS],cg] [(5001,q3),(5000,lT)] (.aP []) [q3,lT] [] []
noncomputable def adE:Entry:=bW 256 f256 [.one (.pb 5000 0),.agg [kI,kI,kS]] [(5001,q3),(5000,lT)] (.aP []) [q3,lT] [] []
noncomputable def adF:Entry:=aw 258 f258 [.agg [kI,kI,kS]] vI
noncomputable def adG:Entry:=bW 257 f257 [.one (.pb 5000 0),vI,vI,vI] [(5000,q3)] (.agg [kI,kI,kS]) [q3] [] []
noncomputable def adH:Entry:=aw 299 f299 [vI,vI] (.aP [vI,vB])
noncomputable def adI:Entry:=aw 339 f339 [vI] (.aP [vI,vB])
noncomputable def adJ:Entry:=aw 263 f263 [vI] (.agg [kI,kI,kS])
noncomputable def adK:Entry:=aw 300 f300 [vI,vI] (.aP [vI,vB])
noncomputable def adL:Entry:=aw 301 f301 [vI,vI] (.aP [vI,vB])
noncomputable def adM:Entry:=aw 302 f302 [vI,vI] (.aP [vI,vB])
noncomputable def adN:Entry:=aw 260 f260 [.agg [kI,kI,kS]] vS
noncomputable def adO:Entry:=aw 259 f259 [.agg q5,vI,vS] (.agg [kI,kI,kS])
noncomputable def adP:Entry:=du 303 f303 [.agg q5,vI,vS] vI [(0,lr [(7,vI),(2,vS),(3,.one (.pb 3 0)),(1,vI)] [(3,q5)] [])] [4]
noncomputable def adQ:Entry:=bW 261 f261 [.one (.pb 5000 0),vI,vS,.agg [kI,kI,kS]] [(5001,q3),(5000,lT)] (.aP []) [q3,lT] [] []
noncomputable def adR:Entry:=du 304 f304 [.agg q5,vI,vS,.agg [kI,kI,kS]] (.aP [.agg iF,vB]) [(0,lp ⟨[(11,vI),(8,.one (.pb 8 0)),(10,.one (.pb 10 0)),(4,.one (.pb 4 0)),(7,.one (.pb 7 0)),(2,vS),(1,vI)],[(8,[.nl,.nl,kI,kI]),(10,iF),(4,q5),(7,[kI,kI,kS])]⟩ ⟨[(8,.one (.pb 8 0)),(10,.one (.pb 10 0)),(11,vI),(4,.one (.pb 4 0)),(7,.one (.pb 7 0)),(2,vS),(1,vI)],[(8,[.nl,.nl,kI,kI]),(10,iF),(4,q5),(7,[kI,kI,kS])]⟩)] [9]
noncomputable def adS:Entry:=aw 262 f262 [.agg q5,vI,vS] (.agg iF)
noncomputable def adT:Entry:=bW 223 f223 [.one (.pb 5000 0),.agg [kI,kI,kS],cg] [(5001,q3),(5000,lT)] (.aP []) [q3,lT] [] []
noncomputable def adU:Entry:=bW 264 f264 [.one (.pb 5000 0),.agg [kI,kI,kS]] [(5000,q3)] (.agg [kI,kI,kS]) [q3] [] []
noncomputable def adV:Entry:=aw 305 f305 [vS] (.agg [kI,kI,kS])
noncomputable def adW:Entry:=bW 265 f265 [.one (.pb 5000 0),.agg [kI,kI,kS],.agg [kI,kI,kS]] [(5000,q3)] (.agg [kI,kI,kS]) [q3] [] []
noncomputable def adX:Entry:=aw 266 f266 [vS,vS] (.agg [kI,kI,kS])
noncomputable def adY:Entry:=aw 306 f306 [.agg q9,vS] vB
noncomputable def adZ:Entry:=aw 341 f341 [.agg q9] gb
noncomputable def aeA:Entry:=aw 367 f367 [.agg q9] vB
noncomputable def aeB:Entry:=bK 391 f391 [.agg q9] vB [(0,lq [(3,vI),(1,.one (.pb 1 0))] [(1,q9)] [1])]
noncomputable def aeC:Entry:=bK 417 f417 [vS] vB [(0,lq [(3,vI),(0,vS)] [] [])]
noncomputable def aeD:Entry:=bK 369 f369 [gb,.agg q9] gb [(1,lr [(6,vI),(3,.one (.pb 3 0)),(0,gb)] [(3,q9)] [0])]
noncomputable def aeE:Entry:=aw 368 f368 [gb,vI] gb
noncomputable def aeF:Entry:=bK 392 f392 [gb,kQ] gb [(0,lq [(6,vI),(5,eQ),(1,kQ),(0,gb)] [] [5,1,0]),(2,lq [(8,vI),(0,gb),(5,eQ)] [] [0])]
noncomputable def aeG:Entry:=bK 340 f340 [fi,vS] (.aP [vI,vI,vB]) [(0,lq [(7,vI),(1,vS),(0,fi)] [] [])]
noncomputable def aeH:Entry:=bK 366 f366 [fi,vS,vI] vI [(0,lq [(7,eQ),(9,vI),(1,vS),(0,fi),(8,vI)] [] [8]),(2,lp ⟨[(11,vI),(7,eQ),(10,eQ),(9,vI),(1,vS),(0,fi),(8,vI)],[]⟩ ⟨[(1,vS),(0,fi),(8,vI),(9,vI),(10,eQ)],[]⟩)]
noncomputable def aeI:Entry:=du 388 f388 [fi] vB [(0,lq [(4,vI),(3,vI),(0,fi)] [] [3])] [5]
noncomputable def aeJ:Entry:=aw 413 f413 [.agg yu,vI] vB
noncomputable def aeK:Entry:=bK 389 f389 [fi,eB,vB,vB] eQ [(0,lq [(10,vI),(3,vB),(2,vB),(1,eB),(9,jh),(0,fi)] [] [9])]
noncomputable def aeL:Entry:=Yt 414 f414 [fi,jh,vI,vB,vB] jh [(0,lq [(3,vB),(4,vB),(0,fi),(1,jh),(10,eQ)] [] [1])] [4] 1
noncomputable def aeM:Entry:=bK 415 f415 [mY] eQ [(0,lq [(4,vI),(3,eQ),(0,mY)] [] [3])]
noncomputable def aeN:Entry:=aw 390 f390 [.agg yu,vU] vB
noncomputable def aeO:Entry:=bK 416 f416 [vS,vU] vB [(0,lq [(5,vI),(1,vU),(0,vS)] [] [])]
noncomputable def aeP:Entry:=aw 267 f267 [vB] (.agg [kI,kI,kS])
noncomputable def aeQ:Entry:=aw 307 f307 [vB] vI
noncomputable def aeR:Entry:=aw 268 f268 [vS,cg] (.agg [kI,kI,kS])
noncomputable def aeS:Entry:=aw 308 f308 [vS,cg] (.agg [kI,kI,kS])
noncomputable def aeT:Entry:=aw 342 f342 [vI] vI
noncomputable def aeU:Entry:=bK 343 f343 [vS,vS] vI [(0,lq [(5,vI),(1,vS),(0,vS)] [] [])]
noncomputable def aeV:Entry:=du 344 f344 [vS,vU,vU] vS [(0,lq [(8,vI),(2,vU),(1,vU),(7,gf)] [] [7])] [5]
noncomputable def aeW:Entry:=aw 345 f345 [cg] vS
noncomputable def aeX:Entry:=aw 269 f269 [vI,.agg [kI,kI,kS],.agg [kI,kI,kS]] (.agg [kI,kI,kS])
noncomputable def aeY:Entry:=aw 309 f309 [.agg [kI,kI,kS],.agg [kI,kI,kS]] vI
noncomputable def aeZ:Entry:=bW 148 f148 [.one (.pb 5000 0),.agg q5] [(5000,q3)] (.aP [.agg iF,vS]) [[.undef,.undef,kI,kI,kP,kP,kS,kP,kS,kI,kB]] [] []
noncomputable def afA:Entry:=aw 53 f53 [.agg q2,.agg q4,.agg [kI,kI,kS]] (.agg q7)
noncomputable def afB:Entry:=aw 99 f99 [.agg q4] (.agg q7)
noncomputable def afC:Entry:=aw 100 f100 [.agg q2,.agg q5,vS] (.aP [.agg iF,vS])
noncomputable def afD:Entry:=du 151 f151 [vS] qo [(0,lq [(5,vI),(4,vI),(0,vS),(3,qo)] [] [3])] [6]
noncomputable def afE:Entry:=aw 9 f9 [.agg q0] vB
noncomputable def afF:Entry:=du 29 f29 [.agg q0] vB [(0,lq [(38,vI),(1,.one (.pb 1 0)),(36,kR),(37,vI)] [(1,q0)] [1])] [9,6]
noncomputable def afG:Entry:=du 59 f59 [.agg q2] vB [] [1]
noncomputable def afH:Entry:=du 107 f107 [ga] vB [(0,lq [(7,vI),(0,ga),(5,ga),(6,vI)] [] [0])] [4]
noncomputable def afI:Entry:=aw 157 f157 [vS] vB
noncomputable def afJ:Entry:=aw 60 f60 [vI,vI,vI] vB
noncomputable def afK:Entry:=du 191 f191 [vS,vI] vI [(0,lq [(5,vI),(1,vI),(0,vS)] [] [5])] [2]
noncomputable def afL:Entry:=aw 226 f226 [vU] vB
noncomputable def afM:Entry:=aw 192 f192 [vS] vB
noncomputable def afN:Entry:=aw 197 f197 [] qo
noncomputable def afO:Entry:=aw 110 f110 [ga,vS] vB
noncomputable def afP:Entry:=bK 159 f159 [ga,vS] vI [(0,lq [(8,vI),(0,ga),(1,vS),(7,vI)] [] [])]
noncomputable def afQ:Entry:=bW 108 f108 [ga,.one (.fn 109 [] [.pb 5000 0])] [(5000,q2)] vB [q2] [] []
noncomputable def afR:Entry:=bW 158 f158 [ga,.one (.fn 109 [] [.pb 5000 0])] [(5000,q2)] vI [q2] [(0,lq [(8,vI),(0,ga),(1,.one (.fn 109 [] [.pb 5000 0])),(7,vI)] [(5000,q2)] [])] []
noncomputable def afS:Entry:=bW 109 f109 [vS,.one (.pb 5000 0)] [(5000,q2)] vB [q2] [] []
noncomputable def afT:Entry:=aw 111 f111 [cg,vI,vI] vB
noncomputable def afU:Entry:=bW 160 f160 [cg,.one (.fn 161 [] [.pb 5000 0,.pb 5001 0,.pb 5002 0])] [(5000,[gy]),(5001,[kI]),(5002,[kI])] vB [[gy],[kI],[kI]] [] []
noncomputable def afV:Entry:=bW 193 f193 [cg,.one (.fn 161 [] [.pb 5000 0,.pb 5001 0,.pb 5002 0])] [(5000,[gy]),(5001,[kI]),(5002,[kI])] vI [[gy],[kI],[kI]] [(0,lq [(8,vI),(0,cg),(1,.one (.fn 161 [] [.pb 5000 0,.pb 5001 0,.pb 5002 0])),(7,vI)] [(5000,[gy]),(5001,[kI]),(5002,[kI])] [])] []
noncomputable def afW:Entry:=bW 161 f161 [.agg [kI,kI,kS],.one (.pb 5000 0),.one (.pb 5001 0),.one (.pb 5002 0)] [(5000,[gy]),(5001,[kI]),(5002,[kI])] vB [[gy],[kI],[kI]] [] []
noncomputable def afX:Entry:=aw 162 f162 [.agg [kI,kI,kS],vI,vI,vI] vB
noncomputable def afY:Entry:=aw 194 f194 [vI] (.aP [vS,vS])
noncomputable def afZ:Entry:=aw 195 f195 [vI] vB
noncomputable def agA:Entry:=aw 196 f196 [vS] vB
noncomputable def agB:Entry:=aw 227 f227 [vS] (.aP [.agg kq,vB])
noncomputable def agC:Entry:=bW 270 f270 [.one (.pb 5000 0)] [(5000,[kS,kB])] (.agg kq) [[kS,kB]] [(0,lp ⟨[(0,.one (.pb 5000 0)),(3,qn),(2,.one (.pb 2 0))],[(5000,[kS,kB]),(2,q6)]⟩ ⟨[(2,.one (.pb 2 0)),(3,qn)],[(5000,[kS,kB]),(2,q6)]⟩)] []
noncomputable def agD:Entry:=bW 310 f310 [.one (.pb 5000 0)] [(5000,[kS,kB])] (.agg kq) [[kS,kB]] [(0,lq [(2,.one (.pb 2 0)),(3,qn),(0,.one (.pb 5000 0))] [(5000,[kS,kB]),(2,q6)] [2,3])] [3]
noncomputable def agE:Entry:=bW 346 f346 [.one (.pb 5000 0)] [(5000,[kS,kB])] (.aP [vU,vB]) [[kS,kB]] [] []
noncomputable def agF:Entry:=bW 347 f347 [.one (.pb 5000 0)] [(5000,[kS,kB])] (.agg kq) [[kS,kB]] [(0,lp ⟨[(2,.one (.pb 2 0)),(3,.one (.pb 3 0)),(0,.one (.pb 5000 0))],[(5000,[kS,kB]),(2,q6),(3,kq)]⟩ ⟨[],[(5000,[.undef,.undef])]⟩)] [3]
noncomputable def agG:Entry:=bW 370 f370 [.one (.pb 5000 0)] [(5000,[kS,kB])] (.agg kq) [[kS,kB]] [] []
noncomputable def agH:Entry:=bW 311 f311 [.one (.pb 5000 0),vU] [(5000,[kS,kB])] vB [[kS,kB]] [] []
noncomputable def agI:Entry:=bW 393 f393 [.one (.pb 5000 0)] [(5000,[kS,kB])] (.agg q6) [[kS,kB]] [(2,lq [(10,vI),(6,jh),(0,.one (.pb 5000 0)),(5,vS),(2,.one (.pb 2 0)),(3,.one (.pb 3 0)),(7,vI),(9,vI)] [(5000,[kS,kB]),(2,q6),(3,q6)] [6,0,5,2,3,7]),(0,lp ⟨[(6,jh),(7,vI),(0,.one (.pb 5000 0)),(5,vS),(2,.one (.pb 2 0)),(3,.one (.pb 3 0))],[(5000,[kS,kB]),(2,q6),(3,q6)]⟩ ⟨[(2,.one (.pb 2 0)),(3,.one (.pb 3 0)),(6,jh)],[(5000,[kS,kB]),(2,q6),(3,q6)]⟩),(4,lp ⟨[(102,vI),(11,gf),(100,jh),(2,.one (.pb 2 0)),(3,.one (.pb 3 0)),(101,vI)],[(5000,[kS,kB]),(2,q6),(3,q6)]⟩ ⟨[(2,.one (.pb 2 0)),(3,.one (.pb 3 0)),(11,gf)],[(5000,[kS,kB]),(2,q6),(3,q6)]⟩)] [13]
noncomputable def EH:Entry:={f:=399,fn:=f399,ins:=[vS,vU],bx:=[],outs:=vI,bO:=[],loops:=[],cO:=[],bH:=[.int .i64],bX:=some xT}
noncomputable def agJ:Entry:=aw 371 f371 [vU] vI
noncomputable def agK:Entry:=bK 271 f271 [.agg q9] vI [(0,lq [(9,vI),(3,vI),(7,kQ),(8,vI)] [] [3])]
noncomputable def agL:Entry:=aw 61 f61 [.agg [kI,kS]] vB
noncomputable def agM:Entry:=aw 112 f112 [vI] vB
noncomputable def agN:Entry:=aw 62 f62 [.agg q2,.agg q1,vI] vB
noncomputable def agO:Entry:=aw 113 f113 [.agg q2,.agg rV] vB
noncomputable def agP:Entry:=aw 114 f114 [.agg mZ] (.aP [vI,vI])
noncomputable def agQ:Entry:=aw 163 f163 [vI] vB
noncomputable def agR:Entry:=du 164 f164 [.agg mZ] vB [(0,lq [(30,vI),(3,vI),(28,iE),(29,vI)] [] [])] [7]
noncomputable def agS:Entry:=aw 69 f69 [.agg [kI,kI,kS]] vB
noncomputable def agT:Entry:=aw 123 f123 [vS] vB
noncomputable def EI:Entry:={f:=170,fn:=f170,ins:=[vS,vS],bx:=[],outs:=vB,bO:=[],loops:=[],cO:=[],bH:=[.bool],bX:=some xX}
noncomputable def agU:Entry:=aw 115 f115 [.agg q2,.agg q4] vB
noncomputable def agV:Entry:=du 165 f165 [.agg q5,vI,vI] vB [(0,lr [(40,vI),(3,.one (.pb 3 0)),(2,vI),(38,gz),(39,vI)] [(3,q5)] [])] [6]
noncomputable def agW:Entry:=aw 198 f198 [cg,.one (.fn 199 [] [])] vB
noncomputable def agX:Entry:=bK 228 f228 [cg,.one (.fn 199 [] [])] vI [(0,lq [(8,vI),(0,cg),(1,.one (.fn 199 [] [])),(7,vI)] [] [])]
noncomputable def agY:Entry:=aw 199 f199 [.agg [kI,kI,kS]] vB
noncomputable def agZ:Entry:=aw 200 f200 [.agg [kI,kI,kS]] vB
noncomputable def ahA:Entry:=aw 229 f229 [vS] (.aP [vI,vB])
noncomputable def ahB:Entry:=aw 272 f272 [vS] (.aP [vI,vI])
noncomputable def ahC:Entry:=aw 312 f312 [vS,vS] vS
noncomputable def ahD:Entry:=du 315 f315 [vS,vU] vS [(0,lq [(0,vS),(1,vU)] [] [0])] [1]
noncomputable def ahE:Entry:=du 313 f313 [vS,vI] vI [(0,lq [(5,vI),(1,vI),(0,vS)] [] [5])] [2]
noncomputable def ahF:Entry:=aw 314 f314 [vS,vS] (.aP [vI,vB])
noncomputable def EJ:Entry:={f:=348,fn:=f348,ins:=[vS],bx:=[],outs:=.aP [vI,.one .er],bO:=[],loops:=[],cO:=[],bH:=[.int .i64,.bool],bX:=some xV}
noncomputable def ahG:Entry:=aw 325 f325 [vI] (.aP [vI,vB])
noncomputable def ahH:Entry:=aw 273 f273 [vS,vS] vS
noncomputable def ahI:Entry:=du 316 f316 [vS,vU] vS [(0,lq [(0,vS),(1,vU)] [] [0])] [1]
noncomputable def ahJ:Entry:=aw 201 f201 [.agg iG,.agg iG] vI
noncomputable def EK:Entry:={f:=230,fn:=f230,ins:=[vS,vS],bx:=[],outs:=vI,bO:=[],loops:=[],cO:=[],bH:=[.int .i64],bX:=some xU}
noncomputable def ahK:Entry:=aw 120 f120 [eB,.one (.fn 166 [] [])] vB
noncomputable def ahL:Entry:=bK 169 f169 [eB,.one (.fn 166 [] [])] vI [(0,lq [(8,vI),(0,eB),(1,.one (.fn 166 [] [])),(7,vI)] [] [])]
noncomputable def ahM:Entry:=aw 166 f166 [vI] vB
noncomputable def ahN:Entry:=du 66 f66 [eB,vI,vI,vI] vB [] [1]
noncomputable def ahO:Entry:=bW 120 f120 [eB,.one (.fn 121 [] [.pb 5000 0,.pb 5001 0])] [(5000,[kI]),(5001,[kI])] vB [[kI],[kI]] [] []
noncomputable def ahP:Entry:=bW 169 f169 [eB,.one (.fn 121 [] [.pb 5000 0,.pb 5001 0])] [(5000,[kI]),(5001,[kI])] vI [[kI],[kI]] [(0,lq [(8,vI),(0,eB),(1,.one (.fn 121 [] [.pb 5000 0,.pb 5001 0])),(7,vI)] [(5000,[kI]),(5001,[kI])] [])] []
noncomputable def ahQ:Entry:=bW 121 f121 [vI,.one (.pb 5000 0),.one (.pb 5001 0)] [(5000,[kI]),(5001,[kI])] vB [[kI],[kI]] [] []
noncomputable def ahR:Entry:=aw 116 f116 [.agg [oC,kI]] vB
noncomputable def ahS:Entry:=bW 63 f63 [jg,.one (.fn 117 [] [.pb 5000 0,.pb 5001 0])] [(5000,[kI]),(5001,q1)] vB [[kI],q1] [] []
noncomputable def ahT:Entry:=bW 118 f118 [jg,.one (.fn 117 [] [.pb 5000 0,.pb 5001 0])] [(5000,[kI]),(5001,q1)] vI [[kI],q1] [(0,lq [(8,vI),(0,jg),(1,.one (.fn 117 [] [.pb 5000 0,.pb 5001 0])),(7,vI)] [(5000,[kI]),(5001,q1)] [])] []
noncomputable def ahU:Entry:=bW 117 f117 [.agg oF,.one (.pb 5000 0),.one (.pb 5001 0)] [(5000,[kI]),(5001,q1)] vB [[kI],q1] [] []
noncomputable def ahV:Entry:=aw 65 f65 [.agg oF,vI] vB
noncomputable def ahW:Entry:=du 119 f119 [iE,vI] vB [] [1]
noncomputable def ahX:Entry:=bW 167 f167 [iE,.one (.fn 168 [] [.pb 5000 0])] [(5000,[kI])] vB [[kI]] [] []
noncomputable def ahY:Entry:=bW 202 f202 [iE,.one (.fn 168 [] [.pb 5000 0])] [(5000,[kI])] vI [[kI]] [(0,lq [(8,vI),(0,iE),(1,.one (.fn 168 [] [.pb 5000 0])),(7,vI)] [(5000,[kI])] [])] []
noncomputable def ahZ:Entry:=bW 168 f168 [.agg rW,.one (.pb 5000 0)] [(5000,[kI])] vB [[kI]] [] []
noncomputable def aiA:Entry:=bW 63 f63 [jg,.one (.fn 64 [] [.pb 5000 0])] [(5000,q0)] vB [q0] [] []
noncomputable def aiB:Entry:=bW 118 f118 [jg,.one (.fn 64 [] [.pb 5000 0])] [(5000,q0)] vI [q0] [(0,lq [(8,vI),(0,jg),(1,.one (.fn 64 [] [.pb 5000 0])),(7,vI)] [(5000,q0)] [])] []
noncomputable def aiC:Entry:=bW 64 f64 [.agg oF,.one (.pb 5000 0)] [(5000,q0)] vB [q0] [] []
noncomputable def aiD:Entry:=aw 67 f67 [cg,.one (.fn 68 [] [])] vB
noncomputable def aiE:Entry:=bK 122 f122 [cg,.one (.fn 68 [] [])] vI [(0,lq [(8,vI),(0,cg),(1,.one (.fn 68 [] [])),(7,vI)] [] [])]
noncomputable def aiF:Entry:=aw 68 f68 [.agg [kI,kI,kS]] vB
noncomputable def aiG:Entry:=bK 31 f31 [.agg q2,cg] (.agg q7) [(0,lp ⟨[(12,vI),(5,.one (.pb 5 0)),(2,.one (.pb 2 0)),(10,cg),(4,.one (.pb 4 0)),(11,vI)],[(5,q7),(2,q2),(4,yt)]⟩ ⟨[(4,.one (.pb 4 0)),(5,.one (.pb 5 0))],[(4,yt),(5,q7)]⟩)]
noncomputable def aiH:Entry:=aw 71 f71 [.agg q2] (.agg q7)
noncomputable def aiI:Entry:=aw 124 f124 [.agg q2] (.aP [.agg iF,vS])
noncomputable def aiJ:Entry:=aw 125 f125 [vI] (.agg [fZ,.nl,kI,kI])
noncomputable def aiK:Entry:=aw 171 f171 [.agg q5] (.agg iF)
noncomputable def EL:Entry:={f:=204,fn:=f204,ins:=[cg],bx:=[],outs:=kn,bO:=[],loops:=[],cO:=[],bH:=[aL],bX:=some (gH aL)}
noncomputable def EM:Entry:={f:=205,fn:=f205,ins:=[gz],bx:=[],outs:=oE,bO:=[],loops:=[],cO:=[],bH:=[bP],bX:=some (gH bP)}
noncomputable def aiL:Entry:=bW 172 f172 [.one (.pb 5000 0),cg] [(5000,q8)] (.aP []) [q8] [(0,lq [(0,.one (.pb 5000 0)),(5,vI),(4,vI),(1,cg)] [(5000,q8)] [])] []
noncomputable def aiM:Entry:=bW 175 f175 [.one (.pb 5000 0),vI] [(5000,q8)] (.aP []) [q8] [] []
noncomputable def aiN:Entry:=aw 207 f207 [.agg [kI,kI,kS]] vI
noncomputable def aiO:Entry:=bW 206 f206 [.one (.pb 5000 0),vI] [(5000,q8)] kn [q8] [] []
noncomputable def aiP:Entry:=aw 208 f208 [.agg [kI,kI,kS]] vB
noncomputable def aiQ:Entry:=bW 209 f209 [.one (.pb 5000 0),.agg [kI,kI,kS],cg] [(5000,q8)] (.aP []) [q8] [] []
noncomputable def aiR:Entry:=bW 232 f232 [.one (.pb 5000 0),.agg [kI,kI,kS]] [(5000,q8)] (.aP []) [q8] [] []
noncomputable def aiS:Entry:=bW 233 f233 [.one (.pb 5000 0),.agg [kI,kI,kS],.agg [kI,kI,kS]] [(5000,q8)] (.agg [kI,kI,kS]) [q8] [] []
noncomputable def aiT:Entry:=aw 247 f247 [.agg [kI,kI,kS]] vI
noncomputable def aiU:Entry:=aw 279 f279 [vI,vI] (.aP [vI,vB])
noncomputable def aiV:Entry:=aw 240 f240 [vI] (.agg [kI,kI,kS])
noncomputable def aiW:Entry:=aw 236 f236 [.agg [kI,kI,kS]] vS
noncomputable def aiX:Entry:=aw 281 f281 [vI] vS
noncomputable def EN:Entry:={f:=329,fn:=f329,ins:=[vI],bx:=[],outs:=vS,bO:=[],loops:=[],cO:=[],bH:=[.str],bX:=some xR}
noncomputable def aiY:Entry:=aw 330 f330 [vS,vS] vS
noncomputable def aiZ:Entry:=aw 235 f235 [vS] vS
noncomputable def ajA:Entry:=bW 234 f234 [.one (.pb 5000 0),vI,vS,.agg [kI,kI,kS]] [(5000,q8)] (.aP []) [q8] [] []
noncomputable def ajB:Entry:=aw 280 f280 [.agg q5,vI,vS,.agg [kI,kI,kS]] (.aP [.agg iF,vB])
noncomputable def ajC:Entry:=aw 282 f282 [.agg q5,vI,vS] vI
noncomputable def ajD:Entry:=bW 326 f326 [gz,.one (.fn 331 [] [.pb 5000 0,.pb 5001 0])] [(5000,[kI]),(5001,[kS])] vI [[kI],[kS]] [(0,lq [(8,vI),(0,gz),(1,.one (.fn 331 [] [.pb 5000 0,.pb 5001 0])),(7,vI)] [(5000,[kI]),(5001,[kS])] [])] []
noncomputable def ajE:Entry:=bW 331 f331 [.agg iG,.one (.pb 5000 0),.one (.pb 5001 0)] [(5000,[kI]),(5001,[kS])] vB [[kI],[kS]] [] []
noncomputable def ajF:Entry:=bW 326 f326 [gz,.one (.fn 327 [] [.pb 5000 0])] [(5000,iG)] vI [iG] [(0,lq [(8,vI),(0,gz),(1,.one (.fn 327 [] [.pb 5000 0])),(7,vI)] [(5000,iG)] [])] []
noncomputable def ajG:Entry:=bW 327 f327 [.agg iG,.one (.pb 5000 0)] [(5000,iG)] vB [iG] [] []
noncomputable def EO:Entry:={f:=328,fn:=f328,ins:=[oE,vI,oE],bx:=[],outs:=oE,bO:=[],loops:=[],cO:=[],bH:=[bP],bX:=some (rG bP)}
noncomputable def ajH:Entry:=aw 237 f237 [.agg q5,vI,vS] (.agg [kI,kI,kS])
noncomputable def ajI:Entry:=aw 238 f238 [.agg q5,vI,vS] (.agg iF)
noncomputable def EP:Entry:={f:=283,fn:=f283,ins:=[oE,vI,vI],bx:=[],outs:=oE,bO:=[],loops:=[],cO:=[],bH:=[bP],bX:=some (ui bP)}
noncomputable def ajJ:Entry:=bW 239 f239 [.one (.pb 5000 0),vS] [(5000,q8)] (.aP []) [q8] [] []
noncomputable def ajK:Entry:=bW 210 f210 [.one (.pb 5000 0),.agg [kI,kI,kS],kn] [(5000,q8)] (.aP []) [q8] [] []
noncomputable def ajL:Entry:=aw 241 f241 [vS] (.agg [kI,kI,kS])
noncomputable def ajM:Entry:=aw 243 f243 [.agg [kI,kI,kS]] vI
noncomputable def ajN:Entry:=aw 285 f285 [vI] vI
noncomputable def ajO:Entry:=aw 242 f242 [vS,vI] (.agg [kI,kI,kS])
noncomputable def ajP:Entry:=aw 284 f284 [vS] (.agg [kI,kI,kS])
noncomputable def ER:Entry:={f:=244,fn:=f244,ins:=[vS],bx:=[],outs:=qo,bO:=[],loops:=[],cO:=[],bH:=[cE],bX:=some uj}
noncomputable def ajQ:Entry:=aw 246 f246 [vS,vS] vB
noncomputable def ajR:Entry:=aw 289 f289 [.agg q9,vS] vB
noncomputable def ajS:Entry:=aw 334 f334 [.agg q9] gb
noncomputable def ajT:Entry:=aw 360 f360 [.agg q9] vB
noncomputable def ajU:Entry:=du 385 f385 [.agg q9,vI] vB [] [21]
noncomputable def ajV:Entry:=bW 410 f410 [kQ,.one (.fn 411 [] [.pb 5000 0])] [(5000,[kI])] vB [[kI]] [] []
noncomputable def ajW:Entry:=bW 427 f427 [kQ,.one (.fn 411 [] [.pb 5000 0])] [(5000,[kI])] vI [[kI]] [(0,lq [(8,vI),(0,kQ),(1,.one (.fn 411 [] [.pb 5000 0])),(7,vI)] [(5000,[kI])] [])] []
noncomputable def ajX:Entry:=bW 411 f411 [.agg q9,.one (.pb 5000 0)] [(5000,[kI])] vB [[kI]] [] []
noncomputable def ajY:Entry:=du 409 f409 [.agg q9] vB [(0,lq [(7,vI),(1,.one (.pb 1 0)),(6,vI)] [(1,q9)] [1])] [4]
noncomputable def ajZ:Entry:=bK 361 f361 [gb,.agg q9] gb [(1,lq [(53,vI),(0,gb),(51,kQ),(52,vI)] [] [0])]
noncomputable def akA:Entry:=bK 386 f386 [gb,kQ] gb [(0,lp ⟨[(18,vI),(5,eQ),(0,gb),(16,kQ),(1,kQ),(17,vI)],[]⟩ ⟨[(5,eQ),(1,kQ),(0,gb)],[]⟩),(2,lq [(58,vI),(0,gb),(56,eQ),(57,vI)] [] [0])]
noncomputable def akB:Entry:=bK 333 f333 [fi,vS] (.aP [vI,vI,vB]) [(0,lq [(7,vI),(1,vS),(0,fi)] [] [])]
noncomputable def akC:Entry:=bK 358 f358 [fi] vB [(0,lq [(11,vI),(0,fi),(9,fi),(10,vI)] [] [])]
noncomputable def akD:Entry:=aw 381 f381 [.agg yu,vI,vB] vB
noncomputable def akE:Entry:=du 359 f359 [fi,vS,vI] vI [(0,lq [(2,vI),(1,vS),(0,fi),(7,vI),(8,eQ)] [] []),(2,lp ⟨[(51,vI),(9,eQ),(2,vI),(1,vS),(0,fi),(49,eQ),(45,vB),(44,vI),(43,.one (.al 6272)),(7,vI),(50,vI)],[]⟩ ⟨[(1,vS),(0,fi),(45,vB),(44,vI),(43,eQ),(7,vI),(2,vI),(9,eQ)],[]⟩)] [8]
noncomputable def akF:Entry:=bK 382 f382 [fi,eB,vB,vB] eQ [(0,lq [(24,vI),(11,.one (.fn 406 [] [.pb 4 0,.pb 9 0,.pb 10 0])),(22,eB),(2,vB),(3,vB),(4,.one (.pb 4 0)),(10,.one (.pb 10 0)),(23,vI)] [(4,[uK]),(9,[rU]),(10,[jf])] [11,2,3,4,10]),(2,lp ⟨[(14,vI),(11,.one (.fn 406 [] [.pb 4 0,.pb 9 0,.pb 10 0])),(2,vB),(3,vB),(4,.one (.pb 4 0)),(10,.one (.pb 10 0))],[(4,[uK]),(9,[rU]),(10,[jf])]⟩ ⟨[(10,.one (.pb 10 0))],[(10,[jf])]⟩)]
noncomputable def akG:Entry:=bW 406 f406 [vI,.one (.pb 5000 0),.one (.pb 5001 0),.one (.pb 5002 0)] [(5000,[uK]),(5001,[rU]),(5002,[jf])] (.aP []) [[uK],[rU],[jf]] [] []
noncomputable def ES:Entry:={f:=407,fn:=f407,ins:=[eQ],bx:=[],outs:=eQ,bO:=[],loops:=[],cO:=[],bH:=[bh],bX:=some uk,back:=some 0}
noncomputable def akH:Entry:=aw 383 f383 [eB,vI] vB
noncomputable def akI:Entry:=bK 408 f408 [eB,vI] vI [(0,lq [(8,vI),(0,eB),(1,vI),(7,vI)] [] [])]
noncomputable def akJ:Entry:=aw 384 f384 [.agg yu,vU] vB
noncomputable def akK:Entry:=aw 245 f245 [vB] (.agg [kI,kI,kS])
noncomputable def akL:Entry:=bK 248 f248 [vS,kn] (.agg [kI,kI,kS]) [(0,lp ⟨[(1,kn),(4,.one (.pb 4 0)),(0,vS)],[(4,[kI,kI,kS])]⟩ ⟨[(4,.one (.pb 4 0)),(1,kn),(0,vS)],[(4,[kI,kI,kS])]⟩)]
noncomputable def akM:Entry:=du 290 f290 [vS,vU,vU] vS [(0,lq [(14,vI),(2,vU),(1,vU),(7,gf),(12,.one (.al 896)),(13,vI)] [] [7])] [5]
noncomputable def ET:Entry:={f:=203,fn:=f203,ins:=[vS,vS],bx:=[],outs:=vI,bO:=[],loops:=[],cO:=[],bH:=[.int .i64],bX:=some xW}
noncomputable def akN:Entry:=aw 291 f291 [vS,vI,vI] vS
noncomputable def akO:Entry:=aw 249 f249 [vI,.agg [kI,kI,kS],.agg [kI,kI,kS]] (.aP [.agg [kI,kI,kS],vI])
noncomputable def akP:Entry:=aw 292 f292 [vI,vI,vI] (.aP [vI,vI])
noncomputable def akQ:Entry:=aw 335 f335 [vI,vI] (.aP [vI,vB])
noncomputable def akR:Entry:=aw 336 f336 [vI,vI] (.aP [vI,vB])
noncomputable def akS:Entry:=aw 363 f363 [vI] (.one (.int .u64))
noncomputable def EU:Entry:={f:=362,fn:=f362,ins:=[.one (.int .u64),.one (.int .u64)],bx:=[],outs:=.aP [.one (.int .u64),.one (.int .u64)],bO:=[],loops:=[],cO:=[],bH:=[.int .u64,.int .u64],bX:=some primMul64}
noncomputable def akT:Entry:=du 364 f364 [.one (.int .u64),.one (.int .u64),.one (.int .u64)] (.aP [.one (.int .u64),.one (.int .u64)]) [(0,lp ⟨[(8,.one (.int .u64)),(2,.one (.int .u64)),(14,.one (.int .u64)),(9,.one (.int .u64)),(10,.one (.int .u64)),(13,.one (.int .u64)),(11,.one (.int .u64)),(16,.one (.int .u64)),(15,.one (.int .u64))],[]⟩ ⟨[(8,.one (.int .u64)),(2,.one (.int .u64)),(14,.one (.int .u64)),(15,.one (.int .u64)),(9,.one (.int .u64)),(10,.one (.int .u64)),(13,.one (.int .u64)),(11,.one (.int .u64))],[]⟩),(2,lp ⟨[(8,.one (.int .u64)),(2,.one (.int .u64)),(14,.one (.int .u64)),(17,.one (.int .u64)),(15,.one (.int .u64)),(9,.one (.int .u64)),(16,.one (.int .u64)),(18,.one (.int .u64)),(10,.one (.int .u64))],[]⟩ ⟨[(8,.one (.int .u64)),(2,.one (.int .u64)),(18,.one (.int .u64)),(14,.one (.int .u64)),(17,.one (.int .u64)),(15,.one (.int .u64))],[]⟩)] [24,17]
noncomputable def akU:Entry:=aw 387 f387 [.one (.int .u64)] vI
noncomputable def akV:Entry:=aw 412 f412 [.one (.int .u64)] vI
noncomputable def akW:Entry:=aw 337 f337 [vI,vI] (.aP [vI,vB])
noncomputable def akX:Entry:=aw 294 f294 [.agg [kI,kI,kS],.agg [kI,kI,kS]] vI
noncomputable def akY:Entry:=aw 293 f293 [vI,vI] vB
noncomputable def akZ:Entry:=bW 173 f173 [.one (.pb 5000 0),.agg q5] [(5000,q8)] (.aP [.agg iF,vS]) [[.undef,.undef,kI,kI,kS,kS,fZ,kI]] [] []
noncomputable def alA:Entry:=aw 72 f72 [.agg q2,.agg q4,.agg [kI,kI,kS]] (.agg q7)
noncomputable def alB:Entry:=aw 126 f126 [.agg q4] (.agg q7)
noncomputable def EV:Entry:={f:=174,fn:=f174,ins:=[eB],bx:=[],outs:=eQ,bO:=[],loops:=[],cO:=[],bH:=[bh],bX:=some (gH bh)}
noncomputable def alC:Entry:=aw 127 f127 [.agg q2,.agg q5,vS] (.aP [.agg iF,vS])
noncomputable def alD:Entry:=aw 30 f30 [vS,vS] vB
noncomputable def alE:Entry:=aw 70 f70 [vS,vS] vB
noncomputable def alF:Entry:=aw 10 f10 [.agg q0,.agg q0] vB
noncomputable def alG:Entry:=aw 32 f32 [.agg q2,.agg q2] vB
noncomputable def alH:Entry:=bK 73 f73 [ga,ga] vB [(0,lq [(5,vI),(1,ga),(0,ga)] [] [])]
noncomputable def alI:Entry:=bK 74 f74 [cg,cg] vB [(0,lq [(5,vI),(1,cg),(0,cg)] [] [])]
noncomputable def alJ:Entry:=aw 128 f128 [.agg [kI,kI,kS],.agg [kI,kI,kS]] vB
noncomputable def alK:Entry:=bK 33 f33 [kR,kR] vB [(0,lq [(5,vI),(1,kR),(0,kR)] [] [])]
noncomputable def alL:Entry:=aw 75 f75 [.agg q1,.agg q1] vB
noncomputable def alM:Entry:=aw 129 f129 [.agg rV,.agg rV] vB
noncomputable def alN:Entry:=aw 176 f176 [.agg mZ,.agg mZ] vB
noncomputable def alO:Entry:=bK 133 f133 [iE,iE] vB [(0,lq [(5,vI),(1,iE),(0,iE)] [] [])]
noncomputable def alP:Entry:=aw 179 f179 [.agg rW,.agg rW] vB
noncomputable def alQ:Entry:=aw 77 f77 [.agg [kI,kI,kS],.agg [kI,kI,kS]] vB
noncomputable def alR:Entry:=aw 131 f131 [.agg q4,.agg q4] vB
noncomputable def alS:Entry:=aw 177 f177 [.agg q5,.agg q5] vB
noncomputable def alT:Entry:=bK 211 f211 [cg,cg] vB [(0,lq [(5,vI),(1,cg),(0,cg)] [] [])]
noncomputable def alU:Entry:=aw 250 f250 [.agg [kI,kI,kS],.agg [kI,kI,kS]] vB
noncomputable def alV:Entry:=bK 212 f212 [gz,gz] vB [(0,lq [(5,vI),(1,gz),(0,gz)] [] [])]
noncomputable def alW:Entry:=aw 251 f251 [.agg iG,.agg iG] vB
noncomputable def alX:Entry:=bK 36 f36 [eB,eB] vB [(0,lq [(5,vI),(1,eB),(0,eB)] [] [])]
noncomputable def alY:Entry:=bK 130 f130 [mY,mY] vB [(0,lq [(5,vI),(1,mY),(0,mY)] [] [])]
noncomputable def alZ:Entry:=aw 132 f132 [.agg [oC,kI],.agg [oC,kI]] vB
noncomputable def amA:Entry:=bK 178 f178 [qm,qm] vB [(0,lq [(5,vI),(1,qm),(0,qm)] [] [])]
noncomputable def amB:Entry:=bK 34 f34 [jg,jg] vB [(0,lq [(5,vI),(1,jg),(0,jg)] [] [])]
noncomputable def amC:Entry:=aw 76 f76 [.agg oF,.agg oF] vB
noncomputable def amD:Entry:=aw 35 f35 [.agg [kI,kS],.agg [kI,kS]] vB
noncomputable def amE:Entry:=bK 37 f37 [cg,cg] vB [(0,lq [(5,vI),(1,cg),(0,cg)] [] [])]
noncomputable def amF:Entry:=aw 4 f4 [.agg q0] vB
noncomputable def amG:Entry:=du 11 f11 [.agg q0] vB [(0,lp ⟨[(4,vI),(3,.one (.pb 3 0)),(1,.one (.pb 1 0))],[(3,q7),(1,q0)]⟩ ⟨[(1,.one (.pb 1 0))],[(1,q0)]⟩),(2,lr [(5,vI),(1,.one (.pb 1 0))] [(1,q0)] [])] [12,7]
noncomputable def amH:Entry:=du 12 f12 [.agg q0] vB [(0,lp ⟨[(15,vI),(3,.one (.pb 3 0)),(1,.one (.pb 1 0))],[(3,q7),(1,q0)]⟩ ⟨[(1,.one (.pb 1 0))],[(1,q0)]⟩),(2,lr [(46,vI),(1,.one (.pb 1 0)),(44,cg),(45,vI)] [(1,q0)] [])] [13,7]
noncomputable def amI:Entry:=aw 5 f5 [.agg q0] vB
noncomputable def amJ:Entry:=du 13 f13 [.agg q0] vB [(2,lq [(5,vI),(1,.one (.pb 1 0)),(4,.one (.pb 4 0)),(38,vB),(37,vB),(28,.agg q4),(36,.agg q7),(30,.agg q2),(35,cg),(32,cg),(34,vI),(33,.one (.pb 4 16)),(31,.one (.pb 1 11)),(29,.one (.pb 1 0)),(27,.one (.pb 4 17)),(3,vI)] [(1,q0),(4,q1)] [1,38,37,28,36,30,35,32,34,33,31,29,27,3]),(0,lr [(1,.one (.pb 1 0)),(3,vI)] [(1,q0)] [])] [7]
noncomputable def amK:Entry:=aw 38 f38 [.agg q4,.agg q4] vB
noncomputable def amL:Entry:=bK 78 f78 [.agg q4] gf [(0,lp ⟨[(5,vI),(3,.one (.pb 3 0)),(4,gf),(1,.one (.pb 1 0))],[(3,q5),(1,q4)]⟩ ⟨[(3,.one (.pb 3 0)),(1,.one (.pb 1 0)),(4,gf)],[(3,q5),(1,q4)]⟩),(2,lp ⟨[(6,vI),(3,.one (.pb 3 0)),(4,gf),(1,.one (.pb 1 0))],[(3,q5),(1,q4)]⟩ ⟨[(1,.one (.pb 1 0)),(3,.one (.pb 3 0)),(4,gf)],[(1,q4),(3,q5)]⟩),(4,lq [(7,vI),(1,.one (.pb 1 0)),(4,gf)] [(1,q4)] [1,4])]
noncomputable def amM:Entry:=bK 134 f134 [vI] gf [(0,lq [(0,vI),(3,gf)] [] [0,3])]
noncomputable def amN:Entry:=aw 135 f135 [.agg [kI,kI,kS]] gf
noncomputable def amO:Entry:=aw 180 f180 [vI] gf
noncomputable def amP:Entry:=aw 136 f136 [vS] gf
noncomputable def amQ:Entry:=du 14 f14 [.agg q0] vB [(2,lq [(6,vI),(1,.one (.pb 1 0)),(5,vI),(4,.one (.pb 4 0)),(35,vB),(34,vB),(25,.agg q4),(33,.agg q7),(27,.agg q2),(32,cg),(29,cg),(31,vI),(30,.one (.pb 4 16)),(28,.one (.pb 1 11)),(26,.one (.pb 1 0)),(24,.one (.pb 4 17)),(11,kR),(12,vI),(13,vI)] [(1,q0),(4,q1)] [1,35,34,25,33,27,32,29,31,30,28,26,24,11,12,13]),(0,lr [(1,.one (.pb 1 0)),(13,vI),(11,kR),(12,vI)] [(1,q0)] [])] [6]
noncomputable def amR:Entry:=aw 39 f39 [.agg q4,.agg q4] vB
noncomputable def amS:Entry:=bK 79 f79 [cg,cg] vB [(0,lq [(13,vI),(1,cg),(0,cg),(12,vI)] [] [])]
noncomputable def amT:Entry:=bK 80 f80 [gz,gz] vB [(0,lq [(13,vI),(1,gz),(0,gz),(12,vI)] [] [])]
noncomputable def amU:Entry:=bK 81 f81 [eB,eB] vB [(0,lq [(13,vI),(1,eB),(0,eB),(12,vI)] [] [])]
noncomputable def EW:List Entry:=[OP,ZA,ZB,ZC,ZD,ZE,ZF,ZG,ZH,ZI,ZJ,ZK,ZL,ZM,ZN,ZO,ZP,ZQ,ZR,ZS,ZT,ZU,ZV,ZW,ZX,ZY,ZZ,aaA,aaB,aaC,aaD,aaE,aaF,aaG,aaH,aaI,aaJ,aaK,aaL,aaM]
noncomputable def EX:List Entry:=[aaN,aaO,aaP,aaQ,aaR,aaS,aaT,aaU,aaV,aaW,aaX,aaY,aaZ,abA,abB,abC,abD,abE,abF,abG,abH,abI,abJ,abK,abL,abM,abN,abO,abP,abQ,abR,abS,abT,abU,abV,abW,abX,abY,abZ,acA]
noncomputable def EY:List Entry:=[acB,acC,acD,acE,acF,acG,acH,acI,acJ,acK,acL,acM,acN,acO,acP,acQ,acR,acS,acT,acU,acV,acW,acX,acY,acZ,adA,adB,adC,adD,adE,adF,adG,adH,adI,adJ,adK,adL,adM,adN,adO]
noncomputable def EZ:List Entry:=[adP,adQ,adR,adS,adT,adU,adV,adW,adX,adY,adZ,aeA,aeB,aeC,aeD,aeE,aeF,aeG,aeH,aeI,aeJ,aeK,aeL,aeM,aeN,aeO,aeP,aeQ,aeR,aeS,aeT,aeU,aeV,aeW,aeX,aeY,aeZ,afA,afB,afC]
noncomputable def Fa:List Entry:=[afD,afE,afF,afG,afH,afI,afJ,afK,afL,afM,afN,afO,afP,afQ,afR,afS,afT,afU,afV,afW,afX,afY,afZ,agA,agB,agC,agD,agE,agF,agG,agH,agI,EH,agJ,agK,agL,agM,agN,agO,agP]
noncomputable def Fb:List Entry:=[agQ,agR,agS,agT,EI,agU,agV,agW,agX,agY,agZ,ahA,ahB,ahC,ahD,ahE,ahF,EJ,ahG,ahH,ahI,ahJ,EK,ahK,ahL,ahM,ahN,ahO,ahP,ahQ,ahR,ahS,ahT,ahU,ahV,ahW,ahX,ahY,ahZ,aiA]
noncomputable def Fe:List Entry:=[aiB,aiC,aiD,aiE,aiF,aiG,aiH,aiI,aiJ,aiK,EL,EM,aiL,aiM,aiN,aiO,aiP,aiQ,aiR,aiS,aiT,aiU,aiV,aiW,aiX,EN,aiY,aiZ,ajA,ajB,ajC,ajD,ajE,ajF,ajG,EO,ajH,ajI,EP,ajJ]
noncomputable def Ff:List Entry:=[ajK,ajL,ajM,ajN,ajO,ajP,ER,ajQ,ajR,ajS,ajT,ajU,ajV,ajW,ajX,ajY,ajZ,akA,akB,akC,akD,akE,akF,akG,ES,akH,akI,akJ,akK,akL,akM,ET,akN,akO,akP,akQ,akR,akS,EU,akT]
noncomputable def Fg:List Entry:=[akU,akV,akW,akX,akY,akZ,alA,alB,EV,alC,alD,alE,alF,alG,alH,alI,alJ,alK,alL,alM,alN,alO,alP,alQ,alR,alS,alT,alU,alV,alW,alX,alY,alZ,amA,amB,amC,amD,amE,amF,amG]
noncomputable def Fh:List Entry:=[amH,amI,amJ,amK,amL,amM,amN,amO,amP,amQ,amR,amS,amT,amU]
noncomputable def Fi:List Entry:=EW++EX++EY++EZ++Fa++Fb++Fe++Ff++Fg++Fh
noncomputable def tab (e:Nat):Entry:=ud Fi OP e
def amV:List (FuncId×List Nat):=[(3,[0]),(4,[358]),(5,[361]),(6,[1]),(7,[53]),(8,[27]),(9,[161]),(10,[332]),(11,[359]),(12,[360]),(13,[362]),(14,[369]),(15,[2]),(16,[6]),(17,[23]),(18,[25]),(19,[19]),(20,[26]),(21,[54]),(22,[92]),(23,[28]),(24,[32]),(25,[49]),(26,[51]),(27,[45]),(28,[52]),(29,[162]),(30,[330]),(31,[245]),(32,[333]),(33,[337]),(34,[354]),(35,[356]),(36,[350]),(37,[357]),(38,[363]),(39,[370]),(40,[3]),(41,[4]),(42,[7]),(43,[24]),(44,[12]),(45,[55]),(46,[58]),(47,[74]),(48,[75]),(49,[76]),(50,[89]),(51,[80]),(52,[93]),(53,[157]),(54,[29]),(55,[30]),(56,[33]),(57,[50]),(58,[38]),(59,[163]),(60,[166]),(61,[195]),(62,[197]),(63,[231,239]),(64,[241]),(65,[234]),(66,[226]),(67,[242]),(68,[244]),(69,[202]),(70,[331]),(71,[246]),(72,[326]),(73,[334]),(74,[335]),(75,[338]),(76,[355]),(77,[343]),(78,[364]),(79,[371]),(80,[372]),(81,[373]),(82,[5]),(83,[8]),(84,[20]),(85,[13]),(86,[21]),(87,[10]),(88,[56]),(89,[60]),(90,[62]),(91,[77]),(92,[78]),(93,[82]),(94,[91]),(95,[90]),(96,[81]),(97,[94]),(98,[95]),(99,[158]),(100,[159]),(101,[31]),(102,[34]),(103,[46]),(104,[39]),(105,[47]),(106,[36]),(107,[164]),(108,[173]),(109,[175]),(110,[171]),(111,[176]),(112,[196]),(113,[198]),(114,[199]),(115,[205]),(116,[230]),(117,[233]),(118,[232,240]),(119,[235]),(120,[223,227]),(121,[229]),(122,[243]),(123,[203]),(124,[247]),(125,[248]),(126,[327]),(127,[329]),(128,[336]),(129,[339]),(130,[351]),(131,[344]),(132,[352]),(133,[341]),(134,[365]),(135,[366]),(136,[368]),(137,[9]),(138,[14]),(139,[22]),(140,[11]),(141,[57]),(142,[59]),(143,[63]),(144,[79]),(145,[83]),(146,[97]),(147,[98]),(148,[156]),(149,[73]),(150,[96]),(151,[160]),(152,[99]),(153,[35]),(154,[40]),(155,[48]),(156,[37]),(157,[165]),(158,[174]),(159,[172]),(160,[177]),(161,[179]),(162,[180]),(163,[200]),(164,[201]),(165,[206]),(166,[225]),(167,[236]),(168,[238]),(169,[224,228]),(170,[204]),(171,[249]),(172,[252]),(173,[325]),(174,[328]),(175,[253]),(176,[340]),(177,[345]),(178,[353]),(179,[342]),(180,[367]),(181,[15]),(182,[17]),(183,[61]),(184,[64]),(185,[65]),(186,[84]),(187,[88]),(188,[100]),(189,[41]),(190,[43]),(191,[167]),(192,[169]),(193,[178]),(194,[181]),(195,[182]),(196,[183]),(197,[170]),(198,[207]),(199,[209]),(200,[210]),(201,[221]),(202,[237]),(203,[311]),(204,[250]),(205,[251]),(206,[255]),(207,[254]),(208,[256]),(209,[257]),(210,[280]),(211,[346]),(212,[348]),(213,[16]),(214,[18]),(215,[66]),(216,[72]),(217,[85]),(218,[101]),(219,[102]),(220,[103]),(221,[104]),(222,[108]),(223,[124]),(224,[42]),(225,[44]),(226,[168]),(227,[184]),(228,[208]),(229,[211]),(230,[222]),(232,[258]),(233,[259]),(234,[268]),(235,[267]),(236,[263]),(237,[276]),(238,[277]),(239,[279]),(240,[262]),(241,[281]),(242,[284]),(243,[282]),(244,[286]),(245,[308]),(246,[287]),(247,[260]),(248,[309]),(249,[313]),(250,[347]),(251,[349]),(252,[67]),(253,[70]),(254,[86]),(255,[105]),(256,[109]),(257,[111]),(258,[110]),(259,[119]),(260,[118]),(261,[121]),(262,[123]),(263,[114]),(264,[125]),(265,[127]),(266,[128]),(267,[146]),(268,[148]),(269,[154]),(270,[185]),(271,[194]),(272,[212]),(273,[219]),(279,[261]),(280,[269]),(281,[264]),(282,[270]),(283,[278]),(284,[285]),(285,[283]),(289,[288]),(290,[310]),(291,[312]),(292,[314]),(293,[324]),(294,[323]),(295,[68]),(296,[87]),(297,[106]),(298,[107]),(299,[112]),(300,[115]),(301,[116]),(302,[117]),(303,[120]),(304,[122]),(305,[126]),(306,[129]),(307,[147]),(308,[149]),(309,[155]),(310,[186]),(311,[190]),(312,[213]),(313,[215]),(314,[216]),(315,[214]),(316,[220]),(325,[218]),(326,[271,273]),(327,[274]),(328,[275]),(329,[265]),(330,[266]),(331,[272]),(333,[298]),(334,[289]),(335,[315]),(336,[316]),(337,[322]),(338,[69]),(339,[113]),(340,[137]),(341,[130]),(342,[150]),(343,[151]),(344,[152]),(345,[153]),(346,[187]),(347,[188]),(348,[217]),(358,[299]),(359,[301]),(360,[290]),(361,[296]),(362,[318]),(363,[317]),(364,[319]),(365,[71]),(366,[138]),(367,[131]),(368,[135]),(369,[134]),(370,[189]),(371,[193]),(381,[300]),(382,[302]),(383,[305]),(384,[307]),(385,[291]),(386,[297]),(387,[320]),(388,[139]),(389,[141]),(390,[144]),(391,[132]),(392,[136]),(393,[191]),(399,[192]),(406,[303]),(407,[304]),(408,[306]),(409,[295]),(410,[292]),(411,[294]),(412,[321]),(413,[140]),(414,[142]),(415,[143]),(416,[145]),(417,[133]),(427,[293])]
def gV (f:FuncId):List Nat:=MU f amV
noncomputable def cF (e n:Nat):xY (Nk (tab e)) (Option (bN (tab e).bH)):=cur (Nk (tab e)) (D T tab gV n e)
noncomputable def cL (e id n m:Nat):xY (Nj (ya id (tab e).loops).1) (Option (Sum (bN (ya id (tab e).loops).2.2) (bN (tab e).bH))):=cur _ (Ye T (pJ tab gV (D T tab gV n)) (tab e) n id (ya id (tab e).loops) m)
abbrev yv:Nat:=358
theorem OQ:dH prog EW:=dH.of (by kernel_rfl) (by kernel_rfl)
theorem amW:dH prog EX:=dH.of (by kernel_rfl) (by kernel_rfl)
theorem amX:dH prog EY:=dH.of (by kernel_rfl) (by kernel_rfl)
theorem amY:dH prog EZ:=dH.of (by kernel_rfl) (by kernel_rfl)
theorem amZ:dH prog Fa:=dH.of (by kernel_rfl) (by kernel_rfl)
theorem anA:dH prog Fb:=dH.of (by kernel_rfl) (by kernel_rfl)
theorem anB:dH prog Fe:=dH.of (by kernel_rfl) (by kernel_rfl)
theorem anC:dH prog Ff:=dH.of (by kernel_rfl) (by kernel_rfl)
theorem anD:dH prog Fg:=dH.of (by kernel_rfl) (by kernel_rfl)
theorem anE:dH prog Fh:=dH.of (by kernel_rfl) (by kernel_rfl)
theorem anF:uc prog eM=true:=by kernel_rfl
theorem anG:dH prog Fi:=((((((((OQ.app amW).app amX).app amY).app amZ).app anA).app anB).app anC).app anD).app anE
end Go.Proofs.YtfpfjmahdneehaaGreatDoor
