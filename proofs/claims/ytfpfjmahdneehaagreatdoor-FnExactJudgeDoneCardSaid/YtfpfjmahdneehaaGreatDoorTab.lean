/- Entries of the functions, and the closed facts about them. -/
import Derived.Test.YtfpfjmahdneehaaGreatDoorEv4
import Derived.Test.YtfpfjmahdneehaaGreatDoorProg
import Derived.KernelRfl
namespace Go.Proofs.YtfpfjmahdneehaaGreatDoor
open Go Go.Ev Go.Proofs.Tryz
@[reducible] def cE:CT:=(.sl (.one .str))
@[reducible] def ie:CT:=(.sl (.one .bool))
@[reducible] def fb:CT:=(.sl (.one (.int .u8)))
@[reducible] def bn:CT:=(.sl (.one (.int .i64)))
@[reducible] def aL:CT:=(.sl (.cons (.int .i64) (.cons (.int .i64) (.one .str))))
@[reducible] def qF:CT:=(.tree (.cons (.int .i64) (.cons (.int .i64) (.cons .str (.one .bool)))))
@[reducible] def cX:CT:=(.sl (.cons (.int .i64) (.cons (.int .i64) (.cons (.int .i64) (.one .str)))))
@[reducible] def bQ:CT:=(.sl (.cons (.int .i64) (.cons .str (.cons (.int .i64) (.cons (.int .i64) (.one .str))))))
@[reducible] def Fw:CT:=(.sl (.cons (.int .i64) (.cons (.int .i64) (.cons .str (.cons .bool (.cons (.int .i64) (.one (.int .i64))))))))
@[reducible] def ei:CT:=(.sl (.cons (.int .i64) (.cons (.int .i64) (.cons (.int .i64) (.cons (.int .i64) (.cons (.int .i64) (.cons (.int .i64) (.cons (.int .i64) (.cons cX (.cons .bool (.one .str)))))))))))
@[reducible] def fC:CT:=(.sl (.cons (.int .i64) (.cons (.int .i64) (.cons (.int .i64) (.cons (.int .i64) (.cons (.int .i64) (.cons cX (.cons aL (.cons bQ (.cons (.int .i64) (.cons (.int .i64) (.cons bn (.cons .str (.cons (.int .i64) (.cons ie (.cons bn (.cons bn (.cons (.int .i64) (.cons aL (.cons bQ (.cons (.int .i64) (.cons (.int .i64) (.cons bn (.cons .str (.cons fb (.cons (.int .i64) (.one ei)))))))))))))))))))))))))))
abbrev ag:Type:=List Int
abbrev cf:Type:=List Bool
abbrev af:Type:=List O
abbrev bu:Type:=List UInt8
abbrev eA:Type:=Int×(Int×O)
abbrev ae:Type:=List eA
abbrev PL:Type:=Int×eA
abbrev PM:Type:=Int×(Int×O×Bool)
abbrev aW:Type:=List PL
abbrev sv:Type:=Int×(O×eA)
abbrev aT:Type:=List (RT PM)
abbrev ai:Type:=List sv
abbrev abO:Type:=Int×(Int×O×Bool×Int×Int)
abbrev ch:Type:=List abO
abbrev Fx:Type:=Int×(Int×Int×Int×Int×Int×Int×aW×Bool×O)
abbrev bh:Type:=List Fx
abbrev qG:Type:=Int×(Int×Int×Int×Int×aW×ae×ai×Int×Int×ag×O×Int×cf×ag×ag×Int×ae×ai×Int×Int×ag×O×bu×Int×bh)
abbrev bZ:Type:=List qG
def fR (xs:aT) (i:Int):Option (Int×Int×O×Bool×aT):=pT qF xs i
def mj (xs:aT) (i:Nat):Option (Int×Int×O×Bool×aT):=jV qF xs i
def ld (e:Int×Int×O×Bool×aT):RT PM:=tQ (Zu qF) e
@[reducible] def kI:CK:=.int .i64
@[reducible] def kU:CK:=.int .u8
@[reducible] def kB:CK:=.bool
@[reducible] def kS:CK:=.str
@[reducible] def vI:bq:=.one kI
@[reducible] def vU:bq:=.one kU
@[reducible] def vB:bq:=.one kB
@[reducible] def vS:bq:=.one kS
@[reducible] def PN:CK:=.sh qF
@[reducible] def PQ:CK:=.sh ie
@[reducible] def nu:CK:=.sh bn
@[reducible] def vh:CK:=.sh cX
@[reducible] def gB:CK:=.sh aL
@[reducible] def vi:CK:=.sh Fw
@[reducible] def sw:CK:=.sh bQ
@[reducible] def Fy:CK:=.sh ei
@[reducible] def PR:CK:=.sh fC
@[reducible] def vj:CK:=.sh cE
@[reducible] def oU:CK:=.sh fb
@[reducible] def PS:CK:=.own qF
@[reducible] def sx:CK:=.own ie
@[reducible] def jk:CK:=.own bn
@[reducible] def vk:CK:=.own cX
@[reducible] def gb:CK:=.own aL
@[reducible] def abP:CK:=.own Fw
@[reducible] def oV:CK:=.own bQ
@[reducible] def Fz:CK:=.own ei
@[reducible] def PT:CK:=.own fC
@[reducible] def lg:CK:=.own cE
@[reducible] def FA:CK:=.own fb
@[reducible] def lh:bq:=.one PN
@[reducible] def nv:bq:=.one PQ
@[reducible] def eB:bq:=.one nu
@[reducible] def iI:bq:=.one vh
@[reducible] def cp:bq:=.one gB
@[reducible] def fk:bq:=.one vi
@[reducible] def gC:bq:=.one sw
@[reducible] def jl:bq:=.one Fy
@[reducible] def lj:bq:=.one PR
@[reducible] def gf:bq:=.one vj
@[reducible] def qH:bq:=.one oU
@[reducible] def qI:bq:=.one PS
@[reducible] def jm:bq:=.one sx
@[reducible] def eS:bq:=.one jk
@[reducible] def PU:bq:=.one vk
@[reducible] def kD:bq:=.one gb
@[reducible] def gg:bq:=.one abP
@[reducible] def oW:bq:=.one oV
@[reducible] def PV:bq:=.one Fz
@[reducible] def PX:bq:=.one PT
@[reducible] def qJ:bq:=.one lg
@[reducible] def gh:bq:=.one FA
@[reducible] def q0:List CK:=[vj,vj,gB,gB,kI,PR,Fy,kI,kS,nu,nu,gB]
@[reducible] def q1:List CK:=[kI,kI,kI,kI,kI,vh,gB,sw,kI,kI,nu,kS,kI,PQ,nu,nu,kI,gB,sw,kI,kI,nu,kS,oU,kI,Fy]
@[reducible] def q2:List CK:=[vj,vj,gB,gB]
@[reducible] def q3:List CK:=[gb,oV,kI,kI,lg,lg,kS,lg,kS,kI,kB]
@[reducible] def q4:List CK:=[gB,sw,kI,kI,nu,kS]
@[reducible] def q5:List CK:=[gB,sw,kI,kI]
@[reducible] def q6:List CK:=[kI,kI,kS,kB,.nl]
@[reducible] def q7:List CK:=[gb,oV,kI,kI,jk,kS]
@[reducible] def q8:List CK:=[gb,oV,kI,kI,kS,kS,gb,kI]
@[reducible] def q9:List CK:=[kI,kI,kS,kB,PN]
@[reducible] def iJ:List CK:=[gb,oV,kI,kI]
@[reducible] def oX:List CK:=[kI,kI,kI,kI,kI,kI,kI,vh,kB,kS]
@[reducible] def sy:List CK:=[kI,kI,kI,kI,vh,gB,sw,kI,kI,nu,kS]
@[reducible] def kE:List CK:=[kI,kI,kS,kB,PS]
@[reducible] def iK:List CK:=[kI,kS,kI,kI,kS]
@[reducible] def nw:List CK:=[kI,kI,vh]
@[reducible] def yX:List CK:=[.nl,.nl,kI,kI,.nl,kS]
@[reducible] def mm:List CK:=[.pb 5001 0,gb]
@[reducible] def sA:List CK:=[kI,kI,kI,kS]
@[reducible] def yY:List CK:=[kI,kI,kS,kB,kI,kI]
def eO:List (TypeId×TyI):=[
 (3,⟨.int .i64,1,8,[.i .i64 0],some (.one (.int .i64)),false⟩),
 (4,⟨.bool,1,1,[.b false],some (.one .bool),false⟩),
 (5,⟨.int .u8,1,1,[.i .u8 0],some (.one (.int .u8)),false⟩),
 (9,⟨.str,1,16,[.s []],some (.one .str),false⟩),
 (22,⟨.slice 9,1,24,[.nl],some (.one cE),false⟩),
 (23,⟨.slice 146,1,24,[.nl],some (.one aL),false⟩),
 (25,⟨.struct [(0,22),(1,22),(2,23),(3,23)],4,96,[.nl,.nl,.nl,.nl],some (.cons cE (.cons cE (.cons aL (.one aL)))),false⟩),
 (26,⟨.slice 106,1,24,[.nl],some (.one fC),false⟩),
 (27,⟨.slice 109,1,24,[.nl],some (.one ei),false⟩),
 (29,⟨.struct [(0,3),(1,9)],2,24,[.i .i64 0,.s []],some (.cons (.int .i64) (.one .str)),true⟩),
 (30,⟨.slice 3,1,24,[.nl],some (.one bn),false⟩),
 (31,⟨.slice 111,1,24,[.nl],some (.one aL),false⟩),
 (33,⟨.struct [(0,25),(4,3),(5,26),(6,27),(7,29),(9,30),(10,30),(11,31)],12,248,[.nl,.nl,.nl,.nl,.i .i64 0,.nl,.nl,.i .i64 0,.s [],.nl,.nl,.nl],some (.cons cE (.cons cE (.cons aL (.cons aL (.cons (.int .i64) (.cons fC (.cons ei (.cons (.int .i64) (.cons .str (.cons bn (.cons bn (.one aL)))))))))))),false⟩),
 (36,⟨.slice 166,1,24,[.nl],some (.one aL),false⟩),
 (38,⟨.struct [(0,22),(1,22),(2,36),(3,36)],4,96,[.nl,.nl,.nl,.nl],some (.cons cE (.cons cE (.cons aL (.one aL)))),false⟩),
 (39,⟨.slice 86,1,24,[.nl],some (.one fC),false⟩),
 (40,⟨.slice 119,1,24,[.nl],some (.one ei),false⟩),
 (41,⟨.struct [(0,3),(1,9)],2,24,[.i .i64 0,.s []],some (.cons (.int .i64) (.one .str)),true⟩),
 (42,⟨.slice 75,1,24,[.nl],some (.one aL),false⟩),
 (44,⟨.struct [(0,38),(4,3),(5,39),(6,40),(7,41),(9,30),(10,30),(11,42)],12,248,[.nl,.nl,.nl,.nl,.i .i64 0,.nl,.nl,.i .i64 0,.s [],.nl,.nl,.nl],some (.cons cE (.cons cE (.cons aL (.cons aL (.cons (.int .i64) (.cons fC (.cons ei (.cons (.int .i64) (.cons .str (.cons bn (.cons bn (.one aL)))))))))))),false⟩),
 (54,⟨.slice 140,1,24,[.nl],some (.one aL),false⟩),
 (55,⟨.slice 143,1,24,[.nl],some (.one bQ),false⟩),
 (57,⟨.struct [(0,54),(1,55),(2,3),(3,3)],4,64,[.nl,.nl,.i .i64 0,.i .i64 0],some (.cons aL (.cons bQ (.cons (.int .i64) (.one (.int .i64))))),false⟩),
 (59,⟨.struct [(0,57),(4,30),(5,9)],6,104,[.nl,.nl,.i .i64 0,.i .i64 0,.nl,.s []],some (.cons aL (.cons bQ (.cons (.int .i64) (.cons (.int .i64) (.cons bn (.one .str)))))),false⟩),
 (75,⟨.struct [(0,3),(1,3),(2,9)],3,32,[.i .i64 0,.i .i64 0,.s []],some (.cons (.int .i64) (.cons (.int .i64) (.one .str))),true⟩),
 (76,⟨.slice 89,1,24,[.nl],some (.one cX),false⟩),
 (78,⟨.struct [(0,3),(1,3),(2,76)],3,40,[.i .i64 0,.i .i64 0,.nl],some (.cons (.int .i64) (.cons (.int .i64) (.one cX))),false⟩),
 (80,⟨.struct [(0,3),(1,3),(2,78),(5,59)],11,160,[.i .i64 0,.i .i64 0,.i .i64 0,.i .i64 0,.nl,.nl,.nl,.i .i64 0,.i .i64 0,.nl,.s []],some (.cons (.int .i64) (.cons (.int .i64) (.cons (.int .i64) (.cons (.int .i64) (.cons cX (.cons aL (.cons bQ (.cons (.int .i64) (.cons (.int .i64) (.cons bn (.one .str))))))))))),false⟩),
 (81,⟨.slice 4,1,24,[.nl],some (.one ie),false⟩),
 (82,⟨.slice 5,1,24,[.nl],some (.one fb),false⟩),
 (84,⟨.struct [(0,82),(1,3)],2,32,[.nl,.i .i64 0],some (.cons fb (.one (.int .i64))),false⟩),
 (86,⟨.struct [(0,3),(1,80),(12,3),(13,81),(14,30),(15,30),(16,3),(17,59),(23,84),(25,40)],26,416,[.i .i64 0,.i .i64 0,.i .i64 0,.i .i64 0,.i .i64 0,.nl,.nl,.nl,.i .i64 0,.i .i64 0,.nl,.s [],.i .i64 0,.nl,.nl,.nl,.i .i64 0,.nl,.nl,.i .i64 0,.i .i64 0,.nl,.s [],.nl,.i .i64 0,.nl],some (.cons (.int .i64) (.cons (.int .i64) (.cons (.int .i64) (.cons (.int .i64) (.cons (.int .i64) (.cons cX (.cons aL (.cons bQ (.cons (.int .i64) (.cons (.int .i64) (.cons bn (.cons .str (.cons (.int .i64) (.cons ie (.cons bn (.cons bn (.cons (.int .i64) (.cons aL (.cons bQ (.cons (.int .i64) (.cons (.int .i64) (.cons bn (.cons .str (.cons fb (.cons (.int .i64) (.one ei)))))))))))))))))))))))))),false⟩),
 (89,⟨.struct [(0,3),(1,75)],4,40,[.i .i64 0,.i .i64 0,.i .i64 0,.s []],some (.cons (.int .i64) (.cons (.int .i64) (.cons (.int .i64) (.one .str)))),true⟩),
 (93,⟨.slice 192,1,24,[.nl],some (.one cX),false⟩),
 (95,⟨.struct [(0,3),(1,3),(2,93)],3,40,[.i .i64 0,.i .i64 0,.nl],some (.cons (.int .i64) (.cons (.int .i64) (.one cX))),false⟩),
 (96,⟨.slice 258,1,24,[.nl],some (.one aL),false⟩),
 (97,⟨.slice 261,1,24,[.nl],some (.one bQ),false⟩),
 (99,⟨.struct [(0,96),(1,97),(2,3),(3,3)],4,64,[.nl,.nl,.i .i64 0,.i .i64 0],some (.cons aL (.cons bQ (.cons (.int .i64) (.one (.int .i64))))),false⟩),
 (101,⟨.struct [(0,99),(4,30),(5,9)],6,104,[.nl,.nl,.i .i64 0,.i .i64 0,.nl,.s []],some (.cons aL (.cons bQ (.cons (.int .i64) (.cons (.int .i64) (.cons bn (.one .str)))))),false⟩),
 (103,⟨.struct [(0,3),(1,3),(2,95),(5,101)],11,160,[.i .i64 0,.i .i64 0,.i .i64 0,.i .i64 0,.nl,.nl,.nl,.i .i64 0,.i .i64 0,.nl,.s []],some (.cons (.int .i64) (.cons (.int .i64) (.cons (.int .i64) (.cons (.int .i64) (.cons cX (.cons aL (.cons bQ (.cons (.int .i64) (.cons (.int .i64) (.cons bn (.one .str))))))))))),false⟩),
 (104,⟨.struct [(0,82),(1,3)],2,32,[.nl,.i .i64 0],some (.cons fb (.one (.int .i64))),false⟩),
 (106,⟨.struct [(0,3),(1,103),(12,3),(13,81),(14,30),(15,30),(16,3),(17,101),(23,104),(25,27)],26,416,[.i .i64 0,.i .i64 0,.i .i64 0,.i .i64 0,.i .i64 0,.nl,.nl,.nl,.i .i64 0,.i .i64 0,.nl,.s [],.i .i64 0,.nl,.nl,.nl,.i .i64 0,.nl,.nl,.i .i64 0,.i .i64 0,.nl,.s [],.nl,.i .i64 0,.nl],some (.cons (.int .i64) (.cons (.int .i64) (.cons (.int .i64) (.cons (.int .i64) (.cons (.int .i64) (.cons cX (.cons aL (.cons bQ (.cons (.int .i64) (.cons (.int .i64) (.cons bn (.cons .str (.cons (.int .i64) (.cons ie (.cons bn (.cons bn (.cons (.int .i64) (.cons aL (.cons bQ (.cons (.int .i64) (.cons (.int .i64) (.cons bn (.cons .str (.cons fb (.cons (.int .i64) (.one ei)))))))))))))))))))))))))),false⟩),
 (109,⟨.struct [(0,3),(1,3),(2,3),(3,3),(4,3),(5,3),(6,3),(7,93),(8,4),(9,9)],10,104,[.i .i64 0,.i .i64 0,.i .i64 0,.i .i64 0,.i .i64 0,.i .i64 0,.i .i64 0,.nl,.b false,.s []],some (.cons (.int .i64) (.cons (.int .i64) (.cons (.int .i64) (.cons (.int .i64) (.cons (.int .i64) (.cons (.int .i64) (.cons (.int .i64) (.cons cX (.cons .bool (.one .str)))))))))),false⟩),
 (111,⟨.struct [(0,3),(1,3),(2,9)],3,32,[.i .i64 0,.i .i64 0,.s []],some (.cons (.int .i64) (.cons (.int .i64) (.one .str))),true⟩),
 (119,⟨.struct [(0,3),(1,3),(2,3),(3,3),(4,3),(5,3),(6,3),(7,76),(8,4),(9,9)],10,104,[.i .i64 0,.i .i64 0,.i .i64 0,.i .i64 0,.i .i64 0,.i .i64 0,.i .i64 0,.nl,.b false,.s []],some (.cons (.int .i64) (.cons (.int .i64) (.cons (.int .i64) (.cons (.int .i64) (.cons (.int .i64) (.cons (.int .i64) (.cons (.int .i64) (.cons cX (.cons .bool (.one .str)))))))))),false⟩),
 (140,⟨.struct [(0,3),(1,3),(2,9)],3,32,[.i .i64 0,.i .i64 0,.s []],some (.cons (.int .i64) (.cons (.int .i64) (.one .str))),true⟩),
 (143,⟨.struct [(0,3),(1,9),(2,140)],5,56,[.i .i64 0,.s [],.i .i64 0,.i .i64 0,.s []],some (.cons (.int .i64) (.cons .str (.cons (.int .i64) (.cons (.int .i64) (.one .str))))),true⟩),
 (146,⟨.struct [(0,3),(1,3),(2,9)],3,32,[.i .i64 0,.i .i64 0,.s []],some (.cons (.int .i64) (.cons (.int .i64) (.one .str))),true⟩),
 (166,⟨.struct [(0,3),(1,3),(2,9)],3,32,[.i .i64 0,.i .i64 0,.s []],some (.cons (.int .i64) (.cons (.int .i64) (.one .str))),true⟩),
 (192,⟨.struct [(0,3),(1,111)],4,40,[.i .i64 0,.i .i64 0,.i .i64 0,.s []],some (.cons (.int .i64) (.cons (.int .i64) (.cons (.int .i64) (.one .str)))),true⟩),
 (197,⟨.ptr,1,8,[.eV],none,false⟩),
 (200,⟨.struct [(0,57),(4,22),(5,22),(6,9),(7,22),(8,9),(9,3),(10,4)],11,184,[.nl,.nl,.i .i64 0,.i .i64 0,.nl,.nl,.s [],.nl,.s [],.i .i64 0,.b false],some (.cons aL (.cons bQ (.cons (.int .i64) (.cons (.int .i64) (.cons cE (.cons cE (.cons .str (.cons cE (.cons .str (.cons (.int .i64) (.one .bool))))))))))),false⟩),
 (219,⟨.struct [(0,57),(4,9),(5,9),(6,54),(7,3)],8,128,[.nl,.nl,.i .i64 0,.i .i64 0,.s [],.s [],.nl,.i .i64 0],some (.cons aL (.cons bQ (.cons (.int .i64) (.cons (.int .i64) (.cons .str (.cons .str (.cons aL (.one (.int .i64))))))))),false⟩),
 (230,⟨.slice 232,1,24,[.nl],some (.one qF),false⟩),
 (232,⟨.struct [(0,3),(1,3),(2,9),(3,4),(4,230)],5,64,[.i .i64 0,.i .i64 0,.s [],.b false,.nl],some (.cons (.int .i64) (.cons (.int .i64) (.cons .str (.cons .bool (.one qF))))),false⟩),
 (239,⟨.struct [(0,197),(1,54)],2,32,[.eV,.nl],none,false⟩),
 (258,⟨.struct [(0,3),(1,3),(2,9)],3,32,[.i .i64 0,.i .i64 0,.s []],some (.cons (.int .i64) (.cons (.int .i64) (.one .str))),true⟩),
 (261,⟨.struct [(0,3),(1,9),(2,258)],5,56,[.i .i64 0,.s [],.i .i64 0,.i .i64 0,.s []],some (.cons (.int .i64) (.cons .str (.cons (.int .i64) (.cons (.int .i64) (.one .str))))),true⟩),
 (264,⟨.struct [(0,9),(1,3),(2,4)],3,32,[.s [],.i .i64 0,.b false],some (.cons .str (.cons (.int .i64) (.one .bool))),true⟩),
 (303,⟨.struct [(0,9),(1,4)],2,24,[.s [],.b false],some (.cons .str (.one .bool)),true⟩),
 (308,⟨.int .u64,1,8,[.i .u64 0],some (.one (.int .u64)),false⟩),
 (341,⟨.slice 360,1,24,[.nl],some (.one Fw),false⟩),
 (347,⟨.iface,1,16,[.er false],none,false⟩),
 (360,⟨.struct [(0,3),(1,3),(2,9),(3,4),(4,3),(5,3)],6,56,[.i .i64 0,.i .i64 0,.s [],.b false,.i .i64 0,.i .i64 0],some (.cons (.int .i64) (.cons (.int .i64) (.cons .str (.cons .bool (.cons (.int .i64) (.one (.int .i64))))))),true⟩),
 (361,⟨.int .u64,1,8,[.i .u64 0],some (.one (.int .u64)),false⟩)]
def T (t:TypeId):Option TyI:=rW t eO
noncomputable def PY:Entry:=ax 3 f3 [.agg q0] vB
noncomputable def abQ:Entry:=ax 6 f6 [.agg q0,vI] vI
noncomputable def abR:Entry:=ax 15 f15 [.agg q2,vI] vI
noncomputable def abS:Entry:=bL 40 f40 [gf,vI] vI [(0,lq [(5,vI),(0,gf),(1,vI)] [] [1])]
noncomputable def abT:Entry:=bL 41 f41 [cp,vI] vI [(0,lq [(5,vI),(1,vI),(0,cp)] [] [1])]
noncomputable def abU:Entry:=ax 82 f82 [.agg [kI,kI,kS],vI] vI
noncomputable def abV:Entry:=bL 16 f16 [lj,vI] vI [(0,lq [(5,vI),(1,vI),(0,lj)] [] [1])]
noncomputable def abW:Entry:=ax 42 f42 [.agg q1,vI] vI
noncomputable def abX:Entry:=ax 83 f83 [.agg sy,vI] vI
noncomputable def abY:Entry:=ax 137 f137 [.agg nw,vI] vI
noncomputable def abZ:Entry:=bL 87 f87 [iI,vI] vI [(0,lq [(5,vI),(1,vI),(0,iI)] [] [1])]
noncomputable def acA:Entry:=ax 140 f140 [.agg sA,vI] vI
noncomputable def acB:Entry:=ax 44 f44 [.agg [kI,kI,kS],vI] vI
noncomputable def acC:Entry:=ax 85 f85 [.agg q4,vI] vI
noncomputable def acD:Entry:=ax 138 f138 [.agg q5,vI] vI
noncomputable def acE:Entry:=bL 181 f181 [cp,vI] vI [(0,lq [(5,vI),(1,vI),(0,cp)] [] [1])]
noncomputable def acF:Entry:=ax 213 f213 [.agg [kI,kI,kS],vI] vI
noncomputable def acG:Entry:=bL 182 f182 [gC,vI] vI [(0,lq [(5,vI),(1,vI),(0,gC)] [] [1])]
noncomputable def acH:Entry:=ax 214 f214 [.agg iK,vI] vI
noncomputable def acI:Entry:=ax 19 f19 [eB,vI] vI
noncomputable def acJ:Entry:=ax 84 f84 [nv,vI] vI
noncomputable def acK:Entry:=ax 86 f86 [.agg [oU,kI],vI] vI
noncomputable def acL:Entry:=ax 139 f139 [qH,vI] vI
noncomputable def acM:Entry:=bL 17 f17 [jl,vI] vI [(0,lq [(5,vI),(1,vI),(0,jl)] [] [1])]
noncomputable def acN:Entry:=ax 43 f43 [.agg oX,vI] vI
noncomputable def acO:Entry:=ax 18 f18 [.agg [kI,kS],vI] vI
noncomputable def acP:Entry:=bL 20 f20 [cp,vI] vI [(0,lq [(5,vI),(1,vI),(0,cp)] [] [1])]
noncomputable def acQ:Entry:=ax 8 f8 [.agg q0] (.agg [lg,lg,gb,gb,kI,PT,Fz,kI,kS,jk,jk,gb])
noncomputable def acR:Entry:=ax 23 f23 [.agg q2] (.agg [lg,lg,gb,gb])
noncomputable def acS:Entry:=bL 54 f54 [gf] qJ [(0,lq [(4,vI),(0,gf),(3,qJ)] [] [3])]
noncomputable def acT:Entry:=bL 55 f55 [cp] kD [(0,lq [(4,vI),(0,cp),(3,kD)] [] [3])]
noncomputable def acU:Entry:=ax 101 f101 [.agg [kI,kI,kS]] (.agg [kI,kI,kS])
noncomputable def acV:Entry:=bL 24 f24 [lj] PX [(0,lq [(4,vI),(0,lj),(3,PX)] [] [3])]
noncomputable def acW:Entry:=ax 56 f56 [.agg q1] (.agg [kI,kI,kI,kI,kI,vk,gb,oV,kI,kI,jk,kS,kI,sx,jk,jk,kI,gb,oV,kI,kI,jk,kS,FA,kI,Fz])
noncomputable def acX:Entry:=ax 102 f102 [.agg sy] (.agg [kI,kI,kI,kI,vk,gb,oV,kI,kI,jk,kS])
noncomputable def acY:Entry:=ax 153 f153 [.agg nw] (.agg [kI,kI,vk])
noncomputable def acZ:Entry:=bL 106 f106 [iI] PU [(0,lq [(4,vI),(0,iI),(3,PU)] [] [3])]
noncomputable def adA:Entry:=ax 156 f156 [.agg sA] (.agg sA)
noncomputable def adB:Entry:=ax 58 f58 [.agg [kI,kI,kS]] (.agg [kI,kI,kS])
noncomputable def adC:Entry:=ax 104 f104 [.agg q4] (.agg q7)
noncomputable def adD:Entry:=ax 154 f154 [.agg q5] (.agg iJ)
noncomputable def adE:Entry:=bL 189 f189 [cp] kD [(0,lq [(4,vI),(0,cp),(3,kD)] [] [3])]
noncomputable def adF:Entry:=ax 224 f224 [.agg [kI,kI,kS]] (.agg [kI,kI,kS])
noncomputable def adG:Entry:=bL 190 f190 [gC] oW [(0,lq [(4,vI),(0,gC),(3,oW)] [] [3])]
noncomputable def adH:Entry:=ax 225 f225 [.agg iK] (.agg iK)
noncomputable def adI:Entry:=bL 27 f27 [eB] eS [(0,lq [(4,vI),(0,eB),(3,eS)] [] [3])]
noncomputable def adJ:Entry:=bL 103 f103 [nv] jm [(0,lq [(4,vI),(0,nv),(3,jm)] [] [3])]
noncomputable def adK:Entry:=ax 105 f105 [.agg [oU,kI]] (.agg [FA,kI])
noncomputable def adL:Entry:=bL 155 f155 [qH] gh [(0,lq [(4,vI),(0,qH),(3,gh)] [] [3])]
noncomputable def adM:Entry:=bL 25 f25 [jl] PV [(0,lq [(4,vI),(0,jl),(3,PV)] [] [3])]
noncomputable def adN:Entry:=ax 57 f57 [.agg oX] (.agg [kI,kI,kI,kI,kI,kI,kI,vk,kB,kS])
noncomputable def adO:Entry:=ax 26 f26 [.agg [kI,kS]] (.agg [kI,kS])
noncomputable def adP:Entry:=bL 28 f28 [cp] kD [(0,lq [(4,vI),(0,cp),(3,kD)] [] [3])]
noncomputable def adQ:Entry:=ax 7 f7 [.agg q0] vB
noncomputable def adR:Entry:=dw 21 f21 [.agg q0] vB [(0,lq [(3,vI),(1,.one (.pb 1 0))] [(1,q0)] [1]),(2,lq [(4,vI),(1,.one (.pb 1 0))] [(1,q0)] [1]),(4,lr [(5,vI),(1,.one (.pb 1 0))] [(1,q0)] [])] [6]
noncomputable def adS:Entry:=dw 45 f45 [.agg q2] vB [(0,lq [(3,vI),(1,.one (.pb 1 0))] [(1,q2)] [1]),(2,lq [(4,vI),(1,.one (.pb 1 0))] [(1,q2)] [1])] [9,4]
noncomputable def adT:Entry:=bL 88 f88 [vS] vB [(0,lq [(3,vI),(0,vS)] [] [0])]
noncomputable def adU:Entry:=ax 141 f141 [vU] vB
noncomputable def adV:Entry:=ax 46 f46 [vI,vI,vI] vB
noncomputable def adW:Entry:=ax 142 f142 [vS] vB
noncomputable def adX:Entry:=bL 89 f89 [gf,vS] vB [(0,lq [(5,vI),(1,vS),(0,gf)] [] [])]
noncomputable def adY:Entry:=ax 183 f183 [] qJ
noncomputable def adZ:Entry:=bL 90 f90 [cp,vI,vI] vB [(0,lq [(8,vI),(2,vI),(1,vI),(7,vI),(0,cp)] [] [])]
noncomputable def aeA:Entry:=ax 143 f143 [.agg [kI,kI,kS],vI,vI,vI] vB
noncomputable def aeB:Entry:=ax 184 f184 [vI] vB
noncomputable def aeC:Entry:=ax 185 f185 [vS] (.aP [.agg kE,vB])
noncomputable def aeD:Entry:=bY 215 f215 [.one (.pb 5000 0),vI] [(5000,[kS,kI,kB])] (.agg kE) [[kS,kI,kB]] [(0,lp ⟨[(1,vI),(0,.one (.pb 5000 0)),(5,qI),(4,.one (.pb 4 0))],[(5000,[kS,kI,kB]),(4,q6)]⟩ ⟨[(4,.one (.pb 4 0)),(5,qI)],[(5000,[kS,kI,kB]),(4,q6)]⟩)] []
noncomputable def aeE:Entry:=bY 252 f252 [.one (.pb 5000 0),vI] [(5000,[kS,kI,kB])] (.agg kE) [[kS,kI,kB]] [(0,lp ⟨[(1,vI),(0,.one (.pb 5000 0)),(5,qI),(4,.one (.pb 4 0))],[(5000,[kS,kI,kB]),(4,q6)]⟩ ⟨[(4,.one (.pb 4 0)),(5,qI)],[(5000,[kS,kI,kB]),(4,q6)]⟩)] [2]
noncomputable def aeF:Entry:=bY 295 f295 [.one (.pb 5000 0),vI] [(5000,[kS,kI,kB])] (.agg kE) [[kS,kI,kB]] [(0,lq [(4,.one (.pb 4 0)),(5,.one (.pb 5 0)),(0,.one (.pb 5000 0))] [(5000,[kS,kI,kB]),(4,q6),(5,kE)] [4,5])] []
noncomputable def aeG:Entry:=bY 338 f338 [.one (.pb 5000 0),vI] [(5000,[kS,kI,kB])] (.agg kE) [[kS,kI,kB]] [] []
noncomputable def aeH:Entry:=bY 253 f253 [.one (.pb 5000 0),vU] [(5000,[kS,kI,kB])] vB [[kS,kI,kB]] [] []
noncomputable def aeI:Entry:=bY 365 f365 [.one (.pb 5000 0)] [(5000,[kS,kI,kB])] (.agg q6) [[kS,kI,kB]] [(2,lq [(8,vI),(4,jm),(0,.one (.pb 5000 0)),(2,.one (.pb 2 0)),(3,.one (.pb 3 0)),(43,vB),(42,vU),(37,vS),(41,vI),(40,.one (.pb 5000 1)),(39,.one (.pb 5000 0)),(38,.one (.pb 5000 0)),(36,.one (.pb 5000 0)),(35,.one (.pb 5000 0)),(34,.one (.pb 5000 0)),(5,vI),(7,vI)] [(5000,[kS,kI,kB]),(2,q6),(3,q6)] [4,0,2,3,43,42,37,41,40,39,38,36,35,34,5]),(0,lp ⟨[(4,jm),(5,vI),(0,.one (.pb 5000 0)),(2,.one (.pb 2 0)),(3,.one (.pb 3 0))],[(5000,[kS,kI,kB]),(2,q6),(3,q6)]⟩ ⟨[(4,jm),(2,.one (.pb 2 0)),(3,.one (.pb 3 0)),(0,.one (.pb 5000 0)),(5,vI)],[(5000,[kS,kI,kB]),(2,q6),(3,q6)]⟩),(4,lp ⟨[(10,vI),(9,gh),(4,jm),(2,.one (.pb 2 0)),(3,.one (.pb 3 0))],[(5000,[kS,kI,kB]),(2,q6),(3,q6)]⟩ ⟨[(2,.one (.pb 2 0)),(3,.one (.pb 3 0)),(9,gh)],[(5000,[kS,kI,kB]),(2,q6),(3,q6)]⟩)] [11,7]
noncomputable def aeJ:Entry:=bL 216 f216 [.agg q9] vI [(0,lr [(4,vI),(1,.one (.pb 1 0)),(3,vI)] [(1,q9)] [3])]
noncomputable def aeK:Entry:=ax 149 f149 [vI,vI] vI
noncomputable def aeL:Entry:=ax 47 f47 [.agg [kI,kS]] vB
noncomputable def aeM:Entry:=bL 48 f48 [eB] vB [(0,lq [(3,vI),(0,eB)] [] [0])]
noncomputable def aeN:Entry:=dw 49 f49 [.agg q2,.agg q1,vI] vB [(0,lp ⟨[(9,vI),(7,vI),(4,.one (.pb 4 0)),(2,vI),(3,.one (.pb 3 0))],[(4,q1),(3,q2)]⟩ ⟨[(4,.one (.pb 4 0)),(2,vI),(3,.one (.pb 3 0)),(7,vI)],[(4,q1),(3,q2)]⟩),(2,lq [(10,vI),(4,.one (.pb 4 0)),(2,vI),(3,.one (.pb 3 0)),(7,vI)] [(4,q1),(3,q2)] [4,3,7])] [12,7]
noncomputable def aeO:Entry:=ax 91 f91 [.agg q2,.agg sy] vB
noncomputable def aeP:Entry:=ax 92 f92 [.agg nw] (.aP [vI,vI])
noncomputable def aeQ:Entry:=dw 144 f144 [.agg nw] vB [(0,lr [(4,vI),(1,.one (.pb 1 0)),(3,vI)] [(1,nw)] [])] [7]
noncomputable def aeR:Entry:=ax 51 f51 [.agg [kI,kI,kS]] vB
noncomputable def aeS:Entry:=bL 96 f96 [vS] vB [(0,lq [(3,vI),(0,vS)] [] [])]
noncomputable def aeT:Entry:=bL 93 f93 [.agg q2,.agg q4] vB [(0,lq [(5,vI),(3,.one (.pb 3 0)),(2,.one (.pb 2 0))] [(3,q4),(2,q2)] [3,2])]
noncomputable def aeU:Entry:=dw 145 f145 [.agg q5,vI,vI] vB [(0,lq [(7,vI),(3,.one (.pb 3 0)),(2,vI),(1,vI)] [(3,q5)] [3,2,1]),(2,lq [(8,vI),(3,.one (.pb 3 0)),(2,vI),(1,vI)] [(3,q5)] [3,1])] [10]
noncomputable def aeV:Entry:=ax 186 f186 [.agg [kI,kI,kS]] vB
noncomputable def aeW:Entry:=bL 217 f217 [vS] (.aP [vI,vB]) [(0,lq [(5,vI),(0,vS),(4,vI)] [] [4])]
noncomputable def aeX:Entry:=dw 254 f254 [vS] (.aP [vI,vI]) [(0,lp ⟨[(4,vI),(0,vS)],[]⟩ ⟨[(0,vS),(4,vI)],[]⟩),(2,lp ⟨[(7,vI),(4,vI),(0,vS),(6,vI),(5,vB)],[]⟩ ⟨[(7,vI),(0,vS),(6,vI),(5,vB),(4,vI)],[]⟩),(4,lp ⟨[(4,vI),(7,vI),(8,vI),(0,vS),(6,vI),(5,vB)],[]⟩ ⟨[(4,vI),(6,vI),(5,vB),(7,vI)],[]⟩)] [16,8,2]
noncomputable def aeY:Entry:=ax 296 f296 [vU] vB
noncomputable def aeZ:Entry:=ax 187 f187 [.agg iK,vI,vS] vB
noncomputable def afA:Entry:=ax 50 f50 [.agg oX,vI] vB
noncomputable def afB:Entry:=dw 95 f95 [iI,vI] vB [(0,lq [(5,vI),(0,iI),(1,vI)] [] [0])] [4]
noncomputable def afC:Entry:=ax 94 f94 [.agg [oU,kI]] vB
noncomputable def afD:Entry:=bL 22 f22 [.agg q2,cp] (.agg q7) [(0,lp ⟨[(6,vI),(5,.one (.pb 5 0)),(1,cp),(2,.one (.pb 2 0)),(4,.one (.pb 4 0))],[(5,q7),(2,q2),(4,yX)]⟩ ⟨[(4,.one (.pb 4 0)),(5,.one (.pb 5 0))],[(4,yX),(5,q7)]⟩)]
noncomputable def afE:Entry:=ax 52 f52 [.agg q2] (.agg q7)
noncomputable def afF:Entry:=ax 97 f97 [.agg q2] (.aP [.agg iJ,vS])
noncomputable def afG:Entry:=ax 98 f98 [vI] (.agg [gb,.nl,kI,kI])
noncomputable def afH:Entry:=ax 150 f150 [vI,vI] vI
noncomputable def afI:Entry:=ax 146 f146 [.agg q5] (.agg iJ)
noncomputable def afJ:Entry:=bY 147 f147 [.one (.pb 5000 0),cp] [(5000,q3)] (.aP []) [q3] [(0,lp ⟨[(0,.one (.pb 5000 0)),(6,vI),(5,vI),(1,cp),(4,.one (.pb 11 0))],[(5000,q3),(11,[.pb 5000 0,gb])]⟩ ⟨[],[(5000,q3)]⟩)] []
noncomputable def afK:Entry:=bY 152 f152 [.one (.pb 5000 0),vI] [(5000,q3)] (.aP []) [q3] [] []
noncomputable def afL:Entry:=bY 188 f188 [.one (.pb 5000 0),.agg [kI,kI,kS],vI] [(5001,q3),(5000,mm)] (.aP [vI,vB]) [q3,mm] [] []
noncomputable def afM:Entry:=ax 218 f218 [.agg [kI,kI,kS]] vI
noncomputable def afN:Entry:=ax 219 f219 [.agg [kI,kI,kS]] vB
noncomputable def afO:Entry:=bY 220 f220 [.one (.pb 5000 0),vS] [(5000,q3)] (.aP []) [q3] [] []
noncomputable def afP:Entry:=ax 221 f221 [.agg [kI,kI,kS]] vS
noncomputable def afQ:Entry:=bL 255 f255 [vI] vS [(0,lp ⟨[(6,vS),(0,vI),(4,vS)],[]⟩ ⟨[(0,vI),(6,vS),(4,vS)],[]⟩)]
noncomputable def afR:Entry:=ax 297 f297 [vI] vI
noncomputable def afS:Entry:=bL 298 f298 [vI] vS [(0,lq [(0,vI),(3,vS)] [] [3])]
noncomputable def afT:Entry:=bY 222 f222 [.one (.pb 5000 0),.agg [kI,kI,kS],cp] [(5001,q3),(5000,mm)] (.aP []) [q3,mm] [] []
noncomputable def afU:Entry:=bY 256 f256 [.one (.pb 5000 0),.agg [kI,kI,kS]] [(5001,q3),(5000,mm)] (.aP []) [q3,mm] [] []
noncomputable def afV:Entry:=ax 258 f258 [.agg [kI,kI,kS]] vI
noncomputable def afW:Entry:=bY 257 f257 [.one (.pb 5000 0),vI,vI,vI] [(5000,q3)] (.agg [kI,kI,kS]) [q3] [] []
noncomputable def afX:Entry:=ax 299 f299 [vI,vI] (.aP [vI,vB])
noncomputable def afY:Entry:=ax 339 f339 [vI] (.aP [vI,vB])
noncomputable def afZ:Entry:=ax 263 f263 [vI] (.agg [kI,kI,kS])
noncomputable def agA:Entry:=ax 300 f300 [vI,vI] (.aP [vI,vB])
noncomputable def agB:Entry:=ax 301 f301 [vI,vI] (.aP [vI,vB])
noncomputable def agC:Entry:=ax 302 f302 [vI,vI] (.aP [vI,vB])
noncomputable def agD:Entry:=ax 260 f260 [.agg [kI,kI,kS]] vS
noncomputable def agE:Entry:=ax 259 f259 [.agg q5,vI,vS] (.agg [kI,kI,kS])
noncomputable def agF:Entry:=dw 303 f303 [.agg q5,vI,vS] vI [(0,lr [(7,vI),(2,vS),(3,.one (.pb 3 0)),(1,vI)] [(3,q5)] [])] [4]
noncomputable def agG:Entry:=bY 261 f261 [.one (.pb 5000 0),vI,vS,.agg [kI,kI,kS]] [(5001,q3),(5000,mm)] (.aP []) [q3,mm] [] []
noncomputable def agH:Entry:=dw 304 f304 [.agg q5,vI,vS,.agg [kI,kI,kS]] (.aP [.agg iJ,vB]) [(0,lp ⟨[(11,vI),(8,.one (.pb 8 0)),(10,.one (.pb 10 0)),(4,.one (.pb 4 0)),(7,.one (.pb 7 0)),(2,vS),(1,vI)],[(8,[.nl,.nl,kI,kI]),(10,iJ),(4,q5),(7,[kI,kI,kS])]⟩ ⟨[(8,.one (.pb 8 0)),(10,.one (.pb 10 0)),(11,vI),(4,.one (.pb 4 0)),(7,.one (.pb 7 0)),(2,vS),(1,vI)],[(8,[.nl,.nl,kI,kI]),(10,iJ),(4,q5),(7,[kI,kI,kS])]⟩)] [9]
noncomputable def agI:Entry:=ax 262 f262 [.agg q5,vI,vS] (.agg iJ)
noncomputable def agJ:Entry:=bY 223 f223 [.one (.pb 5000 0),.agg [kI,kI,kS],cp] [(5001,q3),(5000,mm)] (.aP []) [q3,mm] [] []
noncomputable def agK:Entry:=bY 264 f264 [.one (.pb 5000 0),.agg [kI,kI,kS]] [(5000,q3)] (.agg [kI,kI,kS]) [q3] [] []
noncomputable def agL:Entry:=ax 305 f305 [vS] (.agg [kI,kI,kS])
noncomputable def agM:Entry:=bY 265 f265 [.one (.pb 5000 0),.agg [kI,kI,kS],.agg [kI,kI,kS]] [(5000,q3)] (.agg [kI,kI,kS]) [q3] [] []
noncomputable def agN:Entry:=ax 266 f266 [vS,vS] (.agg [kI,kI,kS])
noncomputable def agO:Entry:=ax 306 f306 [.agg q9,vS] vB
noncomputable def agP:Entry:=ax 341 f341 [.agg q9] gg
noncomputable def agQ:Entry:=ax 367 f367 [.agg q9] vB
noncomputable def agR:Entry:=bL 391 f391 [.agg q9] vB [(0,lq [(3,vI),(1,.one (.pb 1 0))] [(1,q9)] [1])]
noncomputable def agS:Entry:=bL 417 f417 [vS] vB [(0,lq [(3,vI),(0,vS)] [] [])]
noncomputable def agT:Entry:=bL 369 f369 [gg,.agg q9] gg [(1,lr [(6,vI),(3,.one (.pb 3 0)),(0,gg)] [(3,q9)] [0])]
noncomputable def agU:Entry:=ax 368 f368 [gg,vI] gg
noncomputable def agV:Entry:=bL 392 f392 [gg,lh] gg [(0,lq [(6,vI),(5,eS),(1,lh),(0,gg)] [] [5,1,0]),(2,lq [(8,vI),(0,gg),(5,eS)] [] [0])]
noncomputable def agW:Entry:=bL 340 f340 [fk,vS] (.aP [vI,vI,vB]) [(0,lq [(7,vI),(1,vS),(0,fk)] [] [])]
noncomputable def agX:Entry:=bL 366 f366 [fk,vS,vI] vI [(0,lq [(7,eS),(9,vI),(1,vS),(0,fk),(8,vI)] [] [8]),(2,lp ⟨[(11,vI),(7,eS),(10,eS),(9,vI),(1,vS),(0,fk),(8,vI)],[]⟩ ⟨[(1,vS),(0,fk),(8,vI),(9,vI),(10,eS)],[]⟩)]
noncomputable def agY:Entry:=dw 388 f388 [fk] vB [(0,lq [(4,vI),(3,vI),(0,fk)] [] [3])] [5]
noncomputable def agZ:Entry:=ax 413 f413 [.agg yY,vI] vB
noncomputable def ahA:Entry:=bL 389 f389 [fk,eB,vB,vB] eS [(0,lq [(10,vI),(3,vB),(2,vB),(1,eB),(9,jm),(0,fk)] [] [9])]
noncomputable def ahB:Entry:=ZG 414 f414 [fk,jm,vI,vB,vB] jm [(0,lq [(3,vB),(4,vB),(0,fk),(1,jm),(10,eS)] [] [1])] [4] 1
noncomputable def ahC:Entry:=bL 415 f415 [nv] eS [(0,lq [(4,vI),(3,eS),(0,nv)] [] [3])]
noncomputable def ahD:Entry:=ax 390 f390 [.agg yY,vU] vB
noncomputable def ahE:Entry:=bL 416 f416 [vS,vU] vB [(0,lq [(5,vI),(1,vU),(0,vS)] [] [])]
noncomputable def ahF:Entry:=ax 267 f267 [vB] (.agg [kI,kI,kS])
noncomputable def ahG:Entry:=ax 307 f307 [vB] vI
noncomputable def ahH:Entry:=ax 268 f268 [vS,cp] (.agg [kI,kI,kS])
noncomputable def ahI:Entry:=ax 308 f308 [vS,cp] (.agg [kI,kI,kS])
noncomputable def ahJ:Entry:=ax 342 f342 [vI] vI
noncomputable def ahK:Entry:=bL 343 f343 [vS,vS] vI [(0,lq [(5,vI),(1,vS),(0,vS)] [] [])]
noncomputable def ahL:Entry:=dw 344 f344 [vS,vU,vU] vS [(0,lq [(8,vI),(2,vU),(1,vU),(7,gh)] [] [7])] [5]
noncomputable def ahM:Entry:=ax 345 f345 [cp] vS
noncomputable def ahN:Entry:=ax 269 f269 [vI,.agg [kI,kI,kS],.agg [kI,kI,kS]] (.agg [kI,kI,kS])
noncomputable def ahO:Entry:=ax 309 f309 [.agg [kI,kI,kS],.agg [kI,kI,kS]] vI
noncomputable def ahP:Entry:=bY 148 f148 [.one (.pb 5000 0),.agg q5] [(5000,q3)] (.aP [.agg iJ,vS]) [[.undef,.undef,kI,kI,lg,lg,kS,lg,kS,kI,kB]] [] []
noncomputable def ahQ:Entry:=ax 53 f53 [.agg q2,.agg q4,.agg [kI,kI,kS]] (.agg q7)
noncomputable def ahR:Entry:=ax 99 f99 [.agg q4] (.agg q7)
noncomputable def ahS:Entry:=ax 100 f100 [.agg q2,.agg q5,vS] (.aP [.agg iJ,vS])
noncomputable def ahT:Entry:=dw 151 f151 [vS] qJ [(0,lq [(5,vI),(4,vI),(0,vS),(3,qJ)] [] [3])] [6]
noncomputable def ahU:Entry:=ax 9 f9 [.agg q0] vB
noncomputable def ahV:Entry:=dw 29 f29 [.agg q0] vB [(0,lq [(38,vI),(1,.one (.pb 1 0)),(36,lj),(37,vI)] [(1,q0)] [1])] [9,6]
noncomputable def ahW:Entry:=dw 59 f59 [.agg q2] vB [] [1]
noncomputable def ahX:Entry:=dw 107 f107 [gf] vB [(0,lq [(7,vI),(0,gf),(5,gf),(6,vI)] [] [0])] [4]
noncomputable def ahY:Entry:=ax 157 f157 [vS] vB
noncomputable def ahZ:Entry:=ax 60 f60 [vI,vI,vI] vB
noncomputable def aiA:Entry:=dw 191 f191 [vS,vI] vI [(0,lq [(5,vI),(1,vI),(0,vS)] [] [5])] [2]
noncomputable def aiB:Entry:=ax 226 f226 [vU] vB
noncomputable def aiC:Entry:=ax 192 f192 [vS] vB
noncomputable def aiD:Entry:=ax 197 f197 [] qJ
noncomputable def aiE:Entry:=ax 110 f110 [gf,vS] vB
noncomputable def aiF:Entry:=bL 159 f159 [gf,vS] vI [(0,lq [(8,vI),(0,gf),(1,vS),(7,vI)] [] [])]
noncomputable def aiG:Entry:=bY 108 f108 [gf,.one (.fn 109 [] [.pb 5000 0])] [(5000,q2)] vB [q2] [] []
noncomputable def aiH:Entry:=bY 158 f158 [gf,.one (.fn 109 [] [.pb 5000 0])] [(5000,q2)] vI [q2] [(0,lq [(8,vI),(0,gf),(1,.one (.fn 109 [] [.pb 5000 0])),(7,vI)] [(5000,q2)] [])] []
noncomputable def aiI:Entry:=bY 109 f109 [vS,.one (.pb 5000 0)] [(5000,q2)] vB [q2] [] []
noncomputable def aiJ:Entry:=ax 111 f111 [cp,vI,vI] vB
noncomputable def aiK:Entry:=bY 160 f160 [cp,.one (.fn 161 [] [.pb 5000 0,.pb 5001 0,.pb 5002 0])] [(5000,[gB]),(5001,[kI]),(5002,[kI])] vB [[gB],[kI],[kI]] [] []
noncomputable def aiL:Entry:=bY 193 f193 [cp,.one (.fn 161 [] [.pb 5000 0,.pb 5001 0,.pb 5002 0])] [(5000,[gB]),(5001,[kI]),(5002,[kI])] vI [[gB],[kI],[kI]] [(0,lq [(8,vI),(0,cp),(1,.one (.fn 161 [] [.pb 5000 0,.pb 5001 0,.pb 5002 0])),(7,vI)] [(5000,[gB]),(5001,[kI]),(5002,[kI])] [])] []
noncomputable def aiM:Entry:=bY 161 f161 [.agg [kI,kI,kS],.one (.pb 5000 0),.one (.pb 5001 0),.one (.pb 5002 0)] [(5000,[gB]),(5001,[kI]),(5002,[kI])] vB [[gB],[kI],[kI]] [] []
noncomputable def aiN:Entry:=ax 162 f162 [.agg [kI,kI,kS],vI,vI,vI] vB
noncomputable def aiO:Entry:=ax 194 f194 [vI] (.aP [vS,vS])
noncomputable def aiP:Entry:=ax 195 f195 [vI] vB
noncomputable def aiQ:Entry:=ax 196 f196 [vS] vB
noncomputable def aiR:Entry:=ax 227 f227 [vS] (.aP [.agg kE,vB])
noncomputable def aiS:Entry:=bY 270 f270 [.one (.pb 5000 0)] [(5000,[kS,kB])] (.agg kE) [[kS,kB]] [(0,lp ⟨[(0,.one (.pb 5000 0)),(3,qI),(2,.one (.pb 2 0))],[(5000,[kS,kB]),(2,q6)]⟩ ⟨[(2,.one (.pb 2 0)),(3,qI)],[(5000,[kS,kB]),(2,q6)]⟩)] []
noncomputable def aiT:Entry:=bY 310 f310 [.one (.pb 5000 0)] [(5000,[kS,kB])] (.agg kE) [[kS,kB]] [(0,lq [(2,.one (.pb 2 0)),(3,qI),(0,.one (.pb 5000 0))] [(5000,[kS,kB]),(2,q6)] [2,3])] [3]
noncomputable def aiU:Entry:=bY 346 f346 [.one (.pb 5000 0)] [(5000,[kS,kB])] (.aP [vU,vB]) [[kS,kB]] [] []
noncomputable def aiV:Entry:=bY 347 f347 [.one (.pb 5000 0)] [(5000,[kS,kB])] (.agg kE) [[kS,kB]] [(0,lp ⟨[(2,.one (.pb 2 0)),(3,.one (.pb 3 0)),(0,.one (.pb 5000 0))],[(5000,[kS,kB]),(2,q6),(3,kE)]⟩ ⟨[],[(5000,[.undef,.undef])]⟩)] [3]
noncomputable def aiW:Entry:=bY 370 f370 [.one (.pb 5000 0)] [(5000,[kS,kB])] (.agg kE) [[kS,kB]] [] []
noncomputable def aiX:Entry:=bY 311 f311 [.one (.pb 5000 0),vU] [(5000,[kS,kB])] vB [[kS,kB]] [] []
noncomputable def aiY:Entry:=bY 393 f393 [.one (.pb 5000 0)] [(5000,[kS,kB])] (.agg q6) [[kS,kB]] [(2,lq [(10,vI),(6,jm),(0,.one (.pb 5000 0)),(5,vS),(2,.one (.pb 2 0)),(3,.one (.pb 3 0)),(7,vI),(9,vI)] [(5000,[kS,kB]),(2,q6),(3,q6)] [6,0,5,2,3,7]),(0,lp ⟨[(6,jm),(7,vI),(0,.one (.pb 5000 0)),(5,vS),(2,.one (.pb 2 0)),(3,.one (.pb 3 0))],[(5000,[kS,kB]),(2,q6),(3,q6)]⟩ ⟨[(2,.one (.pb 2 0)),(3,.one (.pb 3 0)),(6,jm)],[(5000,[kS,kB]),(2,q6),(3,q6)]⟩),(4,lp ⟨[(102,vI),(11,gh),(100,jm),(2,.one (.pb 2 0)),(3,.one (.pb 3 0)),(101,vI)],[(5000,[kS,kB]),(2,q6),(3,q6)]⟩ ⟨[(2,.one (.pb 2 0)),(3,.one (.pb 3 0)),(11,gh)],[(5000,[kS,kB]),(2,q6),(3,q6)]⟩)] [13]
noncomputable def FB:Entry:={f:=399,fn:=f399,ins:=[vS,vU],bx:=[],outs:=vI,bP:=[],loops:=[],cQ:=[],bI:=[.int .i64],cg:=some yv}
noncomputable def aiZ:Entry:=ax 371 f371 [vU] vI
noncomputable def ajA:Entry:=bL 271 f271 [.agg q9] vI [(0,lq [(9,vI),(3,vI),(7,lh),(8,vI)] [] [3])]
noncomputable def ajB:Entry:=ax 61 f61 [.agg [kI,kS]] vB
noncomputable def ajC:Entry:=ax 112 f112 [vI] vB
noncomputable def ajD:Entry:=ax 62 f62 [.agg q2,.agg q1,vI] vB
noncomputable def ajE:Entry:=ax 113 f113 [.agg q2,.agg sy] vB
noncomputable def ajF:Entry:=ax 114 f114 [.agg nw] (.aP [vI,vI])
noncomputable def ajG:Entry:=ax 163 f163 [vI] vB
noncomputable def ajH:Entry:=dw 164 f164 [.agg nw] vB [(0,lq [(30,vI),(3,vI),(28,iI),(29,vI)] [] [])] [7]
noncomputable def ajI:Entry:=ax 69 f69 [.agg [kI,kI,kS]] vB
noncomputable def ajJ:Entry:=ax 123 f123 [vS] vB
noncomputable def FC:Entry:={f:=170,fn:=f170,ins:=[vS,vS],bx:=[],outs:=vB,bP:=[],loops:=[],cQ:=[],bI:=[.bool],cg:=some yz}
noncomputable def ajK:Entry:=ax 115 f115 [.agg q2,.agg q4] vB
noncomputable def ajL:Entry:=dw 165 f165 [.agg q5,vI,vI] vB [(0,lr [(40,vI),(3,.one (.pb 3 0)),(2,vI),(38,gC),(39,vI)] [(3,q5)] [])] [6]
noncomputable def ajM:Entry:=ax 198 f198 [cp,.one (.fn 199 [] [])] vB
noncomputable def ajN:Entry:=bL 228 f228 [cp,.one (.fn 199 [] [])] vI [(0,lq [(8,vI),(0,cp),(1,.one (.fn 199 [] [])),(7,vI)] [] [])]
noncomputable def ajO:Entry:=ax 199 f199 [.agg [kI,kI,kS]] vB
noncomputable def ajP:Entry:=ax 200 f200 [.agg [kI,kI,kS]] vB
noncomputable def ajQ:Entry:=ax 229 f229 [vS] (.aP [vI,vB])
noncomputable def ajR:Entry:=ax 272 f272 [vS] (.aP [vI,vI])
noncomputable def ajS:Entry:=ax 312 f312 [vS,vS] vS
noncomputable def ajT:Entry:=dw 315 f315 [vS,vU] vS [(0,lq [(0,vS),(1,vU)] [] [0])] [1]
noncomputable def ajU:Entry:=dw 313 f313 [vS,vI] vI [(0,lq [(5,vI),(1,vI),(0,vS)] [] [5])] [2]
noncomputable def ajV:Entry:=ax 314 f314 [vS,vS] (.aP [vI,vB])
noncomputable def FD:Entry:={f:=348,fn:=f348,ins:=[vS],bx:=[],outs:=.aP [vI,.one .er],bP:=[],loops:=[],cQ:=[],bI:=[.int .i64,.bool],cg:=some yx}
noncomputable def ajW:Entry:=ax 325 f325 [vI] (.aP [vI,vB])
noncomputable def ajX:Entry:=ax 273 f273 [vS,vS] vS
noncomputable def ajY:Entry:=dw 316 f316 [vS,vU] vS [(0,lq [(0,vS),(1,vU)] [] [0])] [1]
noncomputable def ajZ:Entry:=ax 201 f201 [.agg iK,.agg iK] vI
noncomputable def FE:Entry:={f:=230,fn:=f230,ins:=[vS,vS],bx:=[],outs:=vI,bP:=[],loops:=[],cQ:=[],bI:=[.int .i64],cg:=some yw}
noncomputable def akA:Entry:=ax 120 f120 [eB,.one (.fn 166 [] [])] vB
noncomputable def akB:Entry:=bL 169 f169 [eB,.one (.fn 166 [] [])] vI [(0,lq [(8,vI),(0,eB),(1,.one (.fn 166 [] [])),(7,vI)] [] [])]
noncomputable def akC:Entry:=ax 166 f166 [vI] vB
noncomputable def akD:Entry:=dw 66 f66 [eB,vI,vI,vI] vB [] [1]
noncomputable def akE:Entry:=bY 120 f120 [eB,.one (.fn 121 [] [.pb 5000 0,.pb 5001 0])] [(5000,[kI]),(5001,[kI])] vB [[kI],[kI]] [] []
noncomputable def akF:Entry:=bY 169 f169 [eB,.one (.fn 121 [] [.pb 5000 0,.pb 5001 0])] [(5000,[kI]),(5001,[kI])] vI [[kI],[kI]] [(0,lq [(8,vI),(0,eB),(1,.one (.fn 121 [] [.pb 5000 0,.pb 5001 0])),(7,vI)] [(5000,[kI]),(5001,[kI])] [])] []
noncomputable def akG:Entry:=bY 121 f121 [vI,.one (.pb 5000 0),.one (.pb 5001 0)] [(5000,[kI]),(5001,[kI])] vB [[kI],[kI]] [] []
noncomputable def akH:Entry:=ax 116 f116 [.agg [oU,kI]] vB
noncomputable def akI:Entry:=bY 63 f63 [jl,.one (.fn 117 [] [.pb 5000 0,.pb 5001 0])] [(5000,[kI]),(5001,q1)] vB [[kI],q1] [] []
noncomputable def akJ:Entry:=bY 118 f118 [jl,.one (.fn 117 [] [.pb 5000 0,.pb 5001 0])] [(5000,[kI]),(5001,q1)] vI [[kI],q1] [(0,lq [(8,vI),(0,jl),(1,.one (.fn 117 [] [.pb 5000 0,.pb 5001 0])),(7,vI)] [(5000,[kI]),(5001,q1)] [])] []
noncomputable def akK:Entry:=bY 117 f117 [.agg oX,.one (.pb 5000 0),.one (.pb 5001 0)] [(5000,[kI]),(5001,q1)] vB [[kI],q1] [] []
noncomputable def akL:Entry:=ax 65 f65 [.agg oX,vI] vB
noncomputable def akM:Entry:=dw 119 f119 [iI,vI] vB [] [1]
noncomputable def akN:Entry:=bY 167 f167 [iI,.one (.fn 168 [] [.pb 5000 0])] [(5000,[kI])] vB [[kI]] [] []
noncomputable def akO:Entry:=bY 202 f202 [iI,.one (.fn 168 [] [.pb 5000 0])] [(5000,[kI])] vI [[kI]] [(0,lq [(8,vI),(0,iI),(1,.one (.fn 168 [] [.pb 5000 0])),(7,vI)] [(5000,[kI])] [])] []
noncomputable def akP:Entry:=bY 168 f168 [.agg sA,.one (.pb 5000 0)] [(5000,[kI])] vB [[kI]] [] []
noncomputable def akQ:Entry:=bY 63 f63 [jl,.one (.fn 64 [] [.pb 5000 0])] [(5000,q0)] vB [q0] [] []
noncomputable def akR:Entry:=bY 118 f118 [jl,.one (.fn 64 [] [.pb 5000 0])] [(5000,q0)] vI [q0] [(0,lq [(8,vI),(0,jl),(1,.one (.fn 64 [] [.pb 5000 0])),(7,vI)] [(5000,q0)] [])] []
noncomputable def akS:Entry:=bY 64 f64 [.agg oX,.one (.pb 5000 0)] [(5000,q0)] vB [q0] [] []
noncomputable def akT:Entry:=ax 67 f67 [cp,.one (.fn 68 [] [])] vB
noncomputable def akU:Entry:=bL 122 f122 [cp,.one (.fn 68 [] [])] vI [(0,lq [(8,vI),(0,cp),(1,.one (.fn 68 [] [])),(7,vI)] [] [])]
noncomputable def akV:Entry:=ax 68 f68 [.agg [kI,kI,kS]] vB
noncomputable def akW:Entry:=bL 31 f31 [.agg q2,cp] (.agg q7) [(0,lp ⟨[(12,vI),(5,.one (.pb 5 0)),(2,.one (.pb 2 0)),(10,cp),(4,.one (.pb 4 0)),(11,vI)],[(5,q7),(2,q2),(4,yX)]⟩ ⟨[(4,.one (.pb 4 0)),(5,.one (.pb 5 0))],[(4,yX),(5,q7)]⟩)]
noncomputable def akX:Entry:=ax 71 f71 [.agg q2] (.agg q7)
noncomputable def akY:Entry:=ax 124 f124 [.agg q2] (.aP [.agg iJ,vS])
noncomputable def akZ:Entry:=ax 125 f125 [vI] (.agg [gb,.nl,kI,kI])
noncomputable def alA:Entry:=ax 171 f171 [.agg q5] (.agg iJ)
noncomputable def FF:Entry:={f:=204,fn:=f204,ins:=[cp],bx:=[],outs:=kD,bP:=[],loops:=[],cQ:=[],bI:=[aL],cg:=some (gK aL)}
noncomputable def FH:Entry:={f:=205,fn:=f205,ins:=[gC],bx:=[],outs:=oW,bP:=[],loops:=[],cQ:=[],bI:=[bQ],cg:=some (gK bQ)}
noncomputable def alB:Entry:=bY 172 f172 [.one (.pb 5000 0),cp] [(5000,q8)] (.aP []) [q8] [(0,lq [(0,.one (.pb 5000 0)),(5,vI),(4,vI),(1,cp)] [(5000,q8)] [])] []
noncomputable def alC:Entry:=bY 175 f175 [.one (.pb 5000 0),vI] [(5000,q8)] (.aP []) [q8] [] []
noncomputable def alD:Entry:=ax 207 f207 [.agg [kI,kI,kS]] vI
noncomputable def alE:Entry:=bY 206 f206 [.one (.pb 5000 0),vI] [(5000,q8)] kD [q8] [] []
noncomputable def alF:Entry:=ax 208 f208 [.agg [kI,kI,kS]] vB
noncomputable def alG:Entry:=bY 209 f209 [.one (.pb 5000 0),.agg [kI,kI,kS],cp] [(5000,q8)] (.aP []) [q8] [] []
noncomputable def alH:Entry:=bY 232 f232 [.one (.pb 5000 0),.agg [kI,kI,kS]] [(5000,q8)] (.aP []) [q8] [] []
noncomputable def alI:Entry:=bY 233 f233 [.one (.pb 5000 0),.agg [kI,kI,kS],.agg [kI,kI,kS]] [(5000,q8)] (.agg [kI,kI,kS]) [q8] [] []
noncomputable def alJ:Entry:=ax 247 f247 [.agg [kI,kI,kS]] vI
noncomputable def alK:Entry:=ax 279 f279 [vI,vI] (.aP [vI,vB])
noncomputable def alL:Entry:=ax 240 f240 [vI] (.agg [kI,kI,kS])
noncomputable def alM:Entry:=ax 236 f236 [.agg [kI,kI,kS]] vS
noncomputable def alN:Entry:=ax 281 f281 [vI] vS
noncomputable def FI:Entry:={f:=329,fn:=f329,ins:=[vI],bx:=[],outs:=vS,bP:=[],loops:=[],cQ:=[],bI:=[.str],cg:=some yt}
noncomputable def alO:Entry:=ax 330 f330 [vS,vS] vS
noncomputable def alP:Entry:=ax 235 f235 [vS] vS
noncomputable def alQ:Entry:=bY 234 f234 [.one (.pb 5000 0),vI,vS,.agg [kI,kI,kS]] [(5000,q8)] (.aP []) [q8] [] []
noncomputable def alR:Entry:=ax 280 f280 [.agg q5,vI,vS,.agg [kI,kI,kS]] (.aP [.agg iJ,vB])
noncomputable def alS:Entry:=ax 282 f282 [.agg q5,vI,vS] vI
noncomputable def alT:Entry:=bY 326 f326 [gC,.one (.fn 331 [] [.pb 5000 0,.pb 5001 0])] [(5000,[kI]),(5001,[kS])] vI [[kI],[kS]] [(0,lq [(8,vI),(0,gC),(1,.one (.fn 331 [] [.pb 5000 0,.pb 5001 0])),(7,vI)] [(5000,[kI]),(5001,[kS])] [])] []
noncomputable def alU:Entry:=bY 331 f331 [.agg iK,.one (.pb 5000 0),.one (.pb 5001 0)] [(5000,[kI]),(5001,[kS])] vB [[kI],[kS]] [] []
noncomputable def alV:Entry:=bY 326 f326 [gC,.one (.fn 327 [] [.pb 5000 0])] [(5000,iK)] vI [iK] [(0,lq [(8,vI),(0,gC),(1,.one (.fn 327 [] [.pb 5000 0])),(7,vI)] [(5000,iK)] [])] []
noncomputable def alW:Entry:=bY 327 f327 [.agg iK,.one (.pb 5000 0)] [(5000,iK)] vB [iK] [] []
noncomputable def FJ:Entry:={f:=328,fn:=f328,ins:=[oW,vI,oW],bx:=[],outs:=oW,bP:=[],loops:=[],cQ:=[],bI:=[bQ],cg:=some (sa bQ)}
noncomputable def alX:Entry:=ax 237 f237 [.agg q5,vI,vS] (.agg [kI,kI,kS])
noncomputable def alY:Entry:=ax 238 f238 [.agg q5,vI,vS] (.agg iJ)
noncomputable def FK:Entry:={f:=283,fn:=f283,ins:=[oW,vI,vI],bx:=[],outs:=oW,bP:=[],loops:=[],cQ:=[],bI:=[bQ],cg:=some (uK bQ)}
noncomputable def alZ:Entry:=bY 239 f239 [.one (.pb 5000 0),vS] [(5000,q8)] (.aP []) [q8] [] []
noncomputable def amA:Entry:=bY 210 f210 [.one (.pb 5000 0),.agg [kI,kI,kS],kD] [(5000,q8)] (.aP []) [q8] [] []
noncomputable def amB:Entry:=ax 241 f241 [vS] (.agg [kI,kI,kS])
noncomputable def amC:Entry:=ax 243 f243 [.agg [kI,kI,kS]] vI
noncomputable def amD:Entry:=ax 285 f285 [vI] vI
noncomputable def amE:Entry:=ax 242 f242 [vS,vI] (.agg [kI,kI,kS])
noncomputable def amF:Entry:=ax 284 f284 [vS] (.agg [kI,kI,kS])
noncomputable def FL:Entry:={f:=244,fn:=f244,ins:=[vS],bx:=[],outs:=qJ,bP:=[],loops:=[],cQ:=[],bI:=[cE],cg:=some uL}
noncomputable def amG:Entry:=ax 246 f246 [vS,vS] vB
noncomputable def amH:Entry:=ax 289 f289 [.agg q9,vS] vB
noncomputable def amI:Entry:=ax 334 f334 [.agg q9] gg
noncomputable def amJ:Entry:=ax 360 f360 [.agg q9] vB
noncomputable def amK:Entry:=dw 385 f385 [.agg q9,vI] vB [] [21]
noncomputable def amL:Entry:=bY 410 f410 [lh,.one (.fn 411 [] [.pb 5000 0])] [(5000,[kI])] vB [[kI]] [] []
noncomputable def amM:Entry:=bY 427 f427 [lh,.one (.fn 411 [] [.pb 5000 0])] [(5000,[kI])] vI [[kI]] [(0,lq [(8,vI),(0,lh),(1,.one (.fn 411 [] [.pb 5000 0])),(7,vI)] [(5000,[kI])] [])] []
noncomputable def amN:Entry:=bY 411 f411 [.agg q9,.one (.pb 5000 0)] [(5000,[kI])] vB [[kI]] [] []
noncomputable def amO:Entry:=dw 409 f409 [.agg q9] vB [(0,lq [(7,vI),(1,.one (.pb 1 0)),(6,vI)] [(1,q9)] [1])] [4]
noncomputable def amP:Entry:=bL 361 f361 [gg,.agg q9] gg [(1,lq [(53,vI),(0,gg),(51,lh),(52,vI)] [] [0])]
noncomputable def amQ:Entry:=bL 386 f386 [gg,lh] gg [(0,lp ⟨[(18,vI),(5,eS),(0,gg),(16,lh),(1,lh),(17,vI)],[]⟩ ⟨[(5,eS),(1,lh),(0,gg)],[]⟩),(2,lq [(58,vI),(0,gg),(56,eS),(57,vI)] [] [0])]
noncomputable def amR:Entry:=bL 333 f333 [fk,vS] (.aP [vI,vI,vB]) [(0,lq [(7,vI),(1,vS),(0,fk)] [] [])]
noncomputable def amS:Entry:=bL 358 f358 [fk] vB [(0,lq [(11,vI),(0,fk),(9,fk),(10,vI)] [] [])]
noncomputable def amT:Entry:=ax 381 f381 [.agg yY,vI,vB] vB
noncomputable def amU:Entry:=dw 359 f359 [fk,vS,vI] vI [(0,lq [(2,vI),(1,vS),(0,fk),(7,vI),(8,eS)] [] []),(2,lp ⟨[(51,vI),(9,eS),(2,vI),(1,vS),(0,fk),(49,eS),(45,vB),(44,vI),(43,.one (.al 6272)),(7,vI),(50,vI)],[]⟩ ⟨[(1,vS),(0,fk),(45,vB),(44,vI),(43,eS),(7,vI),(2,vI),(9,eS)],[]⟩)] [8]
noncomputable def amV:Entry:=bL 382 f382 [fk,eB,vB,vB] eS [(0,lq [(24,vI),(11,.one (.fn 406 [] [.pb 4 0,.pb 9 0,.pb 10 0])),(22,eB),(2,vB),(3,vB),(4,.one (.pb 4 0)),(10,.one (.pb 10 0)),(23,vI)] [(4,[vi]),(9,[sx]),(10,[jk])] [11,2,3,4,10]),(2,lp ⟨[(14,vI),(11,.one (.fn 406 [] [.pb 4 0,.pb 9 0,.pb 10 0])),(2,vB),(3,vB),(4,.one (.pb 4 0)),(10,.one (.pb 10 0))],[(4,[vi]),(9,[sx]),(10,[jk])]⟩ ⟨[(10,.one (.pb 10 0))],[(10,[jk])]⟩)]
noncomputable def amW:Entry:=bY 406 f406 [vI,.one (.pb 5000 0),.one (.pb 5001 0),.one (.pb 5002 0)] [(5000,[vi]),(5001,[sx]),(5002,[jk])] (.aP []) [[vi],[sx],[jk]] [] []
noncomputable def FM:Entry:={f:=407,fn:=f407,ins:=[eS],bx:=[],outs:=eS,bP:=[],loops:=[],cQ:=[],bI:=[bn],cg:=some uM,back:=some 0}
noncomputable def amX:Entry:=ax 383 f383 [eB,vI] vB
noncomputable def amY:Entry:=bL 408 f408 [eB,vI] vI [(0,lq [(8,vI),(0,eB),(1,vI),(7,vI)] [] [])]
noncomputable def amZ:Entry:=ax 384 f384 [.agg yY,vU] vB
noncomputable def anA:Entry:=ax 245 f245 [vB] (.agg [kI,kI,kS])
noncomputable def anB:Entry:=bL 248 f248 [vS,kD] (.agg [kI,kI,kS]) [(0,lp ⟨[(1,kD),(4,.one (.pb 4 0)),(0,vS)],[(4,[kI,kI,kS])]⟩ ⟨[(4,.one (.pb 4 0)),(1,kD),(0,vS)],[(4,[kI,kI,kS])]⟩)]
noncomputable def anC:Entry:=dw 290 f290 [vS,vU,vU] vS [(0,lq [(14,vI),(2,vU),(1,vU),(7,gh),(12,.one (.al 896)),(13,vI)] [] [7])] [5]
noncomputable def FN:Entry:={f:=203,fn:=f203,ins:=[vS,vS],bx:=[],outs:=vI,bP:=[],loops:=[],cQ:=[],bI:=[.int .i64],cg:=some yy}
noncomputable def anD:Entry:=ax 291 f291 [vS,vI,vI] vS
noncomputable def anE:Entry:=ax 249 f249 [vI,.agg [kI,kI,kS],.agg [kI,kI,kS]] (.aP [.agg [kI,kI,kS],vI])
noncomputable def anF:Entry:=ax 292 f292 [vI,vI,vI] (.aP [vI,vI])
noncomputable def anG:Entry:=ax 335 f335 [vI,vI] (.aP [vI,vB])
noncomputable def anH:Entry:=ax 336 f336 [vI,vI] (.aP [vI,vB])
noncomputable def anI:Entry:=ax 363 f363 [vI] (.one (.int .u64))
noncomputable def FO:Entry:={f:=362,fn:=f362,ins:=[.one (.int .u64),.one (.int .u64)],bx:=[],outs:=.aP [.one (.int .u64),.one (.int .u64)],bP:=[],loops:=[],cQ:=[],bI:=[.int .u64,.int .u64],cg:=some primMul64}
noncomputable def anJ:Entry:=dw 364 f364 [.one (.int .u64),.one (.int .u64),.one (.int .u64)] (.aP [.one (.int .u64),.one (.int .u64)]) [(0,lp ⟨[(8,.one (.int .u64)),(2,.one (.int .u64)),(14,.one (.int .u64)),(9,.one (.int .u64)),(10,.one (.int .u64)),(13,.one (.int .u64)),(11,.one (.int .u64)),(16,.one (.int .u64)),(15,.one (.int .u64))],[]⟩ ⟨[(8,.one (.int .u64)),(2,.one (.int .u64)),(14,.one (.int .u64)),(15,.one (.int .u64)),(9,.one (.int .u64)),(10,.one (.int .u64)),(13,.one (.int .u64)),(11,.one (.int .u64))],[]⟩),(2,lp ⟨[(8,.one (.int .u64)),(2,.one (.int .u64)),(14,.one (.int .u64)),(17,.one (.int .u64)),(15,.one (.int .u64)),(9,.one (.int .u64)),(16,.one (.int .u64)),(18,.one (.int .u64)),(10,.one (.int .u64))],[]⟩ ⟨[(8,.one (.int .u64)),(2,.one (.int .u64)),(18,.one (.int .u64)),(14,.one (.int .u64)),(17,.one (.int .u64)),(15,.one (.int .u64))],[]⟩)] [24,17]
noncomputable def anK:Entry:=ax 387 f387 [.one (.int .u64)] vI
noncomputable def anL:Entry:=ax 412 f412 [.one (.int .u64)] vI
noncomputable def anM:Entry:=ax 337 f337 [vI,vI] (.aP [vI,vB])
noncomputable def anN:Entry:=ax 294 f294 [.agg [kI,kI,kS],.agg [kI,kI,kS]] vI
noncomputable def anO:Entry:=ax 293 f293 [vI,vI] vB
noncomputable def anP:Entry:=bY 173 f173 [.one (.pb 5000 0),.agg q5] [(5000,q8)] (.aP [.agg iJ,vS]) [[.undef,.undef,kI,kI,kS,kS,gb,kI]] [] []
noncomputable def anQ:Entry:=ax 72 f72 [.agg q2,.agg q4,.agg [kI,kI,kS]] (.agg q7)
noncomputable def anR:Entry:=ax 126 f126 [.agg q4] (.agg q7)
noncomputable def FP:Entry:={f:=174,fn:=f174,ins:=[eB],bx:=[],outs:=eS,bP:=[],loops:=[],cQ:=[],bI:=[bn],cg:=some (gK bn)}
noncomputable def anS:Entry:=ax 127 f127 [.agg q2,.agg q5,vS] (.aP [.agg iJ,vS])
noncomputable def anT:Entry:=ax 30 f30 [vS,vS] vB
noncomputable def anU:Entry:=ax 70 f70 [vS,vS] vB
noncomputable def anV:Entry:=ax 10 f10 [.agg q0,.agg q0] vB
noncomputable def anW:Entry:=ax 32 f32 [.agg q2,.agg q2] vB
noncomputable def anX:Entry:=bL 73 f73 [gf,gf] vB [(0,lq [(5,vI),(1,gf),(0,gf)] [] [])]
noncomputable def anY:Entry:=bL 74 f74 [cp,cp] vB [(0,lq [(5,vI),(1,cp),(0,cp)] [] [])]
noncomputable def anZ:Entry:=ax 128 f128 [.agg [kI,kI,kS],.agg [kI,kI,kS]] vB
noncomputable def aoA:Entry:=bL 33 f33 [lj,lj] vB [(0,lq [(5,vI),(1,lj),(0,lj)] [] [])]
noncomputable def aoB:Entry:=ax 75 f75 [.agg q1,.agg q1] vB
noncomputable def aoC:Entry:=ax 129 f129 [.agg sy,.agg sy] vB
noncomputable def aoD:Entry:=ax 176 f176 [.agg nw,.agg nw] vB
noncomputable def aoE:Entry:=bL 133 f133 [iI,iI] vB [(0,lq [(5,vI),(1,iI),(0,iI)] [] [])]
noncomputable def aoF:Entry:=ax 179 f179 [.agg sA,.agg sA] vB
noncomputable def aoG:Entry:=ax 77 f77 [.agg [kI,kI,kS],.agg [kI,kI,kS]] vB
noncomputable def aoH:Entry:=ax 131 f131 [.agg q4,.agg q4] vB
noncomputable def aoI:Entry:=ax 177 f177 [.agg q5,.agg q5] vB
noncomputable def aoJ:Entry:=bL 211 f211 [cp,cp] vB [(0,lq [(5,vI),(1,cp),(0,cp)] [] [])]
noncomputable def aoK:Entry:=ax 250 f250 [.agg [kI,kI,kS],.agg [kI,kI,kS]] vB
noncomputable def aoL:Entry:=bL 212 f212 [gC,gC] vB [(0,lq [(5,vI),(1,gC),(0,gC)] [] [])]
noncomputable def aoM:Entry:=ax 251 f251 [.agg iK,.agg iK] vB
noncomputable def aoN:Entry:=bL 36 f36 [eB,eB] vB [(0,lq [(5,vI),(1,eB),(0,eB)] [] [])]
noncomputable def aoO:Entry:=bL 130 f130 [nv,nv] vB [(0,lq [(5,vI),(1,nv),(0,nv)] [] [])]
noncomputable def aoP:Entry:=ax 132 f132 [.agg [oU,kI],.agg [oU,kI]] vB
noncomputable def aoQ:Entry:=bL 178 f178 [qH,qH] vB [(0,lq [(5,vI),(1,qH),(0,qH)] [] [])]
noncomputable def aoR:Entry:=bL 34 f34 [jl,jl] vB [(0,lq [(5,vI),(1,jl),(0,jl)] [] [])]
noncomputable def aoS:Entry:=ax 76 f76 [.agg oX,.agg oX] vB
noncomputable def aoT:Entry:=ax 35 f35 [.agg [kI,kS],.agg [kI,kS]] vB
noncomputable def aoU:Entry:=bL 37 f37 [cp,cp] vB [(0,lq [(5,vI),(1,cp),(0,cp)] [] [])]
noncomputable def aoV:Entry:=ax 4 f4 [.agg q0] vB
noncomputable def aoW:Entry:=dw 11 f11 [.agg q0] vB [(0,lp ⟨[(4,vI),(3,.one (.pb 3 0)),(1,.one (.pb 1 0))],[(3,q7),(1,q0)]⟩ ⟨[(1,.one (.pb 1 0))],[(1,q0)]⟩),(2,lr [(5,vI),(1,.one (.pb 1 0))] [(1,q0)] [])] [12,7]
noncomputable def aoX:Entry:=dw 12 f12 [.agg q0] vB [(0,lp ⟨[(15,vI),(3,.one (.pb 3 0)),(1,.one (.pb 1 0))],[(3,q7),(1,q0)]⟩ ⟨[(1,.one (.pb 1 0))],[(1,q0)]⟩),(2,lr [(46,vI),(1,.one (.pb 1 0)),(44,cp),(45,vI)] [(1,q0)] [])] [13,7]
noncomputable def aoY:Entry:=ax 5 f5 [.agg q0] vB
noncomputable def aoZ:Entry:=dw 13 f13 [.agg q0] vB [(2,lq [(5,vI),(1,.one (.pb 1 0)),(4,.one (.pb 4 0)),(38,vB),(37,vB),(28,.agg q4),(36,.agg q7),(30,.agg q2),(35,cp),(32,cp),(34,vI),(33,.one (.pb 4 16)),(31,.one (.pb 1 11)),(29,.one (.pb 1 0)),(27,.one (.pb 4 17)),(3,vI)] [(1,q0),(4,q1)] [1,38,37,28,36,30,35,32,34,33,31,29,27,3]),(0,lr [(1,.one (.pb 1 0)),(3,vI)] [(1,q0)] [])] [7]
noncomputable def apA:Entry:=ax 38 f38 [.agg q4,.agg q4] vB
noncomputable def apB:Entry:=bL 78 f78 [.agg q4] gh [(0,lp ⟨[(5,vI),(3,.one (.pb 3 0)),(4,gh),(1,.one (.pb 1 0))],[(3,q5),(1,q4)]⟩ ⟨[(3,.one (.pb 3 0)),(1,.one (.pb 1 0)),(4,gh)],[(3,q5),(1,q4)]⟩),(2,lp ⟨[(6,vI),(3,.one (.pb 3 0)),(4,gh),(1,.one (.pb 1 0))],[(3,q5),(1,q4)]⟩ ⟨[(1,.one (.pb 1 0)),(3,.one (.pb 3 0)),(4,gh)],[(1,q4),(3,q5)]⟩),(4,lq [(7,vI),(1,.one (.pb 1 0)),(4,gh)] [(1,q4)] [1,4])]
noncomputable def apC:Entry:=bL 134 f134 [vI] gh [(0,lq [(0,vI),(3,gh)] [] [0,3])]
noncomputable def apD:Entry:=ax 135 f135 [.agg [kI,kI,kS]] gh
noncomputable def apE:Entry:=ax 180 f180 [vI] gh
noncomputable def apF:Entry:=ax 136 f136 [vS] gh
noncomputable def apG:Entry:=dw 14 f14 [.agg q0] vB [(2,lq [(6,vI),(1,.one (.pb 1 0)),(5,vI),(4,.one (.pb 4 0)),(35,vB),(34,vB),(25,.agg q4),(33,.agg q7),(27,.agg q2),(32,cp),(29,cp),(31,vI),(30,.one (.pb 4 16)),(28,.one (.pb 1 11)),(26,.one (.pb 1 0)),(24,.one (.pb 4 17)),(11,lj),(12,vI),(13,vI)] [(1,q0),(4,q1)] [1,35,34,25,33,27,32,29,31,30,28,26,24,11,12,13]),(0,lr [(1,.one (.pb 1 0)),(13,vI),(11,lj),(12,vI)] [(1,q0)] [])] [6]
noncomputable def apH:Entry:=ax 39 f39 [.agg q4,.agg q4] vB
noncomputable def apI:Entry:=bL 79 f79 [cp,cp] vB [(0,lq [(13,vI),(1,cp),(0,cp),(12,vI)] [] [])]
noncomputable def apJ:Entry:=bL 80 f80 [gC,gC] vB [(0,lq [(13,vI),(1,gC),(0,gC),(12,vI)] [] [])]
noncomputable def apK:Entry:=bL 81 f81 [eB,eB] vB [(0,lq [(13,vI),(1,eB),(0,eB),(12,vI)] [] [])]
noncomputable def FQ:List Entry:=[PY,abQ,abR,abS,abT,abU,abV,abW,abX,abY,abZ,acA,acB,acC,acD,acE,acF,acG,acH,acI,acJ,acK,acL,acM,acN,acO,acP,acQ,acR,acS,acT,acU,acV,acW,acX,acY,acZ,adA,adB,adC]
noncomputable def FR:List Entry:=[adD,adE,adF,adG,adH,adI,adJ,adK,adL,adM,adN,adO,adP,adQ,adR,adS,adT,adU,adV,adW,adX,adY,adZ,aeA,aeB,aeC,aeD,aeE,aeF,aeG,aeH,aeI,aeJ,aeK,aeL,aeM,aeN,aeO,aeP,aeQ]
noncomputable def FT:List Entry:=[aeR,aeS,aeT,aeU,aeV,aeW,aeX,aeY,aeZ,afA,afB,afC,afD,afE,afF,afG,afH,afI,afJ,afK,afL,afM,afN,afO,afP,afQ,afR,afS,afT,afU,afV,afW,afX,afY,afZ,agA,agB,agC,agD,agE]
noncomputable def FU:List Entry:=[agF,agG,agH,agI,agJ,agK,agL,agM,agN,agO,agP,agQ,agR,agS,agT,agU,agV,agW,agX,agY,agZ,ahA,ahB,ahC,ahD,ahE,ahF,ahG,ahH,ahI,ahJ,ahK,ahL,ahM,ahN,ahO,ahP,ahQ,ahR,ahS]
noncomputable def FV:List Entry:=[ahT,ahU,ahV,ahW,ahX,ahY,ahZ,aiA,aiB,aiC,aiD,aiE,aiF,aiG,aiH,aiI,aiJ,aiK,aiL,aiM,aiN,aiO,aiP,aiQ,aiR,aiS,aiT,aiU,aiV,aiW,aiX,aiY,FB,aiZ,ajA,ajB,ajC,ajD,ajE,ajF]
noncomputable def FW:List Entry:=[ajG,ajH,ajI,ajJ,FC,ajK,ajL,ajM,ajN,ajO,ajP,ajQ,ajR,ajS,ajT,ajU,ajV,FD,ajW,ajX,ajY,ajZ,FE,akA,akB,akC,akD,akE,akF,akG,akH,akI,akJ,akK,akL,akM,akN,akO,akP,akQ]
noncomputable def FX:List Entry:=[akR,akS,akT,akU,akV,akW,akX,akY,akZ,alA,FF,FH,alB,alC,alD,alE,alF,alG,alH,alI,alJ,alK,alL,alM,alN,FI,alO,alP,alQ,alR,alS,alT,alU,alV,alW,FJ,alX,alY,FK,alZ]
noncomputable def FY:List Entry:=[amA,amB,amC,amD,amE,amF,FL,amG,amH,amI,amJ,amK,amL,amM,amN,amO,amP,amQ,amR,amS,amT,amU,amV,amW,FM,amX,amY,amZ,anA,anB,anC,FN,anD,anE,anF,anG,anH,anI,FO,anJ]
noncomputable def FZ:List Entry:=[anK,anL,anM,anN,anO,anP,anQ,anR,FP,anS,anT,anU,anV,anW,anX,anY,anZ,aoA,aoB,aoC,aoD,aoE,aoF,aoG,aoH,aoI,aoJ,aoK,aoL,aoM,aoN,aoO,aoP,aoQ,aoR,aoS,aoT,aoU,aoV,aoW]
noncomputable def Ga:List Entry:=[aoX,aoY,aoZ,apA,apB,apC,apD,apE,apF,apG,apH,apI,apJ,apK]
noncomputable def Gb:List Entry:=FQ++FR++FT++FU++FV++FW++FX++FY++FZ++Ga
noncomputable def tab (e:Nat):Entry:=uD Gb PY e
def apL:List (FuncId×List Nat):=[(3,[0]),(4,[358]),(5,[361]),(6,[1]),(7,[53]),(8,[27]),(9,[161]),(10,[332]),(11,[359]),(12,[360]),(13,[362]),(14,[369]),(15,[2]),(16,[6]),(17,[23]),(18,[25]),(19,[19]),(20,[26]),(21,[54]),(22,[92]),(23,[28]),(24,[32]),(25,[49]),(26,[51]),(27,[45]),(28,[52]),(29,[162]),(30,[330]),(31,[245]),(32,[333]),(33,[337]),(34,[354]),(35,[356]),(36,[350]),(37,[357]),(38,[363]),(39,[370]),(40,[3]),(41,[4]),(42,[7]),(43,[24]),(44,[12]),(45,[55]),(46,[58]),(47,[74]),(48,[75]),(49,[76]),(50,[89]),(51,[80]),(52,[93]),(53,[157]),(54,[29]),(55,[30]),(56,[33]),(57,[50]),(58,[38]),(59,[163]),(60,[166]),(61,[195]),(62,[197]),(63,[231,239]),(64,[241]),(65,[234]),(66,[226]),(67,[242]),(68,[244]),(69,[202]),(70,[331]),(71,[246]),(72,[326]),(73,[334]),(74,[335]),(75,[338]),(76,[355]),(77,[343]),(78,[364]),(79,[371]),(80,[372]),(81,[373]),(82,[5]),(83,[8]),(84,[20]),(85,[13]),(86,[21]),(87,[10]),(88,[56]),(89,[60]),(90,[62]),(91,[77]),(92,[78]),(93,[82]),(94,[91]),(95,[90]),(96,[81]),(97,[94]),(98,[95]),(99,[158]),(100,[159]),(101,[31]),(102,[34]),(103,[46]),(104,[39]),(105,[47]),(106,[36]),(107,[164]),(108,[173]),(109,[175]),(110,[171]),(111,[176]),(112,[196]),(113,[198]),(114,[199]),(115,[205]),(116,[230]),(117,[233]),(118,[232,240]),(119,[235]),(120,[223,227]),(121,[229]),(122,[243]),(123,[203]),(124,[247]),(125,[248]),(126,[327]),(127,[329]),(128,[336]),(129,[339]),(130,[351]),(131,[344]),(132,[352]),(133,[341]),(134,[365]),(135,[366]),(136,[368]),(137,[9]),(138,[14]),(139,[22]),(140,[11]),(141,[57]),(142,[59]),(143,[63]),(144,[79]),(145,[83]),(146,[97]),(147,[98]),(148,[156]),(149,[73]),(150,[96]),(151,[160]),(152,[99]),(153,[35]),(154,[40]),(155,[48]),(156,[37]),(157,[165]),(158,[174]),(159,[172]),(160,[177]),(161,[179]),(162,[180]),(163,[200]),(164,[201]),(165,[206]),(166,[225]),(167,[236]),(168,[238]),(169,[224,228]),(170,[204]),(171,[249]),(172,[252]),(173,[325]),(174,[328]),(175,[253]),(176,[340]),(177,[345]),(178,[353]),(179,[342]),(180,[367]),(181,[15]),(182,[17]),(183,[61]),(184,[64]),(185,[65]),(186,[84]),(187,[88]),(188,[100]),(189,[41]),(190,[43]),(191,[167]),(192,[169]),(193,[178]),(194,[181]),(195,[182]),(196,[183]),(197,[170]),(198,[207]),(199,[209]),(200,[210]),(201,[221]),(202,[237]),(203,[311]),(204,[250]),(205,[251]),(206,[255]),(207,[254]),(208,[256]),(209,[257]),(210,[280]),(211,[346]),(212,[348]),(213,[16]),(214,[18]),(215,[66]),(216,[72]),(217,[85]),(218,[101]),(219,[102]),(220,[103]),(221,[104]),(222,[108]),(223,[124]),(224,[42]),(225,[44]),(226,[168]),(227,[184]),(228,[208]),(229,[211]),(230,[222]),(232,[258]),(233,[259]),(234,[268]),(235,[267]),(236,[263]),(237,[276]),(238,[277]),(239,[279]),(240,[262]),(241,[281]),(242,[284]),(243,[282]),(244,[286]),(245,[308]),(246,[287]),(247,[260]),(248,[309]),(249,[313]),(250,[347]),(251,[349]),(252,[67]),(253,[70]),(254,[86]),(255,[105]),(256,[109]),(257,[111]),(258,[110]),(259,[119]),(260,[118]),(261,[121]),(262,[123]),(263,[114]),(264,[125]),(265,[127]),(266,[128]),(267,[146]),(268,[148]),(269,[154]),(270,[185]),(271,[194]),(272,[212]),(273,[219]),(279,[261]),(280,[269]),(281,[264]),(282,[270]),(283,[278]),(284,[285]),(285,[283]),(289,[288]),(290,[310]),(291,[312]),(292,[314]),(293,[324]),(294,[323]),(295,[68]),(296,[87]),(297,[106]),(298,[107]),(299,[112]),(300,[115]),(301,[116]),(302,[117]),(303,[120]),(304,[122]),(305,[126]),(306,[129]),(307,[147]),(308,[149]),(309,[155]),(310,[186]),(311,[190]),(312,[213]),(313,[215]),(314,[216]),(315,[214]),(316,[220]),(325,[218]),(326,[271,273]),(327,[274]),(328,[275]),(329,[265]),(330,[266]),(331,[272]),(333,[298]),(334,[289]),(335,[315]),(336,[316]),(337,[322]),(338,[69]),(339,[113]),(340,[137]),(341,[130]),(342,[150]),(343,[151]),(344,[152]),(345,[153]),(346,[187]),(347,[188]),(348,[217]),(358,[299]),(359,[301]),(360,[290]),(361,[296]),(362,[318]),(363,[317]),(364,[319]),(365,[71]),(366,[138]),(367,[131]),(368,[135]),(369,[134]),(370,[189]),(371,[193]),(381,[300]),(382,[302]),(383,[305]),(384,[307]),(385,[291]),(386,[297]),(387,[320]),(388,[139]),(389,[141]),(390,[144]),(391,[132]),(392,[136]),(393,[191]),(399,[192]),(406,[303]),(407,[304]),(408,[306]),(409,[295]),(410,[292]),(411,[294]),(412,[321]),(413,[140]),(414,[142]),(415,[143]),(416,[145]),(417,[133]),(427,[293])]
def gZ (f:FuncId):List Nat:=NY f apL
noncomputable def cF (e n:Nat):yA (On (tab e)) (Option (bO (tab e).bI)):=cur (On (tab e)) (D T tab gZ n e)
noncomputable def cL (e id n m:Nat):yA (Om (yC id (tab e).loops).1) (Option (Sum (bO (yC id (tab e).loops).2.2) (bO (tab e).bI))):=cur _ (Zr T (qd tab gZ (D T tab gZ n)) (tab e) n id (yC id (tab e).loops) m)
abbrev yZ:Nat:=361
theorem PZ:dH prog FQ:=dH.of (by kernel_rfl) (by kernel_rfl)
theorem apM:dH prog FR:=dH.of (by kernel_rfl) (by kernel_rfl)
theorem apN:dH prog FT:=dH.of (by kernel_rfl) (by kernel_rfl)
theorem apO:dH prog FU:=dH.of (by kernel_rfl) (by kernel_rfl)
theorem apP:dH prog FV:=dH.of (by kernel_rfl) (by kernel_rfl)
theorem apQ:dH prog FW:=dH.of (by kernel_rfl) (by kernel_rfl)
theorem apR:dH prog FX:=dH.of (by kernel_rfl) (by kernel_rfl)
theorem apS:dH prog FY:=dH.of (by kernel_rfl) (by kernel_rfl)
theorem apT:dH prog FZ:=dH.of (by kernel_rfl) (by kernel_rfl)
theorem apU:dH prog Ga:=dH.of (by kernel_rfl) (by kernel_rfl)
theorem apV:uC prog eO=true:=by kernel_rfl
theorem apW:dH prog Gb:=((((((((PZ.app apM).app apN).app apO).app apP).app apQ).app apR).app apS).app apT).app apU
end Go.Proofs.YtfpfjmahdneehaaGreatDoor
