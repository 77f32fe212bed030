/- What each function comes to: equations of the evaluator. -/
import Derived.Test.YtfpfjmahdneehaaGreatDoorTab
open Go.IntKind
namespace Go.Proofs.YtfpfjmahdneehaaGreatDoor
noncomputable section
open Go Go.Ev
def OI:Nat→af→af→ae→ae→Int→cu→bw→Int→O→ah→ah→ae→Option Bool:=cF 0
def Fa:Nat→af→af→ae→ae→Int→cu→bw→Int→O→ah→ah→ae→Int→Option Int:=cF 1
def Fb:Nat→af→af→ae→ae→Int→Option Int:=cF 2
def yl:Nat→af→Int→Option Int:=cF 3
def ym:Nat→Nat→Int→af→Int→Option (Sum Int Int):=cL 3 0
def yn:Nat→ae→Int→Option Int:=cF 4
def yo:Nat→Nat→Int→Int→ae→Option (Sum Int Int):=cL 4 0
def Fe:Nat→Int→Int→O→Int→Option Int:=cF 5
def Ff:Nat→cu→Int→Option Int:=cF 6
def yp:Nat→Nat→Int→Int→cu→Option (Sum Int Int):=cL 6 0
def Fg:Nat→Int→Int→Int→Int→Int→aY→ae→ai→Int→Int→ah→O→Int→cg→ah→ah→Int→ae→ai→Int→Int→ah→O→bX→Int→bw→Int→Option Int:=cF 7
def Fh:Nat→Int→Int→Int→Int→aY→ae→ai→Int→Int→ah→O→Int→Option Int:=cF 8
def Fi:Nat→Int→Int→aY→Int→Option Int:=cF 9
def yq:Nat→aY→Int→Option Int:=cF 10
def yr:Nat→Nat→Int→Int→aY→Option (Sum Int Int):=cL 10 0
def Fj:Nat→Int→Int→Int→O→Int→Option Int:=cF 11
def yt:Nat→Int→Int→O→Int→Option Int:=cF 12
def yu:Nat→ae→ai→Int→Int→ah→O→Int→Option Int:=cF 13
def Fk:Nat→ae→ai→Int→Int→Int→Option Int:=cF 14
def Fl:Nat→ae→Int→Option Int:=cF 15
def yv:Nat→Nat→Int→Int→ae→Option (Sum Int Int):=cL 15 0
def yw:Nat→Int→Int→O→Int→Option Int:=cF 16
def Fm:Nat→ai→Int→Option Int:=cF 17
def yx:Nat→Nat→Int→Int→ai→Option (Sum Int Int):=cL 17 0
def Fo:Nat→Int→O→Int→Int→O→Int→Option Int:=cF 18
def qo:Nat→ah→Int→Option Int:=cF 19
def Fp:Nat→cg→Int→Option Int:=cF 20
def Fq:Nat→bX→Int→Int→Option Int:=cF 21
def Fs:Nat→bX→Int→Option Int:=cF 22
def yy:Nat→bw→Int→Option Int:=cF 23
def yz:Nat→Nat→Int→Int→bw→Option (Sum Int Int):=cL 23 0
def Ft:Nat→Int→Int→Int→Int→Int→Int→Int→aY→Bool→O→Int→Option Int:=cF 24
def Fu:Nat→Int→O→Int→Option Int:=cF 25
def Fv:Nat→ae→Int→Option Int:=cF 26
def yA:Nat→Nat→Int→Int→ae→Option (Sum Int Int):=cL 26 0
def uL:Nat→af→af→ae→ae→Int→cu→bw→Int→O→ah→ah→ae→Option (af×af×ae×ae×Int×cu×bw×Int×O×ah×ah×ae):=cF 27
def Fw:Nat→af→af→ae→ae→Option (af×af×ae×ae):=cF 28
def yB:Nat→af→Option af:=cF 29
def yC:Nat→Nat→Int→af→af→Option (Sum af af):=cL 29 0
def yD:Nat→ae→Option ae:=cF 30
def yE:Nat→Nat→Int→ae→ae→Option (Sum ae ae):=cL 30 0
def Fx:Nat→Int→Int→O→Option eu:=cF 31
def Fy:Nat→cu→Option cu:=cF 32
def yF:Nat→Nat→Int→cu→cu→Option (Sum cu cu):=cL 32 0
def Fz:Nat→Int→Int→Int→Int→Int→aY→ae→ai→Int→Int→ah→O→Int→cg→ah→ah→Int→ae→ai→Int→Int→ah→O→bX→Int→bw→Option qk:=cF 33
def FA:Nat→Int→Int→Int→Int→aY→ae→ai→Int→Int→ah→O→Option (Int×Int×Int×Int×aY×ae×ai×Int×Int×ah×O):=cF 34
def FB:Nat→Int→Int→aY→Option (Int×Int×aY):=cF 35
def yG:Nat→aY→Option aY:=cF 36
def yH:Nat→Nat→Int→aY→aY→Option (Sum aY aY):=cL 36 0
def FC:Nat→Int→Int→Int→O→Option Ou:=cF 37
def yI:Nat→Int→Int→O→Option eu:=cF 38
def yJ:Nat→ae→ai→Int→Int→ah→O→Option (ae×ai×Int×Int×ah×O):=cF 39
def FD:Nat→ae→ai→Int→Int→Option (ae×ai×Int×Int):=cF 40
def FE:Nat→ae→Option ae:=cF 41
def yK:Nat→Nat→Int→ae→ae→Option (Sum ae ae):=cL 41 0
def yL:Nat→Int→Int→O→Option eu:=cF 42
def FF:Nat→ai→Option ai:=cF 43
def yM:Nat→Nat→Int→ai→ai→Option (Sum ai ai):=cL 43 0
def FH:Nat→Int→O→Int→Int→O→Option rR:=cF 44
def qp:Nat→ah→Option ah:=cF 45
def yN:Nat→Nat→Int→ah→ah→Option (Sum ah ah):=cL 45 0
def FI:Nat→cg→Option cg:=cF 46
def yO:Nat→Nat→Int→cg→cg→Option (Sum cg cg):=cL 46 0
def FJ:Nat→bX→Int→Option (bX×Int):=cF 47
def FK:Nat→bX→Option bX:=cF 48
def yP:Nat→Nat→Int→bX→bX→Option (Sum bX bX):=cL 48 0
def yQ:Nat→bw→Option bw:=cF 49
def yR:Nat→Nat→Int→bw→bw→Option (Sum bw bw):=cL 49 0
def FL:Nat→Int→Int→Int→Int→Int→Int→Int→aY→Bool→O→Option Ew:=cF 50
def FM:Nat→Int→O→Option (Int×O):=cF 51
def FN:Nat→ae→Option ae:=cF 52
def yS:Nat→Nat→Int→ae→ae→Option (Sum ae ae):=cL 52 0
def FO:Nat→af→af→ae→ae→Int→cu→bw→Int→O→ah→ah→ae→Option Bool:=cF 53
def FP:Nat→af→af→ae→ae→Int→cu→bw→Int→O→ah→ah→ae→Option Bool:=cF 54
def uM:Nat→Nat→af→af→ae→ae→Int→cu→bw→Int→O→ah→ah→ae→Int→Option (Sum (af×af×ae×ae×Int×cu×bw×Int×O×ah×ah×ae) Bool):=cL 54 0
def uN:Nat→Nat→af→af→ae→ae→Int→cu→bw→Int→O→ah→ah→ae→Int→Option (Sum (af×af×ae×ae×Int×cu×bw×Int×O×ah×ah×ae) Bool):=cL 54 2
def uO:Nat→Nat→af→af→ae→ae→Int→cu→bw→Int→O→ah→ah→ae→Int→Option (Sum Unit Bool):=cL 54 4
def uP:Nat→af→af→ae→ae→Option Bool:=cF 55
def rW:Nat→Nat→af→af→ae→ae→Int→Option (Sum (af×af×ae×ae) Bool):=cL 55 0
def rX:Nat→Nat→af→af→ae→ae→Int→Option (Sum (af×af×ae×ae) Bool):=cL 55 2
def yT:Nat→O→Option Bool:=cF 56
def yU:Nat→Nat→Int→O→Option (Sum O Bool):=cL 56 0
def FQ:Nat→UInt8→Option Bool:=cF 57
def cj:Nat→Int→Int→Int→Option Bool:=cF 58
def FR:Nat→O→Option Bool:=cF 59
def qq:Nat→af→O→Option Bool:=cF 60
def yV:Nat→Nat→Int→O→af→Option (Sum Unit Bool):=cL 60 0
def yW:Nat→Option af:=cF 61
def yX:Nat→ae→Int→Int→Option Bool:=cF 62
def uQ:Nat→Nat→Int→Int→Int→Int→ae→Option (Sum Unit Bool):=cL 62 0
def FT:Nat→Int→Int→O→Int→Int→Int→Option Bool:=cF 63
def iH:Nat→Int→Option Bool:=cF 64
def uR:Nat→O→Option (Int×Int×O×Bool×aS×Bool):=cF 65
def uT:Nat→O→Int→Bool→Int→Option (Int×Int×O×Bool×aS×O×Int×Bool):=cF 66
def qs:Nat→Nat→O→Int→Bool→Int→Int→O→Bool→Int→aS→Option (Sum (O×Int×Bool×Int×Int×O×Bool×aS) (Int×Int×O×Bool×aS×O×Int×Bool)):=cL 66 0
def yY:Nat→O→Int→Bool→Int→Option (Int×Int×O×Bool×aS×O×Int×Bool):=cF 67
def uU:Nat→Nat→O→Int→Bool→Int→Int→O→Bool→Int→aS→Option (Sum (O×Int×Bool×Int×Int×O×Bool×aS) (Int×Int×O×Bool×aS×O×Int×Bool)):=cL 67 0
def FU:Nat→O→Int→Bool→Int→Option (Int×Int×O×Bool×aS×O×Int×Bool):=cF 68
def qt:Nat→Nat→O→Int→Bool→Int→Int→O→Bool→Int→Int→O→Bool→aS→Option (Sum (O×Int×Bool×Int×Int×O×Bool×Int×Int×O×Bool×aS) (Int×Int×O×Bool×aS×O×Int×Bool)):=cL 68 0
def uV:Nat→O→Int→Bool→Int→Option (Int×Int×O×Bool×aS×O×Int×Bool):=cF 69
def eR:Nat→O→Int→Bool→UInt8→Option (Bool×O×Int×Bool):=cF 70
def FV:Nat→O→Int→Bool→Option (Int×Int×O×Bool×O×Int×Bool):=cF 71
def jG:Nat→Nat→O→Int→Bool→Int→Int→O→Bool→Int→Int→O→Bool→Int→cg→Bool→UInt8→O→Int→Int→Int→Option (Sum (O×Int×Bool×Int×Int×O×Bool×Int×Int×O×Bool×cg×Bool×UInt8×O×Int×Int) (Int×Int×O×Bool×O×Int×Bool)):=cL 71 2
def gL:Nat→Nat→O→Int→Bool→Int→Int→O→Bool→Int→Int→O→Bool→cg→Int→Option (Sum (O×Int×Bool×Int×Int×O×Bool×Int×Int×O×Bool×cg×Int) (Int×Int×O×Bool×O×Int×Bool)):=cL 71 0
def kQ:Nat→Nat→O→Int→Bool→Int→Int→O→Bool→Int→Int→O→Bool→Int→bX→cg→Option (Sum (O×Int×Bool×Int×Int×O×Bool×Int×Int×O×Bool×bX) (Int×Int×O×Bool×O×Int×Bool)):=cL 71 4
def uW:Nat→Int→Int→O→Bool→aS→Option Int:=cF 72
def uX:Nat→Nat→Int→Int→O→Bool→aS→Int→Int→Option (Sum Int Int):=cL 72 0
def qu:Nat→Int→Int→Option Int:=cF 73
def FW:Nat→Int→O→Option Bool:=cF 74
def yZ:Nat→ah→Option Bool:=cF 75
def uY:Nat→Nat→Int→ah→Option (Sum ah Bool):=cL 75 0
def FX:Nat→af→af→ae→ae→Int→Int→Int→Int→Int→aY→ae→ai→Int→Int→ah→O→Int→cg→ah→ah→Int→ae→ai→Int→Int→ah→O→bX→Int→bw→Int→Option Bool:=cF 76
def uZ:Nat→Nat→Int→Int→Int→Int→Int→aY→ae→ai→Int→Int→ah→O→Int→cg→ah→ah→Int→ae→ai→Int→Int→ah→O→bX→Int→bw→af→af→ae→ae→Int→Int→Int→Option (Sum (Int×Int×Int×Int×Int×aY×ae×ai×Int×Int×ah×O×Int×cg×ah×ah×Int×ae×ai×Int×Int×ah×O×bX×Int×bw×af×af×ae×ae×Int×Int) Bool):=cL 76 0
def vd:Nat→Nat→Int→Int→Int→Int→Int→aY→ae→ai→Int→Int→ah→O→Int→cg→ah→ah→Int→ae→ai→Int→Int→ah→O→bX→Int→bw→af→af→ae→ae→Int→Int→Int→Option (Sum (Int×Int×Int×Int×Int×aY×ae×ai×Int×Int×ah×O×Int×cg×ah×ah×Int×ae×ai×Int×Int×ah×O×bX×Int×bw×af×af×ae×ae×Int) Bool):=cL 76 2
def FY:Nat→af→af→ae→ae→Int→Int→Int→Int→aY→ae→ai→Int→Int→ah→O→Option Bool:=cF 77
def za:Nat→Int→Int→aY→Option (Int×Int):=cF 78
def FZ:Nat→Int→Int→aY→Option Bool:=cF 79
def ve:Nat→Nat→Int→Int→aY→Int→Int→Option (Sum Unit Bool):=cL 79 0
def rY:Nat→Int→Int→O→Option Bool:=cF 80
def Ga:Nat→O→Option Bool:=cF 81
def vf:Nat→Nat→Int→O→Option (Sum Unit Bool):=cL 81 0
def zd:Nat→af→af→ae→ae→ae→ai→Int→Int→ah→O→Option Bool:=cF 82
def vg:Nat→Nat→ae→ai→Int→Int→ah→O→af→af→ae→ae→Int→Option (Sum (ae×ai×Int×Int×ah×O×af×af×ae×ae) Bool):=cL 82 0
def Gb:Nat→ae→ai→Int→Int→Int→Int→Option Bool:=cF 83
def vh:Nat→Nat→ae→ai→Int→Int→Int→Int→Int→Option (Sum (ae×ai×Int×Int×Int×Int) Bool):=cL 83 0
def rZ:Nat→Nat→ae→ai→Int→Int→Int→Int→Int→Option (Sum (ae×ai×Int×Int×Int) Bool):=cL 83 2
def zf:Nat→Int→Int→O→Option Bool:=cF 84
def vi:Nat→O→Option (Int×Bool):=cF 85
def zg:Nat→Nat→Int→O→Int→Option (Sum Int (Int×Bool)):=cL 85 0
def zh:Nat→O→Option (Int×Int):=cF 86
def vj:Nat→Nat→Int→O→Option (Sum (O×Int) (Int×Int)):=cL 86 0
def oG:Nat→Nat→Int→Int→O→Int→Bool→Option (Sum (Int×O×Int×Bool×Int) (Int×Int)):=cL 86 2
def qv:Nat→Nat→Int→Int→Int→O→Int→Bool→Option (Sum (Int×Int×Bool×Int) (Int×Int)):=cL 86 4
def kR:Nat→UInt8→Option Bool:=cF 87
def zi:Nat→Int→O→Int→Int→O→Int→O→Option Bool:=cF 88
def zj:Nat→Int→Int→Int→Int→Int→Int→Int→aY→Bool→O→Int→Option Bool:=cF 89
def Gc:Nat→aY→Int→Option Bool:=cF 90
def vk:Nat→Nat→Int→aY→Int→Option (Sum aY Bool):=cL 90 0
def Gd:Nat→bX→Int→Option Bool:=cF 91
def Ge:Nat→af→af→ae→ae→ae→Option (ae×ai×Int×Int×ah×O):=cF 92
def vm:Nat→Nat→ae→ai→Int→Int→ah→O→af→af→ae→ae→Int→Int→O→Int→ae→Option (Sum (Int×Int×O×ae×ai×Int×Int×ah×O) (ae×ai×Int×Int×ah×O)):=cL 92 0
def Gf:Nat→af→af→ae→ae→Option (ae×ai×Int×Int×ah×O):=cF 93
def Gg:Nat→af→af→ae→ae→Option (ae×ai×eu):=cF 94
def zk:Nat→Int→Option (ae×Int×Int):=cF 95
def zl:Nat→Int→Int→Option Int:=cF 96
def oH:Nat→ae→ai→Int→Int→Option (ae×ai×Int×Int):=cF 97
def oI:Nat→ae→ai→Int→Int→af→af→O→af→O→Int→Bool→ae→Option (ae×ai×Int×Int×af×af×O×af×O×Int×Bool):=cF 98
def vn:Nat→Nat→ae→ai→Int→Int→af→af→O→af→O→Int→Bool→ae→Int→Int→ae→Option (Sum (ae×ai×Int×Int×af×af×O×af×O×Int×Bool) (ae×ai×Int×Int×af×af×O×af×O×Int×Bool)):=cL 98 0
def ia:Nat→ae→ai→Int→Int→af→af→O→af→O→Int→Bool→Int→Option (ae×ai×Int×Int×af×af×O×af×O×Int×Bool):=cF 99
def zm:Nat→ae→ai→Int→Int→af→af→O→af→O→Int→Bool→ae→Int→Int→O→Int→Option (Int×Bool×ae×ai×Int×Int×af×af×O×af×O×Int×Bool×ae):=cF 100
def zn:Nat→Int→Int→O→Option Int:=cF 101
def vo:Nat→Int→Int→O→Option Bool:=cF 102
def lS:Nat→ae→ai→Int→Int→af→af→O→af→O→Int→Bool→O→Option (ae×ai×Int×Int×af×af×O×af×O×Int×Bool):=cF 103
def gb:Nat→Int→Int→O→Option O:=cF 104
def Gh:Nat→Int→Option O:=cF 105
def zo:Nat→Nat→O→Int→O→Option (Sum (Int×O×O) O):=cL 105 0
def vr:Nat→Int→Option Int:=cF 106
def zp:Nat→Int→Option O:=cF 107
def zq:Nat→Nat→Int→O→Option (Sum O O):=cL 107 0
def lT:Nat→ae→ai→Int→Int→af→af→O→af→O→Int→Bool→ae→Int→Int→O→ae→Option (ae×ai×Int×Int×af×af×O×af×O×Int×Bool×ae):=cF 108
def ei:Nat→ae→ai→Int→Int→af→af→O→af→O→Int→Bool→ae→Int→Int→O→Option (ae×ai×Int×Int×af×af×O×af×O×Int×Bool×ae):=cF 109
def gM:Nat→Int→Int→O→Option Int:=cF 110
def vu:Nat→ae→ai→Int→Int→af→af→O→af→O→Int→Bool→Int→Int→Int→Option (Int×Int×O×ae×ai×Int×Int×af×af×O×af×O×Int×Bool):=cF 111
def Gi:Nat→Int→Int→Option (Int×Bool):=cF 112
def mX:Nat→Int→Option (Int×Bool):=cF 113
def gf:Nat→Int→Option eu:=cF 114
def Gj:Nat→Int→Int→Option (Int×Bool):=cF 115
def Gk:Nat→Int→Int→Option (Int×Bool):=cF 116
def Gl:Nat→Int→Int→Option (Int×Bool):=cF 117
def sa:Nat→Int→Int→O→Option O:=cF 118
def zr:Nat→ae→ai→Int→Int→Int→O→Option eu:=cF 119
def mY:Nat→ae→ai→Int→Int→Int→O→Option Int:=cF 120
def sb:Nat→Nat→ae→ai→Int→Int→Int→O→Int→Option (Sum Unit Int):=cL 120 0
def vv:Nat→ae→ai→Int→Int→af→af→O→af→O→Int→Bool→ae→Int→O→Int→Int→O→Option (ae×ai×Int×Int×af×af×O×af×O×Int×Bool×ae):=cF 121
def Gm:Nat→ae→ai→Int→Int→Int→O→Int→Int→O→Option (ae×ai×Int×Int×Bool):=cF 122
def vx:Nat→Nat→Int→Int→ae→ai→Int→Int→ae→ai→Int→Int→Int→Int→O→Int→O→Int→Option (Sum (Int×Int×ae×ai×Int×Int×ae×ai×Int×Int×Int×Int×O×Int×O×Int) (ae×ai×Int×Int×Bool)):=cL 122 0
def Gn:Nat→ae→ai→Int→Int→Int→O→Option (ae×ai×Int×Int):=cF 123
def zt:Nat→ae→ai→Int→Int→af→af→O→af→O→Int→Bool→ae→Int→Int→O→ae→Option (ae×ai×Int×Int×af×af×O×af×O×Int×Bool×ae):=cF 124
def Gp:Nat→ae→ai→Int→Int→af→af→O→af→O→Int→Bool→Int→Int→O→Option (Int×Int×O×ae×ai×Int×Int×af×af×O×af×O×Int×Bool):=cF 125
def vy:Nat→O→Option eu:=cF 126
def Gq:Nat→ae→ai→Int→Int→af→af→O→af→O→Int→Bool→Int→Int→O→Int→Int→O→Option (Int×Int×O×ae×ai×Int×Int×af×af×O×af×O×Int×Bool):=cF 127
def vz:Nat→O→O→Option eu:=cF 128
def Gr:Nat→Int→Int→O→Bool→aS→O→Option Bool:=cF 129
def Gs:Nat→Int→Int→O→Bool→aS→Option bY:=cF 130
def Gt:Nat→Int→Int→O→Bool→aS→Option Bool:=cF 131
def vA:Nat→Int→Int→O→Bool→aS→Option Bool:=cF 132
def zu:Nat→Nat→Int→Int→O→Bool→aS→Int→Option (Sum (Int×Int×O×Bool×aS) Bool):=cL 132 0
def sd:Nat→O→Option Bool:=cF 133
def zv:Nat→Nat→Int→O→Option (Sum Unit Bool):=cL 133 0
def lU:Nat→bY→Int→Int→O→Bool→aS→Option bY:=cF 134
def zw:Nat→Nat→Int→Int→O→Bool→aS→Int→bY→Option (Sum bY bY):=cL 134 1
def lV:Nat→bY→Int→Option bY:=cF 135
def Gu:Nat→bY→aS→Option bY:=cF 136
def zx:Nat→Nat→Int→ah→aS→bY→Option (Sum (ah×aS×bY) bY):=cL 136 0
def oJ:Nat→Nat→Int→bY→ah→Option (Sum bY bY):=cL 136 2
def Gv:Nat→bY→O→Option (Int×Int×Bool):=cF 137
def se:Nat→Nat→Int→O→bY→Option (Sum Unit (Int×Int×Bool)):=cL 137 0
def zA:Nat→bY→O→Int→Option Int:=cF 138
def qw:Nat→Nat→ah→Int→O→bY→Int→Option (Sum Int Int):=cL 138 0
def qx:Nat→Nat→Int→ah→ah→Int→O→bY→Int→Option (Sum (O×bY×Int×Int×ah) Int):=cL 138 2
def Gw:Nat→bY→Option Bool:=cF 139
def zB:Nat→Nat→Int→Int→bY→Option (Sum Int Bool):=cL 139 0
def zC:Nat→Int→Int→O→Bool→Int→Int→Int→Option Bool:=cF 140
def sf:Nat→bY→ah→Bool→Bool→Option ah:=cF 141
def zD:Nat→Nat→Int→Bool→Bool→ah→cg→bY→Option (Sum cg ah):=cL 141 0
def Gx:Nat→bY→cg→Int→Bool→Bool→Option cg:=cF 142
def gg:Nat→Nat→Bool→Bool→bY→cg→ah→Option (Sum cg cg):=cL 142 0
def OJ:Nat→cg→Option ah:=cF 143
def vC:Nat→Nat→Int→ah→cg→Option (Sum ah ah):=cL 143 0
def Gy:Nat→Int→Int→O→Bool→Int→Int→UInt8→Option Bool:=cF 144
def Gz:Nat→O→UInt8→Option Bool:=cF 145
def zE:Nat→Nat→Int→UInt8→O→Option (Sum Unit Bool):=cL 145 0
def sg:Nat→Bool→Option eu:=cF 146
def sj:Nat→Bool→Option Int:=cF 147
def GC:Nat→O→ae→Option eu:=cF 148
def vD:Nat→O→ae→Option eu:=cF 149
def GD:Nat→Int→Option Int:=cF 150
def GF:Nat→O→O→Option Int:=cF 151
def zF:Nat→Nat→Int→O→O→Option (Sum Unit Int):=cL 151 0
def sk:Nat→O→UInt8→UInt8→Option O:=cF 152
def oK:Nat→Nat→Int→UInt8→UInt8→bX→Option (Sum bX O):=cL 152 0
def GG:Nat→ae→Option O:=cF 153
def GH:Nat→Int→Int→Int→O→Int→Int→O→Option eu:=cF 154
def GI:Nat→Int→Int→O→Int→Int→O→Option Int:=cF 155
def vE:Nat→ae→ai→Int→Int→af→af→O→af→O→Int→Bool→ae→ai→Int→Int→Option (ae×ai×Int×Int×O×Int×Int×af×af×O×af×O×Int×Bool):=cF 156
def GJ:Nat→af→af→ae→ae→ae→ai→Int→Int→ah→O→Int→Int→O→Option (ae×ai×Int×Int×ah×O):=cF 157
def GK:Nat→ae→ai→Int→Int→ah→O→Option (ae×ai×Int×Int×ah×O):=cF 158
def GL:Nat→af→af→ae→ae→ae→ai→Int→Int→O→Option (ae×ai×eu):=cF 159
def GM:Nat→O→Option af:=cF 160
def gN:Nat→Nat→Int→Int→O→af→Option (Sum af af):=cL 160 0
def GN:Nat→af→af→ae→ae→Int→cu→bw→Int→O→ah→ah→ae→Option Bool:=cF 161
def GQ:Nat→af→af→ae→ae→Int→cu→bw→Int→O→ah→ah→ae→Option Bool:=cF 162
def vF:Nat→Nat→af→af→ae→ae→Int→cu→bw→Int→O→ah→ah→ae→Int→cu→Int→Option (Sum (af×af×ae×ae×Int×cu×bw×Int×O×ah×ah×ae) Bool):=cL 162 0
def qy:Nat→af→af→ae→ae→Option Bool:=cF 163
def zG:Nat→af→Option Bool:=cF 164
def sn:Nat→Nat→Int→af→af→Int→Option (Sum af Bool):=cL 164 0
def GR:Nat→O→Option Bool:=cF 165
def cQ:Nat→Int→Int→Int→Option Bool:=cF 166
def zH:Nat→O→Int→Option Int:=cF 167
def vG:Nat→Nat→Int→Int→O→Option (Sum Int Int):=cL 167 0
def GU:Nat→UInt8→Option Bool:=cF 168
def GV:Nat→O→Option Bool:=cF 169
def zI:Nat→Option af:=cF 170
def vH:Nat→af→O→Option Bool:=cF 171
def OL:Nat→af→O→Option Int:=cF 172
def zJ:Nat→Nat→Int→af→O→Int→Option (Sum Unit Int):=cL 172 0
def GX:Nat→af→af→ae→ae→af→Option (Bool×af×af×ae×ae):=cF 173
def OM:Nat→af→af→ae→ae→af→Option (Int×af×af×ae×ae):=cF 174
def zK:Nat→Nat→af→af→ae→ae→Int→af→Int→Option (Sum (af×af×ae×ae) (Int×af×af×ae×ae)):=cL 174 0
def GY:Nat→af→af→ae→ae→O→Option (Bool×af×af×ae×ae):=cF 175
def zL:Nat→ae→Int→Int→Option Bool:=cF 176
def GZ:Nat→ae→Int→Int→ae→Option (Bool×ae×Int×Int):=cF 177
def ON:Nat→ae→Int→Int→ae→Option (Int×ae×Int×Int):=cF 178
def zM:Nat→Nat→ae→Int→Int→Int→ae→Int→Option (Sum (ae×Int×Int) (Int×ae×Int×Int)):=cL 178 0
def Ha:Nat→ae→Int→Int→Int→Int→O→Option (Bool×ae×Int×Int):=cF 179
def Hb:Nat→Int→Int→O→Int→Int→Int→Option Bool:=cF 180
def zN:Nat→Int→Option (O×O):=cF 181
def ib:Nat→Int→Option Bool:=cF 182
def zO:Nat→O→Option Bool:=cF 183
def zP:Nat→O→Option (Int×Int×O×Bool×aS×Bool):=cF 184
def vJ:Nat→O→Bool→Option (Int×Int×O×Bool×aS×O×Bool):=cF 185
def vK:Nat→Nat→O→Bool→Int→Int→O→Bool→aS→Option (Sum (O×Bool×Int×Int×O×Bool×aS) (Int×Int×O×Bool×aS×O×Bool)):=cL 185 0
def zQ:Nat→O→Bool→Option (Int×Int×O×Bool×aS×O×Bool):=cF 186
def zR:Nat→Nat→O→Bool→Int→Int→O→Bool→aS→Option (Sum (O×Bool×Int×Int×O×Bool×aS) (Int×Int×O×Bool×aS×O×Bool)):=cL 186 0
def qz:Nat→O→Bool→Option (UInt8×Bool×O×Bool):=cF 187
def Hc:Nat→O→Bool→Option (Int×Int×O×Bool×aS×O×Bool):=cF 188
def zS:Nat→Nat→O→Bool→Int→Int→O→Bool→Int→Int→O→Bool→aS→Option (Sum Unit (Int×Int×O×Bool×aS×O×Bool)):=cL 188 0
def zT:Nat→O→Bool→Option (Int×Int×O×Bool×aS×O×Bool):=cF 189
def mZ:Nat→O→Bool→UInt8→Option (Bool×O×Bool):=cF 190
def Hd:Nat→O→Bool→Option (Int×Int×O×Bool×O×Bool):=cF 191
def na:Nat→Nat→O→Bool→Int→Int→O→Bool→Int→Int→O→Bool→Int→cg→O→Int→Int→Option (Sum (O×Bool×Int×Int×O×Bool×Int×Int×O×Bool×cg×O×Int) (Int×Int×O×Bool×O×Bool)):=cL 191 2
def oL:Nat→Nat→O→Bool→Int→Int→O→Bool→Int→Int→O→Bool→cg→Int→O→Option (Sum (O×Bool×Int×Int×O×Bool×Int×Int×O×Bool×cg) (Int×Int×O×Bool×O×Bool)):=cL 191 0
def so:Nat→Nat→O→Bool→Int→Int→O→Bool→Int→Int→O→Bool→Int→bX→cg→Int→Option (Sum (O×Bool×Int×Int×O×Bool×Int×Int×O×Bool×bX) (Int×Int×O×Bool×O×Bool)):=cL 191 4
def sr:Nat→O→UInt8→Option Int:=cF 192
def zU:Nat→UInt8→Option Int:=cF 193
def zV:Nat→Int→Int→O→Bool→aS→Option Int:=cF 194
def vL:Nat→Nat→Int→Int→aS→Int→Option (Sum Int Int):=cL 194 0
def He:Nat→Int→O→Option Bool:=cF 195
def lW:Nat→Int→Option Bool:=cF 196
def Hf:Nat→af→af→ae→ae→Int→Int→Int→Int→Int→aY→ae→ai→Int→Int→ah→O→Int→cg→ah→ah→Int→ae→ai→Int→Int→ah→O→bX→Int→bw→Int→Option Bool:=cF 197
def Hg:Nat→af→af→ae→ae→Int→Int→Int→Int→aY→ae→ai→Int→Int→ah→O→Option Bool:=cF 198
def zW:Nat→Int→Int→aY→Option (Int×Int):=cF 199
def Hh:Nat→Int→Option Bool:=cF 200
def Hj:Nat→Int→Int→aY→Option Bool:=cF 201
def vM:Nat→Nat→Int→Int→aY→Int→Option (Sum Unit Bool):=cL 201 0
def ss:Nat→Int→Int→O→Option Bool:=cF 202
def Hk:Nat→O→Option Bool:=cF 203
def sv:Nat→O→O→Option Bool:=cF 204
def vN:Nat→af→af→ae→ae→ae→ai→Int→Int→ah→O→Option Bool:=cF 205
def zX:Nat→ae→ai→Int→Int→Int→Int→Option Bool:=cF 206
def sw:Nat→Nat→ae→ai→Int→Int→Int→Int→ai→Int→Option (Sum Unit Bool):=cL 206 0
def Hl:Nat→ae→Option Bool:=cF 207
def OO:Nat→ae→Option Int:=cF 208
def zY:Nat→Nat→Int→ae→Int→Option (Sum Unit Int):=cL 208 0
def Hm:Nat→Int→Int→O→Option Bool:=cF 209
def zZ:Nat→Int→Int→O→Option Bool:=cF 210
def Aa:Nat→O→Option (Int×Bool):=cF 211
def Ab:Nat→O→Option (Int×Int):=cF 212
def Ac:Nat→O→O→Option O:=cF 213
def Ad:Nat→O→UInt8→Option O:=cF 214
def Ae:Nat→Nat→O→UInt8→Option (Sum O O):=cL 214 0
def nc:Nat→O→Int→Option Int:=cF 215
def vO:Nat→Nat→Int→Int→O→Option (Sum Int Int):=cL 215 0
def jH:Nat→O→O→Option (Int×Bool):=cF 216
def OP:Nat→O→Option (Int×Bool):=cF 217
def qA:Nat→Int→Option (Int×Bool):=cF 218
def Hn:Nat→O→O→Option O:=cF 219
def vP:Nat→O→UInt8→Option O:=cF 220
def vQ:Nat→Nat→O→UInt8→Option (Sum O O):=cL 220 0
def vR:Nat→Int→O→Int→Int→O→Int→O→Int→Int→O→Option Int:=cF 221
def Ho:Nat→O→O→Option Int:=cF 222
def Hp:Nat→ah→Option Bool:=cF 223
def OQ:Nat→ah→Option Int:=cF 224
def Af:Nat→Nat→Int→ah→Int→Option (Sum Unit Int):=cL 224 0
def Hq:Nat→Int→Option Bool:=cF 225
def qB:Nat→ah→Int→Int→Int→Option Bool:=cF 226
def Hr:Nat→Int→Int→ah→Option (Bool×Int×Int):=cF 227
def OR:Nat→Int→Int→ah→Option (Int×Int×Int):=cF 228
def Ag:Nat→Nat→Int→Int→Int→ah→Int→Option (Sum (Int×Int) (Int×Int×Int)):=cL 228 0
def Hs:Nat→Int→Int→Int→Option (Bool×Int×Int):=cF 229
def Ht:Nat→bX→Int→Option Bool:=cF 230
def Hu:Nat→Int→Int→Int→Int→Int→Int→aY→ae→ai→Int→Int→ah→O→Int→cg→ah→ah→Int→ae→ai→Int→Int→ah→O→bX→Int→bw→bw→Option (Bool×Int×qk):=cF 231
def OS:Nat→Int→Int→Int→Int→Int→Int→aY→ae→ai→Int→Int→ah→O→Int→cg→ah→ah→Int→ae→ai→Int→Int→ah→O→bX→Int→bw→bw→Option (Int×Int×qk):=cF 232
def Ah:Nat→Nat→Int→Int→Int→Int→Int→Int→aY→ae→ai→Int→Int→ah→O→Int→cg→ah→ah→Int→ae→ai→Int→Int→ah→O→bX→Int→bw→Int→bw→Int→Option (Sum (Int×qk) (Int×Int×qk)):=cL 232 0
def Hv:Nat→Int→Int→Int→Int→Int→Int→aY→ae→ai→Int→Int→ah→O→Int→cg→ah→ah→Int→ae→ai→Int→Int→ah→O→bX→Int→bw→Int→Int→Int→Int→Int→Int→Int→aY→Bool→O→Option (Bool×Int×qk):=cF 233
def Ai:Nat→Int→Int→Int→Int→Int→Int→Int→aY→Bool→O→Int→Option Bool:=cF 234
def Hw:Nat→aY→Int→Option Bool:=cF 235
def Hy:Nat→Int→aY→Option (Bool×Int):=cF 236
def OT:Nat→Int→aY→Option (Int×Int):=cF 237
def Aj:Nat→Nat→Int→Int→aY→Int→Option (Sum Int (Int×Int)):=cL 237 0
def Hz:Nat→Int→Int→Int→Int→O→Option (Bool×Int):=cF 238
def HA:Nat→af→af→ae→ae→Int→cu→bw→Int→O→ah→ah→ae→bw→Option (Bool×af×af×ae×ae×Int×cu×bw×Int×O×ah×ah×ae):=cF 239
def OU:Nat→af→af→ae→ae→Int→cu→bw→Int→O→ah→ah→ae→bw→Option (Int×af×af×ae×ae×Int×cu×bw×Int×O×ah×ah×ae):=cF 240
def Ak:Nat→Nat→af→af→ae→ae→Int→cu→bw→Int→O→ah→ah→ae→Int→bw→Int→Option (Sum (af×af×ae×ae×Int×cu×bw×Int×O×ah×ah×ae) (Int×af×af×ae×ae×Int×cu×bw×Int×O×ah×ah×ae)):=cL 240 0
def HB:Nat→af→af→ae→ae→Int→cu→bw→Int→O→ah→ah→ae→Int→Int→Int→Int→Int→Int→Int→aY→Bool→O→Option (Bool×af×af×ae×ae×Int×cu×bw×Int×O×ah×ah×ae):=cF 241
def HC:Nat→ae→Option Bool:=cF 242
def OV:Nat→ae→Option Int:=cF 243
def Al:Nat→Nat→Int→ae→Int→Option (Sum Unit Int):=cL 243 0
def HD:Nat→Int→Int→O→Option Bool:=cF 244
def HE:Nat→af→af→ae→ae→ae→Option (ae×ai×Int×Int×ah×O):=cF 245
def Am:Nat→Nat→ae→ai→Int→Int→ah→O→af→af→ae→ae→Int→Int→O→Int→ae→Int→Option (Sum (Int×Int×O×ae×ai×Int×Int×ah×O) (ae×ai×Int×Int×ah×O)):=cL 245 0
def HF:Nat→af→af→ae→ae→Option (ae×ai×Int×Int×ah×O):=cF 246
def HG:Nat→af→af→ae→ae→Option (ae×ai×eu):=cF 247
def An:Nat→Int→Option (ae×Int×Int):=cF 248
def nf:Nat→ae→ai→Int→Int→Option (ae×ai×Int×Int):=cF 249
def Ao:Nat→ae→Option ae:=cF 250
def OW:Nat→ai→Option ai:=cF 251
def sx:Nat→ae→ai→Int→Int→O→O→ae→Int→ae→Option (ae×ai×Int×Int×O×O×ae×Int):=cF 252
def fz:Nat→Nat→ae→ai→Int→Int→O→O→ae→Int→Int→Int→ae→Option (Sum (ae×ai×Int×Int×O×O×ae×Int) (ae×ai×Int×Int×O×O×ae×Int)):=cL 252 0
def kn:Nat→ae→ai→Int→Int→O→O→ae→Int→Int→Option (ae×ai×Int×Int×O×O×ae×Int):=cF 253
def Ap:Nat→Int→Int→O→Option Int:=cF 254
def Aq:Nat→ae→ai→Int→Int→O→O→ae→Int→Int→Option (ae×ae×ai×Int×Int×O×O×ae×Int):=cF 255
def vT:Nat→Int→Int→O→Option Bool:=cF 256
def ng:Nat→ae→ai→Int→Int→O→O→ae→Int→Int→Int→O→ae→Option (ae×ai×Int×Int×O×O×ae×Int):=cF 257
def fi:Nat→ae→ai→Int→Int→O→O→ae→Int→Int→Int→O→Option (ae×ai×Int×Int×O×O×ae×Int):=cF 258
def Ar:Nat→ae→ai→Int→Int→O→O→ae→Int→Int→Int→O→Int→Int→O→Option (Int×Int×O×ae×ai×Int×Int×O×O×ae×Int):=cF 259
def kT:Nat→Int→Int→O→Option Int:=cF 260
def As:Nat→Int→Int→Option (Int×Bool):=cF 261
def iI:Nat→Int→Option eu:=cF 262
def gO:Nat→Int→Int→O→Option O:=cF 263
def HH:Nat→Int→Option O:=cF 264
def kV:Nat→Int→Option O:=cF 265
def sy:Nat→O→O→Option O:=cF 266
def oM:Nat→O→Option O:=cF 267
def sA:Nat→ae→ai→Int→Int→O→O→ae→Int→Int→O→Int→Int→O→Option (ae×ai×Int×Int×O×O×ae×Int):=cF 268
def HI:Nat→ae→ai→Int→Int→Int→O→Int→Int→O→Option (ae×ai×Int×Int×Bool):=cF 269
def nh:Nat→ae→ai→Int→Int→Int→O→Option Int:=cF 270
def HJ:Nat→Int→O→ai→Option eu:=cF 271
def vV:Nat→Nat→Int→O→Int→ai→Int→Option (Sum (Int×O) eu):=cL 271 0
def OX:Nat→Int→O→Int→O→Int→Int→O→Option (Bool×Int×O):=cF 272
def HK:Nat→Int→O→Int→Int→O→ai→Option (Int×rR):=cF 273
def vW:Nat→Nat→Int→O→Int→Int→O→Int→ai→Int→Option (Sum rR (Int×rR)):=cL 273 0
def HL:Nat→Int→O→Int→Int→O→Int→O→Int→Int→O→Option (Bool×rR):=cF 274
def Au:Nat→ai→Int→ai→Option ai:=cF 275
def Av:Nat→ae→ai→Int→Int→Int→O→Option eu:=cF 276
def HM:Nat→ae→ai→Int→Int→Int→O→Option (ae×ai×Int×Int):=cF 277
def OY:Nat→ai→Int→Int→Option ai:=cF 278
def sB:Nat→ae→ai→Int→Int→O→O→ae→Int→O→Option (ae×ai×Int×Int×O×O×ae×Int):=cF 279
def HN:Nat→ae→ai→Int→Int→O→O→ae→Int→Int→Int→O→ae→Option (ae×ai×Int×Int×O×O×ae×Int):=cF 280
def ni:Nat→O→Option eu:=cF 281
def vX:Nat→Int→Int→O→Option Int:=cF 282
def Aw:Nat→Int→Option Int:=cF 283
def HO:Nat→O→Int→Option eu:=cF 284
def vY:Nat→O→Option eu:=cF 285
def Ax:Nat→O→Option af:=cF 286
def vZ:Nat→O→O→Option Bool:=cF 287
def HP:Nat→Int→Int→O→Bool→aS→O→Option Bool:=cF 288
def HQ:Nat→Int→Int→O→Bool→aS→Option bY:=cF 289
def HR:Nat→Int→Int→O→Bool→aS→Option Bool:=cF 290
def Ay:Nat→Int→Int→O→Bool→aS→Int→Option Bool:=cF 291
def jh:Nat→Int→aS→Option (Bool×Int):=cF 292
def OZ:Nat→Int→aS→Option (Int×Int):=cF 293
def Az:Nat→Nat→Int→Int→aS→Int→Option (Sum Int (Int×Int)):=cL 293 0
def AE:Nat→Int→Int→Int→O→Bool→aS→Option (Bool×Int):=cF 294
def AF:Nat→Int→Int→O→Bool→aS→Option Bool:=cF 295
def wa:Nat→Nat→Int→Int→O→Bool→aS→Int→Int→Option (Sum (Int×Int×O×Bool×aS) Bool):=cL 295 0
def jI:Nat→bY→Int→Int→O→Bool→aS→Option bY:=cF 296
def AG:Nat→Nat→Int→bY→aS→Int→Option (Sum bY bY):=cL 296 1
def HS:Nat→bY→aS→Option bY:=cF 297
def AH:Nat→Nat→Int→ah→bY→aS→aS→Int→Option (Sum (ah×aS×bY) bY):=cL 297 0
def oN:Nat→Nat→Int→bY→ah→Int→Option (Sum bY bY):=cL 297 2
def HT:Nat→bY→O→Option (Int×Int×Bool):=cF 298
def sC:Nat→Nat→Int→O→bY→Option (Sum Unit (Int×Int×Bool)):=cL 298 0
def AI:Nat→bY→Option Bool:=cF 299
def AJ:Nat→Nat→Int→bY→bY→Int→Option (Sum Unit Bool):=cL 299 0
def AK:Nat→Int→Int→O→Bool→Int→Int→Int→Bool→Option Bool:=cF 300
def AL:Nat→bY→O→Int→Option Int:=cF 301
def qC:Nat→Nat→Int→O→bY→Int→ah→Option (Sum Unit Int):=cL 301 0
def qD:Nat→Nat→Int→ah→Int→O→bY→ah→Bool→Int→Int→Int→Option (Sum (O×bY×Bool×Int×ah×Int×Int×ah) Int):=cL 301 2
def AN:Nat→bY→ah→Bool→Bool→Option ah:=cF 302
def AO:Nat→Nat→bY→cg→ah→Int→ah→Bool→Bool→Int→Option (Sum (bY×cg×ah×Bool×Bool) ah):=cL 302 0
def ej:Nat→Nat→bY→cg→ah→Int→Bool→Bool→Option (Sum ah ah):=cL 302 2
def ji:Nat→bY→cg→ah→Int→Option (bY×cg×ah):=cF 303
def Pb:Nat→ah→Option ah:=cF 304
def AP:Nat→ah→Int→Option Bool:=cF 305
def Pc:Nat→ah→Int→Option Int:=cF 306
def AQ:Nat→Nat→Int→ah→Int→Int→Option (Sum Unit Int):=cL 306 0
def HU:Nat→Int→Int→O→Bool→Int→Int→UInt8→Option Bool:=cF 307
def qE:Nat→Bool→Option eu:=cF 308
def HV:Nat→O→ae→Option eu:=cF 309
def AR:Nat→Nat→Int→Int→O→ae→O→Option (Sum (Int×Int×O×ae×O) eu):=cL 309 0
def sD:Nat→O→UInt8→UInt8→Option O:=cF 310
def oO:Nat→Nat→Int→UInt8→UInt8→bX→Int→Option (Sum bX O):=cL 310 0
def HW:Nat→O→O→Option Int:=cF 311
def AS:Nat→O→Int→Int→Option O:=cF 312
def HX:Nat→Int→Int→Int→O→Int→Int→O→Option (Int×Int×O×Int):=cF 313
def HY:Nat→Int→Int→Int→Option (Int×Int):=cF 314
def HZ:Nat→Int→Int→Option (Int×Bool):=cF 315
def Ia:Nat→Int→Int→Option (Int×Bool):=cF 316
def AU:Nat→Int→Option Int:=cF 317
def Ib:Nat→Int→Int→Option (Int×Int):=cF 318
def Ic:Nat→Int→Int→Int→Option (Int×Int):=cF 319
def wc:Nat→Nat→Int→Int→Int→Int→Int→Int→Int→Int→Int→Option (Sum (Int×Int×Int×Int×Int×Int×Int×Int) (Int×Int)):=cL 319 0
def we:Nat→Nat→Int→Int→Int→Int→Int→Int→Int→Int→Int→Option (Sum (Int×Int×Int×Int×Int×Int) (Int×Int)):=cL 319 2
def Ie:Nat→Int→Option Int:=cF 320
def anE:Nat→Int→Option Int:=cF 321
def Ig:Nat→Int→Int→Option (Int×Bool):=cF 322
def Ih:Nat→Int→Int→O→Int→Int→O→Option Int:=cF 323
def Ii:Nat→Int→Int→Option Bool:=cF 324
def wh:Nat→ae→ai→Int→Int→O→O→ae→Int→ae→ai→Int→Int→Option (ae×ai×Int×Int×O×Int×Int×O×O×ae×Int):=cF 325
def Ij:Nat→af→af→ae→ae→ae→ai→Int→Int→ah→O→Int→Int→O→Option (ae×ai×Int×Int×ah×O):=cF 326
def Ik:Nat→ae→ai→Int→Int→ah→O→Option (ae×ai×Int×Int×ah×O):=cF 327
def Pd:Nat→ah→Option ah:=cF 328
def Il:Nat→af→af→ae→ae→ae→ai→Int→Int→O→Option (ae×ai×eu):=cF 329
def Pe:Nat→O→O→Option Bool:=cF 330
def Pf:Nat→O→O→Option Bool:=cF 331
def Im:Nat→af→af→ae→ae→Int→cu→bw→Int→O→ah→ah→ae→af→af→ae→ae→Int→cu→bw→Int→O→ah→ah→ae→Option Bool:=cF 332
def Io:Nat→af→af→ae→ae→af→af→ae→ae→Option Bool:=cF 333
def AV:Nat→af→af→Option Bool:=cF 334
def AW:Nat→Nat→Int→af→af→Option (Sum Unit Bool):=cL 334 0
def AX:Nat→ae→ae→Option Bool:=cF 335
def AY:Nat→Nat→Int→ae→ae→Option (Sum Unit Bool):=cL 335 0
def Ip:Nat→Int→Int→O→Int→Int→O→Option Bool:=cF 336
def Iq:Nat→cu→cu→Option Bool:=cF 337
def AZ:Nat→Nat→Int→cu→cu→Option (Sum Unit Bool):=cL 337 0
def Ir:Nat→Int→Int→Int→Int→Int→aY→ae→ai→Int→Int→ah→O→Int→cg→ah→ah→Int→ae→ai→Int→Int→ah→O→bX→Int→bw→Int→Int→Int→Int→Int→aY→ae→ai→Int→Int→ah→O→Int→cg→ah→ah→Int→ae→ai→Int→Int→ah→O→bX→Int→bw→Option Bool:=cF 338
def Is:Nat→Int→Int→Int→Int→aY→ae→ai→Int→Int→ah→O→Int→Int→Int→Int→aY→ae→ai→Int→Int→ah→O→Option Bool:=cF 339
def It:Nat→Int→Int→aY→Int→Int→aY→Option Bool:=cF 340
def Ba:Nat→aY→aY→Option Bool:=cF 341
def Bc:Nat→Nat→Int→aY→aY→Option (Sum Unit Bool):=cL 341 0
def Iu:Nat→Int→Int→Int→O→Int→Int→Int→O→Option Bool:=cF 342
def Bd:Nat→Int→Int→O→Int→Int→O→Option Bool:=cF 343
def Be:Nat→ae→ai→Int→Int→ah→O→ae→ai→Int→Int→ah→O→Option Bool:=cF 344
def Iv:Nat→ae→ai→Int→Int→ae→ai→Int→Int→Option Bool:=cF 345
def Iw:Nat→ae→ae→Option Bool:=cF 346
def Bf:Nat→Nat→Int→ae→ae→Option (Sum Unit Bool):=cL 346 0
def Bg:Nat→Int→Int→O→Int→Int→O→Option Bool:=cF 347
def Ix:Nat→ai→ai→Option Bool:=cF 348
def Bh:Nat→Nat→Int→ai→ai→Option (Sum Unit Bool):=cL 348 0
def Iy:Nat→Int→O→Int→Int→O→Int→O→Int→Int→O→Option Bool:=cF 349
def qF:Nat→ah→ah→Option Bool:=cF 350
def Bi:Nat→Nat→Int→ah→ah→Option (Sum Unit Bool):=cL 350 0
def Iz:Nat→cg→cg→Option Bool:=cF 351
def Bj:Nat→Nat→Int→cg→cg→Option (Sum Unit Bool):=cL 351 0
def IA:Nat→bX→Int→bX→Int→Option Bool:=cF 352
def IB:Nat→bX→bX→Option Bool:=cF 353
def Bk:Nat→Nat→Int→bX→bX→Option (Sum Unit Bool):=cL 353 0
def Bm:Nat→bw→bw→Option Bool:=cF 354
def Bn:Nat→Nat→Int→bw→bw→Option (Sum Unit Bool):=cL 354 0
def IC:Nat→Int→Int→Int→Int→Int→Int→Int→aY→Bool→O→Int→Int→Int→Int→Int→Int→Int→aY→Bool→O→Option Bool:=cF 355
def ID:Nat→Int→O→Int→O→Option Bool:=cF 356
def IE:Nat→ae→ae→Option Bool:=cF 357
def Bo:Nat→Nat→Int→ae→ae→Option (Sum Unit Bool):=cL 357 0
theorem Pg (n i j k m p q r s t u g h):OI (n+1) i j k m p q r s t u g h=letI l:=uL n i j k m p q r s t u g h;(Fa n i j k m p q r s t u g h 1048576).bind fun z=>cond (decide (z<0)) (some true) (l.bind fun d=>letI c:=d.2.2.2.2.2;letI w:=c.2.2.2;(FO n d.1 d.2.1 d.2.2.1 d.2.2.2.1 d.2.2.2.2.1 c.1 c.2.1 c.2.2.1 w.1 w.2.1 w.2.2.1 w.2.2.2).bind fun y2=>l.bind fun b=>letI o:=b.2.2.2;letI a:=o.2.2.2;letI v:=a.2.2.2;(GN n b.1 b.2.1 b.2.2.1 o.1 o.2.1 o.2.2.1 a.1 a.2.1 a.2.2.1 v.1 v.2.1 v.2.2).bind fun y4=>cond (!(y4==y2)) (some false) (l.bind fun f=>letI e:=f.2.2.2.2.2;letI x:=e.2.2.2;(Im n b.1 b.2.1 b.2.2.1 o.1 o.2.1 o.2.2.1 a.1 a.2.1 a.2.2.1 v.1 v.2.1 v.2.2 f.1 f.2.1 f.2.2.1 f.2.2.2.1 f.2.2.2.2.1 e.1 e.2.1 e.2.2.1 x.1 x.2.1 x.2.2.1 x.2.2.2).bind fun y6=>cond (!y6) (some false) (some true))):=by kernel_rfl
theorem anF (n g h i j x4 k m p q r b d f):Fa (n+1) g h i j x4 k m p q r b d f=(Fb n g h i j f).bind fun s=>cond (decide (s<0)) (some (-1:Int)) ((Ff n k s).bind fun t=>cond (decide (t<0)) (some (-1:Int)) ((yy n m t).bind fun u=>cond (decide (u<0)) (some (-1:Int)) ((Fu n p q u).bind fun z=>cond (decide (z<0)) (some (-1:Int)) ((qo n r z).bind fun y4=>cond (decide (y4<0)) (some (-1:Int)) ((qo n b y4).bind fun y5=>cond (decide (y5<0)) (some (-1:Int)) ((Fv n d y5).bind fun y6=>cond (decide (y6<0)) (some (-1:Int)) (some y6))))))):=by kernel_rfl
theorem anG (n b d f g h):Fb (n+1) b d f g h=(yl n b h).bind fun i=>cond (decide (i<0)) (some (-1:Int)) ((yl n d i).bind fun j=>cond (decide (j<0)) (some (-1:Int)) ((yn n f j).bind fun k=>cond (decide (k<0)) (some (-1:Int)) ((yn n g k).bind fun m=>cond (decide (m<0)) (some (-1:Int)) (some m)))):=by kernel_rfl
theorem Ph (n b d):yl (n+1) b d=letI a:=wrap .i64 (d-(b.length:Int));cond (decide (a<0)) (some (-1:Int)) ((ym n n 0 b a).bind fun f=>ay f (fun g=>some g) (fun h=>some h)):=by kernel_rfl
theorem Pj (n m b d f):ym n (m+1) b d f=letI c:=wrap .i64;cond (decide (b<(d.length:Int))) ((ax d b).bind fun g=>letI a:=c (f-(g.length:Int));cond (decide (a<0)) (some (Sum.inr (-1:Int))) (ym n m (c (b+1)) d a)) (some (Sum.inl f)):=by kernel_rfl
theorem Pk (n b d):yn (n+1) b d=letI a:=wrap .i64 (d-(b.length:Int));cond (decide (a<0)) (some (-1:Int)) ((yo n n 0 a b).bind fun f=>ay f (fun g=>some g) (fun h=>some h)):=by kernel_rfl
theorem Pm (n m b f d):yo n (m+1) b f d=cond (decide (b<(d.length:Int))) ((ax d b).bind fun g=>(Fe n g.1 g.2.1 g.2.2 f).bind fun h=>cond (decide (h<0)) (some (Sum.inr (-1:Int))) (yo n m (wrap .i64 (b+1)) h d)) (some (Sum.inl f)):=by kernel_rfl
theorem anH (n f g b d):Fe (n+1) f g b d=letI a:=wrap .i64 (d-(b.length:Int));cond (decide (a<0)) (some (-1:Int)) (some a):=by kernel_rfl
theorem Pn (n b d):Ff (n+1) b d=letI a:=wrap .i64 (d-(b.length:Int));cond (decide (a<0)) (some (-1:Int)) ((yp n n 0 a b).bind fun f=>ay f (fun g=>some g) (fun h=>some h)):=by kernel_rfl
theorem Po (n m d g f):yp n (m+1) d g f=cond (decide (d<(f.length:Int))) ((ax f d).bind fun b=>letI j:=b.2.2.2;letI e:=j.2.2.2;letI k:=e.2.2.2;letI a:=k.2.2.2;letI l:=a.2.2.2;letI c:=l.2.2.2;letI i:=c.2.2.2;(Fg n b.1 b.2.1 b.2.2.1 j.1 j.2.1 j.2.2.1 e.1 e.2.1 e.2.2.1 k.1 k.2.1 k.2.2.1 a.1 a.2.1 a.2.2.1 l.1 l.2.1 l.2.2.1 c.1 c.2.1 c.2.2.1 i.1 i.2.1 i.2.2.1 i.2.2.2.1 i.2.2.2.2 g).bind fun h=>cond (decide (h<0)) (some (Sum.inr (-1:Int))) (yp n m (wrap .i64 (d+1)) h f)) (some (Sum.inl g)):=by kernel_rfl
theorem anI (n x0 x1 x2 x3 x4 x5 x6 x7 x8 x9 b d z f g h ad i j k m p q r s t u):Fg (n+1) x0 x1 x2 x3 x4 x5 x6 x7 x8 x9 b d z f g h ad i j k m p q r s t u=(Fh n x1 x2 x3 x4 x5 x6 x7 x8 x9 b d u).bind fun y0=>cond (decide (y0<0)) (some (-1:Int)) ((Fp n f y0).bind fun y1=>cond (decide (y1<0)) (some (-1:Int)) ((qo n g y1).bind fun y2=>cond (decide (y2<0)) (some (-1:Int)) ((qo n h y2).bind fun y3=>cond (decide (y3<0)) (some (-1:Int)) ((yu n i j k m p q y3).bind fun y4=>cond (decide (y4<0)) (some (-1:Int)) ((Fq n r s y4).bind fun y5=>cond (decide (y5<0)) (some (-1:Int)) ((yy n t y5).bind fun y6=>cond (decide (y6<0)) (some (-1:Int)) (some y6))))))):=by kernel_rfl
theorem anJ (n s t f g h i j k m p b d):Fh (n+1) s t f g h i j k m p b d=(Fi n f g h d).bind fun q=>cond (decide (q<0)) (some (-1:Int)) ((yu n i j k m p b q).bind fun r=>cond (decide (r<0)) (some (-1:Int)) (some r)):=by kernel_rfl
theorem anK (n g h b d):Fi (n+1) g h b d=(yq n b d).bind fun f=>cond (decide (f<0)) (some (-1:Int)) (some f):=by kernel_rfl
theorem Pp (n b d):yq (n+1) b d=letI a:=wrap .i64 (d-(b.length:Int));cond (decide (a<0)) (some (-1:Int)) ((yr n n 0 a b).bind fun f=>ay f (fun g=>some g) (fun h=>some h)):=by kernel_rfl
theorem Pq (n m b g d):yr n (m+1) b g d=cond (decide (b<(d.length:Int))) ((ax d b).bind fun f=>(Fj n f.1 f.2.1 f.2.2.1 f.2.2.2 g).bind fun h=>cond (decide (h<0)) (some (Sum.inr (-1:Int))) (yr n m (wrap .i64 (b+1)) h d)) (some (Sum.inl g)):=by kernel_rfl
theorem anL (n i b d f g):Fj (n+1) i b d f g=(yt n b d f g).bind fun h=>cond (decide (h<0)) (some (-1:Int)) (some h):=by kernel_rfl
theorem anM (n f g b d):yt (n+1) f g b d=letI a:=wrap .i64 (d-(b.length:Int));cond (decide (a<0)) (some (-1:Int)) (some a):=by kernel_rfl
theorem anN (n f g h i j b k):yu (n+1) f g h i j b k=(Fk n f g h i k).bind fun m=>cond (decide (m<0)) (some (-1:Int)) ((qo n j m).bind fun d=>letI a:=wrap .i64 (d-(b.length:Int));cond (decide (d<0)) (some (-1:Int)) (cond (decide (a<0)) (some (-1:Int)) (some a))):=by kernel_rfl
theorem anO (n b d i j f):Fk (n+1) b d i j f=(Fl n b f).bind fun g=>cond (decide (g<0)) (some (-1:Int)) ((Fm n d g).bind fun h=>cond (decide (h<0)) (some (-1:Int)) (some h)):=by kernel_rfl
theorem Pr (n b d):Fl (n+1) b d=letI a:=wrap .i64 (d-(b.length:Int));cond (decide (a<0)) (some (-1:Int)) ((yv n n 0 a b).bind fun f=>ay f (fun g=>some g) (fun h=>some h)):=by kernel_rfl
theorem Ps (n m b f d):yv n (m+1) b f d=cond (decide (b<(d.length:Int))) ((ax d b).bind fun g=>(yw n g.1 g.2.1 g.2.2 f).bind fun h=>cond (decide (h<0)) (some (Sum.inr (-1:Int))) (yv n m (wrap .i64 (b+1)) h d)) (some (Sum.inl f)):=by kernel_rfl
theorem anP (n f g b d):yw (n+1) f g b d=letI a:=wrap .i64 (d-(b.length:Int));cond (decide (a<0)) (some (-1:Int)) (some a):=by kernel_rfl
theorem Pt (n b d):Fm (n+1) b d=letI a:=wrap .i64 (d-(b.length:Int));cond (decide (a<0)) (some (-1:Int)) ((yx n n 0 a b).bind fun f=>ay f (fun g=>some g) (fun h=>some h)):=by kernel_rfl
theorem Pu (n m d g f):yx n (m+1) d g f=cond (decide (d<(f.length:Int))) ((ax f d).bind fun b=>(Fo n b.1 b.2.1 b.2.2.1 b.2.2.2.1 b.2.2.2.2 g).bind fun h=>cond (decide (h<0)) (some (Sum.inr (-1:Int))) (yx n m (wrap .i64 (d+1)) h f)) (some (Sum.inl g)):=by kernel_rfl
theorem anQ (n j b f g h d):Fo (n+1) j b f g h d=letI a:=wrap .i64 (d-(b.length:Int));cond (decide (a<0)) (some (-1:Int)) ((yw n f g h a).bind fun i=>cond (decide (i<0)) (some (-1:Int)) (some i)):=by kernel_rfl
theorem anR (n b d):qo (n+1) b d=letI a:=wrap .i64 (d-(b.length:Int));cond (decide (a<0)) (some (-1:Int)) (some a):=by kernel_rfl
theorem anS (n b d):Fp (n+1) b d=letI a:=wrap .i64 (d-(b.length:Int));cond (decide (a<0)) (some (-1:Int)) (some a):=by kernel_rfl
theorem anT (n b g d):Fq (n+1) b g d=(Fs n b d).bind fun f=>cond (decide (f<0)) (some (-1:Int)) (some f):=by kernel_rfl
theorem anU (n b d):Fs (n+1) b d=letI a:=wrap .i64 (d-(b.length:Int));cond (decide (a<0)) (some (-1:Int)) (some a):=by kernel_rfl
theorem Pv (n b d):yy (n+1) b d=letI a:=wrap .i64 (d-(b.length:Int));cond (decide (a<0)) (some (-1:Int)) ((yz n n 0 a b).bind fun f=>ay f (fun g=>some g) (fun h=>some h)):=by kernel_rfl
theorem Pw (n m d g f):yz n (m+1) d g f=cond (decide (d<(f.length:Int))) ((ax f d).bind fun b=>letI a:=b.2.2.2.2;(Ft n b.1 b.2.1 b.2.2.1 b.2.2.2.1 a.1 a.2.1 a.2.2.1 a.2.2.2.1 a.2.2.2.2.1 a.2.2.2.2.2 g).bind fun h=>cond (decide (h<0)) (some (Sum.inr (-1:Int))) (yz n m (wrap .i64 (d+1)) h f)) (some (Sum.inl g)):=by kernel_rfl
theorem anV (n h i j k m p q g r d b):Ft (n+1) h i j k m p q g r d b=(yq n g b).bind fun f=>letI a:=wrap .i64 (f-(d.length:Int));cond (decide (f<0)) (some (-1:Int)) (cond (decide (a<0)) (some (-1:Int)) (some a)):=by kernel_rfl
theorem anW (n f b d):Fu (n+1) f b d=letI a:=wrap .i64 (d-(b.length:Int));cond (decide (a<0)) (some (-1:Int)) (some a):=by kernel_rfl
theorem Px (n b d):Fv (n+1) b d=letI a:=wrap .i64 (d-(b.length:Int));cond (decide (a<0)) (some (-1:Int)) ((yA n n 0 a b).bind fun f=>ay f (fun g=>some g) (fun h=>some h)):=by kernel_rfl
theorem Py (n m b f d):yA n (m+1) b f d=cond (decide (b<(d.length:Int))) ((ax d b).bind fun g=>(yt n g.1 g.2.1 g.2.2 f).bind fun h=>cond (decide (h<0)) (some (Sum.inr (-1:Int))) (yA n m (wrap .i64 (b+1)) h d)) (some (Sum.inl f)):=by kernel_rfl
theorem anX (n g h i j k m p q r s b d):uL (n+1) g h i j k m p q r s b d=(Fw n g h i j).bind fun f=>(Fy n m).bind fun u=>(yQ n p).bind fun z=>(FM n q r).bind fun t=>(qp n s).bind fun y4=>(qp n b).bind fun y5=>(FN n d).bind fun y6=>some (f.1,f.2.1,f.2.2.1,f.2.2.2,k,u,z,t.1,t.2,y4,y5,y6):=by kernel_rfl
theorem anY (n b d f g):Fw (n+1) b d f g=(yB n b).bind fun h=>(yB n d).bind fun i=>(yD n f).bind fun j=>(yD n g).bind fun k=>some (h,i,j,k):=by kernel_rfl
theorem anZ (n b):yB (n+1) b=letI a:=(b.length:Int);cond (decide (0≤a∧a≤a∧a≤(big:Int))) ((yC n n 0 b (List.replicate (Int.toNat a) ([]:O))).bind fun d=>ay d (fun f=>some f) (fun g=>some g)) none:=by kernel_rfl
theorem Pz (n m b f d):yC n (m+1) b f d=letI a:=Int.toNat b;cond (decide (b<(f.length:Int))) ((ax f b).bind fun g=>cond (decide (0≤b∧b<(d.length:Int))) ((aM d a).bind fun _=>yC n m (wrap .i64 (b+1)) f (d.set a g)) none) (some (Sum.inl d)):=by kernel_rfl
theorem aoA (n b):yD (n+1) b=letI a:=(b.length:Int);cond (decide (0≤a∧a≤a∧a≤(big:Int))) ((yE n n 0 b (List.replicate (Int.toNat a) ((0:Int),(0:Int),([]:O)))).bind fun d=>ay d (fun f=>some f) (fun g=>some g)) none:=by kernel_rfl
theorem PA (n m b f d):yE n (m+1) b f d=letI a:=Int.toNat b;cond (decide (b<(f.length:Int))) ((ax f b).bind fun g=>(Fx n g.1 g.2.1 g.2.2).bind fun h=>cond (decide (0≤b∧b<(d.length:Int))) ((aM d a).bind fun _=>yE n m (wrap .i64 (b+1)) f (d.set a (h.1,h.2.1,h.2.2))) none) (some (Sum.inl d)):=by kernel_rfl
theorem aoB (n b d f):Fx (n+1) b d f=some (b,d,f):=by kernel_rfl
theorem aoC (n b):Fy (n+1) b=letI a:=(b.length:Int);cond (decide (0≤a∧a≤a∧a≤(big:Int))) ((yF n n 0 b (List.replicate (Int.toNat a) ((0:Int),(0:Int),(0:Int),(0:Int),(0:Int),([]:aY),([]:ae),([]:ai),(0:Int),(0:Int),([]:ah),([]:O),(0:Int),([]:cg),([]:ah),([]:ah),(0:Int),([]:ae),([]:ai),(0:Int),(0:Int),([]:ah),([]:O),([]:bX),(0:Int),([]:bw)))).bind fun d=>ay d (fun f=>some f) (fun g=>some g)) none:=by kernel_rfl
theorem PB (n m f h g):yF n (m+1) f h g=letI w:=Int.toNat f;cond (decide (f<(h.length:Int))) ((ax h f).bind fun b=>letI q:=b.2.2.2;letI k:=q.2.2.2;letI r:=k.2.2.2;letI a:=r.2.2.2;letI s:=a.2.2.2;letI e:=s.2.2.2;letI o:=e.2.2.2;(Fz n b.1 b.2.1 b.2.2.1 q.1 q.2.1 q.2.2.1 k.1 k.2.1 k.2.2.1 r.1 r.2.1 r.2.2.1 a.1 a.2.1 a.2.2.1 s.1 s.2.1 s.2.2.1 e.1 e.2.1 e.2.2.1 o.1 o.2.1 o.2.2.1 o.2.2.2.1 o.2.2.2.2).bind fun d=>letI t:=d.2.2.2;letI l:=t.2.2.2;letI u:=l.2.2.2;letI c:=u.2.2.2;letI v:=c.2.2.2;letI j:=v.2.2.2;letI p:=j.2.2.2;cond (decide (0≤f∧f<(g.length:Int))) ((aM g w).bind fun _=>yF n m (wrap .i64 (f+1)) h (g.set w (d.1,d.2.1,d.2.2.1,t.1,t.2.1,t.2.2.1,l.1,l.2.1,l.2.2.1,u.1,u.2.1,u.2.2.1,c.1,c.2.1,c.2.2.1,v.1,v.2.1,v.2.2.1,j.1,j.2.1,j.2.2.1,p.1,p.2.1,p.2.2.1,p.2.2.2.1,p.2.2.2.2))) none) (some (Sum.inl g)):=by kernel_rfl
theorem aoD (n x0 x1 x2 x3 x4 x5 x6 x7 x8 x9 f g h i j k m p q r s t u z ad ae):Fz (n+1) x0 x1 x2 x3 x4 x5 x6 x7 x8 x9 f g h i j k m p q r s t u z ad ae=(FA n x1 x2 x3 x4 x5 x6 x7 x8 x9 f g).bind fun b=>letI a:=b.2.2.2.2.2;(FI n i).bind fun y1=>(qp n j).bind fun y2=>(qp n k).bind fun y3=>(yJ n p q r s t u).bind fun d=>(FJ n z ad).bind fun y5=>(yQ n ae).bind fun y6=>some (x0,b.1,b.2.1,b.2.2.1,b.2.2.2.1,b.2.2.2.2.1,a.1,a.2.1,a.2.2.1,a.2.2.2.1,a.2.2.2.2.1,a.2.2.2.2.2,h,y1,y2,y3,m,d.1,d.2.1,d.2.2.1,d.2.2.2.1,d.2.2.2.2.1,d.2.2.2.2.2,y5.1,y5.2,y6):=by kernel_rfl
theorem aoE (n g h i j k m p q r s d):FA (n+1) g h i j k m p q r s d=(FB n i j k).bind fun f=>(yJ n m p q r s d).bind fun b=>some (g,h,f.1,f.2.1,f.2.2,b.1,b.2.1,b.2.2.1,b.2.2.2.1,b.2.2.2.2.1,b.2.2.2.2.2):=by kernel_rfl
theorem aoF (n b d f):FB (n+1) b d f=(yG n f).bind fun g=>some (b,d,g):=by kernel_rfl
theorem aoG (n b):yG (n+1) b=letI a:=(b.length:Int);cond (decide (0≤a∧a≤a∧a≤(big:Int))) ((yH n n 0 b (List.replicate (Int.toNat a) ((0:Int),(0:Int),(0:Int),([]:O)))).bind fun d=>ay d (fun f=>some f) (fun g=>some g)) none:=by kernel_rfl
theorem PD (n m b f d):yH n (m+1) b f d=letI a:=Int.toNat b;cond (decide (b<(f.length:Int))) ((ax f b).bind fun g=>(FC n g.1 g.2.1 g.2.2.1 g.2.2.2).bind fun h=>cond (decide (0≤b∧b<(d.length:Int))) ((aM d a).bind fun _=>yH n m (wrap .i64 (b+1)) f (d.set a (h.1,h.2.1,h.2.2.1,h.2.2.2))) none) (some (Sum.inl d)):=by kernel_rfl
theorem aoH (n d f g h):FC (n+1) d f g h=(yI n f g h).bind fun b=>some (d,b.1,b.2.1,b.2.2):=by kernel_rfl
theorem aoI (n b d f):yI (n+1) b d f=some (b,d,f):=by kernel_rfl
theorem aoJ (n d f g h i j):yJ (n+1) d f g h i j=(FD n d f g h).bind fun b=>(qp n i).bind fun k=>some (b.1,b.2.1,b.2.2.1,b.2.2.2,k,j):=by kernel_rfl
theorem aoK (n b d f g):FD (n+1) b d f g=(FE n b).bind fun h=>(FF n d).bind fun i=>some (h,i,f,g):=by kernel_rfl
theorem aoL (n b):FE (n+1) b=letI a:=(b.length:Int);cond (decide (0≤a∧a≤a∧a≤(big:Int))) ((yK n n 0 b (List.replicate (Int.toNat a) ((0:Int),(0:Int),([]:O)))).bind fun d=>ay d (fun f=>some f) (fun g=>some g)) none:=by kernel_rfl
theorem PE (n m b f d):yK n (m+1) b f d=letI a:=Int.toNat b;cond (decide (b<(f.length:Int))) ((ax f b).bind fun g=>(yL n g.1 g.2.1 g.2.2).bind fun h=>cond (decide (0≤b∧b<(d.length:Int))) ((aM d a).bind fun _=>yK n m (wrap .i64 (b+1)) f (d.set a (h.1,h.2.1,h.2.2))) none) (some (Sum.inl d)):=by kernel_rfl
theorem aoM (n b d f):yL (n+1) b d f=some (b,d,f):=by kernel_rfl
theorem aoN (n b):FF (n+1) b=letI a:=(b.length:Int);cond (decide (0≤a∧a≤a∧a≤(big:Int))) ((yM n n 0 b (List.replicate (Int.toNat a) ((0:Int),([]:O),(0:Int),(0:Int),([]:O)))).bind fun d=>ay d (fun f=>some f) (fun g=>some g)) none:=by kernel_rfl
theorem PF (n m b h d):yM n (m+1) b h d=letI a:=Int.toNat b;cond (decide (b<(h.length:Int))) ((ax h b).bind fun f=>(FH n f.1 f.2.1 f.2.2.1 f.2.2.2.1 f.2.2.2.2).bind fun g=>cond (decide (0≤b∧b<(d.length:Int))) ((aM d a).bind fun _=>yM n m (wrap .i64 (b+1)) h (d.set a (g.1,g.2.1,g.2.2.1,g.2.2.2.1,g.2.2.2.2))) none) (some (Sum.inl d)):=by kernel_rfl
theorem aoO (n d f g h i):FH (n+1) d f g h i=(yL n g h i).bind fun b=>some (d,f,b.1,b.2.1,b.2.2):=by kernel_rfl
theorem aoP (n b):qp (n+1) b=letI a:=(b.length:Int);cond (decide (0≤a∧a≤a∧a≤(big:Int))) ((yN n n 0 b (List.replicate (Int.toNat a) (0:Int))).bind fun d=>ay d (fun f=>some f) (fun g=>some g)) none:=by kernel_rfl
theorem PG (n m b f d):yN n (m+1) b f d=letI a:=Int.toNat b;cond (decide (b<(f.length:Int))) ((ax f b).bind fun g=>cond (decide (0≤b∧b<(d.length:Int))) ((aM d a).bind fun _=>yN n m (wrap .i64 (b+1)) f (d.set a g)) none) (some (Sum.inl d)):=by kernel_rfl
theorem aoQ (n b):FI (n+1) b=letI a:=(b.length:Int);cond (decide (0≤a∧a≤a∧a≤(big:Int))) ((yO n n 0 b (List.replicate (Int.toNat a) false)).bind fun d=>ay d (fun f=>some f) (fun g=>some g)) none:=by kernel_rfl
theorem PH (n m b f d):yO n (m+1) b f d=letI a:=Int.toNat b;cond (decide (b<(f.length:Int))) ((ax f b).bind fun g=>cond (decide (0≤b∧b<(d.length:Int))) ((aM d a).bind fun _=>yO n m (wrap .i64 (b+1)) f (d.set a g)) none) (some (Sum.inl d)):=by kernel_rfl
theorem aoR (n b d):FJ (n+1) b d=(FK n b).bind fun f=>some (f,d):=by kernel_rfl
theorem aoS (n b):FK (n+1) b=letI a:=(b.length:Int);cond (decide (0≤a∧a≤a∧a≤(big:Int))) ((yP n n 0 b (List.replicate (Int.toNat a) (0:UInt8))).bind fun d=>ay d (fun f=>some f) (fun g=>some g)) none:=by kernel_rfl
theorem PI (n m b f d):yP n (m+1) b f d=letI a:=Int.toNat b;cond (decide (b<(f.length:Int))) ((ax f b).bind fun g=>cond (decide (0≤b∧b<(d.length:Int))) ((aM d a).bind fun _=>yP n m (wrap .i64 (b+1)) f (d.set a (UInt8.ofNat (Int.toNat ((g).toNat:Int))))) none) (some (Sum.inl d)):=by kernel_rfl
theorem aoT (n b):yQ (n+1) b=letI a:=(b.length:Int);cond (decide (0≤a∧a≤a∧a≤(big:Int))) ((yR n n 0 b (List.replicate (Int.toNat a) ((0:Int),(0:Int),(0:Int),(0:Int),(0:Int),(0:Int),(0:Int),([]:aY),false,([]:O)))).bind fun d=>ay d (fun f=>some f) (fun g=>some g)) none:=by kernel_rfl
theorem PJ (n m f h g):yR n (m+1) f h g=letI e:=Int.toNat f;cond (decide (f<(h.length:Int))) ((ax h f).bind fun b=>letI a:=b.2.2.2.2;(FL n b.1 b.2.1 b.2.2.1 b.2.2.2.1 a.1 a.2.1 a.2.2.1 a.2.2.2.1 a.2.2.2.2.1 a.2.2.2.2.2).bind fun d=>letI c:=d.2.2.2.2;cond (decide (0≤f∧f<(g.length:Int))) ((aM g e).bind fun _=>yR n m (wrap .i64 (f+1)) h (g.set e (d.1,d.2.1,d.2.2.1,d.2.2.2.1,c.1,c.2.1,c.2.2.1,c.2.2.2.1,c.2.2.2.2.1,c.2.2.2.2.2))) none) (some (Sum.inl g)):=by kernel_rfl
theorem aoU (n b d f g h i j k m p):FL (n+1) b d f g h i j k m p=(yG n k).bind fun q=>some (b,d,f,g,h,i,j,q,m,p):=by kernel_rfl
theorem aoV (n b d):FM (n+1) b d=some (b,d):=by kernel_rfl
theorem aoW (n b):FN (n+1) b=letI a:=(b.length:Int);cond (decide (0≤a∧a≤a∧a≤(big:Int))) ((yS n n 0 b (List.replicate (Int.toNat a) ((0:Int),(0:Int),([]:O)))).bind fun d=>ay d (fun f=>some f) (fun g=>some g)) none:=by kernel_rfl
theorem PK (n m b f d):yS n (m+1) b f d=letI a:=Int.toNat b;cond (decide (b<(f.length:Int))) ((ax f b).bind fun g=>(yI n g.1 g.2.1 g.2.2).bind fun h=>cond (decide (0≤b∧b<(d.length:Int))) ((aM d a).bind fun _=>yS n m (wrap .i64 (b+1)) f (d.set a (h.1,h.2.1,h.2.2))) none) (some (Sum.inl d)):=by kernel_rfl
theorem PL (n g h i j p q r s b t f d):FO (n+1) g h i j p q r s b t f d=letI a:=(b.length:Int);(FP n g h i j p q r s b t f d).bind fun u=>cond (!u) (some false) ((Ge n g h i j d).bind fun k=>letI c:=(k.2.2.2.2.2.length:Int);(cond (decide (a≤c)) (cond (decide (0≤a∧a≤c)) (some ((k.2.2.2.2.2.take ((Int.toNat a)-0))==b)) none) (some false)).bind fun m=>some m):=by kernel_rfl
theorem PN (n g h i j f k m p q r b d):FP (n+1) g h i j f k m p q r b d=((uP n g h i j).bind fun y0=>cond (!y0) (some true) ((cj n f 1 5).bind fun y1=>cond (!y1) (some true) (cond ((k.length:Int) !=f) (some true) (cond (decide (40<(m.length:Int))) (some true) ((FW n p q).bind fun y2=>cond (!y2) (some true) ((yZ n r).bind fun y3=>cond (!y3) (some true) ((yZ n b).bind fun y4=>cond (!y4) (some true) (some (decide (300<(d.length:Int))))))))))).bind fun s=>cond s (some false) ((uM n n g h i j f k m p q r b d 0).bind fun t=>ay t (fun z22=>letI e:=z22.2.2;letI a:=e.2.2.2;letI l:=a.2.2.2;(uN n n z22.1 z22.2.1 e.1 e.2.1 e.2.2.1 a.1 a.2.1 a.2.2.1 l.1 l.2.1 l.2.2.1 l.2.2.2 0).bind fun u=>ay u (fun z23=>letI o:=z23.2.2;letI c:=o.2.2.2;letI v:=c.2.2.2;(uO n n z23.1 z23.2.1 o.1 o.2.1 o.2.2.1 c.1 c.2.1 c.2.2.1 v.1 v.2.1 v.2.2.1 v.2.2.2 0).bind fun z=>ay z (fun _=>some true) (fun ad=>some ad)) (fun ae=>some ae)) (fun af=>some af)):=by kernel_rfl
theorem PQ (n m j k p q h i r s t u f g d):uM n (m+1) j k p q h i r s t u f g d=cond (decide (d<h)) ((ax i d).bind fun z=>cond (z.1 !=d) (some (Sum.inr false)) ((ax i d).bind fun b=>letI o:=b.2.2.2;letI e:=o.2.2.2;letI v:=e.2.2.2;letI a:=v.2.2.2;letI w:=a.2.2.2;letI c:=w.2.2.2;letI l:=c.2.2.2;(FX n j k p q b.1 b.2.1 b.2.2.1 o.1 o.2.1 o.2.2.1 e.1 e.2.1 e.2.2.1 v.1 v.2.1 v.2.2.1 a.1 a.2.1 a.2.2.1 w.1 w.2.1 w.2.2.1 c.1 c.2.1 c.2.2.1 l.1 l.2.1 l.2.2.1 l.2.2.2.1 l.2.2.2.2 h).bind fun y2=>cond (!y2) (some (Sum.inr false)) (uM n m j k p q h i r s t u f g (wrap .i64 (d+1))))) (some (Sum.inl (j,k,p,q,h,i,r,s,t,u,f,g))):=by kernel_rfl
theorem PR (n m j k p q i r h s t u f g d):uN n (m+1) j k p q i r h s t u f g d=cond (decide (d<(h.length:Int))) ((ax h d).bind fun b=>letI a:=b.2.2.2.2;(zj n b.1 b.2.1 b.2.2.1 b.2.2.2.1 a.1 a.2.1 a.2.2.1 a.2.2.2.1 a.2.2.2.2.1 a.2.2.2.2.2 i).bind fun z=>cond (!z) (some (Sum.inr false)) (uN n m j k p q i r h s t u f g (wrap .i64 (d+1)))) (some (Sum.inl (j,k,p,q,i,r,h,s,t,u,f,g))):=by kernel_rfl
theorem PS (n m h i j k p q r s t u f b d):uO n (m+1) h i j k p q r s t u f b d=cond (decide (d<(b.length:Int))) ((ax b d).bind fun g=>(rY n g.1 g.2.1 g.2.2).bind fun z=>cond (!z) (some (Sum.inr false)) (uO n m h i j k p q r s t u f b (wrap .i64 (d+1)))) (some (Sum.inl ())):=by kernel_rfl
theorem aoX (n f g h i):uP (n+1) f g h i=(rW n n f g h i 0).bind fun j=>ay j (fun b=>(rX n n b.1 b.2.1 b.2.2.1 b.2.2.2 0).bind fun k=>ay k (fun z2=>letI c:=(z2.1.length:Int);letI a:=(z2.2.1.length:Int);(cond (decide (c≤8)) (cond (decide (a≤8)) ((yX n z2.2.2.1 c a).bind fun m=>cond m ((yX n z2.2.2.2 c a).bind fun p=>some p) (some false)) (some false)) (some false)).bind fun d=>some d) (fun q=>some q)) (fun r=>some r):=by kernel_rfl
theorem PT (n m b f g h d):rW n (m+1) b f g h d=letI c:=wrap .i64;letI a:=rW n m b f g h (c (d+1));cond (decide (d<(b.length:Int))) ((ax b d).bind fun i=>(yT n i).bind fun j=>cond (!j) (some (Sum.inr false)) ((ax b d).bind fun k=>(qq n f k).bind fun p=>cond p (some (Sum.inr false)) (cond (decide (0<d)) ((ax b (c (d-1))).bind fun q=>(ax b d).bind fun r=>cond (!(Op.bytesLess q r)) (some (Sum.inr false)) a) a))) (some (Sum.inl (b,f,g,h))):=by kernel_rfl
theorem PU (n m f b g h d):rX n (m+1) f b g h d=letI c:=wrap .i64;letI a:=rX n m f b g h (c (d+1));cond (decide (d<(b.length:Int))) ((ax b d).bind fun i=>(yT n i).bind fun j=>cond (!j) (some (Sum.inr false)) (cond (decide (0<d)) ((ax b (c (d-1))).bind fun k=>(ax b d).bind fun p=>cond (!(Op.bytesLess k p)) (some (Sum.inr false)) a) a)) (some (Sum.inl (f,b,g,h))):=by kernel_rfl
theorem aoY (n d):yT (n+1) d=(yU n n 0 d).bind fun g=>ay g (fun f=>((cj n (f.length:Int) 1 8).bind fun h=>cond h ((FR n f).bind fun i=>some (!i)) (some false)).bind fun b=>some b) (fun j=>some j):=by kernel_rfl
theorem PV (n m d b):yU n (m+1) d b=cond (decide (d<(b.length:Int))) ((bE b d).bind fun f=>(FQ n (UInt8.ofNat (Int.toNat ((f).toNat:Int)))).bind fun g=>cond (!g) (some (Sum.inr false)) (yU n m (wrap .i64 (d+1)) b)) (some (Sum.inl b)):=by kernel_rfl
theorem aoZ (n b):FQ (n+1) b=letI a:=((b).toNat:Int);letI e:=decide (a≤90);letI c:=decide (65≤a);(cond (decide (97≤a)) (cond (decide (a≤122)) (some true) (cond c (some e) (some false))) (cond c (some e) (some false))).bind fun d=>some d:=by kernel_rfl
theorem wi (n b f g):cj (n+1) b f g=(cond (decide (f≤b)) (some (decide (b≤g))) (some false)).bind fun d=>some d:=by kernel_rfl
theorem apA (n b):FR (n+1) b=((qq n ([([66,69,71,73,78]:O),([112,114,105,110,116]:O),([105,102]:O),([101,108,115,101]:O),([119,104,105,108,101]:O),([110,101,120,116]:O),([100,101,108,101,116,101]:O),([78,82]:O),([78,70]:O)]:af) b).bind fun f=>cond f (some true) ((yW n).bind fun g=>(qq n g b).bind fun h=>some h)).bind fun d=>some d:=by kernel_rfl
theorem apB (n b d):qq (n+1) b d=(yV n n 0 d b).bind fun f=>ay f (fun _=>some false) (fun g=>some g):=by kernel_rfl
theorem PX (n m b f d):yV n (m+1) b f d=cond (decide (b<(d.length:Int))) ((ax d b).bind fun g=>cond (g==f) (some (Sum.inr true)) (yV n m (wrap .i64 (b+1)) f d)) (some (Sum.inl ())):=by kernel_rfl
theorem apC (n):yW (n+1)=some ([([108,101,110,103,116,104]:O),([115,117,98,115,116,114]:O),([105,110,100,101,120]:O),([105,110,116]:O),([117,112,112,101,114]:O),([108,111,119,101,114]:O)]:af):=by kernel_rfl
theorem PY (n b h i):yX (n+1) b h i=letI a:=(b.length:Int);((cj n a 1 1500).bind fun j=>cond (!j) (some true) ((ax b (wrap .i64 (a-1))).bind fun k=>some (k.1 !=36))).bind fun d=>cond d (some false) ((uQ n n 0 i h a b).bind fun f=>ay f (fun _=>some true) (fun g=>some g)):=by kernel_rfl
theorem PZ (n m b f g d h):uQ n (m+1) b f g d h=cond (decide (b<d)) ((ax h b).bind fun i=>(FT n i.1 i.2.1 i.2.2 d g f).bind fun j=>cond (!j) (some (Sum.inr false)) (uQ n m (wrap .i64 (b+1)) f g d h)) (some (Sum.inl ())):=by kernel_rfl
theorem apD (n f d g m k j):FT (n+1) f d g m k j=letI o:=decide (d<k);letI l:=cj n d 0 (wrap .i64 (m-1));letI e:=decide (d<j);letI c:=decide (0≤d);letI a:=g==([]:O);cond (f==1) (((iH n d).bind fun h=>cond h (some a) (some false)).bind fun b=>some b) (cond (f==2) (some (d==0)) (cond (f==3) ((cond c (cond o (some a) (some false)) (some false)).bind fun b=>some b) (cond (f==4) ((cond c (cond o (some a) (some false)) (some false)).bind fun b=>some b) (cond (f==5) ((cond c (cond o (some a) (some false)) (some false)).bind fun b=>some b) (cond (f==6) ((cond c (cond e (some a) (some false)) (some false)).bind fun b=>some b) (cond (f==7) ((cond c (cond e (some a) (some false)) (some false)).bind fun b=>some b) (cond (f==8) ((cond c (cond e (some a) (some false)) (some false)).bind fun b=>some b) (cond (f==35) ((cond c (cond e (some a) (some false)) (some false)).bind fun b=>some b) (cond (f==24) ((uR n g).bind fun h=>(cond h.2.2.2.2.2 (some (d==0)) (some false)).bind fun i=>some i) (cond (f==25) ((uR n g).bind fun h=>(cond h.2.2.2.2.2 (some (d==0)) (some false)).bind fun i=>some i) (cond (f==29) (((cj n d 1 3).bind fun h=>cond h ((yW n).bind fun p=>(qq n p g).bind fun q=>some q) (some false)).bind fun b=>some b) (cond (f==30) ((l.bind fun h=>cond h (some a) (some false)).bind fun b=>some b) (cond (f==31) ((l.bind fun h=>cond h (some a) (some false)).bind fun b=>some b) (cond (f==33) (((cj n d 0 1).bind fun h=>cond h (some a) (some false)).bind fun b=>some b) (((cj n f 1 36).bind fun h=>cond h (cond (d==0) (some a) (some false)) (some false)).bind fun b=>some b))))))))))))))):=by kernel_rfl
theorem Qa (n b):iH (n+1) b=(cj n b (-9000000000000) 9000000000000).bind fun d=>some d:=by kernel_rfl
theorem IF (n d):uR (n+1) d=letI a:=((0:Int),(0:Int),([]:O),false,([]:aS),false);cond (decide (60<(d.length:Int))) (some a) ((uT n d 0 false 0).bind fun b=>letI c:=b.2.2.2;(cond c.2.2.2.2 (some true) (cond (c.2.2.2.1 !=(d.length:Int)) (some true) ((uW n b.1 b.2.1 b.2.2.1 c.1 c.2.1).bind fun g=>some (decide (12<g))))).bind fun f=>cond f (some a) (some (b.1,b.2.1,b.2.2.1,c.1,c.2.1,true))):=by kernel_rfl
theorem Qb (n g h i f):uT (n+1) g h i f=(yY n g h i f).bind fun b=>letI c:=b.2.2.2;(qs n n c.2.2.1 c.2.2.2.1 c.2.2.2.2 0 0 ([]:O) false f ([kM (b.1,b.2.1,b.2.2.1,c.1,c.2.1)]:aS)).bind fun j=>ay j (fun z2=>letI e:=z2.2.2;letI a:=(z2.2.2.2.2.2.2.2.length:Int);cond (a==1) (cond (decide ((0:Int)≤0∧(0:Int)<a)) ((lQ e.2.2.2.2.2 0).bind fun d=>some (d.1,d.2.1,d.2.2.1,d.2.2.2.1,d.2.2.2.2,z2.1,z2.2.1,e.1)) none) (some ((7:Int),(0:Int),([]:O),false,e.2.2.2.2.2,z2.1,z2.2.1,e.1))) (fun k=>some k):=by kernel_rfl
theorem sE (n m p q r g h i j k f):qs n (m+1) p q r g h i j k f=(eR n p q r ((UInt8.ofNat (Int.toNat 124)):UInt8)).bind fun d=>cond d.1 ((yY n d.2.1 (wrap .i64 (d.2.2.1+1)) d.2.2.2 k).bind fun b=>letI a:=b.2.2.2;cond (Nat.ble (f.length+1) big) (qs n m a.2.2.1 a.2.2.2.1 a.2.2.2.2 g h i j k (f++[kM (b.1,b.2.1,b.2.2.1,a.1,a.2.1)])) none) (some (Sum.inl (d.2.1,d.2.2.1,d.2.2.2,g,h,i,j,f))):=by kernel_rfl
theorem apE (n f g h i):yY (n+1) f g h i=(uU n n f g h 0 0 ([]:O) false i ([]:aS)).bind fun j=>ay j (fun b=>letI c:=b.2.2;letI a:=(b.2.2.2.2.2.2.2.length:Int);cond (a==0) (some ((11:Int),(0:Int),([]:O),false,([]:aS),b.1,b.2.1,c.1)) (cond (a==1) (cond (decide ((0:Int)≤0∧(0:Int)<a)) ((lQ c.2.2.2.2.2 0).bind fun d=>some (d.1,d.2.1,d.2.2.1,d.2.2.2.1,d.2.2.2.2,b.1,b.2.1,c.1)) none) (some ((6:Int),(0:Int),([]:O),false,c.2.2.2.2.2,b.1,b.2.1,c.1)))) (fun k=>some k):=by kernel_rfl
theorem wj (n m b d g i j k p q h):uU n (m+1) b d g i j k p q h=letI a:=(b,d,g,i,j,k,p,h);cond (!g) (cond (decide (d<(b.length:Int))) ((bE b d).bind fun r=>cond (((r).toNat:Int) !=124) ((bE b d).bind fun s=>cond (((s).toNat:Int) !=41) ((FU n b d g q).bind fun f=>letI c:=f.2.2.2;cond (Nat.ble (h.length+1) big) (uU n m c.2.2.1 c.2.2.2.1 c.2.2.2.2 i j k p q (h++[kM (f.1,f.2.1,f.2.2.1,c.1,c.2.1)])) none) (some (Sum.inl a))) (some (Sum.inl a))) (some (Sum.inl a))) (some (Sum.inl a)):=by kernel_rfl
theorem Qc (n d f g h):FU (n+1) d f g h=(uV n d f g h).bind fun b=>letI c:=b.2.2.2;(qt n n c.2.2.1 c.2.2.2.1 c.2.2.2.2 0 0 ([]:O) false b.1 b.2.1 b.2.2.1 c.1 c.2.1).bind fun i=>ay i (fun z2=>letI a:=z2.2.2.2.2.2.2.2;some (a.1,a.2.1,a.2.2.1,a.2.2.2.1,a.2.2.2.2,z2.1,z2.2.1,z2.2.2.1)) (fun j=>some j):=by kernel_rfl
theorem Bp (n m u z t i j k p q r s b d):qt n (m+1) u z t i j k p q r s b d=letI c:=wrap .i64;letI a:=([kM (q,r,s,b,d)]:aS);cond (!t) ((eR n u z t ((UInt8.ofNat (Int.toNat 42)):UInt8)).bind fun f=>cond f.1 (qt n m f.2.1 (c (f.2.2.1+1)) f.2.2.2 i j k p (8:Int) (0:Int) ([]:O) false a) ((eR n f.2.1 f.2.2.1 f.2.2.2 ((UInt8.ofNat (Int.toNat 43)):UInt8)).bind fun g=>cond g.1 (qt n m g.2.1 (c (g.2.2.1+1)) g.2.2.2 i j k p (9:Int) (0:Int) ([]:O) false a) ((eR n g.2.1 g.2.2.1 g.2.2.2 ((UInt8.ofNat (Int.toNat 63)):UInt8)).bind fun h=>cond h.1 (qt n m h.2.1 (c (h.2.2.1+1)) h.2.2.2 i j k p (10:Int) (0:Int) ([]:O) false a) (some (Sum.inl (h.2.1,h.2.2.1,h.2.2.2,i,j,k,p,q,r,s,b,d)))))) (some (Sum.inl (u,z,t,i,j,k,p,q,r,s,b,d))):=by kernel_rfl
theorem Qd (n f g i j):uV (n+1) f g i j=letI a:=wrap .i64;letI m:=a (g+1);(cond i (some true) (cond (decide ((f.length:Int)≤g)) (some true) (some (decide (40<j))))).bind fun k=>cond k (some ((0:Int),(0:Int),([]:O),false,([]:aS),f,g,true)) ((bE f g).bind fun d=>letI c:=((d).toNat:Int);letI e:=((1:Int),a c,([]:O),false,([]:aS),f,a (g+1),true);cond (c==40) ((uT n f m i (a (j+1))).bind fun b=>letI l:=b.2.2.2;(eR n l.2.2.1 l.2.2.2.1 l.2.2.2.2 ((UInt8.ofNat (Int.toNat 41)):UInt8)).bind fun h=>cond (!h.1) (some (b.1,b.2.1,b.2.2.1,l.1,l.2.1,h.2.1,a (h.2.2.1+1),true)) (some (b.1,b.2.1,b.2.2.1,l.1,l.2.1,h.2.1,a (h.2.2.1+1),h.2.2.2))) (cond (c==46) (some ((2:Int),(0:Int),([]:O),false,([]:aS),f,a (g+1),i)) (cond (c==94) (some ((4:Int),(0:Int),([]:O),false,([]:aS),f,a (g+1),i)) (cond (c==36) (some ((5:Int),(0:Int),([]:O),false,([]:aS),f,a (g+1),i)) (cond (c==91) ((FV n f m i).bind fun b=>letI o:=b.2.2.2;some (b.1,b.2.1,b.2.2.1,o.1,([]:aS),o.2.1,o.2.2.1,o.2.2.2)) (cond (c==92) (cond (decide ((f.length:Int)≤m)) (some ((0:Int),(0:Int),([]:O),false,([]:aS),f,a (g+1),true)) ((bE f m).bind fun b=>some ((1:Int),a ((b).toNat:Int),([]:O),false,([]:aS),f,a (m+1),i))) (cond (c==42) (some e) (cond (c==43) (some e) (cond (c==63) (some e) (some ((1:Int),a c,([]:O),false,([]:aS),f,a (g+1),i))))))))))):=by kernel_rfl
theorem Qe (n b d f h):eR (n+1) b d f h=(cond (!f) (cond (decide (d<(b.length:Int))) ((bE b d).bind fun i=>some (((i).toNat:Int)==((h).toNat:Int))) (some false)) (some false)).bind fun g=>some (g,b,d,f):=by kernel_rfl
theorem Qf (n j k m):FV (n+1) j k m=letI x:=kQ n n;letI s:=List.replicate (Int.toNat (256:Int)) false;letI l:=decide ((0:Int)≤256∧(256:Int)≤256∧(256:Int)≤(big:Int));letI e:=wrap .i64;(eR n j k m ((UInt8.ofNat (Int.toNat 94)):UInt8)).bind fun f=>cond f.1 (cond l ((gL n n f.2.1 (e (f.2.2.1+1)) f.2.2.2 (0:Int) (0:Int) ([]:O) false (3:Int) (0:Int) ([]:O) true s (0:Int)).bind fun h=>ay h (fun z2=>letI y:=e (z2.2.1+1);letI t:=z2.2.2.2;letI a:=t.2.2.2;letI v:=a.2.2.2;(cond (decide ((z2.1.length:Int)≤z2.2.1)) (some true) (some (v.2.2.2==0))).bind fun g=>cond g ((x z2.1 y true t.1 t.2.1 t.2.2.1 a.1 a.2.1 a.2.2.1 v.1 v.2.1 (0:Int) ([]:bX) v.2.2.1).bind fun b=>ay b (fun z24=>letI o:=z24.2.2.2.2.2.2.2;some (o.1,o.2.1,o.2.2.2.2,o.2.2.2.1,z24.1,z24.2.1,z24.2.2.1)) (fun d=>some d)) ((x z2.1 y z2.2.2.1 t.1 t.2.1 t.2.2.1 a.1 a.2.1 a.2.2.1 v.1 v.2.1 (0:Int) ([]:bX) v.2.2.1).bind fun b=>ay b (fun z24=>letI p:=z24.2.2.2.2.2.2.2;some (p.1,p.2.1,p.2.2.2.2,p.2.2.2.1,z24.1,z24.2.1,z24.2.2.1)) (fun d=>some d))) (fun i=>some i)) none) (cond l ((gL n n f.2.1 f.2.2.1 f.2.2.2 0 0 ([]:O) false 3 0 ([]:O) false s (0:Int)).bind fun h=>ay h (fun z2=>letI z:=e (z2.2.1+1);letI u:=z2.2.2.2;letI c:=u.2.2.2;letI w:=c.2.2.2;(cond (decide ((z2.1.length:Int)≤z2.2.1)) (some true) (some (w.2.2.2==0))).bind fun g=>cond g ((x z2.1 z true u.1 u.2.1 u.2.2.1 c.1 c.2.1 c.2.2.1 w.1 w.2.1 (0:Int) ([]:bX) w.2.2.1).bind fun b=>ay b (fun z24=>letI q:=z24.2.2.2.2.2.2.2;some (q.1,q.2.1,q.2.2.2.2,q.2.2.2.1,z24.1,z24.2.1,z24.2.2.1)) (fun d=>some d)) ((x z2.1 z z2.2.2.1 u.1 u.2.1 u.2.2.1 c.1 c.2.1 c.2.2.1 w.1 w.2.1 (0:Int) ([]:bX) w.2.2.1).bind fun b=>ay b (fun z24=>letI r:=z24.2.2.2.2.2.2.2;some (r.1,r.2.1,r.2.2.2.2,r.2.2.2.1,z24.1,z24.2.1,z24.2.2.1)) (fun d=>some d))) (fun i=>some i)) none):=by kernel_rfl
theorem Qg (n m q r s t u z x6 x7 x8 x9 f b d g h i j k p):jG n (m+1) q r s t u z x6 x7 x8 x9 f b d g h i j k p=letI c:=Int.toNat b;letI a:=Int.toNat ((h).toNat:Int);cond (decide (b≤p)) (cond (decide (0≤b∧b<(d.length:Int))) ((aM d c).bind fun _=>jG n m q r s t u z x6 x7 x8 x9 f (wrap .i64 (b+1)) (d.set c true) g (UInt8.ofNat a) i j k p) none) (some (Sum.inl (q,r,s,t,u,z,x6,x7,x8,x9,f,d,g,UInt8.ofNat a,i,j,k))):=by kernel_rfl
theorem IG (n m d f x2 p q r s t u z g h i):gL n (m+1) d f x2 p q r s t u z g h i=letI ax:=jG n n d;letI aj:=(d,f,x2,p,q,r,s,t,u,z,g,h,i);letI ah:=gL n m;letI a:=wrap .i64;letI af:=a (f+1);letI az:=a (af+1);cond (decide (f<(d.length:Int))) ((bE d f).bind fun k=>letI bf:=((k).toNat:Int);letI l:=bf !=93;letI e:=UInt8.ofNat (Int.toNat bf);cond l ((bE d f).bind fun j=>letI c:=a ((j).toNat:Int);letI ai:=decide (c<c);letI v:=ax af x2 p q r s t u z g c h l e d f i c;letI o:=ax af true p q r s t u z g c h l e d f i c;cond (decide (az<(d.length:Int))) ((bE d af).bind fun y2=>cond (((y2).toNat:Int)==45) ((bE d az).bind fun y3=>cond (((y3).toNat:Int) !=93) ((bE d az).bind fun y4=>letI ag:=a ((y4).toNat:Int);cond (decide (ag<c)) ((ax (a (af+2)) true p q r s t u z g c h l e d f i ag).bind fun y5=>ay y5 (fun b=>letI ba:=b.2.2.2;letI ad:=ba.2.2.2;letI ak:=ad.2.2.2;ah b.1 b.2.1 b.2.2.1 ba.1 ba.2.1 ba.2.2.1 ad.1 ad.2.1 ad.2.2.1 ak.1 ak.2.1 ak.2.2.1 (a (ak.2.2.2.2.2.2.2+1))) (fun w6=>some (Sum.inr w6))) ((ax (a (af+2)) x2 p q r s t u z g c h l e d f i ag).bind fun y5=>ay y5 (fun b=>letI bb:=b.2.2.2;letI ae:=bb.2.2.2;letI al:=ae.2.2.2;ah b.1 b.2.1 b.2.2.1 bb.1 bb.2.1 bb.2.2.1 ae.1 ae.2.1 ae.2.2.1 al.1 al.2.1 al.2.2.1 (a (al.2.2.2.2.2.2.2+1))) (fun w6=>some (Sum.inr w6)))) (cond ai (o.bind fun y4=>ay y4 (fun z5=>letI am:=z5.2.2.2;letI w:=am.2.2.2;letI bc:=w.2.2.2;ah z5.1 z5.2.1 z5.2.2.1 am.1 am.2.1 am.2.2.1 w.1 w.2.1 w.2.2.1 bc.1 bc.2.1 bc.2.2.1 (a (bc.2.2.2.2.2.2.2+1))) (fun w5=>some (Sum.inr w5))) (v.bind fun y4=>ay y4 (fun z5=>letI an:=z5.2.2.2;letI x:=an.2.2.2;letI bd:=x.2.2.2;ah z5.1 z5.2.1 z5.2.2.1 an.1 an.2.1 an.2.2.1 x.1 x.2.1 x.2.2.1 bd.1 bd.2.1 bd.2.2.1 (a (bd.2.2.2.2.2.2.2+1))) (fun w5=>some (Sum.inr w5))))) (cond ai (o.bind fun y3=>ay y3 (fun z4=>letI ao:=z4.2.2.2;letI y:=ao.2.2.2;letI be:=y.2.2.2;ah z4.1 z4.2.1 z4.2.2.1 ao.1 ao.2.1 ao.2.2.1 y.1 y.2.1 y.2.2.1 be.1 be.2.1 be.2.2.1 (a (be.2.2.2.2.2.2.2+1))) (fun w4=>some (Sum.inr w4))) (v.bind fun y3=>ay y3 (fun z4=>letI ap:=z4.2.2.2;letI aa:=ap.2.2.2;letI aq:=aa.2.2.2;ah z4.1 z4.2.1 z4.2.2.1 ap.1 ap.2.1 ap.2.2.1 aa.1 aa.2.1 aa.2.2.1 aq.1 aq.2.1 aq.2.2.1 (a (aq.2.2.2.2.2.2.2+1))) (fun w4=>some (Sum.inr w4))))) (cond ai (o.bind fun y2=>ay y2 (fun z3=>letI ar:=z3.2.2.2;letI ab:=ar.2.2.2;letI au:=ab.2.2.2;ah z3.1 z3.2.1 z3.2.2.1 ar.1 ar.2.1 ar.2.2.1 ab.1 ab.2.1 ab.2.2.1 au.1 au.2.1 au.2.2.1 (a (au.2.2.2.2.2.2.2+1))) (fun w3=>some (Sum.inr w3))) (v.bind fun y2=>ay y2 (fun z3=>letI av:=z3.2.2.2;letI ac:=av.2.2.2;letI aw:=ac.2.2.2;ah z3.1 z3.2.1 z3.2.2.1 av.1 av.2.1 av.2.2.1 ac.1 ac.2.1 ac.2.2.1 aw.1 aw.2.1 aw.2.2.1 (a (aw.2.2.2.2.2.2.2+1))) (fun w3=>some (Sum.inr w3))))) (some (Sum.inl aj))) (some (Sum.inl aj)):=by kernel_rfl
theorem Qh (n m h i j k p q r s t u g b d f):kQ n (m+1) h i j k p q r s t u g b d f=letI c:=wrap .i64 (b+1);letI a:=kQ n m h i j k p q r s t u g;cond (decide (b<256)) (cond (decide (0≤b∧b<(f.length:Int))) ((aM f (Int.toNat b)).bind fun z=>cond z (cond (Nat.ble (d.length+1) big) (a c (d++[UInt8.ofNat (Int.toNat (wrap .u8 b))]) f) none) (a c d f)) none) (some (Sum.inl (h,i,j,k,p,q,r,s,t,u,g,d))):=by kernel_rfl
theorem apF (n b d f g h):uW (n+1) b d f g h=(uX n n b d f g h 0 0).bind fun i=>ay i (fun j=>some (wrap .i64 (j+1))) (fun k=>some k):=by kernel_rfl
theorem Qi (n m h i j k d f g):uX n (m+1) h i j k d f g=cond (decide (f<(d.length:Int))) ((fN d f).bind fun b=>(uW n b.1 b.2.1 b.2.2.1 b.2.2.2.1 b.2.2.2.2).bind fun p=>(qu n g p).bind fun q=>uX n m h i j k d (wrap .i64 (f+1)) q) (some (Sum.inl g)):=by kernel_rfl
theorem Qj (n b d):qu (n+1) b d=cond (decide (d<b)) (some b) (some d):=by kernel_rfl
theorem apG (n d f):FW (n+1) d f=((cj n d 0 300).bind fun g=>cond g (some (decide ((f.length:Int)≤1500))) (some false)).bind fun b=>some b:=by kernel_rfl
theorem apH (n b):yZ (n+1) b=(uY n n 0 b).bind fun d=>ay d (fun f=>some ((f.length:Int)==3)) (fun g=>some g):=by kernel_rfl
theorem Qk (n m d b):uY n (m+1) d b=cond (decide (d<(b.length:Int))) ((ax b d).bind fun f=>(cj n f 0 100000).bind fun g=>cond (!g) (some (Sum.inr false)) (uY n m (wrap .i64 (d+1)) b)) (some (Sum.inl b)):=by kernel_rfl
theorem Ql (n x0 x1 x2 x3 x4 x5 x6 x7 x8 x9 d f g h i j k m p q r s t u z ad ae af ag ah b):FX (n+1) x0 x1 x2 x3 x4 x5 x6 x7 x8 x9 d f g h i j k m p q r s t u z ad ae af ag ah b=((cj n b 1 5).bind fun y0=>cond (!y0) (some true) ((cj n x4 0 (wrap .i64 (b-1))).bind fun y1=>cond (!y1) (some true) ((FY n x0 x1 x2 x3 x5 x6 x7 x8 x9 d f g h i j).bind fun y2=>cond (!y2) (some true) (cond (decide (b≤x6)) (some true) ((cj n k 0 2).bind fun y3=>cond (!y3) (some true) (cond ((m.length:Int) !=b) (some true) (cond ((p.length:Int) !=b) (some true) (some ((q.length:Int) !=b))))))))).bind fun ax=>cond ax (some false) ((za n x7 x8 x9).bind fun az=>(uZ n n x4 x5 x6 x7 x8 x9 d f g h i j k m p q r s t u z ad ae af ag ah x0 x1 x2 x3 0 az.1 b).bind fun a1=>ay a1 (fun z23=>letI v:=z23.2.2.2;letI e:=v.2.2.2.2;letI w:=e.2.2.2.2;letI a:=w.2.2.2.2;letI x:=a.2.2.2.2;letI l:=x.2.2.2.2;letI y:=l.2.2.2.2;(vd n n z23.1 z23.2.1 z23.2.2.1 v.1 v.2.1 v.2.2.1 v.2.2.2.1 e.1 e.2.1 e.2.2.1 e.2.2.2.1 w.1 w.2.1 w.2.2.1 w.2.2.2.1 a.1 a.2.1 a.2.2.1 a.2.2.2.1 x.1 x.2.1 x.2.2.1 x.2.2.2.1 l.1 l.2.1 l.2.2.1 l.2.2.2.1 y.1 y.2.1 y.2.2.1 0 y.2.2.2.1 y.2.2.2.2).bind fun a6=>ay a6 (fun z24=>letI c:=z24.2.2.2.2.2.2.2.2.2.2.2.2.2.2.2.2;letI ab:=c.2.2.2;letI o:=ab.2.2.2;letI aa:=o.2.2.2.2;((cj n c.1 z24.2.2.2.1 aa.2.2.2.2).bind fun a7=>cond a7 ((zd n aa.1 aa.2.1 aa.2.2.1 aa.2.2.2.1 c.2.1 c.2.2.1 ab.1 ab.2.1 ab.2.2.1 o.1).bind fun a8=>cond a8 ((Gd n o.2.1 o.2.2.1).bind fun bd=>cond bd (some (decide ((z24.2.2.2.2.2.2.2.2.2.2.2.2.2.2.2.2.2.2.2.2.2.2.2.2.2.1.length:Int)≤40))) (some false)) (some false)) (some false)).bind fun bf=>some bf) (fun bg=>some bg)) (fun bh=>some bh)):=by kernel_rfl
theorem Qm (n m x0 x1 x2 x3 x4 x5 x6 x7 x8 x9 i j k p f g q r s t u z ad ae af ag ah ai aj ak b d h):uZ n (m+1) x0 x1 x2 x3 x4 x5 x6 x7 x8 x9 i j k p f g q r s t u z ad ae af ag ah ai aj ak b d h=letI a:=wrap .i64;cond (decide (b<h)) ((ax f b).bind fun y0=>(cj n y0 1 (a (d+1))).bind fun y1=>cond (!y1) (some (Sum.inr false)) ((ax g b).bind fun y2=>(cj n y2 0 d).bind fun y3=>cond (!y3) (some (Sum.inr false)) (uZ n m x0 x1 x2 x3 x4 x5 x6 x7 x8 x9 i j k p f g q r s t u z ad ae af ag ah ai aj ak (a (b+1)) d h))) (some (Sum.inl (x0,x1,x2,x3,x4,x5,x6,x7,x8,x9,i,j,k,p,f,g,q,r,s,t,u,z,ad,ae,af,ag,ah,ai,aj,ak,h,d))):=by kernel_rfl
theorem Qn (n m x0 x1 x2 x3 x4 x5 x6 x7 x8 x9 g h i j k p q r s t u z ad ae af b ag ah ai aj d ak al):vd n (m+1) x0 x1 x2 x3 x4 x5 x6 x7 x8 x9 g h i j k p q r s t u z ad ae af b ag ah ai aj d ak al=cond (decide (d<(b.length:Int))) ((ax b d).bind fun f=>letI a:=f.2.2.2.2;(zj n f.1 f.2.1 f.2.2.1 f.2.2.2.1 a.1 a.2.1 a.2.2.1 a.2.2.2.1 a.2.2.2.2.1 a.2.2.2.2.2 ak).bind fun y1=>cond (!y1) (some (Sum.inr false)) ((ax b d).bind fun y2=>cond (y2.2.1 !=x0) (some (Sum.inr false)) (vd n m x0 x1 x2 x3 x4 x5 x6 x7 x8 x9 g h i j k p q r s t u z ad ae af b ag ah ai aj (wrap .i64 (d+1)) ak al))) (some (Sum.inl (x0,x1,x2,x3,x4,x5,x6,x7,x8,x9,g,h,i,j,k,p,q,r,s,t,u,z,ad,ae,af,b,ag,ah,ai,aj,al))):=by kernel_rfl
theorem apI (n q r s t i u j k m z b d f g h):FY (n+1) q r s t i u j k m z b d f g h=(za n j k m).bind fun y0=>((cj n i 0 300).bind fun y1=>cond y1 ((cj n u (-1) 4).bind fun y2=>cond y2 ((FZ n j k m).bind fun y3=>cond y3 (cond (decide (y0.2≤i)) ((zd n q r s t z b d f g h).bind fun y4=>some y4) (some false)) (some false)) (some false)) (some false)).bind fun p=>some p:=by kernel_rfl
theorem apJ (n d f b):za (n+1) d f b=letI c:=wrap .i64;letI a:=(b.length:Int);cond (a==0) (some (d,f)) ((ax b (c (a-1))).bind fun g=>some (c (d+a),g.1)):=by kernel_rfl
theorem Qo (n b d f):FZ (n+1) b d f=((cj n b 0 300).bind fun j=>cond (!j) (some true) ((cj n d 0 300).bind fun k=>cond (!k) (some true) (some (decide ((wrap .i64 (300-b))<(f.length:Int)))))).bind fun g=>cond g (some false) ((ve n n b d f 0 d).bind fun h=>ay h (fun _=>some true) (fun i=>some i)):=by kernel_rfl
theorem Qp (n m g h b d i):ve n (m+1) g h b d i=cond (decide (d<(b.length:Int))) ((ax b d).bind fun j=>(cj n j.1 i 300).bind fun k=>cond (!k) (some (Sum.inr false)) ((ax b d).bind fun f=>(rY n f.2.1 f.2.2.1 f.2.2.2).bind fun p=>cond (!p) (some (Sum.inr false)) ((ax b d).bind fun q=>ve n m g h b (wrap .i64 (d+1)) q.1))) (some (Sum.inl ())):=by kernel_rfl
theorem apK (n f g d):rY (n+1) f g d=cond (f==(-1:Int)) ((cond (g==0) (some (d==([]:O))) (some false)).bind fun b=>some b) (((cj n f 0 2).bind fun h=>cond h ((cj n g 1 100000).bind fun i=>cond i (cond (decide ((d.length:Int)≤60)) ((Ga n d).bind fun j=>some j) (some false)) (some false)) (some false)).bind fun b=>some b):=by kernel_rfl
theorem apL (n b):Ga (n+1) b=(vf n n 0 b).bind fun d=>ay d (fun _=>some true) (fun f=>some f):=by kernel_rfl
theorem Qq (n m b d):vf n (m+1) b d=cond (decide (b<(d.length:Int))) ((bE d b).bind fun f=>cond (((f).toNat:Int)==10) (some (Sum.inr false)) (vf n m (wrap .i64 (b+1)) d)) (some (Sum.inl ())):=by kernel_rfl
theorem apM (n f g h i j k m p q r):zd (n+1) f g h i j k m p q r=(vg n n j k m p q r f g h i 0).bind fun s=>ay s (fun b=>letI a:=b.2.2.2.2.2.2;((uP n a.1 a.2.1 a.2.2.1 a.2.2.2).bind fun t=>cond t ((Gb n b.1 b.2.1 b.2.2.1 b.2.2.2.1 (b.2.2.2.2.2.2.1.length:Int) (b.2.2.2.2.2.2.2.1.length:Int)).bind fun u=>cond u (cond ((b.2.2.2.2.1.length:Int)==3) (some (decide ((b.2.2.2.2.2.1.length:Int)≤1500))) (some false)) (some false)) (some false)).bind fun d=>some d) (fun z=>some z):=by kernel_rfl
theorem Qr (n m f g h i d j k p q r b):vg n (m+1) f g h i d j k p q r b=cond (decide (b<(d.length:Int))) ((ax d b).bind fun s=>(cj n s 0 100000).bind fun t=>cond (!t) (some (Sum.inr false)) (vg n m f g h i d j k p q r (wrap .i64 (b+1)))) (some (Sum.inl (f,g,h,i,d,j,k,p,q,r))):=by kernel_rfl
theorem apN (n f g h i j k):Gb (n+1) f g h i j k=(vh n n f g h i 0 k j).bind fun m=>ay m (fun b=>(rZ n n b.1 b.2.1 b.2.2.1 b.2.2.2.1 0 b.2.2.2.2.1 b.2.2.2.2.2).bind fun p=>ay p (fun z2=>(cond ((z2.1.length:Int)==z2.2.2.2.2) (cond (decide ((z2.2.1.length:Int)≤40)) ((cj n z2.2.2.1 0 1000000).bind fun q=>cond q ((cj n z2.2.2.2.1 0 7).bind fun r=>some r) (some false)) (some false)) (some false)).bind fun d=>some d) (fun s=>some s)) (fun t=>some t):=by kernel_rfl
theorem Qs (n m b f g h d i j):vh n (m+1) b f g h d i j=cond (decide (d<(b.length:Int))) ((ax b d).bind fun k=>(zf n k.1 k.2.1 k.2.2).bind fun p=>cond (!p) (some (Sum.inr false)) (vh n m b f g h (wrap .i64 (d+1)) i j)) (some (Sum.inl (b,f,g,h,i,j))):=by kernel_rfl
theorem Qt (n m h d i j f k p):rZ n (m+1) h d i j f k p=letI c:=wrap .i64;letI a:=rZ n m h d i j (c (f+1)) k p;cond (decide (f<(d.length:Int))) ((ax d f).bind fun b=>cond (decide (b.1<0)) (some (Sum.inr false)) (cond (decide (k≤b.1)) (some (Sum.inr false)) (cond (decide (300<(b.2.1.length:Int))) (some (Sum.inr false)) ((zf n b.2.2.1 b.2.2.2.1 b.2.2.2.2).bind fun q=>cond (!q) (some (Sum.inr false)) (cond (decide (0<f)) ((ax d (c (f-1))).bind fun g=>(zi n g.1 g.2.1 g.2.2.1 g.2.2.2.1 g.2.2.2.2 b.1 b.2.1).bind fun r=>cond (!r) (some (Sum.inr false)) a) a))))) (some (Sum.inl (h,d,i,j,p))):=by kernel_rfl
theorem Qu (n b d f):zf (n+1) b d f=letI a:=f==([]:O);((cj n b 0 3).bind fun k=>cond (!k) (some true) ((iH n d).bind fun m=>cond (!m) (some true) (some (decide (300<(f.length:Int)))))).bind fun h=>cond h (some false) (cond (b==0) ((cond (d==0) (some a) (some false)).bind fun i=>some i) (cond (b==1) (some a) (cond (b==2) (some (d==0)) ((vi n f).bind fun g=>(cond g.2 (some (g.1==d)) (some false)).bind fun j=>some j)))):=by kernel_rfl
theorem apO (n b):vi (n+1) b=(zh n b).bind fun d=>cond (d.2==0) (some ((0:Int),false)) ((zg n n d.2 b d.1).bind fun f=>ay f (fun z2=>some (z2,true)) (fun g=>some g)):=by kernel_rfl
theorem IH (n m b d f):zg n (m+1) b d f=cond (decide (b<(d.length:Int))) ((bE d b).bind fun g=>cond (((g).toNat:Int) !=32) (some (Sum.inr ((0:Int),false))) (zg n m (wrap .i64 (b+1)) d f)) (some (Sum.inl f)):=by kernel_rfl
theorem apP (n u):zh (n+1) u=letI l:=((0:Int),(0:Int));letI a:=wrap .i64;(vj n n 0 u).bind fun z=>ay z (fun b=>letI x:=bE b.1 b.2;letI o:=decide (b.2<(b.1.length:Int));(cond o (x.bind fun y1=>some (((y1).toNat:Int)==45)) (some false)).bind fun q=>(cond o (x.bind fun r=>cond (((r).toNat:Int)==45) (some true) (x.bind fun s=>some (((s).toNat:Int)==43))) (some false)).bind fun t=>cond t ((oG n n 0 (a (b.2+1)) b.1 (0:Int) q).bind fun d=>ay d (fun z44=>letI c:=z44.2.2;letI v:=a (c.2.2+1);(cond (decide (v<(z44.2.1.length:Int))) ((bE z44.2.1 c.2.2).bind fun f=>cond (((f).toNat:Int)==46) ((bE z44.2.1 v).bind fun g=>(kR n (UInt8.ofNat (Int.toNat ((g).toNat:Int)))).bind fun h=>some h) (some false)) (some false)).bind fun i=>cond i ((qv n n v z44.1 (100000:Int) z44.2.1 c.1 c.2.1).bind fun j=>ay j (fun z66=>(cond (z66.2.2.2==0) (some true) (some (decide (9000000000000<z66.2.1)))).bind fun k=>cond k (some l) (cond z66.2.2.1 (some (a (0-z66.2.1),z66.1)) (some (z66.2.1,z66.1)))) (fun m=>some m)) ((cond (z44.1==0) (some true) (some (decide (9000000000000<c.1)))).bind fun p=>cond p (some l) (cond c.2.1 (some (a (0-c.1),c.2.2)) (some (c.1,c.2.2))))) (fun nj=>some nj)) ((oG n n 0 b.2 b.1 0 q).bind fun d=>ay d (fun z44=>letI e:=z44.2.2;letI w:=a (e.2.2+1);(cond (decide (w<(z44.2.1.length:Int))) ((bE z44.2.1 e.2.2).bind fun f=>cond (((f).toNat:Int)==46) ((bE z44.2.1 w).bind fun g=>(kR n (UInt8.ofNat (Int.toNat ((g).toNat:Int)))).bind fun h=>some h) (some false)) (some false)).bind fun i=>cond i ((qv n n w z44.1 (100000:Int) z44.2.1 e.1 e.2.1).bind fun j=>ay j (fun z66=>(cond (z66.2.2.2==0) (some true) (some (decide (9000000000000<z66.2.1)))).bind fun k=>cond k (some l) (cond z66.2.2.1 (some (a (0-z66.2.1),z66.1)) (some (z66.2.1,z66.1)))) (fun m=>some m)) ((cond (z44.1==0) (some true) (some (decide (9000000000000<e.1)))).bind fun p=>cond p (some l) (cond e.2.1 (some (a (0-e.1),e.2.2)) (some (e.1,e.2.2))))) (fun nj=>some nj))) (fun w1=>some w1):=by kernel_rfl
theorem II (n m b d):vj n (m+1) b d=cond (decide (b<(d.length:Int))) ((bE d b).bind fun f=>cond (((f).toNat:Int)==32) (vj n m (wrap .i64 (b+1)) d) (some (Sum.inl (d,b)))) (some (Sum.inl (d,b))):=by kernel_rfl
theorem IJ (n m g b d f h):oG n (m+1) g b d f h=letI a:=wrap .i64;cond (decide (b<(d.length:Int))) ((bE d b).bind fun i=>(kR n (UInt8.ofNat (Int.toNat ((i).toNat:Int)))).bind fun j=>cond j (cond (decide (f≤9000000000000)) ((bE d b).bind fun k=>oG n m (a (g+1)) (a (b+1)) d (a ((a (10*f))+(a ((a ((a ((k).toNat:Int))-48))*1000000)))) h) (oG n m (a (g+1)) (a (b+1)) d f h)) (some (Sum.inl (g,d,f,h,b)))) (some (Sum.inl (g,d,f,h,b))):=by kernel_rfl
theorem IK (n m b f i d g h):qv n (m+1) b f i d g h=letI a:=wrap .i64;cond (decide (b<(d.length:Int))) ((bE d b).bind fun j=>(kR n (UInt8.ofNat (Int.toNat ((j).toNat:Int)))).bind fun k=>cond k ((bE d b).bind fun p=>qv n m (a (b+1)) (a (f+1)) (a (Int.tdiv i (10:Int))) d (a (g+(a ((a ((a ((p).toNat:Int))-48))*i)))) h) (some (Sum.inl (b,g,h,f)))) (some (Sum.inl (b,g,h,f))):=by kernel_rfl
theorem apQ (n b):kR (n+1) b=letI a:=((b).toNat:Int);(cond (decide (48≤a)) (some (decide (a≤57))) (some false)).bind fun d=>some d:=by kernel_rfl
theorem apR (n b g i j k d h):zi (n+1) b g i j k d h=(cond (decide (b<d)) (some true) (cond (b==d) (some (Op.bytesLess g h)) (some false))).bind fun f=>some f:=by kernel_rfl
theorem apS (n r d f g s t u z x8 x9 b):zj (n+1) r d f g s t u z x8 x9 b=letI a:=wrap .i64 (b-1);((cj n r 1 5).bind fun y0=>cond (!y0) (some true) ((cj n b 1 5).bind fun y1=>cond (!y1) (some true) ((cj n d 0 a).bind fun y2=>cond (!y2) (some true) ((cj n f 0 a).bind fun y3=>cond (!y3) (some true) (some (d==f)))))).bind fun h=>cond h (some false) (((cj n g 0 300).bind fun i=>cond i ((cj n s 0 300).bind fun j=>cond j ((cj n t 0 300).bind fun k=>cond k ((cj n u 0 300).bind fun m=>cond m ((Gc n z g).bind fun p=>cond p (some (decide ((x9.length:Int)≤30000))) (some false)) (some false)) (some false)) (some false)) (some false)).bind fun q=>some q):=by kernel_rfl
theorem apT (n b d):Gc (n+1) b d=(vk n n 0 b d).bind fun f=>ay f (fun g=>some (decide ((g.length:Int)≤40))) (fun h=>some h):=by kernel_rfl
theorem Qv (n m d b f):vk n (m+1) d b f=cond (decide (d<(b.length:Int))) ((ax b d).bind fun h=>(cj n h.1 0 f).bind fun i=>cond (!i) (some (Sum.inr false)) ((ax b d).bind fun g=>(rY n g.2.1 g.2.2.1 g.2.2.2).bind fun j=>cond (!j) (some (Sum.inr false)) (vk n m (wrap .i64 (d+1)) b f))) (some (Sum.inl b)):=by kernel_rfl
theorem apU (n b f):Gd (n+1) b f=(cond (decide ((b.length:Int)≤80000)) ((cj n f 0 (b.length:Int)).bind fun g=>some g) (some false)).bind fun d=>some d:=by kernel_rfl
theorem apV (n d f g h i):Ge (n+1) d f g h i=(uP n d f g h).bind fun j=>cond (!j) (some (([]:ae),([]:ai),(0:Int),(0:Int),([]:ah),([]:O))) ((Gf n d f g h).bind fun b=>(vm n n b.1 b.2.1 b.2.2.1 b.2.2.2.1 b.2.2.2.2.1 b.2.2.2.2.2 d f g h 0 0 ([]:O) 0 i).bind fun k=>ay k (fun z3=>letI a:=z3.2.2.2.2;some (z3.2.2.2.1,a.1,a.2.1,a.2.2.1,a.2.2.2.1,a.2.2.2.2)) (fun m=>some m)):=by kernel_rfl
theorem IL (n m j k p q r s t u z x9 f g h b d):vm n (m+1) j k p q r s t u z x9 f g h b d=letI a:=wrap .i64 (b+1);cond (decide (b<(d.length:Int))) ((ax d b).bind fun y0=>(rY n y0.1 y0.2.1 y0.2.2).bind fun y1=>cond y1 ((ax d b).bind fun y2=>(GJ n t u z x9 j k p q r s y2.1 y2.2.1 y2.2.2).bind fun i=>vm n m i.1 i.2.1 i.2.2.1 i.2.2.2.1 i.2.2.2.2.1 i.2.2.2.2.2 t u z x9 f g h a d) (vm n m j k p q r s t u z x9 f g h a d)) (some (Sum.inl (f,g,h,j,k,p,q,r,s))):=by kernel_rfl
theorem apW (n d f g h):Gf (n+1) d f g h=letI c:=Int.toNat (3:Int);letI a:=decide ((0:Int)≤3∧(3:Int)≤3∧(3:Int)≤(big:Int));(Gg n d f g h).bind fun b=>cond (decide (1500<(b.2.2.2.2.length:Int))) ((zk n (d.length:Int)).bind fun i=>cond a (some (i.1,([]:ai),i.2.1,(5:Int),List.replicate c (0:Int),([]:O))) none) (cond a (some (b.1,b.2.1,b.2.2.1,b.2.2.2.1,List.replicate c (0:Int),b.2.2.2.2)) none):=by kernel_rfl
theorem apX (n h j i k):Gg (n+1) h j i k=(zk n (h.length:Int)).bind fun d=>(oH n d.1 ([]:ai) d.2.1 d.2.2).bind fun g=>(oI n g.1 g.2.1 g.2.2.1 g.2.2.2 ([]:af) ([]:af) ([]:O) ([]:af) ([]:O) 0 false i).bind fun b=>letI a:=b.2.2.2.2.2;(vE n b.1 b.2.1 b.2.2.1 b.2.2.2.1 b.2.2.2.2.1 a.1 a.2.1 a.2.2.1 a.2.2.2.1 a.2.2.2.2.1 a.2.2.2.2.2 d.1 ([]:ai) d.2.1 d.2.2).bind fun f=>some (f.1,f.2.1,f.2.2.1,f.2.2.2.1,f.2.2.2.2.1):=by kernel_rfl
theorem apY (n d):zk (n+1) d=(zl n d 8).bind fun f=>(qu n 0 f).bind fun b=>cond (decide (0≤b∧b≤b∧b≤(big:Int))) (some (List.replicate (Int.toNat b) ((0:Int),(0:Int),([]:O)),(0:Int),(0:Int))) none:=by kernel_rfl
theorem apZ (n b d):zl (n+1) b d=cond (decide (b<d)) (some b) (some d):=by kernel_rfl
theorem aqA (n b d f g):oH (n+1) b d f g=cond (Nat.ble (0+b.length) big) (cond (Nat.ble (0+d.length) big) (some (b,d,f,g)) none) none:=by kernel_rfl
theorem Qw (n g h i j k m p q r s d f):oI (n+1) g h i j k m p q r s d f=(vn n n g h i j k m p q r s d ([]:ae) 0 0 f).bind fun t=>ay t (fun b=>letI a:=b.2.2.2.2.2;some (b.1,b.2.1,b.2.2.1,b.2.2.2.1,b.2.2.2.2.1,a.1,a.2.1,a.2.2.1,a.2.2.2.1,a.2.2.2.2.1,a.2.2.2.2.2)) (fun u=>some u):=by kernel_rfl
theorem sF (n m p q r j s t u z x8 x9 f k g h i):vn n (m+1) p q r j s t u z x8 x9 f k g h i=cond (j==0) (cond (g==20000) ((ia n p q r j s t u z x8 x9 f 6).bind fun d=>letI c:=d.2.2.2.2.2;some (Sum.inr (d.1,d.2.1,d.2.2.1,d.2.2.2.1,d.2.2.2.2.1,c.1,c.2.1,c.2.2.1,c.2.2.2.1,c.2.2.2.2.1,c.2.2.2.2.2))) ((ax i h).bind fun d=>(zm n p q r j s t u z x8 x9 f k d.1 d.2.1 d.2.2 h).bind fun b=>letI l:=b.2.2.2;letI a:=l.2.2.2;letI e:=a.2.2.2;letI o:=e.2.2;cond (!b.2.1) (some (Sum.inr (b.2.2.1,l.1,l.2.1,l.2.2.1,a.1,a.2.1,a.2.2.1,e.1,e.2.1,o.1,o.2.1))) (vn n m b.2.2.1 l.1 l.2.1 l.2.2.1 a.1 a.2.1 a.2.2.1 e.1 e.2.1 o.1 o.2.1 o.2.2 (wrap .i64 (g+1)) b.1 i))) (some (Sum.inl (p,q,r,j,s,t,u,z,x8,x9,f))):=by kernel_rfl
theorem aqB (n f g h i j k m p q r b d):ia (n+1) f g h i j k m p q r b d=cond (i==0) (some (f,g,h,d,j,k,m,p,q,r,b)) (some (f,g,h,i,j,k,m,p,q,r,b)):=by kernel_rfl
theorem lX (n m p q r s t u z x8 x9 h b g j k i):zm (n+1) m p q r s t u z x8 x9 h b g j k i=letI ai:=lS n m p q r s t u z x8 x9 h;letI e:=wrap .i64;(zn n g j k).bind fun f=>letI v:=e ((b.length:Int)-f);letI ao:=decide (0≤v∧v≤(b.length:Int));letI a:=Int.toNat v;letI an:=(j,true,m,p,q,r,s,t,u,z,x8,x9,h,b.take a);letI am:=(e (i+1),true,m,p,q,r,s,t,u,z,x8,x9,h,b.take a);letI o:=(b.drop a).take (b.length-a);letI w:=decide ((0:Int)≤0∧(0:Int)<(o.length:Int));letI l:=Nat.ble a b.length;letI c:=lT n m p q r s t u z x8 x9 h (b.take a) g j k o;cond (decide (v<0)) ((ia n m p q r s t u z x8 x9 h 7).bind fun d=>letI aj:=d.2.2.2.2.2;some (i,false,d.1,d.2.1,d.2.2.1,d.2.2.2.1,d.2.2.2.2.1,aj.1,aj.2.1,aj.2.2.1,aj.2.2.2.1,aj.2.2.2.2.1,aj.2.2.2.2.2,b)) (cond ao (cond (Nat.ble (0+o.length) big) (cond ao (cond (g==36) (cond l (some (i,false,m,p,q,r,s,t,u,z,x8,x9,h,b.take a)) none) (cond (g==30) (cond l (some an) none) (cond (g==31) (cond w ((aM o 0).bind fun d=>(vo n d.1 d.2.1 d.2.2).bind fun y2=>cond (!y2) (cond l (some an) none) (cond l (some am) none)) none) (cond (g==32) (cond l (some am) none) (cond (g==33) (cond (j==1) ((ai ([32]:O)).bind fun d=>letI ak:=d.2.2.2.2.2;cond w ((aM o 0).bind fun y2=>(gb n y2.1 y2.2.1 y2.2.2).bind fun y3=>(lS n d.1 d.2.1 d.2.2.1 d.2.2.2.1 d.2.2.2.2.1 ak.1 ak.2.1 ak.2.2.1 ak.2.2.2.1 ak.2.2.2.2.1 ak.2.2.2.2.2 y3).bind fun y4=>letI ag:=y4.2.2.2.2.2;cond l (some (e (i+1),true,y4.1,y4.2.1,y4.2.2.1,y4.2.2.2.1,y4.2.2.2.2.1,ag.1,ag.2.1,ag.2.2.1,ag.2.2.2.1,ag.2.2.2.2.1,ag.2.2.2.2.2,b.take a)) none) none) (cond w ((aM o 0).bind fun d=>(gb n d.1 d.2.1 d.2.2).bind fun y2=>(ai y2).bind fun y3=>letI ah:=y3.2.2.2.2.2;cond l (some (e (i+1),true,y3.1,y3.2.1,y3.2.2.1,y3.2.2.2.1,y3.2.2.2.2.1,ah.1,ah.2.1,ah.2.2.1,ah.2.2.2.1,ah.2.2.2.2.1,ah.2.2.2.2.2,b.take a)) none) none)) (cond (g==34) ((ai ([10]:O)).bind fun d=>letI al:=d.2.2.2.2.2;cond l (some (e (i+1),true,d.1,d.2.1,d.2.2.1,d.2.2.2.1,d.2.2.2.2.1,al.1,al.2.1,al.2.2.1,al.2.2.2.1,al.2.2.2.2.1,al.2.2.2.2.2,b.take a)) none) (cond (g==3) (cond l (c.bind fun d=>letI x:=d.2.2.2.2.2;letI ax:=x.2.2.2;some (e (i+1),true,d.1,d.2.1,d.2.2.1,d.2.2.2.1,d.2.2.2.2.1,x.1,x.2.1,x.2.2.1,ax.1,ax.2.1,ax.2.2.1,ax.2.2.2)) none) (cond (g==4) (cond l (c.bind fun d=>letI y:=d.2.2.2.2.2;letI ay:=y.2.2.2;some (e (i+1),true,d.1,d.2.1,d.2.2.1,d.2.2.2.1,d.2.2.2.2.1,y.1,y.2.1,y.2.2.1,ay.1,ay.2.1,ay.2.2.1,ay.2.2.2)) none) (cond (g==5) (cond l (c.bind fun d=>letI aa:=d.2.2.2.2.2;letI ap:=aa.2.2.2;some (e (i+1),true,d.1,d.2.1,d.2.2.1,d.2.2.2.1,d.2.2.2.2.1,aa.1,aa.2.1,aa.2.2.1,ap.1,ap.2.1,ap.2.2.1,ap.2.2.2)) none) (cond (g==6) (cond l (c.bind fun d=>letI ab:=d.2.2.2.2.2;letI aq:=ab.2.2.2;some (e (i+1),true,d.1,d.2.1,d.2.2.1,d.2.2.2.1,d.2.2.2.2.1,ab.1,ab.2.1,ab.2.2.1,aq.1,aq.2.1,aq.2.2.1,aq.2.2.2)) none) (cond (g==7) (cond l (c.bind fun d=>letI ac:=d.2.2.2.2.2;letI ar:=ac.2.2.2;some (e (i+1),true,d.1,d.2.1,d.2.2.1,d.2.2.2.1,d.2.2.2.2.1,ac.1,ac.2.1,ac.2.2.1,ar.1,ar.2.1,ar.2.2.1,ar.2.2.2)) none) (cond (g==8) (cond l (c.bind fun d=>letI ad:=d.2.2.2.2.2;letI au:=ad.2.2.2;some (e (i+1),true,d.1,d.2.1,d.2.2.1,d.2.2.2.1,d.2.2.2.2.1,ad.1,ad.2.1,ad.2.2.1,au.1,au.2.1,au.2.2.1,au.2.2.2)) none) (cond (g==35) (cond l (c.bind fun d=>letI ae:=d.2.2.2.2.2;letI av:=ae.2.2.2;some (e (i+1),true,d.1,d.2.1,d.2.2.1,d.2.2.2.1,d.2.2.2.2.1,ae.1,ae.2.1,ae.2.2.1,av.1,av.2.1,av.2.2.1,av.2.2.2)) none) (cond l ((zt n m p q r s t u z x8 x9 h (b.take a) g j k o).bind fun d=>letI af:=d.2.2.2.2.2;letI aw:=af.2.2.2;some (e (i+1),true,d.1,d.2.1,d.2.2.1,d.2.2.2.1,d.2.2.2.2.1,af.1,af.2.1,af.2.2.1,aw.1,aw.2.1,aw.2.2.1,aw.2.2.2)) none)))))))))))))) none) none) none):=by kernel_rfl
theorem aqC (n b d f):zn (n+1) b d f=cond (b==1) (some (0:Int)) (cond (b==2) (some (0:Int)) (cond (b==3) (some (0:Int)) (cond (b==10) (some (0:Int)) (cond (b==11) (some (0:Int)) (cond (b==25) (some (0:Int)) (cond (b==30) (some (0:Int)) (cond (b==34) (some (0:Int)) (cond (b==36) (some (0:Int)) (cond (b==7) (some (2:Int)) (cond (b==8) (some (2:Int)) (cond (b==29) (some d) ((cj n b 12 23).bind fun g=>cond g (some (2:Int)) (some (1:Int)))))))))))))):=by kernel_rfl
theorem aqD (n b d f):vo (n+1) b d f=cond (b==1) (some (d !=0)) (cond (b==3) (some (d !=0)) (cond (b==2) (some (!(f==([]:O)))) (some false))):=by kernel_rfl
theorem aqE (n h i j k m p q r g s f d):lS (n+1) h i j k m p q r g s f d=cond (decide (600<(wrap .i64 ((g.length:Int)+(d.length:Int))))) ((ia n h i j k m p q r g s f 5).bind fun b=>letI a:=b.2.2.2.2.2;some (b.1,b.2.1,b.2.2.1,b.2.2.2.1,b.2.2.2.2.1,a.1,a.2.1,a.2.2.1,a.2.2.2.1,a.2.2.2.2.1,a.2.2.2.2.2)) (cond (Nat.ble (g.length+d.length) mx) (some (h,i,j,k,m,p,q,r,g++d,s,f)) none):=by kernel_rfl
theorem aqF (n b d f):gb (n+1) b d f=cond (b==1) ((Gh n d).bind fun g=>some g) (some f):=by kernel_rfl
theorem Qx (n b):Gh (n+1) b=letI k:=wrap .i64;(iH n b).bind fun h=>cond (!h) (some ([]:O)) ((vr n b).bind fun f=>letI c:=Int.tmod f (1000000:Int);(zp n (k (Int.tdiv f (1000000:Int)))).bind fun d=>cond (decide (0<c)) ((zp n (k (1000000+c))).bind fun g=>cond (decide ((0:Int)≤1∧(1:Int)≤(g.length:Int))) ((zo n n ((g.drop 1).take (g.length-1)) b d).bind fun i=>ay i (fun z5=>letI a:=z5.2.2++([46]:O);letI e:=a++z5.2.1;cond (Nat.ble (z5.2.2.length+1) mx) (cond (Nat.ble (a.length+z5.2.1.length) mx) (cond (decide (z5.1<0)) (cond (Nat.ble (1+e.length) mx) (some (([45]:O)++e)) none) (some e)) none) none) (fun j=>some j)) none) (cond (decide (b<0)) (cond (Nat.ble (1+d.length) mx) (some (([45]:O)++d)) none) (some d))):=by kernel_rfl
theorem aqG (n m b d f):zo n (m+1) b d f=letI a:=wrap .i64 ((b.length:Int)-1);(bE b a).bind fun g=>cond (((g).toNat:Int)==48) (cond (decide (0≤a∧a≤(b.length:Int))) (zo n m (b.take ((Int.toNat a)-0)) d f) none) (some (Sum.inl (d,b,f))):=by kernel_rfl
theorem aqH (n b):vr (n+1) b=cond (decide (b<0)) (some (wrap .i64 (0-b))) (some b):=by kernel_rfl
theorem aqI (n b):zp (n+1) b=cond (decide (b≤0)) (some ([48]:O)) ((zq n n b ([]:O)).bind fun d=>ay d (fun f=>some f) (fun g=>some g)):=by kernel_rfl
theorem Qy (n m b d):zq n (m+1) b d=letI a:=wrap .i64;cond (decide (0<b)) (cond (Nat.ble (1+d.length) mx) (zq n m (a (Int.tdiv b (10:Int))) ([UInt8.ofNat (Int.toNat (wrap .u8 (a (48+(Int.tmod b (10:Int))))))]++d)) none) (some (Sum.inl d)):=by kernel_rfl
theorem qG (n q t u z x4 x5 x6 x7 x8 x9 p k r d aj m):lT (n+1) q t u z x4 x5 x6 x7 x8 x9 p k r d aj m=letI ah:=vu n q t u z x4 x5 x6 x7 x8 x9 p 0;letI ag:=ei n q t u z x4 x5 x6 x7 x8 x9 p k;letI ab:=Int.toNat d;letI ap:=aM q ab;letI l:=decide (0≤d∧d<(q.length:Int));letI e:=ax m (0:Int);cond (r==3) (cond l (ap.bind fun h=>(ag h.1 h.2.1 h.2.2).bind fun i=>letI o:=i.2.2.2.2.2;letI ak:=o.2.2.2;some (i.1,i.2.1,i.2.2.1,i.2.2.2.1,i.2.2.2.2.1,o.1,o.2.1,o.2.2.1,ak.1,ak.2.1,ak.2.2.1,ak.2.2.2)) none) (cond (r==4) (e.bind fun h=>cond l (ap.bind fun _=>e.bind fun j=>(ei n (q.set ab (h.1,h.2.1,h.2.2)) t u z x4 x5 x6 x7 x8 x9 p k j.1 j.2.1 j.2.2).bind fun b=>letI v:=b.2.2.2.2.2;letI al:=v.2.2.2;some (b.1,b.2.1,b.2.2.1,b.2.2.2.1,b.2.2.2.2.1,v.1,v.2.1,v.2.2.1,al.1,al.2.1,al.2.2.1,al.2.2.2)) none) (cond (r==5) (cond l (ap.bind fun h=>(gM n h.1 h.2.1 h.2.2).bind fun i=>e.bind fun j=>(gM n j.1 j.2.1 j.2.2).bind fun b=>(ah i b).bind fun g=>letI ae:=g.2.2.2;letI a:=ae.2.2.2;letI ac:=a.2.2.2.2;cond (a.1==0) (cond (decide (0≤d∧d<(g.2.2.2.1.length:Int))) ((aM ae.1 ab).bind fun _=>(ei n (g.2.2.2.1.set ab (g.1,g.2.1,g.2.2.1)) ae.2.1 ae.2.2.1 a.1 a.2.1 a.2.2.1 a.2.2.2.1 ac.1 ac.2.1 ac.2.2.1 ac.2.2.2 k g.1 g.2.1 g.2.2.1).bind fun f=>letI w:=f.2.2.2.2.2;letI am:=w.2.2.2;some (f.1,f.2.1,f.2.2.1,f.2.2.2.1,f.2.2.2.2.1,w.1,w.2.1,w.2.2.1,am.1,am.2.1,am.2.2.1,am.2.2.2)) none) (some (ae.1,ae.2.1,ae.2.2.1,a.1,a.2.1,a.2.2.1,a.2.2.2.1,ac.1,ac.2.1,ac.2.2.1,ac.2.2.2,k))) none) (cond (r==6) (e.bind fun h=>(sa n h.1 h.2.1 h.2.2).bind fun i=>(zr n q t u z d i).bind fun j=>(ag j.1 j.2.1 j.2.2).bind fun b=>letI x:=b.2.2.2.2.2;letI an:=x.2.2.2;some (b.1,b.2.1,b.2.2.1,b.2.2.2.1,b.2.2.2.2.1,x.1,x.2.1,x.2.2.1,an.1,an.2.1,an.2.2.1,an.2.2.2)) (cond (r==7) (e.bind fun h=>(sa n h.1 h.2.1 h.2.2).bind fun i=>(ax m (1:Int)).bind fun j=>(vv n q t u z x4 x5 x6 x7 x8 x9 p k d i j.1 j.2.1 j.2.2).bind fun b=>letI y:=b.2.2.2.2.2;letI ao:=y.2.2.2;some (b.1,b.2.1,b.2.2.1,b.2.2.2.1,b.2.2.2.2.1,y.1,y.2.1,y.2.2.1,ao.1,ao.2.1,ao.2.2.1,ao.2.2.2)) (cond (r==8) (e.bind fun h=>(sa n h.1 h.2.1 h.2.2).bind fun i=>(zr n q t u z d i).bind fun j=>(gM n j.1 j.2.1 j.2.2).bind fun b=>(ax m (1:Int)).bind fun g=>(gM n g.1 g.2.1 g.2.2).bind fun y5=>(ah b y5).bind fun f=>letI af:=f.2.2.2;letI c:=af.2.2.2;letI ad:=c.2.2.2.2;cond (c.1==0) ((vv n af.1 af.2.1 af.2.2.1 c.1 c.2.1 c.2.2.1 c.2.2.2.1 ad.1 ad.2.1 ad.2.2.1 ad.2.2.2 k d i f.1 f.2.1 f.2.2.1).bind fun s=>letI aa:=s.2.2.2.2.2;letI ai:=aa.2.2.2;some (s.1,s.2.1,s.2.2.1,s.2.2.2.1,s.2.2.2.2.1,aa.1,aa.2.1,aa.2.2.1,ai.1,ai.2.1,ai.2.2.1,ai.2.2.2)) (some (af.1,af.2.1,af.2.2.1,c.1,c.2.1,c.2.2.1,c.2.2.2.1,ad.1,ad.2.1,ad.2.2.1,ad.2.2.2,k))) (cond (r==35) (e.bind fun h=>(sa n h.1 h.2.1 h.2.2).bind fun i=>(Gn n q t u z d i).bind fun j=>some (j.1,j.2.1,j.2.2.1,j.2.2.2,x4,x5,x6,x7,x8,x9,p,k)) (some (q,t,u,z,x4,x5,x6,x7,x8,x9,p,k)))))))):=by kernel_rfl
theorem aqJ (n j k m p q r s t u z f b g h i):ei (n+1) j k m p q r s t u z f b g h i=cond ((b.length:Int)==64) ((ia n j k m p q r s t u z f 7).bind fun d=>letI a:=d.2.2.2.2.2;some (d.1,d.2.1,d.2.2.1,d.2.2.2.1,d.2.2.2.2.1,a.1,a.2.1,a.2.2.1,a.2.2.2.1,a.2.2.2.2.1,a.2.2.2.2.2,b)) (cond (Nat.ble (b.length+1) big) (some (j,k,m,p,q,r,s,t,u,z,f,b++[(g,h,i)])) none):=by kernel_rfl
theorem aqK (n b d f):gM (n+1) b d f=cond (b==1) (some d) (cond (b==3) (some d) (cond (b==2) ((zh n f).bind fun g=>some g.1) (some (0:Int)))):=by kernel_rfl
theorem sG (n j k m p q r s t u z f ad i g):vu (n+1) j k m p q r s t u z f ad i g=letI a:=ia n j k m p q r s t u z f;cond (ad==0) ((Gi n i g).bind fun d=>cond (!d.2) ((a 1).bind fun b=>letI c:=b.2.2.2.2.2;(gf n d.1).bind fun h=>some (h.1,h.2.1,h.2.2,b.1,b.2.1,b.2.2.1,b.2.2.2.1,b.2.2.2.2.1,c.1,c.2.1,c.2.2.1,c.2.2.2.1,c.2.2.2.2.1,c.2.2.2.2.2)) ((gf n d.1).bind fun b=>some (b.1,b.2.1,b.2.2,j,k,m,p,q,r,s,t,u,z,f))) (cond (ad==1) ((Gj n i g).bind fun d=>cond (!d.2) ((a 1).bind fun b=>letI e:=b.2.2.2.2.2;(gf n d.1).bind fun h=>some (h.1,h.2.1,h.2.2,b.1,b.2.1,b.2.2.1,b.2.2.2.1,b.2.2.2.2.1,e.1,e.2.1,e.2.2.1,e.2.2.2.1,e.2.2.2.2.1,e.2.2.2.2.2)) ((gf n d.1).bind fun b=>some (b.1,b.2.1,b.2.2,j,k,m,p,q,r,s,t,u,z,f))) (cond (ad==2) ((Gk n i g).bind fun d=>cond (!d.2) ((a 1).bind fun b=>letI l:=b.2.2.2.2.2;(gf n d.1).bind fun h=>some (h.1,h.2.1,h.2.2,b.1,b.2.1,b.2.2.1,b.2.2.2.1,b.2.2.2.2.1,l.1,l.2.1,l.2.2.1,l.2.2.2.1,l.2.2.2.2.1,l.2.2.2.2.2)) ((gf n d.1).bind fun b=>some (b.1,b.2.1,b.2.2,j,k,m,p,q,r,s,t,u,z,f))) (cond (g==0) ((a 2).bind fun d=>letI o:=d.2.2.2.2.2;some ((0:Int),(0:Int),([]:O),d.1,d.2.1,d.2.2.1,d.2.2.2.1,d.2.2.2.2.1,o.1,o.2.1,o.2.2.1,o.2.2.2.1,o.2.2.2.2.1,o.2.2.2.2.2)) ((Gl n i g).bind fun d=>cond (ad==4) (cond (g !=0) ((gf n (Int.tmod i g)).bind fun b=>some (b.1,b.2.1,b.2.2,j,k,m,p,q,r,s,t,u,z,f)) none) (cond (!d.2) ((a 1).bind fun b=>letI v:=b.2.2.2.2.2;(gf n d.1).bind fun h=>some (h.1,h.2.1,h.2.2,b.1,b.2.1,b.2.2.1,b.2.2.2.1,b.2.2.2.2.1,v.1,v.2.1,v.2.2.1,v.2.2.2.1,v.2.2.2.2.1,v.2.2.2.2.2)) ((gf n d.1).bind fun b=>some (b.1,b.2.1,b.2.2,j,k,m,p,q,r,s,t,u,z,f))))))):=by kernel_rfl
theorem aqL (n d f):Gi (n+1) d f=((iH n d).bind fun h=>cond (!h) (some true) ((iH n f).bind fun i=>some (!i))).bind fun g=>cond g (some ((0:Int),false)) ((mX n (wrap .i64 (d+f))).bind fun b=>some (b.1,b.2)):=by kernel_rfl
theorem aqM (n b):mX (n+1) b=(iH n b).bind fun d=>cond (!d) (some ((0:Int),false)) (some (b,true)):=by kernel_rfl
theorem aqN (n b):gf (n+1) b=some ((1:Int),b,([]:O)):=by kernel_rfl
theorem aqO (n d f):Gj (n+1) d f=((iH n d).bind fun h=>cond (!h) (some true) ((iH n f).bind fun i=>some (!i))).bind fun g=>cond g (some ((0:Int),false)) ((mX n (wrap .i64 (d-f))).bind fun b=>some (b.1,b.2)):=by kernel_rfl
theorem IM (n g h):Gk (n+1) g h=letI l:=((0:Int),false);letI a:=wrap .i64;((iH n g).bind fun k=>cond (!k) (some true) ((iH n h).bind fun m=>some (!m))).bind fun i=>cond i (some l) ((vr n g).bind fun d=>letI e:=a (Int.tdiv d (1000000:Int));(vr n h).bind fun b=>letI c:=a ((a (e*b))+(a (Int.tdiv (a ((Int.tmod d (1000000:Int))*b)) (1000000:Int))));(cond (decide (0<b)) (cond (b !=0) (some (decide ((a (Int.tdiv (9000000000000:Int) b))<e))) none) (some false)).bind fun j=>cond j (some l) (cond (!((decide (g<0))==(decide (h<0)))) ((mX n (a (0-c))).bind fun f=>some (f.1,f.2)) ((mX n c).bind fun f=>some (f.1,f.2)))):=by kernel_rfl
theorem aqP (n f b):Gl (n+1) f b=letI a:=wrap .i64;((iH n f).bind fun h=>cond (!h) (some true) ((iH n b).bind fun i=>cond (!i) (some true) (some (b==0)))).bind fun g=>cond g (some ((0:Int),false)) (cond (b !=0) ((mX n (a (Int.tdiv (a (f*1000000)) b))).bind fun d=>some (d.1,d.2)) none):=by kernel_rfl
theorem aqQ (n d f g):sa (n+1) d f g=(gb n d f g).bind fun b=>cond (decide (300<(b.length:Int))) (cond (decide ((0:Int)≤300∧(300:Int)≤(b.length:Int))) (some (b.take (300-0))) none) (some b):=by kernel_rfl
theorem aqR (n f b g h i j):zr (n+1) f b g h i j=(mY n f b g h i j).bind fun k=>cond (decide (k<0)) (some ((0:Int),(0:Int),([]:O))) ((ax b k).bind fun d=>some (d.2.2.1,d.2.2.2.1,d.2.2.2.2)):=by kernel_rfl
theorem aqS (n b d f g h i):mY (n+1) b d f g h i=(sb n n b d f g 0 i h).bind fun j=>ay j (fun _=>some (-1:Int)) (fun k=>some k):=by kernel_rfl
theorem Qz (n m h d i j b f g):sb n (m+1) h d i j b f g=letI a:=sb n m h d i j (wrap .i64 (b+1)) f g;cond (decide (b<(d.length:Int))) ((ax d b).bind fun k=>cond (k.1==g) ((ax d b).bind fun p=>cond (p.2.1==f) (some (Sum.inr b)) a) a) (some (Sum.inl ())):=by kernel_rfl
theorem QA (n p q r s t u z x7 x8 x9 d f j k g h i):vv (n+1) p q r s t u z x7 x8 x9 d f j k g h i=(Gm n p q r s j k g h i).bind fun m=>cond (!m.2.2.2.2) ((ia n p q r s t u z x7 x8 x9 d 4).bind fun b=>letI c:=b.2.2.2.2.2;some (b.1,b.2.1,b.2.2.1,b.2.2.2.1,b.2.2.2.2.1,c.1,c.2.1,c.2.2.1,c.2.2.2.1,c.2.2.2.2.1,c.2.2.2.2.2,f)) ((ei n m.1 m.2.1 m.2.2.1 m.2.2.2.1 t u z x7 x8 x9 d f g h i).bind fun b=>letI a:=b.2.2.2.2.2;letI e:=a.2.2.2;some (b.1,b.2.1,b.2.2.1,b.2.2.2.1,b.2.2.2.2.1,a.1,a.2.1,a.2.2.1,e.1,e.2.1,e.2.2.1,e.2.2.2)):=by kernel_rfl
theorem QB (n g d h i k m p q r):Gm (n+1) g d h i k m p q r=(oH n g d h i).bind fun b=>letI v:=b.2.2;(mY n g d h i k m).bind fun f=>letI x:=Int.toNat f;cond (decide (0≤f)) (cond (decide (0≤f∧f<(b.2.1.length:Int))) ((aM b.2.1 x).bind fun j=>some (b.1,b.2.1.set x (j.1,j.2.1,p,q,r),v.1,v.2,true)) none) (cond (decide (40≤(d.length:Int))) (some (b.1,b.2.1,v.1,v.2,false)) ((vx n n 0 0 b.1 b.2.1 v.1 v.2 g d h i p q r 0 m k).bind fun j=>ay j (fun z3=>letI w:=z3.2.2.2.2;letI a:=w.2.2.2.2.2.2;letI u:=a.2.2.2;letI t:=Int.toNat u.1;letI l:=decide (0≤u.1∧u.1≤(z3.2.2.2.2.2.2.2.1.length:Int));letI e:=(z3.2.2.2.2.2.2.2.1.drop t).take (z3.2.2.2.2.2.2.2.1.length-t);letI c:=(z3.2.2.2.2.2.2.2.1.drop 0).take (t-0);letI o:=c++[(u.2.2,u.2.1,a.1,a.2.1,a.2.2.1)];cond l (cond (Nat.ble (0+c.length) big) (cond (Nat.ble (c.length+1) big) (cond l (cond (Nat.ble (o.length+e.length) big) (some (z3.2.2.1,o++e,w.1,w.2.1,true)) none) none) none) none) none) (fun s=>some s))):=by kernel_rfl
theorem QC (n m p q r s t u z j x8 x9 g h i b d f):vx n (m+1) p q r s t u z j x8 x9 g h i b d f=letI a:=(p,q,r,s,t,u,z,j,x8,x9,g,h,i,b,d,f);cond (decide (b<(j.length:Int))) ((ax j b).bind fun k=>(zi n k.1 k.2.1 k.2.2.1 k.2.2.2.1 k.2.2.2.2 f d).bind fun y1=>cond y1 (vx n m p q r s t u z j x8 x9 g h i (wrap .i64 (b+1)) d f) (some (Sum.inl a))) (some (Sum.inl a)):=by kernel_rfl
theorem QD (n g b h i j k):Gn (n+1) g b h i j k=(oH n g b h i).bind fun f=>(mY n g b h i j k).bind fun d=>letI c:=(b.drop 0).take ((Int.toNat d)-0);letI a:=wrap .i64 (d+1);letI l:=Int.toNat a;letI e:=(b.drop l).take (b.length-l);cond (decide (0≤d)) (cond (decide (0≤d∧d≤(b.length:Int))) (cond (Nat.ble (0+c.length) big) (cond (decide (0≤a∧a≤(b.length:Int))) (cond (Nat.ble (c.length+e.length) big) (some (f.1,c++e,f.2.2.1,f.2.2.2)) none) none) none) none) (some (f.1,f.2.1,f.2.2.1,f.2.2.2)):=by kernel_rfl
theorem jj (n r s m j t u p q z x9 i g k ai ag ae):zt (n+1) r s m j t u p q z x9 i g k ai ag ae=letI bc:=ax ae (1:Int);letI y:=wrap .i64;letI w:=ax ae (0:Int);letI c:=(r,s,m,j,t,u,p,q,z,x9,i,g);letI a:=ei n r s m j t u p q z x9 i g;cond (k==1) ((gf n ai).bind fun d=>cond (j==0) ((a d.1 d.2.1 d.2.2).bind fun b=>letI aa:=b.2.2.2.2.2;letI bd:=aa.2.2.2;some (b.1,b.2.1,b.2.2.1,b.2.2.2.1,b.2.2.2.2.1,aa.1,aa.2.1,aa.2.2.1,bd.1,bd.2.1,bd.2.2.1,bd.2.2.2)) (some c)) (cond (k==2) (cond (decide (300<(ag.length:Int))) ((ia n r s m j t u p q z x9 i 3).bind fun d=>letI ba:=d.2.2.2;letI v:=ba.2.2;letI bb:=v.2.2.2;cond (ba.1==0) ((ei n d.1 d.2.1 d.2.2.1 ba.1 ba.2.1 v.1 v.2.1 v.2.2.1 bb.1 bb.2.1 bb.2.2 g 2 0 ag).bind fun b=>letI ab:=b.2.2.2.2.2;letI be:=ab.2.2.2;some (b.1,b.2.1,b.2.2.1,b.2.2.2.1,b.2.2.2.2.1,ab.1,ab.2.1,ab.2.2.1,be.1,be.2.1,be.2.2.1,be.2.2.2)) (some (d.1,d.2.1,d.2.2.1,ba.1,ba.2.1,v.1,v.2.1,v.2.2.1,bb.1,bb.2.1,bb.2.2,g))) (cond (j==0) ((a 2 0 ag).bind fun d=>letI ac:=d.2.2.2.2.2;letI bf:=ac.2.2.2;some (d.1,d.2.1,d.2.2.1,d.2.2.2.1,d.2.2.2.2.1,ac.1,ac.2.1,ac.2.2.1,bf.1,bf.2.1,bf.2.2.1,bf.2.2.2)) (some c))) (cond (k==9) (w.bind fun d=>(Gp n r s m j t u p q z x9 i d.1 d.2.1 d.2.2).bind fun b=>letI ay:=b.2.2.2;letI l:=ay.2.2.2;letI ar:=l.2.2.2.2;cond (l.1==0) ((ei n ay.1 ay.2.1 ay.2.2.1 l.1 l.2.1 l.2.2.1 l.2.2.2.1 ar.1 ar.2.1 ar.2.2.1 ar.2.2.2 g b.1 b.2.1 b.2.2.1).bind fun h=>letI ad:=h.2.2.2.2.2;letI bg:=ad.2.2.2;some (h.1,h.2.1,h.2.2.1,h.2.2.2.1,h.2.2.2.2.1,ad.1,ad.2.1,ad.2.2.1,bg.1,bg.2.1,bg.2.2.1,bg.2.2.2)) (some (ay.1,ay.2.1,ay.2.2.1,l.1,l.2.1,l.2.2.1,l.2.2.2.1,ar.1,ar.2.1,ar.2.2.1,ar.2.2.2,g))) (cond (k==10) ((gf n (y (1000000*m))).bind fun d=>cond (j==0) ((a d.1 d.2.1 d.2.2).bind fun b=>letI af:=b.2.2.2.2.2;letI bh:=af.2.2.2;some (b.1,b.2.1,b.2.2.1,b.2.2.2.1,b.2.2.2.2.1,af.1,af.2.1,af.2.2.1,bh.1,bh.2.1,bh.2.2.1,bh.2.2.2)) (some c)) (cond (k==11) ((gf n (y (1000000*(q.length:Int)))).bind fun d=>cond (j==0) ((a d.1 d.2.1 d.2.2).bind fun b=>letI ah:=b.2.2.2.2.2;letI bi:=ah.2.2.2;some (b.1,b.2.1,b.2.2.1,b.2.2.2.1,b.2.2.2.2.1,ah.1,ah.2.1,ah.2.2.1,bi.1,bi.2.1,bi.2.2.1,bi.2.2.2)) (some c)) (cond (k==17) (w.bind fun d=>bc.bind fun b=>(Gq n r s m j t u p q z x9 i d.1 d.2.1 d.2.2 b.1 b.2.1 b.2.2).bind fun h=>letI az:=h.2.2.2;letI o:=az.2.2.2;letI au:=o.2.2.2.2;cond (o.1==0) ((ei n az.1 az.2.1 az.2.2.1 o.1 o.2.1 o.2.2.1 o.2.2.2.1 au.1 au.2.1 au.2.2.1 au.2.2.2 g h.1 h.2.1 h.2.2.1).bind fun f=>letI aj:=f.2.2.2.2.2;letI bj:=aj.2.2.2;some (f.1,f.2.1,f.2.2.1,f.2.2.2.1,f.2.2.2.2.1,aj.1,aj.2.1,aj.2.2.1,bj.1,bj.2.1,bj.2.2.1,bj.2.2.2)) (some (az.1,az.2.1,az.2.2.1,o.1,o.2.1,o.2.2.1,o.2.2.2.1,au.1,au.2.1,au.2.2.1,au.2.2.2,g))) (cond (k==24) (w.bind fun d=>(gb n d.1 d.2.1 d.2.2).bind fun b=>(vz n ag b).bind fun h=>cond (j==0) ((a h.1 h.2.1 h.2.2).bind fun f=>letI ak:=f.2.2.2.2.2;letI bk:=ak.2.2.2;some (f.1,f.2.1,f.2.2.1,f.2.2.2.1,f.2.2.2.2.1,ak.1,ak.2.1,ak.2.2.1,bk.1,bk.2.1,bk.2.2.1,bk.2.2.2)) (some c)) (cond (k==25) ((vz n ag p).bind fun d=>cond (j==0) ((a d.1 d.2.1 d.2.2).bind fun b=>letI al:=b.2.2.2.2.2;letI bl:=al.2.2.2;some (b.1,b.2.1,b.2.2.1,b.2.2.2.1,b.2.2.2.2.1,al.1,al.2.1,al.2.2.1,bl.1,bl.2.1,bl.2.2.1,bl.2.2.2)) (some c)) (cond (k==26) (w.bind fun d=>(vo n d.1 d.2.1 d.2.2).bind fun b=>(sg n (!b)).bind fun h=>cond (j==0) ((a h.1 h.2.1 h.2.2).bind fun f=>letI am:=f.2.2.2.2.2;letI bm:=am.2.2.2;some (f.1,f.2.1,f.2.2.1,f.2.2.2.1,f.2.2.2.2.1,am.1,am.2.1,am.2.2.1,bm.1,bm.2.1,bm.2.2.1,bm.2.2.2)) (some c)) (cond (k==27) (w.bind fun d=>(gM n d.1 d.2.1 d.2.2).bind fun b=>(gf n (y (0-b))).bind fun h=>cond (j==0) ((a h.1 h.2.1 h.2.2).bind fun f=>letI an:=f.2.2.2.2.2;letI bn:=an.2.2.2;some (f.1,f.2.1,f.2.2.1,f.2.2.2.1,f.2.2.2.2.1,an.1,an.2.1,an.2.2.1,bn.1,bn.2.1,bn.2.2.1,bn.2.2.2)) (some c)) (cond (k==28) (w.bind fun d=>(vo n d.1 d.2.1 d.2.2).bind fun b=>(sg n b).bind fun h=>cond (j==0) ((a h.1 h.2.1 h.2.2).bind fun f=>letI ao:=f.2.2.2.2.2;letI bo:=ao.2.2.2;some (f.1,f.2.1,f.2.2.1,f.2.2.2.1,f.2.2.2.2.1,ao.1,ao.2.1,ao.2.2.1,bo.1,bo.2.1,bo.2.2.1,bo.2.2.2)) (some c)) (cond (k==29) ((GC n ag ae).bind fun d=>cond (j==0) ((a d.1 d.2.1 d.2.2).bind fun b=>letI ap:=b.2.2.2.2.2;letI bp:=ap.2.2.2;some (b.1,b.2.1,b.2.2.1,b.2.2.2.1,b.2.2.2.2.1,ap.1,ap.2.1,ap.2.2.1,bp.1,bp.2.1,bp.2.2.1,bp.2.2.2)) (some c)) (cond (decide (k≤16)) (w.bind fun d=>(gM n d.1 d.2.1 d.2.2).bind fun b=>bc.bind fun h=>(gM n h.1 h.2.1 h.2.2).bind fun f=>(vu n r s m j t u p q z x9 i (y (k-12)) b f).bind fun y4=>letI aw:=y4.2.2.2;letI e:=aw.2.2.2;letI av:=e.2.2.2.2;cond (e.1==0) ((ei n aw.1 aw.2.1 aw.2.2.1 e.1 e.2.1 e.2.2.1 e.2.2.2.1 av.1 av.2.1 av.2.2.1 av.2.2.2 g y4.1 y4.2.1 y4.2.2.1).bind fun y5=>letI x:=y5.2.2.2.2.2;letI br:=x.2.2.2;some (y5.1,y5.2.1,y5.2.2.1,y5.2.2.2.1,y5.2.2.2.2.1,x.1,x.2.1,x.2.2.1,br.1,br.2.1,br.2.2.1,br.2.2.2)) (some (aw.1,aw.2.1,aw.2.2.1,e.1,e.2.1,e.2.2.1,e.2.2.2.1,av.1,av.2.1,av.2.2.1,av.2.2.2,g))) (w.bind fun d=>bc.bind fun b=>(GH n (y (k-18)) d.1 d.2.1 d.2.2 b.1 b.2.1 b.2.2).bind fun h=>cond (j==0) ((a h.1 h.2.1 h.2.2).bind fun f=>letI aq:=f.2.2.2.2.2;letI bq:=aq.2.2.2;some (f.1,f.2.1,f.2.2.1,f.2.2.2.1,f.2.2.2.2.1,aq.1,aq.2.1,aq.2.2.1,bq.1,bq.2.1,bq.2.2.1,bq.2.2.2)) (some c)))))))))))))):=by kernel_rfl
theorem QE (n p q r s t u f d z x9 b g h i):Gp (n+1) p q r s t u f d z x9 b g h i=letI e:=wrap .i64;(gM n g h i).bind fun j=>letI a:=e (Int.tdiv j (1000000:Int));letI c:=e (a-1);cond (a==0) ((vy n f).bind fun k=>some (k.1,k.2.1,k.2.2,p,q,r,s,t,u,f,d,z,x9,b)) ((cj n a (1:Int) (d.length:Int)).bind fun k=>cond (!k) ((vy n ([]:O)).bind fun m=>some (m.1,m.2.1,m.2.2,p,q,r,s,t,u,f,d,z,x9,b)) (cond (decide (0≤c∧c<(d.length:Int))) ((aM d (Int.toNat c)).bind fun m=>(vy n m).bind fun y3=>some (y3.1,y3.2.1,y3.2.2,p,q,r,s,t,u,f,d,z,x9,b)) none)):=by kernel_rfl
theorem aqT (n b):vy (n+1) b=cond (decide (300<(b.length:Int))) (cond (decide ((0:Int)≤300∧(300:Int)≤(b.length:Int))) ((vi n (b.take (300-0))).bind fun d=>cond d.2 (some ((3:Int),d.1,b.take (300-0))) (some ((2:Int),(0:Int),b.take (300-0)))) none) ((vi n b).bind fun d=>cond d.2 (some ((3:Int),d.1,b)) (some ((2:Int),(0:Int),b))):=by kernel_rfl
theorem aqU (n m p q r s t u z x8 x9 d f g h i j k):Gq (n+1) m p q r s t u z x8 x9 d f g h i j k=(gb n f g h).bind fun y0=>(gb n i j k).bind fun y1=>cond (Nat.ble (y0.length+y1.length) mx) (cond (decide (300<((y0++y1).length:Int))) ((ia n m p q r s t u z x8 x9 d 3).bind fun b=>letI a:=b.2.2.2.2.2;some ((0:Int),(0:Int),([]:O),b.1,b.2.1,b.2.2.1,b.2.2.2.1,b.2.2.2.2.1,a.1,a.2.1,a.2.2.1,a.2.2.2.1,a.2.2.2.2.1,a.2.2.2.2.2)) (some ((2:Int),(0:Int),y0++y1,m,p,q,r,s,t,u,z,x8,x9,d))) none:=by kernel_rfl
theorem aqV (n f g):vz (n+1) f g=(uR n f).bind fun b=>(Gr n b.1 b.2.1 b.2.2.1 b.2.2.2.1 b.2.2.2.2.1 g).bind fun h=>(sg n h).bind fun d=>some (d.1,d.2.1,d.2.2):=by kernel_rfl
theorem aqW (n b d f g h i):Gr (n+1) b d f g h i=(Gs n b d f g h).bind fun j=>(Gv n j i).bind fun k=>some k.2.2:=by kernel_rfl
theorem aqX (n b d f g h):Gs (n+1) b d f g h=(Gt n b d f g h).bind fun i=>cond (!i) (some ([]:bY)) ((lU n ([]:bY) b d f g h).bind fun j=>(lV n j 8).bind fun k=>some k):=by kernel_rfl
theorem aqY (n b d f g h):Gt (n+1) b d f g h=((uW n b d f g h).bind fun j=>cond (decide (j≤12)) ((vA n b d f g h).bind fun k=>some k) (some false)).bind fun i=>some i:=by kernel_rfl
theorem aqZ (n g h i j k):vA (n+1) g h i j k=(zu n n g h i j k 0).bind fun m=>ay m (fun b=>letI l:=b.2.1==0;letI e:=!b.2.2.2.1;letI c:=b.2.2.1==([]:O);letI a:=(b.2.2.2.2.length:Int);letI o:=decide (2≤a);cond (b.1==1) (((cj n b.2.1 0 255).bind fun f=>cond f (cond c (cond e (some (a==0)) (some false)) (some false)) (some false)).bind fun d=>some d) (cond (b.1==3) ((cond l (cond (! c) ((sd n b.2.2.1).bind fun f=>cond f (some (a==0)) (some false)) (some false)) (some false)).bind fun d=>some d) (cond (b.1==6) ((cond l (cond c (cond e (some o) (some false)) (some false)) (some false)).bind fun d=>some d) (cond (b.1==7) ((cond l (cond c (cond e (some o) (some false)) (some false)) (some false)).bind fun d=>some d) (cond (b.1==8) ((cond l (cond c (cond e (some (a==1)) (some false)) (some false)) (some false)).bind fun d=>some d) (cond (b.1==9) ((cond l (cond c (cond e (some (a==1)) (some false)) (some false)) (some false)).bind fun d=>some d) (cond (b.1==10) ((cond l (cond c (cond e (some (a==1)) (some false)) (some false)) (some false)).bind fun d=>some d) (((cj n b.1 2 11).bind fun f=>cond f (cond l (cond c (cond e (some (a==0)) (some false)) (some false)) (some false)) (some false)).bind fun d=>some d)))))))) (fun p=>some p):=by kernel_rfl
theorem arA (n m g h i j b f):zu n (m+1) g h i j b f=cond (decide (f<(b.length:Int))) ((fN b f).bind fun d=>(vA n d.1 d.2.1 d.2.2.1 d.2.2.2.1 d.2.2.2.2).bind fun k=>cond (!k) (some (Sum.inr false)) (zu n m g h i j b (wrap .i64 (f+1)))) (some (Sum.inl (g,h,i,j,b))):=by kernel_rfl
theorem arB (n b):sd (n+1) b=(zv n n 1 b).bind fun d=>ay d (fun _=>some true) (fun f=>some f):=by kernel_rfl
theorem arC (n m b d):zv n (m+1) b d=letI a:=wrap .i64;cond (decide (b<(d.length:Int))) ((bE d (a (b-1))).bind fun f=>(bE d b).bind fun g=>cond (decide (((g).toNat:Int)≤((f).toNat:Int))) (some (Sum.inr false)) (zv n m (a (b+1)) d)) (some (Sum.inl ())):=by kernel_rfl
theorem kW (n b i m p q k):lU (n+1) b i m p q k=letI w:=lV n b;letI v:=Nat.ble (b.length+1) big;letI u:=fN k (0:Int);letI t:=wrap .i64;letI c:=(b.length:Int);letI o:=Int.toNat c;cond (i==1) (cond v (some (b++[((1:Int),m,([]:O),false,(0:Int),(0:Int))])) none) (cond (i==2) ((w 2).bind fun f=>some f) (cond (i==3) (cond v (some (b++[((3:Int),(0:Int),p,q,(0:Int),(0:Int))])) none) (cond (i==4) ((w 4).bind fun f=>some f) (cond (i==5) ((w 5).bind fun f=>some f) (cond (i==6) ((zw n n i m p q k 0 b).bind fun f=>ay f (fun r=>some r) (fun s=>some s)) (cond (i==7) ((Gu n b k).bind fun f=>some f) (cond (i==8) ((w 7).bind fun f=>u.bind fun g=>(lU n f g.1 g.2.1 g.2.2.1 g.2.2.2.1 g.2.2.2.2).bind fun h=>letI l:=h++[((6:Int),(0:Int),([]:O),false,c,(0:Int))];cond (Nat.ble (h.length+1) big) (cond (decide (0≤c∧c<(l.length:Int))) ((aM l o).bind fun d=>letI a:=l.set o (d.1,d.2.1,d.2.2.1,d.2.2.2.1,t (c+1),d.2.2.2.2.2);cond (decide (0≤c∧c<(a.length:Int))) ((aM a o).bind fun j=>some (a.set o (j.1,j.2.1,j.2.2.1,j.2.2.2.1,j.2.2.2.2.1,(a.length:Int)))) none) none) none) (cond (i==9) (u.bind fun f=>(lU n b f.1 f.2.1 f.2.2.1 f.2.2.2.1 f.2.2.2.2).bind fun g=>cond (Nat.ble (g.length+1) big) (some (g++[((7:Int),(0:Int),([]:O),false,c,t ((g.length:Int)+1))])) none) (cond (i==10) ((w 7).bind fun f=>u.bind fun g=>(lU n f g.1 g.2.1 g.2.2.1 g.2.2.2.1 g.2.2.2.2).bind fun h=>cond (decide (0≤c∧c<(h.length:Int))) ((aM h o).bind fun d=>letI e:=h.set o (d.1,d.2.1,d.2.2.1,d.2.2.2.1,t (c+1),d.2.2.2.2.2);cond (decide (0≤c∧c<(e.length:Int))) ((aM e o).bind fun j=>some (e.set o (j.1,j.2.1,j.2.2.1,j.2.2.2.1,j.2.2.2.2.1,(e.length:Int)))) none) none) (some b)))))))))):=by kernel_rfl
theorem QF (n m h i j k d f g):zw n (m+1) h i j k d f g=cond (decide (f<(d.length:Int))) ((fN d f).bind fun b=>(lU n g b.1 b.2.1 b.2.2.1 b.2.2.2.1 b.2.2.2.2).bind fun p=>zw n m h i j k d (wrap .i64 (f+1)) p) (some (Sum.inl g)):=by kernel_rfl
theorem Bq (n b d):lV (n+1) b d=cond (Nat.ble (b.length+1) big) (some (b++[(d,(0:Int),([]:O),false,(0:Int),(0:Int))])) none:=by kernel_rfl
theorem arD (n f g):Gu (n+1) f g=(zx n n 0 ([]:ah) g f).bind fun h=>ay h (fun d=>(fN d.2.1 (wrap .i64 ((d.2.1.length:Int)-1))).bind fun b=>(lU n d.2.2 b.1 b.2.1 b.2.2.1 b.2.2.2.1 b.2.2.2.2).bind fun i=>(oJ n n 0 i d.1).bind fun j=>ay j (fun z4=>some z4) (fun k=>some k)) (fun m=>some m):=by kernel_rfl
theorem QG (n m j k g d):zx n (m+1) j k g d=letI l:=wrap .i64;letI c:=(d.length:Int);letI e:=Int.toNat c;cond (decide (j<(l ((g.length:Int)-1)))) ((lV n d 7).bind fun q=>(fN g j).bind fun h=>(lU n q h.1 h.2.1 h.2.2.1 h.2.2.2.1 h.2.2.2.2).bind fun p=>cond (Nat.ble (k.length+1) big) ((lV n p 6).bind fun f=>cond (decide (0≤c∧c<(f.length:Int))) ((aM f e).bind fun b=>letI a:=f.set e (b.1,b.2.1,b.2.2.1,b.2.2.2.1,l (c+1),b.2.2.2.2.2);cond (decide (0≤c∧c<(a.length:Int))) ((aM a e).bind fun i=>zx n m (l (j+1)) (k++[(p.length:Int)]) g (a.set e (i.1,i.2.1,i.2.2.1,i.2.2.2.1,i.2.2.2.2.1,(a.length:Int)))) none) none) none) (some (Sum.inl (k,g,d))):=by kernel_rfl
end
end Go.Proofs.YtfpfjmahdneehaaGreatDoor
